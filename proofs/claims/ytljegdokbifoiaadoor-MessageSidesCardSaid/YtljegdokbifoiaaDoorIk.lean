/- The kinds of identifiers and their classes. Short lists. -/
import Derived.Test.YtljegdokbifoiaaDoorIc
namespace Go.Proofs.YtljegdokbifoiaaDoor.Af
open Go.RowKit
set_option maxHeartbeats 4000000 in
set_option maxRecDepth 20000 in
theorem c67  (w : World) : Calls Tryd.prog 67 #[] w (fun e w' => ∃ b0 b1 b2 b3 : Nat, e = .returned (.agg #[.int .i64 12, .slice (some ⟨b0, 0, none⟩) 3 3, .int .i64 11, .func (.func 89) #[] #[], .int .i64 4, .slice (some ⟨b1, 0, none⟩) 2 2, .int .i64 0, .nilFunc, .int .i64 1, .slice (some ⟨b2, 0, none⟩) 1 1, .int .i64 0, .nilFunc, .int .i64 20, .slice (some ⟨b3, 0, none⟩) 2 2, .int .i64 18, .func (.func 91) #[] #[]]) ∧ Rd w' (some ⟨b0, 0, none⟩) (spanC sp0) ∧ Rd w' (some ⟨b1, 0, none⟩) (spanC sp1) ∧ Rd w' (some ⟨b2, 0, none⟩) (spanC sp2) ∧ Below w.heap.size w w') := by
  refine enter Tryd.func67 (by kernel_rfl) ?_ (by kernel_rfl)
  intro q0 h0
  replace h0 := h0.conv (l' := []) rfl
  have hB := Bx.refl w
  refine c_seq (by kernel_rfl) ?_
  refine reg_plain [(0, false)] (by kernel_rfl) (by kernel_rfl) ?_
  refine stA (i := 0) (d := 0) (op := Op.alloc 101) (ty := 0) (g := none) (mk := fun b => .pointer (some ⟨b, 0, none⟩)) (o := .cells #[.int .i64 0, .slice none 0 0, .int .i64 0, .nilFunc, .int .i64 0, .slice none 0 0, .int .i64 0, .nilFunc, .int .i64 0, .slice none 0 0, .int .i64 0, .nilFunc, .int .i64 0, .slice none 0 0, .int .i64 0, .nilFunc] 101 (0, 0)) h0 (by kernel_rfl) (by kernel_rfl) (by kernel_rfl) gok_none (fun _ => by kernel_rfl) hB (fun _ _ hq => trivial) (fun b3 w4 hB5 hN q1 h2 => ?_)
  clear h0 hB hN
  refine wpO_end ?_
  refine then_n ?_
  refine c_seq (by kernel_rfl) ?_
  refine reg_plain [(0, false), (1, false), (2, false), (3, false), (4, false), (5, false), (6, false), (7, false), (8, false), (9, false), (10, false), (11, false), (12, false), (13, false), (14, false), (15, false), (16, false), (17, false)] (by kernel_rfl) (by kernel_rfl) ?_
  refine eE 0 1 (.build 124 #[(0, .const (.int .i64 2)), (1, .func 86)]) 124 (.agg #[.int .i64 2, .func (.func 86) #[] #[]]) h2 fun q6 h7 => ?_
  clear h2
  refine eE 1 2 (.build 124 #[(0, .const (.int .i64 9)), (1, .func 87)]) 124 (.agg #[.int .i64 9, .func (.func 87) #[] #[]]) h7 fun q8 h9 => ?_
  clear h7
  refine eE 2 3 (.build 124 #[(0, .const (.int .i64 1)), (1, .func 88)]) 124 (.agg #[.int .i64 1, .func (.func 88) #[] #[]]) h9 fun q10 h11 => ?_
  clear h9
  refine stA (i := 3) (d := 4) (op := Op.buildSlice 97 3 #[(0, Operand.tmp 1), (1, Operand.tmp 2), (2, Operand.tmp 3)]) (ty := 97) (g := none) (mk := fun b => .slice (some ⟨b, 0, none⟩) 3 3) (o := .cells #[.int .i64 2, .func (.func 86) #[] #[], .int .i64 9, .func (.func 87) #[] #[], .int .i64 1, .func (.func 88) #[] #[]] 124 (0, 0)) h11 (by kernel_rfl) (by kernel_rfl) (by kernel_rfl) gok_none (fun _ => by kernel_rfl) hB5 (fun _ _ hq => trivial) (fun b14 w15 hB16 hN q12 h13 => ?_)
  clear h11 hB5 hN
  refine eE 4 5 (.build 100 #[(0, .const (.int .i64 12)), (1, .tmp 4), (2, .const (.int .i64 11)), (3, .func 89)]) 100 (.agg #[.int .i64 12, .slice (some ⟨b14, 0, none⟩) 3 3, .int .i64 11, .func (.func 89) #[] #[]]) h13 fun q17 h18 => ?_
  clear h13
  refine eE 5 6 (.build 124 #[(0, .const (.int .i64 1)), (1, .func 86)]) 124 (.agg #[.int .i64 1, .func (.func 86) #[] #[]]) h18 fun q19 h20 => ?_
  clear h18
  refine eE 6 7 (.build 124 #[(0, .const (.int .i64 7)), (1, .func 87)]) 124 (.agg #[.int .i64 7, .func (.func 87) #[] #[]]) h20 fun q21 h22 => ?_
  clear h20
  refine stA (i := 7) (d := 8) (op := Op.buildSlice 97 2 #[(0, Operand.tmp 6), (1, Operand.tmp 7)]) (ty := 97) (g := none) (mk := fun b => .slice (some ⟨b, 0, none⟩) 2 2) (o := .cells #[.int .i64 1, .func (.func 86) #[] #[], .int .i64 7, .func (.func 87) #[] #[]] 124 (0, 0)) h22 (by kernel_rfl) (by kernel_rfl) (by kernel_rfl) gok_none (fun _ => by kernel_rfl) hB16 (fun _ _ hq => trivial) (fun b25 w26 hB27 hN q23 h24 => ?_)
  clear h22 hB16 hN
  refine eE 8 9 (.build 100 #[(0, .const (.int .i64 4)), (1, .tmp 8), (2, .const (.int .i64 0)), (3, .const .nilFunc)]) 100 (.agg #[.int .i64 4, .slice (some ⟨b25, 0, none⟩) 2 2, .int .i64 0, .nilFunc]) h24 fun q28 h29 => ?_
  clear h24
  refine eE 9 10 (.build 124 #[(0, .const (.int .i64 16)), (1, .func 90)]) 124 (.agg #[.int .i64 16, .func (.func 90) #[] #[]]) h29 fun q30 h31 => ?_
  clear h29
  refine stA (i := 10) (d := 11) (op := Op.buildSlice 97 1 #[(0, Operand.tmp 10)]) (ty := 97) (g := none) (mk := fun b => .slice (some ⟨b, 0, none⟩) 1 1) (o := .cells #[.int .i64 16, .func (.func 90) #[] #[]] 124 (0, 0)) h31 (by kernel_rfl) (by kernel_rfl) (by kernel_rfl) gok_none (fun _ => by kernel_rfl) hB27 (fun _ _ hq => trivial) (fun b34 w35 hB36 hN q32 h33 => ?_)
  clear h31 hB27 hN
  refine eE 11 12 (.build 100 #[(0, .const (.int .i64 1)), (1, .tmp 11), (2, .const (.int .i64 0)), (3, .const .nilFunc)]) 100 (.agg #[.int .i64 1, .slice (some ⟨b34, 0, none⟩) 1 1, .int .i64 0, .nilFunc]) h33 fun q37 h38 => ?_
  clear h33
  refine eE 12 13 (.build 124 #[(0, .const (.int .i64 18)), (1, .func 87)]) 124 (.agg #[.int .i64 18, .func (.func 87) #[] #[]]) h38 fun q39 h40 => ?_
  clear h38
  refine eE 13 14 (.build 124 #[(0, .const (.int .i64 2)), (1, .func 88)]) 124 (.agg #[.int .i64 2, .func (.func 88) #[] #[]]) h40 fun q41 h42 => ?_
  clear h40
  refine stA (i := 14) (d := 15) (op := Op.buildSlice 97 2 #[(0, Operand.tmp 13), (1, Operand.tmp 14)]) (ty := 97) (g := none) (mk := fun b => .slice (some ⟨b, 0, none⟩) 2 2) (o := .cells #[.int .i64 18, .func (.func 87) #[] #[], .int .i64 2, .func (.func 88) #[] #[]] 124 (0, 0)) h42 (by kernel_rfl) (by kernel_rfl) (by kernel_rfl) gok_none (fun _ => by kernel_rfl) hB36 (fun _ _ hq => trivial) (fun b45 w46 hB47 hN q43 h44 => ?_)
  clear h42 hB36 hN
  refine eE 15 16 (.build 100 #[(0, .const (.int .i64 20)), (1, .tmp 15), (2, .const (.int .i64 18)), (3, .func 91)]) 100 (.agg #[.int .i64 20, .slice (some ⟨b45, 0, none⟩) 2 2, .int .i64 18, .func (.func 91) #[] #[]]) h44 fun q48 h49 => ?_
  clear h44
  refine eE 16 17 (.build 101 #[(0, .tmp 5), (1, .tmp 9), (2, .tmp 12), (3, .tmp 16)]) 101 (.agg #[.int .i64 12, .slice (some ⟨b14, 0, none⟩) 3 3, .int .i64 11, .func (.func 89) #[] #[], .int .i64 4, .slice (some ⟨b25, 0, none⟩) 2 2, .int .i64 0, .nilFunc, .int .i64 1, .slice (some ⟨b34, 0, none⟩) 1 1, .int .i64 0, .nilFunc, .int .i64 20, .slice (some ⟨b45, 0, none⟩) 2 2, .int .i64 18, .func (.func 91) #[] #[]]) h49 fun q50 h51 => ?_
  clear h49
  refine stWs (i := 17) (ty := 0) (t := 101) (x := Operand.tmp 0) (y := Operand.tmp 17) (g := none) 4 0 (b := b3) (T := 101) (cs := [.int .i64 0, .slice none 0 0, .int .i64 0, .nilFunc, .int .i64 0, .slice none 0 0, .int .i64 0, .nilFunc, .int .i64 0, .slice none 0 0, .int .i64 0, .nilFunc, .int .i64 0, .slice none 0 0, .int .i64 0, .nilFunc]) (vs := [.int .i64 12, .slice (some ⟨b14, 0, none⟩) 3 3, .int .i64 11, .func (.func 89) #[] #[], .int .i64 4, .slice (some ⟨b25, 0, none⟩) 2 2, .int .i64 0, .nilFunc, .int .i64 1, .slice (some ⟨b34, 0, none⟩) 1 1, .int .i64 0, .nilFunc, .int .i64 20, .slice (some ⟨b45, 0, none⟩) 2 2, .int .i64 18, .func (.func 91) #[] #[]]) (cs' := [.int .i64 12, .slice (some ⟨b14, 0, none⟩) 3 3, .int .i64 11, .func (.func 89) #[] #[], .int .i64 4, .slice (some ⟨b25, 0, none⟩) 2 2, .int .i64 0, .nilFunc, .int .i64 1, .slice (some ⟨b34, 0, none⟩) 1 1, .int .i64 0, .nilFunc, .int .i64 20, .slice (some ⟨b45, 0, none⟩) 2 2, .int .i64 18, .func (.func 91) #[] #[]]) h51 (by kernel_rfl) (by kernel_rfl) gok_none hB47 (by kernel_rfl) (by kernel_rfl) (by kernel_rfl) (by kernel_rfl) (by kernel_rfl) (by kernel_rfl) (by kernel_rfl) (.inr fun _ _ => trivial) (fun w54 hB55 hT q52 h53 => ?_)
  replace hB55 : Bx w [(b45, .cells #[.int .i64 18, .func (.func 87) #[] #[], .int .i64 2, .func (.func 88) #[] #[]] 124 (0, 0)), (b34, .cells #[.int .i64 16, .func (.func 90) #[] #[]] 124 (0, 0)), (b25, .cells #[.int .i64 1, .func (.func 86) #[] #[], .int .i64 7, .func (.func 87) #[] #[]] 124 (0, 0)), (b14, .cells #[.int .i64 2, .func (.func 86) #[] #[], .int .i64 9, .func (.func 87) #[] #[], .int .i64 1, .func (.func 88) #[] #[]] 124 (0, 0)), (b3, .cells #[.int .i64 12, .slice (some ⟨b14, 0, none⟩) 3 3, .int .i64 11, .func (.func 89) #[] #[], .int .i64 4, .slice (some ⟨b25, 0, none⟩) 2 2, .int .i64 0, .nilFunc, .int .i64 1, .slice (some ⟨b34, 0, none⟩) 1 1, .int .i64 0, .nilFunc, .int .i64 20, .slice (some ⟨b45, 0, none⟩) 2 2, .int .i64 18, .func (.func 91) #[] #[]] 101 (0, 0))] w54 := hB55
  clear h51 hB47
  clear hT
  refine wpO_end ?_
  have h56 := h53.keep [(0, .pointer (some ⟨b3, 0, none⟩))] ⟨rfl, trivial⟩
  clear h53
  refine then_n ?_
  refine c_ret (by kernel_rfl) ?_
  refine retC (t := 0) (T := 101) (b := b3) (vs := [.int .i64 12, .slice (some ⟨b14, 0, none⟩) 3 3, .int .i64 11, .func (.func 89) #[] #[], .int .i64 4, .slice (some ⟨b25, 0, none⟩) 2 2, .int .i64 0, .nilFunc, .int .i64 1, .slice (some ⟨b34, 0, none⟩) 1 1, .int .i64 0, .nilFunc, .int .i64 20, .slice (some ⟨b45, 0, none⟩) 2 2, .int .i64 18, .func (.func 91) #[] #[]]) h56 (by kernel_rfl) (by kernel_rfl) hB55 4 (by kernel_rfl) (by kernel_rfl) (by kernel_rfl) ?_
  exact ⟨b14, b25, b34, b45, rfl, Rd.of_blk (hB55.at 3 rfl), Rd.of_blk (hB55.at 2 rfl), Rd.of_blk (hB55.at 1 rfl), hB55.bel⟩

set_option maxHeartbeats 4000000 in
set_option maxRecDepth 20000 in
theorem c69 (sh bd : Int) (fv : Value) (sp : List (Nat × Nat)) (A : Option Addr) (c : Nat) (w : World) (hn : sp.length ≤ 1000) (hcl : (clsOf sp).length ≤ 1000) (hr : Rd w A (spanC sp)) : Calls Tryd.prog 69 #[.agg #[.int .i64 sh, .slice A sp.length c, .int .i64 bd, fv]] w (fun e w' => ∃ v : Value, e = .returned v ∧ w'.ownsRow w.heap.size 122 1 v (clsOf sp).length ((clsOf sp).map fnV) ∧ Below w.heap.size w w') := by
  refine enter Tryd.func69 (by kernel_rfl) ?_ (by kernel_rfl)
  intro q0 h0
  replace h0 := h0.conv (l' := [(0, .agg #[.int .i64 sh, .slice A sp.length c, .int .i64 bd, fv])]) rfl
  have hB := Bx.refl w
  refine c_seq (by kernel_rfl) ?_
  refine reg_plain [(0, false), (1, false)] (by kernel_rfl) (by kernel_rfl) ?_
  refine stA (i := 0) (d := 1) (op := Op.box 100 (Operand.tmp 0)) (ty := 0) (g := none) (mk := fun b => .pointer (some ⟨b, 0, none⟩)) (o := .cells #[.int .i64 sh, .slice A sp.length c, .int .i64 bd, fv] 100 (0, 0)) h0 (by kernel_rfl) (by kernel_rfl) (by kernel_rfl) gok_none (fun _ => by kernel_rfl) hB (fun _ _ hq => trivial) (fun b3 w4 hB5 hN q1 h2 => ?_)
  clear h0 hB hN
  refine eE 1 2 (.assign (.const (.slice none 0 0))) 104 (.slice none 0 0) h2 fun q6 h7 => ?_
  clear h2
  refine wpO_end ?_
  have h8 := h7.keep [(2, .slice none 0 0), (1, .pointer (some ⟨b3, 0, none⟩))] ⟨rfl, rfl, trivial⟩
  clear h7
  refine then_n ?_
  refine c_seq (by kernel_rfl) ?_
  refine reg_plain [(0, false)] (by kernel_rfl) (by kernel_rfl) ?_
  refine eE 0 3 (.assign (.const (.slice none 0 0))) 104 (.slice none 0 0) h8 fun q9 h10 => ?_
  clear h8
  refine wpO_end ?_
  refine then_n ?_
  refine c_seq (by kernel_rfl) ?_
  refine c_seq (by kernel_rfl) ?_
  refine reg_plain [(0, false), (1, false), (2, false), (3, false)] (by kernel_rfl) (by kernel_rfl) ?_
  refine eE 0 6 (.fieldAddr 100 (.tmp 1) 1) 0 (.pointer (some ⟨b3, 1, none⟩)) h10 fun q11 h12 => ?_
  clear h10
  refine eE 1 7 (.load 97 (.tmp 6)) 97 (.slice A sp.length c) h12 (hr := r_loadC (b := b3) (v := .slice A sp.length c) hB5 0 1 (by kernel_rfl) (by kernel_rfl) (by kernel_rfl)) fun q13 h14 => ?_
  clear h12
  refine eE 2 8 (.call { callee := .builtin .len, args := #[.tmp 7], argTypes := #[97] }) 3 (.int .i64 ((sp.length : Nat) : Int)) h14 fun q15 h16 => ?_
  clear h14
  refine eE 3 9 (.move (.const (.int .i64 0))) 3 (.int .i64 0) h16 fun q17 h18 => ?_
  clear h16
  refine wpO_end ?_
  have h19 := h18.keep [(9, .int .i64 0), (8, .int .i64 ((sp.length : Nat) : Int)), (7, .slice A sp.length c), (3, .slice none 0 0), (2, .slice none 0 0)] ⟨rfl, rfl, rfl, rfl, rfl, trivial⟩
  clear h18
  refine then_n ?_
  refine c_block 0 (by kernel_rfl) ?_
  refine c_loop (by kernel_rfl) (fun qa qw => ∃ k : Nat, ∃ (v : Value), (k ≤ sp.length) ∧ Fr 25 [(7, .slice A sp.length c), (8, .int .i64 ((sp.length : Nat) : Int)), (9, .int .i64 ((k : Nat) : Int)), (3, v)] qa ∧ Bx w [(b3, .cells #[.int .i64 sh, .slice A sp.length c, .int .i64 bd, fv] 100 (0, 0))] qw ∧ (qw.ownsRow w.heap.size 122 1 v (clsOf (sp.take k)).length ((clsOf (sp.take k)).map fnV))) (fun qa _ => (((sp.length : Int)) - intAt qa 9).toNat) ⟨0, .slice none 0 0, Nat.zero_le _, h19.keep _ ⟨rfl, rfl, rfl, rfl, trivial⟩, hB5, own_nil _ _ _ _⟩ ?_
  rintro q20 w21 ⟨k, v, hk24, h22, hB23, hx26⟩
  have hm25 := h22.int (k := 9) (kd := .i64) (z := ((k : Nat) : Int)) rfl
  clear h19 hB5
  refine c_seq (by kernel_rfl) ?_
  refine reg_plain [(0, false)] (by kernel_rfl) (by kernel_rfl) ?_
  refine eE 0 10 (.binOp .lss 3 (.tmp 9) (.tmp 8) 3) 0 (.bool (decide (((k : Nat) : Int) < ((sp.length : Nat) : Int)))) h22 fun q27 h28 => ?_
  clear h22
  refine wpO_end ?_
  refine then_n ?_
  refine c_seq (by kernel_rfl) ?_
  refine c_cond (t := 10) (b := decide (((k : Nat) : Int) < ((sp.length : Nat) : Int))) h28 (by kernel_rfl) (by kernel_rfl) (fun hc29 => ?_) (fun hc29 => ?_)
  ·
    have hp30 : (((k : Nat) : Int) < ((sp.length : Nat) : Int)) := of_decide_eq_true hc29
    have hlt : k < sp.length := by omega
    obtain ⟨x, hx⟩ : ∃ x, sp[k]? = some x := ⟨sp[k], List.getElem?_eq_getElem hlt⟩
    obtain ⟨ad, hA, hE0⟩ := hr.el (k * 2) [.int .i64 ((x.1 : Nat) : Int), fnV x.2] (by simp) (spanC_get sp k x hx)
    subst hA
    refine c_skip (by kernel_rfl) ?_
    refine then_n ?_
    refine c_seq (by kernel_rfl) ?_
    refine c_block 1 (by kernel_rfl) ?_
    refine c_seq (by kernel_rfl) ?_
    refine reg_plain [(0, false), (1, false), (2, false), (3, false)] (by kernel_rfl) (by kernel_rfl) ?_
    refine eE 0 11 (.indexAddr 97 (.tmp 7) (.tmp 9)) 0 (.pointer (some ((ad.add (k * 2)).add 0))) h28 (hr := r_index0 (n := sp.length) (c := c) (kd := .i64) (by kernel_rfl) (by kernel_rfl) hlt (by kernel_rfl)) fun q31 h32 => ?_
    clear h28
    refine eE 1 12 (.load 124 (.tmp 11)) 124 (.agg #[.int .i64 ((x.1 : Nat) : Int), .func (.func x.2) #[] #[]]) h32 (hr := r_loadE (o := 0) (vs := [.int .i64 ((x.1 : Nat) : Int), .func (.func x.2) #[] #[]]) (hE0.below hB23.bel) (by kernel_rfl) (by kernel_rfl) (by kernel_rfl)) fun q33 h34 => ?_
    clear h32
    refine stA (i := 2) (d := 5) (op := Op.alloc 124) (ty := 0) (g := none) (mk := fun b => .pointer (some ⟨b, 0, none⟩)) (o := .cells #[.int .i64 0, .nilFunc] 124 (0, 0)) h34 (by kernel_rfl) (by kernel_rfl) (by kernel_rfl) gok_none (fun _ => by kernel_rfl) hB23 (fun _ _ hq => trivial) (fun b37 w38 hB39 hN q35 h36 => ?_)
    have ho40 := own_below hx26 hN
    clear h34 hB23 hN
    refine stWs (i := 3) (ty := 0) (t := 124) (x := Operand.tmp 5) (y := Operand.tmp 12) (g := none) 0 0 (b := b37) (T := 124) (cs := [.int .i64 0, .nilFunc]) (vs := [.int .i64 ((x.1 : Nat) : Int), .func (.func x.2) #[] #[]]) (cs' := [.int .i64 ((x.1 : Nat) : Int), .func (.func x.2) #[] #[]]) h36 (by kernel_rfl) (by kernel_rfl) gok_none hB39 (by kernel_rfl) (by kernel_rfl) (by kernel_rfl) (by kernel_rfl) (by kernel_rfl) (by kernel_rfl) (by kernel_rfl) (.inr fun _ _ => trivial) (fun w43 hB44 hT q41 h42 => ?_)
    replace hB44 : Bx w [(b37, .cells #[.int .i64 ((x.1 : Nat) : Int), .func (.func x.2) #[] #[]] 124 (0, 0)), (b3, .cells #[.int .i64 sh, .slice (some ad) sp.length c, .int .i64 bd, fv] 100 (0, 0))] w43 := hB44
    clear h36 hB39
    have ho45 := own_turned ho40 hT (by kernel_rfl)
    clear hT
    refine wpO_end ?_
    refine then_n ?_
    refine c_seq (by kernel_rfl) ?_
    refine reg_plain [(0, false), (1, false), (2, false)] (by kernel_rfl) (by kernel_rfl) ?_
    refine eE 0 13 (.fieldAddr 124 (.tmp 5) 0) 0 (.pointer (some ⟨b37, 0, none⟩)) h42 fun q46 h47 => ?_
    clear h42
    refine eE 1 14 (.load 3 (.tmp 13)) 3 (.int .i64 ((x.1 : Nat) : Int)) h47 (hr := r_loadC (b := b37) (v := .int .i64 ((x.1 : Nat) : Int)) hB44 0 0 (by kernel_rfl) (by kernel_rfl) (by kernel_rfl)) fun q48 h49 => ?_
    clear h47
    refine eE 2 15 (.move (.const (.int .i64 0))) 3 (.int .i64 0) h49 fun q50 h51 => ?_
    clear h49
    refine wpO_end ?_
    refine then_n ?_
    refine c_block 2 (by kernel_rfl) ?_
    refine c_loop (by kernel_rfl) (fun qa qw => ∃ j : Nat, ∃ (v : Value), (j ≤ x.1) ∧ Fr 25 [(7, .slice (some ad) sp.length c), (8, .int .i64 ((sp.length : Nat) : Int)), (9, .int .i64 ((k : Nat) : Int)), (5, .pointer (some ⟨b37, 0, none⟩)), (14, .int .i64 ((x.1 : Nat) : Int)), (15, .int .i64 ((j : Nat) : Int)), (3, v)] qa ∧ Bx w [(b37, .cells #[.int .i64 ((x.1 : Nat) : Int), .func (.func x.2) #[] #[]] 124 (0, 0)), (b3, .cells #[.int .i64 sh, .slice (some ad) sp.length c, .int .i64 bd, fv] 100 (0, 0))] qw ∧ (qw.ownsRow w.heap.size 122 1 v ((clsOf (sp.take k)).length + j) ((clsOf (sp.take k)).map fnV ++ List.replicate j (fnV x.2)))) (fun qa _ => ((((x.1 : Nat) : Int)) - intAt qa 15).toNat) ⟨0, v, Nat.zero_le _, h51.keep _ ⟨rfl, rfl, rfl, rfl, rfl, rfl, rfl, trivial⟩, hB44, by rw [List.replicate_zero, List.append_nil]; exact ho45⟩ ?_
    rintro q52 w53 ⟨j, v, hk56, h54, hB55, hx58⟩
    have hm57 := h54.int (k := 15) (kd := .i64) (z := ((j : Nat) : Int)) rfl
    clear h51 hB44
    refine c_seq (by kernel_rfl) ?_
    refine reg_plain [(0, false)] (by kernel_rfl) (by kernel_rfl) ?_
    refine eE 0 16 (.binOp .lss 3 (.tmp 15) (.tmp 14) 3) 4 (.bool (decide (((j : Nat) : Int) < ((x.1 : Nat) : Int)))) h54 fun q59 h60 => ?_
    clear h54
    refine wpO_end ?_
    refine then_n ?_
    refine c_seq (by kernel_rfl) ?_
    refine c_cond (t := 16) (b := decide (((j : Nat) : Int) < ((x.1 : Nat) : Int))) h60 (by kernel_rfl) (by kernel_rfl) (fun hc61 => ?_) (fun hc61 => ?_)
    ·
      have hp62 : (((j : Nat) : Int) < ((x.1 : Nat) : Int)) := of_decide_eq_true hc61
      have hjl : j < x.1 := by omega
      have hcb := clsOf_len sp k x hx
      refine c_skip (by kernel_rfl) ?_
      refine then_n ?_
      refine c_seq (by kernel_rfl) ?_
      refine c_block 3 (by kernel_rfl) ?_
      refine reg_plain [(0, false), (1, false), (2, false), (3, false), (4, false), (5, false)] (by kernel_rfl) (by kernel_rfl) ?_
      refine eE 0 17 (.move (.tmp 3)) 104 v h60 fun q63 h64 => ?_
      clear h60
      refine eE 1 18 (.fieldAddr 124 (.tmp 5) 1) 0 (.pointer (some ⟨b37, 1, none⟩)) h64 fun q65 h66 => ?_
      clear h64
      refine eE 2 19 (.load 122 (.tmp 18)) 122 (.func (.func x.2) #[] #[]) h66 (hr := r_loadC (b := b37) (v := .func (.func x.2) #[] #[]) hB55 0 1 (by kernel_rfl) (by kernel_rfl) (by kernel_rfl)) fun q67 h68 => ?_
      clear h66
      refine stA (i := 3) (d := 20) (op := Op.buildSlice 104 1 #[(0, Operand.tmp 19)]) (ty := 104) (g := none) (mk := fun b => .slice (some ⟨b, 0, none⟩) 1 1) (o := .cells #[.func (.func x.2) #[] #[]] 122 (0, 0)) h68 (by kernel_rfl) (by kernel_rfl) (by kernel_rfl) gok_none (fun _ => by kernel_rfl) hB55 (fun _ _ hq => trivial) (fun b71 w72 hB73 hN q69 h70 => ?_)
      have ho74 := own_below hx58 hN
      clear h68 hB55 hN
      have hr83 := Rd.of_blk (hB73.at 0 rfl)
      refine stApp (x := Operand.tmp 17) (y := Operand.tmp 20) (i := 4) (d := 21) (t := 104) (e := 122) (size := 1) (bytes := 8) (base := w.heap.size) (nn := ((clsOf (sp.take k)).length + j)) (m := 1) (c := 1) (ty := 104) (g := none) (v := v) (xs := ((clsOf (sp.take k)).map fnV ++ List.replicate j (fnV x.2))) (news := [.func (.func x.2) #[] #[]]) (ad := ⟨b71, 0, none⟩) h70 (by kernel_rfl) (by kernel_rfl) (by kernel_rfl) gok_none (by kernel_rfl) (by decide) (by kernel_rfl) (by kernel_rfl) ho74 (by kernel_rfl) (fun j u hj => by obtain ⟨ad', e1, -, h1⟩ := hr83 j u hj; cases e1; exact h1) (by intro u hu; revert u hu; simp only [List.forall_mem_cons]; exact ⟨rfl, fun _ h => absurd h (by simp)⟩) (by first | (unfold maxLen; omega) | omega) (by first | (unfold maxLen; omega) | omega) hB73.tail hB73.bel.size (Nat.le_refl _) (by kernel_rfl) (fun _ hq => trivial) (fun v77 w78 ho79 hg80 hB81 hz82 q75 h76 => ?_)
      clear h70 hB73 hr83
      refine eE 5 3 (.assign (.tmp 21)) 104 v77 h76 fun q84 h85 => ?_
      clear h76
      refine wpO_end ?_
      have h86 := h85.keep [(3, v77), (21, v77), (20, .slice (some ⟨b71, 0, none⟩) 1 1), (19, .func (.func x.2) #[] #[]), (18, .pointer (some ⟨b37, 1, none⟩)), (17, v), (16, .bool (decide (((j : Nat) : Int) < ((x.1 : Nat) : Int)))), (7, .slice (some ad) sp.length c), (8, .int .i64 ((sp.length : Nat) : Int)), (9, .int .i64 ((k : Nat) : Int)), (5, .pointer (some ⟨b37, 0, none⟩)), (14, .int .i64 ((x.1 : Nat) : Int)), (15, .int .i64 ((j : Nat) : Int))] ⟨rfl, rfl, rfl, rfl, rfl, rfl, rfl, rfl, rfl, rfl, rfl, rfl, rfl, trivial⟩
      clear h85
      refine inB_n ?_
      refine then_n ?_
      refine reg_plain [(0, false), (1, false)] (by kernel_rfl) (by kernel_rfl) ?_
      refine eE 0 22 (.binOp .add 3 (.tmp 15) (.const (.int .i64 1)) 3) 3 (.int .i64 (IntKind.i64.wrap (((j : Nat) : Int) + 1))) h86 fun q87 h88 => ?_
      clear h86
      refine eE 1 15 (.move (.tmp 22)) 3 (.int .i64 (IntKind.i64.wrap (((j : Nat) : Int) + 1))) h88 fun q89 h90 => ?_
      clear h88
      refine wpO_end ?_
      have h91 := h90.keep [(15, .int .i64 (IntKind.i64.wrap (((j : Nat) : Int) + 1))), (22, .int .i64 (IntKind.i64.wrap (((j : Nat) : Int) + 1))), (3, v77), (21, v77), (20, .slice (some ⟨b71, 0, none⟩) 1 1), (19, .func (.func x.2) #[] #[]), (18, .pointer (some ⟨b37, 1, none⟩)), (17, v), (16, .bool (decide (((j : Nat) : Int) < ((x.1 : Nat) : Int)))), (7, .slice (some ad) sp.length c), (8, .int .i64 ((sp.length : Nat) : Int)), (9, .int .i64 ((k : Nat) : Int)), (5, .pointer (some ⟨b37, 0, none⟩)), (14, .int .i64 ((x.1 : Nat) : Int))] ⟨rfl, rfl, rfl, rfl, rfl, rfl, rfl, rfl, rfl, rfl, rfl, rfl, rfl, rfl, trivial⟩
      clear h90
      have h92 := h91.keep [(7, .slice (some ad) sp.length c), (8, .int .i64 ((sp.length : Nat) : Int)), (9, .int .i64 ((k : Nat) : Int)), (5, .pointer (some ⟨b37, 0, none⟩)), (14, .int .i64 ((x.1 : Nat) : Int)), (15, .int .i64 (((j + 1) : Nat) : Int)), (3, v77)] ⟨rfl, rfl, rfl, rfl, rfl, look_int rfl (wrap_succ (by have := hcl; omega)), rfl, trivial⟩
      have hm93 := h92.int (k := 15) (kd := .i64) (z := (((j + 1) : Nat) : Int)) rfl
      refine then_n ⟨⟨j + 1, v77, by omega, h92, hB81, by rw [← rep_snoc]; exact ho79⟩, ?_⟩
      show ((((x.1 : Nat) : Int)) - intAt _ 15).toNat < ((((x.1 : Nat) : Int)) - intAt _ 15).toNat
      rw [hm57, hm93]; omega
    ·
      have hp94 : ¬ (((j : Nat) : Int) < ((x.1 : Nat) : Int)) := of_decide_eq_false hc61
      obtain rfl : j = x.1 := by omega
      refine c_exit 2 (by kernel_rfl) ?_
      refine then_e (then_e (inB_hit ?_))
      refine inB_n ?_
      refine then_n ?_
      refine reg_plain [(0, false), (1, false)] (by kernel_rfl) (by kernel_rfl) ?_
      refine eE 0 23 (.binOp .add 3 (.tmp 9) (.const (.int .i64 1)) 3) 3 (.int .i64 (IntKind.i64.wrap (((k : Nat) : Int) + 1))) h60 fun q95 h96 => ?_
      clear h60
      refine eE 1 9 (.move (.tmp 23)) 3 (.int .i64 (IntKind.i64.wrap (((k : Nat) : Int) + 1))) h96 fun q97 h98 => ?_
      clear h96
      refine wpO_end ?_
      have h99 := h98.keep [(9, .int .i64 (IntKind.i64.wrap (((k : Nat) : Int) + 1))), (23, .int .i64 (IntKind.i64.wrap (((k : Nat) : Int) + 1))), (16, .bool (decide (((x.1 : Nat) : Int) < ((x.1 : Nat) : Int)))), (7, .slice (some ad) sp.length c), (8, .int .i64 ((sp.length : Nat) : Int)), (5, .pointer (some ⟨b37, 0, none⟩)), (14, .int .i64 ((x.1 : Nat) : Int)), (15, .int .i64 ((x.1 : Nat) : Int)), (3, v)] ⟨rfl, rfl, rfl, rfl, rfl, rfl, rfl, rfl, rfl, trivial⟩
      clear h98
      have h100 := h99.keep [(7, .slice (some ad) sp.length c), (8, .int .i64 ((sp.length : Nat) : Int)), (9, .int .i64 (((k + 1) : Nat) : Int)), (3, v)] ⟨rfl, rfl, look_int rfl (wrap_succ (by have := hn; omega)), rfl, trivial⟩
      have hm101 := h100.int (k := 9) (kd := .i64) (z := (((k + 1) : Nat) : Int)) rfl
      refine then_n ⟨⟨k + 1, v, by omega, h100, hB55.tail, by rw [clsOf_row sp k x hx, clsOf_take sp k x hx, List.length_append, List.length_replicate]; exact hx58⟩, ?_⟩
      show (((sp.length : Int)) - intAt _ 9).toNat < (((sp.length : Int)) - intAt _ 9).toNat
      rw [hm25, hm101]; omega
  ·
    have hp102 : ¬ (((k : Nat) : Int) < ((sp.length : Nat) : Int)) := of_decide_eq_false hc29
    obtain rfl : k = sp.length := by omega
    refine c_exit 0 (by kernel_rfl) ?_
    refine then_e (then_e (inB_hit ?_))
    refine then_n ?_
    refine c_seq (by kernel_rfl) ?_
    refine reg_plain [(0, false), (1, false)] (by kernel_rfl) (by kernel_rfl) ?_
    refine eE 0 24 (.move (.tmp 3)) 104 v h28 fun q103 h104 => ?_
    clear h28
    refine eE 1 2 (.assign (.tmp 24)) 104 v h104 fun q105 h106 => ?_
    clear h104
    refine wpO_end ?_
    have h107 := h106.keep [(2, v)] ⟨rfl, trivial⟩
    clear h106
    refine then_n ?_
    refine c_ret (by kernel_rfl) ?_
    refine ret1 (t := 2) (v := v) h107 (by kernel_rfl) (by kernel_rfl) ?_
    exact ⟨v, rfl, by have := hx26; rwa [List.take_length] at this, hB23.bel⟩

end Go.Proofs.YtljegdokbifoiaaDoor.Af
