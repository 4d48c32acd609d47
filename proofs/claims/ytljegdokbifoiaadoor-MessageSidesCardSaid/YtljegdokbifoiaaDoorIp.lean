/- The test of an identifier's first characters. Short lists. -/
import Derived.Test.YtljegdokbifoiaaDoorIk
namespace Go.Proofs.YtljegdokbifoiaaDoor.Af
open Go.RowKit
theorem clV_get (l : List Nat) (k x : Nat) (h : l[k]? = some x) : ∀ j u, ([fnV x] : List Value)[j]? = some u → (l.map fnV)[k * 1 + j]? = some u := by
  intro j u hj
  match j, hj with
  | 0, hj =>
    rw [List.getElem?_map, Nat.add_zero, Nat.mul_one, h]
    exact hj

set_option maxHeartbeats 4000000 in
set_option maxRecDepth 20000 in
theorem c68 (cl : List Nat) (A : Option Addr) (c : Nat) (sh : Int) (s : ByteArray) (w : World) (hn : cl.length ≤ 1000) (hcl : ∀ g ∈ cl, g = 86 ∨ g = 87 ∨ g = 88 ∨ g = 90) (hr : Rd w A (cl.map fnV)) : Calls Tryd.prog 68 #[.slice A cl.length c, .int .i64 sh, .string s] w (fun e w' => ∃ at' : Int, e = .returned (.tuple #[.int .i64 at', .int .i64 (pfxE cl sh s)]) ∧ Below w.heap.size w w') := by
  refine enter Tryd.func68 (by kernel_rfl) ?_ (by kernel_rfl)
  intro q0 h0
  replace h0 := h0.conv (l' := [(0, .slice A cl.length c), (1, .int .i64 sh), (2, .string s)]) rfl
  have hB := Bx.refl w
  refine c_seq (by kernel_rfl) ?_
  refine reg_plain [(0, false), (1, false)] (by kernel_rfl) (by kernel_rfl) ?_
  refine eE 0 6 (.assign (.const (.int .i64 0))) 3 (.int .i64 0) h0 fun q1 h2 => ?_
  clear h0
  refine eE 1 7 (.assign (.const (.int .i64 0))) 26 (.int .i64 0) h2 fun q3 h4 => ?_
  clear h2
  refine wpO_end ?_
  refine then_n ?_
  refine c_seq (by kernel_rfl) ?_
  refine c_seq (by kernel_rfl) ?_
  refine reg_plain [(0, false), (1, false), (2, false)] (by kernel_rfl) (by kernel_rfl) ?_
  refine eE 0 10 (.move (.tmp 0)) 104 (.slice A cl.length c) h4 fun q5 h6 => ?_
  clear h4
  refine eE 1 11 (.call { callee := .builtin .len, args := #[.tmp 10], argTypes := #[104] }) 3 (.int .i64 ((cl.length : Nat) : Int)) h6 fun q7 h8 => ?_
  clear h6
  refine eE 2 12 (.move (.const (.int .i64 0))) 3 (.int .i64 0) h8 fun q9 h10 => ?_
  clear h8
  refine wpO_end ?_
  refine then_n ?_
  refine c_block 0 (by kernel_rfl) ?_
  refine c_loop (by kernel_rfl) (fun qa qw => ∃ k : Nat, (k ≤ cl.length) ∧ Fr 46 [(10, .slice A cl.length c), (11, .int .i64 ((cl.length : Nat) : Int)), (12, .int .i64 ((k : Nat) : Int)), (0, .slice A cl.length c), (1, .int .i64 sh), (2, .string s), (6, .int .i64 0), (7, .int .i64 0)] qa ∧ Bx w [] qw ∧ (∀ (j : Nat) (g : Nat) (c : UInt8), j < k → cl[j]? = some g → s.data.toList[j]? = some c → clsB g (c.toNat : Int) = true)) (fun qa _ => (((cl.length : Int)) - intAt qa 12).toNat) ⟨0, Nat.zero_le _, h10.keep _ ⟨rfl, rfl, rfl, rfl, rfl, rfl, rfl, rfl, trivial⟩, hB, fun j _ _ hj => absurd hj (Nat.not_lt_zero _)⟩ ?_
  rintro q11 w12 ⟨k, hk15, h13, hB14, hx17⟩
  have hm16 := h13.int (k := 12) (kd := .i64) (z := ((k : Nat) : Int)) rfl
  clear h10 hB
  refine c_seq (by kernel_rfl) ?_
  refine reg_plain [(0, false)] (by kernel_rfl) (by kernel_rfl) ?_
  refine eE 0 13 (.binOp .lss 3 (.tmp 12) (.tmp 11) 3) 0 (.bool (decide (((k : Nat) : Int) < ((cl.length : Nat) : Int)))) h13 fun q18 h19 => ?_
  clear h13
  refine wpO_end ?_
  refine then_n ?_
  refine c_seq (by kernel_rfl) ?_
  refine c_cond (t := 13) (b := decide (((k : Nat) : Int) < ((cl.length : Nat) : Int))) h19 (by kernel_rfl) (by kernel_rfl) (fun hc20 => ?_) (fun hc20 => ?_)
  ·
    have hp21 : (((k : Nat) : Int) < ((cl.length : Nat) : Int)) := of_decide_eq_true hc20
    have hlt : k < cl.length := by omega
    obtain ⟨x, hx⟩ : ∃ x, cl[k]? = some x := ⟨cl[k], List.getElem?_eq_getElem hlt⟩
    obtain ⟨ad, hA, hE0⟩ := hr.el (k * 1) [fnV x] (by simp) (clV_get cl k x hx)
    subst hA
    refine c_skip (by kernel_rfl) ?_
    refine then_n ?_
    refine c_seq (by kernel_rfl) ?_
    refine c_block 1 (by kernel_rfl) ?_
    refine c_seq (by kernel_rfl) ?_
    refine reg_plain [(0, false), (1, false), (2, false), (3, false), (4, false)] (by kernel_rfl) (by kernel_rfl) ?_
    refine eE 0 14 (.move (.tmp 12)) 3 (.int .i64 ((k : Nat) : Int)) h19 fun q22 h23 => ?_
    clear h19
    refine eE 1 15 (.indexAddr 104 (.tmp 10) (.tmp 12)) 0 (.pointer (some ((ad.add (k * 1)).add 0))) h23 (hr := r_index0 (n := cl.length) (c := c) (kd := .i64) (by kernel_rfl) (by kernel_rfl) hlt (by kernel_rfl)) fun q24 h25 => ?_
    clear h23
    refine eE 2 16 (.load 122 (.tmp 15)) 122 (.func (.func x) #[] #[]) h25 (hr := r_loadF (o := 0) (v := .func (.func x) #[] #[]) (hE0.below hB14.bel) (by kernel_rfl) (by kernel_rfl) (by kernel_rfl)) fun q26 h27 => ?_
    clear h25
    refine eE 3 8 (.assign (.tmp 14)) 3 (.int .i64 ((k : Nat) : Int)) h27 fun q28 h29 => ?_
    clear h27
    refine eE 4 9 (.assign (.tmp 16)) 122 (.func (.func x) #[] #[]) h29 fun q30 h31 => ?_
    clear h29
    refine wpO_end ?_
    refine then_n ?_
    refine c_seq (by kernel_rfl) ?_
    refine reg_plain [(0, false), (1, false), (2, false), (3, false), (4, false), (5, false), (6, false), (7, false), (8, false), (9, false), (10, false), (11, false)] (by kernel_rfl) (by kernel_rfl) ?_
    refine eE 0 17 (.move (.tmp 8)) 3 (.int .i64 ((k : Nat) : Int)) h31 fun q32 h33 => ?_
    clear h31
    refine eE 1 18 (.move (.tmp 2)) 9 (.string s) h33 fun q34 h35 => ?_
    clear h33
    refine eE 2 19 (.call { callee := .builtin .len, args := #[.tmp 18], argTypes := #[9] }) 3 (.int .i64 ((s.size : Nat) : Int)) h35 fun q36 h37 => ?_
    clear h35
    refine eE 3 20 (.binOp .lss 3 (.tmp 17) (.tmp 19) 3) 4 (.bool (decide (((k : Nat) : Int) < ((s.size : Nat) : Int)))) h37 fun q38 h39 => ?_
    clear h37
    refine eE 4 21 (.move (.tmp 20)) 4 (.bool (decide (((k : Nat) : Int) < ((s.size : Nat) : Int)))) h39 fun q40 h41 => ?_
    clear h39
    refine wpO_cut [(5, false), (6, false), (7, false), (8, false), (9, false), (10, false), (11, false)] [] (fun qa qw => Fr 46 [(28, .bool ((decide (((k : Nat) : Int) < ((s.size : Nat) : Int))) && (!(clsB x (((chAt s k).toNat : Nat) : Int))))), (21, .bool (decide (((k : Nat) : Int) < ((s.size : Nat) : Int)))), (20, .bool (decide (((k : Nat) : Int) < ((s.size : Nat) : Int)))), (19, .int .i64 ((s.size : Nat) : Int)), (18, .string s), (17, .int .i64 ((k : Nat) : Int)), (9, .func (.func x) #[] #[]), (8, .int .i64 ((k : Nat) : Int)), (16, .func (.func x) #[] #[]), (15, .pointer (some ((ad.add (k * 1)).add 0))), (14, .int .i64 ((k : Nat) : Int)), (13, .bool (decide (((k : Nat) : Int) < ((cl.length : Nat) : Int)))), (10, .slice (some ad) cl.length c), (11, .int .i64 ((cl.length : Nat) : Int)), (12, .int .i64 ((k : Nat) : Int)), (0, .slice (some ad) cl.length c), (1, .int .i64 sh), (2, .string s), (6, .int .i64 0), (7, .int .i64 0)] qa ∧ Bx w [] qw) ?_ ?_
    ·
      rcases Bool.eq_false_or_eq_true (decide (((k : Nat) : Int) < ((s.size : Nat) : Int))) with hc42 | hc42
      ·
        refine eG 5 22 (.move (.tmp 9)) 122 (4, true) (.func (.func x) #[] #[]) (g1 21 hc42) h41 fun q43 h44 => ?_
        clear h41
        refine eG 6 23 (.move (.tmp 2)) 9 (4, true) (.string s) (g1 21 hc42) h44 fun q45 h46 => ?_
        clear h44
        refine eG 7 24 (.move (.tmp 8)) 3 (4, true) (.int .i64 ((k : Nat) : Int)) (g1 21 hc42) h46 fun q47 h48 => ?_
        clear h46
        refine eG 8 25 (.index 9 (.tmp 23) (.tmp 24)) 5 (4, true) (.int .u8 (((chAt s k).toNat : Nat) : Int)) (g1 21 hc42) h48 (hr := r_indexS (kd := .i64) (i := k) (b := (chAt s k)) (by kernel_rfl) (by kernel_rfl) (getSd hc42) (by kernel_rfl)) fun q49 h50 => ?_
        clear h48
        refine stC (i := 9) (d := 26) (op := Op.call { callee := Callee.value (Operand.tmp 22), args := #[Operand.tmp 25], argTypes := #[5] }) (ty := 4) (g := (some (4, true))) (f := x) (args := #[.int .u8 (((chAt s k).toNat : Nat) : Int)]) (w1 := w12) h50 (by kernel_rfl) (by kernel_rfl) (by kernel_rfl) (g1 21 hc42) (by rcases hcl x (List.mem_of_getElem? hx) with rfl | rfl | rfl | rfl <;> kernel_rfl) (cCls x (hcl x (List.mem_of_getElem? hx)) (((chAt s k).toNat : Nat) : Int) w12) ?_
        rintro _ w53 ⟨rfl, hb54⟩
        have hB55 := hB14.call hb54
        refine ⟨_, rfl, trivial, fun q51 h52 => ?_⟩
        clear h50 hB14 hb54
        refine eG 10 27 (.unOp .not 4 (.tmp 26)) 4 (4, true) (.bool (!(clsB x (((chAt s k).toNat : Nat) : Int)))) (g1 21 hc42) h52 fun q56 h57 => ?_
        clear h52
        refine eE 11 28 (.pick (.tmp 21) (.tmp 27) (.const (.bool false))) 4 (.bool ((decide (((k : Nat) : Int) < ((s.size : Nat) : Int))) && (!(clsB x (((chAt s k).toNat : Nat) : Int))))) h57 (hr := r_and (c := decide (((k : Nat) : Int) < ((s.size : Nat) : Int))) (d := (!(clsB x (((chAt s k).toNat : Nat) : Int)))) (by kernel_rfl) (fun _ => by kernel_rfl)) fun q58 h59 => ?_
        clear h57
        exact ⟨h59.keep _ ⟨rfl, rfl, rfl, rfl, rfl, rfl, rfl, rfl, rfl, rfl, rfl, rfl, rfl, rfl, rfl, rfl, rfl, rfl, rfl, rfl, trivial⟩, hB55⟩
      ·
        refine kE 5 22 (4, true) (g3 21 hc42) h41 trivial fun q60 h61 => ?_
        clear h41
        refine kE 6 23 (4, true) (g3 21 hc42) h61 trivial fun q62 h63 => ?_
        clear h61
        refine kE 7 24 (4, true) (g3 21 hc42) h63 trivial fun q64 h65 => ?_
        clear h63
        refine kE 8 25 (4, true) (g3 21 hc42) h65 trivial fun q66 h67 => ?_
        clear h65
        refine kE 9 26 (4, true) (g3 21 hc42) h67 trivial fun q68 h69 => ?_
        clear h67
        refine kE 10 27 (4, true) (g3 21 hc42) h69 trivial fun q70 h71 => ?_
        clear h69
        refine eE 11 28 (.pick (.tmp 21) (.tmp 27) (.const (.bool false))) 4 (.bool ((decide (((k : Nat) : Int) < ((s.size : Nat) : Int))) && (!(clsB x (((chAt s k).toNat : Nat) : Int))))) h71 (hr := r_and (c := decide (((k : Nat) : Int) < ((s.size : Nat) : Int))) (d := (!(clsB x (((chAt s k).toNat : Nat) : Int)))) (by kernel_rfl) (fun e74 => Bool.noConfusion (e74.symm.trans hc42))) fun q72 h73 => ?_
        clear h71
        exact ⟨h73.keep _ ⟨rfl, rfl, rfl, rfl, rfl, rfl, rfl, rfl, rfl, rfl, rfl, rfl, rfl, rfl, rfl, rfl, rfl, rfl, rfl, rfl, trivial⟩, hB14⟩
    rintro q75 w76 ⟨h77, hB78⟩
    refine wpO_end ?_
    refine then_n ?_
    refine c_cond (t := 28) (b := (decide (((k : Nat) : Int) < ((s.size : Nat) : Int))) && (!(clsB x (((chAt s k).toNat : Nat) : Int)))) h77 (by kernel_rfl) (by kernel_rfl) (fun hc79 => ?_) (fun hc79 => ?_)
    ·
      refine c_seq (by kernel_rfl) ?_
      refine reg_plain [(0, false), (1, false), (2, false)] (by kernel_rfl) (by kernel_rfl) ?_
      refine eE 0 29 (.move (.tmp 8)) 3 (.int .i64 ((k : Nat) : Int)) h77 fun q80 h81 => ?_
      clear h77
      refine eE 1 6 (.assign (.tmp 29)) 3 (.int .i64 ((k : Nat) : Int)) h81 fun q82 h83 => ?_
      clear h81
      refine eE 2 7 (.assign (.const (.int .i64 3))) 26 (.int .i64 3) h83 fun q84 h85 => ?_
      clear h83
      refine wpO_end ?_
      have h86 := h85.keep [(7, .int .i64 3), (6, .int .i64 ((k : Nat) : Int)), (29, .int .i64 ((k : Nat) : Int)), (28, .bool ((decide (((k : Nat) : Int) < ((s.size : Nat) : Int))) && (!(clsB x (((chAt s k).toNat : Nat) : Int))))), (21, .bool (decide (((k : Nat) : Int) < ((s.size : Nat) : Int)))), (20, .bool (decide (((k : Nat) : Int) < ((s.size : Nat) : Int)))), (19, .int .i64 ((s.size : Nat) : Int)), (18, .string s), (17, .int .i64 ((k : Nat) : Int)), (9, .func (.func x) #[] #[]), (8, .int .i64 ((k : Nat) : Int)), (16, .func (.func x) #[] #[]), (15, .pointer (some ((ad.add (k * 1)).add 0))), (14, .int .i64 ((k : Nat) : Int)), (13, .bool (decide (((k : Nat) : Int) < ((cl.length : Nat) : Int)))), (10, .slice (some ad) cl.length c), (11, .int .i64 ((cl.length : Nat) : Int)), (12, .int .i64 ((k : Nat) : Int)), (0, .slice (some ad) cl.length c), (1, .int .i64 sh), (2, .string s)] ⟨rfl, rfl, rfl, rfl, rfl, rfl, rfl, rfl, rfl, rfl, rfl, rfl, rfl, rfl, rfl, rfl, rfl, rfl, rfl, rfl, rfl, trivial⟩
      clear h85
      refine then_n ?_
      refine c_ret (by kernel_rfl) ?_
      refine inB_r (then_r (then_r (inB_r (then_r ?_))))
      refine ret2 (t := 6) (u := 7) (v := .int .i64 ((k : Nat) : Int)) (v' := .int .i64 3) h86 (by kernel_rfl) (by kernel_rfl) (by kernel_rfl) ?_
      exact ⟨_, ret_eq (by rw [pfx_bad hx hc79]), hB78.bel⟩
    ·
      refine c_skip (by kernel_rfl) ?_
      refine inB_n ?_
      refine then_n ?_
      refine reg_plain [(0, false), (1, false)] (by kernel_rfl) (by kernel_rfl) ?_
      refine eE 0 30 (.binOp .add 3 (.tmp 12) (.const (.int .i64 1)) 3) 3 (.int .i64 (IntKind.i64.wrap (((k : Nat) : Int) + 1))) h77 fun q87 h88 => ?_
      clear h77
      refine eE 1 12 (.move (.tmp 30)) 3 (.int .i64 (IntKind.i64.wrap (((k : Nat) : Int) + 1))) h88 fun q89 h90 => ?_
      clear h88
      refine wpO_end ?_
      have h91 := h90.keep [(12, .int .i64 (IntKind.i64.wrap (((k : Nat) : Int) + 1))), (30, .int .i64 (IntKind.i64.wrap (((k : Nat) : Int) + 1))), (28, .bool ((decide (((k : Nat) : Int) < ((s.size : Nat) : Int))) && (!(clsB x (((chAt s k).toNat : Nat) : Int))))), (21, .bool (decide (((k : Nat) : Int) < ((s.size : Nat) : Int)))), (20, .bool (decide (((k : Nat) : Int) < ((s.size : Nat) : Int)))), (19, .int .i64 ((s.size : Nat) : Int)), (18, .string s), (17, .int .i64 ((k : Nat) : Int)), (9, .func (.func x) #[] #[]), (8, .int .i64 ((k : Nat) : Int)), (16, .func (.func x) #[] #[]), (15, .pointer (some ((ad.add (k * 1)).add 0))), (14, .int .i64 ((k : Nat) : Int)), (13, .bool (decide (((k : Nat) : Int) < ((cl.length : Nat) : Int)))), (10, .slice (some ad) cl.length c), (11, .int .i64 ((cl.length : Nat) : Int)), (0, .slice (some ad) cl.length c), (1, .int .i64 sh), (2, .string s), (6, .int .i64 0), (7, .int .i64 0)] ⟨rfl, rfl, rfl, rfl, rfl, rfl, rfl, rfl, rfl, rfl, rfl, rfl, rfl, rfl, rfl, rfl, rfl, rfl, rfl, rfl, rfl, trivial⟩
      clear h90
      have h92 := h91.keep [(10, .slice (some ad) cl.length c), (11, .int .i64 ((cl.length : Nat) : Int)), (12, .int .i64 (((k + 1) : Nat) : Int)), (0, .slice (some ad) cl.length c), (1, .int .i64 sh), (2, .string s), (6, .int .i64 0), (7, .int .i64 0)] ⟨rfl, rfl, look_int rfl (wrap_succ (by have := hn; omega)), rfl, rfl, rfl, rfl, rfl, trivial⟩
      have hm93 := h92.int (k := 12) (kd := .i64) (z := (((k + 1) : Nat) : Int)) rfl
      refine then_n ⟨⟨k + 1, by omega, h92, hB78, pfx_step hx17 hx hc79⟩, ?_⟩
      show (((cl.length : Int)) - intAt _ 12).toNat < (((cl.length : Int)) - intAt _ 12).toNat
      rw [hm16, hm93]; omega
  ·
    have hp94 : ¬ (((k : Nat) : Int) < ((cl.length : Nat) : Int)) := of_decide_eq_false hc20
    refine c_exit 0 (by kernel_rfl) ?_
    refine then_e (then_e (inB_hit ?_))
    refine then_n ?_
    refine c_seq (by kernel_rfl) ?_
    refine c_block 2 (by kernel_rfl) ?_
    refine c_seq (by kernel_rfl) ?_
    refine reg_plain [(0, false), (1, false), (2, false), (3, false), (4, false)] (by kernel_rfl) (by kernel_rfl) ?_
    refine eE 0 32 (.move (.tmp 2)) 9 (.string s) h19 fun q95 h96 => ?_
    clear h19
    refine eE 1 33 (.call { callee := .builtin .len, args := #[.tmp 32], argTypes := #[9] }) 3 (.int .i64 ((s.size : Nat) : Int)) h96 fun q97 h98 => ?_
    clear h96
    refine eE 2 34 (.move (.tmp 1)) 3 (.int .i64 sh) h98 fun q99 h100 => ?_
    clear h98
    refine eE 3 35 (.binOp .lss 3 (.tmp 33) (.tmp 34) 3) 4 (.bool (decide (((s.size : Nat) : Int) < sh))) h100 fun q101 h102 => ?_
    clear h100
    refine eE 4 31 (.assign (.tmp 35)) 4 (.bool (decide (((s.size : Nat) : Int) < sh))) h102 fun q103 h104 => ?_
    clear h102
    refine wpO_end ?_
    have h105 := h104.keep [(31, .bool (decide (((s.size : Nat) : Int) < sh))), (0, .slice A cl.length c), (2, .string s), (6, .int .i64 0), (7, .int .i64 0)] ⟨rfl, rfl, rfl, rfl, rfl, trivial⟩
    clear h104
    refine then_n ?_
    refine c_cond (t := 31) (b := decide (((s.size : Nat) : Int) < sh)) h105 (by kernel_rfl) (by kernel_rfl) (fun hc106 => ?_) (fun hc106 => ?_)
    ·
      have hp107 : (((s.size : Nat) : Int) < sh) := of_decide_eq_true hc106
      refine c_seq (by kernel_rfl) ?_
      refine reg_plain [(0, false), (1, false), (2, false), (3, false)] (by kernel_rfl) (by kernel_rfl) ?_
      refine eE 0 36 (.move (.tmp 2)) 9 (.string s) h105 fun q108 h109 => ?_
      clear h105
      refine eE 1 37 (.call { callee := .builtin .len, args := #[.tmp 36], argTypes := #[9] }) 3 (.int .i64 ((s.size : Nat) : Int)) h109 fun q110 h111 => ?_
      clear h109
      refine eE 2 6 (.assign (.tmp 37)) 3 (.int .i64 ((s.size : Nat) : Int)) h111 fun q112 h113 => ?_
      clear h111
      refine eE 3 7 (.assign (.const (.int .i64 4))) 26 (.int .i64 4) h113 fun q114 h115 => ?_
      clear h113
      refine wpO_end ?_
      have h116 := h115.keep [(7, .int .i64 4), (6, .int .i64 ((s.size : Nat) : Int)), (0, .slice A cl.length c), (2, .string s)] ⟨rfl, rfl, rfl, rfl, trivial⟩
      clear h115
      refine then_n ?_
      refine c_ret (by kernel_rfl) ?_
      refine inB_r (then_r ?_)
      refine ret2 (t := 6) (u := 7) (v := .int .i64 ((s.size : Nat) : Int)) (v' := .int .i64 4) h116 (by kernel_rfl) (by kernel_rfl) (by kernel_rfl) ?_
      exact ⟨_, ret_eq (by rw [pfx_ok hx17 (of_decide_eq_false hc20), hc106]; rfl), hB14.bel⟩
    ·
      have hp117 : ¬ (((s.size : Nat) : Int) < sh) := of_decide_eq_false hc106
      refine c_seq (by kernel_rfl) ?_
      refine reg_plain [(0, false), (1, false), (2, false), (3, false), (4, false), (5, false)] (by kernel_rfl) (by kernel_rfl) ?_
      refine eE 0 39 (.move (.tmp 2)) 9 (.string s) h105 fun q118 h119 => ?_
      clear h105
      refine eE 1 40 (.call { callee := .builtin .len, args := #[.tmp 39], argTypes := #[9] }) 3 (.int .i64 ((s.size : Nat) : Int)) h119 fun q120 h121 => ?_
      clear h119
      refine eE 2 41 (.move (.tmp 0)) 104 (.slice A cl.length c) h121 fun q122 h123 => ?_
      clear h121
      refine eE 3 42 (.call { callee := .builtin .len, args := #[.tmp 41], argTypes := #[104] }) 3 (.int .i64 ((cl.length : Nat) : Int)) h123 fun q124 h125 => ?_
      clear h123
      refine eE 4 43 (.binOp .gtr 3 (.tmp 40) (.tmp 42) 3) 4 (.bool (decide (((cl.length : Nat) : Int) < ((s.size : Nat) : Int)))) h125 fun q126 h127 => ?_
      clear h125
      refine eE 5 38 (.assign (.tmp 43)) 4 (.bool (decide (((cl.length : Nat) : Int) < ((s.size : Nat) : Int)))) h127 fun q128 h129 => ?_
      clear h127
      refine wpO_end ?_
      have h130 := h129.keep [(38, .bool (decide (((cl.length : Nat) : Int) < ((s.size : Nat) : Int)))), (0, .slice A cl.length c), (6, .int .i64 0), (7, .int .i64 0)] ⟨rfl, rfl, rfl, rfl, trivial⟩
      clear h129
      refine then_n ?_
      refine c_cond (t := 38) (b := decide (((cl.length : Nat) : Int) < ((s.size : Nat) : Int))) h130 (by kernel_rfl) (by kernel_rfl) (fun hc131 => ?_) (fun hc131 => ?_)
      ·
        have hp132 : (((cl.length : Nat) : Int) < ((s.size : Nat) : Int)) := of_decide_eq_true hc131
        refine c_seq (by kernel_rfl) ?_
        refine reg_plain [(0, false), (1, false), (2, false), (3, false)] (by kernel_rfl) (by kernel_rfl) ?_
        refine eE 0 44 (.move (.tmp 0)) 104 (.slice A cl.length c) h130 fun q133 h134 => ?_
        clear h130
        refine eE 1 45 (.call { callee := .builtin .len, args := #[.tmp 44], argTypes := #[104] }) 3 (.int .i64 ((cl.length : Nat) : Int)) h134 fun q135 h136 => ?_
        clear h134
        refine eE 2 6 (.assign (.tmp 45)) 3 (.int .i64 ((cl.length : Nat) : Int)) h136 fun q137 h138 => ?_
        clear h136
        refine eE 3 7 (.assign (.const (.int .i64 5))) 26 (.int .i64 5) h138 fun q139 h140 => ?_
        clear h138
        refine wpO_end ?_
        have h141 := h140.keep [(7, .int .i64 5), (6, .int .i64 ((cl.length : Nat) : Int))] ⟨rfl, rfl, trivial⟩
        clear h140
        refine then_n ?_
        refine c_ret (by kernel_rfl) ?_
        refine inB_r (then_r ?_)
        refine ret2 (t := 6) (u := 7) (v := .int .i64 ((cl.length : Nat) : Int)) (v' := .int .i64 5) h141 (by kernel_rfl) (by kernel_rfl) (by kernel_rfl) ?_
        exact ⟨_, ret_eq (by rw [pfx_ok hx17 (of_decide_eq_false hc20), hc106, hc131]; rfl), hB14.bel⟩
      ·
        have hp142 : ¬ (((cl.length : Nat) : Int) < ((s.size : Nat) : Int)) := of_decide_eq_false hc131
        refine c_skip (by kernel_rfl) ?_
        refine inB_n ?_
        refine then_n ?_
        refine c_seq (by kernel_rfl) ?_
        refine reg_plain [(0, false), (1, false)] (by kernel_rfl) (by kernel_rfl) ?_
        refine eE 0 6 (.assign (.const (.int .i64 0))) 3 (.int .i64 0) h130 fun q143 h144 => ?_
        clear h130
        refine eE 1 7 (.assign (.const (.int .i64 0))) 26 (.int .i64 0) h144 fun q145 h146 => ?_
        clear h144
        refine wpO_end ?_
        have h147 := h146.keep [(7, .int .i64 0), (6, .int .i64 0)] ⟨rfl, rfl, trivial⟩
        clear h146
        refine then_n ?_
        refine c_ret (by kernel_rfl) ?_
        refine ret2 (t := 6) (u := 7) (v := .int .i64 0) (v' := .int .i64 0) h147 (by kernel_rfl) (by kernel_rfl) (by kernel_rfl) ?_
        exact ⟨_, ret_eq (by rw [pfx_ok hx17 (of_decide_eq_false hc20), hc106, hc131]; rfl), hB14.bel⟩

end Go.Proofs.YtljegdokbifoiaaDoor.Af
