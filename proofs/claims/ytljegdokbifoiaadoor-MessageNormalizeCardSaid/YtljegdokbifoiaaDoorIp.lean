/- The test of an identifier's first characters. Short lists. -/
import Derived.Test.YtljegdokbifoiaaDoorIk
namespace Go.Proofs.YtljegdokbifoiaaDoor.Af
open Go.RowKit
theorem clV_get (l : List Nat) (k x : Nat) (h : l[k]? = some x) : ∀ j u, ([fnV x] : List Value)[j]? = some u → (l.map fnV)[k * 1 + j]? = some u := by
  intro j u hj
  match j, hj with
  | 0, hj =>
    rw [List.getElem?_map, Nat.add_zero, Nat.mul_one, h]
    exact hj

set_option maxHeartbeats 4000000 in
set_option maxRecDepth 20000 in
theorem c68 (cl : List Nat) (A : Option Addr) (c : Nat) (sh : Int) (s : ByteArray) (w : World) (hn : cl.length ≤ 1000) (hcl : ∀ g ∈ cl, g = 86 ∨ g = 87 ∨ g = 88 ∨ g = 90) (hr : Rd w A (cl.map fnV)) : Calls Tryd.prog 68 #[.slice A cl.length c, .int .i64 sh, .string s] w (fun e w' => ∃ at' : Int, e = .returned (.tuple #[.int .i64 at', .int .i64 (pfxE cl sh s)]) ∧ Below w.heap.size w w') := by
  refine enter Tryd.func68 (by kernel_rfl) ?_ (by kernel_rfl)
  intro q0 h0
  replace h0 := h0.conv (l' := [(0, .slice A cl.length c), (1, .int .i64 sh), (2, .string s)]) rfl
  have hB := Bx.refl w
  refine kS ?_
  refine rp 2 ?_
  refine b0 (.C 0 6 <| .C 1 7 <| .nil) [(7, .int .i64 0), (6, .int .i64 0), (0, .slice A cl.length c), (1, .int .i64 sh), (2, .string s)] h0 (Kw.nil hB) fun q1 h2 => ?_
  clear h0
  refine wpO_end ?_
  refine then_n ?_
  refine kS ?_
  refine kS ?_
  refine rp 3 ?_
  refine b0 (.C 0 10 <| .E 1 11 (.int .i64 ((cl.length : Nat) : Int)) <| .C 2 12 <| .nil) [(12, .int .i64 0), (11, .int .i64 ((cl.length : Nat) : Int)), (10, .slice A cl.length c), (7, .int .i64 0), (6, .int .i64 0), (0, .slice A cl.length c), (1, .int .i64 sh), (2, .string s)] h2 (Kw.nil hB) fun q3 h4 => ?_
  clear h2
  refine wpO_end ?_
  refine then_n ?_
  refine c_block 0 (by kernel_rfl) ?_
  refine c_loop (by kernel_rfl) (fun qa qw => ∃ k : Nat, (k ≤ cl.length) ∧ Fr 46 [(10, .slice A cl.length c), (11, .int .i64 ((cl.length : Nat) : Int)), (12, .int .i64 ((k : Nat) : Int)), (0, .slice A cl.length c), (1, .int .i64 sh), (2, .string s), (6, .int .i64 0), (7, .int .i64 0)] qa ∧ Bx w [] qw ∧ (∀ (j : Nat) (g : Nat) (c : UInt8), j < k → cl[j]? = some g → s.data.toList[j]? = some c → clsB g (c.toNat : Int) = true)) (fun qa _ => (((cl.length : Int)) - intAt qa 12).toNat) ⟨0, Nat.zero_le _, h4.keep _ ⟨rfl, rfl, rfl, rfl, rfl, rfl, rfl, rfl, trivial⟩, hB, fun j _ _ hj => absurd hj (Nat.not_lt_zero _)⟩ ?_
  rintro q5 w6 ⟨k, hk9, h7, hB8, hx11⟩
  have hm10 := h7.int (k := 12) (kd := .i64) (z := ((k : Nat) : Int)) rfl
  clear h4 hB
  refine kS ?_
  refine rp 1 ?_
  refine b0 (.E 0 13 (.bool (decide (((k : Nat) : Int) < ((cl.length : Nat) : Int)))) <| .nil) [(13, .bool (decide (((k : Nat) : Int) < ((cl.length : Nat) : Int)))), (10, .slice A cl.length c), (11, .int .i64 ((cl.length : Nat) : Int)), (12, .int .i64 ((k : Nat) : Int)), (0, .slice A cl.length c), (1, .int .i64 sh), (2, .string s), (6, .int .i64 0), (7, .int .i64 0)] h7 (Kw.nil hB8) fun q12 h13 => ?_
  clear h7
  refine wpO_end ?_
  refine then_n ?_
  refine kS ?_
  refine kC 13 (decide (((k : Nat) : Int) < ((cl.length : Nat) : Int))) h13 (fun hc14 => ?_) (fun hc14 => ?_)
  ·
    have hp15 : (((k : Nat) : Int) < ((cl.length : Nat) : Int)) := of_decide_eq_true hc14
    have hlt : k < cl.length := by omega
    obtain ⟨x, hx⟩ : ∃ x, cl[k]? = some x := ⟨cl[k], List.getElem?_eq_getElem hlt⟩
    obtain ⟨ad, hA, hE0⟩ := hr.el (k * 1) [fnV x] (by simp) (clV_get cl k x hx)
    subst hA
    refine c_skip (by kernel_rfl) ?_
    refine then_n ?_
    refine kS ?_
    refine c_block 1 (by kernel_rfl) ?_
    refine kS ?_
    refine rp 5 ?_
    refine b0 (.C 0 14 <| .nil) [(14, .int .i64 ((k : Nat) : Int)), (13, .bool (decide (((k : Nat) : Int) < ((cl.length : Nat) : Int)))), (10, .slice (some ad) cl.length c), (11, .int .i64 ((cl.length : Nat) : Int)), (12, .int .i64 ((k : Nat) : Int)), (0, .slice (some ad) cl.length c), (1, .int .i64 sh), (2, .string s), (6, .int .i64 0), (7, .int .i64 0)] h13 (Kw.nil hB8) fun q16 h17 => ?_
    clear h13
    refine eE 1 15 (.indexAddr 104 (.tmp 10) (.tmp 12)) 0 (.pointer (some ((ad.add (k * 1)).add 0))) h17 (hr := r_index0 (n := cl.length) (c := c) (kd := .i64) (by kernel_rfl) (by kernel_rfl) hlt (by kernel_rfl)) fun q18 h19 => ?_
    clear h17
    refine b0 (.X 2 16 0 0 <| .C 3 8 <| .C 4 9 <| .nil) [(9, .func (.func x) #[] #[]), (8, .int .i64 ((k : Nat) : Int)), (13, .bool (decide (((k : Nat) : Int) < ((cl.length : Nat) : Int)))), (10, .slice (some ad) cl.length c), (11, .int .i64 ((cl.length : Nat) : Int)), (12, .int .i64 ((k : Nat) : Int)), (0, .slice (some ad) cl.length c), (1, .int .i64 sh), (2, .string s), (6, .int .i64 0), (7, .int .i64 0)] h19 ((Kw.nil hB8).cons (hE0.below hB8.bel)) fun q20 h21 => ?_
    clear h19
    refine wpO_end ?_
    refine then_n ?_
    refine kS ?_
    refine rp 12 ?_
    refine b0 (.C 0 17 <| .C 1 18 <| .E 2 19 (.int .i64 ((s.size : Nat) : Int)) <| .E 3 20 (.bool (decide (((k : Nat) : Int) < ((s.size : Nat) : Int)))) <| .C 4 21 <| .nil) [(21, .bool (decide (((k : Nat) : Int) < ((s.size : Nat) : Int)))), (9, .func (.func x) #[] #[]), (8, .int .i64 ((k : Nat) : Int)), (13, .bool (decide (((k : Nat) : Int) < ((cl.length : Nat) : Int)))), (10, .slice (some ad) cl.length c), (11, .int .i64 ((cl.length : Nat) : Int)), (12, .int .i64 ((k : Nat) : Int)), (0, .slice (some ad) cl.length c), (1, .int .i64 sh), (2, .string s), (6, .int .i64 0), (7, .int .i64 0)] h21 (Kw.nil hB8) fun q22 h23 => ?_
    clear h21
    refine wpO_cut [(5, false), (6, false), (7, false), (8, false), (9, false), (10, false), (11, false)] [] (fun qa qw => Fr 46 [(28, .bool ((decide (((k : Nat) : Int) < ((s.size : Nat) : Int))) && (!(clsB x (((chAt s k).toNat : Nat) : Int))))), (9, .func (.func x) #[] #[]), (8, .int .i64 ((k : Nat) : Int)), (13, .bool (decide (((k : Nat) : Int) < ((cl.length : Nat) : Int)))), (10, .slice (some ad) cl.length c), (11, .int .i64 ((cl.length : Nat) : Int)), (12, .int .i64 ((k : Nat) : Int)), (0, .slice (some ad) cl.length c), (1, .int .i64 sh), (2, .string s), (6, .int .i64 0), (7, .int .i64 0)] qa ∧ Bx w [] qw) ?_ ?_
    ·
      rcases Bool.eq_false_or_eq_true (decide (((k : Nat) : Int) < ((s.size : Nat) : Int))) with hc24 | hc24
      ·
        refine b1 21 hc24 (.C 5 22 <| .C 6 23 <| .C 7 24 <| .nil) [(24, .int .i64 ((k : Nat) : Int)), (23, .string s), (22, .func (.func x) #[] #[]), (21, .bool (decide (((k : Nat) : Int) < ((s.size : Nat) : Int)))), (9, .func (.func x) #[] #[]), (8, .int .i64 ((k : Nat) : Int)), (13, .bool (decide (((k : Nat) : Int) < ((cl.length : Nat) : Int)))), (10, .slice (some ad) cl.length c), (11, .int .i64 ((cl.length : Nat) : Int)), (12, .int .i64 ((k : Nat) : Int)), (0, .slice (some ad) cl.length c), (1, .int .i64 sh), (2, .string s), (6, .int .i64 0), (7, .int .i64 0)] h23 (Kw.nil hB8) fun q25 h26 => ?_
        clear h23
        refine eG 8 25 (.index 9 (.tmp 23) (.tmp 24)) 5 (4, true) (.int .u8 (((chAt s k).toNat : Nat) : Int)) (g1 21 hc24) h26 (hr := r_indexS (kd := .i64) (i := k) (b := (chAt s k)) (by kernel_rfl) (by kernel_rfl) (getSd hc24) (by kernel_rfl)) fun q27 h28 => ?_
        clear h26
        refine stC (i := 9) (d := 26) (op := Op.call { callee := Callee.value (Operand.tmp 22), args := #[Operand.tmp 25], argTypes := #[5] }) (ty := 4) (g := (some (4, true))) (f := x) (args := #[.int .u8 (((chAt s k).toNat : Nat) : Int)]) (w1 := w6) h28 (by kernel_rfl) (by kernel_rfl) (by kernel_rfl) (g1 21 hc24) (by rcases hcl x (List.mem_of_getElem? hx) with rfl | rfl | rfl | rfl <;> kernel_rfl) (cCls x (hcl x (List.mem_of_getElem? hx)) (((chAt s k).toNat : Nat) : Int) w6) ?_
        rintro _ w31 ⟨rfl, hb32⟩
        have hB33 := hB8.call hb32
        refine ⟨_, rfl, trivial, fun q29 h30 => ?_⟩
        clear h28 hB8 hb32
        refine b1 21 hc24 (.E 10 27 (.bool (!(clsB x (((chAt s k).toNat : Nat) : Int)))) <| .nil) [(27, .bool (!(clsB x (((chAt s k).toNat : Nat) : Int)))), (21, .bool (decide (((k : Nat) : Int) < ((s.size : Nat) : Int)))), (9, .func (.func x) #[] #[]), (8, .int .i64 ((k : Nat) : Int)), (13, .bool (decide (((k : Nat) : Int) < ((cl.length : Nat) : Int)))), (10, .slice (some ad) cl.length c), (11, .int .i64 ((cl.length : Nat) : Int)), (12, .int .i64 ((k : Nat) : Int)), (0, .slice (some ad) cl.length c), (1, .int .i64 sh), (2, .string s), (6, .int .i64 0), (7, .int .i64 0)] h30 (Kw.nil hB33) fun q34 h35 => ?_
        clear h30
        refine eE 11 28 (.pick (.tmp 21) (.tmp 27) (.const (.bool false))) 4 (.bool ((decide (((k : Nat) : Int) < ((s.size : Nat) : Int))) && (!(clsB x (((chAt s k).toNat : Nat) : Int))))) h35 (hr := r_and (c := decide (((k : Nat) : Int) < ((s.size : Nat) : Int))) (d := (!(clsB x (((chAt s k).toNat : Nat) : Int)))) (by kernel_rfl) (fun _ => by kernel_rfl)) fun q36 h37 => ?_
        clear h35
        exact ⟨h37.keep _ ⟨rfl, rfl, rfl, rfl, rfl, rfl, rfl, rfl, rfl, rfl, rfl, rfl, trivial⟩, hB33⟩
      ·
        refine b1 21 hc24 (.K 5 22 <| .K 6 23 <| .K 7 24 <| .K 8 25 <| .K 9 26 <| .K 10 27 <| .nil) [(27, undef), (21, .bool (decide (((k : Nat) : Int) < ((s.size : Nat) : Int)))), (9, .func (.func x) #[] #[]), (8, .int .i64 ((k : Nat) : Int)), (13, .bool (decide (((k : Nat) : Int) < ((cl.length : Nat) : Int)))), (10, .slice (some ad) cl.length c), (11, .int .i64 ((cl.length : Nat) : Int)), (12, .int .i64 ((k : Nat) : Int)), (0, .slice (some ad) cl.length c), (1, .int .i64 sh), (2, .string s), (6, .int .i64 0), (7, .int .i64 0)] h23 (Kw.nil hB8) fun q38 h39 => ?_
        clear h23
        refine eE 11 28 (.pick (.tmp 21) (.tmp 27) (.const (.bool false))) 4 (.bool ((decide (((k : Nat) : Int) < ((s.size : Nat) : Int))) && (!(clsB x (((chAt s k).toNat : Nat) : Int))))) h39 (hr := r_and (c := decide (((k : Nat) : Int) < ((s.size : Nat) : Int))) (d := (!(clsB x (((chAt s k).toNat : Nat) : Int)))) (by kernel_rfl) (fun e42 => Bool.noConfusion (e42.symm.trans hc24))) fun q40 h41 => ?_
        clear h39
        exact ⟨h41.keep _ ⟨rfl, rfl, rfl, rfl, rfl, rfl, rfl, rfl, rfl, rfl, rfl, rfl, trivial⟩, hB8⟩
    rintro q43 w44 ⟨h45, hB46⟩
    refine wpO_end ?_
    refine then_n ?_
    refine kC 28 ((decide (((k : Nat) : Int) < ((s.size : Nat) : Int))) && (!(clsB x (((chAt s k).toNat : Nat) : Int)))) h45 (fun hc47 => ?_) (fun hc47 => ?_)
    ·
      refine kS ?_
      refine rp 3 ?_
      refine b0 (.C 0 29 <| .C 1 6 <| .C 2 7 <| .nil) [(7, .int .i64 3), (6, .int .i64 ((k : Nat) : Int)), (28, .bool ((decide (((k : Nat) : Int) < ((s.size : Nat) : Int))) && (!(clsB x (((chAt s k).toNat : Nat) : Int))))), (9, .func (.func x) #[] #[]), (8, .int .i64 ((k : Nat) : Int)), (13, .bool (decide (((k : Nat) : Int) < ((cl.length : Nat) : Int)))), (10, .slice (some ad) cl.length c), (11, .int .i64 ((cl.length : Nat) : Int)), (12, .int .i64 ((k : Nat) : Int)), (0, .slice (some ad) cl.length c), (1, .int .i64 sh), (2, .string s)] h45 (Kw.nil hB46) fun q48 h49 => ?_
      clear h45
      refine wpO_end ?_
      refine then_n ?_
      refine c_ret (by kernel_rfl) ?_
      refine inB_r (then_r (then_r (inB_r (then_r ?_))))
      refine ret2 (t := 6) (u := 7) (v := .int .i64 ((k : Nat) : Int)) (v' := .int .i64 3) h49 (by kernel_rfl) (by kernel_rfl) (by kernel_rfl) ?_
      exact ⟨_, ret_eq (by rw [pfx_bad hx hc47]), hB46.bel⟩
    refine c_skip (by kernel_rfl) ?_
    refine inB_n ?_
    refine then_n ?_
    refine rp 2 ?_
    refine b0 (.E 0 30 (.int .i64 (IntKind.i64.wrap (((k : Nat) : Int) + 1))) <| .C 1 12 <| .nil) [(12, .int .i64 (IntKind.i64.wrap (((k : Nat) : Int) + 1))), (28, .bool ((decide (((k : Nat) : Int) < ((s.size : Nat) : Int))) && (!(clsB x (((chAt s k).toNat : Nat) : Int))))), (9, .func (.func x) #[] #[]), (8, .int .i64 ((k : Nat) : Int)), (13, .bool (decide (((k : Nat) : Int) < ((cl.length : Nat) : Int)))), (10, .slice (some ad) cl.length c), (11, .int .i64 ((cl.length : Nat) : Int)), (0, .slice (some ad) cl.length c), (1, .int .i64 sh), (2, .string s), (6, .int .i64 0), (7, .int .i64 0)] h45 (Kw.nil hB46) fun q50 h51 => ?_
    clear h45
    refine wpO_end ?_
    have h52 := h51.keep [(10, .slice (some ad) cl.length c), (11, .int .i64 ((cl.length : Nat) : Int)), (12, .int .i64 (((k + 1) : Nat) : Int)), (0, .slice (some ad) cl.length c), (1, .int .i64 sh), (2, .string s), (6, .int .i64 0), (7, .int .i64 0)] ⟨rfl, rfl, look_int rfl (wrap_succ (by have := hn; omega)), rfl, rfl, rfl, rfl, rfl, trivial⟩
    have hm53 := h52.int (k := 12) (kd := .i64) (z := (((k + 1) : Nat) : Int)) rfl
    refine then_n ⟨⟨k + 1, by omega, h52, hB46, pfx_step hx11 hx hc47⟩, ?_⟩
    show (((cl.length : Int)) - intAt _ 12).toNat < (((cl.length : Int)) - intAt _ 12).toNat
    rw [hm10, hm53]; omega
  have hp54 : ¬ (((k : Nat) : Int) < ((cl.length : Nat) : Int)) := of_decide_eq_false hc14
  refine c_exit 0 (by kernel_rfl) ?_
  refine then_e (then_e (inB_hit ?_))
  refine then_n ?_
  refine kS ?_
  refine c_block 2 (by kernel_rfl) ?_
  refine kS ?_
  refine rp 5 ?_
  refine b0 (.C 0 32 <| .E 1 33 (.int .i64 ((s.size : Nat) : Int)) <| .C 2 34 <| .E 3 35 (.bool (decide (((s.size : Nat) : Int) < sh))) <| .C 4 31 <| .nil) [(31, .bool (decide (((s.size : Nat) : Int) < sh))), (0, .slice A cl.length c), (2, .string s), (6, .int .i64 0), (7, .int .i64 0)] h13 (Kw.nil hB8) fun q55 h56 => ?_
  clear h13
  refine wpO_end ?_
  refine then_n ?_
  refine kC 31 (decide (((s.size : Nat) : Int) < sh)) h56 (fun hc57 => ?_) (fun hc57 => ?_)
  ·
    have hp58 : (((s.size : Nat) : Int) < sh) := of_decide_eq_true hc57
    refine kS ?_
    refine rp 4 ?_
    refine b0 (.C 0 36 <| .E 1 37 (.int .i64 ((s.size : Nat) : Int)) <| .C 2 6 <| .C 3 7 <| .nil) [(7, .int .i64 4), (6, .int .i64 ((s.size : Nat) : Int)), (0, .slice A cl.length c), (2, .string s)] h56 (Kw.nil hB8) fun q59 h60 => ?_
    clear h56
    refine wpO_end ?_
    refine then_n ?_
    refine c_ret (by kernel_rfl) ?_
    refine inB_r (then_r ?_)
    refine ret2 (t := 6) (u := 7) (v := .int .i64 ((s.size : Nat) : Int)) (v' := .int .i64 4) h60 (by kernel_rfl) (by kernel_rfl) (by kernel_rfl) ?_
    exact ⟨_, ret_eq (by rw [pfx_ok hx11 (of_decide_eq_false hc14), hc57]; rfl), hB8.bel⟩
  have hp61 : ¬ (((s.size : Nat) : Int) < sh) := of_decide_eq_false hc57
  refine kS ?_
  refine rp 6 ?_
  refine b0 (.C 0 39 <| .E 1 40 (.int .i64 ((s.size : Nat) : Int)) <| .C 2 41 <| .E 3 42 (.int .i64 ((cl.length : Nat) : Int)) <| .E 4 43 (.bool (decide (((cl.length : Nat) : Int) < ((s.size : Nat) : Int)))) <| .C 5 38 <| .nil) [(38, .bool (decide (((cl.length : Nat) : Int) < ((s.size : Nat) : Int)))), (0, .slice A cl.length c), (6, .int .i64 0), (7, .int .i64 0)] h56 (Kw.nil hB8) fun q62 h63 => ?_
  clear h56
  refine wpO_end ?_
  refine then_n ?_
  refine kC 38 (decide (((cl.length : Nat) : Int) < ((s.size : Nat) : Int))) h63 (fun hc64 => ?_) (fun hc64 => ?_)
  ·
    have hp65 : (((cl.length : Nat) : Int) < ((s.size : Nat) : Int)) := of_decide_eq_true hc64
    refine kS ?_
    refine rp 4 ?_
    refine b0 (.C 0 44 <| .E 1 45 (.int .i64 ((cl.length : Nat) : Int)) <| .C 2 6 <| .C 3 7 <| .nil) [(7, .int .i64 5), (6, .int .i64 ((cl.length : Nat) : Int))] h63 (Kw.nil hB8) fun q66 h67 => ?_
    clear h63
    refine wpO_end ?_
    refine then_n ?_
    refine c_ret (by kernel_rfl) ?_
    refine inB_r (then_r ?_)
    refine ret2 (t := 6) (u := 7) (v := .int .i64 ((cl.length : Nat) : Int)) (v' := .int .i64 5) h67 (by kernel_rfl) (by kernel_rfl) (by kernel_rfl) ?_
    exact ⟨_, ret_eq (by rw [pfx_ok hx11 (of_decide_eq_false hc14), hc57, hc64]; rfl), hB8.bel⟩
  have hp68 : ¬ (((cl.length : Nat) : Int) < ((s.size : Nat) : Int)) := of_decide_eq_false hc64
  refine c_skip (by kernel_rfl) ?_
  refine inB_n ?_
  refine then_n ?_
  refine kS ?_
  refine rp 2 ?_
  refine b0 (.C 0 6 <| .C 1 7 <| .nil) [(7, .int .i64 0), (6, .int .i64 0)] h63 (Kw.nil hB8) fun q69 h70 => ?_
  clear h63
  refine wpO_end ?_
  refine then_n ?_
  refine c_ret (by kernel_rfl) ?_
  refine ret2 (t := 6) (u := 7) (v := .int .i64 0) (v' := .int .i64 0) h70 (by kernel_rfl) (by kernel_rfl) (by kernel_rfl) ?_
  exact ⟨_, ret_eq (by rw [pfx_ok hx11 (of_decide_eq_false hc14), hc57, hc64]; rfl), hB8.bel⟩

end Go.Proofs.YtljegdokbifoiaaDoor.Af
