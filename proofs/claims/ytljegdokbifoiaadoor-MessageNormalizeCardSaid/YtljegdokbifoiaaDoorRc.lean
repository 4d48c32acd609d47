/- The reference's check of identifiers. No condition. -/
import Derived.Test.YtljegdokbifoiaaDoorRi
namespace Go.Proofs.YtljegdokbifoiaaDoor.Af
open Go.RowKit
theorem refb_bad1 (s : ByteArray) {e : Int} (h : pfxE (clsOf sp1) 4 s = e) : (e == 0) = memB s := by unfold memB; rw [h]
theorem refb_bad2 (s : ByteArray) {e : Int} (h : pfxE (clsOf sp2) 1 s = e) : (e == 0) = rfB s := by unfold rfB; rw [h]
theorem refb_ok1 (s : ByteArray) (h : pfxE (clsOf sp1) 4 s = 0) : ((0 : Int) == 0) = memB s := by unfold memB; rw [h]
theorem refb_ok2 (s : ByteArray) (h : pfxE (clsOf sp2) 1 s = 0) : ((0 : Int) == 0) = rfB s := by unfold rfB; rw [h]
theorem isin_bad (s : ByteArray) {e : Int} (h : pfxE (clsOf sp0) 12 s = e) (he : (e == 0) = false) : (e == 0) = isinB s := by
  unfold isinB
  rw [h, he, Bool.false_and]
theorem isin_r (s : ByteArray) (b : Bool) (h : pfxE (clsOf sp0) 12 s = 0) (e : Int) (h2 : (IntKind.i64.wrap (IntKind.u8.wrap ((((chAt s 11).toNat : Nat) : Int) - 48)) != ((luhnD (s.extract 0 11).data.toList : Nat) : Int)) = b) (he : (e == 0) = !b) : (e == 0) = isinB s := by
  refine isin_q s b e he (by rw [h]; rfl) ?_
  rw [← chk_digit s h]
  exact h2

set_option maxHeartbeats 4000000 in
set_option maxRecDepth 20000 in
theorem c63_0 (s : ByteArray) (w : World) : Calls Tryd.prog 63 #[.int .i64 0, .string s] w (fun e w' => ∃ at' E : Int, e = .returned (.tuple #[.int .i64 at', .int .i64 E]) ∧ (E == 0) = isinB s ∧ Below w.heap.size w w') := by
  refine enter Tryd.func63 (by kernel_rfl) ?_ (by kernel_rfl)
  intro q0 h0
  replace h0 := h0.conv (l' := [(0, .int .i64 0), (1, .string s)]) rfl
  have hB := Bx.refl w
  refine kS ?_
  refine rp 2 ?_
  refine b0 (.C 0 4 <| .C 1 5 <| .nil) [(5, .int .i64 0), (4, .int .i64 0), (0, .int .i64 0), (1, .string s)] h0 (Kw.nil hB) fun q1 h2 => ?_
  clear h0
  refine wpO_end ?_
  refine then_n ?_
  refine kS ?_
  refine kS ?_
  refine rp 6 ?_
  refine b1 11 (rfl : false = false) (.C 0 9 <| .E 1 10 (.bool false) <| .C 2 11 <| .C 3 12 <| .E 4 13 (.bool false) <| .E 5 14 (.bool false) <| .nil) [(14, .bool false), (5, .int .i64 0), (4, .int .i64 0), (0, .int .i64 0), (1, .string s)] h2 (Kw.nil hB) fun q3 h4 => ?_
  clear h2
  refine wpO_end ?_
  refine then_n ?_
  refine kC 14 false h4 (fun e5 => Bool.noConfusion (e5.symm.trans (rfl))) (fun _ => ?_)
  refine c_skip (by kernel_rfl) ?_
  refine then_n ?_
  refine kS ?_
  refine rp 7 ?_
  refine b0 (.C 0 16 <| .nil) [(16, .int .i64 0), (5, .int .i64 0), (4, .int .i64 0), (0, .int .i64 0), (1, .string s)] h4 (Kw.nil hB) fun q6 h7 => ?_
  clear h4
  refine sC 1 17 h7 gok_none (c70_0 w) ?_
  rintro _ w10 ⟨rfl, hb11⟩
  have hB12 := hB.call hb11
  refine ⟨_, rfl, trivial, fun q8 h9 => ?_⟩
  clear h7 hB hb11
  refine b0 (.C 2 15 <| .E 3 18 (.int .i64 12) <| .E 4 19 (.int .i64 12) <| .C 5 6 <| .C 6 7 <| .nil) [(7, .int .i64 12), (6, .int .i64 12), (5, .int .i64 0), (4, .int .i64 0), (0, .int .i64 0), (1, .string s)] h9 (Kw.nil hB12) fun q13 h14 => ?_
  clear h9
  refine wpO_end ?_
  refine then_n ?_
  refine kS ?_
  refine kS ?_
  refine rp 1 ?_
  refine b0 (.C 0 8 <| .nil) [(8, .int .i64 0), (7, .int .i64 12), (6, .int .i64 12), (5, .int .i64 0), (4, .int .i64 0), (0, .int .i64 0), (1, .string s)] h14 (Kw.nil hB12) fun q15 h16 => ?_
  clear h14
  refine wpO_end ?_
  refine then_n ?_
  refine c_block 0 (by kernel_rfl) ?_
  refine c_loop (by kernel_rfl) (fun qa qw => ∃ k : Nat, (k ≤ s.size) ∧ Fr 75 [(0, .int .i64 0), (1, .string s), (4, .int .i64 0), (5, .int .i64 0), (6, .int .i64 12), (7, .int .i64 12), (8, .int .i64 ((k : Nat) : Int))] qa ∧ Bx w [] qw ∧ (∀ (j : Nat) (g : Nat) (c : UInt8), j < k → (clsOf sp0)[j]? = some g → s.data.toList[j]? = some c → clsB g (c.toNat : Int) = true)) (fun qa _ => (((s.size : Int)) - intAt qa 8).toNat) ⟨0, Nat.zero_le _, h16.keep _ ⟨rfl, rfl, rfl, rfl, rfl, rfl, rfl, trivial⟩, hB12, fun j _ _ hj => absurd hj (Nat.not_lt_zero _)⟩ ?_
  rintro q17 w18 ⟨k, hk21, h19, hB20, hx23⟩
  have hm22 := h19.int (k := 8) (kd := .i64) (z := ((k : Nat) : Int)) rfl
  clear h16 hB12
  refine kS ?_
  refine kS ?_
  refine rp 9 ?_
  refine b0 (.C 0 20 <| .C 1 21 <| .E 2 22 (.int .i64 ((s.size : Nat) : Int)) <| .E 3 23 (.bool (decide (((k : Nat) : Int) < ((s.size : Nat) : Int)))) <| .C 4 24 <| .J 8 28 24 27 true (decide (((k : Nat) : Int) < ((s.size : Nat) : Int))) (decide (((k : Nat) : Int) < (12 : Int))) (.C 5 25 <| .C 6 26 <| .E 7 27 (.bool (decide (((k : Nat) : Int) < (12 : Int)))) <| .nil) <| .nil) [(28, .bool ((decide (((k : Nat) : Int) < ((s.size : Nat) : Int))) && (decide (((k : Nat) : Int) < (12 : Int))))), (0, .int .i64 0), (1, .string s), (4, .int .i64 0), (5, .int .i64 0), (6, .int .i64 12), (7, .int .i64 12), (8, .int .i64 ((k : Nat) : Int))] h19 (Kw.nil hB20) fun q24 h25 => ?_
  clear h19
  refine wpO_end ?_
  refine then_n ?_
  refine kC 28 ((decide (((k : Nat) : Int) < ((s.size : Nat) : Int))) && (decide (((k : Nat) : Int) < (12 : Int)))) h25 (fun hc26 => ?_) (fun hc26 => ?_)
  ·
    have hlt : k < s.size ∧ k < 12 := by have := hc26; simp at this; omega
    obtain ⟨x, hx⟩ : ∃ x, (clsOf sp0)[k]? = some x := ⟨(clsOf sp0)[k]'hlt.2, List.getElem?_eq_getElem (show k < (clsOf sp0).length from hlt.2)⟩
    refine c_skip (by kernel_rfl) ?_
    refine then_n ?_
    refine kS ?_
    refine c_block 1 (by kernel_rfl) ?_
    refine kS ?_
    refine rp 7 ?_
    refine b0 (.C 0 31 <| .C 1 32 <| .C 2 33 <| .C 3 34 <| .nil) [(34, .int .i64 ((k : Nat) : Int)), (33, .string s), (32, .int .i64 ((k : Nat) : Int)), (31, .int .i64 0), (28, .bool ((decide (((k : Nat) : Int) < ((s.size : Nat) : Int))) && (decide (((k : Nat) : Int) < (12 : Int))))), (0, .int .i64 0), (1, .string s), (4, .int .i64 0), (5, .int .i64 0), (6, .int .i64 12), (7, .int .i64 12), (8, .int .i64 ((k : Nat) : Int))] h25 (Kw.nil hB20) fun q27 h28 => ?_
    clear h25
    refine eE 4 35 (.index 9 (.tmp 33) (.tmp 34)) 5 (.int .u8 (((chAt s k).toNat : Nat) : Int)) h28 (hr := r_indexS (kd := .i64) (i := k) (b := (chAt s k)) (by kernel_rfl) (by kernel_rfl) (getS (by omega)) (by kernel_rfl)) fun q29 h30 => ?_
    clear h28
    refine sC 5 36 h30 gok_none (c71_0 ((k : Nat) : Int) (((chAt s k).toNat : Nat) : Int) w18) ?_
    rintro _ w33 ⟨rfl, hb34⟩
    have hB35 := hB20.call hb34
    refine ⟨_, rfl, trivial, fun q31 h32 => ?_⟩
    clear h30 hB20 hb34
    refine b0 (.E 6 37 (.bool (!(mayB 0 ((k : Nat) : Int) (((chAt s k).toNat : Nat) : Int)))) <| .nil) [(37, .bool (!(mayB 0 ((k : Nat) : Int) (((chAt s k).toNat : Nat) : Int)))), (28, .bool ((decide (((k : Nat) : Int) < ((s.size : Nat) : Int))) && (decide (((k : Nat) : Int) < (12 : Int))))), (0, .int .i64 0), (1, .string s), (4, .int .i64 0), (5, .int .i64 0), (6, .int .i64 12), (7, .int .i64 12), (8, .int .i64 ((k : Nat) : Int))] h32 (Kw.nil hB35) fun q36 h37 => ?_
    clear h32
    refine wpO_end ?_
    refine then_n ?_
    refine kC 37 (!(mayB 0 ((k : Nat) : Int) (((chAt s k).toNat : Nat) : Int))) h37 (fun hc38 => ?_) (fun hc38 => ?_)
    ·
      rw [may_cls 0 (by decide) k x _ hx] at hc38
      refine kS ?_
      refine rp 3 ?_
      refine b0 (.C 0 38 <| .C 1 4 <| .C 2 5 <| .nil) [(5, .int .i64 3), (4, .int .i64 ((k : Nat) : Int)), (37, .bool (!(mayB 0 ((k : Nat) : Int) (((chAt s k).toNat : Nat) : Int)))), (28, .bool ((decide (((k : Nat) : Int) < ((s.size : Nat) : Int))) && (decide (((k : Nat) : Int) < (12 : Int))))), (0, .int .i64 0), (1, .string s), (6, .int .i64 12), (7, .int .i64 12), (8, .int .i64 ((k : Nat) : Int))] h37 (Kw.nil hB35) fun q39 h40 => ?_
      clear h37
      refine wpO_end ?_
      refine then_n ?_
      refine c_ret (by kernel_rfl) ?_
      refine inB_r (then_r (then_r (inB_r (then_r ?_))))
      refine ret2 (t := 4) (u := 5) (v := .int .i64 ((k : Nat) : Int)) (v' := .int .i64 3) h40 (by kernel_rfl) (by kernel_rfl) (by kernel_rfl) ?_
      exact ⟨_, _, rfl, isin_bad s (pfx_bad (sh := 12) hx (by rw [decide_eq_true (by omega), Bool.true_and]; exact hc38)) rfl, hB35.bel⟩
    rw [may_cls 0 (by decide) k x _ hx] at hc38
    refine c_skip (by kernel_rfl) ?_
    refine inB_n ?_
    refine then_n ?_
    refine rp 3 ?_
    refine b0 (.C 0 29 <| .E 1 30 (.int .i64 (IntKind.i64.wrap (((k : Nat) : Int) + 1))) <| .C 2 8 <| .nil) [(8, .int .i64 (IntKind.i64.wrap (((k : Nat) : Int) + 1))), (37, .bool (!(mayB 0 ((k : Nat) : Int) (((chAt s k).toNat : Nat) : Int)))), (28, .bool ((decide (((k : Nat) : Int) < ((s.size : Nat) : Int))) && (decide (((k : Nat) : Int) < (12 : Int))))), (0, .int .i64 0), (1, .string s), (4, .int .i64 0), (5, .int .i64 0), (6, .int .i64 12), (7, .int .i64 12)] h37 (Kw.nil hB35) fun q41 h42 => ?_
    clear h37
    refine wpO_end ?_
    have h43 := h42.keep [(0, .int .i64 0), (1, .string s), (4, .int .i64 0), (5, .int .i64 0), (6, .int .i64 12), (7, .int .i64 12), (8, .int .i64 (((k + 1) : Nat) : Int))] ⟨rfl, rfl, rfl, rfl, rfl, rfl, look_int rfl (wrap_succ (by have := hlt.2; omega)), trivial⟩
    have hm44 := h43.int (k := 8) (kd := .i64) (z := (((k + 1) : Nat) : Int)) rfl
    refine then_n ⟨⟨k + 1, by omega, h43, hB35, pfx_step hx23 hx (by rw [decide_eq_true (by omega), Bool.true_and]; exact hc38)⟩, ?_⟩
    show (((s.size : Int)) - intAt _ 8).toNat < (((s.size : Int)) - intAt _ 8).toNat
    rw [hm22, hm44]; omega
  have hend : s.size ≤ k ∨ 12 ≤ k := by have := hc26; simp at this; omega
  have hpf := pfx_ok2 (cl := (clsOf sp0)) (sh := 12) hx23 hend
  refine c_exit 0 (by kernel_rfl) ?_
  refine then_e (then_e (inB_hit ?_))
  refine then_n ?_
  refine kS ?_
  refine kS ?_
  refine rp 4 ?_
  refine b0 (.C 0 39 <| .E 1 40 (.int .i64 ((s.size : Nat) : Int)) <| .C 2 41 <| .E 3 42 (.bool (decide (((s.size : Nat) : Int) < (12 : Int)))) <| .nil) [(42, .bool (decide (((s.size : Nat) : Int) < (12 : Int)))), (0, .int .i64 0), (1, .string s), (4, .int .i64 0), (5, .int .i64 0), (7, .int .i64 12)] h25 (Kw.nil hB20) fun q45 h46 => ?_
  clear h25
  refine wpO_end ?_
  refine then_n ?_
  refine kC 42 (decide (((s.size : Nat) : Int) < (12 : Int))) h46 (fun hc47 => ?_) (fun hc47 => ?_)
  ·
    have hp48 : (((s.size : Nat) : Int) < (12 : Int)) := of_decide_eq_true hc47
    refine kS ?_
    refine rp 4 ?_
    refine b0 (.C 0 43 <| .E 1 44 (.int .i64 ((s.size : Nat) : Int)) <| .C 2 4 <| .C 3 5 <| .nil) [(5, .int .i64 4), (4, .int .i64 ((s.size : Nat) : Int)), (0, .int .i64 0), (1, .string s), (7, .int .i64 12)] h46 (Kw.nil hB20) fun q49 h50 => ?_
    clear h46
    refine wpO_end ?_
    refine then_n ?_
    refine c_ret (by kernel_rfl) ?_
    refine then_r ?_
    refine ret2 (t := 4) (u := 5) (v := .int .i64 ((s.size : Nat) : Int)) (v' := .int .i64 4) h50 (by kernel_rfl) (by kernel_rfl) (by kernel_rfl) ?_
    exact ⟨_, _, rfl, isin_bad s (show pfxE (clsOf sp0) 12 s = 4 from hpf.trans (cT hc47)) rfl, hB20.bel⟩
  have hp51 : ¬ (((s.size : Nat) : Int) < (12 : Int)) := of_decide_eq_false hc47
  refine c_skip (by kernel_rfl) ?_
  refine then_n ?_
  refine kS ?_
  refine kS ?_
  refine rp 4 ?_
  refine b0 (.C 0 45 <| .E 1 46 (.int .i64 ((s.size : Nat) : Int)) <| .C 2 47 <| .E 3 48 (.bool (decide ((12 : Int) < ((s.size : Nat) : Int)))) <| .nil) [(48, .bool (decide ((12 : Int) < ((s.size : Nat) : Int)))), (0, .int .i64 0), (1, .string s), (4, .int .i64 0), (5, .int .i64 0), (7, .int .i64 12)] h46 (Kw.nil hB20) fun q52 h53 => ?_
  clear h46
  refine wpO_end ?_
  refine then_n ?_
  refine kC 48 (decide ((12 : Int) < ((s.size : Nat) : Int))) h53 (fun hc54 => ?_) (fun hc54 => ?_)
  ·
    have hp55 : ((12 : Int) < ((s.size : Nat) : Int)) := of_decide_eq_true hc54
    refine kS ?_
    refine rp 3 ?_
    refine b0 (.C 0 49 <| .C 1 4 <| .C 2 5 <| .nil) [(5, .int .i64 5), (4, .int .i64 12), (0, .int .i64 0), (1, .string s)] h53 (Kw.nil hB20) fun q56 h57 => ?_
    clear h53
    refine wpO_end ?_
    refine then_n ?_
    refine c_ret (by kernel_rfl) ?_
    refine then_r ?_
    refine ret2 (t := 4) (u := 5) (v := .int .i64 12) (v' := .int .i64 5) h57 (by kernel_rfl) (by kernel_rfl) (by kernel_rfl) ?_
    exact ⟨_, _, rfl, isin_bad s (show pfxE (clsOf sp0) 12 s = 5 from hpf.trans ((cF hc47).trans (cT hc54))) rfl, hB20.bel⟩
  have hp58 : ¬ ((12 : Int) < ((s.size : Nat) : Int)) := of_decide_eq_false hc54
  have h0 : pfxE (clsOf sp0) 12 s = 0 := by rw [hpf, cF hc47, show ((clsOf sp0).length : Int) = 12 from rfl, cF hc54]
  have hbody := isin_body s h0
  have hsz := hbody.1
  refine c_skip (by kernel_rfl) ?_
  refine then_n ?_
  refine kS ?_
  refine kS ?_
  have hD59 := hB20.drew
  refine rd (Bx w []) 12 [⟨0, true, 0, 1, 1125899906842624⟩, ⟨1, true, 1, 1125899906842624, 2251799813685248⟩, ⟨2, true, 2, 2251799813685248, 4503599627370496⟩, ⟨3, true, 4, 4503599627370498, 9007199254740992⟩, ⟨4, true, 12, 13510798882111488, 18014398509481984⟩, ⟨5, true, 20, 22517998136852480, 36028797018963968⟩, ⟨6, true, 36, 40532396646334464, 72057594037927936⟩, ⟨7, true, 4, 4503599627370498, 144115188075855872⟩, ⟨8, true, 132, 148618787703226368, 288230376151711744⟩, ⟨9, false, 260, 292733975779082240, 576460752303423488⟩, ⟨10, true, 580, 653021945968721920, 1152921504606846976⟩, ⟨11, true, 1028, 1157425104234217472, 2305843009213693952⟩] hD59 ?_
  generalize World.drew w18 = w60 at hD59 ⊢
  refine d1 52 (rfl : true = true) (.C 0 50 <| .E 1 51 (.bool true) <| .C 2 52 <| .C 3 53 <| .nil) [(53, .string s), (52, .bool true), (0, .int .i64 0), (1, .string s), (4, .int .i64 0), (5, .int .i64 0)] h53 (fun _ hS => Kw.nil hS) fun q61 h62 => ?_
  clear h53
  refine fG 4 54 (.index 9 (.tmp 53) (.const (.int .i64 11))) 5 (2, true) (.int .u8 (((chAt s 11).toNat : Nat) : Int)) (g1 52 (rfl : true = true)) h62 (hr := fun _ hS => r_indexS (kd := .i64) (i := 11) (b := (chAt s 11)) (by kernel_rfl) (by kernel_rfl) (getS (by omega)) (by kernel_rfl)) fun q63 h64 => ?_
  clear h62
  refine d1 52 (rfl : true = true) (.E 5 55 (.int .u8 (IntKind.u8.wrap ((((chAt s 11).toNat : Nat) : Int) - 48))) <| .E 6 56 (.int .i64 (IntKind.i64.wrap (IntKind.u8.wrap ((((chAt s 11).toNat : Nat) : Int) - 48)))) <| .C 7 57 <| .nil) [(57, .string s), (56, .int .i64 (IntKind.i64.wrap (IntKind.u8.wrap ((((chAt s 11).toNat : Nat) : Int) - 48)))), (52, .bool true), (0, .int .i64 0), (1, .string s), (4, .int .i64 0), (5, .int .i64 0)] h64 (fun _ hS => Kw.nil hS) fun q65 h66 => ?_
  clear h64
  refine fG 8 58 (.slice 9 (.tmp 57) none (some (.const (.int .i64 11))) none) 9 (2, true) (.string (s.extract 0 11)) (g1 52 (rfl : true = true)) h66 (hr := fun _ hS => r_sliceSHi (kd := .i64) (i := 11) (by kernel_rfl) (by kernel_rfl) (by omega) (by kernel_rfl)) fun q67 h68 => ?_
  clear h66
  refine sC 9 59 (g := (some (2, true))) h68 (g1 52 (rfl : true = true)) (c72 (s.extract 0 11) w60 (by rw [extract_size _ _ (by omega)]; omega) hbody.2) ?_
  rintro _ w71 ⟨rfl, hb72⟩
  have hB73 := hD59.call hb72
  refine ⟨_, rfl, hB73, fun q69 h70 => ?_⟩
  clear h68 hD59 hb72
  refine d1 52 (rfl : true = true) (.E 10 60 (.bool (IntKind.i64.wrap (IntKind.u8.wrap ((((chAt s 11).toNat : Nat) : Int) - 48)) != ((luhnD (s.extract 0 11).data.toList : Nat) : Int))) <| .E 11 61 (.bool (IntKind.i64.wrap (IntKind.u8.wrap ((((chAt s 11).toNat : Nat) : Int) - 48)) != ((luhnD (s.extract 0 11).data.toList : Nat) : Int))) <| .nil) [(61, .bool (IntKind.i64.wrap (IntKind.u8.wrap ((((chAt s 11).toNat : Nat) : Int) - 48)) != ((luhnD (s.extract 0 11).data.toList : Nat) : Int))), (0, .int .i64 0), (1, .string s), (4, .int .i64 0), (5, .int .i64 0)] h70 (fun _ hS => Kw.nil hS) fun q74 h75 => ?_
  clear h70
  refine wpO_end ?_
  refine then_n ?_
  refine kC 61 (IntKind.i64.wrap (IntKind.u8.wrap ((((chAt s 11).toNat : Nat) : Int) - 48)) != ((luhnD (s.extract 0 11).data.toList : Nat) : Int)) h75 (fun hc76 => ?_) (fun hc76 => ?_)
  ·
    refine kS ?_
    refine rp 2 ?_
    refine b0 (.C 0 4 <| .C 1 5 <| .nil) [(5, .int .i64 18), (4, .int .i64 11), (0, .int .i64 0), (1, .string s)] h75 (Kw.nil hB73) fun q77 h78 => ?_
    clear h75
    refine wpO_end ?_
    refine then_n ?_
    refine c_ret (by kernel_rfl) ?_
    refine then_r ?_
    refine ret2 (t := 4) (u := 5) (v := .int .i64 11) (v' := .int .i64 18) h78 (by kernel_rfl) (by kernel_rfl) (by kernel_rfl) ?_
    exact ⟨_, _, rfl, isin_r s true h0 18 hc76 rfl, hB73.bel⟩
  refine c_skip (by kernel_rfl) ?_
  refine then_n ?_
  refine kS ?_
  refine kS ?_
  have hD79 := hB73.drew
  refine rd (Bx w []) 13 [⟨0, true, 0, 1, 4611686018427387904⟩, ⟨1, true, 1, 4611686018427387904, 9223372036854775808⟩, ⟨2, true, 2, 9223372036854775808, 18446744073709551616⟩, ⟨3, true, 4, 18446744073709551618, 36893488147419103232⟩, ⟨4, true, 12, 55340232221128654848, 73786976294838206464⟩, ⟨5, true, 4, 18446744073709551618, 147573952589676412928⟩, ⟨6, true, 36, 166020696663385964544, 295147905179352825856⟩, ⟨7, true, 68, 313594649253062377472, 590295810358705651712⟩, ⟨8, false, 132, 608742554432415203328, 1180591620717411303424⟩, ⟨9, true, 260, 1199038364791120855040, 2361183241434822606848⟩, ⟨10, false, 772, 2379629985508532158464, 4722366482869645213696⟩, ⟨11, true, 1044, 4814600203238192971776, 9444732965739290427392⟩, ⟨12, true, 2052, 9463179709812999979008, 18889465931478580854784⟩] hD79 ?_
  generalize World.drew w71 = w80 at hD79 ⊢
  refine d1 64 (rfl : false = false) (.C 0 62 <| .E 1 63 (.bool false) <| .C 2 64 <| .K 3 65 <| .K 4 66 <| .K 5 67 <| .K 6 68 <| .K 7 69 <| .nil) [(69, undef), (66, undef), (64, .bool false), (4, .int .i64 0), (5, .int .i64 0)] h75 (fun _ hS => Kw.nil hS) fun q81 h82 => ?_
  clear h75
  refine kE 8 70 (2, true) (g3 64 (rfl : false = false)) h82 hD79 fun q83 h84 => ?_
  clear h82
  refine d1 64 (rfl : false = false) (.K 9 71 <| .nil) [(71, undef), (66, undef), (64, .bool false), (4, .int .i64 0), (5, .int .i64 0)] h84 (fun _ hS => Kw.nil hS) fun q85 h86 => ?_
  clear h84
  refine kE 10 72 (2, true) (g3 64 (rfl : false = false)) h86 hD79 fun q87 h88 => ?_
  clear h86
  refine d1 64 (rfl : false = false) (.K 11 73 <| .E 12 74 (.bool false) <| .nil) [(74, .bool false), (4, .int .i64 0), (5, .int .i64 0)] h88 (fun _ hS => Kw.nil hS) fun q89 h90 => ?_
  clear h88
  refine wpO_end ?_
  refine then_n ?_
  refine kC 74 false h90 (fun e91 => Bool.noConfusion (e91.symm.trans (rfl))) (fun _ => ?_)
  refine c_skip (by kernel_rfl) ?_
  refine then_n ?_
  refine kS ?_
  refine rp 2 ?_
  refine b0 (.C 0 4 <| .C 1 5 <| .nil) [(5, .int .i64 0), (4, .int .i64 0)] h90 (Kw.nil hD79) fun q92 h93 => ?_
  clear h90
  refine wpO_end ?_
  refine then_n ?_
  refine c_ret (by kernel_rfl) ?_
  refine ret2 (t := 4) (u := 5) (v := .int .i64 0) (v' := .int .i64 0) h93 (by kernel_rfl) (by kernel_rfl) (by kernel_rfl) ?_
  exact ⟨_, _, rfl, isin_r s false h0 0 hc76 rfl, hD79.bel⟩

set_option maxHeartbeats 4000000 in
set_option maxRecDepth 20000 in
theorem c63_1 (s : ByteArray) (w : World) : Calls Tryd.prog 63 #[.int .i64 1, .string s] w (fun e w' => ∃ at' E : Int, e = .returned (.tuple #[.int .i64 at', .int .i64 E]) ∧ (E == 0) = memB s ∧ Below w.heap.size w w') := by
  refine enter Tryd.func63 (by kernel_rfl) ?_ (by kernel_rfl)
  intro q0 h0
  replace h0 := h0.conv (l' := [(0, .int .i64 1), (1, .string s)]) rfl
  have hB := Bx.refl w
  refine kS ?_
  refine rp 2 ?_
  refine b0 (.C 0 4 <| .C 1 5 <| .nil) [(5, .int .i64 0), (4, .int .i64 0), (0, .int .i64 1), (1, .string s)] h0 (Kw.nil hB) fun q1 h2 => ?_
  clear h0
  refine wpO_end ?_
  refine then_n ?_
  refine kS ?_
  refine kS ?_
  refine rp 6 ?_
  refine b1 11 (rfl : false = false) (.C 0 9 <| .E 1 10 (.bool false) <| .C 2 11 <| .C 3 12 <| .E 4 13 (.bool false) <| .E 5 14 (.bool false) <| .nil) [(14, .bool false), (5, .int .i64 0), (4, .int .i64 0), (0, .int .i64 1), (1, .string s)] h2 (Kw.nil hB) fun q3 h4 => ?_
  clear h2
  refine wpO_end ?_
  refine then_n ?_
  refine kC 14 false h4 (fun e5 => Bool.noConfusion (e5.symm.trans (rfl))) (fun _ => ?_)
  refine c_skip (by kernel_rfl) ?_
  refine then_n ?_
  refine kS ?_
  refine rp 7 ?_
  refine b0 (.C 0 16 <| .nil) [(16, .int .i64 1), (5, .int .i64 0), (4, .int .i64 0), (0, .int .i64 1), (1, .string s)] h4 (Kw.nil hB) fun q6 h7 => ?_
  clear h4
  refine sC 1 17 h7 gok_none (c70_1 w) ?_
  rintro _ w10 ⟨rfl, hb11⟩
  have hB12 := hB.call hb11
  refine ⟨_, rfl, trivial, fun q8 h9 => ?_⟩
  clear h7 hB hb11
  refine b0 (.C 2 15 <| .E 3 18 (.int .i64 4) <| .E 4 19 (.int .i64 8) <| .C 5 6 <| .C 6 7 <| .nil) [(7, .int .i64 8), (6, .int .i64 4), (5, .int .i64 0), (4, .int .i64 0), (0, .int .i64 1), (1, .string s)] h9 (Kw.nil hB12) fun q13 h14 => ?_
  clear h9
  refine wpO_end ?_
  refine then_n ?_
  refine kS ?_
  refine kS ?_
  refine rp 1 ?_
  refine b0 (.C 0 8 <| .nil) [(8, .int .i64 0), (7, .int .i64 8), (6, .int .i64 4), (5, .int .i64 0), (4, .int .i64 0), (0, .int .i64 1), (1, .string s)] h14 (Kw.nil hB12) fun q15 h16 => ?_
  clear h14
  refine wpO_end ?_
  refine then_n ?_
  refine c_block 0 (by kernel_rfl) ?_
  refine c_loop (by kernel_rfl) (fun qa qw => ∃ k : Nat, (k ≤ s.size) ∧ Fr 75 [(0, .int .i64 1), (1, .string s), (4, .int .i64 0), (5, .int .i64 0), (6, .int .i64 4), (7, .int .i64 8), (8, .int .i64 ((k : Nat) : Int))] qa ∧ Bx w [] qw ∧ (∀ (j : Nat) (g : Nat) (c : UInt8), j < k → (clsOf sp1)[j]? = some g → s.data.toList[j]? = some c → clsB g (c.toNat : Int) = true)) (fun qa _ => (((s.size : Int)) - intAt qa 8).toNat) ⟨0, Nat.zero_le _, h16.keep _ ⟨rfl, rfl, rfl, rfl, rfl, rfl, rfl, trivial⟩, hB12, fun j _ _ hj => absurd hj (Nat.not_lt_zero _)⟩ ?_
  rintro q17 w18 ⟨k, hk21, h19, hB20, hx23⟩
  have hm22 := h19.int (k := 8) (kd := .i64) (z := ((k : Nat) : Int)) rfl
  clear h16 hB12
  refine kS ?_
  refine kS ?_
  refine rp 9 ?_
  refine b0 (.C 0 20 <| .C 1 21 <| .E 2 22 (.int .i64 ((s.size : Nat) : Int)) <| .E 3 23 (.bool (decide (((k : Nat) : Int) < ((s.size : Nat) : Int)))) <| .C 4 24 <| .J 8 28 24 27 true (decide (((k : Nat) : Int) < ((s.size : Nat) : Int))) (decide (((k : Nat) : Int) < (8 : Int))) (.C 5 25 <| .C 6 26 <| .E 7 27 (.bool (decide (((k : Nat) : Int) < (8 : Int)))) <| .nil) <| .nil) [(28, .bool ((decide (((k : Nat) : Int) < ((s.size : Nat) : Int))) && (decide (((k : Nat) : Int) < (8 : Int))))), (0, .int .i64 1), (1, .string s), (4, .int .i64 0), (5, .int .i64 0), (6, .int .i64 4), (7, .int .i64 8), (8, .int .i64 ((k : Nat) : Int))] h19 (Kw.nil hB20) fun q24 h25 => ?_
  clear h19
  refine wpO_end ?_
  refine then_n ?_
  refine kC 28 ((decide (((k : Nat) : Int) < ((s.size : Nat) : Int))) && (decide (((k : Nat) : Int) < (8 : Int)))) h25 (fun hc26 => ?_) (fun hc26 => ?_)
  ·
    have hlt : k < s.size ∧ k < 8 := by have := hc26; simp at this; omega
    obtain ⟨x, hx⟩ : ∃ x, (clsOf sp1)[k]? = some x := ⟨(clsOf sp1)[k]'hlt.2, List.getElem?_eq_getElem (show k < (clsOf sp1).length from hlt.2)⟩
    refine c_skip (by kernel_rfl) ?_
    refine then_n ?_
    refine kS ?_
    refine c_block 1 (by kernel_rfl) ?_
    refine kS ?_
    refine rp 7 ?_
    refine b0 (.C 0 31 <| .C 1 32 <| .C 2 33 <| .C 3 34 <| .nil) [(34, .int .i64 ((k : Nat) : Int)), (33, .string s), (32, .int .i64 ((k : Nat) : Int)), (31, .int .i64 1), (28, .bool ((decide (((k : Nat) : Int) < ((s.size : Nat) : Int))) && (decide (((k : Nat) : Int) < (8 : Int))))), (0, .int .i64 1), (1, .string s), (4, .int .i64 0), (5, .int .i64 0), (6, .int .i64 4), (7, .int .i64 8), (8, .int .i64 ((k : Nat) : Int))] h25 (Kw.nil hB20) fun q27 h28 => ?_
    clear h25
    refine eE 4 35 (.index 9 (.tmp 33) (.tmp 34)) 5 (.int .u8 (((chAt s k).toNat : Nat) : Int)) h28 (hr := r_indexS (kd := .i64) (i := k) (b := (chAt s k)) (by kernel_rfl) (by kernel_rfl) (getS (by omega)) (by kernel_rfl)) fun q29 h30 => ?_
    clear h28
    refine sC 5 36 h30 gok_none (c71_1 ((k : Nat) : Int) (((chAt s k).toNat : Nat) : Int) w18) ?_
    rintro _ w33 ⟨rfl, hb34⟩
    have hB35 := hB20.call hb34
    refine ⟨_, rfl, trivial, fun q31 h32 => ?_⟩
    clear h30 hB20 hb34
    refine b0 (.E 6 37 (.bool (!(mayB 1 ((k : Nat) : Int) (((chAt s k).toNat : Nat) : Int)))) <| .nil) [(37, .bool (!(mayB 1 ((k : Nat) : Int) (((chAt s k).toNat : Nat) : Int)))), (28, .bool ((decide (((k : Nat) : Int) < ((s.size : Nat) : Int))) && (decide (((k : Nat) : Int) < (8 : Int))))), (0, .int .i64 1), (1, .string s), (4, .int .i64 0), (5, .int .i64 0), (6, .int .i64 4), (7, .int .i64 8), (8, .int .i64 ((k : Nat) : Int))] h32 (Kw.nil hB35) fun q36 h37 => ?_
    clear h32
    refine wpO_end ?_
    refine then_n ?_
    refine kC 37 (!(mayB 1 ((k : Nat) : Int) (((chAt s k).toNat : Nat) : Int))) h37 (fun hc38 => ?_) (fun hc38 => ?_)
    ·
      rw [may_cls 1 (by decide) k x _ hx] at hc38
      refine kS ?_
      refine rp 3 ?_
      refine b0 (.C 0 38 <| .C 1 4 <| .C 2 5 <| .nil) [(5, .int .i64 3), (4, .int .i64 ((k : Nat) : Int)), (37, .bool (!(mayB 1 ((k : Nat) : Int) (((chAt s k).toNat : Nat) : Int)))), (28, .bool ((decide (((k : Nat) : Int) < ((s.size : Nat) : Int))) && (decide (((k : Nat) : Int) < (8 : Int))))), (0, .int .i64 1), (1, .string s), (6, .int .i64 4), (7, .int .i64 8), (8, .int .i64 ((k : Nat) : Int))] h37 (Kw.nil hB35) fun q39 h40 => ?_
      clear h37
      refine wpO_end ?_
      refine then_n ?_
      refine c_ret (by kernel_rfl) ?_
      refine inB_r (then_r (then_r (inB_r (then_r ?_))))
      refine ret2 (t := 4) (u := 5) (v := .int .i64 ((k : Nat) : Int)) (v' := .int .i64 3) h40 (by kernel_rfl) (by kernel_rfl) (by kernel_rfl) ?_
      exact ⟨_, _, rfl, refb_bad1 s (pfx_bad (sh := 4) hx (by rw [decide_eq_true (by omega), Bool.true_and]; exact hc38)), hB35.bel⟩
    rw [may_cls 1 (by decide) k x _ hx] at hc38
    refine c_skip (by kernel_rfl) ?_
    refine inB_n ?_
    refine then_n ?_
    refine rp 3 ?_
    refine b0 (.C 0 29 <| .E 1 30 (.int .i64 (IntKind.i64.wrap (((k : Nat) : Int) + 1))) <| .C 2 8 <| .nil) [(8, .int .i64 (IntKind.i64.wrap (((k : Nat) : Int) + 1))), (37, .bool (!(mayB 1 ((k : Nat) : Int) (((chAt s k).toNat : Nat) : Int)))), (28, .bool ((decide (((k : Nat) : Int) < ((s.size : Nat) : Int))) && (decide (((k : Nat) : Int) < (8 : Int))))), (0, .int .i64 1), (1, .string s), (4, .int .i64 0), (5, .int .i64 0), (6, .int .i64 4), (7, .int .i64 8)] h37 (Kw.nil hB35) fun q41 h42 => ?_
    clear h37
    refine wpO_end ?_
    have h43 := h42.keep [(0, .int .i64 1), (1, .string s), (4, .int .i64 0), (5, .int .i64 0), (6, .int .i64 4), (7, .int .i64 8), (8, .int .i64 (((k + 1) : Nat) : Int))] ⟨rfl, rfl, rfl, rfl, rfl, rfl, look_int rfl (wrap_succ (by have := hlt.2; omega)), trivial⟩
    have hm44 := h43.int (k := 8) (kd := .i64) (z := (((k + 1) : Nat) : Int)) rfl
    refine then_n ⟨⟨k + 1, by omega, h43, hB35, pfx_step hx23 hx (by rw [decide_eq_true (by omega), Bool.true_and]; exact hc38)⟩, ?_⟩
    show (((s.size : Int)) - intAt _ 8).toNat < (((s.size : Int)) - intAt _ 8).toNat
    rw [hm22, hm44]; omega
  have hend : s.size ≤ k ∨ 8 ≤ k := by have := hc26; simp at this; omega
  have hpf := pfx_ok2 (cl := (clsOf sp1)) (sh := 4) hx23 hend
  refine c_exit 0 (by kernel_rfl) ?_
  refine then_e (then_e (inB_hit ?_))
  refine then_n ?_
  refine kS ?_
  refine kS ?_
  refine rp 4 ?_
  refine b0 (.C 0 39 <| .E 1 40 (.int .i64 ((s.size : Nat) : Int)) <| .C 2 41 <| .E 3 42 (.bool (decide (((s.size : Nat) : Int) < (4 : Int)))) <| .nil) [(42, .bool (decide (((s.size : Nat) : Int) < (4 : Int)))), (0, .int .i64 1), (1, .string s), (4, .int .i64 0), (5, .int .i64 0), (7, .int .i64 8)] h25 (Kw.nil hB20) fun q45 h46 => ?_
  clear h25
  refine wpO_end ?_
  refine then_n ?_
  refine kC 42 (decide (((s.size : Nat) : Int) < (4 : Int))) h46 (fun hc47 => ?_) (fun hc47 => ?_)
  ·
    have hp48 : (((s.size : Nat) : Int) < (4 : Int)) := of_decide_eq_true hc47
    refine kS ?_
    refine rp 4 ?_
    refine b0 (.C 0 43 <| .E 1 44 (.int .i64 ((s.size : Nat) : Int)) <| .C 2 4 <| .C 3 5 <| .nil) [(5, .int .i64 4), (4, .int .i64 ((s.size : Nat) : Int)), (0, .int .i64 1), (1, .string s), (7, .int .i64 8)] h46 (Kw.nil hB20) fun q49 h50 => ?_
    clear h46
    refine wpO_end ?_
    refine then_n ?_
    refine c_ret (by kernel_rfl) ?_
    refine then_r ?_
    refine ret2 (t := 4) (u := 5) (v := .int .i64 ((s.size : Nat) : Int)) (v' := .int .i64 4) h50 (by kernel_rfl) (by kernel_rfl) (by kernel_rfl) ?_
    exact ⟨_, _, rfl, refb_bad1 s (show pfxE (clsOf sp1) 4 s = 4 from hpf.trans (cT hc47)), hB20.bel⟩
  have hp51 : ¬ (((s.size : Nat) : Int) < (4 : Int)) := of_decide_eq_false hc47
  refine c_skip (by kernel_rfl) ?_
  refine then_n ?_
  refine kS ?_
  refine kS ?_
  refine rp 4 ?_
  refine b0 (.C 0 45 <| .E 1 46 (.int .i64 ((s.size : Nat) : Int)) <| .C 2 47 <| .E 3 48 (.bool (decide ((8 : Int) < ((s.size : Nat) : Int)))) <| .nil) [(48, .bool (decide ((8 : Int) < ((s.size : Nat) : Int)))), (0, .int .i64 1), (1, .string s), (4, .int .i64 0), (5, .int .i64 0), (7, .int .i64 8)] h46 (Kw.nil hB20) fun q52 h53 => ?_
  clear h46
  refine wpO_end ?_
  refine then_n ?_
  refine kC 48 (decide ((8 : Int) < ((s.size : Nat) : Int))) h53 (fun hc54 => ?_) (fun hc54 => ?_)
  ·
    have hp55 : ((8 : Int) < ((s.size : Nat) : Int)) := of_decide_eq_true hc54
    refine kS ?_
    refine rp 3 ?_
    refine b0 (.C 0 49 <| .C 1 4 <| .C 2 5 <| .nil) [(5, .int .i64 5), (4, .int .i64 8), (0, .int .i64 1), (1, .string s)] h53 (Kw.nil hB20) fun q56 h57 => ?_
    clear h53
    refine wpO_end ?_
    refine then_n ?_
    refine c_ret (by kernel_rfl) ?_
    refine then_r ?_
    refine ret2 (t := 4) (u := 5) (v := .int .i64 8) (v' := .int .i64 5) h57 (by kernel_rfl) (by kernel_rfl) (by kernel_rfl) ?_
    exact ⟨_, _, rfl, refb_bad1 s (show pfxE (clsOf sp1) 4 s = 5 from hpf.trans ((cF hc47).trans (cT hc54))), hB20.bel⟩
  have hp58 : ¬ ((8 : Int) < ((s.size : Nat) : Int)) := of_decide_eq_false hc54
  refine c_skip (by kernel_rfl) ?_
  refine then_n ?_
  refine kS ?_
  refine kS ?_
  have hD59 := hB20.drew
  refine rd (Bx w []) 12 [⟨0, true, 0, 1, 1125899906842624⟩, ⟨1, true, 1, 1125899906842624, 2251799813685248⟩, ⟨2, true, 2, 2251799813685248, 4503599627370496⟩, ⟨3, true, 4, 4503599627370498, 9007199254740992⟩, ⟨4, true, 12, 13510798882111488, 18014398509481984⟩, ⟨5, true, 20, 22517998136852480, 36028797018963968⟩, ⟨6, true, 36, 40532396646334464, 72057594037927936⟩, ⟨7, true, 4, 4503599627370498, 144115188075855872⟩, ⟨8, true, 132, 148618787703226368, 288230376151711744⟩, ⟨9, false, 260, 292733975779082240, 576460752303423488⟩, ⟨10, true, 580, 653021945968721920, 1152921504606846976⟩, ⟨11, true, 1028, 1157425104234217472, 2305843009213693952⟩] hD59 ?_
  generalize World.drew w18 = w60 at hD59 ⊢
  refine d1 52 (rfl : false = false) (.C 0 50 <| .E 1 51 (.bool false) <| .C 2 52 <| .K 3 53 <| .K 4 54 <| .K 5 55 <| .K 6 56 <| .K 7 57 <| .K 8 58 <| .nil) [(58, undef), (56, undef), (52, .bool false), (0, .int .i64 1), (1, .string s), (4, .int .i64 0), (5, .int .i64 0)] h53 (fun _ hS => Kw.nil hS) fun q61 h62 => ?_
  clear h53
  refine kE 9 59 (2, true) (g3 52 (rfl : false = false)) h62 hD59 fun q63 h64 => ?_
  clear h62
  refine d1 52 (rfl : false = false) (.K 10 60 <| .E 11 61 (.bool false) <| .nil) [(61, .bool false), (0, .int .i64 1), (1, .string s), (4, .int .i64 0), (5, .int .i64 0)] h64 (fun _ hS => Kw.nil hS) fun q65 h66 => ?_
  clear h64
  refine wpO_end ?_
  refine then_n ?_
  refine kC 61 false h66 (fun e67 => Bool.noConfusion (e67.symm.trans (rfl))) (fun _ => ?_)
  refine c_skip (by kernel_rfl) ?_
  refine then_n ?_
  refine kS ?_
  refine kS ?_
  have hD68 := hD59.drew
  refine rd (Bx w []) 13 [⟨0, true, 0, 1, 4611686018427387904⟩, ⟨1, true, 1, 4611686018427387904, 9223372036854775808⟩, ⟨2, true, 2, 9223372036854775808, 18446744073709551616⟩, ⟨3, true, 4, 18446744073709551618, 36893488147419103232⟩, ⟨4, true, 12, 55340232221128654848, 73786976294838206464⟩, ⟨5, true, 4, 18446744073709551618, 147573952589676412928⟩, ⟨6, true, 36, 166020696663385964544, 295147905179352825856⟩, ⟨7, true, 68, 313594649253062377472, 590295810358705651712⟩, ⟨8, false, 132, 608742554432415203328, 1180591620717411303424⟩, ⟨9, true, 260, 1199038364791120855040, 2361183241434822606848⟩, ⟨10, false, 772, 2379629985508532158464, 4722366482869645213696⟩, ⟨11, true, 1044, 4814600203238192971776, 9444732965739290427392⟩, ⟨12, true, 2052, 9463179709812999979008, 18889465931478580854784⟩] hD68 ?_
  generalize World.drew w60 = w69 at hD68 ⊢
  refine d1 64 (rfl : false = false) (.C 0 62 <| .E 1 63 (.bool false) <| .C 2 64 <| .K 3 65 <| .K 4 66 <| .K 5 67 <| .K 6 68 <| .K 7 69 <| .nil) [(69, undef), (66, undef), (64, .bool false), (4, .int .i64 0), (5, .int .i64 0)] h66 (fun _ hS => Kw.nil hS) fun q70 h71 => ?_
  clear h66
  refine kE 8 70 (2, true) (g3 64 (rfl : false = false)) h71 hD68 fun q72 h73 => ?_
  clear h71
  refine d1 64 (rfl : false = false) (.K 9 71 <| .nil) [(71, undef), (66, undef), (64, .bool false), (4, .int .i64 0), (5, .int .i64 0)] h73 (fun _ hS => Kw.nil hS) fun q74 h75 => ?_
  clear h73
  refine kE 10 72 (2, true) (g3 64 (rfl : false = false)) h75 hD68 fun q76 h77 => ?_
  clear h75
  refine d1 64 (rfl : false = false) (.K 11 73 <| .E 12 74 (.bool false) <| .nil) [(74, .bool false), (4, .int .i64 0), (5, .int .i64 0)] h77 (fun _ hS => Kw.nil hS) fun q78 h79 => ?_
  clear h77
  refine wpO_end ?_
  refine then_n ?_
  refine kC 74 false h79 (fun e80 => Bool.noConfusion (e80.symm.trans (rfl))) (fun _ => ?_)
  refine c_skip (by kernel_rfl) ?_
  refine then_n ?_
  refine kS ?_
  refine rp 2 ?_
  refine b0 (.C 0 4 <| .C 1 5 <| .nil) [(5, .int .i64 0), (4, .int .i64 0)] h79 (Kw.nil hD68) fun q81 h82 => ?_
  clear h79
  refine wpO_end ?_
  refine then_n ?_
  refine c_ret (by kernel_rfl) ?_
  refine ret2 (t := 4) (u := 5) (v := .int .i64 0) (v' := .int .i64 0) h82 (by kernel_rfl) (by kernel_rfl) (by kernel_rfl) ?_
  exact ⟨_, _, rfl, refb_ok1 s (hpf.trans ((cF hc47).trans (cF hc54))), hD68.bel⟩

set_option maxHeartbeats 4000000 in
set_option maxRecDepth 20000 in
theorem c63_2 (s : ByteArray) (w : World) : Calls Tryd.prog 63 #[.int .i64 2, .string s] w (fun e w' => ∃ at' E : Int, e = .returned (.tuple #[.int .i64 at', .int .i64 E]) ∧ (E == 0) = rfB s ∧ Below w.heap.size w w') := by
  refine enter Tryd.func63 (by kernel_rfl) ?_ (by kernel_rfl)
  intro q0 h0
  replace h0 := h0.conv (l' := [(0, .int .i64 2), (1, .string s)]) rfl
  have hB := Bx.refl w
  refine kS ?_
  refine rp 2 ?_
  refine b0 (.C 0 4 <| .C 1 5 <| .nil) [(5, .int .i64 0), (4, .int .i64 0), (0, .int .i64 2), (1, .string s)] h0 (Kw.nil hB) fun q1 h2 => ?_
  clear h0
  refine wpO_end ?_
  refine then_n ?_
  refine kS ?_
  refine kS ?_
  refine rp 6 ?_
  refine b1 11 (rfl : false = false) (.C 0 9 <| .E 1 10 (.bool false) <| .C 2 11 <| .C 3 12 <| .E 4 13 (.bool false) <| .E 5 14 (.bool false) <| .nil) [(14, .bool false), (5, .int .i64 0), (4, .int .i64 0), (0, .int .i64 2), (1, .string s)] h2 (Kw.nil hB) fun q3 h4 => ?_
  clear h2
  refine wpO_end ?_
  refine then_n ?_
  refine kC 14 false h4 (fun e5 => Bool.noConfusion (e5.symm.trans (rfl))) (fun _ => ?_)
  refine c_skip (by kernel_rfl) ?_
  refine then_n ?_
  refine kS ?_
  refine rp 7 ?_
  refine b0 (.C 0 16 <| .nil) [(16, .int .i64 2), (5, .int .i64 0), (4, .int .i64 0), (0, .int .i64 2), (1, .string s)] h4 (Kw.nil hB) fun q6 h7 => ?_
  clear h4
  refine sC 1 17 h7 gok_none (c70_2 w) ?_
  rintro _ w10 ⟨rfl, hb11⟩
  have hB12 := hB.call hb11
  refine ⟨_, rfl, trivial, fun q8 h9 => ?_⟩
  clear h7 hB hb11
  refine b0 (.C 2 15 <| .E 3 18 (.int .i64 1) <| .E 4 19 (.int .i64 16) <| .C 5 6 <| .C 6 7 <| .nil) [(7, .int .i64 16), (6, .int .i64 1), (5, .int .i64 0), (4, .int .i64 0), (0, .int .i64 2), (1, .string s)] h9 (Kw.nil hB12) fun q13 h14 => ?_
  clear h9
  refine wpO_end ?_
  refine then_n ?_
  refine kS ?_
  refine kS ?_
  refine rp 1 ?_
  refine b0 (.C 0 8 <| .nil) [(8, .int .i64 0), (7, .int .i64 16), (6, .int .i64 1), (5, .int .i64 0), (4, .int .i64 0), (0, .int .i64 2), (1, .string s)] h14 (Kw.nil hB12) fun q15 h16 => ?_
  clear h14
  refine wpO_end ?_
  refine then_n ?_
  refine c_block 0 (by kernel_rfl) ?_
  refine c_loop (by kernel_rfl) (fun qa qw => ∃ k : Nat, (k ≤ s.size) ∧ Fr 75 [(0, .int .i64 2), (1, .string s), (4, .int .i64 0), (5, .int .i64 0), (6, .int .i64 1), (7, .int .i64 16), (8, .int .i64 ((k : Nat) : Int))] qa ∧ Bx w [] qw ∧ (∀ (j : Nat) (g : Nat) (c : UInt8), j < k → (clsOf sp2)[j]? = some g → s.data.toList[j]? = some c → clsB g (c.toNat : Int) = true)) (fun qa _ => (((s.size : Int)) - intAt qa 8).toNat) ⟨0, Nat.zero_le _, h16.keep _ ⟨rfl, rfl, rfl, rfl, rfl, rfl, rfl, trivial⟩, hB12, fun j _ _ hj => absurd hj (Nat.not_lt_zero _)⟩ ?_
  rintro q17 w18 ⟨k, hk21, h19, hB20, hx23⟩
  have hm22 := h19.int (k := 8) (kd := .i64) (z := ((k : Nat) : Int)) rfl
  clear h16 hB12
  refine kS ?_
  refine kS ?_
  refine rp 9 ?_
  refine b0 (.C 0 20 <| .C 1 21 <| .E 2 22 (.int .i64 ((s.size : Nat) : Int)) <| .E 3 23 (.bool (decide (((k : Nat) : Int) < ((s.size : Nat) : Int)))) <| .C 4 24 <| .J 8 28 24 27 true (decide (((k : Nat) : Int) < ((s.size : Nat) : Int))) (decide (((k : Nat) : Int) < (16 : Int))) (.C 5 25 <| .C 6 26 <| .E 7 27 (.bool (decide (((k : Nat) : Int) < (16 : Int)))) <| .nil) <| .nil) [(28, .bool ((decide (((k : Nat) : Int) < ((s.size : Nat) : Int))) && (decide (((k : Nat) : Int) < (16 : Int))))), (0, .int .i64 2), (1, .string s), (4, .int .i64 0), (5, .int .i64 0), (6, .int .i64 1), (7, .int .i64 16), (8, .int .i64 ((k : Nat) : Int))] h19 (Kw.nil hB20) fun q24 h25 => ?_
  clear h19
  refine wpO_end ?_
  refine then_n ?_
  refine kC 28 ((decide (((k : Nat) : Int) < ((s.size : Nat) : Int))) && (decide (((k : Nat) : Int) < (16 : Int)))) h25 (fun hc26 => ?_) (fun hc26 => ?_)
  ·
    have hlt : k < s.size ∧ k < 16 := by have := hc26; simp at this; omega
    obtain ⟨x, hx⟩ : ∃ x, (clsOf sp2)[k]? = some x := ⟨(clsOf sp2)[k]'hlt.2, List.getElem?_eq_getElem (show k < (clsOf sp2).length from hlt.2)⟩
    refine c_skip (by kernel_rfl) ?_
    refine then_n ?_
    refine kS ?_
    refine c_block 1 (by kernel_rfl) ?_
    refine kS ?_
    refine rp 7 ?_
    refine b0 (.C 0 31 <| .C 1 32 <| .C 2 33 <| .C 3 34 <| .nil) [(34, .int .i64 ((k : Nat) : Int)), (33, .string s), (32, .int .i64 ((k : Nat) : Int)), (31, .int .i64 2), (28, .bool ((decide (((k : Nat) : Int) < ((s.size : Nat) : Int))) && (decide (((k : Nat) : Int) < (16 : Int))))), (0, .int .i64 2), (1, .string s), (4, .int .i64 0), (5, .int .i64 0), (6, .int .i64 1), (7, .int .i64 16), (8, .int .i64 ((k : Nat) : Int))] h25 (Kw.nil hB20) fun q27 h28 => ?_
    clear h25
    refine eE 4 35 (.index 9 (.tmp 33) (.tmp 34)) 5 (.int .u8 (((chAt s k).toNat : Nat) : Int)) h28 (hr := r_indexS (kd := .i64) (i := k) (b := (chAt s k)) (by kernel_rfl) (by kernel_rfl) (getS (by omega)) (by kernel_rfl)) fun q29 h30 => ?_
    clear h28
    refine sC 5 36 h30 gok_none (c71_2 ((k : Nat) : Int) (((chAt s k).toNat : Nat) : Int) w18) ?_
    rintro _ w33 ⟨rfl, hb34⟩
    have hB35 := hB20.call hb34
    refine ⟨_, rfl, trivial, fun q31 h32 => ?_⟩
    clear h30 hB20 hb34
    refine b0 (.E 6 37 (.bool (!(mayB 2 ((k : Nat) : Int) (((chAt s k).toNat : Nat) : Int)))) <| .nil) [(37, .bool (!(mayB 2 ((k : Nat) : Int) (((chAt s k).toNat : Nat) : Int)))), (28, .bool ((decide (((k : Nat) : Int) < ((s.size : Nat) : Int))) && (decide (((k : Nat) : Int) < (16 : Int))))), (0, .int .i64 2), (1, .string s), (4, .int .i64 0), (5, .int .i64 0), (6, .int .i64 1), (7, .int .i64 16), (8, .int .i64 ((k : Nat) : Int))] h32 (Kw.nil hB35) fun q36 h37 => ?_
    clear h32
    refine wpO_end ?_
    refine then_n ?_
    refine kC 37 (!(mayB 2 ((k : Nat) : Int) (((chAt s k).toNat : Nat) : Int))) h37 (fun hc38 => ?_) (fun hc38 => ?_)
    ·
      rw [may_cls 2 (by decide) k x _ hx] at hc38
      refine kS ?_
      refine rp 3 ?_
      refine b0 (.C 0 38 <| .C 1 4 <| .C 2 5 <| .nil) [(5, .int .i64 3), (4, .int .i64 ((k : Nat) : Int)), (37, .bool (!(mayB 2 ((k : Nat) : Int) (((chAt s k).toNat : Nat) : Int)))), (28, .bool ((decide (((k : Nat) : Int) < ((s.size : Nat) : Int))) && (decide (((k : Nat) : Int) < (16 : Int))))), (0, .int .i64 2), (1, .string s), (6, .int .i64 1), (7, .int .i64 16), (8, .int .i64 ((k : Nat) : Int))] h37 (Kw.nil hB35) fun q39 h40 => ?_
      clear h37
      refine wpO_end ?_
      refine then_n ?_
      refine c_ret (by kernel_rfl) ?_
      refine inB_r (then_r (then_r (inB_r (then_r ?_))))
      refine ret2 (t := 4) (u := 5) (v := .int .i64 ((k : Nat) : Int)) (v' := .int .i64 3) h40 (by kernel_rfl) (by kernel_rfl) (by kernel_rfl) ?_
      exact ⟨_, _, rfl, refb_bad2 s (pfx_bad (sh := 1) hx (by rw [decide_eq_true (by omega), Bool.true_and]; exact hc38)), hB35.bel⟩
    rw [may_cls 2 (by decide) k x _ hx] at hc38
    refine c_skip (by kernel_rfl) ?_
    refine inB_n ?_
    refine then_n ?_
    refine rp 3 ?_
    refine b0 (.C 0 29 <| .E 1 30 (.int .i64 (IntKind.i64.wrap (((k : Nat) : Int) + 1))) <| .C 2 8 <| .nil) [(8, .int .i64 (IntKind.i64.wrap (((k : Nat) : Int) + 1))), (37, .bool (!(mayB 2 ((k : Nat) : Int) (((chAt s k).toNat : Nat) : Int)))), (28, .bool ((decide (((k : Nat) : Int) < ((s.size : Nat) : Int))) && (decide (((k : Nat) : Int) < (16 : Int))))), (0, .int .i64 2), (1, .string s), (4, .int .i64 0), (5, .int .i64 0), (6, .int .i64 1), (7, .int .i64 16)] h37 (Kw.nil hB35) fun q41 h42 => ?_
    clear h37
    refine wpO_end ?_
    have h43 := h42.keep [(0, .int .i64 2), (1, .string s), (4, .int .i64 0), (5, .int .i64 0), (6, .int .i64 1), (7, .int .i64 16), (8, .int .i64 (((k + 1) : Nat) : Int))] ⟨rfl, rfl, rfl, rfl, rfl, rfl, look_int rfl (wrap_succ (by have := hlt.2; omega)), trivial⟩
    have hm44 := h43.int (k := 8) (kd := .i64) (z := (((k + 1) : Nat) : Int)) rfl
    refine then_n ⟨⟨k + 1, by omega, h43, hB35, pfx_step hx23 hx (by rw [decide_eq_true (by omega), Bool.true_and]; exact hc38)⟩, ?_⟩
    show (((s.size : Int)) - intAt _ 8).toNat < (((s.size : Int)) - intAt _ 8).toNat
    rw [hm22, hm44]; omega
  have hend : s.size ≤ k ∨ 16 ≤ k := by have := hc26; simp at this; omega
  have hpf := pfx_ok2 (cl := (clsOf sp2)) (sh := 1) hx23 hend
  refine c_exit 0 (by kernel_rfl) ?_
  refine then_e (then_e (inB_hit ?_))
  refine then_n ?_
  refine kS ?_
  refine kS ?_
  refine rp 4 ?_
  refine b0 (.C 0 39 <| .E 1 40 (.int .i64 ((s.size : Nat) : Int)) <| .C 2 41 <| .E 3 42 (.bool (decide (((s.size : Nat) : Int) < (1 : Int)))) <| .nil) [(42, .bool (decide (((s.size : Nat) : Int) < (1 : Int)))), (0, .int .i64 2), (1, .string s), (4, .int .i64 0), (5, .int .i64 0), (7, .int .i64 16)] h25 (Kw.nil hB20) fun q45 h46 => ?_
  clear h25
  refine wpO_end ?_
  refine then_n ?_
  refine kC 42 (decide (((s.size : Nat) : Int) < (1 : Int))) h46 (fun hc47 => ?_) (fun hc47 => ?_)
  ·
    have hp48 : (((s.size : Nat) : Int) < (1 : Int)) := of_decide_eq_true hc47
    refine kS ?_
    refine rp 4 ?_
    refine b0 (.C 0 43 <| .E 1 44 (.int .i64 ((s.size : Nat) : Int)) <| .C 2 4 <| .C 3 5 <| .nil) [(5, .int .i64 4), (4, .int .i64 ((s.size : Nat) : Int)), (0, .int .i64 2), (1, .string s), (7, .int .i64 16)] h46 (Kw.nil hB20) fun q49 h50 => ?_
    clear h46
    refine wpO_end ?_
    refine then_n ?_
    refine c_ret (by kernel_rfl) ?_
    refine then_r ?_
    refine ret2 (t := 4) (u := 5) (v := .int .i64 ((s.size : Nat) : Int)) (v' := .int .i64 4) h50 (by kernel_rfl) (by kernel_rfl) (by kernel_rfl) ?_
    exact ⟨_, _, rfl, refb_bad2 s (show pfxE (clsOf sp2) 1 s = 4 from hpf.trans (cT hc47)), hB20.bel⟩
  have hp51 : ¬ (((s.size : Nat) : Int) < (1 : Int)) := of_decide_eq_false hc47
  refine c_skip (by kernel_rfl) ?_
  refine then_n ?_
  refine kS ?_
  refine kS ?_
  refine rp 4 ?_
  refine b0 (.C 0 45 <| .E 1 46 (.int .i64 ((s.size : Nat) : Int)) <| .C 2 47 <| .E 3 48 (.bool (decide ((16 : Int) < ((s.size : Nat) : Int)))) <| .nil) [(48, .bool (decide ((16 : Int) < ((s.size : Nat) : Int)))), (0, .int .i64 2), (1, .string s), (4, .int .i64 0), (5, .int .i64 0), (7, .int .i64 16)] h46 (Kw.nil hB20) fun q52 h53 => ?_
  clear h46
  refine wpO_end ?_
  refine then_n ?_
  refine kC 48 (decide ((16 : Int) < ((s.size : Nat) : Int))) h53 (fun hc54 => ?_) (fun hc54 => ?_)
  ·
    have hp55 : ((16 : Int) < ((s.size : Nat) : Int)) := of_decide_eq_true hc54
    refine kS ?_
    refine rp 3 ?_
    refine b0 (.C 0 49 <| .C 1 4 <| .C 2 5 <| .nil) [(5, .int .i64 5), (4, .int .i64 16), (0, .int .i64 2), (1, .string s)] h53 (Kw.nil hB20) fun q56 h57 => ?_
    clear h53
    refine wpO_end ?_
    refine then_n ?_
    refine c_ret (by kernel_rfl) ?_
    refine then_r ?_
    refine ret2 (t := 4) (u := 5) (v := .int .i64 16) (v' := .int .i64 5) h57 (by kernel_rfl) (by kernel_rfl) (by kernel_rfl) ?_
    exact ⟨_, _, rfl, refb_bad2 s (show pfxE (clsOf sp2) 1 s = 5 from hpf.trans ((cF hc47).trans (cT hc54))), hB20.bel⟩
  have hp58 : ¬ ((16 : Int) < ((s.size : Nat) : Int)) := of_decide_eq_false hc54
  refine c_skip (by kernel_rfl) ?_
  refine then_n ?_
  refine kS ?_
  refine kS ?_
  have hD59 := hB20.drew
  refine rd (Bx w []) 12 [⟨0, true, 0, 1, 1125899906842624⟩, ⟨1, true, 1, 1125899906842624, 2251799813685248⟩, ⟨2, true, 2, 2251799813685248, 4503599627370496⟩, ⟨3, true, 4, 4503599627370498, 9007199254740992⟩, ⟨4, true, 12, 13510798882111488, 18014398509481984⟩, ⟨5, true, 20, 22517998136852480, 36028797018963968⟩, ⟨6, true, 36, 40532396646334464, 72057594037927936⟩, ⟨7, true, 4, 4503599627370498, 144115188075855872⟩, ⟨8, true, 132, 148618787703226368, 288230376151711744⟩, ⟨9, false, 260, 292733975779082240, 576460752303423488⟩, ⟨10, true, 580, 653021945968721920, 1152921504606846976⟩, ⟨11, true, 1028, 1157425104234217472, 2305843009213693952⟩] hD59 ?_
  generalize World.drew w18 = w60 at hD59 ⊢
  refine d1 52 (rfl : false = false) (.C 0 50 <| .E 1 51 (.bool false) <| .C 2 52 <| .K 3 53 <| .K 4 54 <| .K 5 55 <| .K 6 56 <| .K 7 57 <| .K 8 58 <| .nil) [(58, undef), (56, undef), (52, .bool false), (0, .int .i64 2), (1, .string s), (4, .int .i64 0), (5, .int .i64 0)] h53 (fun _ hS => Kw.nil hS) fun q61 h62 => ?_
  clear h53
  refine kE 9 59 (2, true) (g3 52 (rfl : false = false)) h62 hD59 fun q63 h64 => ?_
  clear h62
  refine d1 52 (rfl : false = false) (.K 10 60 <| .E 11 61 (.bool false) <| .nil) [(61, .bool false), (0, .int .i64 2), (1, .string s), (4, .int .i64 0), (5, .int .i64 0)] h64 (fun _ hS => Kw.nil hS) fun q65 h66 => ?_
  clear h64
  refine wpO_end ?_
  refine then_n ?_
  refine kC 61 false h66 (fun e67 => Bool.noConfusion (e67.symm.trans (rfl))) (fun _ => ?_)
  refine c_skip (by kernel_rfl) ?_
  refine then_n ?_
  refine kS ?_
  refine kS ?_
  have hD68 := hD59.drew
  refine rd (Bx w []) 13 [⟨0, true, 0, 1, 4611686018427387904⟩, ⟨1, true, 1, 4611686018427387904, 9223372036854775808⟩, ⟨2, true, 2, 9223372036854775808, 18446744073709551616⟩, ⟨3, true, 4, 18446744073709551618, 36893488147419103232⟩, ⟨4, true, 12, 55340232221128654848, 73786976294838206464⟩, ⟨5, true, 4, 18446744073709551618, 147573952589676412928⟩, ⟨6, true, 36, 166020696663385964544, 295147905179352825856⟩, ⟨7, true, 68, 313594649253062377472, 590295810358705651712⟩, ⟨8, false, 132, 608742554432415203328, 1180591620717411303424⟩, ⟨9, true, 260, 1199038364791120855040, 2361183241434822606848⟩, ⟨10, false, 772, 2379629985508532158464, 4722366482869645213696⟩, ⟨11, true, 1044, 4814600203238192971776, 9444732965739290427392⟩, ⟨12, true, 2052, 9463179709812999979008, 18889465931478580854784⟩] hD68 ?_
  generalize World.drew w60 = w69 at hD68 ⊢
  refine d1 64 (rfl : false = false) (.C 0 62 <| .E 1 63 (.bool false) <| .C 2 64 <| .K 3 65 <| .K 4 66 <| .K 5 67 <| .K 6 68 <| .K 7 69 <| .nil) [(69, undef), (66, undef), (64, .bool false), (4, .int .i64 0), (5, .int .i64 0)] h66 (fun _ hS => Kw.nil hS) fun q70 h71 => ?_
  clear h66
  refine kE 8 70 (2, true) (g3 64 (rfl : false = false)) h71 hD68 fun q72 h73 => ?_
  clear h71
  refine d1 64 (rfl : false = false) (.K 9 71 <| .nil) [(71, undef), (66, undef), (64, .bool false), (4, .int .i64 0), (5, .int .i64 0)] h73 (fun _ hS => Kw.nil hS) fun q74 h75 => ?_
  clear h73
  refine kE 10 72 (2, true) (g3 64 (rfl : false = false)) h75 hD68 fun q76 h77 => ?_
  clear h75
  refine d1 64 (rfl : false = false) (.K 11 73 <| .E 12 74 (.bool false) <| .nil) [(74, .bool false), (4, .int .i64 0), (5, .int .i64 0)] h77 (fun _ hS => Kw.nil hS) fun q78 h79 => ?_
  clear h77
  refine wpO_end ?_
  refine then_n ?_
  refine kC 74 false h79 (fun e80 => Bool.noConfusion (e80.symm.trans (rfl))) (fun _ => ?_)
  refine c_skip (by kernel_rfl) ?_
  refine then_n ?_
  refine kS ?_
  refine rp 2 ?_
  refine b0 (.C 0 4 <| .C 1 5 <| .nil) [(5, .int .i64 0), (4, .int .i64 0)] h79 (Kw.nil hD68) fun q81 h82 => ?_
  clear h79
  refine wpO_end ?_
  refine then_n ?_
  refine c_ret (by kernel_rfl) ?_
  refine ret2 (t := 4) (u := 5) (v := .int .i64 0) (v' := .int .i64 0) h82 (by kernel_rfl) (by kernel_rfl) (by kernel_rfl) ?_
  exact ⟨_, _, rfl, refb_ok2 s (hpf.trans ((cF hc47).trans (cF hc54))), hD68.bel⟩

set_option maxHeartbeats 4000000 in
set_option maxRecDepth 20000 in
theorem c50_0 (s : ByteArray) (w : World) : Calls Tryd.prog 50 #[.int .i64 0, .string s] w fun e w' => e = .returned (.bool (isinB s)) ∧ Below w.heap.size w w' := by
  refine enter Tryd.func50 (by kernel_rfl) ?_ (by kernel_rfl)
  intro q0 h0
  replace h0 := h0.conv (l' := [(0, .int .i64 0), (1, .string s)]) rfl
  have hB := Bx.refl w
  refine kS ?_
  refine rp 1 ?_
  refine b0 (.C 0 4 <| .nil) [(4, .bool false), (0, .int .i64 0), (1, .string s)] h0 (Kw.nil hB) fun q1 h2 => ?_
  clear h0
  refine wpO_end ?_
  refine then_n ?_
  refine kS ?_
  refine rp 8 ?_
  refine b0 (.C 0 8 <| .C 1 9 <| .nil) [(9, .string s), (8, .int .i64 0), (4, .bool false)] h2 (Kw.nil hB) fun q3 h4 => ?_
  clear h2
  refine sC 2 10 h4 gok_none (c63_0 s w) ?_
  rintro _ w9 ⟨at'7, E8, rfl, hE12, hb10⟩
  have hB11 := hB.call hb10
  refine ⟨_, rfl, trivial, fun q5 h6 => ?_⟩
  clear h4 hB hb10
  refine b0 (.C 3 7 <| .E 4 11 (.int .i64 at'7) <| .E 5 12 (.int .i64 E8) <| .C 6 5 <| .C 7 6 <| .nil) [(6, .int .i64 E8), (4, .bool false)] h6 (Kw.nil hB11) fun q13 h14 => ?_
  clear h6
  refine wpO_end ?_
  refine then_n ?_
  refine kS ?_
  refine rp 3 ?_
  refine b0 (.C 0 13 <| .E 1 14 (.bool (E8 == (0 : Int))) <| .C 2 4 <| .nil) [(4, .bool (E8 == (0 : Int)))] h14 (Kw.nil hB11) fun q15 h16 => ?_
  clear h14
  refine wpO_end ?_
  refine then_n ?_
  refine c_ret (by kernel_rfl) ?_
  refine ret1 (t := 4) (v := .bool (E8 == (0 : Int))) h16 (by kernel_rfl) (by kernel_rfl) ?_
  exact ⟨ret_eq (congrArg Value.bool hE12), hB11.bel⟩

set_option maxHeartbeats 4000000 in
set_option maxRecDepth 20000 in
theorem c50_1 (s : ByteArray) (w : World) : Calls Tryd.prog 50 #[.int .i64 1, .string s] w fun e w' => e = .returned (.bool (memB s)) ∧ Below w.heap.size w w' := by
  refine enter Tryd.func50 (by kernel_rfl) ?_ (by kernel_rfl)
  intro q0 h0
  replace h0 := h0.conv (l' := [(0, .int .i64 1), (1, .string s)]) rfl
  have hB := Bx.refl w
  refine kS ?_
  refine rp 1 ?_
  refine b0 (.C 0 4 <| .nil) [(4, .bool false), (0, .int .i64 1), (1, .string s)] h0 (Kw.nil hB) fun q1 h2 => ?_
  clear h0
  refine wpO_end ?_
  refine then_n ?_
  refine kS ?_
  refine rp 8 ?_
  refine b0 (.C 0 8 <| .C 1 9 <| .nil) [(9, .string s), (8, .int .i64 1), (4, .bool false)] h2 (Kw.nil hB) fun q3 h4 => ?_
  clear h2
  refine sC 2 10 h4 gok_none (c63_1 s w) ?_
  rintro _ w9 ⟨at'7, E8, rfl, hE12, hb10⟩
  have hB11 := hB.call hb10
  refine ⟨_, rfl, trivial, fun q5 h6 => ?_⟩
  clear h4 hB hb10
  refine b0 (.C 3 7 <| .E 4 11 (.int .i64 at'7) <| .E 5 12 (.int .i64 E8) <| .C 6 5 <| .C 7 6 <| .nil) [(6, .int .i64 E8), (4, .bool false)] h6 (Kw.nil hB11) fun q13 h14 => ?_
  clear h6
  refine wpO_end ?_
  refine then_n ?_
  refine kS ?_
  refine rp 3 ?_
  refine b0 (.C 0 13 <| .E 1 14 (.bool (E8 == (0 : Int))) <| .C 2 4 <| .nil) [(4, .bool (E8 == (0 : Int)))] h14 (Kw.nil hB11) fun q15 h16 => ?_
  clear h14
  refine wpO_end ?_
  refine then_n ?_
  refine c_ret (by kernel_rfl) ?_
  refine ret1 (t := 4) (v := .bool (E8 == (0 : Int))) h16 (by kernel_rfl) (by kernel_rfl) ?_
  exact ⟨ret_eq (congrArg Value.bool hE12), hB11.bel⟩

set_option maxHeartbeats 4000000 in
set_option maxRecDepth 20000 in
theorem c50_2 (s : ByteArray) (w : World) : Calls Tryd.prog 50 #[.int .i64 2, .string s] w fun e w' => e = .returned (.bool (rfB s)) ∧ Below w.heap.size w w' := by
  refine enter Tryd.func50 (by kernel_rfl) ?_ (by kernel_rfl)
  intro q0 h0
  replace h0 := h0.conv (l' := [(0, .int .i64 2), (1, .string s)]) rfl
  have hB := Bx.refl w
  refine kS ?_
  refine rp 1 ?_
  refine b0 (.C 0 4 <| .nil) [(4, .bool false), (0, .int .i64 2), (1, .string s)] h0 (Kw.nil hB) fun q1 h2 => ?_
  clear h0
  refine wpO_end ?_
  refine then_n ?_
  refine kS ?_
  refine rp 8 ?_
  refine b0 (.C 0 8 <| .C 1 9 <| .nil) [(9, .string s), (8, .int .i64 2), (4, .bool false)] h2 (Kw.nil hB) fun q3 h4 => ?_
  clear h2
  refine sC 2 10 h4 gok_none (c63_2 s w) ?_
  rintro _ w9 ⟨at'7, E8, rfl, hE12, hb10⟩
  have hB11 := hB.call hb10
  refine ⟨_, rfl, trivial, fun q5 h6 => ?_⟩
  clear h4 hB hb10
  refine b0 (.C 3 7 <| .E 4 11 (.int .i64 at'7) <| .E 5 12 (.int .i64 E8) <| .C 6 5 <| .C 7 6 <| .nil) [(6, .int .i64 E8), (4, .bool false)] h6 (Kw.nil hB11) fun q13 h14 => ?_
  clear h6
  refine wpO_end ?_
  refine then_n ?_
  refine kS ?_
  refine rp 3 ?_
  refine b0 (.C 0 13 <| .E 1 14 (.bool (E8 == (0 : Int))) <| .C 2 4 <| .nil) [(4, .bool (E8 == (0 : Int)))] h14 (Kw.nil hB11) fun q15 h16 => ?_
  clear h14
  refine wpO_end ?_
  refine then_n ?_
  refine c_ret (by kernel_rfl) ?_
  refine ret1 (t := 4) (v := .bool (E8 == (0 : Int))) h16 (by kernel_rfl) (by kernel_rfl) ?_
  exact ⟨ret_eq (congrArg Value.bool hE12), hB11.bel⟩

def dayB (n : Int) : Bool := decide (0 ≤ n) && decide (n ≤ 73048)

set_option maxHeartbeats 4000000 in
set_option maxRecDepth 20000 in
theorem c51 (n : Int) (w : World) : Calls Tryd.prog 51 #[.int .i64 n] w fun e w' => e = .returned (.bool (dayB n)) ∧ Below w.heap.size w w' := by
  refine enter Tryd.func51 (by kernel_rfl) ?_ (by kernel_rfl)
  intro q0 h0
  replace h0 := h0.conv (l' := [(0, .int .i64 n)]) rfl
  have hB := Bx.refl w
  refine kS ?_
  refine rp 1 ?_
  refine b0 (.C 0 2 <| .nil) [(2, .bool false), (0, .int .i64 n)] h0 (Kw.nil hB) fun q1 h2 => ?_
  clear h0
  refine wpO_end ?_
  refine then_n ?_
  refine kS ?_
  refine rp 7 ?_
  refine b0 (.C 0 3 <| .E 1 4 (.bool (decide ((0 : Int) ≤ n))) <| .C 2 5 <| .J 5 8 5 7 true (decide ((0 : Int) ≤ n)) (decide (n ≤ (73048 : Int))) (.C 3 6 <| .E 4 7 (.bool (decide (n ≤ (73048 : Int)))) <| .nil) <| .C 6 2 <| .nil) [(2, .bool ((decide ((0 : Int) ≤ n)) && (decide (n ≤ (73048 : Int)))))] h2 (Kw.nil hB) fun q3 h4 => ?_
  clear h2
  refine wpO_end ?_
  refine then_n ?_
  refine c_ret (by kernel_rfl) ?_
  refine ret1 (t := 2) (v := .bool ((decide ((0 : Int) ≤ n)) && (decide (n ≤ (73048 : Int))))) h4 (by kernel_rfl) (by kernel_rfl) ?_
  exact ⟨ret_eq (rfl), hB.bel⟩

end Go.Proofs.YtljegdokbifoiaaDoor.Af
