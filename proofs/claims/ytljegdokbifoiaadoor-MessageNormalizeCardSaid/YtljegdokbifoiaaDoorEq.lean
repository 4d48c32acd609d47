/- Equality of instructions, in both packages. Short lists of links. -/
import Derived.Test.YtljegdokbifoiaaDoorEqp
namespace Go.Proofs.YtljegdokbifoiaaDoor.Af
open Go.RowKit
set_option maxHeartbeats 4000000 in
set_option maxRecDepth 20000 in
theorem c53 (ls ms : List Lk) (A B : Option Addr) (c d : Nat) (w : World) (hn : ls.length ≤ 4611686018427387904) (hr : Rd w A (lkc ls)) (hr2 : Rd w B (lkc ms)) : Calls Tryd.prog 53 #[.slice A ls.length c, .slice B ms.length d] w fun e w' => e = .returned (.bool (lksEq ls ms)) ∧ Below w.heap.size w w' := by
  refine enter Tryd.func53 (by kernel_rfl) ?_ (by kernel_rfl)
  intro q0 h0
  replace h0 := h0.conv (l' := [(0, .slice A ls.length c), (1, .slice B ms.length d)]) rfl
  have hB := Bx.refl w
  refine kS ?_
  refine rp 1 ?_
  refine b0 (.C 0 4 <| .nil) [(4, .bool false), (0, .slice A ls.length c), (1, .slice B ms.length d)] h0 (Kw.nil hB) fun q1 h2 => ?_
  clear h0
  refine wpO_end ?_
  refine then_n ?_
  refine kS ?_
  refine kS ?_
  refine rp 5 ?_
  refine b0 (.C 0 6 <| .E 1 7 (.int .i64 ((ls.length : Nat) : Int)) <| .C 2 8 <| .E 3 9 (.int .i64 ((ms.length : Nat) : Int)) <| .E 4 10 (.bool (((ls.length : Nat) : Int) != ((ms.length : Nat) : Int))) <| .nil) [(10, .bool (((ls.length : Nat) : Int) != ((ms.length : Nat) : Int))), (4, .bool false), (0, .slice A ls.length c), (1, .slice B ms.length d)] h2 (Kw.nil hB) fun q3 h4 => ?_
  clear h2
  refine wpO_end ?_
  refine then_n ?_
  refine kC 10 (((ls.length : Nat) : Int) != ((ms.length : Nat) : Int)) h4 (fun hc5 => ?_) (fun hc5 => ?_)
  ·
    refine kS ?_
    refine rp 1 ?_
    refine b0 (.C 0 4 <| .nil) [(4, .bool false), (0, .slice A ls.length c), (1, .slice B ms.length d)] h4 (Kw.nil hB) fun q6 h7 => ?_
    clear h4
    refine wpO_end ?_
    refine then_n ?_
    refine c_ret (by kernel_rfl) ?_
    refine then_r ?_
    refine ret1 (t := 4) (v := .bool false) h7 (by kernel_rfl) (by kernel_rfl) ?_
    exact ⟨ret_eq (congrArg Value.bool (lksEq_len (by have := hc5; simp at this; omega)).symm), hB.bel⟩
  have hll : ls.length = ms.length := by have := hc5; simp at this; omega
  refine c_skip (by kernel_rfl) ?_
  refine then_n ?_
  refine kS ?_
  refine kS ?_
  refine rp 3 ?_
  refine b0 (.C 0 11 <| .E 1 12 (.int .i64 ((ls.length : Nat) : Int)) <| .C 2 13 <| .nil) [(13, .int .i64 0), (12, .int .i64 ((ls.length : Nat) : Int)), (4, .bool false), (0, .slice A ls.length c), (1, .slice B ms.length d)] h4 (Kw.nil hB) fun q8 h9 => ?_
  clear h4
  refine wpO_end ?_
  refine then_n ?_
  refine c_block 0 (by kernel_rfl) ?_
  refine c_loop (by kernel_rfl) (fun qa qw => ∃ k : Nat, (k ≤ ls.length) ∧ Fr 26 [(0, .slice A ls.length c), (1, .slice B ms.length d), (12, .int .i64 ((ls.length : Nat) : Int)), (13, .int .i64 ((k : Nat) : Int))] qa ∧ Bx w [] qw ∧ (∀ (j : Nat) (x y : Lk), j < k → ls[j]? = some x → ms[j]? = some y → lkEq x y = true)) (fun qa _ => (((ls.length : Int)) - intAt qa 13).toNat) ⟨0, Nat.zero_le _, h9.keep _ ⟨rfl, rfl, rfl, rfl, trivial⟩, hB, fun j _ _ hj => absurd hj (Nat.not_lt_zero _)⟩ ?_
  rintro q10 w11 ⟨k, hk14, h12, hB13, hx16⟩
  have hm15 := h12.int (k := 13) (kd := .i64) (z := ((k : Nat) : Int)) rfl
  clear h9 hB
  refine kS ?_
  refine rp 1 ?_
  refine b0 (.E 0 14 (.bool (decide (((k : Nat) : Int) < ((ls.length : Nat) : Int)))) <| .nil) [(14, .bool (decide (((k : Nat) : Int) < ((ls.length : Nat) : Int)))), (0, .slice A ls.length c), (1, .slice B ms.length d), (12, .int .i64 ((ls.length : Nat) : Int)), (13, .int .i64 ((k : Nat) : Int))] h12 (Kw.nil hB13) fun q17 h18 => ?_
  clear h12
  refine wpO_end ?_
  refine then_n ?_
  refine kS ?_
  refine kC 14 (decide (((k : Nat) : Int) < ((ls.length : Nat) : Int))) h18 (fun hc19 => ?_) (fun hc19 => ?_)
  ·
    have hp20 : (((k : Nat) : Int) < ((ls.length : Nat) : Int)) := of_decide_eq_true hc19
    have hlt : k < ls.length := by omega
    obtain ⟨x, hx⟩ : ∃ x, ls[k]? = some x := ⟨ls[k]'(by omega), List.getElem?_eq_getElem (by omega)⟩
    obtain ⟨ad, hA, hE0⟩ := hr.el (k * 2) [.int .i64 x.t, .string x.r] (by simp) (lkc_el ls k x hx)
    subst hA
    obtain ⟨y, hy⟩ : ∃ y, ms[k]? = some y := ⟨ms[k]'(by omega), List.getElem?_eq_getElem (by omega)⟩
    obtain ⟨ad', hA, hE1⟩ := hr2.el (k * 2) [.int .i64 y.t, .string y.r] (by simp) (lkc_el ms k y hy)
    subst hA
    refine c_skip (by kernel_rfl) ?_
    refine then_n ?_
    refine kS ?_
    refine c_block 1 (by kernel_rfl) ?_
    refine kS ?_
    refine rp 2 ?_
    refine b0 (.C 0 15 <| .C 1 5 <| .nil) [(5, .int .i64 ((k : Nat) : Int)), (14, .bool (decide (((k : Nat) : Int) < ((ls.length : Nat) : Int)))), (0, .slice (some ad) ls.length c), (1, .slice (some ad') ms.length d), (12, .int .i64 ((ls.length : Nat) : Int)), (13, .int .i64 ((k : Nat) : Int))] h18 (Kw.nil hB13) fun q21 h22 => ?_
    clear h18
    refine wpO_end ?_
    refine then_n ?_
    refine kS ?_
    have hD23 := hB13.drew
    refine rd (Bx w []) 9 [⟨0, true, 0, 1, 65536⟩, ⟨1, true, 0, 32, 131072⟩, ⟨2, true, 3, 196608, 262144⟩, ⟨3, true, 4, 262144, 524288⟩, ⟨4, true, 0, 2, 1048576⟩, ⟨5, true, 0, 32, 2097152⟩, ⟨6, true, 48, 3145728, 4194304⟩, ⟨7, true, 64, 4194304, 8388608⟩, ⟨8, true, 136, 8912896, 16777216⟩] hD23 ?_
    generalize World.drew w11 = w24 at hD23 ⊢
    refine d0 (.C 0 16 <| .C 1 17 <| .nil) [(17, .int .i64 ((k : Nat) : Int)), (16, .slice (some ad) ls.length c), (5, .int .i64 ((k : Nat) : Int)), (14, .bool (decide (((k : Nat) : Int) < ((ls.length : Nat) : Int)))), (0, .slice (some ad) ls.length c), (1, .slice (some ad') ms.length d), (12, .int .i64 ((ls.length : Nat) : Int)), (13, .int .i64 ((k : Nat) : Int))] h22 (fun _ hS => Kw.nil hS) fun q25 h26 => ?_
    clear h22
    refine fE 2 18 (.indexAddr 27 (.tmp 16) (.tmp 17)) 0 (.pointer (some ((ad.add (k * 2)).add 0))) h26 (hr := fun _ hS => r_index0 (n := ls.length) (c := c) (kd := .i64) (by kernel_rfl) (by kernel_rfl) (by omega) (by kernel_rfl)) fun q27 h28 => ?_
    clear h26
    refine d0 (.Y 3 19 0 0 2 <| .C 4 20 <| .C 5 21 <| .nil) [(21, .int .i64 ((k : Nat) : Int)), (20, .slice (some ad') ms.length d), (19, .agg #[.int .i64 x.t, .string x.r]), (5, .int .i64 ((k : Nat) : Int)), (14, .bool (decide (((k : Nat) : Int) < ((ls.length : Nat) : Int)))), (0, .slice (some ad) ls.length c), (1, .slice (some ad') ms.length d), (12, .int .i64 ((ls.length : Nat) : Int)), (13, .int .i64 ((k : Nat) : Int))] h28 (fun _ hS => (Kw.nil hS).cons (hE0.below hS.bel)) fun q29 h30 => ?_
    clear h28
    refine fE 6 22 (.indexAddr 27 (.tmp 20) (.tmp 21)) 0 (.pointer (some ((ad'.add (k * 2)).add 0))) h30 (hr := fun _ hS => r_index0 (n := ms.length) (c := d) (kd := .i64) (by kernel_rfl) (by kernel_rfl) (by omega) (by kernel_rfl)) fun q31 h32 => ?_
    clear h30
    refine d0 (.Y 7 23 0 0 2 <| .nil) [(23, .agg #[.int .i64 y.t, .string y.r]), (19, .agg #[.int .i64 x.t, .string x.r]), (5, .int .i64 ((k : Nat) : Int)), (14, .bool (decide (((k : Nat) : Int) < ((ls.length : Nat) : Int)))), (0, .slice (some ad) ls.length c), (1, .slice (some ad') ms.length d), (12, .int .i64 ((ls.length : Nat) : Int)), (13, .int .i64 ((k : Nat) : Int))] h32 (fun _ hS => (Kw.nil hS).cons (hE1.below hS.bel)) fun q33 h34 => ?_
    clear h32
    refine fE 8 24 (.binOp .neq 66 (.tmp 19) (.tmp 23) 66) 4 (.bool (!(lkEq x y))) h34 (hr := fun _ hS => r_neqA _ (by kernel_rfl) (by kernel_rfl) (by kernel_rfl) (eq66 x y _)) fun q35 h36 => ?_
    clear h34
    refine wpO_end ?_
    have h37 := h36.keep [(24, .bool (!(lkEq x y))), (5, .int .i64 ((k : Nat) : Int)), (14, .bool (decide (((k : Nat) : Int) < ((ls.length : Nat) : Int)))), (0, .slice (some ad) ls.length c), (1, .slice (some ad') ms.length d), (12, .int .i64 ((ls.length : Nat) : Int)), (13, .int .i64 ((k : Nat) : Int))] ⟨rfl, rfl, rfl, rfl, rfl, rfl, rfl, trivial⟩
    clear h36
    refine then_n ?_
    refine kC 24 (!(lkEq x y)) h37 (fun hc38 => ?_) (fun hc38 => ?_)
    ·
      refine kS ?_
      refine rp 1 ?_
      refine b0 (.C 0 4 <| .nil) [(4, .bool false), (24, .bool (!(lkEq x y))), (5, .int .i64 ((k : Nat) : Int)), (14, .bool (decide (((k : Nat) : Int) < ((ls.length : Nat) : Int)))), (0, .slice (some ad) ls.length c), (1, .slice (some ad') ms.length d), (12, .int .i64 ((ls.length : Nat) : Int)), (13, .int .i64 ((k : Nat) : Int))] h37 (Kw.nil hD23) fun q39 h40 => ?_
      clear h37
      refine wpO_end ?_
      refine then_n ?_
      refine c_ret (by kernel_rfl) ?_
      refine inB_r (then_r (then_r (inB_r (then_r ?_))))
      refine ret1 (t := 4) (v := .bool false) h40 (by kernel_rfl) (by kernel_rfl) ?_
      exact ⟨ret_eq (congrArg Value.bool (lksEq_no hx hy (by simpa using hc38)).symm), hD23.bel⟩
    refine c_skip (by kernel_rfl) ?_
    refine inB_n ?_
    refine then_n ?_
    refine rp 2 ?_
    refine b0 (.E 0 25 (.int .i64 (IntKind.i64.wrap (((k : Nat) : Int) + 1))) <| .C 1 13 <| .nil) [(13, .int .i64 (IntKind.i64.wrap (((k : Nat) : Int) + 1))), (24, .bool (!(lkEq x y))), (5, .int .i64 ((k : Nat) : Int)), (14, .bool (decide (((k : Nat) : Int) < ((ls.length : Nat) : Int)))), (0, .slice (some ad) ls.length c), (1, .slice (some ad') ms.length d), (12, .int .i64 ((ls.length : Nat) : Int))] h37 (Kw.nil hD23) fun q41 h42 => ?_
    clear h37
    refine wpO_end ?_
    have h43 := h42.keep [(0, .slice (some ad) ls.length c), (1, .slice (some ad') ms.length d), (12, .int .i64 ((ls.length : Nat) : Int)), (13, .int .i64 (((k + 1) : Nat) : Int))] ⟨rfl, rfl, rfl, look_int rfl (wrap_succ (by have := hn; omega)), trivial⟩
    have hm44 := h43.int (k := 13) (kd := .i64) (z := (((k + 1) : Nat) : Int)) rfl
    refine then_n ⟨⟨k + 1, by omega, h43, hD23, fun j u v hj hu hv => by rcases Nat.lt_succ_iff_lt_or_eq.1 hj with h' | rfl; exact hx16 j u v h' hu hv; rw [hx] at hu; rw [hy] at hv; cases hu; cases hv; simpa using hc38⟩, ?_⟩
    show (((ls.length : Int)) - intAt _ 13).toNat < (((ls.length : Int)) - intAt _ 13).toNat
    rw [hm15, hm44]; omega
  have hp45 : ¬ (((k : Nat) : Int) < ((ls.length : Nat) : Int)) := of_decide_eq_false hc19
  refine c_exit 0 (by kernel_rfl) ?_
  refine then_e (then_e (inB_hit ?_))
  refine then_n ?_
  refine kS ?_
  refine rp 1 ?_
  refine b0 (.C 0 4 <| .nil) [(4, .bool true)] h18 (Kw.nil hB13) fun q46 h47 => ?_
  clear h18
  refine wpO_end ?_
  refine then_n ?_
  refine c_ret (by kernel_rfl) ?_
  refine ret1 (t := 4) (v := .bool true) h47 (by kernel_rfl) (by kernel_rfl) ?_
  exact ⟨ret_eq (congrArg Value.bool (lksEq_yes hll fun j x y hx' hy' => hx16 j x y (by have := (List.getElem?_eq_some_iff.1 hx').1; omega) hx' hy').symm), hB13.bel⟩

def insFE (i j : Ins) : Bool := (((((((((((((((i.ref.toList == j.ref.toList) && (i.kind == j.kind)) && (i.sender.toList == j.sender.toList)) && (i.cpty.toList == j.cpty.toList)) && (i.side == j.side)) && (i.asset.toList == j.asset.toList)) && (i.qty == j.qty)) && (i.amt == j.amt)) && (i.tday == j.tday)) && (i.sday == j.sday)) && (i.prio == j.prio)) && (i.part == j.part)) && (i.minlot == j.minlot)) && (i.hold == j.hold)) && (i.resv == j.resv))
def insEq (i j : Ins) : Bool := insFE i j && lksEq i.links j.links
def sameI (i j : Ins) : Bool := lksEq i.links j.links && insFE i j
theorem same_eq (i j : Ins) : insEq i j = sameI i j := Bool.and_comm _ _

set_option maxHeartbeats 4000000 in
set_option maxRecDepth 20000 in
theorem c24 (i j : Ins) (A B : Option Addr) (c d : Nat) (w : World) (hn : i.links.length ≤ 4611686018427387904) (hr : Rd w A (lkc i.links)) (hr2 : Rd w B (lkc j.links)) : Calls Tryd.prog 24 #[insV i A c, insV j B d] w fun e w' => e = .returned (.bool (insEq i j)) ∧ Below w.heap.size w w' := by
  refine enter Tryd.func24 (by kernel_rfl) ?_ (by kernel_rfl)
  intro q0 h0
  replace h0 := h0.conv (l' := [(0, insV i A c), (1, insV j B d)]) rfl
  have hB := Bx.refl w
  refine kS ?_
  refine rp 3 ?_
  refine sA 0 2 (fun b => .pointer (some ⟨b, 0, none⟩)) (.cells (insV i A c).cells 29 (0, 0)) h0 gok_none hB (fun _ _ hq => trivial) (fun b3 w4 hB5 hN q1 h2 => ?_)
  clear h0 hB hN
  refine sA 1 3 (fun b => .pointer (some ⟨b, 0, none⟩)) (.cells (insV j B d).cells 29 (0, 0)) h2 gok_none hB5 (fun _ _ hq => trivial) (fun b8 w9 hB10 hN q6 h7 => ?_)
  clear h2 hB5 hN
  refine b0 (.C 2 4 <| .nil) [(4, .bool false), (3, .pointer (some ⟨b8, 0, none⟩)), (2, .pointer (some ⟨b3, 0, none⟩))] h7 (Kw.nil hB10) fun q11 h12 => ?_
  clear h7
  refine wpO_end ?_
  refine then_n ?_
  refine kS ?_
  refine rp 111 ?_
  refine b0 (.C 0 5 <| .L 1 6 1 0 <| .C 2 7 <| .L 3 8 0 0 <| .E 4 9 (.bool (i.ref.toList == j.ref.toList)) <| .C 5 10 <| .J 11 16 10 15 true (i.ref.toList == j.ref.toList) (i.kind == j.kind) (.C 6 11 <| .L 7 12 1 1 <| .C 8 13 <| .L 9 14 0 1 <| .E 10 15 (.bool (i.kind == j.kind)) <| .nil) <| .C 12 17 <| .J 18 23 17 22 true ((i.ref.toList == j.ref.toList) && (i.kind == j.kind)) (i.sender.toList == j.sender.toList) (.C 13 18 <| .L 14 19 1 2 <| .C 15 20 <| .L 16 21 0 2 <| .E 17 22 (.bool (i.sender.toList == j.sender.toList)) <| .nil) <| .C 19 24 <| .J 25 30 24 29 true (((i.ref.toList == j.ref.toList) && (i.kind == j.kind)) && (i.sender.toList == j.sender.toList)) (i.cpty.toList == j.cpty.toList) (.C 20 25 <| .L 21 26 1 3 <| .C 22 27 <| .L 23 28 0 3 <| .E 24 29 (.bool (i.cpty.toList == j.cpty.toList)) <| .nil) <| .C 26 31 <| .J 32 37 31 36 true ((((i.ref.toList == j.ref.toList) && (i.kind == j.kind)) && (i.sender.toList == j.sender.toList)) && (i.cpty.toList == j.cpty.toList)) (i.side == j.side) (.C 27 32 <| .L 28 33 1 4 <| .C 29 34 <| .L 30 35 0 4 <| .E 31 36 (.bool (i.side == j.side)) <| .nil) <| .C 33 38 <| .J 39 44 38 43 true (((((i.ref.toList == j.ref.toList) && (i.kind == j.kind)) && (i.sender.toList == j.sender.toList)) && (i.cpty.toList == j.cpty.toList)) && (i.side == j.side)) (i.asset.toList == j.asset.toList) (.C 34 39 <| .L 35 40 1 5 <| .C 36 41 <| .L 37 42 0 5 <| .E 38 43 (.bool (i.asset.toList == j.asset.toList)) <| .nil) <| .C 40 45 <| .J 46 51 45 50 true ((((((i.ref.toList == j.ref.toList) && (i.kind == j.kind)) && (i.sender.toList == j.sender.toList)) && (i.cpty.toList == j.cpty.toList)) && (i.side == j.side)) && (i.asset.toList == j.asset.toList)) (i.qty == j.qty) (.C 41 46 <| .L 42 47 1 6 <| .C 43 48 <| .L 44 49 0 6 <| .E 45 50 (.bool (i.qty == j.qty)) <| .nil) <| .C 47 52 <| .J 53 58 52 57 true (((((((i.ref.toList == j.ref.toList) && (i.kind == j.kind)) && (i.sender.toList == j.sender.toList)) && (i.cpty.toList == j.cpty.toList)) && (i.side == j.side)) && (i.asset.toList == j.asset.toList)) && (i.qty == j.qty)) (i.amt == j.amt) (.C 48 53 <| .L 49 54 1 7 <| .C 50 55 <| .L 51 56 0 7 <| .E 52 57 (.bool (i.amt == j.amt)) <| .nil) <| .C 54 59 <| .J 60 65 59 64 true ((((((((i.ref.toList == j.ref.toList) && (i.kind == j.kind)) && (i.sender.toList == j.sender.toList)) && (i.cpty.toList == j.cpty.toList)) && (i.side == j.side)) && (i.asset.toList == j.asset.toList)) && (i.qty == j.qty)) && (i.amt == j.amt)) (i.tday == j.tday) (.C 55 60 <| .L 56 61 1 8 <| .C 57 62 <| .L 58 63 0 8 <| .E 59 64 (.bool (i.tday == j.tday)) <| .nil) <| .C 61 66 <| .J 67 72 66 71 true (((((((((i.ref.toList == j.ref.toList) && (i.kind == j.kind)) && (i.sender.toList == j.sender.toList)) && (i.cpty.toList == j.cpty.toList)) && (i.side == j.side)) && (i.asset.toList == j.asset.toList)) && (i.qty == j.qty)) && (i.amt == j.amt)) && (i.tday == j.tday)) (i.sday == j.sday) (.C 62 67 <| .L 63 68 1 9 <| .C 64 69 <| .L 65 70 0 9 <| .E 66 71 (.bool (i.sday == j.sday)) <| .nil) <| .C 68 73 <| .J 74 79 73 78 true ((((((((((i.ref.toList == j.ref.toList) && (i.kind == j.kind)) && (i.sender.toList == j.sender.toList)) && (i.cpty.toList == j.cpty.toList)) && (i.side == j.side)) && (i.asset.toList == j.asset.toList)) && (i.qty == j.qty)) && (i.amt == j.amt)) && (i.tday == j.tday)) && (i.sday == j.sday)) (i.prio == j.prio) (.C 69 74 <| .L 70 75 1 10 <| .C 71 76 <| .L 72 77 0 10 <| .E 73 78 (.bool (i.prio == j.prio)) <| .nil) <| .C 75 80 <| .J 81 86 80 85 true (((((((((((i.ref.toList == j.ref.toList) && (i.kind == j.kind)) && (i.sender.toList == j.sender.toList)) && (i.cpty.toList == j.cpty.toList)) && (i.side == j.side)) && (i.asset.toList == j.asset.toList)) && (i.qty == j.qty)) && (i.amt == j.amt)) && (i.tday == j.tday)) && (i.sday == j.sday)) && (i.prio == j.prio)) (i.part == j.part) (.C 76 81 <| .L 77 82 1 11 <| .C 78 83 <| .L 79 84 0 11 <| .E 80 85 (.bool (i.part == j.part)) <| .nil) <| .C 82 87 <| .J 88 93 87 92 true ((((((((((((i.ref.toList == j.ref.toList) && (i.kind == j.kind)) && (i.sender.toList == j.sender.toList)) && (i.cpty.toList == j.cpty.toList)) && (i.side == j.side)) && (i.asset.toList == j.asset.toList)) && (i.qty == j.qty)) && (i.amt == j.amt)) && (i.tday == j.tday)) && (i.sday == j.sday)) && (i.prio == j.prio)) && (i.part == j.part)) (i.minlot == j.minlot) (.C 83 88 <| .L 84 89 1 12 <| .C 85 90 <| .L 86 91 0 12 <| .E 87 92 (.bool (i.minlot == j.minlot)) <| .nil) <| .C 89 94 <| .J 95 100 94 99 true (((((((((((((i.ref.toList == j.ref.toList) && (i.kind == j.kind)) && (i.sender.toList == j.sender.toList)) && (i.cpty.toList == j.cpty.toList)) && (i.side == j.side)) && (i.asset.toList == j.asset.toList)) && (i.qty == j.qty)) && (i.amt == j.amt)) && (i.tday == j.tday)) && (i.sday == j.sday)) && (i.prio == j.prio)) && (i.part == j.part)) && (i.minlot == j.minlot)) (i.hold == j.hold) (.C 90 95 <| .L 91 96 1 13 <| .C 92 97 <| .L 93 98 0 13 <| .E 94 99 (.bool (i.hold == j.hold)) <| .nil) <| .C 96 101 <| .J 102 107 101 106 true ((((((((((((((i.ref.toList == j.ref.toList) && (i.kind == j.kind)) && (i.sender.toList == j.sender.toList)) && (i.cpty.toList == j.cpty.toList)) && (i.side == j.side)) && (i.asset.toList == j.asset.toList)) && (i.qty == j.qty)) && (i.amt == j.amt)) && (i.tday == j.tday)) && (i.sday == j.sday)) && (i.prio == j.prio)) && (i.part == j.part)) && (i.minlot == j.minlot)) && (i.hold == j.hold)) (i.resv == j.resv) (.C 97 102 <| .L 98 103 1 14 <| .C 99 104 <| .L 100 105 0 14 <| .E 101 106 (.bool (i.resv == j.resv)) <| .nil) <| .C 103 108 <| .nil) [(108, .bool (((((((((((((((i.ref.toList == j.ref.toList) && (i.kind == j.kind)) && (i.sender.toList == j.sender.toList)) && (i.cpty.toList == j.cpty.toList)) && (i.side == j.side)) && (i.asset.toList == j.asset.toList)) && (i.qty == j.qty)) && (i.amt == j.amt)) && (i.tday == j.tday)) && (i.sday == j.sday)) && (i.prio == j.prio)) && (i.part == j.part)) && (i.minlot == j.minlot)) && (i.hold == j.hold)) && (i.resv == j.resv))), (4, .bool false), (3, .pointer (some ⟨b8, 0, none⟩)), (2, .pointer (some ⟨b3, 0, none⟩))] h12 (Kw.nil hB10) fun q13 h14 => ?_
  clear h12
  refine wpO_cut [(104, false), (105, false), (106, false), (107, false), (108, false), (109, false)] [(110, false)] (fun qa qw => Fr 115 [(114, .bool ((((((((((((((((i.ref.toList == j.ref.toList) && (i.kind == j.kind)) && (i.sender.toList == j.sender.toList)) && (i.cpty.toList == j.cpty.toList)) && (i.side == j.side)) && (i.asset.toList == j.asset.toList)) && (i.qty == j.qty)) && (i.amt == j.amt)) && (i.tday == j.tday)) && (i.sday == j.sday)) && (i.prio == j.prio)) && (i.part == j.part)) && (i.minlot == j.minlot)) && (i.hold == j.hold)) && (i.resv == j.resv)) && (lksEq i.links j.links))), (4, .bool false)] qa ∧ Bx w [(b8, .cells (insV j B d).cells 29 (0, 0)), (b3, .cells (insV i A c).cells 29 (0, 0))] qw) ?_ ?_
  ·
    rcases Bool.eq_false_or_eq_true (((((((((((((((i.ref.toList == j.ref.toList) && (i.kind == j.kind)) && (i.sender.toList == j.sender.toList)) && (i.cpty.toList == j.cpty.toList)) && (i.side == j.side)) && (i.asset.toList == j.asset.toList)) && (i.qty == j.qty)) && (i.amt == j.amt)) && (i.tday == j.tday)) && (i.sday == j.sday)) && (i.prio == j.prio)) && (i.part == j.part)) && (i.minlot == j.minlot)) && (i.hold == j.hold)) && (i.resv == j.resv)) with hc15 | hc15
    ·
      refine b1 108 hc15 (.C 104 109 <| .L 105 110 1 15 <| .C 106 111 <| .L 107 112 0 15 <| .nil) [(112, .slice B j.links.length d), (110, .slice A i.links.length c), (108, .bool (((((((((((((((i.ref.toList == j.ref.toList) && (i.kind == j.kind)) && (i.sender.toList == j.sender.toList)) && (i.cpty.toList == j.cpty.toList)) && (i.side == j.side)) && (i.asset.toList == j.asset.toList)) && (i.qty == j.qty)) && (i.amt == j.amt)) && (i.tday == j.tday)) && (i.sday == j.sday)) && (i.prio == j.prio)) && (i.part == j.part)) && (i.minlot == j.minlot)) && (i.hold == j.hold)) && (i.resv == j.resv))), (4, .bool false)] h14 (Kw.nil hB10) fun q16 h17 => ?_
      clear h14
      refine sC 108 113 (g := (some (103, true))) h17 (g1 108 hc15) (c53 i.links j.links A B c d w9 hn (hr.below hB10.bel) (hr2.below hB10.bel)) ?_
      rintro _ w20 ⟨rfl, hb21⟩
      have hB22 := hB10.call hb21
      refine ⟨_, rfl, trivial, fun q18 h19 => ?_⟩
      clear h17 hB10 hb21
      refine eE 109 114 (.pick (.tmp 108) (.tmp 113) (.const (.bool false))) 4 (.bool ((((((((((((((((i.ref.toList == j.ref.toList) && (i.kind == j.kind)) && (i.sender.toList == j.sender.toList)) && (i.cpty.toList == j.cpty.toList)) && (i.side == j.side)) && (i.asset.toList == j.asset.toList)) && (i.qty == j.qty)) && (i.amt == j.amt)) && (i.tday == j.tday)) && (i.sday == j.sday)) && (i.prio == j.prio)) && (i.part == j.part)) && (i.minlot == j.minlot)) && (i.hold == j.hold)) && (i.resv == j.resv)) && (lksEq i.links j.links))) h19 (hr := r_and (c := ((((((((((((((i.ref.toList == j.ref.toList) && (i.kind == j.kind)) && (i.sender.toList == j.sender.toList)) && (i.cpty.toList == j.cpty.toList)) && (i.side == j.side)) && (i.asset.toList == j.asset.toList)) && (i.qty == j.qty)) && (i.amt == j.amt)) && (i.tday == j.tday)) && (i.sday == j.sday)) && (i.prio == j.prio)) && (i.part == j.part)) && (i.minlot == j.minlot)) && (i.hold == j.hold)) && (i.resv == j.resv)) (d := (lksEq i.links j.links)) (by kernel_rfl) (fun _ => by kernel_rfl)) fun q23 h24 => ?_
      clear h19
      exact ⟨h24.keep _ ⟨rfl, rfl, trivial⟩, hB22⟩
    ·
      refine b1 108 hc15 (.K 104 109 <| .K 105 110 <| .K 106 111 <| .K 107 112 <| .K 108 113 <| .nil) [(113, undef), (108, .bool (((((((((((((((i.ref.toList == j.ref.toList) && (i.kind == j.kind)) && (i.sender.toList == j.sender.toList)) && (i.cpty.toList == j.cpty.toList)) && (i.side == j.side)) && (i.asset.toList == j.asset.toList)) && (i.qty == j.qty)) && (i.amt == j.amt)) && (i.tday == j.tday)) && (i.sday == j.sday)) && (i.prio == j.prio)) && (i.part == j.part)) && (i.minlot == j.minlot)) && (i.hold == j.hold)) && (i.resv == j.resv))), (4, .bool false)] h14 (Kw.nil hB10) fun q25 h26 => ?_
      clear h14
      refine eE 109 114 (.pick (.tmp 108) (.tmp 113) (.const (.bool false))) 4 (.bool ((((((((((((((((i.ref.toList == j.ref.toList) && (i.kind == j.kind)) && (i.sender.toList == j.sender.toList)) && (i.cpty.toList == j.cpty.toList)) && (i.side == j.side)) && (i.asset.toList == j.asset.toList)) && (i.qty == j.qty)) && (i.amt == j.amt)) && (i.tday == j.tday)) && (i.sday == j.sday)) && (i.prio == j.prio)) && (i.part == j.part)) && (i.minlot == j.minlot)) && (i.hold == j.hold)) && (i.resv == j.resv)) && (lksEq i.links j.links))) h26 (hr := r_and (c := ((((((((((((((i.ref.toList == j.ref.toList) && (i.kind == j.kind)) && (i.sender.toList == j.sender.toList)) && (i.cpty.toList == j.cpty.toList)) && (i.side == j.side)) && (i.asset.toList == j.asset.toList)) && (i.qty == j.qty)) && (i.amt == j.amt)) && (i.tday == j.tday)) && (i.sday == j.sday)) && (i.prio == j.prio)) && (i.part == j.part)) && (i.minlot == j.minlot)) && (i.hold == j.hold)) && (i.resv == j.resv)) (d := (lksEq i.links j.links)) (by kernel_rfl) (fun e29 => Bool.noConfusion (e29.symm.trans hc15))) fun q27 h28 => ?_
      clear h26
      exact ⟨h28.keep _ ⟨rfl, rfl, trivial⟩, hB10⟩
  rintro q30 w31 ⟨h32, hB33⟩
  refine b0 (.C 110 4 <| .nil) [(4, .bool ((((((((((((((((i.ref.toList == j.ref.toList) && (i.kind == j.kind)) && (i.sender.toList == j.sender.toList)) && (i.cpty.toList == j.cpty.toList)) && (i.side == j.side)) && (i.asset.toList == j.asset.toList)) && (i.qty == j.qty)) && (i.amt == j.amt)) && (i.tday == j.tday)) && (i.sday == j.sday)) && (i.prio == j.prio)) && (i.part == j.part)) && (i.minlot == j.minlot)) && (i.hold == j.hold)) && (i.resv == j.resv)) && (lksEq i.links j.links)))] h32 (Kw.nil hB33) fun q34 h35 => ?_
  clear h32
  refine wpO_end ?_
  refine then_n ?_
  refine c_ret (by kernel_rfl) ?_
  refine ret1 (t := 4) (v := .bool ((((((((((((((((i.ref.toList == j.ref.toList) && (i.kind == j.kind)) && (i.sender.toList == j.sender.toList)) && (i.cpty.toList == j.cpty.toList)) && (i.side == j.side)) && (i.asset.toList == j.asset.toList)) && (i.qty == j.qty)) && (i.amt == j.amt)) && (i.tday == j.tday)) && (i.sday == j.sday)) && (i.prio == j.prio)) && (i.part == j.part)) && (i.minlot == j.minlot)) && (i.hold == j.hold)) && (i.resv == j.resv)) && (lksEq i.links j.links))) h35 (by kernel_rfl) (by kernel_rfl) ?_
  exact ⟨ret_eq (rfl), hB33.bel⟩

set_option maxHeartbeats 4000000 in
set_option maxRecDepth 20000 in
theorem c25 (i j : Ins) (A B : Option Addr) (c d : Nat) (w : World) (hn : i.links.length ≤ 4611686018427387904) (hr : Rd w A (lkc i.links)) (hr2 : Rd w B (lkc j.links)) : Calls Tryd.prog 25 #[insV i A c, insV j B d] w fun e w' => e = .returned (.bool (sameI i j)) ∧ Below w.heap.size w w' := by
  refine enter Tryd.func25 (by kernel_rfl) ?_ (by kernel_rfl)
  intro q0 h0
  replace h0 := h0.conv (l' := [(0, insV i A c), (1, insV j B d)]) rfl
  have hB := Bx.refl w
  refine kS ?_
  refine rp 3 ?_
  refine sA 0 2 (fun b => .pointer (some ⟨b, 0, none⟩)) (.cells (insV i A c).cells 24 (0, 0)) h0 gok_none hB (fun _ _ hq => trivial) (fun b3 w4 hB5 hN q1 h2 => ?_)
  clear h0 hB hN
  refine sA 1 3 (fun b => .pointer (some ⟨b, 0, none⟩)) (.cells (insV j B d).cells 24 (0, 0)) h2 gok_none hB5 (fun _ _ hq => trivial) (fun b8 w9 hB10 hN q6 h7 => ?_)
  clear h2 hB5 hN
  refine b0 (.C 2 4 <| .nil) [(4, .bool false), (3, .pointer (some ⟨b8, 0, none⟩)), (2, .pointer (some ⟨b3, 0, none⟩))] h7 (Kw.nil hB10) fun q11 h12 => ?_
  clear h7
  refine wpO_end ?_
  refine then_n ?_
  refine kS ?_
  refine kS ?_
  refine rp 7 ?_
  refine b0 (.C 0 6 <| .L 1 7 1 15 <| .E 2 8 (.int .i64 ((i.links.length : Nat) : Int)) <| .C 3 9 <| .L 4 10 0 15 <| .E 5 11 (.int .i64 ((j.links.length : Nat) : Int)) <| .E 6 12 (.bool (((i.links.length : Nat) : Int) != ((j.links.length : Nat) : Int))) <| .nil) [(12, .bool (((i.links.length : Nat) : Int) != ((j.links.length : Nat) : Int))), (4, .bool false), (3, .pointer (some ⟨b8, 0, none⟩)), (2, .pointer (some ⟨b3, 0, none⟩))] h12 (Kw.nil hB10) fun q13 h14 => ?_
  clear h12
  refine wpO_end ?_
  refine then_n ?_
  refine kC 12 (((i.links.length : Nat) : Int) != ((j.links.length : Nat) : Int)) h14 (fun hc15 => ?_) (fun hc15 => ?_)
  ·
    refine kS ?_
    refine rp 1 ?_
    refine b0 (.C 0 4 <| .nil) [(4, .bool false), (3, .pointer (some ⟨b8, 0, none⟩)), (2, .pointer (some ⟨b3, 0, none⟩))] h14 (Kw.nil hB10) fun q16 h17 => ?_
    clear h14
    refine wpO_end ?_
    refine then_n ?_
    refine c_ret (by kernel_rfl) ?_
    refine then_r ?_
    refine ret1 (t := 4) (v := .bool false) h17 (by kernel_rfl) (by kernel_rfl) ?_
    exact ⟨ret_eq (congrArg Value.bool (show false = sameI i j by unfold sameI; rw [lksEq_len (by have := hc15; simp at this; omega), Bool.false_and])), hB10.bel⟩
  have hll : i.links.length = j.links.length := by have := hc15; simp at this; omega
  refine c_skip (by kernel_rfl) ?_
  refine then_n ?_
  refine kS ?_
  refine kS ?_
  refine rp 1 ?_
  refine b0 (.C 0 5 <| .nil) [(5, .int .i64 0), (4, .bool false), (3, .pointer (some ⟨b8, 0, none⟩)), (2, .pointer (some ⟨b3, 0, none⟩))] h14 (Kw.nil hB10) fun q18 h19 => ?_
  clear h14
  refine wpO_end ?_
  refine then_n ?_
  refine c_block 0 (by kernel_rfl) ?_
  refine c_loop (by kernel_rfl) (fun qa qw => ∃ k : Nat, (k ≤ i.links.length) ∧ Fr 134 [(2, .pointer (some ⟨b3, 0, none⟩)), (3, .pointer (some ⟨b8, 0, none⟩)), (4, .bool false), (5, .int .i64 ((k : Nat) : Int))] qa ∧ Bx w [(b8, .cells (insV j B d).cells 24 (0, 0)), (b3, .cells (insV i A c).cells 24 (0, 0))] qw ∧ (∀ (q : Nat) (x y : Lk), q < k → i.links[q]? = some x → j.links[q]? = some y → lkEq x y = true)) (fun qa _ => (((i.links.length : Int)) - intAt qa 5).toNat) ⟨0, Nat.zero_le _, h19.keep _ ⟨rfl, rfl, rfl, rfl, trivial⟩, hB10, fun q _ _ hj => absurd hj (Nat.not_lt_zero _)⟩ ?_
  rintro q20 w21 ⟨k, hk24, h22, hB23, hx26⟩
  have hm25 := h22.int (k := 5) (kd := .i64) (z := ((k : Nat) : Int)) rfl
  clear h19 hB10
  refine kS ?_
  refine kS ?_
  refine rp 5 ?_
  refine b0 (.C 0 13 <| .C 1 14 <| .L 2 15 1 15 <| .E 3 16 (.int .i64 ((i.links.length : Nat) : Int)) <| .E 4 17 (.bool (decide (((k : Nat) : Int) < ((i.links.length : Nat) : Int)))) <| .nil) [(17, .bool (decide (((k : Nat) : Int) < ((i.links.length : Nat) : Int)))), (2, .pointer (some ⟨b3, 0, none⟩)), (3, .pointer (some ⟨b8, 0, none⟩)), (4, .bool false), (5, .int .i64 ((k : Nat) : Int))] h22 (Kw.nil hB23) fun q27 h28 => ?_
  clear h22
  refine wpO_end ?_
  refine then_n ?_
  refine kC 17 (decide (((k : Nat) : Int) < ((i.links.length : Nat) : Int))) h28 (fun hc29 => ?_) (fun hc29 => ?_)
  ·
    have hp30 : (((k : Nat) : Int) < ((i.links.length : Nat) : Int)) := of_decide_eq_true hc29
    have hlt : k < i.links.length := by omega
    obtain ⟨x, hx⟩ : ∃ x, i.links[k]? = some x := ⟨i.links[k]'(by omega), List.getElem?_eq_getElem (by omega)⟩
    obtain ⟨ad, hA, hE0⟩ := hr.el (k * 2) [.int .i64 x.t, .string x.r] (by simp) (lkc_el i.links k x hx)
    subst hA
    obtain ⟨y, hy⟩ : ∃ y, j.links[k]? = some y := ⟨j.links[k]'(by omega), List.getElem?_eq_getElem (by omega)⟩
    obtain ⟨ad', hA, hE1⟩ := hr2.el (k * 2) [.int .i64 y.t, .string y.r] (by simp) (lkc_el j.links k y hy)
    subst hA
    refine c_skip (by kernel_rfl) ?_
    refine then_n ?_
    refine kS ?_
    refine c_block 1 (by kernel_rfl) ?_
    refine kS ?_
    have hD31 := hB23.drew
    refine rd (Bx w [(b8, .cells (insV j (some ad') d).cells 24 (0, 0)), (b3, .cells (insV i (some ad) c).cells 24 (0, 0))]) 11 [⟨0, true, 0, 4, 1048576⟩, ⟨1, true, 1, 1048576, 2097152⟩, ⟨2, true, 0, 32, 4194304⟩, ⟨3, true, 6, 6291456, 8388608⟩, ⟨4, true, 8, 8388608, 16777216⟩, ⟨5, true, 0, 8, 33554432⟩, ⟨6, true, 32, 33554432, 67108864⟩, ⟨7, true, 0, 32, 134217728⟩, ⟨8, true, 192, 201326592, 268435456⟩, ⟨9, true, 256, 268435456, 536870912⟩, ⟨10, true, 528, 553648128, 1073741824⟩] hD31 ?_
    generalize World.drew w21 = w32 at hD31 ⊢
    refine d0 (.C 0 20 <| .L 1 21 1 15 <| .C 2 22 <| .nil) [(22, .int .i64 ((k : Nat) : Int)), (21, .slice (some ad) i.links.length c), (17, .bool (decide (((k : Nat) : Int) < ((i.links.length : Nat) : Int)))), (2, .pointer (some ⟨b3, 0, none⟩)), (3, .pointer (some ⟨b8, 0, none⟩)), (4, .bool false), (5, .int .i64 ((k : Nat) : Int))] h28 (fun _ hS => Kw.nil hS) fun q33 h34 => ?_
    clear h28
    refine fE 3 23 (.indexAddr 22 (.tmp 21) (.tmp 22)) 0 (.pointer (some ((ad.add (k * 2)).add 0))) h34 (hr := fun _ hS => r_index0 (n := i.links.length) (c := c) (kd := .i64) (by kernel_rfl) (by kernel_rfl) (by omega) (by kernel_rfl)) fun q35 h36 => ?_
    clear h34
    refine d0 (.Y 4 24 0 0 2 <| .C 5 25 <| .L 6 26 0 15 <| .C 7 27 <| .nil) [(27, .int .i64 ((k : Nat) : Int)), (26, .slice (some ad') j.links.length d), (24, .agg #[.int .i64 x.t, .string x.r]), (17, .bool (decide (((k : Nat) : Int) < ((i.links.length : Nat) : Int)))), (2, .pointer (some ⟨b3, 0, none⟩)), (3, .pointer (some ⟨b8, 0, none⟩)), (4, .bool false), (5, .int .i64 ((k : Nat) : Int))] h36 (fun _ hS => (Kw.nil hS).cons (hE0.below hS.bel)) fun q37 h38 => ?_
    clear h36
    refine fE 8 28 (.indexAddr 22 (.tmp 26) (.tmp 27)) 0 (.pointer (some ((ad'.add (k * 2)).add 0))) h38 (hr := fun _ hS => r_index0 (n := j.links.length) (c := d) (kd := .i64) (by kernel_rfl) (by kernel_rfl) (by omega) (by kernel_rfl)) fun q39 h40 => ?_
    clear h38
    refine d0 (.Y 9 29 0 0 2 <| .nil) [(29, .agg #[.int .i64 y.t, .string y.r]), (24, .agg #[.int .i64 x.t, .string x.r]), (17, .bool (decide (((k : Nat) : Int) < ((i.links.length : Nat) : Int)))), (2, .pointer (some ⟨b3, 0, none⟩)), (3, .pointer (some ⟨b8, 0, none⟩)), (4, .bool false), (5, .int .i64 ((k : Nat) : Int))] h40 (fun _ hS => (Kw.nil hS).cons (hE1.below hS.bel)) fun q41 h42 => ?_
    clear h40
    refine fE 10 30 (.binOp .neq 67 (.tmp 24) (.tmp 29) 67) 4 (.bool (!(lkEq x y))) h42 (hr := fun _ hS => r_neqA _ (by kernel_rfl) (by kernel_rfl) (by kernel_rfl) (eq67 x y _)) fun q43 h44 => ?_
    clear h42
    refine wpO_end ?_
    have h45 := h44.keep [(30, .bool (!(lkEq x y))), (17, .bool (decide (((k : Nat) : Int) < ((i.links.length : Nat) : Int)))), (2, .pointer (some ⟨b3, 0, none⟩)), (3, .pointer (some ⟨b8, 0, none⟩)), (4, .bool false), (5, .int .i64 ((k : Nat) : Int))] ⟨rfl, rfl, rfl, rfl, rfl, rfl, trivial⟩
    clear h44
    refine then_n ?_
    refine kC 30 (!(lkEq x y)) h45 (fun hc46 => ?_) (fun hc46 => ?_)
    ·
      refine kS ?_
      refine rp 1 ?_
      refine b0 (.C 0 4 <| .nil) [(4, .bool false), (30, .bool (!(lkEq x y))), (17, .bool (decide (((k : Nat) : Int) < ((i.links.length : Nat) : Int)))), (2, .pointer (some ⟨b3, 0, none⟩)), (3, .pointer (some ⟨b8, 0, none⟩)), (5, .int .i64 ((k : Nat) : Int))] h45 (Kw.nil hD31) fun q47 h48 => ?_
      clear h45
      refine wpO_end ?_
      refine then_n ?_
      refine c_ret (by kernel_rfl) ?_
      refine inB_r (then_r (then_r (inB_r (then_r ?_))))
      refine ret1 (t := 4) (v := .bool false) h48 (by kernel_rfl) (by kernel_rfl) ?_
      exact ⟨ret_eq (congrArg Value.bool (show false = sameI i j by unfold sameI; rw [lksEq_no hx hy (by simpa using hc46), Bool.false_and])), hD31.bel⟩
    refine c_skip (by kernel_rfl) ?_
    refine inB_n ?_
    refine then_n ?_
    refine rp 3 ?_
    refine b0 (.C 0 18 <| .E 1 19 (.int .i64 (IntKind.i64.wrap (((k : Nat) : Int) + 1))) <| .C 2 5 <| .nil) [(5, .int .i64 (IntKind.i64.wrap (((k : Nat) : Int) + 1))), (30, .bool (!(lkEq x y))), (17, .bool (decide (((k : Nat) : Int) < ((i.links.length : Nat) : Int)))), (2, .pointer (some ⟨b3, 0, none⟩)), (3, .pointer (some ⟨b8, 0, none⟩)), (4, .bool false)] h45 (Kw.nil hD31) fun q49 h50 => ?_
    clear h45
    refine wpO_end ?_
    have h51 := h50.keep [(2, .pointer (some ⟨b3, 0, none⟩)), (3, .pointer (some ⟨b8, 0, none⟩)), (4, .bool false), (5, .int .i64 (((k + 1) : Nat) : Int))] ⟨rfl, rfl, rfl, look_int rfl (wrap_succ (by have := hn; omega)), trivial⟩
    have hm52 := h51.int (k := 5) (kd := .i64) (z := (((k + 1) : Nat) : Int)) rfl
    refine then_n ⟨⟨k + 1, by omega, h51, hD31, fun q u v hj hu hv => by rcases Nat.lt_succ_iff_lt_or_eq.1 hj with h' | rfl; exact hx26 q u v h' hu hv; rw [hx] at hu; rw [hy] at hv; cases hu; cases hv; simpa using hc46⟩, ?_⟩
    show (((i.links.length : Int)) - intAt _ 5).toNat < (((i.links.length : Int)) - intAt _ 5).toNat
    rw [hm25, hm52]; omega
  have hp53 : ¬ (((k : Nat) : Int) < ((i.links.length : Nat) : Int)) := of_decide_eq_false hc29
  have hall := lksEq_yes hll fun q x y hx' hy' => hx26 q x y (by have := (List.getElem?_eq_some_iff.1 hx').1; omega) hx' hy'
  refine c_exit 0 (by kernel_rfl) ?_
  refine then_e (then_e (inB_hit ?_))
  refine then_n ?_
  refine kS ?_
  refine rp 104 ?_
  refine b0 (.C 0 31 <| .L 1 32 1 0 <| .C 2 33 <| .L 3 34 0 0 <| .E 4 35 (.bool (i.ref.toList == j.ref.toList)) <| .C 5 36 <| .J 11 42 36 41 true (i.ref.toList == j.ref.toList) (i.kind == j.kind) (.C 6 37 <| .L 7 38 1 1 <| .C 8 39 <| .L 9 40 0 1 <| .E 10 41 (.bool (i.kind == j.kind)) <| .nil) <| .C 12 43 <| .J 18 49 43 48 true ((i.ref.toList == j.ref.toList) && (i.kind == j.kind)) (i.sender.toList == j.sender.toList) (.C 13 44 <| .L 14 45 1 2 <| .C 15 46 <| .L 16 47 0 2 <| .E 17 48 (.bool (i.sender.toList == j.sender.toList)) <| .nil) <| .C 19 50 <| .J 25 56 50 55 true (((i.ref.toList == j.ref.toList) && (i.kind == j.kind)) && (i.sender.toList == j.sender.toList)) (i.cpty.toList == j.cpty.toList) (.C 20 51 <| .L 21 52 1 3 <| .C 22 53 <| .L 23 54 0 3 <| .E 24 55 (.bool (i.cpty.toList == j.cpty.toList)) <| .nil) <| .C 26 57 <| .J 32 63 57 62 true ((((i.ref.toList == j.ref.toList) && (i.kind == j.kind)) && (i.sender.toList == j.sender.toList)) && (i.cpty.toList == j.cpty.toList)) (i.side == j.side) (.C 27 58 <| .L 28 59 1 4 <| .C 29 60 <| .L 30 61 0 4 <| .E 31 62 (.bool (i.side == j.side)) <| .nil) <| .C 33 64 <| .J 39 70 64 69 true (((((i.ref.toList == j.ref.toList) && (i.kind == j.kind)) && (i.sender.toList == j.sender.toList)) && (i.cpty.toList == j.cpty.toList)) && (i.side == j.side)) (i.asset.toList == j.asset.toList) (.C 34 65 <| .L 35 66 1 5 <| .C 36 67 <| .L 37 68 0 5 <| .E 38 69 (.bool (i.asset.toList == j.asset.toList)) <| .nil) <| .C 40 71 <| .J 46 77 71 76 true ((((((i.ref.toList == j.ref.toList) && (i.kind == j.kind)) && (i.sender.toList == j.sender.toList)) && (i.cpty.toList == j.cpty.toList)) && (i.side == j.side)) && (i.asset.toList == j.asset.toList)) (i.qty == j.qty) (.C 41 72 <| .L 42 73 1 6 <| .C 43 74 <| .L 44 75 0 6 <| .E 45 76 (.bool (i.qty == j.qty)) <| .nil) <| .C 47 78 <| .J 53 84 78 83 true (((((((i.ref.toList == j.ref.toList) && (i.kind == j.kind)) && (i.sender.toList == j.sender.toList)) && (i.cpty.toList == j.cpty.toList)) && (i.side == j.side)) && (i.asset.toList == j.asset.toList)) && (i.qty == j.qty)) (i.amt == j.amt) (.C 48 79 <| .L 49 80 1 7 <| .C 50 81 <| .L 51 82 0 7 <| .E 52 83 (.bool (i.amt == j.amt)) <| .nil) <| .C 54 85 <| .J 60 91 85 90 true ((((((((i.ref.toList == j.ref.toList) && (i.kind == j.kind)) && (i.sender.toList == j.sender.toList)) && (i.cpty.toList == j.cpty.toList)) && (i.side == j.side)) && (i.asset.toList == j.asset.toList)) && (i.qty == j.qty)) && (i.amt == j.amt)) (i.tday == j.tday) (.C 55 86 <| .L 56 87 1 8 <| .C 57 88 <| .L 58 89 0 8 <| .E 59 90 (.bool (i.tday == j.tday)) <| .nil) <| .C 61 92 <| .J 67 98 92 97 true (((((((((i.ref.toList == j.ref.toList) && (i.kind == j.kind)) && (i.sender.toList == j.sender.toList)) && (i.cpty.toList == j.cpty.toList)) && (i.side == j.side)) && (i.asset.toList == j.asset.toList)) && (i.qty == j.qty)) && (i.amt == j.amt)) && (i.tday == j.tday)) (i.sday == j.sday) (.C 62 93 <| .L 63 94 1 9 <| .C 64 95 <| .L 65 96 0 9 <| .E 66 97 (.bool (i.sday == j.sday)) <| .nil) <| .C 68 99 <| .J 74 105 99 104 true ((((((((((i.ref.toList == j.ref.toList) && (i.kind == j.kind)) && (i.sender.toList == j.sender.toList)) && (i.cpty.toList == j.cpty.toList)) && (i.side == j.side)) && (i.asset.toList == j.asset.toList)) && (i.qty == j.qty)) && (i.amt == j.amt)) && (i.tday == j.tday)) && (i.sday == j.sday)) (i.prio == j.prio) (.C 69 100 <| .L 70 101 1 10 <| .C 71 102 <| .L 72 103 0 10 <| .E 73 104 (.bool (i.prio == j.prio)) <| .nil) <| .C 75 106 <| .J 81 112 106 111 true (((((((((((i.ref.toList == j.ref.toList) && (i.kind == j.kind)) && (i.sender.toList == j.sender.toList)) && (i.cpty.toList == j.cpty.toList)) && (i.side == j.side)) && (i.asset.toList == j.asset.toList)) && (i.qty == j.qty)) && (i.amt == j.amt)) && (i.tday == j.tday)) && (i.sday == j.sday)) && (i.prio == j.prio)) (i.part == j.part) (.C 76 107 <| .L 77 108 1 11 <| .C 78 109 <| .L 79 110 0 11 <| .E 80 111 (.bool (i.part == j.part)) <| .nil) <| .C 82 113 <| .J 88 119 113 118 true ((((((((((((i.ref.toList == j.ref.toList) && (i.kind == j.kind)) && (i.sender.toList == j.sender.toList)) && (i.cpty.toList == j.cpty.toList)) && (i.side == j.side)) && (i.asset.toList == j.asset.toList)) && (i.qty == j.qty)) && (i.amt == j.amt)) && (i.tday == j.tday)) && (i.sday == j.sday)) && (i.prio == j.prio)) && (i.part == j.part)) (i.minlot == j.minlot) (.C 83 114 <| .L 84 115 1 12 <| .C 85 116 <| .L 86 117 0 12 <| .E 87 118 (.bool (i.minlot == j.minlot)) <| .nil) <| .C 89 120 <| .J 95 126 120 125 true (((((((((((((i.ref.toList == j.ref.toList) && (i.kind == j.kind)) && (i.sender.toList == j.sender.toList)) && (i.cpty.toList == j.cpty.toList)) && (i.side == j.side)) && (i.asset.toList == j.asset.toList)) && (i.qty == j.qty)) && (i.amt == j.amt)) && (i.tday == j.tday)) && (i.sday == j.sday)) && (i.prio == j.prio)) && (i.part == j.part)) && (i.minlot == j.minlot)) (i.hold == j.hold) (.C 90 121 <| .L 91 122 1 13 <| .C 92 123 <| .L 93 124 0 13 <| .E 94 125 (.bool (i.hold == j.hold)) <| .nil) <| .C 96 127 <| .J 102 133 127 132 true ((((((((((((((i.ref.toList == j.ref.toList) && (i.kind == j.kind)) && (i.sender.toList == j.sender.toList)) && (i.cpty.toList == j.cpty.toList)) && (i.side == j.side)) && (i.asset.toList == j.asset.toList)) && (i.qty == j.qty)) && (i.amt == j.amt)) && (i.tday == j.tday)) && (i.sday == j.sday)) && (i.prio == j.prio)) && (i.part == j.part)) && (i.minlot == j.minlot)) && (i.hold == j.hold)) (i.resv == j.resv) (.C 97 128 <| .L 98 129 1 14 <| .C 99 130 <| .L 100 131 0 14 <| .E 101 132 (.bool (i.resv == j.resv)) <| .nil) <| .C 103 4 <| .nil) [(4, .bool (((((((((((((((i.ref.toList == j.ref.toList) && (i.kind == j.kind)) && (i.sender.toList == j.sender.toList)) && (i.cpty.toList == j.cpty.toList)) && (i.side == j.side)) && (i.asset.toList == j.asset.toList)) && (i.qty == j.qty)) && (i.amt == j.amt)) && (i.tday == j.tday)) && (i.sday == j.sday)) && (i.prio == j.prio)) && (i.part == j.part)) && (i.minlot == j.minlot)) && (i.hold == j.hold)) && (i.resv == j.resv)))] h28 (Kw.nil hB23) fun q54 h55 => ?_
  clear h28
  refine wpO_end ?_
  refine then_n ?_
  refine c_ret (by kernel_rfl) ?_
  refine ret1 (t := 4) (v := .bool (((((((((((((((i.ref.toList == j.ref.toList) && (i.kind == j.kind)) && (i.sender.toList == j.sender.toList)) && (i.cpty.toList == j.cpty.toList)) && (i.side == j.side)) && (i.asset.toList == j.asset.toList)) && (i.qty == j.qty)) && (i.amt == j.amt)) && (i.tday == j.tday)) && (i.sday == j.sday)) && (i.prio == j.prio)) && (i.part == j.part)) && (i.minlot == j.minlot)) && (i.hold == j.hold)) && (i.resv == j.resv))) h55 (by kernel_rfl) (by kernel_rfl) ?_
  exact ⟨ret_eq (congrArg Value.bool (show insFE i j = sameI i j by unfold sameI; rw [hall, Bool.true_and])), hB23.bel⟩

end Go.Proofs.YtljegdokbifoiaaDoor.Af
