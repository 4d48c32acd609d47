/- The small functions of package message. No condition. The first broken rule's error. The list is shorter than 2^62. -/
import Derived.Test.YtljegdokbifoiaaGreatDoorZzMs
namespace Go.Proofs.YtljegdokbifoiaaGreatDoor.Af
open Go.RowKit
def winB (n a b : Int) : Bool := decide (a ≤ n) && decide (n ≤ b)
def isCol (i : Ins) : Bool := (i.kind == 3) || (i.kind == 4)
def isSec (i : Ins) : Bool := (i.kind == 1) || (i.kind == 2)
def maxLotI (i : Ins) : Int := bif i.part then i.qty else 0
def bndB (n : Int) (u : Bool) : Bool := bif u then winB n 1 1000000000000000 else n == 0

set_option maxHeartbeats 4000000 in
set_option maxRecDepth 20000 in
theorem c40 (n a b : Int) (w : World) : Calls Tryz.prog 55 #[.int .i64 n, .int .i64 a, .int .i64 b] w fun e w' => e = .returned (.bool (winB n a b)) ∧ Below w.heap.size w w' := by
  refine enter Tryz.func55 (by kernel_rfl) ?_ (by kernel_rfl)
  intro q0 h0
  replace h0 := h0.conv (l' := [(0, .int .i64 n), (1, .int .i64 a), (2, .int .i64 b)]) rfl
  have hB := Bx.refl w
  refine kS ?_
  refine rp 1 ?_
  refine b0 (.C 0 6 <| .nil) [(6, .bool false), (0, .int .i64 n), (1, .int .i64 a), (2, .int .i64 b)] h0 (Kw.nil hB) fun q1 h2 => ?_
  clear h0
  refine wpO_end ?_
  refine then_n ?_
  refine kS ?_
  refine rp 9 ?_
  refine b0 (.C 0 7 <| .C 1 8 <| .E 2 9 (.bool (decide (a ≤ n))) <| .C 3 10 <| .J 7 14 10 13 true (decide (a ≤ n)) (decide (n ≤ b)) (.C 4 11 <| .C 5 12 <| .E 6 13 (.bool (decide (n ≤ b))) <| .nil) <| .C 8 6 <| .nil) [(6, .bool ((decide (a ≤ n)) && (decide (n ≤ b))))] h2 (Kw.nil hB) fun q3 h4 => ?_
  clear h2
  refine wpO_end ?_
  refine then_n ?_
  refine c_ret (by kernel_rfl) ?_
  refine ret1 (t := 6) (v := .bool ((decide (a ≤ n)) && (decide (n ≤ b)))) h4 (by kernel_rfl) (by kernel_rfl) ?_
  exact ⟨ret_eq (rfl), hB.bel⟩

set_option maxHeartbeats 4000000 in
set_option maxRecDepth 20000 in
theorem c46 (n a b : Int) (w : World) : Calls Tryz.prog 61 #[.int .i64 n, .int .i64 a, .int .i64 b] w fun e w' => e = .returned (.bool (winB n a b)) ∧ Below w.heap.size w w' := by
  refine enter Tryz.func61 (by kernel_rfl) ?_ (by kernel_rfl)
  intro q0 h0
  replace h0 := h0.conv (l' := [(0, .int .i64 n), (1, .int .i64 a), (2, .int .i64 b)]) rfl
  have hB := Bx.refl w
  refine kS ?_
  refine rp 1 ?_
  refine b0 (.C 0 6 <| .nil) [(6, .bool false), (0, .int .i64 n), (1, .int .i64 a), (2, .int .i64 b)] h0 (Kw.nil hB) fun q1 h2 => ?_
  clear h0
  refine wpO_end ?_
  refine then_n ?_
  refine kS ?_
  refine rp 9 ?_
  refine b0 (.C 0 7 <| .C 1 8 <| .E 2 9 (.bool (decide (a ≤ n))) <| .C 3 10 <| .J 7 14 10 13 true (decide (a ≤ n)) (decide (n ≤ b)) (.C 4 11 <| .C 5 12 <| .E 6 13 (.bool (decide (n ≤ b))) <| .nil) <| .C 8 6 <| .nil) [(6, .bool ((decide (a ≤ n)) && (decide (n ≤ b))))] h2 (Kw.nil hB) fun q3 h4 => ?_
  clear h2
  refine wpO_end ?_
  refine then_n ?_
  refine c_ret (by kernel_rfl) ?_
  refine ret1 (t := 6) (v := .bool ((decide (a ≤ n)) && (decide (n ≤ b)))) h4 (by kernel_rfl) (by kernel_rfl) ?_
  exact ⟨ret_eq (rfl), hB.bel⟩

set_option maxHeartbeats 4000000 in
set_option maxRecDepth 20000 in
theorem c42 (i : Ins) (A : Option Addr) (c : Nat) (w : World) : Calls Tryz.prog 57 #[insV i A c] w fun e w' => e = .returned (.bool (isCol i)) ∧ Below w.heap.size w w' := by
  refine enter Tryz.func57 (by kernel_rfl) ?_ (by kernel_rfl)
  intro q0 h0
  replace h0 := h0.conv (l' := [(0, insV i A c)]) rfl
  have hB := Bx.refl w
  refine kS ?_
  refine rp 2 ?_
  refine sA 0 1 (fun b => .pointer (some ⟨b, 0, none⟩)) (.cells (insV i A c).cells 30 (0, 0)) h0 gok_none hB (fun _ _ hq => trivial) (fun b3 w4 hB5 hN q1 h2 => ?_)
  clear h0 hB hN
  refine b0 (.C 1 2 <| .nil) [(2, .bool false), (1, .pointer (some ⟨b3, 0, none⟩))] h2 (Kw.nil hB5) fun q6 h7 => ?_
  clear h2
  refine wpO_end ?_
  refine then_n ?_
  refine kS ?_
  refine rp 9 ?_
  refine b0 (.C 0 3 <| .L 1 4 0 1 <| .E 2 5 (.bool (i.kind == (3 : Int))) <| .C 3 6 <| .J 7 10 6 9 false (i.kind == (3 : Int)) (i.kind == (4 : Int)) (.C 4 7 <| .L 5 8 0 1 <| .E 6 9 (.bool (i.kind == (4 : Int))) <| .nil) <| .C 8 2 <| .nil) [(2, .bool ((i.kind == (3 : Int)) || (i.kind == (4 : Int))))] h7 (Kw.nil hB5) fun q8 h9 => ?_
  clear h7
  refine wpO_end ?_
  refine then_n ?_
  refine c_ret (by kernel_rfl) ?_
  refine ret1 (t := 2) (v := .bool ((i.kind == (3 : Int)) || (i.kind == (4 : Int)))) h9 (by kernel_rfl) (by kernel_rfl) ?_
  exact ⟨ret_eq (rfl), hB5.bel⟩

set_option maxHeartbeats 4000000 in
set_option maxRecDepth 20000 in
theorem c43 (i : Ins) (A : Option Addr) (c : Nat) (w : World) : Calls Tryz.prog 58 #[insV i A c] w fun e w' => e = .returned (.bool (isSec i)) ∧ Below w.heap.size w w' := by
  refine enter Tryz.func58 (by kernel_rfl) ?_ (by kernel_rfl)
  intro q0 h0
  replace h0 := h0.conv (l' := [(0, insV i A c)]) rfl
  have hB := Bx.refl w
  refine kS ?_
  refine rp 2 ?_
  refine sA 0 1 (fun b => .pointer (some ⟨b, 0, none⟩)) (.cells (insV i A c).cells 30 (0, 0)) h0 gok_none hB (fun _ _ hq => trivial) (fun b3 w4 hB5 hN q1 h2 => ?_)
  clear h0 hB hN
  refine b0 (.C 1 2 <| .nil) [(2, .bool false), (1, .pointer (some ⟨b3, 0, none⟩))] h2 (Kw.nil hB5) fun q6 h7 => ?_
  clear h2
  refine wpO_end ?_
  refine then_n ?_
  refine kS ?_
  refine rp 9 ?_
  refine b0 (.C 0 3 <| .L 1 4 0 1 <| .E 2 5 (.bool (i.kind == (1 : Int))) <| .C 3 6 <| .J 7 10 6 9 false (i.kind == (1 : Int)) (i.kind == (2 : Int)) (.C 4 7 <| .L 5 8 0 1 <| .E 6 9 (.bool (i.kind == (2 : Int))) <| .nil) <| .C 8 2 <| .nil) [(2, .bool ((i.kind == (1 : Int)) || (i.kind == (2 : Int))))] h7 (Kw.nil hB5) fun q8 h9 => ?_
  clear h7
  refine wpO_end ?_
  refine then_n ?_
  refine c_ret (by kernel_rfl) ?_
  refine ret1 (t := 2) (v := .bool ((i.kind == (1 : Int)) || (i.kind == (2 : Int)))) h9 (by kernel_rfl) (by kernel_rfl) ?_
  exact ⟨ret_eq (rfl), hB5.bel⟩

set_option maxHeartbeats 4000000 in
set_option maxRecDepth 20000 in
theorem c47 (i : Ins) (A : Option Addr) (c : Nat) (w : World) : Calls Tryz.prog 62 #[insV i A c] w fun e w' => e = .returned (.int .i64 (maxLotI i)) ∧ Below w.heap.size w w' := by
  refine enter Tryz.func62 (by kernel_rfl) ?_ (by kernel_rfl)
  intro q0 h0
  replace h0 := h0.conv (l' := [(0, insV i A c)]) rfl
  have hB := Bx.refl w
  refine kS ?_
  refine rp 2 ?_
  refine sA 0 1 (fun b => .pointer (some ⟨b, 0, none⟩)) (.cells (insV i A c).cells 30 (0, 0)) h0 gok_none hB (fun _ _ hq => trivial) (fun b3 w4 hB5 hN q1 h2 => ?_)
  clear h0 hB hN
  refine b0 (.C 1 2 <| .nil) [(2, .int .i64 0), (1, .pointer (some ⟨b3, 0, none⟩))] h2 (Kw.nil hB5) fun q6 h7 => ?_
  clear h2
  refine wpO_end ?_
  refine then_n ?_
  refine kS ?_
  refine kS ?_
  refine rp 2 ?_
  refine b0 (.C 0 3 <| .L 1 4 0 11 <| .nil) [(4, .bool i.part), (2, .int .i64 0), (1, .pointer (some ⟨b3, 0, none⟩))] h7 (Kw.nil hB5) fun q8 h9 => ?_
  clear h7
  refine wpO_end ?_
  refine then_n ?_
  refine kC 4 i.part h9 (fun hc10 => ?_) (fun hc10 => ?_)
  ·
    refine kS ?_
    refine rp 3 ?_
    refine b0 (.C 0 5 <| .L 1 6 0 6 <| .C 2 2 <| .nil) [(2, .int .i64 i.qty)] h9 (Kw.nil hB5) fun q11 h12 => ?_
    clear h9
    refine wpO_end ?_
    refine then_n ?_
    refine c_ret (by kernel_rfl) ?_
    refine then_r ?_
    refine ret1 (t := 2) (v := .int .i64 i.qty) h12 (by kernel_rfl) (by kernel_rfl) ?_
    exact ⟨ret_eq (congrArg (Value.int .i64) ((cT hc10)).symm), hB5.bel⟩
  refine c_skip (by kernel_rfl) ?_
  refine then_n ?_
  refine kS ?_
  refine rp 1 ?_
  refine b0 (.C 0 2 <| .nil) [(2, .int .i64 0)] h9 (Kw.nil hB5) fun q13 h14 => ?_
  clear h9
  refine wpO_end ?_
  refine then_n ?_
  refine c_ret (by kernel_rfl) ?_
  refine ret1 (t := 2) (v := .int .i64 0) h14 (by kernel_rfl) (by kernel_rfl) ?_
  exact ⟨ret_eq (congrArg (Value.int .i64) ((cF hc10)).symm), hB5.bel⟩

set_option maxHeartbeats 4000000 in
set_option maxRecDepth 20000 in
theorem c45 (n : Int) (u : Bool) (w : World) : Calls Tryz.prog 60 #[.int .i64 n, .bool u] w fun e w' => e = .returned (.bool (bndB n u)) ∧ Below w.heap.size w w' := by
  refine enter Tryz.func60 (by kernel_rfl) ?_ (by kernel_rfl)
  intro q0 h0
  replace h0 := h0.conv (l' := [(0, .int .i64 n), (1, .bool u)]) rfl
  have hB := Bx.refl w
  refine kS ?_
  refine rp 1 ?_
  refine b0 (.C 0 4 <| .nil) [(4, .bool false), (0, .int .i64 n), (1, .bool u)] h0 (Kw.nil hB) fun q1 h2 => ?_
  clear h0
  refine wpO_end ?_
  refine then_n ?_
  refine kS ?_
  refine kS ?_
  refine rp 1 ?_
  refine b0 (.C 0 5 <| .nil) [(5, .bool u), (4, .bool false), (0, .int .i64 n)] h2 (Kw.nil hB) fun q3 h4 => ?_
  clear h2
  refine wpO_end ?_
  refine then_n ?_
  refine kC 5 u h4 (fun hc5 => ?_) (fun hc5 => ?_)
  ·
    refine kS ?_
    refine rp 3 ?_
    refine b0 (.C 0 6 <| .nil) [(6, .int .i64 n), (4, .bool false), (0, .int .i64 n)] h4 (Kw.nil hB) fun q6 h7 => ?_
    clear h4
    refine sC 1 7 h7 gok_none (c46 n 1 1000000000000000 w) ?_
    rintro _ w10 ⟨rfl, hb11⟩
    have hB12 := hB.call hb11
    refine ⟨_, rfl, trivial, fun q8 h9 => ?_⟩
    clear h7 hB hb11
    refine b0 (.C 2 4 <| .nil) [(4, .bool (winB n 1 1000000000000000)), (0, .int .i64 n)] h9 (Kw.nil hB12) fun q13 h14 => ?_
    clear h9
    refine wpO_end ?_
    refine then_n ?_
    refine c_ret (by kernel_rfl) ?_
    refine then_r ?_
    refine ret1 (t := 4) (v := .bool (winB n 1 1000000000000000)) h14 (by kernel_rfl) (by kernel_rfl) ?_
    exact ⟨ret_eq (congrArg Value.bool ((cT hc5)).symm), hB12.bel⟩
  refine c_skip (by kernel_rfl) ?_
  refine then_n ?_
  refine kS ?_
  refine rp 3 ?_
  refine b0 (.C 0 8 <| .E 1 9 (.bool (n == (0 : Int))) <| .C 2 4 <| .nil) [(4, .bool (n == (0 : Int)))] h4 (Kw.nil hB) fun q15 h16 => ?_
  clear h4
  refine wpO_end ?_
  refine then_n ?_
  refine c_ret (by kernel_rfl) ?_
  refine ret1 (t := 4) (v := .bool (n == (0 : Int))) h16 (by kernel_rfl) (by kernel_rfl) ?_
  exact ⟨ret_eq (congrArg Value.bool ((cF hc5)).symm), hB.bel⟩

end Go.Proofs.YtljegdokbifoiaaGreatDoor.Af

namespace Go.Proofs.YtljegdokbifoiaaGreatDoor.Af
open Go.RowKit
set_option maxHeartbeats 4000000 in
set_option maxRecDepth 20000 in
theorem c60 (b : Bool) (e : Int) (w : World) : Calls Tryz.prog 86 #[.agg #[.bool b, .int .i64 e]] w fun e w' => e = .returned (.bool b) ∧ Below w.heap.size w w' := by
  refine enter Tryz.func86 (by kernel_rfl) ?_ (by kernel_rfl)
  intro q0 h0
  replace h0 := h0.conv (l' := [(0, .agg #[.bool b, .int .i64 e])]) rfl
  have hB := Bx.refl w
  refine kS ?_
  refine rp 2 ?_
  refine sA 0 1 (fun b => .pointer (some ⟨b, 0, none⟩)) (.cells #[.bool b, .int .i64 e] 127 (0, 0)) h0 gok_none hB (fun _ _ hq => trivial) (fun b3 w4 hB5 hN q1 h2 => ?_)
  clear h0 hB hN
  refine b0 (.C 1 2 <| .nil) [(2, .bool false), (1, .pointer (some ⟨b3, 0, none⟩))] h2 (Kw.nil hB5) fun q6 h7 => ?_
  clear h2
  refine wpO_end ?_
  refine then_n ?_
  refine kS ?_
  refine rp 3 ?_
  refine b0 (.C 0 3 <| .L 1 4 0 0 <| .C 2 2 <| .nil) [(2, .bool b)] h7 (Kw.nil hB5) fun q8 h9 => ?_
  clear h7
  refine wpO_end ?_
  refine then_n ?_
  refine c_ret (by kernel_rfl) ?_
  refine ret1 (t := 2) (v := .bool b) h9 (by kernel_rfl) (by kernel_rfl) ?_
  exact ⟨ret_eq (rfl), hB5.bel⟩

set_option maxHeartbeats 4000000 in
set_option maxRecDepth 20000 in
theorem c59 (rs : List (Bool × Int)) (A : Option Addr) (c : Nat) (w : World) (hn : rs.length ≤ 4611686018427387904) (hr : Rd w A (rulec rs)) : Calls Tryz.prog 85 #[.slice A rs.length c, .func (.func 86) #[] #[]] w fun e w' => e = .returned (.int .i64 (idxR rs 0)) ∧ Below w.heap.size w w' := by
  refine enter Tryz.func85 (by kernel_rfl) ?_ (by kernel_rfl)
  intro q0 h0
  replace h0 := h0.conv (l' := [(0, .slice A rs.length c), (1, .func (.func 86) #[] #[])]) rfl
  have hB := Bx.refl w
  refine kS ?_
  refine rp 1 ?_
  refine b0 (.C 0 4 <| .nil) [(4, .int .i64 0), (0, .slice A rs.length c), (1, .func (.func 86) #[] #[])] h0 (Kw.nil hB) fun q1 h2 => ?_
  clear h0
  refine wpO_end ?_
  refine then_n ?_
  refine kS ?_
  refine kS ?_
  refine rp 3 ?_
  refine b0 (.C 0 6 <| .E 1 7 (.int .i64 ((rs.length : Nat) : Int)) <| .C 2 8 <| .nil) [(8, .int .i64 0), (7, .int .i64 ((rs.length : Nat) : Int)), (4, .int .i64 0), (0, .slice A rs.length c), (1, .func (.func 86) #[] #[])] h2 (Kw.nil hB) fun q3 h4 => ?_
  clear h2
  refine wpO_end ?_
  refine then_n ?_
  refine c_block 0 (by kernel_rfl) ?_
  refine c_loop (by kernel_rfl) (fun qa qw => ∃ k : Nat, (k ≤ rs.length) ∧ Fr 19 [(7, .int .i64 ((rs.length : Nat) : Int)), (8, .int .i64 ((k : Nat) : Int)), (1, .func (.func 86) #[] #[]), (0, .slice A rs.length c)] qa ∧ Bx w [] qw ∧ (∀ (j : Nat) (y : Bool × Int), j < k → rs[j]? = some y → y.1 = false)) (fun qa _ => (((rs.length : Int)) - intAt qa 8).toNat) ⟨0, Nat.zero_le _, h4.keep _ ⟨rfl, rfl, rfl, rfl, trivial⟩, hB, fun j y hj => absurd hj (Nat.not_lt_zero _)⟩ ?_
  rintro q5 w6 ⟨k, hk9, h7, hB8, hx11⟩
  have hm10 := h7.int (k := 8) (kd := .i64) (z := ((k : Nat) : Int)) rfl
  clear h4 hB
  refine kS ?_
  refine rp 1 ?_
  refine b0 (.E 0 9 (.bool (decide (((k : Nat) : Int) < ((rs.length : Nat) : Int)))) <| .nil) [(9, .bool (decide (((k : Nat) : Int) < ((rs.length : Nat) : Int)))), (7, .int .i64 ((rs.length : Nat) : Int)), (8, .int .i64 ((k : Nat) : Int)), (1, .func (.func 86) #[] #[]), (0, .slice A rs.length c)] h7 (Kw.nil hB8) fun q12 h13 => ?_
  clear h7
  refine wpO_end ?_
  refine then_n ?_
  refine kS ?_
  refine kC 9 (decide (((k : Nat) : Int) < ((rs.length : Nat) : Int))) h13 (fun hc14 => ?_) (fun hc14 => ?_)
  ·
    have hp15 : (((k : Nat) : Int) < ((rs.length : Nat) : Int)) := of_decide_eq_true hc14
    have hlt : k < rs.length := by omega
    obtain ⟨x, hx⟩ : ∃ x, rs[k]? = some x := ⟨rs[k], List.getElem?_eq_getElem hlt⟩
    obtain ⟨ad, hA, hE0⟩ := hr.el (k * 2) [.bool x.1, .int .i64 x.2] (by simp) (rulec_get rs k x hx)
    subst hA
    refine c_skip (by kernel_rfl) ?_
    refine then_n ?_
    refine kS ?_
    refine c_block 1 (by kernel_rfl) ?_
    refine kS ?_
    refine rp 2 ?_
    refine b0 (.C 0 10 <| .C 1 5 <| .nil) [(5, .int .i64 ((k : Nat) : Int)), (9, .bool (decide (((k : Nat) : Int) < ((rs.length : Nat) : Int)))), (7, .int .i64 ((rs.length : Nat) : Int)), (8, .int .i64 ((k : Nat) : Int)), (1, .func (.func 86) #[] #[]), (0, .slice (some ad) rs.length c)] h13 (Kw.nil hB8) fun q16 h17 => ?_
    clear h13
    refine wpO_end ?_
    refine then_n ?_
    refine kS ?_
    refine rp 6 ?_
    refine b0 (.C 0 11 <| .C 1 12 <| .C 2 13 <| .nil) [(13, .int .i64 ((k : Nat) : Int)), (12, .slice (some ad) rs.length c), (11, .func (.func 86) #[] #[]), (5, .int .i64 ((k : Nat) : Int)), (9, .bool (decide (((k : Nat) : Int) < ((rs.length : Nat) : Int)))), (7, .int .i64 ((rs.length : Nat) : Int)), (8, .int .i64 ((k : Nat) : Int)), (1, .func (.func 86) #[] #[]), (0, .slice (some ad) rs.length c)] h17 (Kw.nil hB8) fun q18 h19 => ?_
    clear h17
    refine eE 3 14 (.indexAddr 154 (.tmp 12) (.tmp 13)) 0 (.pointer (some ((ad.add (k * 2)).add 0))) h19 (hr := r_index0 (n := rs.length) (c := c) (kd := .i64) (by kernel_rfl) (by kernel_rfl) hlt (by kernel_rfl)) fun q20 h21 => ?_
    clear h19
    refine b0 (.Y 4 15 0 0 2 <| .nil) [(15, .agg #[.bool x.1, .int .i64 x.2]), (11, .func (.func 86) #[] #[]), (5, .int .i64 ((k : Nat) : Int)), (9, .bool (decide (((k : Nat) : Int) < ((rs.length : Nat) : Int)))), (7, .int .i64 ((rs.length : Nat) : Int)), (8, .int .i64 ((k : Nat) : Int)), (1, .func (.func 86) #[] #[]), (0, .slice (some ad) rs.length c)] h21 ((Kw.nil hB8).cons (hE0.below hB8.bel)) fun q22 h23 => ?_
    clear h21
    refine sC 5 16 h23 gok_none (c60 x.1 x.2 w6) ?_
    rintro _ w26 ⟨rfl, hb27⟩
    have hB28 := hB8.call hb27
    refine ⟨_, rfl, trivial, fun q24 h25 => ?_⟩
    clear h23 hB8 hb27
    refine wpO_end ?_
    have h29 := h25.keep [(16, .bool x.1), (5, .int .i64 ((k : Nat) : Int)), (9, .bool (decide (((k : Nat) : Int) < ((rs.length : Nat) : Int)))), (7, .int .i64 ((rs.length : Nat) : Int)), (8, .int .i64 ((k : Nat) : Int)), (1, .func (.func 86) #[] #[]), (0, .slice (some ad) rs.length c)] ⟨rfl, rfl, rfl, rfl, rfl, rfl, rfl, trivial⟩
    clear h25
    refine then_n ?_
    refine kC 16 x.1 h29 (fun hc30 => ?_) (fun hc30 => ?_)
    ·
      refine kS ?_
      refine rp 2 ?_
      refine b0 (.C 0 17 <| .C 1 4 <| .nil) [(4, .int .i64 ((k : Nat) : Int)), (16, .bool x.1), (5, .int .i64 ((k : Nat) : Int)), (9, .bool (decide (((k : Nat) : Int) < ((rs.length : Nat) : Int)))), (7, .int .i64 ((rs.length : Nat) : Int)), (8, .int .i64 ((k : Nat) : Int)), (1, .func (.func 86) #[] #[]), (0, .slice (some ad) rs.length c)] h29 (Kw.nil hB28) fun q31 h32 => ?_
      clear h29
      refine wpO_end ?_
      refine then_n ?_
      refine c_ret (by kernel_rfl) ?_
      refine inB_r (then_r (then_r (inB_r (then_r ?_))))
      refine ret1 (t := 4) (v := .int .i64 ((k : Nat) : Int)) h32 (by kernel_rfl) (by kernel_rfl) ?_
      exact ⟨ret_eq (congrArg (Value.int .i64) ((idxR_some rs 0 k x hx11 hx hc30).trans (by rw [Nat.zero_add])).symm), hB28.bel⟩
    refine c_skip (by kernel_rfl) ?_
    refine inB_n ?_
    refine then_n ?_
    refine rp 2 ?_
    refine b0 (.E 0 18 (.int .i64 (IntKind.i64.wrap (((k : Nat) : Int) + 1))) <| .C 1 8 <| .nil) [(8, .int .i64 (IntKind.i64.wrap (((k : Nat) : Int) + 1))), (16, .bool x.1), (5, .int .i64 ((k : Nat) : Int)), (9, .bool (decide (((k : Nat) : Int) < ((rs.length : Nat) : Int)))), (7, .int .i64 ((rs.length : Nat) : Int)), (1, .func (.func 86) #[] #[]), (0, .slice (some ad) rs.length c)] h29 (Kw.nil hB28) fun q33 h34 => ?_
    clear h29
    refine wpO_end ?_
    have h35 := h34.keep [(7, .int .i64 ((rs.length : Nat) : Int)), (8, .int .i64 (((k + 1) : Nat) : Int)), (1, .func (.func 86) #[] #[]), (0, .slice (some ad) rs.length c)] ⟨rfl, look_int rfl (wrap_succ (by have := hn; omega)), rfl, rfl, trivial⟩
    have hm36 := h35.int (k := 8) (kd := .i64) (z := (((k + 1) : Nat) : Int)) rfl
    refine then_n ⟨⟨k + 1, by omega, h35, hB28, fun j y hj hy => by rcases Nat.lt_succ_iff_lt_or_eq.1 hj with h' | rfl; exact hx11 j y h' hy; rw [hx] at hy; cases hy; exact hc30⟩, ?_⟩
    show (((rs.length : Int)) - intAt _ 8).toNat < (((rs.length : Int)) - intAt _ 8).toNat
    rw [hm10, hm36]; omega
  have hp37 : ¬ (((k : Nat) : Int) < ((rs.length : Nat) : Int)) := of_decide_eq_false hc14
  refine c_exit 0 (by kernel_rfl) ?_
  refine then_e (then_e (inB_hit ?_))
  refine then_n ?_
  refine kS ?_
  refine rp 1 ?_
  refine b0 (.C 0 4 <| .nil) [(4, .int .i64 (-1))] h13 (Kw.nil hB8) fun q38 h39 => ?_
  clear h13
  refine wpO_end ?_
  refine then_n ?_
  refine c_ret (by kernel_rfl) ?_
  refine ret1 (t := 4) (v := .int .i64 (-1)) h39 (by kernel_rfl) (by kernel_rfl) ?_
  exact ⟨ret_eq (congrArg (Value.int .i64) (idxR_none rs 0 fun j y hj => hx11 j y (by have := (List.getElem?_eq_some_iff.1 hj).1; omega) hj).symm), hB8.bel⟩

set_option maxHeartbeats 4000000 in
set_option maxRecDepth 20000 in
theorem c39 (rs : List (Bool × Int)) (A : Option Addr) (c : Nat) (w : World) (hn : rs.length ≤ 4611686018427387904) (hr : Rd w A (rulec rs)) : Calls Tryz.prog 54 #[.slice A rs.length c] w fun e w' => e = .returned (.int .i64 (firstE rs)) ∧ Below w.heap.size w w' := by
  refine enter Tryz.func54 (by kernel_rfl) ?_ (by kernel_rfl)
  intro q0 h0
  replace h0 := h0.conv (l' := [(0, .slice A rs.length c)]) rfl
  have hB := Bx.refl w
  refine kS ?_
  refine rp 1 ?_
  refine b0 (.C 0 2 <| .nil) [(2, .int .i64 0), (0, .slice A rs.length c)] h0 (Kw.nil hB) fun q1 h2 => ?_
  clear h0
  refine wpO_end ?_
  refine then_n ?_
  refine kS ?_
  refine kS ?_
  refine rp 3 ?_
  refine b0 (.C 0 4 <| .nil) [(4, .slice A rs.length c), (2, .int .i64 0), (0, .slice A rs.length c)] h2 (Kw.nil hB) fun q3 h4 => ?_
  clear h2
  refine sC 1 5 h4 gok_none (c59 rs A c w hn (hr.below hB.bel)) ?_
  rintro _ w7 ⟨rfl, hb8⟩
  have hB9 := hB.call hb8
  refine ⟨_, rfl, trivial, fun q5 h6 => ?_⟩
  clear h4 hB hb8
  refine b0 (.C 2 3 <| .nil) [(3, .int .i64 (idxR rs 0)), (2, .int .i64 0), (0, .slice A rs.length c)] h6 (Kw.nil hB9) fun q10 h11 => ?_
  clear h6
  refine wpO_end ?_
  refine then_n ?_
  refine kS ?_
  refine rp 2 ?_
  refine b0 (.C 0 6 <| .E 1 7 (.bool (decide ((0 : Int) ≤ idxR rs 0))) <| .nil) [(7, .bool (decide ((0 : Int) ≤ idxR rs 0))), (3, .int .i64 (idxR rs 0)), (2, .int .i64 0), (0, .slice A rs.length c)] h11 (Kw.nil hB9) fun q12 h13 => ?_
  clear h11
  refine wpO_end ?_
  refine then_n ?_
  refine kC 7 (decide ((0 : Int) ≤ idxR rs 0)) h13 (fun hc14 => ?_) (fun hc14 => ?_)
  ·
    have hp15 : ((0 : Int) ≤ idxR rs 0) := of_decide_eq_true hc14
    rcases firstE_of_idx rs with ⟨hi, hf⟩ | ⟨k, x, hlt, hi, hx, hf⟩
    · exfalso; omega
    obtain ⟨ad, hA, hE0⟩ := hr.el (k * 2) [.bool x.1, .int .i64 x.2] (by simp) (rulec_get rs k x hx)
    subst hA
    refine kS ?_
    refine rp 6 ?_
    refine b0 (.C 0 8 <| .C 1 9 <| .nil) [(9, .int .i64 (idxR rs 0)), (8, .slice (some ad) rs.length c), (2, .int .i64 0)] h13 (Kw.nil hB9) fun q16 h17 => ?_
    clear h13
    refine eE 2 10 (.indexAddr 154 (.tmp 8) (.tmp 9)) 0 (.pointer (some ((ad.add (k * 2)).add 0))) h17 (hr := r_index0 (n := rs.length) (c := c) (kd := .i64) (by kernel_rfl) (congrArg (Value.int .i64) hi) hlt (by kernel_rfl)) fun q18 h19 => ?_
    clear h17
    refine b0 (.F 3 11 0 0 1 <| .X 4 12 0 1 <| .C 5 2 <| .nil) [(2, .int .i64 x.2)] h19 ((Kw.nil hB9).cons (hE0.below hB9.bel)) fun q20 h21 => ?_
    clear h19
    refine wpO_end ?_
    refine then_n ?_
    refine c_ret (by kernel_rfl) ?_
    refine then_r ?_
    refine ret1 (t := 2) (v := .int .i64 x.2) h21 (by kernel_rfl) (by kernel_rfl) ?_
    exact ⟨ret_eq (congrArg (Value.int .i64) hf.symm), hB9.bel⟩
  have hp22 : ¬ ((0 : Int) ≤ idxR rs 0) := of_decide_eq_false hc14
  rcases firstE_of_idx rs with ⟨hi, hf⟩ | ⟨k, x, hlt, hi, hx, hf⟩
  rotate_left
  · exfalso; omega
  refine c_skip (by kernel_rfl) ?_
  refine then_n ?_
  refine kS ?_
  refine rp 1 ?_
  refine b0 (.C 0 2 <| .nil) [(2, .int .i64 0)] h13 (Kw.nil hB9) fun q23 h24 => ?_
  clear h13
  refine wpO_end ?_
  refine then_n ?_
  refine c_ret (by kernel_rfl) ?_
  refine ret1 (t := 2) (v := .int .i64 0) h24 (by kernel_rfl) (by kernel_rfl) ?_
  exact ⟨ret_eq (congrArg (Value.int .i64) hf.symm), hB9.bel⟩

end Go.Proofs.YtljegdokbifoiaaGreatDoor.Af
