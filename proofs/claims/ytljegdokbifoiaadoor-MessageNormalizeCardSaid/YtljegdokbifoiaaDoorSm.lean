/- The small functions of package message. No condition. -/
import Derived.Test.YtljegdokbifoiaaDoorMs
namespace Go.Proofs.YtljegdokbifoiaaDoor.Af
open Go.RowKit
def winB (n a b : Int) : Bool := decide (a ≤ n) && decide (n ≤ b)
def isCol (i : Ins) : Bool := (i.kind == 3) || (i.kind == 4)
def isSec (i : Ins) : Bool := (i.kind == 1) || (i.kind == 2)
def maxLotI (i : Ins) : Int := bif i.part then i.qty else 0
def bndB (n : Int) (u : Bool) : Bool := bif u then winB n 1 1000000000000000 else n == 0

set_option maxHeartbeats 4000000 in
set_option maxRecDepth 20000 in
theorem c40 (n a b : Int) (w : World) : Calls Tryd.prog 40 #[.int .i64 n, .int .i64 a, .int .i64 b] w fun e w' => e = .returned (.bool (winB n a b)) ∧ Below w.heap.size w w' := by
  refine enter Tryd.func40 (by kernel_rfl) ?_ (by kernel_rfl)
  intro q0 h0
  replace h0 := h0.conv (l' := [(0, .int .i64 n), (1, .int .i64 a), (2, .int .i64 b)]) rfl
  have hB := Bx.refl w
  refine kS ?_
  refine rp 1 ?_
  refine b0 (.C 0 6 <| .nil) [(6, .bool false), (0, .int .i64 n), (1, .int .i64 a), (2, .int .i64 b)] h0 (Kw.nil hB) fun q1 h2 => ?_
  clear h0
  refine wpO_end ?_
  refine then_n ?_
  refine kS ?_
  refine rp 9 ?_
  refine b0 (.C 0 7 <| .C 1 8 <| .E 2 9 (.bool (decide (a ≤ n))) <| .C 3 10 <| .J 7 14 10 13 true (decide (a ≤ n)) (decide (n ≤ b)) (.C 4 11 <| .C 5 12 <| .E 6 13 (.bool (decide (n ≤ b))) <| .nil) <| .C 8 6 <| .nil) [(6, .bool ((decide (a ≤ n)) && (decide (n ≤ b))))] h2 (Kw.nil hB) fun q3 h4 => ?_
  clear h2
  refine wpO_end ?_
  refine then_n ?_
  refine c_ret (by kernel_rfl) ?_
  refine ret1 (t := 6) (v := .bool ((decide (a ≤ n)) && (decide (n ≤ b)))) h4 (by kernel_rfl) (by kernel_rfl) ?_
  exact ⟨ret_eq (rfl), hB.bel⟩

set_option maxHeartbeats 4000000 in
set_option maxRecDepth 20000 in
theorem c46 (n a b : Int) (w : World) : Calls Tryd.prog 46 #[.int .i64 n, .int .i64 a, .int .i64 b] w fun e w' => e = .returned (.bool (winB n a b)) ∧ Below w.heap.size w w' := by
  refine enter Tryd.func46 (by kernel_rfl) ?_ (by kernel_rfl)
  intro q0 h0
  replace h0 := h0.conv (l' := [(0, .int .i64 n), (1, .int .i64 a), (2, .int .i64 b)]) rfl
  have hB := Bx.refl w
  refine kS ?_
  refine rp 1 ?_
  refine b0 (.C 0 6 <| .nil) [(6, .bool false), (0, .int .i64 n), (1, .int .i64 a), (2, .int .i64 b)] h0 (Kw.nil hB) fun q1 h2 => ?_
  clear h0
  refine wpO_end ?_
  refine then_n ?_
  refine kS ?_
  refine rp 9 ?_
  refine b0 (.C 0 7 <| .C 1 8 <| .E 2 9 (.bool (decide (a ≤ n))) <| .C 3 10 <| .J 7 14 10 13 true (decide (a ≤ n)) (decide (n ≤ b)) (.C 4 11 <| .C 5 12 <| .E 6 13 (.bool (decide (n ≤ b))) <| .nil) <| .C 8 6 <| .nil) [(6, .bool ((decide (a ≤ n)) && (decide (n ≤ b))))] h2 (Kw.nil hB) fun q3 h4 => ?_
  clear h2
  refine wpO_end ?_
  refine then_n ?_
  refine c_ret (by kernel_rfl) ?_
  refine ret1 (t := 6) (v := .bool ((decide (a ≤ n)) && (decide (n ≤ b)))) h4 (by kernel_rfl) (by kernel_rfl) ?_
  exact ⟨ret_eq (rfl), hB.bel⟩

set_option maxHeartbeats 4000000 in
set_option maxRecDepth 20000 in
theorem c42 (i : Ins) (A : Option Addr) (c : Nat) (w : World) : Calls Tryd.prog 42 #[insV i A c] w fun e w' => e = .returned (.bool (isCol i)) ∧ Below w.heap.size w w' := by
  refine enter Tryd.func42 (by kernel_rfl) ?_ (by kernel_rfl)
  intro q0 h0
  replace h0 := h0.conv (l' := [(0, insV i A c)]) rfl
  have hB := Bx.refl w
  refine kS ?_
  refine rp 2 ?_
  refine sA 0 1 (fun b => .pointer (some ⟨b, 0, none⟩)) (.cells (insV i A c).cells 29 (0, 0)) h0 gok_none hB (fun _ _ hq => trivial) (fun b3 w4 hB5 hN q1 h2 => ?_)
  clear h0 hB hN
  refine b0 (.C 1 2 <| .nil) [(2, .bool false), (1, .pointer (some ⟨b3, 0, none⟩))] h2 (Kw.nil hB5) fun q6 h7 => ?_
  clear h2
  refine wpO_end ?_
  refine then_n ?_
  refine kS ?_
  refine rp 9 ?_
  refine b0 (.C 0 3 <| .L 1 4 0 1 <| .E 2 5 (.bool (i.kind == (3 : Int))) <| .C 3 6 <| .J 7 10 6 9 false (i.kind == (3 : Int)) (i.kind == (4 : Int)) (.C 4 7 <| .L 5 8 0 1 <| .E 6 9 (.bool (i.kind == (4 : Int))) <| .nil) <| .C 8 2 <| .nil) [(2, .bool ((i.kind == (3 : Int)) || (i.kind == (4 : Int))))] h7 (Kw.nil hB5) fun q8 h9 => ?_
  clear h7
  refine wpO_end ?_
  refine then_n ?_
  refine c_ret (by kernel_rfl) ?_
  refine ret1 (t := 2) (v := .bool ((i.kind == (3 : Int)) || (i.kind == (4 : Int)))) h9 (by kernel_rfl) (by kernel_rfl) ?_
  exact ⟨ret_eq (rfl), hB5.bel⟩

set_option maxHeartbeats 4000000 in
set_option maxRecDepth 20000 in
theorem c43 (i : Ins) (A : Option Addr) (c : Nat) (w : World) : Calls Tryd.prog 43 #[insV i A c] w fun e w' => e = .returned (.bool (isSec i)) ∧ Below w.heap.size w w' := by
  refine enter Tryd.func43 (by kernel_rfl) ?_ (by kernel_rfl)
  intro q0 h0
  replace h0 := h0.conv (l' := [(0, insV i A c)]) rfl
  have hB := Bx.refl w
  refine kS ?_
  refine rp 2 ?_
  refine sA 0 1 (fun b => .pointer (some ⟨b, 0, none⟩)) (.cells (insV i A c).cells 29 (0, 0)) h0 gok_none hB (fun _ _ hq => trivial) (fun b3 w4 hB5 hN q1 h2 => ?_)
  clear h0 hB hN
  refine b0 (.C 1 2 <| .nil) [(2, .bool false), (1, .pointer (some ⟨b3, 0, none⟩))] h2 (Kw.nil hB5) fun q6 h7 => ?_
  clear h2
  refine wpO_end ?_
  refine then_n ?_
  refine kS ?_
  refine rp 9 ?_
  refine b0 (.C 0 3 <| .L 1 4 0 1 <| .E 2 5 (.bool (i.kind == (1 : Int))) <| .C 3 6 <| .J 7 10 6 9 false (i.kind == (1 : Int)) (i.kind == (2 : Int)) (.C 4 7 <| .L 5 8 0 1 <| .E 6 9 (.bool (i.kind == (2 : Int))) <| .nil) <| .C 8 2 <| .nil) [(2, .bool ((i.kind == (1 : Int)) || (i.kind == (2 : Int))))] h7 (Kw.nil hB5) fun q8 h9 => ?_
  clear h7
  refine wpO_end ?_
  refine then_n ?_
  refine c_ret (by kernel_rfl) ?_
  refine ret1 (t := 2) (v := .bool ((i.kind == (1 : Int)) || (i.kind == (2 : Int)))) h9 (by kernel_rfl) (by kernel_rfl) ?_
  exact ⟨ret_eq (rfl), hB5.bel⟩

set_option maxHeartbeats 4000000 in
set_option maxRecDepth 20000 in
theorem c47 (i : Ins) (A : Option Addr) (c : Nat) (w : World) : Calls Tryd.prog 47 #[insV i A c] w fun e w' => e = .returned (.int .i64 (maxLotI i)) ∧ Below w.heap.size w w' := by
  refine enter Tryd.func47 (by kernel_rfl) ?_ (by kernel_rfl)
  intro q0 h0
  replace h0 := h0.conv (l' := [(0, insV i A c)]) rfl
  have hB := Bx.refl w
  refine kS ?_
  refine rp 2 ?_
  refine sA 0 1 (fun b => .pointer (some ⟨b, 0, none⟩)) (.cells (insV i A c).cells 29 (0, 0)) h0 gok_none hB (fun _ _ hq => trivial) (fun b3 w4 hB5 hN q1 h2 => ?_)
  clear h0 hB hN
  refine b0 (.C 1 2 <| .nil) [(2, .int .i64 0), (1, .pointer (some ⟨b3, 0, none⟩))] h2 (Kw.nil hB5) fun q6 h7 => ?_
  clear h2
  refine wpO_end ?_
  refine then_n ?_
  refine kS ?_
  refine kS ?_
  refine rp 2 ?_
  refine b0 (.C 0 3 <| .L 1 4 0 11 <| .nil) [(4, .bool i.part), (2, .int .i64 0), (1, .pointer (some ⟨b3, 0, none⟩))] h7 (Kw.nil hB5) fun q8 h9 => ?_
  clear h7
  refine wpO_end ?_
  refine then_n ?_
  refine kC 4 i.part h9 (fun hc10 => ?_) (fun hc10 => ?_)
  ·
    refine kS ?_
    refine rp 3 ?_
    refine b0 (.C 0 5 <| .L 1 6 0 6 <| .C 2 2 <| .nil) [(2, .int .i64 i.qty)] h9 (Kw.nil hB5) fun q11 h12 => ?_
    clear h9
    refine wpO_end ?_
    refine then_n ?_
    refine c_ret (by kernel_rfl) ?_
    refine then_r ?_
    refine ret1 (t := 2) (v := .int .i64 i.qty) h12 (by kernel_rfl) (by kernel_rfl) ?_
    exact ⟨ret_eq (congrArg (Value.int .i64) ((cT hc10)).symm), hB5.bel⟩
  refine c_skip (by kernel_rfl) ?_
  refine then_n ?_
  refine kS ?_
  refine rp 1 ?_
  refine b0 (.C 0 2 <| .nil) [(2, .int .i64 0)] h9 (Kw.nil hB5) fun q13 h14 => ?_
  clear h9
  refine wpO_end ?_
  refine then_n ?_
  refine c_ret (by kernel_rfl) ?_
  refine ret1 (t := 2) (v := .int .i64 0) h14 (by kernel_rfl) (by kernel_rfl) ?_
  exact ⟨ret_eq (congrArg (Value.int .i64) ((cF hc10)).symm), hB5.bel⟩

set_option maxHeartbeats 4000000 in
set_option maxRecDepth 20000 in
theorem c45 (n : Int) (u : Bool) (w : World) : Calls Tryd.prog 45 #[.int .i64 n, .bool u] w fun e w' => e = .returned (.bool (bndB n u)) ∧ Below w.heap.size w w' := by
  refine enter Tryd.func45 (by kernel_rfl) ?_ (by kernel_rfl)
  intro q0 h0
  replace h0 := h0.conv (l' := [(0, .int .i64 n), (1, .bool u)]) rfl
  have hB := Bx.refl w
  refine kS ?_
  refine rp 1 ?_
  refine b0 (.C 0 4 <| .nil) [(4, .bool false), (0, .int .i64 n), (1, .bool u)] h0 (Kw.nil hB) fun q1 h2 => ?_
  clear h0
  refine wpO_end ?_
  refine then_n ?_
  refine kS ?_
  refine kS ?_
  refine rp 1 ?_
  refine b0 (.C 0 5 <| .nil) [(5, .bool u), (4, .bool false), (0, .int .i64 n)] h2 (Kw.nil hB) fun q3 h4 => ?_
  clear h2
  refine wpO_end ?_
  refine then_n ?_
  refine kC 5 u h4 (fun hc5 => ?_) (fun hc5 => ?_)
  ·
    refine kS ?_
    refine rp 3 ?_
    refine b0 (.C 0 6 <| .nil) [(6, .int .i64 n), (4, .bool false), (0, .int .i64 n)] h4 (Kw.nil hB) fun q6 h7 => ?_
    clear h4
    refine sC 1 7 h7 gok_none (c46 n 1 1000000000000000 w) ?_
    rintro _ w10 ⟨rfl, hb11⟩
    have hB12 := hB.call hb11
    refine ⟨_, rfl, trivial, fun q8 h9 => ?_⟩
    clear h7 hB hb11
    refine b0 (.C 2 4 <| .nil) [(4, .bool (winB n 1 1000000000000000)), (0, .int .i64 n)] h9 (Kw.nil hB12) fun q13 h14 => ?_
    clear h9
    refine wpO_end ?_
    refine then_n ?_
    refine c_ret (by kernel_rfl) ?_
    refine then_r ?_
    refine ret1 (t := 4) (v := .bool (winB n 1 1000000000000000)) h14 (by kernel_rfl) (by kernel_rfl) ?_
    exact ⟨ret_eq (congrArg Value.bool ((cT hc5)).symm), hB12.bel⟩
  refine c_skip (by kernel_rfl) ?_
  refine then_n ?_
  refine kS ?_
  refine rp 3 ?_
  refine b0 (.C 0 8 <| .E 1 9 (.bool (n == (0 : Int))) <| .C 2 4 <| .nil) [(4, .bool (n == (0 : Int)))] h4 (Kw.nil hB) fun q15 h16 => ?_
  clear h4
  refine wpO_end ?_
  refine then_n ?_
  refine c_ret (by kernel_rfl) ?_
  refine ret1 (t := 4) (v := .bool (n == (0 : Int))) h16 (by kernel_rfl) (by kernel_rfl) ?_
  exact ⟨ret_eq (congrArg Value.bool ((cF hc5)).symm), hB.bel⟩

end Go.Proofs.YtljegdokbifoiaaDoor.Af
