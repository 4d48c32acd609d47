/- The order of references, in the reference's package. Short strings. -/
import Derived.Test.YtljegdokbifoiaaDoorNzp
namespace Go.Proofs.YtljegdokbifoiaaDoor.Af
open Go.RowKit
set_option maxHeartbeats 4000000 in
set_option maxRecDepth 20000 in
theorem c57 (a b : ByteArray) (w : World) (hn : a.size ≤ 1000) : Calls Tryd.prog 57 #[.string a, .string b] w fun e w' => e = .returned (.bool (ltB a b)) ∧ Below w.heap.size w w' := by
  refine enter Tryd.func57 (by kernel_rfl) ?_ (by kernel_rfl)
  intro q0 h0
  replace h0 := h0.conv (l' := [(0, .string a), (1, .string b)]) rfl
  have hB := Bx.refl w
  refine kS ?_
  refine rp 1 ?_
  refine b0 (.C 0 4 <| .nil) [(4, .bool false), (0, .string a), (1, .string b)] h0 (Kw.nil hB) fun q1 h2 => ?_
  clear h0
  refine wpO_end ?_
  refine then_n ?_
  refine kS ?_
  refine kS ?_
  refine rp 1 ?_
  refine b0 (.C 0 5 <| .nil) [(5, .int .i64 0), (4, .bool false), (0, .string a), (1, .string b)] h2 (Kw.nil hB) fun q3 h4 => ?_
  clear h2
  refine wpO_end ?_
  refine then_n ?_
  refine c_block 0 (by kernel_rfl) ?_
  refine c_loop (by kernel_rfl) (fun qa qw => ∃ k : Nat, (k ≤ a.size ∧ k ≤ b.size) ∧ Fr 37 [(0, .string a), (1, .string b), (5, .int .i64 ((k : Nat) : Int))] qa ∧ Bx w [] qw ∧ (Lib.compareBytes a.data.toList b.data.toList = Lib.compareBytes (a.data.toList.drop k) (b.data.toList.drop k))) (fun qa _ => (((a.size : Int)) - intAt qa 5).toNat) ⟨0, ⟨Nat.zero_le _, Nat.zero_le _⟩, h4.keep _ ⟨rfl, rfl, rfl, trivial⟩, hB, rfl⟩ ?_
  rintro q5 w6 ⟨k, hk9, h7, hB8, hx11⟩
  have hm10 := h7.int (k := 5) (kd := .i64) (z := ((k : Nat) : Int)) rfl
  clear h4 hB
  refine kS ?_
  refine kS ?_
  refine rp 10 ?_
  refine b0 (.C 0 6 <| .C 1 7 <| .E 2 8 (.int .i64 ((a.size : Nat) : Int)) <| .E 3 9 (.bool (decide (((k : Nat) : Int) < ((a.size : Nat) : Int)))) <| .C 4 10 <| .J 9 15 10 14 true (decide (((k : Nat) : Int) < ((a.size : Nat) : Int))) (decide (((k : Nat) : Int) < ((b.size : Nat) : Int))) (.C 5 11 <| .C 6 12 <| .E 7 13 (.int .i64 ((b.size : Nat) : Int)) <| .E 8 14 (.bool (decide (((k : Nat) : Int) < ((b.size : Nat) : Int)))) <| .nil) <| .nil) [(15, .bool ((decide (((k : Nat) : Int) < ((a.size : Nat) : Int))) && (decide (((k : Nat) : Int) < ((b.size : Nat) : Int))))), (0, .string a), (1, .string b), (5, .int .i64 ((k : Nat) : Int))] h7 (Kw.nil hB8) fun q12 h13 => ?_
  clear h7
  refine wpO_end ?_
  refine then_n ?_
  refine kC 15 ((decide (((k : Nat) : Int) < ((a.size : Nat) : Int))) && (decide (((k : Nat) : Int) < ((b.size : Nat) : Int)))) h13 (fun hc14 => ?_) (fun hc14 => ?_)
  ·
    have hlt : k < a.size ∧ k < b.size := by have := hc14; simp at this; omega
    refine c_skip (by kernel_rfl) ?_
    refine then_n ?_
    refine kS ?_
    refine c_block 1 (by kernel_rfl) ?_
    refine kS ?_
    have hD15 := hB8.drew
    refine rd (Bx w []) 7 [⟨0, true, 0, 1, 262144⟩, ⟨1, true, 0, 32, 524288⟩, ⟨2, true, 3, 786432, 1048576⟩, ⟨3, true, 0, 2, 2097152⟩, ⟨4, true, 0, 32, 4194304⟩, ⟨5, true, 24, 6291456, 8388608⟩, ⟨6, true, 36, 9437184, 16777216⟩] hD15 ?_
    generalize World.drew w6 = w16 at hD15 ⊢
    refine d0 (.C 0 18 <| .C 1 19 <| .nil) [(19, .int .i64 ((k : Nat) : Int)), (18, .string a), (15, .bool ((decide (((k : Nat) : Int) < ((a.size : Nat) : Int))) && (decide (((k : Nat) : Int) < ((b.size : Nat) : Int))))), (0, .string a), (1, .string b), (5, .int .i64 ((k : Nat) : Int))] h13 (fun _ hS => Kw.nil hS) fun q17 h18 => ?_
    clear h13
    refine fE 2 20 (.index 9 (.tmp 18) (.tmp 19)) 5 (.int .u8 (((chAt a k).toNat : Nat) : Int)) h18 (hr := fun _ hS => r_indexS (kd := .i64) (i := k) (b := (chAt a k)) (by kernel_rfl) (by kernel_rfl) (getS (by omega)) (by kernel_rfl)) fun q19 h20 => ?_
    clear h18
    refine d0 (.C 3 21 <| .C 4 22 <| .nil) [(22, .int .i64 ((k : Nat) : Int)), (21, .string b), (20, .int .u8 (((chAt a k).toNat : Nat) : Int)), (15, .bool ((decide (((k : Nat) : Int) < ((a.size : Nat) : Int))) && (decide (((k : Nat) : Int) < ((b.size : Nat) : Int))))), (0, .string a), (1, .string b), (5, .int .i64 ((k : Nat) : Int))] h20 (fun _ hS => Kw.nil hS) fun q21 h22 => ?_
    clear h20
    refine fE 5 23 (.index 9 (.tmp 21) (.tmp 22)) 5 (.int .u8 (((chAt b k).toNat : Nat) : Int)) h22 (hr := fun _ hS => r_indexS (kd := .i64) (i := k) (b := (chAt b k)) (by kernel_rfl) (by kernel_rfl) (getS (by omega)) (by kernel_rfl)) fun q23 h24 => ?_
    clear h22
    refine d0 (.E 6 24 (.bool ((((chAt a k).toNat : Nat) : Int) != (((chAt b k).toNat : Nat) : Int))) <| .nil) [(24, .bool ((((chAt a k).toNat : Nat) : Int) != (((chAt b k).toNat : Nat) : Int))), (15, .bool ((decide (((k : Nat) : Int) < ((a.size : Nat) : Int))) && (decide (((k : Nat) : Int) < ((b.size : Nat) : Int))))), (0, .string a), (1, .string b), (5, .int .i64 ((k : Nat) : Int))] h24 (fun _ hS => Kw.nil hS) fun q25 h26 => ?_
    clear h24
    refine wpO_end ?_
    refine then_n ?_
    refine kC 24 ((((chAt a k).toNat : Nat) : Int) != (((chAt b k).toNat : Nat) : Int)) h26 (fun hc27 => ?_) (fun hc27 => ?_)
    ·
      refine kS ?_
      have hD28 := hD15.drew
      refine rd (Bx w []) 8 [⟨0, true, 0, 1, 33554432⟩, ⟨1, true, 0, 32, 67108864⟩, ⟨2, true, 3, 100663296, 134217728⟩, ⟨3, true, 0, 2, 268435456⟩, ⟨4, true, 0, 32, 536870912⟩, ⟨5, true, 24, 805306368, 1073741824⟩, ⟨6, true, 36, 1207959552, 2147483648⟩, ⟨7, true, 127, 2147483648, 16⟩] hD28 ?_
      generalize World.drew w16 = w29 at hD28 ⊢
      refine d0 (.C 0 25 <| .C 1 26 <| .nil) [(26, .int .i64 ((k : Nat) : Int)), (25, .string a), (24, .bool ((((chAt a k).toNat : Nat) : Int) != (((chAt b k).toNat : Nat) : Int))), (15, .bool ((decide (((k : Nat) : Int) < ((a.size : Nat) : Int))) && (decide (((k : Nat) : Int) < ((b.size : Nat) : Int))))), (0, .string a), (1, .string b), (5, .int .i64 ((k : Nat) : Int))] h26 (fun _ hS => Kw.nil hS) fun q30 h31 => ?_
      clear h26
      refine fE 2 27 (.index 9 (.tmp 25) (.tmp 26)) 5 (.int .u8 (((chAt a k).toNat : Nat) : Int)) h31 (hr := fun _ hS => r_indexS (kd := .i64) (i := k) (b := (chAt a k)) (by kernel_rfl) (by kernel_rfl) (getS (by omega)) (by kernel_rfl)) fun q32 h33 => ?_
      clear h31
      refine d0 (.C 3 28 <| .C 4 29 <| .nil) [(29, .int .i64 ((k : Nat) : Int)), (28, .string b), (27, .int .u8 (((chAt a k).toNat : Nat) : Int)), (24, .bool ((((chAt a k).toNat : Nat) : Int) != (((chAt b k).toNat : Nat) : Int))), (15, .bool ((decide (((k : Nat) : Int) < ((a.size : Nat) : Int))) && (decide (((k : Nat) : Int) < ((b.size : Nat) : Int))))), (0, .string a), (1, .string b), (5, .int .i64 ((k : Nat) : Int))] h33 (fun _ hS => Kw.nil hS) fun q34 h35 => ?_
      clear h33
      refine fE 5 30 (.index 9 (.tmp 28) (.tmp 29)) 5 (.int .u8 (((chAt b k).toNat : Nat) : Int)) h35 (hr := fun _ hS => r_indexS (kd := .i64) (i := k) (b := (chAt b k)) (by kernel_rfl) (by kernel_rfl) (getS (by omega)) (by kernel_rfl)) fun q36 h37 => ?_
      clear h35
      refine d0 (.E 6 31 (.bool (decide ((((chAt a k).toNat : Nat) : Int) < (((chAt b k).toNat : Nat) : Int)))) <| .C 7 4 <| .nil) [(4, .bool (decide ((((chAt a k).toNat : Nat) : Int) < (((chAt b k).toNat : Nat) : Int)))), (24, .bool ((((chAt a k).toNat : Nat) : Int) != (((chAt b k).toNat : Nat) : Int))), (15, .bool ((decide (((k : Nat) : Int) < ((a.size : Nat) : Int))) && (decide (((k : Nat) : Int) < ((b.size : Nat) : Int))))), (0, .string a), (1, .string b), (5, .int .i64 ((k : Nat) : Int))] h37 (fun _ hS => Kw.nil hS) fun q38 h39 => ?_
      clear h37
      refine wpO_end ?_
      refine then_n ?_
      refine c_ret (by kernel_rfl) ?_
      refine inB_r (then_r (then_r (inB_r (then_r ?_))))
      refine ret1 (t := 4) (v := .bool (decide ((((chAt a k).toNat : Nat) : Int) < (((chAt b k).toNat : Nat) : Int)))) h39 (by kernel_rfl) (by kernel_rfl) ?_
      exact ⟨ret_eq (congrArg Value.bool (lt_hit hx11 (getL (by omega)) (getL (by omega)) hc27)), hD28.bel⟩
    refine c_skip (by kernel_rfl) ?_
    refine inB_n ?_
    refine then_n ?_
    refine rp 3 ?_
    refine b0 (.C 0 16 <| .E 1 17 (.int .i64 (IntKind.i64.wrap (((k : Nat) : Int) + 1))) <| .C 2 5 <| .nil) [(5, .int .i64 (IntKind.i64.wrap (((k : Nat) : Int) + 1))), (24, .bool ((((chAt a k).toNat : Nat) : Int) != (((chAt b k).toNat : Nat) : Int))), (15, .bool ((decide (((k : Nat) : Int) < ((a.size : Nat) : Int))) && (decide (((k : Nat) : Int) < ((b.size : Nat) : Int))))), (0, .string a), (1, .string b)] h26 (Kw.nil hD15) fun q40 h41 => ?_
    clear h26
    refine wpO_end ?_
    have h42 := h41.keep [(0, .string a), (1, .string b), (5, .int .i64 (((k + 1) : Nat) : Int))] ⟨rfl, rfl, look_int rfl (wrap_succ (by have := hn; omega)), trivial⟩
    have hm43 := h42.int (k := 5) (kd := .i64) (z := (((k + 1) : Nat) : Int)) rfl
    refine then_n ⟨⟨k + 1, ⟨by omega, by omega⟩, h42, hD15, lt_next hx11 (getL (by omega)) (getL (by omega)) hc27⟩, ?_⟩
    show (((a.size : Int)) - intAt _ 5).toNat < (((a.size : Int)) - intAt _ 5).toNat
    rw [hm10, hm43]; omega
  have hend : ¬ (k < a.size ∧ k < b.size) := by have := hc14; simp at this; omega
  refine c_exit 0 (by kernel_rfl) ?_
  refine then_e (then_e (inB_hit ?_))
  refine then_n ?_
  refine kS ?_
  refine rp 6 ?_
  refine b0 (.C 0 32 <| .E 1 33 (.int .i64 ((a.size : Nat) : Int)) <| .C 2 34 <| .E 3 35 (.int .i64 ((b.size : Nat) : Int)) <| .E 4 36 (.bool (decide (((a.size : Nat) : Int) < ((b.size : Nat) : Int)))) <| .C 5 4 <| .nil) [(4, .bool (decide (((a.size : Nat) : Int) < ((b.size : Nat) : Int))))] h13 (Kw.nil hB8) fun q44 h45 => ?_
  clear h13
  refine wpO_end ?_
  refine then_n ?_
  refine c_ret (by kernel_rfl) ?_
  refine ret1 (t := 4) (v := .bool (decide (((a.size : Nat) : Int) < ((b.size : Nat) : Int)))) h45 (by kernel_rfl) (by kernel_rfl) ?_
  exact ⟨ret_eq (congrArg Value.bool (lt_end hx11 hk9.1 hk9.2 hend)), hB8.bel⟩

end Go.Proofs.YtljegdokbifoiaaDoor.Af
