/- The check digit of a security's identifier. Short strings of letters and digits. -/
import Derived.Test.YtljegdokbifoiaaDoorIp
import Derived.Test.YtljegdokbifoiaaDoorBd
namespace Go.Proofs.YtljegdokbifoiaaDoor.Af
open Go.RowKit
theorem dec_size (v : Nat) (h : v < 100) : (⟨(Lib.decDigits v).toArray⟩ : ByteArray).size ≤ 2 := by
  show (Lib.decDigits v).toArray.size ≤ 2
  rw [List.size_toArray]
  rcases Nat.lt_or_ge v 10 with h1 | h1
  · rw [decDigits_one v h1]; simp
  · rw [decDigits_two v h1 h]; simp
theorem isb_next {B b k : Nat} {l : List UInt8} {c : UInt8} {bs : List Value} {w : World} (hst : expL (l.take (k + 1)) = expL (l.take k) ++ expC c) (hb : Lib.byteCells (expC c) = bs)
    (h : Lib.IsBuilder 138 5 B b (Lib.byteCells (expL (l.take k)) ++ bs) w) : Lib.IsBuilder 138 5 B b (Lib.byteCells (expL (l.take (k + 1)))) w := by
  rw [hst]
  unfold Lib.byteCells at hb h ⊢
  rw [List.map_append, hb]
  exact h

set_option maxHeartbeats 4000000 in
set_option maxRecDepth 20000 in
theorem c100 (s : ByteArray) (w : World) (hn : s.size ≤ 1000) (hC : ∀ c ∈ s.data.toList, okC c = true) : Calls Tryd.prog 100 #[.string s] w (fun e w' => e = .returned (.string ⟨(expL s.data.toList).toArray⟩) ∧ Below w.heap.size w w') := by
  refine enter Tryd.func100 (by kernel_rfl) ?_ (by kernel_rfl)
  intro q0 h0
  replace h0 := h0.conv (l' := [(0, .string s)]) rfl
  have hB := Bx.refl w
  refine kS ?_
  refine rp 1 ?_
  refine b0 (.C 0 2 <| .nil) [(2, .string (⟨#[]⟩ : ByteArray)), (0, .string s)] h0 (Kw.nil hB) fun q1 h2 => ?_
  clear h0
  refine wpO_end ?_
  refine then_n ?_
  refine kS ?_
  refine rp 1 ?_
  refine sA 0 3 (fun b => .pointer (some ⟨b, 0, none⟩)) (.cells #[.pointer none, .slice none 0 0] 138 (0, 0)) h2 gok_none hB (fun _ _ hq => trivial) (fun b5 w6 hB7 hN q3 h4 => ?_)
  clear h2 hB hN
  have hi8 := isB_new (hB7.at 0 rfl) (hB7.ge 0 _ rfl)
  have hB9 := Bx.step0 (Bx.refl w) hB7.bel
  clear hB7
  refine wpO_end ?_
  refine then_n ?_
  refine kS ?_
  refine kS ?_
  refine rp 3 ?_
  refine b0 (.C 0 5 <| .E 1 6 (.int .i64 ((s.size : Nat) : Int)) <| .C 2 7 <| .nil) [(7, .int .i64 0), (6, .int .i64 ((s.size : Nat) : Int)), (3, .pointer (some ⟨b5, 0, none⟩)), (2, .string (⟨#[]⟩ : ByteArray)), (0, .string s)] h4 (Kw.nil hB9) fun q10 h11 => ?_
  clear h4
  refine wpO_end ?_
  refine then_n ?_
  refine c_block 0 (by kernel_rfl) ?_
  refine c_loop (by kernel_rfl) (fun qa qw => ∃ k : Nat, (k ≤ s.size) ∧ Fr 28 [(3, .pointer (some ⟨b5, 0, none⟩)), (6, .int .i64 ((s.size : Nat) : Int)), (7, .int .i64 ((k : Nat) : Int)), (0, .string s)] qa ∧ Bx w [] qw ∧ (Lib.IsBuilder 138 5 w.heap.size b5 (Lib.byteCells (expL (s.data.toList.take k))) qw)) (fun qa _ => (((s.size : Int)) - intAt qa 7).toNat) ⟨0, Nat.zero_le _, h11.keep _ ⟨rfl, rfl, rfl, rfl, trivial⟩, hB9, by rw [List.take_zero]; exact hi8⟩ ?_
  rintro q12 w13 ⟨k, hk16, h14, hB15, hx18⟩
  have hm17 := h14.int (k := 7) (kd := .i64) (z := ((k : Nat) : Int)) rfl
  clear h11 hB9
  refine kS ?_
  refine rp 1 ?_
  refine b0 (.E 0 8 (.bool (decide (((k : Nat) : Int) < ((s.size : Nat) : Int)))) <| .nil) [(8, .bool (decide (((k : Nat) : Int) < ((s.size : Nat) : Int)))), (3, .pointer (some ⟨b5, 0, none⟩)), (6, .int .i64 ((s.size : Nat) : Int)), (7, .int .i64 ((k : Nat) : Int)), (0, .string s)] h14 (Kw.nil hB15) fun q19 h20 => ?_
  clear h14
  refine wpO_end ?_
  refine then_n ?_
  refine kS ?_
  refine kC 8 (decide (((k : Nat) : Int) < ((s.size : Nat) : Int))) h20 (fun hc21 => ?_) (fun hc21 => ?_)
  ·
    have hp22 : (((k : Nat) : Int) < ((s.size : Nat) : Int)) := of_decide_eq_true hc21
    have hlt : (k : Int) < (s.size : Int) := by omega
    have hg := getL hlt
    have hok := hC _ (List.mem_of_getElem? hg)
    have hle := expL_len (s.data.toList.take k)
    rw [List.length_take] at hle
    have hst := expL_take _ _ _ hg
    refine c_skip (by kernel_rfl) ?_
    refine then_n ?_
    refine kS ?_
    refine c_block 1 (by kernel_rfl) ?_
    refine kS ?_
    refine rp 2 ?_
    refine b0 (.C 0 9 <| .C 1 4 <| .nil) [(4, .int .i64 ((k : Nat) : Int)), (8, .bool (decide (((k : Nat) : Int) < ((s.size : Nat) : Int)))), (3, .pointer (some ⟨b5, 0, none⟩)), (6, .int .i64 ((s.size : Nat) : Int)), (7, .int .i64 ((k : Nat) : Int)), (0, .string s)] h20 (Kw.nil hB15) fun q23 h24 => ?_
    clear h20
    refine wpO_end ?_
    refine then_n ?_
    refine kS ?_
    refine rp 4 ?_
    refine b0 (.C 0 10 <| .C 1 11 <| .nil) [(11, .int .i64 ((k : Nat) : Int)), (10, .string s), (4, .int .i64 ((k : Nat) : Int)), (8, .bool (decide (((k : Nat) : Int) < ((s.size : Nat) : Int)))), (3, .pointer (some ⟨b5, 0, none⟩)), (6, .int .i64 ((s.size : Nat) : Int)), (7, .int .i64 ((k : Nat) : Int)), (0, .string s)] h24 (Kw.nil hB15) fun q25 h26 => ?_
    clear h24
    refine eE 2 12 (.index 9 (.tmp 10) (.tmp 11)) 5 (.int .u8 (((chAt s k).toNat : Nat) : Int)) h26 (hr := r_indexS (kd := .i64) (i := k) (b := (chAt s k)) (by kernel_rfl) (by kernel_rfl) (getS hlt) (by kernel_rfl)) fun q27 h28 => ?_
    clear h26
    refine sC 3 13 h28 gok_none (c88 (((chAt s k).toNat : Nat) : Int) w13) ?_
    rintro _ w31 ⟨rfl, hb32⟩
    have hi34 := isB_below hx18 hb32
    have hB33 := hB15.call hb32
    refine ⟨_, rfl, trivial, fun q29 h30 => ?_⟩
    clear h28 hB15 hb32
    refine wpO_end ?_
    have h35 := h30.keep [(13, .bool (digitB (((chAt s k).toNat : Nat) : Int))), (4, .int .i64 ((k : Nat) : Int)), (8, .bool (decide (((k : Nat) : Int) < ((s.size : Nat) : Int)))), (3, .pointer (some ⟨b5, 0, none⟩)), (6, .int .i64 ((s.size : Nat) : Int)), (7, .int .i64 ((k : Nat) : Int)), (0, .string s)] ⟨rfl, rfl, rfl, rfl, rfl, rfl, rfl, trivial⟩
    clear h30
    refine then_n ?_
    refine kC 13 (digitB (((chAt s k).toNat : Nat) : Int)) h35 (fun hc36 => ?_) (fun hc36 => ?_)
    ·
      have hcc := expC_digit _ hc36
      refine rp 4 ?_
      refine b0 (.C 0 14 <| .C 1 15 <| .nil) [(15, .int .i64 ((k : Nat) : Int)), (14, .string s), (13, .bool (digitB (((chAt s k).toNat : Nat) : Int))), (4, .int .i64 ((k : Nat) : Int)), (8, .bool (decide (((k : Nat) : Int) < ((s.size : Nat) : Int)))), (3, .pointer (some ⟨b5, 0, none⟩)), (6, .int .i64 ((s.size : Nat) : Int)), (7, .int .i64 ((k : Nat) : Int)), (0, .string s)] h35 (Kw.nil hB33) fun q37 h38 => ?_
      clear h35
      refine eE 2 16 (.index 9 (.tmp 14) (.tmp 15)) 5 (.int .u8 (((chAt s k).toNat : Nat) : Int)) h38 (hr := r_indexS (kd := .i64) (i := k) (b := (chAt s k)) (by kernel_rfl) (by kernel_rfl) (getS hlt) (by kernel_rfl)) fun q39 h40 => ?_
      clear h38
      refine sC 3 17 h40 gok_none (c103 w.heap.size b5 (Lib.byteCells (expL (s.data.toList.take k))) (((chAt s k).toNat : Nat) : Int) w31 hi34 (by rw [Lib.byteCells_length]; omega) hB33.bel.size) ?_
      rintro _ w43 ⟨rfl, hi46, hb44⟩
      have hB45 := Bx.step0 (Bx.refl w) (hB33.bel.trans hb44)
      refine ⟨_, rfl, trivial, fun q41 h42 => ?_⟩
      clear h40 hB33 hb44
      refine wpO_end ?_
      have h47 := h42.keep [(13, .bool (digitB (((chAt s k).toNat : Nat) : Int))), (4, .int .i64 ((k : Nat) : Int)), (8, .bool (decide (((k : Nat) : Int) < ((s.size : Nat) : Int)))), (3, .pointer (some ⟨b5, 0, none⟩)), (6, .int .i64 ((s.size : Nat) : Int)), (7, .int .i64 ((k : Nat) : Int)), (0, .string s)] ⟨rfl, rfl, rfl, rfl, rfl, rfl, rfl, trivial⟩
      clear h42
      refine inB_n ?_
      refine then_n ?_
      refine rp 2 ?_
      refine b0 (.E 0 26 (.int .i64 (IntKind.i64.wrap (((k : Nat) : Int) + 1))) <| .C 1 7 <| .nil) [(7, .int .i64 (IntKind.i64.wrap (((k : Nat) : Int) + 1))), (13, .bool (digitB (((chAt s k).toNat : Nat) : Int))), (4, .int .i64 ((k : Nat) : Int)), (8, .bool (decide (((k : Nat) : Int) < ((s.size : Nat) : Int)))), (3, .pointer (some ⟨b5, 0, none⟩)), (6, .int .i64 ((s.size : Nat) : Int)), (0, .string s)] h47 (Kw.nil hB45) fun q48 h49 => ?_
      clear h47
      refine wpO_end ?_
      have h50 := h49.keep [(3, .pointer (some ⟨b5, 0, none⟩)), (6, .int .i64 ((s.size : Nat) : Int)), (7, .int .i64 (((k + 1) : Nat) : Int)), (0, .string s)] ⟨rfl, rfl, look_int rfl (wrap_succ (by have := hn; omega)), rfl, trivial⟩
      have hm51 := h50.int (k := 7) (kd := .i64) (z := (((k + 1) : Nat) : Int)) rfl
      refine then_n ⟨⟨k + 1, by omega, h50, hB45, isb_next hst (by rw [hcc]; rfl) hi46⟩, ?_⟩
      show (((s.size : Int)) - intAt _ 7).toNat < (((s.size : Int)) - intAt _ 7).toNat
      rw [hm17, hm51]; omega
    have hsm := expC_letter _ hok hc36
    refine rp 8 ?_
    refine b0 (.C 0 18 <| .C 1 19 <| .nil) [(19, .int .i64 ((k : Nat) : Int)), (18, .string s), (13, .bool (digitB (((chAt s k).toNat : Nat) : Int))), (4, .int .i64 ((k : Nat) : Int)), (8, .bool (decide (((k : Nat) : Int) < ((s.size : Nat) : Int)))), (3, .pointer (some ⟨b5, 0, none⟩)), (6, .int .i64 ((s.size : Nat) : Int)), (7, .int .i64 ((k : Nat) : Int)), (0, .string s)] h35 (Kw.nil hB33) fun q52 h53 => ?_
    clear h35
    refine eE 2 20 (.index 9 (.tmp 18) (.tmp 19)) 5 (.int .u8 (((chAt s k).toNat : Nat) : Int)) h53 (hr := r_indexS (kd := .i64) (i := k) (b := (chAt s k)) (by kernel_rfl) (by kernel_rfl) (getS hlt) (by kernel_rfl)) fun q54 h55 => ?_
    clear h53
    refine b0 (.E 3 21 (.int .u8 (IntKind.u8.wrap ((((chAt s k).toNat : Nat) : Int) - 65))) <| .E 4 22 (.int .i64 (IntKind.i64.wrap (IntKind.u8.wrap ((((chAt s k).toNat : Nat) : Int) - 65)))) <| .nil) [(22, .int .i64 (IntKind.i64.wrap (IntKind.u8.wrap ((((chAt s k).toNat : Nat) : Int) - 65)))), (13, .bool (digitB (((chAt s k).toNat : Nat) : Int))), (4, .int .i64 ((k : Nat) : Int)), (8, .bool (decide (((k : Nat) : Int) < ((s.size : Nat) : Int)))), (3, .pointer (some ⟨b5, 0, none⟩)), (6, .int .i64 ((s.size : Nat) : Int)), (7, .int .i64 ((k : Nat) : Int)), (0, .string s)] h55 (Kw.nil hB33) fun q56 h57 => ?_
    clear h55
    refine eE 5 23 (.binOp .add 3 (.tmp 22) (.const (.int .i64 10)) 3) 3 (.int .i64 (IntKind.i64.wrap ((IntKind.i64.wrap (IntKind.u8.wrap ((((chAt s k).toNat : Nat) : Int) - 65))) + 10))) h57 fun q58 h59 => ?_
    clear h57
    have h60 := h59.keep [(23, .int .i64 (((chAt s k).toNat - 55 : Nat) : Int)), (22, .int .i64 (IntKind.i64.wrap (IntKind.u8.wrap ((((chAt s k).toNat : Nat) : Int) - 65)))), (13, .bool (digitB (((chAt s k).toNat : Nat) : Int))), (4, .int .i64 ((k : Nat) : Int)), (8, .bool (decide (((k : Nat) : Int) < ((s.size : Nat) : Int)))), (3, .pointer (some ⟨b5, 0, none⟩)), (6, .int .i64 ((s.size : Nat) : Int)), (7, .int .i64 ((k : Nat) : Int)), (0, .string s)] ⟨look_int rfl (up_val _ hsm.2.2.1 hsm.2.2.2), rfl, rfl, rfl, rfl, rfl, rfl, rfl, rfl, trivial⟩
    clear h59
    refine sC 6 24 h60 gok_none (c101 ((chAt s k).toNat - 55) hsm.2.1 w31) ?_
    rintro _ w63 ⟨rfl, hb64⟩
    have hi66 := isB_below hi34 hb64
    have hB65 := hB33.call hb64
    refine ⟨_, rfl, trivial, fun q61 h62 => ?_⟩
    clear h60 hB33 hb64
    refine sC 7 25 h62 gok_none (c104 w.heap.size b5 (Lib.byteCells (expL (s.data.toList.take k))) (⟨(Lib.decDigits ((chAt s k).toNat - 55)).toArray⟩ : ByteArray) w63 hi66 (by rw [Lib.byteCells_length]; have := dec_size ((chAt s k).toNat - 55) hsm.2.1; omega) hB65.bel.size) ?_
    rintro _ w69 ⟨rfl, hi72, hb70⟩
    have hB71 := Bx.step0 (Bx.refl w) (hB65.bel.trans hb70)
    refine ⟨_, rfl, trivial, fun q67 h68 => ?_⟩
    clear h62 hB65 hb70
    refine wpO_end ?_
    have h73 := h68.keep [(13, .bool (digitB (((chAt s k).toNat : Nat) : Int))), (4, .int .i64 ((k : Nat) : Int)), (8, .bool (decide (((k : Nat) : Int) < ((s.size : Nat) : Int)))), (3, .pointer (some ⟨b5, 0, none⟩)), (6, .int .i64 ((s.size : Nat) : Int)), (7, .int .i64 ((k : Nat) : Int)), (0, .string s)] ⟨rfl, rfl, rfl, rfl, rfl, rfl, rfl, trivial⟩
    clear h68
    refine inB_n ?_
    refine then_n ?_
    refine rp 2 ?_
    refine b0 (.E 0 26 (.int .i64 (IntKind.i64.wrap (((k : Nat) : Int) + 1))) <| .C 1 7 <| .nil) [(7, .int .i64 (IntKind.i64.wrap (((k : Nat) : Int) + 1))), (13, .bool (digitB (((chAt s k).toNat : Nat) : Int))), (4, .int .i64 ((k : Nat) : Int)), (8, .bool (decide (((k : Nat) : Int) < ((s.size : Nat) : Int)))), (3, .pointer (some ⟨b5, 0, none⟩)), (6, .int .i64 ((s.size : Nat) : Int)), (0, .string s)] h73 (Kw.nil hB71) fun q74 h75 => ?_
    clear h73
    refine wpO_end ?_
    have h76 := h75.keep [(3, .pointer (some ⟨b5, 0, none⟩)), (6, .int .i64 ((s.size : Nat) : Int)), (7, .int .i64 (((k + 1) : Nat) : Int)), (0, .string s)] ⟨rfl, rfl, look_int rfl (wrap_succ (by have := hn; omega)), rfl, trivial⟩
    have hm77 := h76.int (k := 7) (kd := .i64) (z := (((k + 1) : Nat) : Int)) rfl
    refine then_n ⟨⟨k + 1, by omega, h76, hB71, isb_next hst (by rw [← hsm.1]; rfl) hi72⟩, ?_⟩
    show (((s.size : Int)) - intAt _ 7).toNat < (((s.size : Int)) - intAt _ 7).toNat
    rw [hm17, hm77]; omega
  have hp78 : ¬ (((k : Nat) : Int) < ((s.size : Nat) : Int)) := of_decide_eq_false hc21
  have hk_end : s.size ≤ k := by omega
  refine c_exit 0 (by kernel_rfl) ?_
  refine then_e (then_e (inB_hit ?_))
  refine then_n ?_
  refine kS ?_
  refine rp 2 ?_
  refine sC 0 27 h20 gok_none (Tryd.Builder_String_any w.heap.size b5 (expL s.data.toList) w13 (by have := hx18; rwa [List.take_of_length_le (by have := hk_end; have e : s.data.toList.length = s.size := Array.length_toList; omega)] at this) hB15.bel.size) ?_
  rintro _ w81 ⟨rfl, hb82⟩
  have hB83 := Bx.step0 (Bx.refl w) (hB15.bel.trans hb82)
  refine ⟨_, rfl, trivial, fun q79 h80 => ?_⟩
  clear h20 hB15 hb82
  refine b0 (.C 1 2 <| .nil) [(2, .string (⟨(expL s.data.toList).toArray⟩ : ByteArray))] h80 (Kw.nil hB83) fun q84 h85 => ?_
  clear h80
  refine wpO_end ?_
  refine then_n ?_
  refine c_ret (by kernel_rfl) ?_
  refine ret1 (t := 2) (v := .string (⟨(expL s.data.toList).toArray⟩ : ByteArray)) h85 (by kernel_rfl) (by kernel_rfl) ?_
  exact ⟨rfl, hB83.bel⟩

theorem str_at {l : List UInt8} {j : Nat} {b : UInt8} (h : l[j]? = some b) : (⟨l.toArray⟩ : ByteArray)[j]? = some b := by
  obtain ⟨hj, he⟩ := List.getElem?_eq_some_iff.1 h
  have h' : j < (⟨l.toArray⟩ : ByteArray).size := by show j < l.toArray.size; simpa using hj
  rw [getElem?_pos _ j h']
  show some (l.toArray[j]) = some b
  simp [he]

set_option maxHeartbeats 4000000 in
set_option maxRecDepth 20000 in
theorem c89 (s : ByteArray) (w : World) (hn : s.size ≤ 1000) (hC : ∀ c ∈ s.data.toList, okC c = true) : Calls Tryd.prog 89 #[.string s] w (fun e w' => e = .returned (.string ⟨#[UInt8.ofNat (48 + luhnD s.data.toList)]⟩) ∧ Below w.heap.size w w') := by
  have hlen := digs_len s.data.toList hC
  have hxl := expL_len s.data.toList
  rw [show s.data.toList.length = s.size from Array.length_toList] at hxl
  refine enter Tryd.func89 (by kernel_rfl) ?_ (by kernel_rfl)
  intro q0 h0
  replace h0 := h0.conv (l' := [(0, .string s)]) rfl
  have hB := Bx.refl w
  refine kS ?_
  refine rp 1 ?_
  refine b0 (.C 0 2 <| .nil) [(2, .string (⟨#[]⟩ : ByteArray)), (0, .string s)] h0 (Kw.nil hB) fun q1 h2 => ?_
  clear h0
  refine wpO_end ?_
  refine then_n ?_
  refine kS ?_
  refine rp 3 ?_
  refine b0 (.C 0 7 <| .nil) [(7, .string s), (2, .string (⟨#[]⟩ : ByteArray))] h2 (Kw.nil hB) fun q3 h4 => ?_
  clear h2
  refine sC 1 8 h4 gok_none (c100 s w hn hC) ?_
  rintro _ w7 ⟨rfl, hb8⟩
  have hB9 := hB.call hb8
  refine ⟨_, rfl, trivial, fun q5 h6 => ?_⟩
  clear h4 hB hb8
  refine b0 (.C 2 3 <| .nil) [(3, .string (⟨(expL s.data.toList).toArray⟩ : ByteArray)), (2, .string (⟨#[]⟩ : ByteArray))] h6 (Kw.nil hB9) fun q10 h11 => ?_
  clear h6
  refine wpO_end ?_
  refine then_n ?_
  refine kS ?_
  refine rp 1 ?_
  refine b0 (.C 0 4 <| .nil) [(4, .int .i64 0), (3, .string (⟨(expL s.data.toList).toArray⟩ : ByteArray)), (2, .string (⟨#[]⟩ : ByteArray))] h11 (Kw.nil hB9) fun q12 h13 => ?_
  clear h11
  refine wpO_end ?_
  refine then_n ?_
  refine kS ?_
  refine kS ?_
  refine rp 3 ?_
  refine b0 (.C 0 9 <| .nil) [(9, .string (⟨(expL s.data.toList).toArray⟩ : ByteArray)), (4, .int .i64 0), (3, .string (⟨(expL s.data.toList).toArray⟩ : ByteArray)), (2, .string (⟨#[]⟩ : ByteArray))] h13 (Kw.nil hB9) fun q14 h15 => ?_
  clear h13
  refine eE 1 10 (.call { callee := .builtin .len, args := #[.tmp 9], argTypes := #[9] }) 3 (.int .i64 (((⟨(expL s.data.toList).toArray⟩ : ByteArray).size : Nat) : Int)) h15 fun q16 h17 => ?_
  clear h15
  have h18 := h17.keep [(10, .int .i64 (((digs s.data.toList).length : Nat) : Int)), (9, .string (⟨(expL s.data.toList).toArray⟩ : ByteArray)), (4, .int .i64 0), (3, .string (⟨(expL s.data.toList).toArray⟩ : ByteArray)), (2, .string (⟨#[]⟩ : ByteArray))] ⟨look_int rfl (by rw [hlen]; rfl), rfl, rfl, rfl, rfl, trivial⟩
  clear h17
  refine b0 (.C 2 11 <| .nil) [(11, .int .i64 0), (10, .int .i64 (((digs s.data.toList).length : Nat) : Int)), (4, .int .i64 0), (3, .string (⟨(expL s.data.toList).toArray⟩ : ByteArray)), (2, .string (⟨#[]⟩ : ByteArray))] h18 (Kw.nil hB9) fun q19 h20 => ?_
  clear h18
  refine wpO_end ?_
  refine then_n ?_
  refine c_block 0 (by kernel_rfl) ?_
  refine c_loop (by kernel_rfl) (fun qa qw => ∃ k : Nat, (k ≤ (digs s.data.toList).length) ∧ Fr 41 [(3, .string (⟨(expL s.data.toList).toArray⟩ : ByteArray)), (10, .int .i64 (((digs s.data.toList).length : Nat) : Int)), (11, .int .i64 ((k : Nat) : Int)), (4, .int .i64 ((lSum (digs s.data.toList) k : Nat) : Int))] qa ∧ Bx w [] qw) (fun qa _ => ((((digs s.data.toList).length : Int)) - intAt qa 11).toNat) ⟨0, Nat.zero_le _, h20.keep _ ⟨rfl, rfl, rfl, rfl, trivial⟩, hB9⟩ ?_
  rintro q21 w22 ⟨k, hk25, h23, hB24⟩
  have hm26 := h23.int (k := 11) (kd := .i64) (z := ((k : Nat) : Int)) rfl
  clear h20 hB9
  have hS := lSum_le (digs s.data.toList) (digs_lt _ hC) k
  refine kS ?_
  refine rp 1 ?_
  refine b0 (.E 0 12 (.bool (decide (((k : Nat) : Int) < (((digs s.data.toList).length : Nat) : Int)))) <| .nil) [(12, .bool (decide (((k : Nat) : Int) < (((digs s.data.toList).length : Nat) : Int)))), (3, .string (⟨(expL s.data.toList).toArray⟩ : ByteArray)), (10, .int .i64 (((digs s.data.toList).length : Nat) : Int)), (11, .int .i64 ((k : Nat) : Int)), (4, .int .i64 ((lSum (digs s.data.toList) k : Nat) : Int))] h23 (Kw.nil hB24) fun q27 h28 => ?_
  clear h23
  refine wpO_end ?_
  refine then_n ?_
  refine kS ?_
  refine kC 12 (decide (((k : Nat) : Int) < (((digs s.data.toList).length : Nat) : Int))) h28 (fun hc29 => ?_) (fun hc29 => ?_)
  ·
    have hp30 : (((k : Nat) : Int) < (((digs s.data.toList).length : Nat) : Int)) := of_decide_eq_true hc29
    have hlt : k < (digs s.data.toList).length := by omega
    obtain ⟨b, hb1, hd, hb2⟩ := exp_at s.data.toList hC ((digs s.data.toList).length - 1 - k) (by rw [← hlen]; omega)
    refine c_skip (by kernel_rfl) ?_
    refine then_n ?_
    refine kS ?_
    refine c_block 1 (by kernel_rfl) ?_
    refine kS ?_
    refine rp 2 ?_
    refine b0 (.C 0 13 <| .C 1 5 <| .nil) [(5, .int .i64 ((k : Nat) : Int)), (12, .bool (decide (((k : Nat) : Int) < (((digs s.data.toList).length : Nat) : Int)))), (3, .string (⟨(expL s.data.toList).toArray⟩ : ByteArray)), (10, .int .i64 (((digs s.data.toList).length : Nat) : Int)), (11, .int .i64 ((k : Nat) : Int)), (4, .int .i64 ((lSum (digs s.data.toList) k : Nat) : Int))] h28 (Kw.nil hB24) fun q31 h32 => ?_
    clear h28
    refine wpO_end ?_
    refine then_n ?_
    refine kS ?_
    refine rp 10 ?_
    refine b0 (.C 0 14 <| .C 1 15 <| .nil) [(15, .string (⟨(expL s.data.toList).toArray⟩ : ByteArray)), (14, .string (⟨(expL s.data.toList).toArray⟩ : ByteArray)), (5, .int .i64 ((k : Nat) : Int)), (12, .bool (decide (((k : Nat) : Int) < (((digs s.data.toList).length : Nat) : Int)))), (3, .string (⟨(expL s.data.toList).toArray⟩ : ByteArray)), (10, .int .i64 (((digs s.data.toList).length : Nat) : Int)), (11, .int .i64 ((k : Nat) : Int)), (4, .int .i64 ((lSum (digs s.data.toList) k : Nat) : Int))] h32 (Kw.nil hB24) fun q33 h34 => ?_
    clear h32
    refine eE 2 16 (.call { callee := .builtin .len, args := #[.tmp 15], argTypes := #[9] }) 3 (.int .i64 (((⟨(expL s.data.toList).toArray⟩ : ByteArray).size : Nat) : Int)) h34 fun q35 h36 => ?_
    clear h34
    have h37 := h36.keep [(16, .int .i64 (((digs s.data.toList).length : Nat) : Int)), (15, .string (⟨(expL s.data.toList).toArray⟩ : ByteArray)), (14, .string (⟨(expL s.data.toList).toArray⟩ : ByteArray)), (5, .int .i64 ((k : Nat) : Int)), (12, .bool (decide (((k : Nat) : Int) < (((digs s.data.toList).length : Nat) : Int)))), (3, .string (⟨(expL s.data.toList).toArray⟩ : ByteArray)), (10, .int .i64 (((digs s.data.toList).length : Nat) : Int)), (11, .int .i64 ((k : Nat) : Int)), (4, .int .i64 ((lSum (digs s.data.toList) k : Nat) : Int))] ⟨look_int rfl (by rw [hlen]; rfl), rfl, rfl, rfl, rfl, rfl, rfl, rfl, rfl, trivial⟩
    clear h36
    refine b0 (.E 3 17 (.int .i64 (IntKind.i64.wrap ((((digs s.data.toList).length : Nat) : Int) - 1))) <| .C 4 18 <| .nil) [(18, .int .i64 ((k : Nat) : Int)), (17, .int .i64 (IntKind.i64.wrap ((((digs s.data.toList).length : Nat) : Int) - 1))), (14, .string (⟨(expL s.data.toList).toArray⟩ : ByteArray)), (5, .int .i64 ((k : Nat) : Int)), (12, .bool (decide (((k : Nat) : Int) < (((digs s.data.toList).length : Nat) : Int)))), (3, .string (⟨(expL s.data.toList).toArray⟩ : ByteArray)), (10, .int .i64 (((digs s.data.toList).length : Nat) : Int)), (11, .int .i64 ((k : Nat) : Int)), (4, .int .i64 ((lSum (digs s.data.toList) k : Nat) : Int))] h37 (Kw.nil hB24) fun q38 h39 => ?_
    clear h37
    refine eE 5 19 (.binOp .sub 3 (.tmp 17) (.tmp 18) 3) 3 (.int .i64 (IntKind.i64.wrap ((IntKind.i64.wrap ((((digs s.data.toList).length : Nat) : Int) - 1)) - ((k : Nat) : Int)))) h39 fun q40 h41 => ?_
    clear h39
    have h42 := h41.keep [(19, .int .i64 ((((digs s.data.toList).length - 1 - k) : Nat) : Int)), (18, .int .i64 ((k : Nat) : Int)), (17, .int .i64 (IntKind.i64.wrap ((((digs s.data.toList).length : Nat) : Int) - 1))), (14, .string (⟨(expL s.data.toList).toArray⟩ : ByteArray)), (5, .int .i64 ((k : Nat) : Int)), (12, .bool (decide (((k : Nat) : Int) < (((digs s.data.toList).length : Nat) : Int)))), (3, .string (⟨(expL s.data.toList).toArray⟩ : ByteArray)), (10, .int .i64 (((digs s.data.toList).length : Nat) : Int)), (11, .int .i64 ((k : Nat) : Int)), (4, .int .i64 ((lSum (digs s.data.toList) k : Nat) : Int))] ⟨look_int rfl (by rw [wrap_i64 (z := (((digs s.data.toList).length : Nat) : Int) - 1) (by omega) (by omega), wrap_i64 (by omega) (by omega)]; omega), rfl, rfl, rfl, rfl, rfl, rfl, rfl, rfl, rfl, trivial⟩
    clear h41
    refine eE 6 20 (.index 9 (.tmp 14) (.tmp 19)) 5 (.int .u8 ((b.toNat : Nat) : Int)) h42 (hr := r_indexS (kd := .i64) (i := ((digs s.data.toList).length - 1 - k)) (b := b) (by kernel_rfl) (by kernel_rfl) (str_at hb1) (by kernel_rfl)) fun q43 h44 => ?_
    clear h42
    refine b0 (.E 7 21 (.int .u8 (IntKind.u8.wrap (((b.toNat : Nat) : Int) - 48))) <| .nil) [(21, .int .u8 (IntKind.u8.wrap (((b.toNat : Nat) : Int) - 48))), (5, .int .i64 ((k : Nat) : Int)), (12, .bool (decide (((k : Nat) : Int) < (((digs s.data.toList).length : Nat) : Int)))), (3, .string (⟨(expL s.data.toList).toArray⟩ : ByteArray)), (10, .int .i64 (((digs s.data.toList).length : Nat) : Int)), (11, .int .i64 ((k : Nat) : Int)), (4, .int .i64 ((lSum (digs s.data.toList) k : Nat) : Int))] h44 (Kw.nil hB24) fun q45 h46 => ?_
    clear h44
    refine eE 8 22 (.convert 5 3 (.tmp 21)) 3 (.int .i64 (IntKind.i64.wrap (IntKind.u8.wrap (((b.toNat : Nat) : Int) - 48)))) h46 fun q47 h48 => ?_
    clear h46
    have h49 := h48.keep [(22, .int .i64 (((digs s.data.toList).getD ((digs s.data.toList).length - 1 - k) 0 : Nat) : Int)), (21, .int .u8 (IntKind.u8.wrap (((b.toNat : Nat) : Int) - 48))), (5, .int .i64 ((k : Nat) : Int)), (12, .bool (decide (((k : Nat) : Int) < (((digs s.data.toList).length : Nat) : Int)))), (3, .string (⟨(expL s.data.toList).toArray⟩ : ByteArray)), (10, .int .i64 (((digs s.data.toList).length : Nat) : Int)), (11, .int .i64 ((k : Nat) : Int)), (4, .int .i64 ((lSum (digs s.data.toList) k : Nat) : Int))] ⟨look_int rfl hb2, rfl, rfl, rfl, rfl, rfl, rfl, rfl, trivial⟩
    clear h48
    refine b0 (.C 9 6 <| .nil) [(6, .int .i64 (((digs s.data.toList).getD ((digs s.data.toList).length - 1 - k) 0 : Nat) : Int)), (5, .int .i64 ((k : Nat) : Int)), (12, .bool (decide (((k : Nat) : Int) < (((digs s.data.toList).length : Nat) : Int)))), (3, .string (⟨(expL s.data.toList).toArray⟩ : ByteArray)), (10, .int .i64 (((digs s.data.toList).length : Nat) : Int)), (11, .int .i64 ((k : Nat) : Int)), (4, .int .i64 ((lSum (digs s.data.toList) k : Nat) : Int))] h49 (Kw.nil hB24) fun q50 h51 => ?_
    clear h49
    refine wpO_end ?_
    refine then_n ?_
    refine kS ?_
    refine kS ?_
    refine rp 3 ?_
    refine b0 (.C 0 23 <| .E 1 24 (.int .i64 (Int.tmod ((k : Nat) : Int) (2 : Int))) <| .E 2 25 (.bool (Int.tmod ((k : Nat) : Int) (2 : Int) == (0 : Int))) <| .nil) [(25, .bool (Int.tmod ((k : Nat) : Int) (2 : Int) == (0 : Int))), (6, .int .i64 (((digs s.data.toList).getD ((digs s.data.toList).length - 1 - k) 0 : Nat) : Int)), (5, .int .i64 ((k : Nat) : Int)), (12, .bool (decide (((k : Nat) : Int) < (((digs s.data.toList).length : Nat) : Int)))), (3, .string (⟨(expL s.data.toList).toArray⟩ : ByteArray)), (10, .int .i64 (((digs s.data.toList).length : Nat) : Int)), (11, .int .i64 ((k : Nat) : Int)), (4, .int .i64 ((lSum (digs s.data.toList) k : Nat) : Int))] h51 (Kw.nil hB24) fun q52 h53 => ?_
    clear h51
    refine wpO_end ?_
    refine then_n ?_
    refine kC 25 (Int.tmod ((k : Nat) : Int) (2 : Int) == (0 : Int)) h53 (fun hc54 => ?_) (fun hc54 => ?_)
    ·
      have hpar := hc54
      rw [par_eq] at hpar
      refine rp 3 ?_
      refine b0 (.C 0 26 <| .E 1 27 (.int .i64 (IntKind.i64.wrap ((((digs s.data.toList).getD ((digs s.data.toList).length - 1 - k) 0 : Nat) : Int) * 2))) <| .C 2 6 <| .nil) [(6, .int .i64 (IntKind.i64.wrap ((((digs s.data.toList).getD ((digs s.data.toList).length - 1 - k) 0 : Nat) : Int) * 2))), (25, .bool (Int.tmod ((k : Nat) : Int) (2 : Int) == (0 : Int))), (5, .int .i64 ((k : Nat) : Int)), (12, .bool (decide (((k : Nat) : Int) < (((digs s.data.toList).length : Nat) : Int)))), (3, .string (⟨(expL s.data.toList).toArray⟩ : ByteArray)), (10, .int .i64 (((digs s.data.toList).length : Nat) : Int)), (11, .int .i64 ((k : Nat) : Int)), (4, .int .i64 ((lSum (digs s.data.toList) k : Nat) : Int))] h53 (Kw.nil hB24) fun q55 h56 => ?_
      clear h53
      refine wpO_end ?_
      refine then_n ?_
      refine rp 8 ?_
      refine b0 (.C 0 28 <| .C 1 29 <| .E 2 30 (.int .i64 (IntKind.i64.wrap (Int.tdiv (IntKind.i64.wrap ((((digs s.data.toList).getD ((digs s.data.toList).length - 1 - k) 0 : Nat) : Int) * 2)) (10 : Int)))) <| .C 3 31 <| .E 4 32 (.int .i64 (Int.tmod (IntKind.i64.wrap ((((digs s.data.toList).getD ((digs s.data.toList).length - 1 - k) 0 : Nat) : Int) * 2)) (10 : Int))) <| .E 5 33 (.int .i64 (IntKind.i64.wrap ((IntKind.i64.wrap (Int.tdiv (IntKind.i64.wrap ((((digs s.data.toList).getD ((digs s.data.toList).length - 1 - k) 0 : Nat) : Int) * 2)) (10 : Int))) + (Int.tmod (IntKind.i64.wrap ((((digs s.data.toList).getD ((digs s.data.toList).length - 1 - k) 0 : Nat) : Int) * 2)) (10 : Int))))) <| .E 6 34 (.int .i64 (IntKind.i64.wrap (((lSum (digs s.data.toList) k : Nat) : Int) + (IntKind.i64.wrap ((IntKind.i64.wrap (Int.tdiv (IntKind.i64.wrap ((((digs s.data.toList).getD ((digs s.data.toList).length - 1 - k) 0 : Nat) : Int) * 2)) (10 : Int))) + (Int.tmod (IntKind.i64.wrap ((((digs s.data.toList).getD ((digs s.data.toList).length - 1 - k) 0 : Nat) : Int) * 2)) (10 : Int))))))) <| .C 7 4 <| .nil) [(4, .int .i64 (IntKind.i64.wrap (((lSum (digs s.data.toList) k : Nat) : Int) + (IntKind.i64.wrap ((IntKind.i64.wrap (Int.tdiv (IntKind.i64.wrap ((((digs s.data.toList).getD ((digs s.data.toList).length - 1 - k) 0 : Nat) : Int) * 2)) (10 : Int))) + (Int.tmod (IntKind.i64.wrap ((((digs s.data.toList).getD ((digs s.data.toList).length - 1 - k) 0 : Nat) : Int) * 2)) (10 : Int))))))), (6, .int .i64 (IntKind.i64.wrap ((((digs s.data.toList).getD ((digs s.data.toList).length - 1 - k) 0 : Nat) : Int) * 2))), (25, .bool (Int.tmod ((k : Nat) : Int) (2 : Int) == (0 : Int))), (5, .int .i64 ((k : Nat) : Int)), (12, .bool (decide (((k : Nat) : Int) < (((digs s.data.toList).length : Nat) : Int)))), (3, .string (⟨(expL s.data.toList).toArray⟩ : ByteArray)), (10, .int .i64 (((digs s.data.toList).length : Nat) : Int)), (11, .int .i64 ((k : Nat) : Int))] h56 (Kw.nil hB24) fun q57 h58 => ?_
      clear h56
      refine wpO_end ?_
      refine inB_n ?_
      refine then_n ?_
      refine rp 2 ?_
      refine b0 (.E 0 35 (.int .i64 (IntKind.i64.wrap (((k : Nat) : Int) + 1))) <| .C 1 11 <| .nil) [(11, .int .i64 (IntKind.i64.wrap (((k : Nat) : Int) + 1))), (4, .int .i64 (IntKind.i64.wrap (((lSum (digs s.data.toList) k : Nat) : Int) + (IntKind.i64.wrap ((IntKind.i64.wrap (Int.tdiv (IntKind.i64.wrap ((((digs s.data.toList).getD ((digs s.data.toList).length - 1 - k) 0 : Nat) : Int) * 2)) (10 : Int))) + (Int.tmod (IntKind.i64.wrap ((((digs s.data.toList).getD ((digs s.data.toList).length - 1 - k) 0 : Nat) : Int) * 2)) (10 : Int))))))), (6, .int .i64 (IntKind.i64.wrap ((((digs s.data.toList).getD ((digs s.data.toList).length - 1 - k) 0 : Nat) : Int) * 2))), (25, .bool (Int.tmod ((k : Nat) : Int) (2 : Int) == (0 : Int))), (5, .int .i64 ((k : Nat) : Int)), (12, .bool (decide (((k : Nat) : Int) < (((digs s.data.toList).length : Nat) : Int)))), (3, .string (⟨(expL s.data.toList).toArray⟩ : ByteArray)), (10, .int .i64 (((digs s.data.toList).length : Nat) : Int))] h58 (Kw.nil hB24) fun q59 h60 => ?_
      clear h58
      refine wpO_end ?_
      have h61 := h60.keep [(3, .string (⟨(expL s.data.toList).toArray⟩ : ByteArray)), (10, .int .i64 (((digs s.data.toList).length : Nat) : Int)), (11, .int .i64 (((k + 1) : Nat) : Int)), (4, .int .i64 ((lSum (digs s.data.toList) (k + 1) : Nat) : Int))] ⟨rfl, rfl, look_int rfl (wrap_succ (by have := hlen; have := hxl; omega)), look_int rfl (l_round k _ _ (IntKind.i64.wrap ((((digs s.data.toList).getD ((digs s.data.toList).length - 1 - k) 0 : Nat) : Int) * 2)) ⟨fun _ => (by rw [wrap_i64 (by omega) (by omega)]; omega), fun hh => absurd (by simpa using hpar) hh⟩ hd hS (by have := hlen; have := hxl; omega)), trivial⟩
      have hm62 := h61.int (k := 11) (kd := .i64) (z := (((k + 1) : Nat) : Int)) rfl
      refine then_n ⟨⟨k + 1, by omega, h61, hB24⟩, ?_⟩
      show ((((digs s.data.toList).length : Int)) - intAt _ 11).toNat < ((((digs s.data.toList).length : Int)) - intAt _ 11).toNat
      rw [hm26, hm62]; omega
    have hpar := hc54
    rw [par_eq] at hpar
    refine c_skip (by kernel_rfl) ?_
    refine then_n ?_
    refine rp 8 ?_
    refine b0 (.C 0 28 <| .C 1 29 <| .E 2 30 (.int .i64 (IntKind.i64.wrap (Int.tdiv (((digs s.data.toList).getD ((digs s.data.toList).length - 1 - k) 0 : Nat) : Int) (10 : Int)))) <| .C 3 31 <| .E 4 32 (.int .i64 (Int.tmod (((digs s.data.toList).getD ((digs s.data.toList).length - 1 - k) 0 : Nat) : Int) (10 : Int))) <| .E 5 33 (.int .i64 (IntKind.i64.wrap ((IntKind.i64.wrap (Int.tdiv (((digs s.data.toList).getD ((digs s.data.toList).length - 1 - k) 0 : Nat) : Int) (10 : Int))) + (Int.tmod (((digs s.data.toList).getD ((digs s.data.toList).length - 1 - k) 0 : Nat) : Int) (10 : Int))))) <| .E 6 34 (.int .i64 (IntKind.i64.wrap (((lSum (digs s.data.toList) k : Nat) : Int) + (IntKind.i64.wrap ((IntKind.i64.wrap (Int.tdiv (((digs s.data.toList).getD ((digs s.data.toList).length - 1 - k) 0 : Nat) : Int) (10 : Int))) + (Int.tmod (((digs s.data.toList).getD ((digs s.data.toList).length - 1 - k) 0 : Nat) : Int) (10 : Int))))))) <| .C 7 4 <| .nil) [(4, .int .i64 (IntKind.i64.wrap (((lSum (digs s.data.toList) k : Nat) : Int) + (IntKind.i64.wrap ((IntKind.i64.wrap (Int.tdiv (((digs s.data.toList).getD ((digs s.data.toList).length - 1 - k) 0 : Nat) : Int) (10 : Int))) + (Int.tmod (((digs s.data.toList).getD ((digs s.data.toList).length - 1 - k) 0 : Nat) : Int) (10 : Int))))))), (25, .bool (Int.tmod ((k : Nat) : Int) (2 : Int) == (0 : Int))), (6, .int .i64 (((digs s.data.toList).getD ((digs s.data.toList).length - 1 - k) 0 : Nat) : Int)), (5, .int .i64 ((k : Nat) : Int)), (12, .bool (decide (((k : Nat) : Int) < (((digs s.data.toList).length : Nat) : Int)))), (3, .string (⟨(expL s.data.toList).toArray⟩ : ByteArray)), (10, .int .i64 (((digs s.data.toList).length : Nat) : Int)), (11, .int .i64 ((k : Nat) : Int))] h53 (Kw.nil hB24) fun q63 h64 => ?_
    clear h53
    refine wpO_end ?_
    refine inB_n ?_
    refine then_n ?_
    refine rp 2 ?_
    refine b0 (.E 0 35 (.int .i64 (IntKind.i64.wrap (((k : Nat) : Int) + 1))) <| .C 1 11 <| .nil) [(11, .int .i64 (IntKind.i64.wrap (((k : Nat) : Int) + 1))), (4, .int .i64 (IntKind.i64.wrap (((lSum (digs s.data.toList) k : Nat) : Int) + (IntKind.i64.wrap ((IntKind.i64.wrap (Int.tdiv (((digs s.data.toList).getD ((digs s.data.toList).length - 1 - k) 0 : Nat) : Int) (10 : Int))) + (Int.tmod (((digs s.data.toList).getD ((digs s.data.toList).length - 1 - k) 0 : Nat) : Int) (10 : Int))))))), (25, .bool (Int.tmod ((k : Nat) : Int) (2 : Int) == (0 : Int))), (6, .int .i64 (((digs s.data.toList).getD ((digs s.data.toList).length - 1 - k) 0 : Nat) : Int)), (5, .int .i64 ((k : Nat) : Int)), (12, .bool (decide (((k : Nat) : Int) < (((digs s.data.toList).length : Nat) : Int)))), (3, .string (⟨(expL s.data.toList).toArray⟩ : ByteArray)), (10, .int .i64 (((digs s.data.toList).length : Nat) : Int))] h64 (Kw.nil hB24) fun q65 h66 => ?_
    clear h64
    refine wpO_end ?_
    have h67 := h66.keep [(3, .string (⟨(expL s.data.toList).toArray⟩ : ByteArray)), (10, .int .i64 (((digs s.data.toList).length : Nat) : Int)), (11, .int .i64 (((k + 1) : Nat) : Int)), (4, .int .i64 ((lSum (digs s.data.toList) (k + 1) : Nat) : Int))] ⟨rfl, rfl, look_int rfl (wrap_succ (by have := hlen; have := hxl; omega)), look_int rfl (l_round k _ _ ((((digs s.data.toList).getD ((digs s.data.toList).length - 1 - k) 0 : Nat) : Int)) ⟨fun hh => (by rw [hh] at hpar; cases hpar), fun _ => rfl⟩ hd hS (by have := hlen; have := hxl; omega)), trivial⟩
    have hm68 := h67.int (k := 11) (kd := .i64) (z := (((k + 1) : Nat) : Int)) rfl
    refine then_n ⟨⟨k + 1, by omega, h67, hB24⟩, ?_⟩
    show ((((digs s.data.toList).length : Int)) - intAt _ 11).toNat < ((((digs s.data.toList).length : Int)) - intAt _ 11).toNat
    rw [hm26, hm68]; omega
  have hp69 : ¬ (((k : Nat) : Int) < (((digs s.data.toList).length : Nat) : Int)) := of_decide_eq_false hc29
  obtain rfl : k = (digs s.data.toList).length := by omega
  refine c_exit 0 (by kernel_rfl) ?_
  refine then_e (then_e (inB_hit ?_))
  refine then_n ?_
  refine kS ?_
  refine rp 6 ?_
  refine b0 (.C 0 36 <| .E 1 37 (.int .i64 (Int.tmod ((lSum (digs s.data.toList) (digs s.data.toList).length : Nat) : Int) (10 : Int))) <| .E 2 38 (.int .i64 (IntKind.i64.wrap (10 - (Int.tmod ((lSum (digs s.data.toList) (digs s.data.toList).length : Nat) : Int) (10 : Int))))) <| .nil) [(38, .int .i64 (IntKind.i64.wrap (10 - (Int.tmod ((lSum (digs s.data.toList) (digs s.data.toList).length : Nat) : Int) (10 : Int)))))] h28 (Kw.nil hB24) fun q70 h71 => ?_
  clear h28
  refine eE 3 39 (.binOp .rem 3 (.tmp 38) (.const (.int .i64 10)) 3) 3 (.int .i64 (Int.tmod (IntKind.i64.wrap (10 - (Int.tmod ((lSum (digs s.data.toList) (digs s.data.toList).length : Nat) : Int) (10 : Int)))) (10 : Int))) h71 fun q72 h73 => ?_
  clear h71
  have h74 := h73.keep [(39, .int .i64 ((luhnD s.data.toList : Nat) : Int)), (38, .int .i64 (IntKind.i64.wrap (10 - (Int.tmod ((lSum (digs s.data.toList) (digs s.data.toList).length : Nat) : Int) (10 : Int)))))] ⟨look_int rfl (luhn_end _ (by have := hlen; have := hxl; omega)), rfl, trivial⟩
  clear h73
  refine sC 4 40 h74 gok_none (c101 (luhnD s.data.toList) (Nat.lt_of_lt_of_le (luhnD_lt _) (by omega)) w22) ?_
  rintro _ w77 ⟨rfl, hb78⟩
  have hB79 := hB24.call hb78
  refine ⟨_, rfl, trivial, fun q75 h76 => ?_⟩
  clear h74 hB24 hb78
  refine b0 (.C 5 2 <| .nil) [(2, .string (⟨(Lib.decDigits (luhnD s.data.toList)).toArray⟩ : ByteArray))] h76 (Kw.nil hB79) fun q80 h81 => ?_
  clear h76
  refine wpO_end ?_
  refine then_n ?_
  refine c_ret (by kernel_rfl) ?_
  refine ret1 (t := 2) (v := .string (⟨(Lib.decDigits (luhnD s.data.toList)).toArray⟩ : ByteArray)) h81 (by kernel_rfl) (by kernel_rfl) ?_
  exact ⟨by rw [decDigits_one _ (luhnD_lt _)], hB79.bel⟩

end Go.Proofs.YtljegdokbifoiaaDoor.Af
