/- A payment's check, in both packages. Short lists of links. Lists of instructions, as cells, and the check of all payments. No condition. The check of all payments. At most 5000. -/
import Derived.Test.YtljegdokbifoiaaGreatDoorZzLc
import Derived.Test.YtljegdokbifoiaaGreatDoorZzAt
import Derived.Test.YtljegdokbifoiaaGreatDoorZzOw
namespace Go.Proofs.YtljegdokbifoiaaGreatDoor.Af
open Go.RowKit
def payE (i : Ins) : Int := bif (chkI i == 0) && (i.kind != 0) then 11 else chkI i
def payR (i : Ins) : Int := bif refI i != 0 then refI i else bif i.kind != 0 then 11 else 0
theorem pay_ref (i : Ins) : payE i = payR i := by
  unfold payE payR
  rw [chk_ref]
  cases h : refI i != 0 with
  | true => rw [show (refI i == 0) = false by simpa using h]; rfl
  | false =>
    have h0 : refI i = 0 := by simpa using h
    rw [h0]
    cases i.kind != 0 <;> rfl

set_option maxHeartbeats 4000000 in
set_option maxRecDepth 20000 in
theorem p52 (i : Ins) (A : Option Addr) (c : Nat) (w : World) (hn : i.links.length ≤ 4611686018427387904) (hc : i.links.length ≤ c) (hr : Rd w A (lkc i.links)) : Calls Tryz.prog 52 #[insV i A c] w fun e w' => e = .returned (.int .i64 (payE i)) ∧ Below w.heap.size w w' := by
  refine enter Tryz.func52 (by kernel_rfl) ?_ (by kernel_rfl)
  intro q0 h0
  replace h0 := h0.conv (l' := [(0, insV i A c)]) rfl
  have hB := Bx.refl w
  refine kS ?_
  refine rp 2 ?_
  refine sA 0 1 (fun b => .pointer (some ⟨b, 0, none⟩)) (.cells (insV i A c).cells 30 (0, 0)) h0 gok_none hB (fun _ _ hq => trivial) (fun b3 w4 hB5 hN q1 h2 => ?_)
  clear h0 hB hN
  refine b0 (.C 1 2 <| .nil) [(2, .int .i64 0), (1, .pointer (some ⟨b3, 0, none⟩))] h2 (Kw.nil hB5) fun q6 h7 => ?_
  clear h2
  refine wpO_end ?_
  refine then_n ?_
  refine kS ?_
  refine rp 3 ?_
  refine b0 (.S 0 4 0 0 16 <| .nil) [(4, insV i A c), (2, .int .i64 0), (1, .pointer (some ⟨b3, 0, none⟩))] h7 (Kw.nil hB5) fun q8 h9 => ?_
  clear h7
  refine sC 1 5 h9 gok_none (c14 i A c w4 (show i.links.length ≤ 4611686018427387904 by omega) (by omega) (hr.below hB5.bel)) ?_
  rintro _ w12 ⟨rfl, hb13⟩
  have hB14 := hB5.call hb13
  refine ⟨_, rfl, trivial, fun q10 h11 => ?_⟩
  clear h9 hB5 hb13
  refine b0 (.C 2 3 <| .nil) [(3, .int .i64 (chkI i)), (2, .int .i64 0), (1, .pointer (some ⟨b3, 0, none⟩))] h11 (Kw.nil hB14) fun q15 h16 => ?_
  clear h11
  refine wpO_end ?_
  refine then_n ?_
  refine kS ?_
  refine kS ?_
  refine rp 7 ?_
  refine b0 (.C 0 6 <| .E 1 7 (.bool (chkI i == (0 : Int))) <| .C 2 8 <| .J 6 12 8 11 true (chkI i == (0 : Int)) (i.kind != (0 : Int)) (.C 3 9 <| .L 4 10 0 1 <| .E 5 11 (.bool (i.kind != (0 : Int))) <| .nil) <| .nil) [(12, .bool ((chkI i == (0 : Int)) && (i.kind != (0 : Int)))), (3, .int .i64 (chkI i)), (2, .int .i64 0)] h16 (Kw.nil hB14) fun q17 h18 => ?_
  clear h16
  refine wpO_end ?_
  refine then_n ?_
  refine kC 12 ((chkI i == (0 : Int)) && (i.kind != (0 : Int))) h18 (fun hc19 => ?_) (fun hc19 => ?_)
  ·
    refine kS ?_
    refine rp 1 ?_
    refine b0 (.C 0 2 <| .nil) [(2, .int .i64 11), (3, .int .i64 (chkI i))] h18 (Kw.nil hB14) fun q20 h21 => ?_
    clear h18
    refine wpO_end ?_
    refine then_n ?_
    refine c_ret (by kernel_rfl) ?_
    refine then_r ?_
    refine ret1 (t := 2) (v := .int .i64 11) h21 (by kernel_rfl) (by kernel_rfl) ?_
    exact ⟨ret_eq (congrArg (Value.int .i64) (show payE i = 11 from cT hc19).symm), hB14.bel⟩
  refine c_skip (by kernel_rfl) ?_
  refine then_n ?_
  refine kS ?_
  refine rp 2 ?_
  refine b0 (.C 0 13 <| .C 1 2 <| .nil) [(2, .int .i64 (chkI i))] h18 (Kw.nil hB14) fun q22 h23 => ?_
  clear h18
  refine wpO_end ?_
  refine then_n ?_
  refine c_ret (by kernel_rfl) ?_
  refine ret1 (t := 2) (v := .int .i64 (chkI i)) h23 (by kernel_rfl) (by kernel_rfl) ?_
  exact ⟨ret_eq (congrArg (Value.int .i64) (show payE i = chkI i from cF hc19).symm), hB14.bel⟩

set_option maxHeartbeats 4000000 in
set_option maxRecDepth 20000 in
theorem p33 (i : Ins) (A : Option Addr) (c : Nat) (w : World) (hn : i.links.length ≤ 4611686018427387904) (hr : Rd w A (lkc i.links)) : Calls Tryz.prog 33 #[insV i A c] w fun e w' => e = .returned (.int .i64 (payR i)) ∧ Below w.heap.size w w' := by
  refine enter Tryz.func33 (by kernel_rfl) ?_ (by kernel_rfl)
  intro q0 h0
  replace h0 := h0.conv (l' := [(0, insV i A c)]) rfl
  have hB := Bx.refl w
  refine kS ?_
  refine rp 2 ?_
  refine sA 0 1 (fun b => .pointer (some ⟨b, 0, none⟩)) (.cells (insV i A c).cells 50 (0, 0)) h0 gok_none hB (fun _ _ hq => trivial) (fun b3 w4 hB5 hN q1 h2 => ?_)
  clear h0 hB hN
  refine b0 (.C 1 2 <| .nil) [(2, .int .i64 0), (1, .pointer (some ⟨b3, 0, none⟩))] h2 (Kw.nil hB5) fun q6 h7 => ?_
  clear h2
  refine wpO_end ?_
  refine then_n ?_
  refine kS ?_
  refine kS ?_
  refine rp 3 ?_
  refine b0 (.S 0 4 0 0 16 <| .nil) [(4, insV i A c), (2, .int .i64 0), (1, .pointer (some ⟨b3, 0, none⟩))] h7 (Kw.nil hB5) fun q8 h9 => ?_
  clear h7
  refine sC 1 5 h9 gok_none (c15 i A c w4 (show i.links.length ≤ 4611686018427387904 by omega) (hr.below hB5.bel)) ?_
  rintro _ w12 ⟨rfl, hb13⟩
  have hB14 := hB5.call hb13
  refine ⟨_, rfl, trivial, fun q10 h11 => ?_⟩
  clear h9 hB5 hb13
  refine b0 (.C 2 3 <| .nil) [(3, .int .i64 (refI i)), (2, .int .i64 0), (1, .pointer (some ⟨b3, 0, none⟩))] h11 (Kw.nil hB14) fun q15 h16 => ?_
  clear h11
  refine wpO_end ?_
  refine then_n ?_
  refine kS ?_
  refine rp 2 ?_
  refine b0 (.C 0 6 <| .E 1 7 (.bool (refI i != (0 : Int))) <| .nil) [(7, .bool (refI i != (0 : Int))), (3, .int .i64 (refI i)), (2, .int .i64 0), (1, .pointer (some ⟨b3, 0, none⟩))] h16 (Kw.nil hB14) fun q17 h18 => ?_
  clear h16
  refine wpO_end ?_
  refine then_n ?_
  refine kC 7 (refI i != (0 : Int)) h18 (fun hc19 => ?_) (fun hc19 => ?_)
  ·
    refine kS ?_
    refine rp 2 ?_
    refine b0 (.C 0 8 <| .C 1 2 <| .nil) [(2, .int .i64 (refI i)), (1, .pointer (some ⟨b3, 0, none⟩))] h18 (Kw.nil hB14) fun q20 h21 => ?_
    clear h18
    refine wpO_end ?_
    refine then_n ?_
    refine c_ret (by kernel_rfl) ?_
    refine then_r ?_
    refine ret1 (t := 2) (v := .int .i64 (refI i)) h21 (by kernel_rfl) (by kernel_rfl) ?_
    exact ⟨ret_eq (congrArg (Value.int .i64) (show payR i = refI i from cT hc19).symm), hB14.bel⟩
  refine c_skip (by kernel_rfl) ?_
  refine then_n ?_
  refine kS ?_
  refine kS ?_
  refine rp 3 ?_
  refine b0 (.C 0 9 <| .L 1 10 0 1 <| .E 2 11 (.bool (i.kind != (0 : Int))) <| .nil) [(11, .bool (i.kind != (0 : Int))), (2, .int .i64 0)] h18 (Kw.nil hB14) fun q22 h23 => ?_
  clear h18
  refine wpO_end ?_
  refine then_n ?_
  refine kC 11 (i.kind != (0 : Int)) h23 (fun hc24 => ?_) (fun hc24 => ?_)
  ·
    refine kS ?_
    refine rp 1 ?_
    refine b0 (.C 0 2 <| .nil) [(2, .int .i64 11)] h23 (Kw.nil hB14) fun q25 h26 => ?_
    clear h23
    refine wpO_end ?_
    refine then_n ?_
    refine c_ret (by kernel_rfl) ?_
    refine then_r ?_
    refine ret1 (t := 2) (v := .int .i64 11) h26 (by kernel_rfl) (by kernel_rfl) ?_
    exact ⟨ret_eq (congrArg (Value.int .i64) (show payR i = 11 from (cF hc19).trans (cT hc24)).symm), hB14.bel⟩
  refine c_skip (by kernel_rfl) ?_
  refine then_n ?_
  refine kS ?_
  refine rp 1 ?_
  refine b0 (.C 0 2 <| .nil) [(2, .int .i64 0)] h23 (Kw.nil hB14) fun q27 h28 => ?_
  clear h23
  refine wpO_end ?_
  refine then_n ?_
  refine c_ret (by kernel_rfl) ?_
  refine ret1 (t := 2) (v := .int .i64 0) h28 (by kernel_rfl) (by kernel_rfl) ?_
  exact ⟨ret_eq (congrArg (Value.int .i64) (show payR i = 0 from (cF hc19).trans (cF hc24)).symm), hB14.bel⟩

end Go.Proofs.YtljegdokbifoiaaGreatDoor.Af

namespace Go.Proofs.YtljegdokbifoiaaGreatDoor.Af
open Go.RowKit

abbrev InA := Ins × Option Addr × Nat
def inC (p : InA) : List Value := (insV p.1 p.2.1 p.2.2).cells.toList
def insc (l : List InA) : List Value := l.flatMap inC
theorem inC_length (p : InA) : (inC p).length = 16 := rfl
theorem insc_length (l : List InA) : (insc l).length = l.length * 16 := by
  induction l with
  | nil => rfl
  | cons x l ih => simp only [insc, List.flatMap_cons, List.length_append, List.length_cons, inC_length] at ih ⊢; omega
theorem insc_el (l : List InA) (k : Nat) (x : InA) (h : l[k]? = some x) : ∀ j u, (inC x)[j]? = some u → (insc l)[k * 16 + j]? = some u := by
  induction l generalizing k with
  | nil => simp at h
  | cons y l ih =>
    intro j u hj
    have hjl : j < 16 := by
      have := (List.getElem?_eq_some_iff.1 hj).1
      rwa [inC_length] at this
    simp only [insc, List.flatMap_cons]
    cases k with
    | zero =>
      simp only [List.getElem?_cons_zero, Option.some.injEq] at h
      subst h
      rw [List.getElem?_append_left (by rw [inC_length]; omega), Nat.zero_mul, Nat.zero_add]
      exact hj
    | succ k =>
      rw [List.getElem?_cons_succ] at h
      rw [List.getElem?_append_right (by rw [inC_length]; omega), inC_length, show (k + 1) * 16 + j - 16 = k * 16 + j by omega]
      exact ih k h j u hj
/-- Each instruction's links are read. -/
def Lr (w : World) (l : List InA) : Prop := ∀ p ∈ l, p.1.links.length ≤ p.2.2 ∧ p.1.links.length ≤ 1000 ∧ Rd w p.2.1 (lkc p.1.links)
theorem Lr.below {w w' : World} {l : List InA} (h : Lr w l) (hb : Below w.heap.size w w') : Lr w' l := fun p hp => ⟨(h p hp).1, (h p hp).2.1, (h p hp).2.2.below hb⟩
def minT (x : Int) : Int := if (1000000000000001 : Int) < x then 1000000000000001 else x
def goA : List Ins → Int → Int
  | [], t => bif decide ((1000000000000000 : Int) < t) then 12 else 0
  | i :: r, t => bif payE i != 0 then payE i else goA r (minT (IntKind.i64.wrap (t + i.amt)))
def allE (l : List Ins) : Int := bif decide ((4096 : Int) < ((l.length : Nat) : Int)) then 8 else goA l 0
theorem goA_at (l : List InA) (k : Nat) (x : InA) (t : Int) (h : l[k]? = some x) : goA ((l.drop k).map (·.1)) t = bif payE x.1 != 0 then payE x.1 else goA ((l.drop (k + 1)).map (·.1)) (minT (IntKind.i64.wrap (t + x.1.amt))) := by
  have hlt := (List.getElem?_eq_some_iff.1 h).1
  have he := (List.getElem?_eq_some_iff.1 h).2
  rw [List.drop_eq_getElem_cons hlt, he]
  rfl
theorem goA_end (l : List InA) (k : Nat) (t : Int) (h : l.length ≤ k) : goA ((l.drop k).map (·.1)) t = bif decide ((1000000000000000 : Int) < t) then 12 else 0 := by
  rw [List.drop_of_length_le h]
  rfl
end Go.Proofs.YtljegdokbifoiaaGreatDoor.Af

namespace Go.Proofs.YtljegdokbifoiaaGreatDoor.Af
open Go.RowKit
set_option maxHeartbeats 4000000 in
set_option maxRecDepth 20000 in
theorem p39 (l : List InA) (A : Option Addr) (c : Nat) (w : World) (hn : l.length ≤ 5000) (hr : Rd w A (insc l)) (hl : Lr w l) : Calls Tryz.prog 39 #[.slice A l.length c] w fun e w' => e = .returned (.int .i64 (allE (l.map (·.1)))) ∧ Below w.heap.size w w' := by
  refine enter Tryz.func39 (by kernel_rfl) ?_ (by kernel_rfl)
  intro q0 h0
  replace h0 := h0.conv (l' := [(0, .slice A l.length c)]) rfl
  have hB := Bx.refl w
  refine kS ?_
  refine rp 1 ?_
  refine b0 (.C 0 2 <| .nil) [(2, .int .i64 0), (0, .slice A l.length c)] h0 (Kw.nil hB) fun q1 h2 => ?_
  clear h0
  refine wpO_end ?_
  refine then_n ?_
  refine kS ?_
  refine kS ?_
  refine rp 3 ?_
  refine b0 (.C 0 7 <| .E 1 8 (.int .i64 ((l.length : Nat) : Int)) <| .E 2 9 (.bool (decide ((4096 : Int) < ((l.length : Nat) : Int)))) <| .nil) [(9, .bool (decide ((4096 : Int) < ((l.length : Nat) : Int)))), (2, .int .i64 0), (0, .slice A l.length c)] h2 (Kw.nil hB) fun q3 h4 => ?_
  clear h2
  refine wpO_end ?_
  refine then_n ?_
  refine kC 9 (decide ((4096 : Int) < ((l.length : Nat) : Int))) h4 (fun hc5 => ?_) (fun hc5 => ?_)
  ·
    have hp6 : ((4096 : Int) < ((l.length : Nat) : Int)) := of_decide_eq_true hc5
    refine kS ?_
    refine rp 1 ?_
    refine b0 (.C 0 2 <| .nil) [(2, .int .i64 8), (0, .slice A l.length c)] h4 (Kw.nil hB) fun q7 h8 => ?_
    clear h4
    refine wpO_end ?_
    refine then_n ?_
    refine c_ret (by kernel_rfl) ?_
    refine then_r ?_
    refine ret1 (t := 2) (v := .int .i64 8) h8 (by kernel_rfl) (by kernel_rfl) ?_
    exact ⟨ret_eq (congrArg (Value.int .i64) (show allE (l.map (·.1)) = 8 from (by unfold allE; rw [List.length_map]; exact cT hc5)).symm), hB.bel⟩
  have hp9 : ¬ ((4096 : Int) < ((l.length : Nat) : Int)) := of_decide_eq_false hc5
  refine c_skip (by kernel_rfl) ?_
  refine then_n ?_
  refine kS ?_
  refine rp 1 ?_
  refine b0 (.C 0 3 <| .nil) [(3, .int .i64 0), (2, .int .i64 0), (0, .slice A l.length c)] h4 (Kw.nil hB) fun q10 h11 => ?_
  clear h4
  refine wpO_end ?_
  refine then_n ?_
  refine kS ?_
  refine kS ?_
  refine rp 3 ?_
  refine b0 (.C 0 10 <| .E 1 11 (.int .i64 ((l.length : Nat) : Int)) <| .C 2 12 <| .nil) [(12, .int .i64 0), (11, .int .i64 ((l.length : Nat) : Int)), (10, .slice A l.length c), (3, .int .i64 0), (2, .int .i64 0)] h11 (Kw.nil hB) fun q12 h13 => ?_
  clear h11
  refine wpO_end ?_
  refine then_n ?_
  refine c_block 0 (by kernel_rfl) ?_
  have h0 : allE (l.map (·.1)) = goA (l.map (·.1)) 0 := by unfold allE; rw [List.length_map]; exact cF hc5
  refine c_loop (by kernel_rfl) (fun qa qw => ∃ k : Nat, ∃ (tot : Int), (k ≤ l.length) ∧ Fr 29 [(10, .slice A l.length c), (11, .int .i64 ((l.length : Nat) : Int)), (12, .int .i64 ((k : Nat) : Int)), (3, .int .i64 tot), (2, .int .i64 0)] qa ∧ Bx w [] qw ∧ (allE (l.map (·.1)) = goA ((l.drop k).map (·.1)) tot)) (fun qa _ => (((l.length : Int)) - intAt qa 12).toNat) ⟨0, 0, Nat.zero_le _, h13.keep _ ⟨rfl, rfl, rfl, rfl, rfl, trivial⟩, hB, h0⟩ ?_
  rintro q14 w15 ⟨k, tot, hk18, h16, hB17, hx20⟩
  have hm19 := h16.int (k := 12) (kd := .i64) (z := ((k : Nat) : Int)) rfl
  clear h13 hB
  refine kS ?_
  refine rp 1 ?_
  refine b0 (.E 0 13 (.bool (decide (((k : Nat) : Int) < ((l.length : Nat) : Int)))) <| .nil) [(13, .bool (decide (((k : Nat) : Int) < ((l.length : Nat) : Int)))), (10, .slice A l.length c), (11, .int .i64 ((l.length : Nat) : Int)), (12, .int .i64 ((k : Nat) : Int)), (3, .int .i64 tot), (2, .int .i64 0)] h16 (Kw.nil hB17) fun q21 h22 => ?_
  clear h16
  refine wpO_end ?_
  refine then_n ?_
  refine kS ?_
  refine kC 13 (decide (((k : Nat) : Int) < ((l.length : Nat) : Int))) h22 (fun hc23 => ?_) (fun hc23 => ?_)
  ·
    have hp24 : (((k : Nat) : Int) < ((l.length : Nat) : Int)) := of_decide_eq_true hc23
    have hltx : k < l.length := by omega
    obtain ⟨x, hx⟩ : ∃ x, l[k]? = some x := ⟨l[k], List.getElem?_eq_getElem hltx⟩
    obtain ⟨ad, hA_, hE0⟩ := hr.el (k * 16) (inC x) (by intro h; cases h) (insc_el l k x hx)
    subst hA_
    obtain ⟨hcx, hnx, hrx⟩ := hl x (List.mem_of_getElem? hx)
    refine c_skip (by kernel_rfl) ?_
    refine then_n ?_
    refine kS ?_
    refine c_block 1 (by kernel_rfl) ?_
    refine kS ?_
    refine rp 4 ?_
    refine eE 0 14 (.indexAddr 23 (.tmp 10) (.tmp 12)) 0 (.pointer (some ((ad.add (k * 16)).add 0))) h22 (hr := r_index0 (n := l.length) (c := c) (kd := .i64) (by kernel_rfl) (by kernel_rfl) hltx (by kernel_rfl)) fun q25 h26 => ?_
    clear h22
    refine b0 (.Y 1 15 0 0 16 <| .nil) [(15, insV x.1 x.2.1 x.2.2), (13, .bool (decide (((k : Nat) : Int) < ((l.length : Nat) : Int)))), (10, .slice (some ad) l.length c), (11, .int .i64 ((l.length : Nat) : Int)), (12, .int .i64 ((k : Nat) : Int)), (3, .int .i64 tot), (2, .int .i64 0)] h26 ((Kw.nil hB17).cons (hE0.below hB17.bel)) fun q27 h28 => ?_
    clear h26
    refine sA 2 5 (fun b => .pointer (some ⟨b, 0, none⟩)) (.cells #[.string (⟨#[]⟩ : ByteArray), .int .i64 0, .string (⟨#[]⟩ : ByteArray), .string (⟨#[]⟩ : ByteArray), .int .i64 0, .string (⟨#[]⟩ : ByteArray), .int .i64 0, .int .i64 0, .int .i64 0, .int .i64 0, .int .i64 0, .bool false, .int .i64 0, .bool false, .bool false, .slice none 0 0] 30 (0, 0)) h28 gok_none hB17 (fun _ _ hq => trivial) (fun b31 w32 hB33 hN q29 h30 => ?_)
    clear h28 hB17 hN
    refine sW 3 0 0 [(b31, .cells (insV x.1 x.2.1 x.2.2).cells 30 (0, 0))] h30 gok_none hB33 (.inr fun _ _ => trivial) (fun w36 hB37 hT q34 h35 => ?_)
    clear h30 hB33
    clear hT
    refine wpO_end ?_
    have h38 := h35.keep [(5, .pointer (some ⟨b31, 0, none⟩)), (13, .bool (decide (((k : Nat) : Int) < ((l.length : Nat) : Int)))), (10, .slice (some ad) l.length c), (11, .int .i64 ((l.length : Nat) : Int)), (12, .int .i64 ((k : Nat) : Int)), (3, .int .i64 tot), (2, .int .i64 0)] ⟨rfl, rfl, rfl, rfl, rfl, rfl, rfl, trivial⟩
    clear h35
    refine then_n ?_
    refine kS ?_
    refine kS ?_
    refine rp 3 ?_
    refine b0 (.S 0 16 0 0 16 <| .nil) [(16, insV x.1 x.2.1 x.2.2), (5, .pointer (some ⟨b31, 0, none⟩)), (13, .bool (decide (((k : Nat) : Int) < ((l.length : Nat) : Int)))), (10, .slice (some ad) l.length c), (11, .int .i64 ((l.length : Nat) : Int)), (12, .int .i64 ((k : Nat) : Int)), (3, .int .i64 tot), (2, .int .i64 0)] h38 (Kw.nil hB37) fun q39 h40 => ?_
    clear h38
    refine sC 1 17 h40 gok_none (p52 x.1 x.2.1 x.2.2 w36 (show x.1.links.length ≤ 4611686018427387904 by omega) (by omega) (hrx.below hB37.bel)) ?_
    rintro _ w43 ⟨rfl, hb44⟩
    have hB45 := hB37.call hb44
    refine ⟨_, rfl, trivial, fun q41 h42 => ?_⟩
    clear h40 hB37 hb44
    refine b0 (.C 2 6 <| .nil) [(6, .int .i64 (payE x.1)), (5, .pointer (some ⟨b31, 0, none⟩)), (13, .bool (decide (((k : Nat) : Int) < ((l.length : Nat) : Int)))), (10, .slice (some ad) l.length c), (11, .int .i64 ((l.length : Nat) : Int)), (12, .int .i64 ((k : Nat) : Int)), (3, .int .i64 tot), (2, .int .i64 0)] h42 (Kw.nil hB45) fun q46 h47 => ?_
    clear h42
    refine wpO_end ?_
    refine then_n ?_
    refine kS ?_
    refine rp 2 ?_
    refine b0 (.C 0 18 <| .E 1 19 (.bool (payE x.1 != (0 : Int))) <| .nil) [(19, .bool (payE x.1 != (0 : Int))), (6, .int .i64 (payE x.1)), (5, .pointer (some ⟨b31, 0, none⟩)), (13, .bool (decide (((k : Nat) : Int) < ((l.length : Nat) : Int)))), (10, .slice (some ad) l.length c), (11, .int .i64 ((l.length : Nat) : Int)), (12, .int .i64 ((k : Nat) : Int)), (3, .int .i64 tot), (2, .int .i64 0)] h47 (Kw.nil hB45) fun q48 h49 => ?_
    clear h47
    refine wpO_end ?_
    refine then_n ?_
    refine kC 19 (payE x.1 != (0 : Int)) h49 (fun hc50 => ?_) (fun hc50 => ?_)
    ·
      refine kS ?_
      refine rp 2 ?_
      refine b0 (.C 0 20 <| .C 1 2 <| .nil) [(2, .int .i64 (payE x.1)), (19, .bool (payE x.1 != (0 : Int))), (6, .int .i64 (payE x.1)), (5, .pointer (some ⟨b31, 0, none⟩)), (13, .bool (decide (((k : Nat) : Int) < ((l.length : Nat) : Int)))), (10, .slice (some ad) l.length c), (11, .int .i64 ((l.length : Nat) : Int)), (12, .int .i64 ((k : Nat) : Int)), (3, .int .i64 tot)] h49 (Kw.nil hB45) fun q51 h52 => ?_
      clear h49
      refine wpO_end ?_
      refine then_n ?_
      refine c_ret (by kernel_rfl) ?_
      refine then_r (inB_r (then_r (then_r (inB_r (then_r ?_)))))
      refine ret1 (t := 2) (v := .int .i64 (payE x.1)) h52 (by kernel_rfl) (by kernel_rfl) ?_
      exact ⟨ret_eq (congrArg (Value.int .i64) (hx20.trans ((goA_at l k x tot hx).trans (cT hc50))).symm), hB45.bel⟩
    refine c_skip (by kernel_rfl) ?_
    refine then_n ?_
    refine rp 6 ?_
    refine b0 (.C 0 21 <| .C 1 22 <| .L 2 23 0 7 <| .E 3 24 (.int .i64 (IntKind.i64.wrap (tot + x.1.amt))) <| .E 4 25 (.int .i64 (if (1000000000000001 : Int) < IntKind.i64.wrap (tot + x.1.amt) then (1000000000000001 : Int) else IntKind.i64.wrap (tot + x.1.amt))) <| .C 5 3 <| .nil) [(3, .int .i64 (if (1000000000000001 : Int) < IntKind.i64.wrap (tot + x.1.amt) then (1000000000000001 : Int) else IntKind.i64.wrap (tot + x.1.amt))), (19, .bool (payE x.1 != (0 : Int))), (6, .int .i64 (payE x.1)), (5, .pointer (some ⟨b31, 0, none⟩)), (13, .bool (decide (((k : Nat) : Int) < ((l.length : Nat) : Int)))), (10, .slice (some ad) l.length c), (11, .int .i64 ((l.length : Nat) : Int)), (12, .int .i64 ((k : Nat) : Int)), (2, .int .i64 0)] h49 (Kw.nil hB45) fun q53 h54 => ?_
    clear h49
    refine wpO_end ?_
    refine inB_n ?_
    refine then_n ?_
    refine rp 2 ?_
    refine b0 (.E 0 26 (.int .i64 (IntKind.i64.wrap (((k : Nat) : Int) + 1))) <| .C 1 12 <| .nil) [(12, .int .i64 (IntKind.i64.wrap (((k : Nat) : Int) + 1))), (3, .int .i64 (if (1000000000000001 : Int) < IntKind.i64.wrap (tot + x.1.amt) then (1000000000000001 : Int) else IntKind.i64.wrap (tot + x.1.amt))), (19, .bool (payE x.1 != (0 : Int))), (6, .int .i64 (payE x.1)), (5, .pointer (some ⟨b31, 0, none⟩)), (13, .bool (decide (((k : Nat) : Int) < ((l.length : Nat) : Int)))), (10, .slice (some ad) l.length c), (11, .int .i64 ((l.length : Nat) : Int)), (2, .int .i64 0)] h54 (Kw.nil hB45) fun q55 h56 => ?_
    clear h54
    refine wpO_end ?_
    have h57 := h56.keep [(10, .slice (some ad) l.length c), (11, .int .i64 ((l.length : Nat) : Int)), (12, .int .i64 (((k + 1) : Nat) : Int)), (3, .int .i64 (minT (IntKind.i64.wrap (tot + x.1.amt)))), (2, .int .i64 0)] ⟨rfl, rfl, look_int rfl (wrap_succ (by omega)), rfl, rfl, trivial⟩
    have hm58 := h57.int (k := 12) (kd := .i64) (z := (((k + 1) : Nat) : Int)) rfl
    refine then_n ⟨⟨k + 1, minT (IntKind.i64.wrap (tot + x.1.amt)), by omega, h57, hB45.tail, hx20.trans ((goA_at l k x tot hx).trans (cF hc50))⟩, ?_⟩
    show (((l.length : Int)) - intAt _ 12).toNat < (((l.length : Int)) - intAt _ 12).toNat
    rw [hm19, hm58]; omega
  have hp59 : ¬ (((k : Nat) : Int) < ((l.length : Nat) : Int)) := of_decide_eq_false hc23
  refine c_exit 0 (by kernel_rfl) ?_
  refine then_e (then_e (inB_hit ?_))
  refine then_n ?_
  refine kS ?_
  refine kS ?_
  refine rp 2 ?_
  refine b0 (.C 0 27 <| .E 1 28 (.bool (decide ((1000000000000000 : Int) < tot))) <| .nil) [(28, .bool (decide ((1000000000000000 : Int) < tot))), (2, .int .i64 0)] h22 (Kw.nil hB17) fun q60 h61 => ?_
  clear h22
  refine wpO_end ?_
  refine then_n ?_
  refine kC 28 (decide ((1000000000000000 : Int) < tot)) h61 (fun hc62 => ?_) (fun hc62 => ?_)
  ·
    have hp63 : ((1000000000000000 : Int) < tot) := of_decide_eq_true hc62
    refine kS ?_
    refine rp 1 ?_
    refine b0 (.C 0 2 <| .nil) [(2, .int .i64 12)] h61 (Kw.nil hB17) fun q64 h65 => ?_
    clear h61
    refine wpO_end ?_
    refine then_n ?_
    refine c_ret (by kernel_rfl) ?_
    refine then_r ?_
    refine ret1 (t := 2) (v := .int .i64 12) h65 (by kernel_rfl) (by kernel_rfl) ?_
    exact ⟨ret_eq (congrArg (Value.int .i64) (hx20.trans ((goA_end l k tot (by omega)).trans (cT hc62))).symm), hB17.bel⟩
  have hp66 : ¬ ((1000000000000000 : Int) < tot) := of_decide_eq_false hc62
  refine c_skip (by kernel_rfl) ?_
  refine then_n ?_
  refine kS ?_
  refine rp 1 ?_
  refine b0 (.C 0 2 <| .nil) [(2, .int .i64 0)] h61 (Kw.nil hB17) fun q67 h68 => ?_
  clear h61
  refine wpO_end ?_
  refine then_n ?_
  refine c_ret (by kernel_rfl) ?_
  refine ret1 (t := 2) (v := .int .i64 0) h68 (by kernel_rfl) (by kernel_rfl) ?_
  exact ⟨ret_eq (congrArg (Value.int .i64) (hx20.trans ((goA_end l k tot (by omega)).trans (cF hc62))).symm), hB17.bel⟩

end Go.Proofs.YtljegdokbifoiaaGreatDoor.Af
