/- Clones. Short lists of links. -/
import Derived.Test.YtljegdokbifoiaaDoorOw
import Derived.Test.YtljegdokbifoiaaDoorAt
import Derived.Test.YtljegdokbifoiaaDoorMc
namespace Go.Proofs.YtljegdokbifoiaaDoor.Af
open Go.RowKit
theorem lkc_one (l : List Lk) : ∀ u ∈ lkc l, u.oneCell' = true := by
  induction l with
  | nil => intro u h; cases h
  | cons x l ih =>
    intro u h
    rcases List.mem_cons.1 h with rfl | h
    · rfl
    · rcases List.mem_cons.1 h with rfl | h
      · rfl
      · exact ih u h
theorem lkc_size (l : List Lk) : (lkc l).length = l.length * 2 := by rw [lkc_length, Nat.mul_comm]

set_option maxHeartbeats 4000000 in
set_option maxRecDepth 20000 in
theorem c58_0  (w : World) : Calls Tryd.prog 58 #[.slice none 0 0] w (fun e w' => e = .returned (.slice none 0 0) ∧ Below w.heap.size w w') := by
  refine enter Tryd.func58 (by kernel_rfl) ?_ (by kernel_rfl)
  intro q0 h0
  replace h0 := h0.conv (l' := [(0, .slice none 0 0)]) rfl
  have hB := Bx.refl w
  refine kS ?_
  refine rp 1 ?_
  refine b0 (.C 0 2 <| .nil) [(2, .slice none 0 0), (0, .slice none 0 0)] h0 (Kw.nil hB) fun q1 h2 => ?_
  clear h0
  refine wpO_end ?_
  refine then_n ?_
  refine kS ?_
  refine kS ?_
  refine rp 2 ?_
  refine b0 (.C 0 3 <| .E 1 4 (.bool true) <| .nil) [(4, .bool true), (2, .slice none 0 0), (0, .slice none 0 0)] h2 (Kw.nil hB) fun q3 h4 => ?_
  clear h2
  refine wpO_end ?_
  refine then_n ?_
  refine kC 4 true h4 (fun _ => ?_) (fun e5 => Bool.noConfusion (e5.symm.trans (rfl)))
  refine kS ?_
  refine rp 1 ?_
  refine b0 (.C 0 2 <| .nil) [(2, .slice none 0 0), (0, .slice none 0 0)] h4 (Kw.nil hB) fun q6 h7 => ?_
  clear h4
  refine wpO_end ?_
  refine then_n ?_
  refine c_ret (by kernel_rfl) ?_
  refine then_r ?_
  refine ret1 (t := 2) (v := .slice none 0 0) h7 (by kernel_rfl) (by kernel_rfl) ?_
  exact ⟨rfl, hB.bel⟩

set_option maxHeartbeats 4000000 in
set_option maxRecDepth 20000 in
theorem c58_1 (ls : List Lk) (b c : Nat) (w : World) (hn : ls.length ≤ 1000) (hr : Rd w (some ⟨b, 0, none⟩) (lkc ls)) : Calls Tryd.prog 58 #[.slice (some ⟨b, 0, none⟩) ls.length c] w (fun e w' => ∃ (A' : Option Addr) (c' : Nat), e = .returned (.slice A' ls.length c') ∧ World.ownsRow w' w.heap.size 66 2 (.slice A' ls.length c') ls.length (lkc ls) ∧ Below w.heap.size w w') := by
  refine enter Tryd.func58 (by kernel_rfl) ?_ (by kernel_rfl)
  intro q0 h0
  replace h0 := h0.conv (l' := [(0, .slice (some ⟨b, 0, none⟩) ls.length c)]) rfl
  have hB := Bx.refl w
  refine kS ?_
  refine rp 1 ?_
  refine b0 (.C 0 2 <| .nil) [(2, .slice none 0 0), (0, .slice (some ⟨b, 0, none⟩) ls.length c)] h0 (Kw.nil hB) fun q1 h2 => ?_
  clear h0
  refine wpO_end ?_
  refine then_n ?_
  refine kS ?_
  refine kS ?_
  refine rp 2 ?_
  refine b0 (.C 0 3 <| .E 1 4 (.bool false) <| .nil) [(4, .bool false), (2, .slice none 0 0), (0, .slice (some ⟨b, 0, none⟩) ls.length c)] h2 (Kw.nil hB) fun q3 h4 => ?_
  clear h2
  refine wpO_end ?_
  refine then_n ?_
  refine kC 4 false h4 (fun e5 => Bool.noConfusion (e5.symm.trans (rfl))) (fun _ => ?_)
  refine c_skip (by kernel_rfl) ?_
  refine then_n ?_
  refine kS ?_
  refine rp 4 ?_
  refine sA 0 5 (fun b => .slice (some ⟨b, 0, none⟩) 0 0) (.cells #[] 66 (0, 0)) h4 gok_none hB (fun _ _ hq => trivial) (fun b8 w9 hB10 hN q6 h7 => ?_)
  clear h4 hB hN
  refine b0 (.C 1 6 <| .nil) [(6, .slice (some ⟨b, 0, none⟩) ls.length c), (5, .slice (some ⟨b8, 0, none⟩) 0 0), (2, .slice none 0 0)] h7 (Kw.nil hB10) fun q11 h12 => ?_
  clear h7
  have ho0 := own_blk0 (e := 66) (size := 2) (hB10.at 0 rfl) (hB10.ge 0 _ rfl)
  have hr1 := hr.below hB10.bel
  refine stApp (x := Operand.tmp 5) (y := Operand.tmp 6) (i := 2) (d := 7) (t := 27) (e := 66) (size := 2) (bytes := 24) (base := w.heap.size) (nn := 0) (m := ls.length) (c := c) (ty := 27) (g := none) (v := .slice (some ⟨b8, 0, none⟩) 0 0) (xs := []) (news := lkc ls) (ad := ⟨b, 0, none⟩) h12 (by kernel_rfl) (by kernel_rfl) (by kernel_rfl) gok_none (by kernel_rfl) (by decide) (by kernel_rfl) (by kernel_rfl) ho0 (lkc_size ls) (fun j u hj => by obtain ⟨ad', e1, -, h1⟩ := hr1 j u hj; cases e1; exact h1) (lkc_one ls) (by unfold maxLen; omega) (by omega) hB10.tail hB10.bel.size (Nat.le_refl _) (by kernel_rfl) (fun _ hq => trivial) (fun v15 w16 ho17 hg18 hB19 hz20 q13 h14 => ?_)
  clear h12 hB10
  rw [Nat.zero_add, List.nil_append] at ho17
  refine b0 (.C 3 2 <| .nil) [(2, v15)] h14 (Kw.nil hB19) fun q21 h22 => ?_
  clear h14
  refine wpO_end ?_
  refine then_n ?_
  refine c_ret (by kernel_rfl) ?_
  refine ret1 (t := 2) (v := v15) h22 (by kernel_rfl) (by kernel_rfl) ?_
  obtain ⟨A', c', rfl, -, -⟩ := own_rd ho17
  exact ⟨A', c', rfl, ho17, hB19.bel⟩

theorem c58 (ls : List Lk) (A : Option Addr) (c base : Nat) (w : World) (hn : ls.length ≤ 1000) (ho : World.ownsRow w base 66 2 (.slice A ls.length c) ls.length (lkc ls)) : Calls Tryd.prog 58 #[.slice A ls.length c] w fun e w' => ∃ (A' : Option Addr) (c' : Nat), e = .returned (.slice A' ls.length c') ∧ World.ownsRow w' w.heap.size 66 2 (.slice A' ls.length c') ls.length (lkc ls) ∧ Below w.heap.size w w' := by
  have hr := own_rr ho
  obtain ⟨-, h | ⟨g, cap, cur, h, -⟩⟩ := ho
  · obtain ⟨h1, h2⟩ := h
    cases ls with
    | cons x l => cases h2
    | nil =>
      cases h1
      exact (c58_0 w).mono fun e w' ⟨h3, h4⟩ => ⟨none, 0, h3, own_nil _ _ _ _, h4⟩
  · cases h
    exact c58_1 ls g c w hn hr

set_option maxHeartbeats 4000000 in
set_option maxRecDepth 20000 in
theorem c38 (i : Ins) (A : Option Addr) (c : Nat) (base : Nat) (w : World) (hn : i.links.length ≤ 1000) (ho : World.ownsRow w base 66 2 (.slice A i.links.length c) i.links.length (lkc i.links)) : Calls Tryd.prog 38 #[insV i A c] w (fun e w' => ∃ (A' : Option Addr) (c' : Nat), e = .returned (insV i A' c') ∧ World.ownsRow w' w.heap.size 66 2 (.slice A' i.links.length c') i.links.length (lkc i.links) ∧ Below w.heap.size w w') := by
  refine enter Tryd.func38 (by kernel_rfl) ?_ (by kernel_rfl)
  intro q0 h0
  replace h0 := h0.conv (l' := [(0, insV i A c)]) rfl
  have hB := Bx.refl w
  refine kS ?_
  refine rp 2 ?_
  refine sA 0 1 (fun b => .pointer (some ⟨b, 0, none⟩)) (.cells (insV i A c).cells 29 (0, 0)) h0 gok_none hB (fun _ _ hq => trivial) (fun b3 w4 hB5 hN q1 h2 => ?_)
  have ho6 := own_below ho hN
  clear h0 hB hN
  refine sA 1 2 (fun b => .pointer (some ⟨b, 0, none⟩)) (.cells #[.string (⟨#[]⟩ : ByteArray), .int .i64 0, .string (⟨#[]⟩ : ByteArray), .string (⟨#[]⟩ : ByteArray), .int .i64 0, .string (⟨#[]⟩ : ByteArray), .int .i64 0, .int .i64 0, .int .i64 0, .int .i64 0, .int .i64 0, .bool false, .int .i64 0, .bool false, .bool false, .slice none 0 0] 29 (0, 0)) h2 gok_none hB5 (fun _ _ hq => trivial) (fun b9 w10 hB11 hN q7 h8 => ?_)
  have ho12 := own_below ho6 hN
  clear h2 hB5 hN
  refine wpO_end ?_
  have h13 := h8.keep [(2, .pointer (some ⟨b9, 0, none⟩)), (1, .pointer (some ⟨b3, 0, none⟩))] ⟨rfl, rfl, trivial⟩
  clear h8
  refine then_n ?_
  refine kS ?_
  refine rp 5 ?_
  refine b0 (.C 0 3 <| .L 1 4 1 15 <| .nil) [(4, .slice A i.links.length c), (2, .pointer (some ⟨b9, 0, none⟩)), (1, .pointer (some ⟨b3, 0, none⟩))] h13 (Kw.nil hB11) fun q14 h15 => ?_
  clear h13
  refine sC 2 5 h15 gok_none (c58 i.links A c _ w10 (by omega) ho12) ?_
  rintro _ w20 ⟨A18, cp19, rfl, ho24, hb21⟩
  have ho23 := own_base ho24 hB11.bel.size
  have hB22 := hB11.call hb21
  have ho25 := own_below ho12 hb21
  refine ⟨_, rfl, trivial, fun q16 h17 => ?_⟩
  clear h15 hB11 hb21
  refine b0 (.C 3 6 <| .nil) [(6, .pointer (some ⟨b3, 15, none⟩)), (5, .slice A18 i.links.length cp19), (2, .pointer (some ⟨b9, 0, none⟩)), (1, .pointer (some ⟨b3, 0, none⟩))] h17 (Kw.nil hB22) fun q26 h27 => ?_
  clear h17
  refine sW 4 1 15 [(b9, .cells #[.string (⟨#[]⟩ : ByteArray), .int .i64 0, .string (⟨#[]⟩ : ByteArray), .string (⟨#[]⟩ : ByteArray), .int .i64 0, .string (⟨#[]⟩ : ByteArray), .int .i64 0, .int .i64 0, .int .i64 0, .int .i64 0, .int .i64 0, .bool false, .int .i64 0, .bool false, .bool false, .slice none 0 0] 29 (0, 0)), (b3, .cells (insV i A18 cp19).cells 29 (0, 0))] h27 gok_none hB22 (.inr fun _ _ => trivial) (fun w30 hB31 hT q28 h29 => ?_)
  clear h27 hB22
  have ho32 := own_turned ho25 hT (by kernel_rfl)
  have ho33 := own_turned ho23 hT (by kernel_rfl)
  clear hT
  refine wpO_end ?_
  have h34 := h29.keep [(2, .pointer (some ⟨b9, 0, none⟩)), (1, .pointer (some ⟨b3, 0, none⟩))] ⟨rfl, rfl, trivial⟩
  clear h29
  refine then_n ?_
  refine kS ?_
  refine rp 2 ?_
  refine b0 (.S 0 7 1 0 16 <| .nil) [(7, insV i A18 cp19), (2, .pointer (some ⟨b9, 0, none⟩))] h34 (Kw.nil hB31) fun q35 h36 => ?_
  clear h34
  refine sW 1 0 0 [(b9, .cells (insV i A18 cp19).cells 29 (0, 0)), (b3, .cells (insV i A18 cp19).cells 29 (0, 0))] h36 gok_none hB31 (.inr fun _ _ => trivial) (fun w39 hB40 hT q37 h38 => ?_)
  clear h36 hB31
  have ho41 := own_turned ho32 hT (by kernel_rfl)
  have ho42 := own_turned ho33 hT (by kernel_rfl)
  clear hT
  refine wpO_end ?_
  have h43 := h38.keep [(2, .pointer (some ⟨b9, 0, none⟩))] ⟨rfl, trivial⟩
  clear h38
  refine then_n ?_
  refine c_ret (by kernel_rfl) ?_
  refine retC (t := 2) (T := 29) (b := b9) (vs := [.string i.ref, .int .i64 i.kind, .string i.sender, .string i.cpty, .int .i64 i.side, .string i.asset, .int .i64 i.qty, .int .i64 i.amt, .int .i64 i.tday, .int .i64 i.sday, .int .i64 i.prio, .bool i.part, .int .i64 i.minlot, .bool i.hold, .bool i.resv, .slice A18 i.links.length cp19]) h43 (by kernel_rfl) (by kernel_rfl) hB40 0 (by kernel_rfl) (by kernel_rfl) (by kernel_rfl) ?_
  exact ⟨_, _, rfl, ho42, hB40.bel⟩

end Go.Proofs.YtljegdokbifoiaaDoor.Af
