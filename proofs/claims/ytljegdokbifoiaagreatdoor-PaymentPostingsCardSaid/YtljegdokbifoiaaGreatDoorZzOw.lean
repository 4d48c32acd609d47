/- An instruction in the other package's type. Short lists of links. -/
import Derived.Test.YtljegdokbifoiaaGreatDoorZzCk
namespace Go.Proofs.YtljegdokbifoiaaGreatDoor.Af
open Go.RowKit
theorem lkc_snoc (l : List Lk) (k : Nat) (x : Lk) (h : l[k]? = some x) : lkc (l.take k) ++ [.int .i64 x.t, .string x.r] = lkc (l.take (k + 1)) := by
  have hlt := (List.getElem?_eq_some_iff.1 h).1
  have he := (List.getElem?_eq_some_iff.1 h).2
  rw [List.take_succ_eq_append_getElem hlt, he]
  simp [lkc]

set_option maxHeartbeats 4000000 in
set_option maxRecDepth 20000 in
theorem c13 (i : Ins) (A : Option Addr) (c : Nat) (w : World) (hn : i.links.length ≤ 1000) (hr : Rd w A (lkc i.links)) : Calls Tryz.prog 20 #[insV i A c] w (fun e w' => ∃ (A' : Option Addr) (c' : Nat), e = .returned (insV i A' c') ∧ w'.ownsRow w.heap.size 119 2 (.slice A' i.links.length c') i.links.length (lkc i.links) ∧ Below w.heap.size w w') := by
  refine enter Tryz.func20 (by kernel_rfl) ?_ (by kernel_rfl)
  intro q0 h0
  replace h0 := h0.conv (l' := [(0, insV i A c)]) rfl
  have hB := Bx.refl w
  refine kS ?_
  refine rp 2 ?_
  refine sA 0 1 (fun b => .pointer (some ⟨b, 0, none⟩)) (.cells (insV i A c).cells 50 (0, 0)) h0 gok_none hB (fun _ _ hq => trivial) (fun b3 w4 hB5 hN q1 h2 => ?_)
  clear h0 hB hN
  refine sA 1 2 (fun b => .pointer (some ⟨b, 0, none⟩)) (.cells #[.string (⟨#[]⟩ : ByteArray), .int .i64 0, .string (⟨#[]⟩ : ByteArray), .string (⟨#[]⟩ : ByteArray), .int .i64 0, .string (⟨#[]⟩ : ByteArray), .int .i64 0, .int .i64 0, .int .i64 0, .int .i64 0, .int .i64 0, .bool false, .int .i64 0, .bool false, .bool false, .slice none 0 0] 30 (0, 0)) h2 gok_none hB5 (fun _ _ hq => trivial) (fun b8 w9 hB10 hN q6 h7 => ?_)
  clear h2 hB5 hN
  refine wpO_end ?_
  have h11 := h7.keep [(2, .pointer (some ⟨b8, 0, none⟩)), (1, .pointer (some ⟨b3, 0, none⟩))] ⟨rfl, rfl, trivial⟩
  clear h7
  refine then_n ?_
  refine kS ?_
  refine rp 33 ?_
  refine b0 (.C 0 5 <| .L 1 6 1 0 <| .C 2 7 <| .L 3 8 1 1 <| .C 4 9 <| .L 5 10 1 2 <| .C 6 11 <| .L 7 12 1 3 <| .C 8 13 <| .L 9 14 1 4 <| .C 10 15 <| .L 11 16 1 5 <| .C 12 17 <| .L 13 18 1 6 <| .C 14 19 <| .L 15 20 1 7 <| .C 16 21 <| .L 17 22 1 8 <| .C 18 23 <| .L 19 24 1 9 <| .C 20 25 <| .L 21 26 1 10 <| .C 22 27 <| .L 23 28 1 11 <| .C 24 29 <| .L 25 30 1 12 <| .C 26 31 <| .L 27 32 1 13 <| .C 28 33 <| .L 29 34 1 14 <| .E 30 35 (.agg #[.string i.ref, .int .i64 i.kind, .string i.sender, .string i.cpty, .int .i64 i.side, .string i.asset, .int .i64 i.qty, .int .i64 i.amt, .int .i64 i.tday, .int .i64 i.sday, .int .i64 i.prio, .bool i.part, .int .i64 i.minlot, .bool i.hold, .bool i.resv, .slice none 0 0]) <| .nil) [(35, .agg #[.string i.ref, .int .i64 i.kind, .string i.sender, .string i.cpty, .int .i64 i.side, .string i.asset, .int .i64 i.qty, .int .i64 i.amt, .int .i64 i.tday, .int .i64 i.sday, .int .i64 i.prio, .bool i.part, .int .i64 i.minlot, .bool i.hold, .bool i.resv, .slice none 0 0]), (2, .pointer (some ⟨b8, 0, none⟩)), (1, .pointer (some ⟨b3, 0, none⟩))] h11 (Kw.nil hB10) fun q12 h13 => ?_
  clear h11
  refine sA 31 3 (fun b => .pointer (some ⟨b, 0, none⟩)) (.cells #[.string (⟨#[]⟩ : ByteArray), .int .i64 0, .string (⟨#[]⟩ : ByteArray), .string (⟨#[]⟩ : ByteArray), .int .i64 0, .string (⟨#[]⟩ : ByteArray), .int .i64 0, .int .i64 0, .int .i64 0, .int .i64 0, .int .i64 0, .bool false, .int .i64 0, .bool false, .bool false, .slice none 0 0] 30 (0, 0)) h13 gok_none hB10 (fun _ _ hq => trivial) (fun b16 w17 hB18 hN q14 h15 => ?_)
  clear h13 hB10 hN
  refine sW 32 0 0 [(b16, .cells #[.string i.ref, .int .i64 i.kind, .string i.sender, .string i.cpty, .int .i64 i.side, .string i.asset, .int .i64 i.qty, .int .i64 i.amt, .int .i64 i.tday, .int .i64 i.sday, .int .i64 i.prio, .bool i.part, .int .i64 i.minlot, .bool i.hold, .bool i.resv, .slice none 0 0] 30 (0, 0)), (b8, .cells #[.string (⟨#[]⟩ : ByteArray), .int .i64 0, .string (⟨#[]⟩ : ByteArray), .string (⟨#[]⟩ : ByteArray), .int .i64 0, .string (⟨#[]⟩ : ByteArray), .int .i64 0, .int .i64 0, .int .i64 0, .int .i64 0, .int .i64 0, .bool false, .int .i64 0, .bool false, .bool false, .slice none 0 0] 30 (0, 0)), (b3, .cells (insV i A c).cells 50 (0, 0))] h15 gok_none hB18 (.inr fun _ _ => trivial) (fun w21 hB22 hT q19 h20 => ?_)
  clear h15 hB18
  clear hT
  refine wpO_end ?_
  have h23 := h20.keep [(3, .pointer (some ⟨b16, 0, none⟩)), (2, .pointer (some ⟨b8, 0, none⟩)), (1, .pointer (some ⟨b3, 0, none⟩))] ⟨rfl, rfl, rfl, trivial⟩
  clear h20
  refine then_n ?_
  refine kS ?_
  refine kS ?_
  refine rp 1 ?_
  refine b0 (.C 0 4 <| .nil) [(4, .int .i64 0), (3, .pointer (some ⟨b16, 0, none⟩)), (2, .pointer (some ⟨b8, 0, none⟩)), (1, .pointer (some ⟨b3, 0, none⟩))] h23 (Kw.nil hB22) fun q24 h25 => ?_
  clear h23
  refine wpO_end ?_
  refine then_n ?_
  refine c_block 0 (by kernel_rfl) ?_
  refine c_loop (by kernel_rfl) (fun qa qw => ∃ k : Nat, ∃ (A' : Option Addr) (c' : Nat), (k ≤ i.links.length) ∧ Fr 62 [(1, .pointer (some ⟨b3, 0, none⟩)), (2, .pointer (some ⟨b8, 0, none⟩)), (3, .pointer (some ⟨b16, 0, none⟩)), (4, .int .i64 ((k : Nat) : Int))] qa ∧ Bx w [(b16, .cells #[.string i.ref, .int .i64 i.kind, .string i.sender, .string i.cpty, .int .i64 i.side, .string i.asset, .int .i64 i.qty, .int .i64 i.amt, .int .i64 i.tday, .int .i64 i.sday, .int .i64 i.prio, .bool i.part, .int .i64 i.minlot, .bool i.hold, .bool i.resv, .slice A' k c'] 30 (0, 0)), (b8, .cells #[.string (⟨#[]⟩ : ByteArray), .int .i64 0, .string (⟨#[]⟩ : ByteArray), .string (⟨#[]⟩ : ByteArray), .int .i64 0, .string (⟨#[]⟩ : ByteArray), .int .i64 0, .int .i64 0, .int .i64 0, .int .i64 0, .int .i64 0, .bool false, .int .i64 0, .bool false, .bool false, .slice none 0 0] 30 (0, 0)), (b3, .cells (insV i A c).cells 50 (0, 0))] qw ∧ (qw.ownsRow w.heap.size 119 2 (.slice A' k c') k (lkc (i.links.take k)))) (fun qa _ => (((i.links.length : Int)) - intAt qa 4).toNat) ⟨0, none, 0, Nat.zero_le _, h25.keep _ ⟨rfl, rfl, rfl, rfl, trivial⟩, hB22, own_nil _ _ _ _⟩ ?_
  rintro q26 w27 ⟨k, A', c', hk30, h28, hB29, hx32⟩
  have hm31 := h28.int (k := 4) (kd := .i64) (z := ((k : Nat) : Int)) rfl
  clear h25 hB22
  refine kS ?_
  refine kS ?_
  refine rp 5 ?_
  refine b0 (.C 0 36 <| .C 1 37 <| .L 2 38 2 15 <| .E 3 39 (.int .i64 ((i.links.length : Nat) : Int)) <| .E 4 40 (.bool (decide (((k : Nat) : Int) < ((i.links.length : Nat) : Int)))) <| .nil) [(40, .bool (decide (((k : Nat) : Int) < ((i.links.length : Nat) : Int)))), (1, .pointer (some ⟨b3, 0, none⟩)), (2, .pointer (some ⟨b8, 0, none⟩)), (3, .pointer (some ⟨b16, 0, none⟩)), (4, .int .i64 ((k : Nat) : Int))] h28 (Kw.nil hB29) fun q33 h34 => ?_
  clear h28
  refine wpO_end ?_
  refine then_n ?_
  refine kC 40 (decide (((k : Nat) : Int) < ((i.links.length : Nat) : Int))) h34 (fun hc35 => ?_) (fun hc35 => ?_)
  ·
    have hp36 : (((k : Nat) : Int) < ((i.links.length : Nat) : Int)) := of_decide_eq_true hc35
    have hlt : k < i.links.length := by omega
    obtain ⟨x, hx⟩ : ∃ x, i.links[k]? = some x := ⟨i.links[k], List.getElem?_eq_getElem hlt⟩
    obtain ⟨ad, hA, hE0⟩ := hr.el (k * 2) [.int .i64 x.t, .string x.r] (by simp) (lkc_el i.links k x hx)
    subst hA
    refine c_skip (by kernel_rfl) ?_
    refine then_n ?_
    refine kS ?_
    refine c_block 1 (by kernel_rfl) ?_
    have hD37 := hB29.drew
    refine rd (Bx w [(b16, .cells #[.string i.ref, .int .i64 i.kind, .string i.sender, .string i.cpty, .int .i64 i.side, .string i.asset, .int .i64 i.qty, .int .i64 i.amt, .int .i64 i.tday, .int .i64 i.sday, .int .i64 i.prio, .bool i.part, .int .i64 i.minlot, .bool i.hold, .bool i.resv, .slice A' k c'] 30 (0, 0)), (b8, .cells #[.string (⟨#[]⟩ : ByteArray), .int .i64 0, .string (⟨#[]⟩ : ByteArray), .string (⟨#[]⟩ : ByteArray), .int .i64 0, .string (⟨#[]⟩ : ByteArray), .int .i64 0, .int .i64 0, .int .i64 0, .int .i64 0, .int .i64 0, .bool false, .int .i64 0, .bool false, .bool false, .slice none 0 0] 30 (0, 0)), (b3, .cells (insV i (some ad) c).cells 50 (0, 0))]) 19 [⟨0, true, 0, 8, 8796093022208⟩, ⟨1, true, 1, 8796093022208, 17592186044416⟩, ⟨2, true, 0, 2, 35184372088832⟩, ⟨3, true, 4, 35184372088832, 70368744177664⟩, ⟨4, true, 0, 16, 140737488355328⟩, ⟨5, true, 24, 211106232532992, 281474976710656⟩, ⟨6, true, 32, 281474976710656, 562949953421312⟩, ⟨7, true, 64, 562949953421312, 1125899906842624⟩, ⟨8, true, 0, 2, 2251799813685248⟩, ⟨9, true, 256, 2251799813685248, 4503599627370496⟩, ⟨10, true, 0, 16, 9007199254740992⟩, ⟨11, true, 1536, 13510798882111488, 18014398509481984⟩, ⟨12, true, 2048, 18014398509481984, 36028797018963968⟩, ⟨13, true, 4096, 36028797018963968, 72057594037927936⟩, ⟨14, true, 8320, 73183493944770560, 144115188075855872⟩, ⟨15, false, 16384, 144115188075855872, 288230376151711744⟩, ⟨16, false, 32770, 288247968337756160, 576460752303423488⟩, ⟨17, true, 131071, 8, 1152921504606846976⟩, ⟨18, false, 262143, 1729382256910270464, 0⟩] hD37 ?_
    have ho38 := own_drew hx32
    generalize World.drew w27 = w39 at hD37 ho38 ⊢
    refine d0 (.C 0 43 <| .L 1 44 0 15 <| .C 2 45 <| .L 3 46 2 15 <| .C 4 47 <| .nil) [(47, .int .i64 ((k : Nat) : Int)), (46, .slice (some ad) i.links.length c), (44, .slice A' k c'), (40, .bool (decide (((k : Nat) : Int) < ((i.links.length : Nat) : Int)))), (1, .pointer (some ⟨b3, 0, none⟩)), (2, .pointer (some ⟨b8, 0, none⟩)), (3, .pointer (some ⟨b16, 0, none⟩)), (4, .int .i64 ((k : Nat) : Int))] h34 (fun _ hS => Kw.nil hS) fun q40 h41 => ?_
    clear h34
    refine fE 5 48 (.indexAddr 48 (.tmp 46) (.tmp 47)) 0 (.pointer (some ((ad.add (k * 2)).add 0))) h41 (hr := fun _ hS => r_index0 (n := i.links.length) (c := c) (kd := .i64) (by kernel_rfl) (by kernel_rfl) hlt (by kernel_rfl)) fun q42 h43 => ?_
    clear h41
    refine d0 (.F 6 49 0 0 0 <| .X 7 50 0 0 <| .C 8 51 <| .L 9 52 2 15 <| .C 10 53 <| .nil) [(53, .int .i64 ((k : Nat) : Int)), (52, .slice (some ad) i.links.length c), (50, .int .i64 x.t), (44, .slice A' k c'), (40, .bool (decide (((k : Nat) : Int) < ((i.links.length : Nat) : Int)))), (1, .pointer (some ⟨b3, 0, none⟩)), (2, .pointer (some ⟨b8, 0, none⟩)), (3, .pointer (some ⟨b16, 0, none⟩)), (4, .int .i64 ((k : Nat) : Int))] h43 (fun _ hS => (Kw.nil hS).cons (hE0.below hS.bel)) fun q44 h45 => ?_
    clear h43
    refine fE 11 54 (.indexAddr 48 (.tmp 52) (.tmp 53)) 0 (.pointer (some ((ad.add (k * 2)).add 0))) h45 (hr := fun _ hS => r_index0 (n := i.links.length) (c := c) (kd := .i64) (by kernel_rfl) (by kernel_rfl) hlt (by kernel_rfl)) fun q46 h47 => ?_
    clear h45
    refine d0 (.F 12 55 0 0 1 <| .X 13 56 0 1 <| .E 14 57 (.agg #[.int .i64 x.t, .string x.r]) <| .nil) [(57, .agg #[.int .i64 x.t, .string x.r]), (44, .slice A' k c'), (40, .bool (decide (((k : Nat) : Int) < ((i.links.length : Nat) : Int)))), (1, .pointer (some ⟨b3, 0, none⟩)), (2, .pointer (some ⟨b8, 0, none⟩)), (3, .pointer (some ⟨b16, 0, none⟩)), (4, .int .i64 ((k : Nat) : Int))] h47 (fun _ hS => (Kw.nil hS).cons (hE0.below hS.bel)) fun q48 h49 => ?_
    clear h47
    refine sA 15 58 (fun b => .slice (some ⟨b, 0, none⟩) 1 1) (.cells #[.int .i64 x.t, .string x.r] 119 (0, 0)) h49 gok_none hD37 (fun _ _ hq => hq.tail) (fun b52 w53 hB54 hN q50 h51 => ?_)
    have ho55 := own_below ho38 hN
    clear h49 hD37 hN
    have hr64 := Rd.of_blk (hB54.at 0 rfl)
    refine stApp (x := Operand.tmp 44) (y := Operand.tmp 58) (i := 16) (d := 59) (t := 28) (e := 119) (size := 2) (bytes := 24) (base := w.heap.size) (nn := k) (m := 1) (c := 1) (ty := 28) (g := none) (v := .slice A' k c') (xs := (lkc (i.links.take k))) (news := [.int .i64 x.t, .string x.r]) (ad := ⟨b52, 0, none⟩) h51 (by kernel_rfl) (by kernel_rfl) (by kernel_rfl) gok_none (by kernel_rfl) (by decide) (by kernel_rfl) (by kernel_rfl) ho55 (by kernel_rfl) (fun j u hj => by obtain ⟨ad', e1, -, h1⟩ := hr64 j u hj; cases e1; exact h1) (by intro u hu; revert u hu; simp only [List.forall_mem_cons]; exact ⟨rfl, rfl, fun _ h => absurd h (by simp)⟩) (by first | (unfold maxLen; omega) | omega) (by first | (unfold maxLen; omega) | omega) hB54.tail hB54.bel.size (Nat.le_refl _) (by kernel_rfl) (fun _ hq => hq) (fun v58 w59 ho60 hg61 hB62 hz63 q56 h57 => ?_)
    clear h51 hB54 hr64
    obtain ⟨A65, cp66, rfl, -, hr67⟩ := own_rd ho60
    refine d0 (.C 17 60 <| .nil) [(60, .pointer (some ⟨b16, 15, none⟩)), (59, .slice A65 (k + 1) cp66), (40, .bool (decide (((k : Nat) : Int) < ((i.links.length : Nat) : Int)))), (1, .pointer (some ⟨b3, 0, none⟩)), (2, .pointer (some ⟨b8, 0, none⟩)), (3, .pointer (some ⟨b16, 0, none⟩)), (4, .int .i64 ((k : Nat) : Int))] h57 (fun _ hS => Kw.nil hS) fun q68 h69 => ?_
    clear h57
    refine sW 18 0 15 [(b16, .cells #[.string i.ref, .int .i64 i.kind, .string i.sender, .string i.cpty, .int .i64 i.side, .string i.asset, .int .i64 i.qty, .int .i64 i.amt, .int .i64 i.tday, .int .i64 i.sday, .int .i64 i.prio, .bool i.part, .int .i64 i.minlot, .bool i.hold, .bool i.resv, .slice A65 (k + 1) cp66] 30 (0, 0)), (b8, .cells #[.string (⟨#[]⟩ : ByteArray), .int .i64 0, .string (⟨#[]⟩ : ByteArray), .string (⟨#[]⟩ : ByteArray), .int .i64 0, .string (⟨#[]⟩ : ByteArray), .int .i64 0, .int .i64 0, .int .i64 0, .int .i64 0, .int .i64 0, .bool false, .int .i64 0, .bool false, .bool false, .slice none 0 0] 30 (0, 0)), (b3, .cells (insV i (some ad) c).cells 50 (0, 0))] h69 gok_none hB62 (.inl (by kernel_rfl)) (fun w72 hB73 hT q70 h71 => ?_)
    clear h69 hB62
    have ho74 := own_turned ho60 hT (by kernel_rfl)
    clear hT
    refine wpO_end ?_
    have h75 := h71.keep [(40, .bool (decide (((k : Nat) : Int) < ((i.links.length : Nat) : Int)))), (1, .pointer (some ⟨b3, 0, none⟩)), (2, .pointer (some ⟨b8, 0, none⟩)), (3, .pointer (some ⟨b16, 0, none⟩)), (4, .int .i64 ((k : Nat) : Int))] ⟨rfl, rfl, rfl, rfl, rfl, trivial⟩
    clear h71
    refine inB_n ?_
    refine then_n ?_
    refine rp 3 ?_
    refine b0 (.C 0 41 <| .E 1 42 (.int .i64 (IntKind.i64.wrap (((k : Nat) : Int) + 1))) <| .C 2 4 <| .nil) [(4, .int .i64 (IntKind.i64.wrap (((k : Nat) : Int) + 1))), (40, .bool (decide (((k : Nat) : Int) < ((i.links.length : Nat) : Int)))), (1, .pointer (some ⟨b3, 0, none⟩)), (2, .pointer (some ⟨b8, 0, none⟩)), (3, .pointer (some ⟨b16, 0, none⟩))] h75 (Kw.nil hB73) fun q76 h77 => ?_
    clear h75
    refine wpO_end ?_
    have h78 := h77.keep [(1, .pointer (some ⟨b3, 0, none⟩)), (2, .pointer (some ⟨b8, 0, none⟩)), (3, .pointer (some ⟨b16, 0, none⟩)), (4, .int .i64 (((k + 1) : Nat) : Int))] ⟨rfl, rfl, rfl, look_int rfl (wrap_succ (by have := hn; omega)), trivial⟩
    have hm79 := h78.int (k := 4) (kd := .i64) (z := (((k + 1) : Nat) : Int)) rfl
    refine then_n ⟨⟨k + 1, A65, cp66, by omega, h78, hB73, by rw [← lkc_snoc _ _ _ hx]; exact ho74⟩, ?_⟩
    show (((i.links.length : Int)) - intAt _ 4).toNat < (((i.links.length : Int)) - intAt _ 4).toNat
    rw [hm31, hm79]; omega
  have hp80 : ¬ (((k : Nat) : Int) < ((i.links.length : Nat) : Int)) := of_decide_eq_false hc35
  have hke : k = i.links.length := by omega
  refine c_exit 0 (by kernel_rfl) ?_
  refine then_e (then_e (inB_hit ?_))
  refine then_n ?_
  refine kS ?_
  refine rp 2 ?_
  refine b0 (.S 0 61 0 0 16 <| .nil) [(61, .agg #[.string i.ref, .int .i64 i.kind, .string i.sender, .string i.cpty, .int .i64 i.side, .string i.asset, .int .i64 i.qty, .int .i64 i.amt, .int .i64 i.tday, .int .i64 i.sday, .int .i64 i.prio, .bool i.part, .int .i64 i.minlot, .bool i.hold, .bool i.resv, .slice A' k c']), (2, .pointer (some ⟨b8, 0, none⟩))] h34 (Kw.nil hB29) fun q81 h82 => ?_
  clear h34
  refine sW 1 1 0 [(b16, .cells #[.string i.ref, .int .i64 i.kind, .string i.sender, .string i.cpty, .int .i64 i.side, .string i.asset, .int .i64 i.qty, .int .i64 i.amt, .int .i64 i.tday, .int .i64 i.sday, .int .i64 i.prio, .bool i.part, .int .i64 i.minlot, .bool i.hold, .bool i.resv, .slice A' k c'] 30 (0, 0)), (b8, .cells #[.string i.ref, .int .i64 i.kind, .string i.sender, .string i.cpty, .int .i64 i.side, .string i.asset, .int .i64 i.qty, .int .i64 i.amt, .int .i64 i.tday, .int .i64 i.sday, .int .i64 i.prio, .bool i.part, .int .i64 i.minlot, .bool i.hold, .bool i.resv, .slice A' k c'] 30 (0, 0)), (b3, .cells (insV i A c).cells 50 (0, 0))] h82 gok_none hB29 (.inr fun _ _ => trivial) (fun w85 hB86 hT q83 h84 => ?_)
  clear h82 hB29
  have ho87 := own_turned hx32 hT (by kernel_rfl)
  clear hT
  refine wpO_end ?_
  have h88 := h84.keep [(2, .pointer (some ⟨b8, 0, none⟩))] ⟨rfl, trivial⟩
  clear h84
  refine then_n ?_
  refine c_ret (by kernel_rfl) ?_
  refine retC (t := 2) (T := 30) (b := b8) (vs := [.string i.ref, .int .i64 i.kind, .string i.sender, .string i.cpty, .int .i64 i.side, .string i.asset, .int .i64 i.qty, .int .i64 i.amt, .int .i64 i.tday, .int .i64 i.sday, .int .i64 i.prio, .bool i.part, .int .i64 i.minlot, .bool i.hold, .bool i.resv, .slice A' k c']) h88 (by kernel_rfl) (by kernel_rfl) hB86 1 (by kernel_rfl) (by kernel_rfl) (by kernel_rfl) ?_
  subst hke
  exact ⟨_, _, rfl, by have := ho87; rw [List.take_length] at this; exact this, hB86.bel⟩

set_option maxHeartbeats 4000000 in
set_option maxRecDepth 20000 in
theorem c35 (i : Ins) (A : Option Addr) (c : Nat) (w : World) (hn : i.links.length ≤ 1000) (hr : Rd w A (lkc i.links)) : Calls Tryz.prog 30 #[insV i A c] w (fun e w' => ∃ (A' : Option Addr) (c' : Nat), e = .returned (insV i A' c') ∧ w'.ownsRow w.heap.size 118 2 (.slice A' i.links.length c') i.links.length (lkc i.links) ∧ Below w.heap.size w w') := by
  refine enter Tryz.func30 (by kernel_rfl) ?_ (by kernel_rfl)
  intro q0 h0
  replace h0 := h0.conv (l' := [(0, insV i A c)]) rfl
  have hB := Bx.refl w
  refine kS ?_
  refine rp 2 ?_
  refine sA 0 1 (fun b => .pointer (some ⟨b, 0, none⟩)) (.cells (insV i A c).cells 30 (0, 0)) h0 gok_none hB (fun _ _ hq => trivial) (fun b3 w4 hB5 hN q1 h2 => ?_)
  clear h0 hB hN
  refine sA 1 2 (fun b => .pointer (some ⟨b, 0, none⟩)) (.cells #[.string (⟨#[]⟩ : ByteArray), .int .i64 0, .string (⟨#[]⟩ : ByteArray), .string (⟨#[]⟩ : ByteArray), .int .i64 0, .string (⟨#[]⟩ : ByteArray), .int .i64 0, .int .i64 0, .int .i64 0, .int .i64 0, .int .i64 0, .bool false, .int .i64 0, .bool false, .bool false, .slice none 0 0] 50 (0, 0)) h2 gok_none hB5 (fun _ _ hq => trivial) (fun b8 w9 hB10 hN q6 h7 => ?_)
  clear h2 hB5 hN
  refine wpO_end ?_
  have h11 := h7.keep [(2, .pointer (some ⟨b8, 0, none⟩)), (1, .pointer (some ⟨b3, 0, none⟩))] ⟨rfl, rfl, trivial⟩
  clear h7
  refine then_n ?_
  refine kS ?_
  refine rp 33 ?_
  refine b0 (.C 0 5 <| .L 1 6 1 0 <| .C 2 7 <| .L 3 8 1 1 <| .C 4 9 <| .L 5 10 1 2 <| .C 6 11 <| .L 7 12 1 3 <| .C 8 13 <| .L 9 14 1 4 <| .C 10 15 <| .L 11 16 1 5 <| .C 12 17 <| .L 13 18 1 6 <| .C 14 19 <| .L 15 20 1 7 <| .C 16 21 <| .L 17 22 1 8 <| .C 18 23 <| .L 19 24 1 9 <| .C 20 25 <| .L 21 26 1 10 <| .C 22 27 <| .L 23 28 1 11 <| .C 24 29 <| .L 25 30 1 12 <| .C 26 31 <| .L 27 32 1 13 <| .C 28 33 <| .L 29 34 1 14 <| .E 30 35 (.agg #[.string i.ref, .int .i64 i.kind, .string i.sender, .string i.cpty, .int .i64 i.side, .string i.asset, .int .i64 i.qty, .int .i64 i.amt, .int .i64 i.tday, .int .i64 i.sday, .int .i64 i.prio, .bool i.part, .int .i64 i.minlot, .bool i.hold, .bool i.resv, .slice none 0 0]) <| .nil) [(35, .agg #[.string i.ref, .int .i64 i.kind, .string i.sender, .string i.cpty, .int .i64 i.side, .string i.asset, .int .i64 i.qty, .int .i64 i.amt, .int .i64 i.tday, .int .i64 i.sday, .int .i64 i.prio, .bool i.part, .int .i64 i.minlot, .bool i.hold, .bool i.resv, .slice none 0 0]), (2, .pointer (some ⟨b8, 0, none⟩)), (1, .pointer (some ⟨b3, 0, none⟩))] h11 (Kw.nil hB10) fun q12 h13 => ?_
  clear h11
  refine sA 31 3 (fun b => .pointer (some ⟨b, 0, none⟩)) (.cells #[.string (⟨#[]⟩ : ByteArray), .int .i64 0, .string (⟨#[]⟩ : ByteArray), .string (⟨#[]⟩ : ByteArray), .int .i64 0, .string (⟨#[]⟩ : ByteArray), .int .i64 0, .int .i64 0, .int .i64 0, .int .i64 0, .int .i64 0, .bool false, .int .i64 0, .bool false, .bool false, .slice none 0 0] 50 (0, 0)) h13 gok_none hB10 (fun _ _ hq => trivial) (fun b16 w17 hB18 hN q14 h15 => ?_)
  clear h13 hB10 hN
  refine sW 32 0 0 [(b16, .cells #[.string i.ref, .int .i64 i.kind, .string i.sender, .string i.cpty, .int .i64 i.side, .string i.asset, .int .i64 i.qty, .int .i64 i.amt, .int .i64 i.tday, .int .i64 i.sday, .int .i64 i.prio, .bool i.part, .int .i64 i.minlot, .bool i.hold, .bool i.resv, .slice none 0 0] 50 (0, 0)), (b8, .cells #[.string (⟨#[]⟩ : ByteArray), .int .i64 0, .string (⟨#[]⟩ : ByteArray), .string (⟨#[]⟩ : ByteArray), .int .i64 0, .string (⟨#[]⟩ : ByteArray), .int .i64 0, .int .i64 0, .int .i64 0, .int .i64 0, .int .i64 0, .bool false, .int .i64 0, .bool false, .bool false, .slice none 0 0] 50 (0, 0)), (b3, .cells (insV i A c).cells 30 (0, 0))] h15 gok_none hB18 (.inr fun _ _ => trivial) (fun w21 hB22 hT q19 h20 => ?_)
  clear h15 hB18
  clear hT
  refine wpO_end ?_
  have h23 := h20.keep [(3, .pointer (some ⟨b16, 0, none⟩)), (2, .pointer (some ⟨b8, 0, none⟩)), (1, .pointer (some ⟨b3, 0, none⟩))] ⟨rfl, rfl, rfl, trivial⟩
  clear h20
  refine then_n ?_
  refine kS ?_
  refine kS ?_
  refine rp 1 ?_
  refine b0 (.C 0 4 <| .nil) [(4, .int .i64 0), (3, .pointer (some ⟨b16, 0, none⟩)), (2, .pointer (some ⟨b8, 0, none⟩)), (1, .pointer (some ⟨b3, 0, none⟩))] h23 (Kw.nil hB22) fun q24 h25 => ?_
  clear h23
  refine wpO_end ?_
  refine then_n ?_
  refine c_block 0 (by kernel_rfl) ?_
  refine c_loop (by kernel_rfl) (fun qa qw => ∃ k : Nat, ∃ (A' : Option Addr) (c' : Nat), (k ≤ i.links.length) ∧ Fr 62 [(1, .pointer (some ⟨b3, 0, none⟩)), (2, .pointer (some ⟨b8, 0, none⟩)), (3, .pointer (some ⟨b16, 0, none⟩)), (4, .int .i64 ((k : Nat) : Int))] qa ∧ Bx w [(b16, .cells #[.string i.ref, .int .i64 i.kind, .string i.sender, .string i.cpty, .int .i64 i.side, .string i.asset, .int .i64 i.qty, .int .i64 i.amt, .int .i64 i.tday, .int .i64 i.sday, .int .i64 i.prio, .bool i.part, .int .i64 i.minlot, .bool i.hold, .bool i.resv, .slice A' k c'] 50 (0, 0)), (b8, .cells #[.string (⟨#[]⟩ : ByteArray), .int .i64 0, .string (⟨#[]⟩ : ByteArray), .string (⟨#[]⟩ : ByteArray), .int .i64 0, .string (⟨#[]⟩ : ByteArray), .int .i64 0, .int .i64 0, .int .i64 0, .int .i64 0, .int .i64 0, .bool false, .int .i64 0, .bool false, .bool false, .slice none 0 0] 50 (0, 0)), (b3, .cells (insV i A c).cells 30 (0, 0))] qw ∧ (qw.ownsRow w.heap.size 118 2 (.slice A' k c') k (lkc (i.links.take k)))) (fun qa _ => (((i.links.length : Int)) - intAt qa 4).toNat) ⟨0, none, 0, Nat.zero_le _, h25.keep _ ⟨rfl, rfl, rfl, rfl, trivial⟩, hB22, own_nil _ _ _ _⟩ ?_
  rintro q26 w27 ⟨k, A', c', hk30, h28, hB29, hx32⟩
  have hm31 := h28.int (k := 4) (kd := .i64) (z := ((k : Nat) : Int)) rfl
  clear h25 hB22
  refine kS ?_
  refine kS ?_
  refine rp 5 ?_
  refine b0 (.C 0 36 <| .C 1 37 <| .L 2 38 2 15 <| .E 3 39 (.int .i64 ((i.links.length : Nat) : Int)) <| .E 4 40 (.bool (decide (((k : Nat) : Int) < ((i.links.length : Nat) : Int)))) <| .nil) [(40, .bool (decide (((k : Nat) : Int) < ((i.links.length : Nat) : Int)))), (1, .pointer (some ⟨b3, 0, none⟩)), (2, .pointer (some ⟨b8, 0, none⟩)), (3, .pointer (some ⟨b16, 0, none⟩)), (4, .int .i64 ((k : Nat) : Int))] h28 (Kw.nil hB29) fun q33 h34 => ?_
  clear h28
  refine wpO_end ?_
  refine then_n ?_
  refine kC 40 (decide (((k : Nat) : Int) < ((i.links.length : Nat) : Int))) h34 (fun hc35 => ?_) (fun hc35 => ?_)
  ·
    have hp36 : (((k : Nat) : Int) < ((i.links.length : Nat) : Int)) := of_decide_eq_true hc35
    have hlt : k < i.links.length := by omega
    obtain ⟨x, hx⟩ : ∃ x, i.links[k]? = some x := ⟨i.links[k], List.getElem?_eq_getElem hlt⟩
    obtain ⟨ad, hA, hE0⟩ := hr.el (k * 2) [.int .i64 x.t, .string x.r] (by simp) (lkc_el i.links k x hx)
    subst hA
    refine c_skip (by kernel_rfl) ?_
    refine then_n ?_
    refine kS ?_
    refine c_block 1 (by kernel_rfl) ?_
    have hD37 := hB29.drew
    refine rd (Bx w [(b16, .cells #[.string i.ref, .int .i64 i.kind, .string i.sender, .string i.cpty, .int .i64 i.side, .string i.asset, .int .i64 i.qty, .int .i64 i.amt, .int .i64 i.tday, .int .i64 i.sday, .int .i64 i.prio, .bool i.part, .int .i64 i.minlot, .bool i.hold, .bool i.resv, .slice A' k c'] 50 (0, 0)), (b8, .cells #[.string (⟨#[]⟩ : ByteArray), .int .i64 0, .string (⟨#[]⟩ : ByteArray), .string (⟨#[]⟩ : ByteArray), .int .i64 0, .string (⟨#[]⟩ : ByteArray), .int .i64 0, .int .i64 0, .int .i64 0, .int .i64 0, .int .i64 0, .bool false, .int .i64 0, .bool false, .bool false, .slice none 0 0] 50 (0, 0)), (b3, .cells (insV i (some ad) c).cells 30 (0, 0))]) 19 [⟨0, true, 0, 8, 8796093022208⟩, ⟨1, true, 1, 8796093022208, 17592186044416⟩, ⟨2, true, 0, 2, 35184372088832⟩, ⟨3, true, 4, 35184372088832, 70368744177664⟩, ⟨4, true, 0, 16, 140737488355328⟩, ⟨5, true, 24, 211106232532992, 281474976710656⟩, ⟨6, true, 32, 281474976710656, 562949953421312⟩, ⟨7, true, 64, 562949953421312, 1125899906842624⟩, ⟨8, true, 0, 2, 2251799813685248⟩, ⟨9, true, 256, 2251799813685248, 4503599627370496⟩, ⟨10, true, 0, 16, 9007199254740992⟩, ⟨11, true, 1536, 13510798882111488, 18014398509481984⟩, ⟨12, true, 2048, 18014398509481984, 36028797018963968⟩, ⟨13, true, 4096, 36028797018963968, 72057594037927936⟩, ⟨14, true, 8320, 73183493944770560, 144115188075855872⟩, ⟨15, false, 16384, 144115188075855872, 288230376151711744⟩, ⟨16, false, 32770, 288247968337756160, 576460752303423488⟩, ⟨17, true, 131071, 8, 1152921504606846976⟩, ⟨18, false, 262143, 1729382256910270464, 0⟩] hD37 ?_
    have ho38 := own_drew hx32
    generalize World.drew w27 = w39 at hD37 ho38 ⊢
    refine d0 (.C 0 43 <| .L 1 44 0 15 <| .C 2 45 <| .L 3 46 2 15 <| .C 4 47 <| .nil) [(47, .int .i64 ((k : Nat) : Int)), (46, .slice (some ad) i.links.length c), (44, .slice A' k c'), (40, .bool (decide (((k : Nat) : Int) < ((i.links.length : Nat) : Int)))), (1, .pointer (some ⟨b3, 0, none⟩)), (2, .pointer (some ⟨b8, 0, none⟩)), (3, .pointer (some ⟨b16, 0, none⟩)), (4, .int .i64 ((k : Nat) : Int))] h34 (fun _ hS => Kw.nil hS) fun q40 h41 => ?_
    clear h34
    refine fE 5 48 (.indexAddr 28 (.tmp 46) (.tmp 47)) 0 (.pointer (some ((ad.add (k * 2)).add 0))) h41 (hr := fun _ hS => r_index0 (n := i.links.length) (c := c) (kd := .i64) (by kernel_rfl) (by kernel_rfl) hlt (by kernel_rfl)) fun q42 h43 => ?_
    clear h41
    refine d0 (.F 6 49 0 0 0 <| .X 7 50 0 0 <| .C 8 51 <| .L 9 52 2 15 <| .C 10 53 <| .nil) [(53, .int .i64 ((k : Nat) : Int)), (52, .slice (some ad) i.links.length c), (50, .int .i64 x.t), (44, .slice A' k c'), (40, .bool (decide (((k : Nat) : Int) < ((i.links.length : Nat) : Int)))), (1, .pointer (some ⟨b3, 0, none⟩)), (2, .pointer (some ⟨b8, 0, none⟩)), (3, .pointer (some ⟨b16, 0, none⟩)), (4, .int .i64 ((k : Nat) : Int))] h43 (fun _ hS => (Kw.nil hS).cons (hE0.below hS.bel)) fun q44 h45 => ?_
    clear h43
    refine fE 11 54 (.indexAddr 28 (.tmp 52) (.tmp 53)) 0 (.pointer (some ((ad.add (k * 2)).add 0))) h45 (hr := fun _ hS => r_index0 (n := i.links.length) (c := c) (kd := .i64) (by kernel_rfl) (by kernel_rfl) hlt (by kernel_rfl)) fun q46 h47 => ?_
    clear h45
    refine d0 (.F 12 55 0 0 1 <| .X 13 56 0 1 <| .E 14 57 (.agg #[.int .i64 x.t, .string x.r]) <| .nil) [(57, .agg #[.int .i64 x.t, .string x.r]), (44, .slice A' k c'), (40, .bool (decide (((k : Nat) : Int) < ((i.links.length : Nat) : Int)))), (1, .pointer (some ⟨b3, 0, none⟩)), (2, .pointer (some ⟨b8, 0, none⟩)), (3, .pointer (some ⟨b16, 0, none⟩)), (4, .int .i64 ((k : Nat) : Int))] h47 (fun _ hS => (Kw.nil hS).cons (hE0.below hS.bel)) fun q48 h49 => ?_
    clear h47
    refine sA 15 58 (fun b => .slice (some ⟨b, 0, none⟩) 1 1) (.cells #[.int .i64 x.t, .string x.r] 118 (0, 0)) h49 gok_none hD37 (fun _ _ hq => hq.tail) (fun b52 w53 hB54 hN q50 h51 => ?_)
    have ho55 := own_below ho38 hN
    clear h49 hD37 hN
    have hr64 := Rd.of_blk (hB54.at 0 rfl)
    refine stApp (x := Operand.tmp 44) (y := Operand.tmp 58) (i := 16) (d := 59) (t := 48) (e := 118) (size := 2) (bytes := 24) (base := w.heap.size) (nn := k) (m := 1) (c := 1) (ty := 48) (g := none) (v := .slice A' k c') (xs := (lkc (i.links.take k))) (news := [.int .i64 x.t, .string x.r]) (ad := ⟨b52, 0, none⟩) h51 (by kernel_rfl) (by kernel_rfl) (by kernel_rfl) gok_none (by kernel_rfl) (by decide) (by kernel_rfl) (by kernel_rfl) ho55 (by kernel_rfl) (fun j u hj => by obtain ⟨ad', e1, -, h1⟩ := hr64 j u hj; cases e1; exact h1) (by intro u hu; revert u hu; simp only [List.forall_mem_cons]; exact ⟨rfl, rfl, fun _ h => absurd h (by simp)⟩) (by first | (unfold maxLen; omega) | omega) (by first | (unfold maxLen; omega) | omega) hB54.tail hB54.bel.size (Nat.le_refl _) (by kernel_rfl) (fun _ hq => hq) (fun v58 w59 ho60 hg61 hB62 hz63 q56 h57 => ?_)
    clear h51 hB54 hr64
    obtain ⟨A65, cp66, rfl, -, hr67⟩ := own_rd ho60
    refine d0 (.C 17 60 <| .nil) [(60, .pointer (some ⟨b16, 15, none⟩)), (59, .slice A65 (k + 1) cp66), (40, .bool (decide (((k : Nat) : Int) < ((i.links.length : Nat) : Int)))), (1, .pointer (some ⟨b3, 0, none⟩)), (2, .pointer (some ⟨b8, 0, none⟩)), (3, .pointer (some ⟨b16, 0, none⟩)), (4, .int .i64 ((k : Nat) : Int))] h57 (fun _ hS => Kw.nil hS) fun q68 h69 => ?_
    clear h57
    refine sW 18 0 15 [(b16, .cells #[.string i.ref, .int .i64 i.kind, .string i.sender, .string i.cpty, .int .i64 i.side, .string i.asset, .int .i64 i.qty, .int .i64 i.amt, .int .i64 i.tday, .int .i64 i.sday, .int .i64 i.prio, .bool i.part, .int .i64 i.minlot, .bool i.hold, .bool i.resv, .slice A65 (k + 1) cp66] 50 (0, 0)), (b8, .cells #[.string (⟨#[]⟩ : ByteArray), .int .i64 0, .string (⟨#[]⟩ : ByteArray), .string (⟨#[]⟩ : ByteArray), .int .i64 0, .string (⟨#[]⟩ : ByteArray), .int .i64 0, .int .i64 0, .int .i64 0, .int .i64 0, .int .i64 0, .bool false, .int .i64 0, .bool false, .bool false, .slice none 0 0] 50 (0, 0)), (b3, .cells (insV i (some ad) c).cells 30 (0, 0))] h69 gok_none hB62 (.inl (by kernel_rfl)) (fun w72 hB73 hT q70 h71 => ?_)
    clear h69 hB62
    have ho74 := own_turned ho60 hT (by kernel_rfl)
    clear hT
    refine wpO_end ?_
    have h75 := h71.keep [(40, .bool (decide (((k : Nat) : Int) < ((i.links.length : Nat) : Int)))), (1, .pointer (some ⟨b3, 0, none⟩)), (2, .pointer (some ⟨b8, 0, none⟩)), (3, .pointer (some ⟨b16, 0, none⟩)), (4, .int .i64 ((k : Nat) : Int))] ⟨rfl, rfl, rfl, rfl, rfl, trivial⟩
    clear h71
    refine inB_n ?_
    refine then_n ?_
    refine rp 3 ?_
    refine b0 (.C 0 41 <| .E 1 42 (.int .i64 (IntKind.i64.wrap (((k : Nat) : Int) + 1))) <| .C 2 4 <| .nil) [(4, .int .i64 (IntKind.i64.wrap (((k : Nat) : Int) + 1))), (40, .bool (decide (((k : Nat) : Int) < ((i.links.length : Nat) : Int)))), (1, .pointer (some ⟨b3, 0, none⟩)), (2, .pointer (some ⟨b8, 0, none⟩)), (3, .pointer (some ⟨b16, 0, none⟩))] h75 (Kw.nil hB73) fun q76 h77 => ?_
    clear h75
    refine wpO_end ?_
    have h78 := h77.keep [(1, .pointer (some ⟨b3, 0, none⟩)), (2, .pointer (some ⟨b8, 0, none⟩)), (3, .pointer (some ⟨b16, 0, none⟩)), (4, .int .i64 (((k + 1) : Nat) : Int))] ⟨rfl, rfl, rfl, look_int rfl (wrap_succ (by have := hn; omega)), trivial⟩
    have hm79 := h78.int (k := 4) (kd := .i64) (z := (((k + 1) : Nat) : Int)) rfl
    refine then_n ⟨⟨k + 1, A65, cp66, by omega, h78, hB73, by rw [← lkc_snoc _ _ _ hx]; exact ho74⟩, ?_⟩
    show (((i.links.length : Int)) - intAt _ 4).toNat < (((i.links.length : Int)) - intAt _ 4).toNat
    rw [hm31, hm79]; omega
  have hp80 : ¬ (((k : Nat) : Int) < ((i.links.length : Nat) : Int)) := of_decide_eq_false hc35
  have hke : k = i.links.length := by omega
  refine c_exit 0 (by kernel_rfl) ?_
  refine then_e (then_e (inB_hit ?_))
  refine then_n ?_
  refine kS ?_
  refine rp 2 ?_
  refine b0 (.S 0 61 0 0 16 <| .nil) [(61, .agg #[.string i.ref, .int .i64 i.kind, .string i.sender, .string i.cpty, .int .i64 i.side, .string i.asset, .int .i64 i.qty, .int .i64 i.amt, .int .i64 i.tday, .int .i64 i.sday, .int .i64 i.prio, .bool i.part, .int .i64 i.minlot, .bool i.hold, .bool i.resv, .slice A' k c']), (2, .pointer (some ⟨b8, 0, none⟩))] h34 (Kw.nil hB29) fun q81 h82 => ?_
  clear h34
  refine sW 1 1 0 [(b16, .cells #[.string i.ref, .int .i64 i.kind, .string i.sender, .string i.cpty, .int .i64 i.side, .string i.asset, .int .i64 i.qty, .int .i64 i.amt, .int .i64 i.tday, .int .i64 i.sday, .int .i64 i.prio, .bool i.part, .int .i64 i.minlot, .bool i.hold, .bool i.resv, .slice A' k c'] 50 (0, 0)), (b8, .cells #[.string i.ref, .int .i64 i.kind, .string i.sender, .string i.cpty, .int .i64 i.side, .string i.asset, .int .i64 i.qty, .int .i64 i.amt, .int .i64 i.tday, .int .i64 i.sday, .int .i64 i.prio, .bool i.part, .int .i64 i.minlot, .bool i.hold, .bool i.resv, .slice A' k c'] 50 (0, 0)), (b3, .cells (insV i A c).cells 30 (0, 0))] h82 gok_none hB29 (.inr fun _ _ => trivial) (fun w85 hB86 hT q83 h84 => ?_)
  clear h82 hB29
  have ho87 := own_turned hx32 hT (by kernel_rfl)
  clear hT
  refine wpO_end ?_
  have h88 := h84.keep [(2, .pointer (some ⟨b8, 0, none⟩))] ⟨rfl, trivial⟩
  clear h84
  refine then_n ?_
  refine c_ret (by kernel_rfl) ?_
  refine retC (t := 2) (T := 50) (b := b8) (vs := [.string i.ref, .int .i64 i.kind, .string i.sender, .string i.cpty, .int .i64 i.side, .string i.asset, .int .i64 i.qty, .int .i64 i.amt, .int .i64 i.tday, .int .i64 i.sday, .int .i64 i.prio, .bool i.part, .int .i64 i.minlot, .bool i.hold, .bool i.resv, .slice A' k c']) h88 (by kernel_rfl) (by kernel_rfl) hB86 1 (by kernel_rfl) (by kernel_rfl) (by kernel_rfl) ?_
  subst hke
  exact ⟨_, _, rfl, by have := ho87; rw [List.take_length] at this; exact this, hB86.bel⟩

end Go.Proofs.YtljegdokbifoiaaGreatDoor.Af
