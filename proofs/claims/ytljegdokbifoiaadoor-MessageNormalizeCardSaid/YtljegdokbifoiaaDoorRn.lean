/- Normalize in the reference's package. Short lists of links. -/
import Derived.Test.YtljegdokbifoiaaDoorLs
import Derived.Test.YtljegdokbifoiaaDoorNq
namespace Go.Proofs.YtljegdokbifoiaaDoor.Af
open Go.RowKit
set_option maxHeartbeats 4000000 in
set_option maxRecDepth 20000 in
theorem c37 (i : Ins) (A : Option Addr) (c : Nat) (w : World) (hn : i.links.length ≤ 1000) (hr : Rd w A (lkc i.links)) : Calls Tryd.prog 37 #[insV i A c] w (fun e w' => ∃ (A' : Option Addr) (c' : Nat), e = .returned (.tuple #[insV (nrmR i).1 A' c', .int .i64 (nrmR i).2]) ∧ World.ownsRow w' w.heap.size 67 2 (.slice A' (nrmR i).1.links.length c') (nrmR i).1.links.length (lkc (nrmR i).1.links) ∧ Below w.heap.size w w') := by
  refine enter Tryd.func37 (by kernel_rfl) ?_ (by kernel_rfl)
  intro q0 h0
  replace h0 := h0.conv (l' := [(0, insV i A c)]) rfl
  have hB := Bx.refl w
  refine kS ?_
  refine rp 3 ?_
  refine sA 0 1 (fun b => .pointer (some ⟨b, 0, none⟩)) (.cells (insV i A c).cells 24 (0, 0)) h0 gok_none hB (fun _ _ hq => trivial) (fun b3 w4 hB5 hN q1 h2 => ?_)
  clear h0 hB hN
  refine sA 1 2 (fun b => .pointer (some ⟨b, 0, none⟩)) (.cells #[.string (⟨#[]⟩ : ByteArray), .int .i64 0, .string (⟨#[]⟩ : ByteArray), .string (⟨#[]⟩ : ByteArray), .int .i64 0, .string (⟨#[]⟩ : ByteArray), .int .i64 0, .int .i64 0, .int .i64 0, .int .i64 0, .int .i64 0, .bool false, .int .i64 0, .bool false, .bool false, .slice none 0 0] 24 (0, 0)) h2 gok_none hB5 (fun _ _ hq => trivial) (fun b8 w9 hB10 hN q6 h7 => ?_)
  clear h2 hB5 hN
  refine b0 (.C 2 3 <| .nil) [(3, .int .i64 0), (2, .pointer (some ⟨b8, 0, none⟩)), (1, .pointer (some ⟨b3, 0, none⟩))] h7 (Kw.nil hB10) fun q11 h12 => ?_
  clear h7
  refine wpO_end ?_
  refine then_n ?_
  refine kS ?_
  refine kS ?_
  refine rp 3 ?_
  refine b0 (.S 0 8 1 0 16 <| .nil) [(8, insV i A c), (3, .int .i64 0), (2, .pointer (some ⟨b8, 0, none⟩)), (1, .pointer (some ⟨b3, 0, none⟩))] h12 (Kw.nil hB10) fun q13 h14 => ?_
  clear h12
  refine sC 1 9 h14 gok_none (c15 i A c w9 (show i.links.length ≤ 4611686018427387904 by omega) (hr.below hB10.bel)) ?_
  rintro _ w17 ⟨rfl, hb18⟩
  have hB19 := hB10.call hb18
  refine ⟨_, rfl, trivial, fun q15 h16 => ?_⟩
  clear h14 hB10 hb18
  refine b0 (.C 2 4 <| .nil) [(4, .int .i64 (refI i)), (3, .int .i64 0), (2, .pointer (some ⟨b8, 0, none⟩)), (1, .pointer (some ⟨b3, 0, none⟩))] h16 (Kw.nil hB19) fun q20 h21 => ?_
  clear h16
  refine wpO_end ?_
  refine then_n ?_
  refine kS ?_
  refine rp 2 ?_
  refine b0 (.C 0 10 <| .E 1 11 (.bool (refI i != (0 : Int))) <| .nil) [(11, .bool (refI i != (0 : Int))), (4, .int .i64 (refI i)), (3, .int .i64 0), (2, .pointer (some ⟨b8, 0, none⟩)), (1, .pointer (some ⟨b3, 0, none⟩))] h21 (Kw.nil hB19) fun q22 h23 => ?_
  clear h21
  refine wpO_end ?_
  refine then_n ?_
  refine kC 11 (refI i != (0 : Int)) h23 (fun hc24 => ?_) (fun hc24 => ?_)
  ·
    refine kS ?_
    refine rp 4 ?_
    refine b0 (.E 0 12 (.agg #[.string (⟨#[]⟩ : ByteArray), .int .i64 0, .string (⟨#[]⟩ : ByteArray), .string (⟨#[]⟩ : ByteArray), .int .i64 0, .string (⟨#[]⟩ : ByteArray), .int .i64 0, .int .i64 0, .int .i64 0, .int .i64 0, .int .i64 0, .bool false, .int .i64 0, .bool false, .bool false, .slice none 0 0]) <| .C 1 13 <| .nil) [(13, .int .i64 (refI i)), (12, .agg #[.string (⟨#[]⟩ : ByteArray), .int .i64 0, .string (⟨#[]⟩ : ByteArray), .string (⟨#[]⟩ : ByteArray), .int .i64 0, .string (⟨#[]⟩ : ByteArray), .int .i64 0, .int .i64 0, .int .i64 0, .int .i64 0, .int .i64 0, .bool false, .int .i64 0, .bool false, .bool false, .slice none 0 0]), (3, .int .i64 0), (2, .pointer (some ⟨b8, 0, none⟩)), (1, .pointer (some ⟨b3, 0, none⟩))] h23 (Kw.nil hB19) fun q25 h26 => ?_
    clear h23
    refine sW 2 0 0 [(b8, .cells #[.string (⟨#[]⟩ : ByteArray), .int .i64 0, .string (⟨#[]⟩ : ByteArray), .string (⟨#[]⟩ : ByteArray), .int .i64 0, .string (⟨#[]⟩ : ByteArray), .int .i64 0, .int .i64 0, .int .i64 0, .int .i64 0, .int .i64 0, .bool false, .int .i64 0, .bool false, .bool false, .slice none 0 0] 24 (0, 0)), (b3, .cells (insV i A c).cells 24 (0, 0))] h26 gok_none hB19 (.inr fun _ _ => trivial) (fun w29 hB30 hT q27 h28 => ?_)
    clear h26 hB19
    clear hT
    refine b0 (.C 3 3 <| .nil) [(3, .int .i64 (refI i)), (2, .pointer (some ⟨b8, 0, none⟩)), (1, .pointer (some ⟨b3, 0, none⟩))] h28 (Kw.nil hB30) fun q31 h32 => ?_
    clear h28
    refine wpO_end ?_
    refine then_n ?_
    refine c_ret (by kernel_rfl) ?_
    refine then_r ?_
    refine retCT (t := 2) (T := 24) (u := 3) (b := b8) (v := .int .i64 (refI i)) (vs := [.string (⟨#[]⟩ : ByteArray), .int .i64 0, .string (⟨#[]⟩ : ByteArray), .string (⟨#[]⟩ : ByteArray), .int .i64 0, .string (⟨#[]⟩ : ByteArray), .int .i64 0, .int .i64 0, .int .i64 0, .int .i64 0, .int .i64 0, .bool false, .int .i64 0, .bool false, .bool false, .slice none 0 0]) h32 (by kernel_rfl) (by kernel_rfl) (by kernel_rfl) hB30 0 (by kernel_rfl) (by kernel_rfl) (by kernel_rfl) ?_
    have e33 : nrmR i = (zIns, refI i) := cT hc24
    exact ⟨_, _, by rw [e33]; rfl, by rw [e33]; exact own_nil _ _ _ _, hB30.bel⟩
  refine c_skip (by kernel_rfl) ?_
  refine then_n ?_
  refine kS ?_
  refine rp 1 ?_
  refine b0 (.C 0 5 <| .nil) [(5, .slice none 0 0), (3, .int .i64 0), (2, .pointer (some ⟨b8, 0, none⟩)), (1, .pointer (some ⟨b3, 0, none⟩))] h23 (Kw.nil hB19) fun q34 h35 => ?_
  clear h23
  refine wpO_end ?_
  refine then_n ?_
  refine kS ?_
  refine kS ?_
  refine rp 1 ?_
  refine b0 (.C 0 6 <| .nil) [(6, .int .i64 0), (5, .slice none 0 0), (3, .int .i64 0), (2, .pointer (some ⟨b8, 0, none⟩)), (1, .pointer (some ⟨b3, 0, none⟩))] h35 (Kw.nil hB19) fun q36 h37 => ?_
  clear h35
  refine wpO_end ?_
  refine then_n ?_
  refine c_block 0 (by kernel_rfl) ?_
  have hgd := ref_links i (by simpa using hc24)
  refine c_loop (by kernel_rfl) (fun qa qw => ∃ k : Nat, ∃ (A' : Option Addr) (c' : Nat), (k ≤ i.links.length) ∧ Fr 60 [(1, .pointer (some ⟨b3, 0, none⟩)), (2, .pointer (some ⟨b8, 0, none⟩)), (3, .int .i64 0), (5, .slice A' ((srtL (i.links.take k)).length) c'), (6, .int .i64 ((k : Nat) : Int))] qa ∧ Bx w [(b8, .cells #[.string (⟨#[]⟩ : ByteArray), .int .i64 0, .string (⟨#[]⟩ : ByteArray), .string (⟨#[]⟩ : ByteArray), .int .i64 0, .string (⟨#[]⟩ : ByteArray), .int .i64 0, .int .i64 0, .int .i64 0, .int .i64 0, .int .i64 0, .bool false, .int .i64 0, .bool false, .bool false, .slice none 0 0] 24 (0, 0)), (b3, .cells (insV i A c).cells 24 (0, 0))] qw ∧ (World.ownsRow qw w.heap.size 67 2 (.slice A' (srtL (i.links.take k)).length c') (srtL (i.links.take k)).length (lkc (srtL (i.links.take k))))) (fun qa _ => (((i.links.length : Int)) - intAt qa 6).toNat) ⟨0, none, 0, Nat.zero_le _, h37.keep _ ⟨rfl, rfl, rfl, rfl, rfl, trivial⟩, hB19, own_nil _ _ _ _⟩ ?_
  rintro q38 w39 ⟨k, A', c', hk42, h40, hB41, hx44⟩
  have hm43 := h40.int (k := 6) (kd := .i64) (z := ((k : Nat) : Int)) rfl
  clear h37 hB19
  refine kS ?_
  refine kS ?_
  refine rp 5 ?_
  refine b0 (.C 0 14 <| .C 1 15 <| .L 2 16 1 15 <| .nil) [(16, .slice A i.links.length c), (14, .int .i64 ((k : Nat) : Int)), (1, .pointer (some ⟨b3, 0, none⟩)), (2, .pointer (some ⟨b8, 0, none⟩)), (3, .int .i64 0), (5, .slice A' ((srtL (i.links.take k)).length) c'), (6, .int .i64 ((k : Nat) : Int))] h40 (Kw.nil hB41) fun q45 h46 => ?_
  clear h40
  refine eE 3 17 (.call { callee := .builtin .len, args := #[.tmp 16], argTypes := #[22] }) 3 (.int .i64 ((i.links.length : Nat) : Int)) h46 fun q47 h48 => ?_
  clear h46
  refine b0 (.E 4 18 (.bool (decide (((k : Nat) : Int) < ((i.links.length : Nat) : Int)))) <| .nil) [(18, .bool (decide (((k : Nat) : Int) < ((i.links.length : Nat) : Int)))), (1, .pointer (some ⟨b3, 0, none⟩)), (2, .pointer (some ⟨b8, 0, none⟩)), (3, .int .i64 0), (5, .slice A' ((srtL (i.links.take k)).length) c'), (6, .int .i64 ((k : Nat) : Int))] h48 (Kw.nil hB41) fun q49 h50 => ?_
  clear h48
  refine wpO_end ?_
  refine then_n ?_
  refine kC 18 (decide (((k : Nat) : Int) < ((i.links.length : Nat) : Int))) h50 (fun hc51 => ?_) (fun hc51 => ?_)
  ·
    have hp52 : (((k : Nat) : Int) < ((i.links.length : Nat) : Int)) := of_decide_eq_true hc51
    have hlt : k < i.links.length := by omega
    obtain ⟨x, hx⟩ : ∃ x, i.links[k]? = some x := ⟨i.links[k], List.getElem?_eq_getElem hlt⟩
    obtain ⟨ad, hA0, hE0⟩ := hr.el (k * 2) [.int .i64 x.t, .string x.r] (by simp) (lkc_el i.links k x hx)
    subst hA0
    refine c_skip (by kernel_rfl) ?_
    refine then_n ?_
    refine kS ?_
    refine c_block 1 (by kernel_rfl) ?_
    refine kS ?_
    refine rp 1 ?_
    refine b0 (.C 0 7 <| .nil) [(7, .int .i64 0), (18, .bool (decide (((k : Nat) : Int) < ((i.links.length : Nat) : Int)))), (1, .pointer (some ⟨b3, 0, none⟩)), (2, .pointer (some ⟨b8, 0, none⟩)), (3, .int .i64 0), (5, .slice A' ((srtL (i.links.take k)).length) c'), (6, .int .i64 ((k : Nat) : Int))] h50 (Kw.nil hB41) fun q53 h54 => ?_
    clear h50
    refine wpO_end ?_
    refine then_n ?_
    refine kS ?_
    refine c_block 2 (by kernel_rfl) ?_
    refine c_loop (by kernel_rfl) (fun qa qw => ∃ j : Nat, (j ≤ (srtL (i.links.take k)).length) ∧ Fr 60 [(1, .pointer (some ⟨b3, 0, none⟩)), (2, .pointer (some ⟨b8, 0, none⟩)), (3, .int .i64 0), (5, .slice A' ((srtL (i.links.take k)).length) c'), (6, .int .i64 ((k : Nat) : Int)), (7, .int .i64 ((j : Nat) : Int))] qa ∧ Bx w [(b8, .cells #[.string (⟨#[]⟩ : ByteArray), .int .i64 0, .string (⟨#[]⟩ : ByteArray), .string (⟨#[]⟩ : ByteArray), .int .i64 0, .string (⟨#[]⟩ : ByteArray), .int .i64 0, .int .i64 0, .int .i64 0, .int .i64 0, .int .i64 0, .bool false, .int .i64 0, .bool false, .bool false, .slice none 0 0] 24 (0, 0)), (b3, .cells (insV i (some ad) c).cells 24 (0, 0))] qw ∧ (World.ownsRow qw w.heap.size 67 2 (.slice A' (srtL (i.links.take k)).length c') (srtL (i.links.take k)).length (lkc (srtL (i.links.take k)))) ∧ (∀ (q : Nat) (z : Lk), q < j → (srtL (i.links.take k))[q]? = some z → ltB z.r x.r = true)) (fun qa _ => (((((srtL (i.links.take k)).length : Nat) : Int)) - intAt qa 7).toNat) ⟨0, Nat.zero_le _, h54.keep _ ⟨rfl, rfl, rfl, rfl, rfl, rfl, trivial⟩, hB41, hx44, fun q _ hq => absurd hq (Nat.not_lt_zero _)⟩ ?_
    rintro q55 w56 ⟨j, hk59, h57, hB58, hx61, hx62⟩
    have hm60 := h57.int (k := 7) (kd := .i64) (z := ((j : Nat) : Int)) rfl
    clear h54 hB41
    refine kS ?_
    refine kS ?_
    rcases Nat.lt_or_ge j (srtL (i.links.take k)).length with hjl | hjl
    ·
      have hcj : decide (((j : Nat) : Int) < (((srtL (i.links.take k)).length : Nat) : Int)) = true := decide_eq_true (by omega)
      obtain ⟨y, hy⟩ : ∃ y, (srtL (i.links.take k))[j]? = some y := ⟨(srtL (i.links.take k))[j], List.getElem?_eq_getElem hjl⟩
      have hysz : y.r.size ≤ 16 := rf_size (by simpa using (hgd.1 y (List.mem_of_mem_take ((srt_perm _).mem_iff.1 (List.mem_of_getElem? hy)))).2.1)
      obtain ⟨gb63, cur64, hA65, hge66, hbk67, htk68⟩ := own_blkE hx61 (by omega)
      subst hA65
      have hB69 := bx_own hB58 hbk67 hge66 (by kernel_rfl)
      clear hB58
      have hD70 := hB69.drew
      refine rd (Bx w [(gb63, .cells cur64 67 (0, 0)), (b8, .cells #[.string (⟨#[]⟩ : ByteArray), .int .i64 0, .string (⟨#[]⟩ : ByteArray), .string (⟨#[]⟩ : ByteArray), .int .i64 0, .string (⟨#[]⟩ : ByteArray), .int .i64 0, .int .i64 0, .int .i64 0, .int .i64 0, .int .i64 0, .bool false, .int .i64 0, .bool false, .bool false, .slice none 0 0] 24 (0, 0)), (b3, .cells (insV i (some ad) c).cells 24 (0, 0))]) 18 [⟨0, true, 0, 128, 2097152⟩, ⟨1, true, 0, 32, 4194304⟩, ⟨2, true, 2, 4194304, 8388608⟩, ⟨3, true, 5, 10485760, 16777216⟩, ⟨4, true, 8, 16777216, 33554432⟩, ⟨5, true, 16, 33554464, 67108864⟩, ⟨6, true, 16, 33554560, 134217728⟩, ⟨7, true, 112, 234881024, 268435456⟩, ⟨8, true, 144, 301989888, 536870912⟩, ⟨9, true, 272, 570425344, 1073741824⟩, ⟨10, true, 16, 33554434, 2147483648⟩, ⟨11, true, 1040, 2181038080, 4294967296⟩, ⟨12, true, 16, 33554496, 8589934592⟩, ⟨13, true, 6160, 12918456320, 17179869184⟩, ⟨14, true, 8208, 17213423616, 34359738368⟩, ⟨15, true, 16400, 34393292800, 68719476736⟩, ⟨16, false, 33296, 69826772992, 137438953472⟩, ⟨17, true, 65552, 137472507904, 274877906944⟩] hD70 ?_
      have ho71 := own_drew hx61
      generalize World.drew w56 = w72 at hD70 ho71 ⊢
      refine d0 (.C 0 21 <| .C 1 22 <| .nil) [(22, .slice (some ⟨gb63, 0, none⟩) ((srtL (i.links.take k)).length) c'), (21, .int .i64 ((j : Nat) : Int)), (1, .pointer (some ⟨b3, 0, none⟩)), (2, .pointer (some ⟨b8, 0, none⟩)), (3, .int .i64 0), (5, .slice (some ⟨gb63, 0, none⟩) ((srtL (i.links.take k)).length) c'), (6, .int .i64 ((k : Nat) : Int)), (7, .int .i64 ((j : Nat) : Int))] h57 (fun _ hS => Kw.nil hS) fun q73 h74 => ?_
      clear h57
      refine fE 2 23 (.call { callee := .builtin .len, args := #[.tmp 22], argTypes := #[22] }) 3 (.int .i64 (((srtL (i.links.take k)).length : Nat) : Int)) h74 fun q75 h76 => ?_
      clear h74
      refine d1 25 hcj (.E 3 24 (.bool (decide (((j : Nat) : Int) < (((srtL (i.links.take k)).length : Nat) : Int)))) <| .C 4 25 <| .C 5 26 <| .C 6 27 <| .nil) [(27, .int .i64 ((j : Nat) : Int)), (26, .slice (some ⟨gb63, 0, none⟩) ((srtL (i.links.take k)).length) c'), (25, .bool (decide (((j : Nat) : Int) < (((srtL (i.links.take k)).length : Nat) : Int)))), (1, .pointer (some ⟨b3, 0, none⟩)), (2, .pointer (some ⟨b8, 0, none⟩)), (3, .int .i64 0), (5, .slice (some ⟨gb63, 0, none⟩) ((srtL (i.links.take k)).length) c'), (6, .int .i64 ((k : Nat) : Int)), (7, .int .i64 ((j : Nat) : Int))] h76 (fun _ hS => Kw.nil hS) fun q77 h78 => ?_
      clear h76
      refine fG 7 28 (.indexAddr 22 (.tmp 26) (.tmp 27)) 0 (4, true) (.pointer (some (((⟨gb63, 0, none⟩ : Addr).add (j * 2)).add 0))) (g1 25 hcj) h78 (hr := fun _ hS => r_index0 (n := (srtL (i.links.take k)).length) (c := c') (kd := .i64) (by kernel_rfl) (by kernel_rfl) hjl (by kernel_rfl)) fun q79 h80 => ?_
      clear h78
      refine d1 25 hcj (.F 8 29 0 0 1 <| .X 9 30 0 1 <| .C 10 31 <| .L 11 32 2 15 <| .C 12 33 <| .nil) [(33, .int .i64 ((k : Nat) : Int)), (32, .slice (some ad) i.links.length c), (30, .string y.r), (25, .bool (decide (((j : Nat) : Int) < (((srtL (i.links.take k)).length : Nat) : Int)))), (1, .pointer (some ⟨b3, 0, none⟩)), (2, .pointer (some ⟨b8, 0, none⟩)), (3, .int .i64 0), (5, .slice (some ⟨gb63, 0, none⟩) ((srtL (i.links.take k)).length) c'), (6, .int .i64 ((k : Nat) : Int)), (7, .int .i64 ((j : Nat) : Int))] h80 (fun _ hS => (Kw.nil hS).cons (el_own (hS.at 0 rfl) htk68 hy)) fun q81 h82 => ?_
      clear h80
      refine fG 13 34 (.indexAddr 22 (.tmp 32) (.tmp 33)) 0 (4, true) (.pointer (some ((ad.add (k * 2)).add 0))) (g1 25 hcj) h82 (hr := fun _ hS => r_index0 (n := i.links.length) (c := c) (kd := .i64) (by kernel_rfl) (by kernel_rfl) hlt (by kernel_rfl)) fun q83 h84 => ?_
      clear h82
      refine d1 25 hcj (.F 14 35 0 0 1 <| .X 15 36 0 1 <| .nil) [(36, .string x.r), (30, .string y.r), (25, .bool (decide (((j : Nat) : Int) < (((srtL (i.links.take k)).length : Nat) : Int)))), (1, .pointer (some ⟨b3, 0, none⟩)), (2, .pointer (some ⟨b8, 0, none⟩)), (3, .int .i64 0), (5, .slice (some ⟨gb63, 0, none⟩) ((srtL (i.links.take k)).length) c'), (6, .int .i64 ((k : Nat) : Int)), (7, .int .i64 ((j : Nat) : Int))] h84 (fun _ hS => (Kw.nil hS).cons (hE0.below hS.bel)) fun q85 h86 => ?_
      clear h84
      refine sC 16 37 (g := (some (4, true))) h86 (g1 25 hcj) (c57 y.r x.r w72 (by have := hysz; omega)) ?_
      rintro _ w89 ⟨rfl, hb90⟩
      have hB91 := hD70.call hb90
      have ho92 := own_below ho71 hb90
      refine ⟨_, rfl, hB91, fun q87 h88 => ?_⟩
      clear h86 hD70 hb90
      refine fE 17 38 (.pick (.tmp 25) (.tmp 37) (.const (.bool false))) 4 (.bool ((decide (((j : Nat) : Int) < (((srtL (i.links.take k)).length : Nat) : Int))) && (ltB y.r x.r))) h88 (hr := fun _ hS => r_and (c := decide (((j : Nat) : Int) < (((srtL (i.links.take k)).length : Nat) : Int))) (d := (ltB y.r x.r)) (by kernel_rfl) (fun _ => by kernel_rfl)) fun q93 h94 => ?_
      clear h88
      refine wpO_end ?_
      have h95 := h94.keep [(38, .bool ((decide (((j : Nat) : Int) < (((srtL (i.links.take k)).length : Nat) : Int))) && (ltB y.r x.r))), (1, .pointer (some ⟨b3, 0, none⟩)), (2, .pointer (some ⟨b8, 0, none⟩)), (3, .int .i64 0), (5, .slice (some ⟨gb63, 0, none⟩) ((srtL (i.links.take k)).length) c'), (6, .int .i64 ((k : Nat) : Int)), (7, .int .i64 ((j : Nat) : Int))] ⟨rfl, rfl, rfl, rfl, rfl, rfl, rfl, trivial⟩
      clear h94
      refine then_n ?_
      refine kC 38 ((decide (((j : Nat) : Int) < (((srtL (i.links.take k)).length : Nat) : Int))) && (ltB y.r x.r)) h95 (fun hc96 => ?_) (fun hc96 => ?_)
      ·
        have hB97 : Bx w [(b8, .cells #[.string (⟨#[]⟩ : ByteArray), .int .i64 0, .string (⟨#[]⟩ : ByteArray), .string (⟨#[]⟩ : ByteArray), .int .i64 0, .string (⟨#[]⟩ : ByteArray), .int .i64 0, .int .i64 0, .int .i64 0, .int .i64 0, .int .i64 0, .bool false, .int .i64 0, .bool false, .bool false, .slice none 0 0] 24 (0, 0)), (b3, .cells (insV i (some ad) c).cells 24 (0, 0))] w89 := hB91.sel [1, 2] (by decide) rfl
        clear hB91
        have hyx : ltB y.r x.r = true := by have := hc96; rw [hcj, Bool.true_and] at this; exact this
        refine c_skip (by kernel_rfl) ?_
        refine then_n ?_
        refine c_block 3 (by kernel_rfl) ?_
        refine rp 3 ?_
        refine b0 (.C 0 39 <| .E 1 40 (.int .i64 (IntKind.i64.wrap (((j : Nat) : Int) + 1))) <| .C 2 7 <| .nil) [(7, .int .i64 (IntKind.i64.wrap (((j : Nat) : Int) + 1))), (38, .bool ((decide (((j : Nat) : Int) < (((srtL (i.links.take k)).length : Nat) : Int))) && (ltB y.r x.r))), (1, .pointer (some ⟨b3, 0, none⟩)), (2, .pointer (some ⟨b8, 0, none⟩)), (3, .int .i64 0), (5, .slice (some ⟨gb63, 0, none⟩) ((srtL (i.links.take k)).length) c'), (6, .int .i64 ((k : Nat) : Int))] h95 (Kw.nil hB97) fun q98 h99 => ?_
        clear h95
        refine wpO_end ?_
        refine inB_n ?_
        have h100 := h99.keep [(1, .pointer (some ⟨b3, 0, none⟩)), (2, .pointer (some ⟨b8, 0, none⟩)), (3, .int .i64 0), (5, .slice (some ⟨gb63, 0, none⟩) ((srtL (i.links.take k)).length) c'), (6, .int .i64 ((k : Nat) : Int)), (7, .int .i64 (((j + 1) : Nat) : Int))] ⟨rfl, rfl, rfl, rfl, rfl, look_int rfl (wrap_succ (by have := hn; have := srt_len (i.links.take k); rw [List.length_take] at this; omega)), trivial⟩
        have hm101 := h100.int (k := 7) (kd := .i64) (z := (((j + 1) : Nat) : Int)) rfl
        refine then_n ⟨⟨j + 1, by omega, h100, hB97, ho92, fun q z hq hz => by rcases Nat.lt_succ_iff_lt_or_eq.1 hq with h' | rfl; exact hx62 q z h' hz; rw [hy] at hz; cases hz; exact hyx⟩, ?_⟩
        show (((((srtL (i.links.take k)).length : Nat) : Int)) - intAt _ 7).toNat < (((((srtL (i.links.take k)).length : Nat) : Int)) - intAt _ 7).toNat
        rw [hm60, hm101]; omega
      have hB102 : Bx w [(b8, .cells #[.string (⟨#[]⟩ : ByteArray), .int .i64 0, .string (⟨#[]⟩ : ByteArray), .string (⟨#[]⟩ : ByteArray), .int .i64 0, .string (⟨#[]⟩ : ByteArray), .int .i64 0, .int .i64 0, .int .i64 0, .int .i64 0, .int .i64 0, .bool false, .int .i64 0, .bool false, .bool false, .slice none 0 0] 24 (0, 0)), (b3, .cells (insV i (some ad) c).cells 24 (0, 0))] w89 := hB91.sel [1, 2] (by decide) rfl
      clear hB91
      have hyx : ltB y.r x.r = false := by have := hc96; rw [hcj, Bool.true_and] at this; exact this
      have hins : ins1 x (srtL (i.links.take k)) = (srtL (i.links.take k)).take j ++ x :: (srtL (i.links.take k)).drop j := ins1_at x _ j hk59 hx62 (fun z hz => by rw [hy] at hz; cases hz; exact hyx)
      refine c_exit 2 (by kernel_rfl) ?_
      refine then_e (then_e (inB_hit ?_))
      refine then_n ?_
      have hll := srt_len (i.links.take k)
      rw [List.length_take] at hll
      refine c_cut (fun qa qw => ∃ (v165 : Value), Fr 60 [(5, v165), (38, .bool ((decide (((j : Nat) : Int) < (((srtL (i.links.take k)).length : Nat) : Int))) && (ltB y.r x.r))), (1, .pointer (some ⟨b3, 0, none⟩)), (2, .pointer (some ⟨b8, 0, none⟩)), (3, .int .i64 0), (6, .int .i64 ((k : Nat) : Int)), (7, .int .i64 ((j : Nat) : Int))] qa ∧ Bx w [(b8, .cells #[.string (⟨#[]⟩ : ByteArray), .int .i64 0, .string (⟨#[]⟩ : ByteArray), .string (⟨#[]⟩ : ByteArray), .int .i64 0, .string (⟨#[]⟩ : ByteArray), .int .i64 0, .int .i64 0, .int .i64 0, .int .i64 0, .int .i64 0, .bool false, .int .i64 0, .bool false, .bool false, .slice none 0 0] 24 (0, 0)), (b3, .cells (insV i (some ad) c).cells 24 (0, 0))] qw ∧ World.ownsRow qw w.heap.size 67 2 v165 (srtL (i.links.take (k + 1))).length (lkc (srtL (i.links.take (k + 1))))) ?_ ?_
      ·
        have hD173 := hB102.drew
        refine reg_plan (S := Bx w [(b8, .cells #[.string (⟨#[]⟩ : ByteArray), .int .i64 0, .string (⟨#[]⟩ : ByteArray), .string (⟨#[]⟩ : ByteArray), .int .i64 0, .string (⟨#[]⟩ : ByteArray), .int .i64 0, .int .i64 0, .int .i64 0, .int .i64 0, .int .i64 0, .bool false, .int .i64 0, .bool false, .bool false, .slice none 0 0] 24 (0, 0)), (b3, .cells (insV i (some ad) c).cells 24 (0, 0))]) 17 [⟨0, false, 0, 0, 2199023255552⟩, ⟨1, true, 0, 32, 4398046511104⟩, ⟨2, true, 0, 128, 8796093022208⟩, ⟨3, true, 6, 13194139533312, 17592186044416⟩, ⟨4, false, 9, 19791209299968, 35184372088832⟩, ⟨5, true, 0, 2, 70368744177664⟩, ⟨6, true, 32, 70368744177664, 140737488355328⟩, ⟨7, true, 0, 64, 281474976710656⟩, ⟨8, true, 192, 422212465065984, 562949953421312⟩, ⟨9, true, 256, 562949953421312, 1125899906842624⟩, ⟨10, false, 512, 1125899906842624, 2251799813685248⟩, ⟨11, false, 1040, 2286984185774080, 4503599627370496⟩, ⟨12, true, 0, 32, 9007199254740992⟩, ⟨13, true, 0, 128, 18014398509481984⟩, ⟨14, true, 12288, 27021597764222976, 36028797018963968⟩, ⟨15, false, 18432, 40532396646334464, 72057594037927936⟩, ⟨16, true, 65535, 72057594037927936, 32⟩] (.free ⟨1, true, 0, 32, 4398046511104⟩ (.free ⟨2, true, 0, 128, 8796093022208⟩ (.free ⟨3, true, 6, 13194139533312, 17592186044416⟩ (.free ⟨5, true, 0, 2, 70368744177664⟩ (.free ⟨6, true, 32, 70368744177664, 140737488355328⟩ (.free ⟨7, true, 0, 64, 281474976710656⟩ (.free ⟨8, true, 192, 422212465065984, 562949953421312⟩ (.free ⟨9, true, 256, 562949953421312, 1125899906842624⟩ (.free ⟨12, true, 0, 32, 9007199254740992⟩ (.free ⟨13, true, 0, 128, 18014398509481984⟩ (.free ⟨14, true, 12288, 27021597764222976, 36028797018963968⟩ (.alt ⟨0, false, 0, 0, 2199023255552⟩ (.alt ⟨4, false, 9, 19791209299968, 35184372088832⟩ (.alt ⟨10, false, 512, 1125899906842624, 2251799813685248⟩ (.alt ⟨11, false, 1040, 2286984185774080, 4503599627370496⟩ (.alt ⟨15, false, 18432, 40532396646334464, 72057594037927936⟩ (.free ⟨16, true, 65535, 72057594037927936, 32⟩ (.done)) (.none)) (.none)) (.none)) (.alt ⟨10, false, 512, 1125899906842624, 2251799813685248⟩ (.alt ⟨4, false, 9, 19791209299968, 35184372088832⟩ (.alt ⟨11, false, 1040, 2286984185774080, 4503599627370496⟩ (.alt ⟨15, false, 18432, 40532396646334464, 72057594037927936⟩ (.free ⟨16, true, 65535, 72057594037927936, 32⟩ (.done)) (.none)) (.none)) (.none)) (.none))) (.alt ⟨10, false, 512, 1125899906842624, 2251799813685248⟩ (.alt ⟨0, false, 0, 0, 2199023255552⟩ (.alt ⟨4, false, 9, 19791209299968, 35184372088832⟩ (.alt ⟨11, false, 1040, 2286984185774080, 4503599627370496⟩ (.alt ⟨15, false, 18432, 40532396646334464, 72057594037927936⟩ (.free ⟨16, true, 65535, 72057594037927936, 32⟩ (.done)) (.none)) (.none)) (.none)) (.none)) (.none)))))))))))))) (by kernel_rfl) (by kernel_rfl) (by kernel_rfl) (fun _ _ _ _ h => absurd h.2 (by simp)) hD173 ?_
        have ho174 := own_drew ho92
        generalize World.drew w89 = w175 at hD173 ho174 ⊢
        refine p_free ?_
        refine fE 1 42 (.move (.tmp 5)) 22 (.slice (some ⟨gb63, 0, none⟩) ((srtL (i.links.take k)).length) c') h95 fun q176 h177 => ?_
        clear h95
        refine wpO_end ?_
        refine cut_n ?_
        refine p_free ?_
        refine fE 2 43 (.move (.tmp 7)) 3 (.int .i64 ((j : Nat) : Int)) h177 fun q178 h179 => ?_
        clear h177
        refine wpO_end ?_
        refine cut_n ?_
        refine p_free ?_
        refine fE 3 44 (.slice 22 (.tmp 42) none (some (.tmp 43)) none) 22 (.slice (some ⟨gb63, 0, none⟩) j c') h179 (hr := fun _ hS => r_sliceHi (n := (srtL (i.links.take k)).length) (m := 2) (kd := .i64) (i := j) (by kernel_rfl) (by kernel_rfl) (Nat.le_trans hk59 (own_le ho92)) (by kernel_rfl)) fun q180 h181 => ?_
        clear h179
        refine wpO_end ?_
        refine cut_n ?_
        refine p_free ?_
        refine fE 5 46 (.fieldAddr 24 (.tmp 1) 15) 0 (.pointer (some ⟨b3, 15, none⟩)) h181 fun q182 h183 => ?_
        clear h181
        refine wpO_end ?_
        refine cut_n ?_
        refine p_free ?_
        refine fE 6 47 (.load 22 (.tmp 46)) 22 (.slice (some ad) i.links.length c) h183 (hr := fun _ hS => r_loadC (b := b3) (v := .slice (some ad) i.links.length c) hS 1 15 (by kernel_rfl) (by kernel_rfl) (by kernel_rfl)) fun q184 h185 => ?_
        clear h183
        refine wpO_end ?_
        refine cut_n ?_
        refine p_free ?_
        refine fE 7 48 (.move (.tmp 6)) 3 (.int .i64 ((k : Nat) : Int)) h185 fun q186 h187 => ?_
        clear h185
        refine wpO_end ?_
        refine cut_n ?_
        refine p_free ?_
        refine fE 8 49 (.indexAddr 22 (.tmp 47) (.tmp 48)) 0 (.pointer (some ((ad.add (k * 2)).add 0))) h187 (hr := fun _ hS => r_index0 (n := i.links.length) (c := c) (kd := .i64) (by kernel_rfl) (by kernel_rfl) hlt (by kernel_rfl)) fun q188 h189 => ?_
        clear h187
        refine wpO_end ?_
        refine cut_n ?_
        refine p_free ?_
        refine fE 9 50 (.load 67 (.tmp 49)) 67 (.agg #[.int .i64 x.t, .string x.r]) h189 (hr := fun _ hS => r_loadE (o := 0) (vs := [.int .i64 x.t, .string x.r]) (hE0.below hS.bel) (by kernel_rfl) (by kernel_rfl) (by kernel_rfl)) fun q190 h191 => ?_
        clear h189
        refine wpO_end ?_
        refine cut_n ?_
        refine p_free ?_
        refine fE 12 53 (.move (.tmp 5)) 22 (.slice (some ⟨gb63, 0, none⟩) ((srtL (i.links.take k)).length) c') h191 fun q192 h193 => ?_
        clear h191
        refine wpO_end ?_
        refine cut_n ?_
        refine p_free ?_
        refine fE 13 54 (.move (.tmp 7)) 3 (.int .i64 ((j : Nat) : Int)) h193 fun q194 h195 => ?_
        clear h193
        refine wpO_end ?_
        refine cut_n ?_
        refine p_free ?_
        refine fE 14 55 (.slice 22 (.tmp 53) (some (.tmp 54)) none none) 22 (.slice (dropA (some ⟨gb63, 0, none⟩) c' j 2) (((srtL (i.links.take k)).length) - j) (c' - j)) h195 (hr := fun _ hS => r_sliceLo (n := (srtL (i.links.take k)).length) (m := 2) (kd := .i64) (i := j) (by kernel_rfl) (by kernel_rfl) hk59 (own_le ho92) (by kernel_rfl)) fun q196 h197 => ?_
        clear h195
        refine wpO_end ?_
        refine cut_n ?_
        refine p_alt ?_ ?_
        ·
          refine sB (d := 41) (n := 0) (e := 67) (base := w.heap.size) (size := 2) 0 #[] h197 hD173 hD173.bel.size (by kernel_rfl) (by unfold maxLen; omega) (fun _ hq => hq) (fun b200 w201 hb202 hB203 ho204 hN205 q198 h199 => ?_)
          have hl206 := own_below ho174 hN205
          have hus207 : Oth _ _ 67 2 (Value.slice (some ⟨b200, 0, none⟩) 0 0) _ := Oth.nil.cons hl206 (apart_new ho174 hb202)
          clear h197 hD173
          refine wpO_end ?_
          refine cut_n ?_
          refine p_alt ?_ ?_
          ·
            refine stAp3 (x := Operand.tmp 41) (y := Operand.tmp 44) (i := 4) (d := 45) (t := 22) (e := 67) (size := 2) (bytes := 24) (base := w.heap.size) (nn := 0) (m := j) (c := c') (ty := 22) (A := (some ⟨gb63, 0, none⟩)) (v := (.slice (some ⟨b200, 0, none⟩) 0 0)) (xs := []) (news := (lkc ((srtL (i.links.take k)).take j))) h199 (by kernel_rfl) (by kernel_rfl) (by kernel_rfl) (by kernel_rfl) (by decide) (by kernel_rfl) (by kernel_rfl) ho204 hus207 (by rw [lkc_size, List.length_take]; omega) (by rw [lkc_take]; exact (own_rr hus207.hd.1).take _) (fun e => by have := own_le2 hus207.hd.1 e; omega) (lkc_one _) (by unfold maxLen; omega) (by omega) hB203 hB203.bel.size (Nat.le_refl _) (by kernel_rfl) (fun _ hq => hq) (fun v210 w211 ho212 hus213 hB214 q208 h209 => ?_)
            clear h199 hB203
            refine wpO_end ?_
            refine cut_n ?_
            refine p_alt ?_ ?_
            ·
              refine sB (d := 51) (n := 1) (e := 67) (base := w.heap.size) (size := 2) 10 #[.int .i64 x.t, .string x.r] h209 hB214 hB214.bel.size (by kernel_rfl) (by unfold maxLen; omega) (fun _ hq => hq) (fun b217 w218 hb219 hB220 ho221 hN222 q215 h216 => ?_)
              have ho224 := own_below ho212 hN222
              have hus225 := (Oth.nil.cons ho221 (apart_swap (apart_new ho212 hb219))).cons (own_below hus213.hd.1 hN222) hus213.hd.2
              clear h209 hB214
              refine wpO_end ?_
              refine cut_n ?_
              refine p_alt ?_ ?_
              ·
                refine stAp3 (x := Operand.tmp 45) (y := Operand.tmp 51) (i := 11) (d := 52) (t := 22) (e := 67) (size := 2) (bytes := 24) (base := w.heap.size) (nn := (0 + j)) (m := 1) (c := 1) (ty := 22) (A := (some ⟨b217, 0, none⟩)) (v := v210) (xs := ([] ++ (lkc ((srtL (i.links.take k)).take j)))) (news := [.int .i64 x.t, .string x.r]) h216 (by kernel_rfl) (by kernel_rfl) (by kernel_rfl) (by kernel_rfl) (by decide) (by kernel_rfl) (by kernel_rfl) ho224 hus225 rfl (own_rr hus225.tl.hd.1) (own_le2 hus225.tl.hd.1) (by intro u hu; revert u hu; simp only [List.forall_mem_cons]; exact ⟨rfl, rfl, fun _ h => absurd h (by simp)⟩) (by unfold maxLen; omega) (by omega) hB220 hB220.bel.size (Nat.le_refl _) (by kernel_rfl) (fun _ hq => hq) (fun v228 w229 ho230 hus231 hB232 q226 h227 => ?_)
                clear h216 hB220
                refine wpO_end ?_
                refine cut_n ?_
                refine p_alt ?_ ?_
                ·
                  refine stAp3 (x := Operand.tmp 52) (y := Operand.tmp 55) (i := 15) (d := 56) (t := 22) (e := 67) (size := 2) (bytes := 24) (base := w.heap.size) (nn := ((0 + j) + 1)) (m := (((srtL (i.links.take k)).length) - j)) (c := (c' - j)) (ty := 22) (A := (dropA (some ⟨gb63, 0, none⟩) c' j 2)) (v := v228) (xs := (([] ++ (lkc ((srtL (i.links.take k)).take j))) ++ [.int .i64 x.t, .string x.r])) (news := (lkc ((srtL (i.links.take k)).drop j))) h227 (by kernel_rfl) (by kernel_rfl) (by kernel_rfl) (by kernel_rfl) (by decide) (by kernel_rfl) (by kernel_rfl) ho230 hus231 (by rw [lkc_size, List.length_drop]) (by rw [lkc_drop]; exact rd_dropA (own_rr hus231.hd.1) (lkc_size _) hk59 (own_le hus231.hd.1)) (dropA_none (own_le2 hus231.hd.1)) (lkc_one _) (by unfold maxLen; omega) (by omega) hB232 hB232.bel.size (Nat.le_refl _) (by kernel_rfl) (fun _ hq => hq) (fun v235 w236 ho237 hus238 hB239 q233 h234 => ?_)
                  clear h227 hB232
                  have ho240 : World.ownsRow w236 w.heap.size 67 2 v235 (srtL (i.links.take (k + 1))).length (lkc (srtL (i.links.take (k + 1)))) := by rw [srt_snoc hx, hins, ← lkc_ins, show ((srtL (i.links.take k)).take j ++ x :: (srtL (i.links.take k)).drop j).length = 0 + j + 1 + ((srtL (i.links.take k)).length - j) by simp; omega]; exact ho237
                  refine wpO_end ?_
                  refine cut_n ?_
                  refine p_free ?_
                  refine fE 16 5 (.assign (.tmp 56)) 22 v235 h234 fun q241 h242 => ?_
                  clear h234
                  refine wpO_end ?_
                  refine cut_n ?_
                  refine p_done ?_
                  exact cut_n ⟨v235, h242.keep _ ⟨rfl, rfl, rfl, rfl, rfl, rfl, rfl, trivial⟩, hB239.sel [0, 1] (by decide) rfl, ho240⟩
                exact p_none
              exact p_none
            exact p_none
          refine p_alt ?_ ?_
          ·
            refine sB (d := 51) (n := 1) (e := 67) (base := w.heap.size) (size := 2) 10 #[.int .i64 x.t, .string x.r] h199 hB203 hB203.bel.size (by kernel_rfl) (by unfold maxLen; omega) (fun _ hq => hq) (fun b245 w246 hb247 hB248 ho249 hN250 q243 h244 => ?_)
            have ho252 := own_below ho204 hN250
            have hus253 := (Oth.nil.cons ho249 (apart_swap (apart_new ho204 hb247))).cons (own_below hus207.hd.1 hN250) hus207.hd.2
            clear h199 hB203
            refine wpO_end ?_
            refine cut_n ?_
            refine p_alt ?_ ?_
            ·
              refine stAp3 (x := Operand.tmp 41) (y := Operand.tmp 44) (i := 4) (d := 45) (t := 22) (e := 67) (size := 2) (bytes := 24) (base := w.heap.size) (nn := 0) (m := j) (c := c') (ty := 22) (A := (some ⟨gb63, 0, none⟩)) (v := (.slice (some ⟨b200, 0, none⟩) 0 0)) (xs := []) (news := (lkc ((srtL (i.links.take k)).take j))) h244 (by kernel_rfl) (by kernel_rfl) (by kernel_rfl) (by kernel_rfl) (by decide) (by kernel_rfl) (by kernel_rfl) ho252 hus253 (by rw [lkc_size, List.length_take]; omega) (by rw [lkc_take]; exact (own_rr hus253.hd.1).take _) (fun e => by have := own_le2 hus253.hd.1 e; omega) (lkc_one _) (by unfold maxLen; omega) (by omega) hB248 hB248.bel.size (Nat.le_refl _) (by kernel_rfl) (fun _ hq => hq) (fun v256 w257 ho258 hus259 hB260 q254 h255 => ?_)
              clear h244 hB248
              refine wpO_end ?_
              refine cut_n ?_
              refine p_alt ?_ ?_
              ·
                refine stAp3 (x := Operand.tmp 45) (y := Operand.tmp 51) (i := 11) (d := 52) (t := 22) (e := 67) (size := 2) (bytes := 24) (base := w.heap.size) (nn := (0 + j)) (m := 1) (c := 1) (ty := 22) (A := (some ⟨b245, 0, none⟩)) (v := v256) (xs := ([] ++ (lkc ((srtL (i.links.take k)).take j)))) (news := [.int .i64 x.t, .string x.r]) h255 (by kernel_rfl) (by kernel_rfl) (by kernel_rfl) (by kernel_rfl) (by decide) (by kernel_rfl) (by kernel_rfl) ho258 hus259 rfl (own_rr hus259.tl.hd.1) (own_le2 hus259.tl.hd.1) (by intro u hu; revert u hu; simp only [List.forall_mem_cons]; exact ⟨rfl, rfl, fun _ h => absurd h (by simp)⟩) (by unfold maxLen; omega) (by omega) hB260 hB260.bel.size (Nat.le_refl _) (by kernel_rfl) (fun _ hq => hq) (fun v263 w264 ho265 hus266 hB267 q261 h262 => ?_)
                clear h255 hB260
                refine wpO_end ?_
                refine cut_n ?_
                refine p_alt ?_ ?_
                ·
                  refine stAp3 (x := Operand.tmp 52) (y := Operand.tmp 55) (i := 15) (d := 56) (t := 22) (e := 67) (size := 2) (bytes := 24) (base := w.heap.size) (nn := ((0 + j) + 1)) (m := (((srtL (i.links.take k)).length) - j)) (c := (c' - j)) (ty := 22) (A := (dropA (some ⟨gb63, 0, none⟩) c' j 2)) (v := v263) (xs := (([] ++ (lkc ((srtL (i.links.take k)).take j))) ++ [.int .i64 x.t, .string x.r])) (news := (lkc ((srtL (i.links.take k)).drop j))) h262 (by kernel_rfl) (by kernel_rfl) (by kernel_rfl) (by kernel_rfl) (by decide) (by kernel_rfl) (by kernel_rfl) ho265 hus266 (by rw [lkc_size, List.length_drop]) (by rw [lkc_drop]; exact rd_dropA (own_rr hus266.hd.1) (lkc_size _) hk59 (own_le hus266.hd.1)) (dropA_none (own_le2 hus266.hd.1)) (lkc_one _) (by unfold maxLen; omega) (by omega) hB267 hB267.bel.size (Nat.le_refl _) (by kernel_rfl) (fun _ hq => hq) (fun v270 w271 ho272 hus273 hB274 q268 h269 => ?_)
                  clear h262 hB267
                  have ho275 : World.ownsRow w271 w.heap.size 67 2 v270 (srtL (i.links.take (k + 1))).length (lkc (srtL (i.links.take (k + 1)))) := by rw [srt_snoc hx, hins, ← lkc_ins, show ((srtL (i.links.take k)).take j ++ x :: (srtL (i.links.take k)).drop j).length = 0 + j + 1 + ((srtL (i.links.take k)).length - j) by simp; omega]; exact ho272
                  refine wpO_end ?_
                  refine cut_n ?_
                  refine p_free ?_
                  refine fE 16 5 (.assign (.tmp 56)) 22 v270 h269 fun q276 h277 => ?_
                  clear h269
                  refine wpO_end ?_
                  refine cut_n ?_
                  refine p_done ?_
                  exact cut_n ⟨v270, h277.keep _ ⟨rfl, rfl, rfl, rfl, rfl, rfl, rfl, trivial⟩, hB274.sel [0, 1] (by decide) rfl, ho275⟩
                exact p_none
              exact p_none
            exact p_none
          exact p_none
        refine p_alt ?_ ?_
        ·
          refine sB (d := 51) (n := 1) (e := 67) (base := w.heap.size) (size := 2) 10 #[.int .i64 x.t, .string x.r] h197 hD173 hD173.bel.size (by kernel_rfl) (by unfold maxLen; omega) (fun _ hq => hq) (fun b280 w281 hb282 hB283 ho284 hN285 q278 h279 => ?_)
          have hl286 := own_below ho174 hN285
          clear h197 hD173
          refine wpO_end ?_
          refine cut_n ?_
          refine p_alt ?_ ?_
          ·
            refine sB (d := 41) (n := 0) (e := 67) (base := w.heap.size) (size := 2) 0 #[] h279 hB283 hB283.bel.size (by kernel_rfl) (by unfold maxLen; omega) (fun _ hq => hq) (fun b289 w290 hb291 hB292 ho293 hN294 q287 h288 => ?_)
            have hl295 := own_below hl286 hN294
            have ht296 := own_below ho284 hN294
            have hus297 : Oth _ _ 67 2 (Value.slice (some ⟨b289, 0, none⟩) 0 0) _ := (Oth.nil.cons ht296 (apart_new ho284 hb291)).cons hl295 (apart_new hl286 hb291)
            clear h279 hB283
            refine wpO_end ?_
            refine cut_n ?_
            refine p_alt ?_ ?_
            ·
              refine stAp3 (x := Operand.tmp 41) (y := Operand.tmp 44) (i := 4) (d := 45) (t := 22) (e := 67) (size := 2) (bytes := 24) (base := w.heap.size) (nn := 0) (m := j) (c := c') (ty := 22) (A := (some ⟨gb63, 0, none⟩)) (v := (.slice (some ⟨b289, 0, none⟩) 0 0)) (xs := []) (news := (lkc ((srtL (i.links.take k)).take j))) h288 (by kernel_rfl) (by kernel_rfl) (by kernel_rfl) (by kernel_rfl) (by decide) (by kernel_rfl) (by kernel_rfl) ho293 hus297 (by rw [lkc_size, List.length_take]; omega) (by rw [lkc_take]; exact (own_rr hus297.hd.1).take _) (fun e => by have := own_le2 hus297.hd.1 e; omega) (lkc_one _) (by unfold maxLen; omega) (by omega) hB292 hB292.bel.size (Nat.le_refl _) (by kernel_rfl) (fun _ hq => hq) (fun v300 w301 ho302 hus303 hB304 q298 h299 => ?_)
              clear h288 hB292
              refine wpO_end ?_
              refine cut_n ?_
              refine p_alt ?_ ?_
              ·
                refine stAp3 (x := Operand.tmp 45) (y := Operand.tmp 51) (i := 11) (d := 52) (t := 22) (e := 67) (size := 2) (bytes := 24) (base := w.heap.size) (nn := (0 + j)) (m := 1) (c := 1) (ty := 22) (A := (some ⟨b280, 0, none⟩)) (v := v300) (xs := ([] ++ (lkc ((srtL (i.links.take k)).take j)))) (news := [.int .i64 x.t, .string x.r]) h299 (by kernel_rfl) (by kernel_rfl) (by kernel_rfl) (by kernel_rfl) (by decide) (by kernel_rfl) (by kernel_rfl) ho302 hus303 rfl (own_rr hus303.tl.hd.1) (own_le2 hus303.tl.hd.1) (by intro u hu; revert u hu; simp only [List.forall_mem_cons]; exact ⟨rfl, rfl, fun _ h => absurd h (by simp)⟩) (by unfold maxLen; omega) (by omega) hB304 hB304.bel.size (Nat.le_refl _) (by kernel_rfl) (fun _ hq => hq) (fun v307 w308 ho309 hus310 hB311 q305 h306 => ?_)
                clear h299 hB304
                refine wpO_end ?_
                refine cut_n ?_
                refine p_alt ?_ ?_
                ·
                  refine stAp3 (x := Operand.tmp 52) (y := Operand.tmp 55) (i := 15) (d := 56) (t := 22) (e := 67) (size := 2) (bytes := 24) (base := w.heap.size) (nn := ((0 + j) + 1)) (m := (((srtL (i.links.take k)).length) - j)) (c := (c' - j)) (ty := 22) (A := (dropA (some ⟨gb63, 0, none⟩) c' j 2)) (v := v307) (xs := (([] ++ (lkc ((srtL (i.links.take k)).take j))) ++ [.int .i64 x.t, .string x.r])) (news := (lkc ((srtL (i.links.take k)).drop j))) h306 (by kernel_rfl) (by kernel_rfl) (by kernel_rfl) (by kernel_rfl) (by decide) (by kernel_rfl) (by kernel_rfl) ho309 hus310 (by rw [lkc_size, List.length_drop]) (by rw [lkc_drop]; exact rd_dropA (own_rr hus310.hd.1) (lkc_size _) hk59 (own_le hus310.hd.1)) (dropA_none (own_le2 hus310.hd.1)) (lkc_one _) (by unfold maxLen; omega) (by omega) hB311 hB311.bel.size (Nat.le_refl _) (by kernel_rfl) (fun _ hq => hq) (fun v314 w315 ho316 hus317 hB318 q312 h313 => ?_)
                  clear h306 hB311
                  have ho319 : World.ownsRow w315 w.heap.size 67 2 v314 (srtL (i.links.take (k + 1))).length (lkc (srtL (i.links.take (k + 1)))) := by rw [srt_snoc hx, hins, ← lkc_ins, show ((srtL (i.links.take k)).take j ++ x :: (srtL (i.links.take k)).drop j).length = 0 + j + 1 + ((srtL (i.links.take k)).length - j) by simp; omega]; exact ho316
                  refine wpO_end ?_
                  refine cut_n ?_
                  refine p_free ?_
                  refine fE 16 5 (.assign (.tmp 56)) 22 v314 h313 fun q320 h321 => ?_
                  clear h313
                  refine wpO_end ?_
                  refine cut_n ?_
                  refine p_done ?_
                  exact cut_n ⟨v314, h321.keep _ ⟨rfl, rfl, rfl, rfl, rfl, rfl, rfl, trivial⟩, hB318.sel [0, 1] (by decide) rfl, ho319⟩
                exact p_none
              exact p_none
            exact p_none
          exact p_none
        exact p_none
      rintro q322 w323 ⟨v165, h324, hB325, ho326⟩
      refine inB_n ?_
      refine then_n ?_
      refine rp 3 ?_
      refine b0 (.C 0 19 <| .E 1 20 (.int .i64 (IntKind.i64.wrap (((k : Nat) : Int) + 1))) <| .C 2 6 <| .nil) [(6, .int .i64 (IntKind.i64.wrap (((k : Nat) : Int) + 1))), (5, v165), (38, .bool ((decide (((j : Nat) : Int) < (((srtL (i.links.take k)).length : Nat) : Int))) && (ltB y.r x.r))), (1, .pointer (some ⟨b3, 0, none⟩)), (2, .pointer (some ⟨b8, 0, none⟩)), (3, .int .i64 0), (7, .int .i64 ((j : Nat) : Int))] h324 (Kw.nil hB325) fun q327 h328 => ?_
      clear h324
      refine wpO_end ?_
      obtain ⟨A329, cp330, rfl, -, -⟩ := own_rd ho326
      have h331 := h328.keep [(1, .pointer (some ⟨b3, 0, none⟩)), (2, .pointer (some ⟨b8, 0, none⟩)), (3, .int .i64 0), (5, .slice A329 ((srtL (i.links.take (k + 1))).length) cp330), (6, .int .i64 (((k + 1) : Nat) : Int))] ⟨rfl, rfl, rfl, rfl, look_int rfl (wrap_succ (by have := hn; omega)), trivial⟩
      have hm332 := h331.int (k := 6) (kd := .i64) (z := (((k + 1) : Nat) : Int)) rfl
      refine then_n ⟨⟨k + 1, A329, cp330, by omega, h331, hB325, ho326⟩, ?_⟩
      show (((i.links.length : Int)) - intAt _ 6).toNat < (((i.links.length : Int)) - intAt _ 6).toNat
      rw [hm43, hm332]; omega
    have hcj : decide (((j : Nat) : Int) < (((srtL (i.links.take k)).length : Nat) : Int)) = false := decide_eq_false (by omega)
    have hins : ins1 x (srtL (i.links.take k)) = (srtL (i.links.take k)).take j ++ x :: (srtL (i.links.take k)).drop j := ins1_at x _ j hk59 hx62 (fun y hy => by rw [List.getElem?_eq_none hjl] at hy; cases hy)
    have hD333 := hB58.drew
    refine rd (Bx w [(b8, .cells #[.string (⟨#[]⟩ : ByteArray), .int .i64 0, .string (⟨#[]⟩ : ByteArray), .string (⟨#[]⟩ : ByteArray), .int .i64 0, .string (⟨#[]⟩ : ByteArray), .int .i64 0, .int .i64 0, .int .i64 0, .int .i64 0, .int .i64 0, .bool false, .int .i64 0, .bool false, .bool false, .slice none 0 0] 24 (0, 0)), (b3, .cells (insV i (some ad) c).cells 24 (0, 0))]) 18 [⟨0, true, 0, 128, 2097152⟩, ⟨1, true, 0, 32, 4194304⟩, ⟨2, true, 2, 4194304, 8388608⟩, ⟨3, true, 5, 10485760, 16777216⟩, ⟨4, true, 8, 16777216, 33554432⟩, ⟨5, true, 16, 33554464, 67108864⟩, ⟨6, true, 16, 33554560, 134217728⟩, ⟨7, true, 112, 234881024, 268435456⟩, ⟨8, true, 144, 301989888, 536870912⟩, ⟨9, true, 272, 570425344, 1073741824⟩, ⟨10, true, 16, 33554434, 2147483648⟩, ⟨11, true, 1040, 2181038080, 4294967296⟩, ⟨12, true, 16, 33554496, 8589934592⟩, ⟨13, true, 6160, 12918456320, 17179869184⟩, ⟨14, true, 8208, 17213423616, 34359738368⟩, ⟨15, true, 16400, 34393292800, 68719476736⟩, ⟨16, false, 33296, 69826772992, 137438953472⟩, ⟨17, true, 65552, 137472507904, 274877906944⟩] hD333 ?_
    have ho334 := own_drew hx61
    generalize World.drew w56 = w335 at hD333 ho334 ⊢
    refine d0 (.C 0 21 <| .C 1 22 <| .nil) [(22, .slice A' ((srtL (i.links.take k)).length) c'), (21, .int .i64 ((j : Nat) : Int)), (1, .pointer (some ⟨b3, 0, none⟩)), (2, .pointer (some ⟨b8, 0, none⟩)), (3, .int .i64 0), (5, .slice A' ((srtL (i.links.take k)).length) c'), (6, .int .i64 ((k : Nat) : Int)), (7, .int .i64 ((j : Nat) : Int))] h57 (fun _ hS => Kw.nil hS) fun q336 h337 => ?_
    clear h57
    refine fE 2 23 (.call { callee := .builtin .len, args := #[.tmp 22], argTypes := #[22] }) 3 (.int .i64 (((srtL (i.links.take k)).length : Nat) : Int)) h337 fun q338 h339 => ?_
    clear h337
    refine d1 25 hcj (.E 3 24 (.bool (decide (((j : Nat) : Int) < (((srtL (i.links.take k)).length : Nat) : Int)))) <| .C 4 25 <| .K 5 26 <| .K 6 27 <| .K 7 28 <| .K 8 29 <| .K 9 30 <| .K 10 31 <| .K 11 32 <| .K 12 33 <| .K 13 34 <| .K 14 35 <| .K 15 36 <| .nil) [(36, undef), (30, undef), (25, .bool (decide (((j : Nat) : Int) < (((srtL (i.links.take k)).length : Nat) : Int)))), (1, .pointer (some ⟨b3, 0, none⟩)), (2, .pointer (some ⟨b8, 0, none⟩)), (3, .int .i64 0), (5, .slice A' ((srtL (i.links.take k)).length) c'), (6, .int .i64 ((k : Nat) : Int)), (7, .int .i64 ((j : Nat) : Int))] h339 (fun _ hS => Kw.nil hS) fun q340 h341 => ?_
    clear h339
    refine kE 16 37 (4, true) (g3 25 hcj) h341 hD333 fun q342 h343 => ?_
    clear h341
    refine fE 17 38 (.pick (.tmp 25) (.tmp 37) (.const (.bool false))) 4 (.bool ((decide (((j : Nat) : Int) < (((srtL (i.links.take k)).length : Nat) : Int))) && false)) h343 (hr := fun _ hS => r_and (c := decide (((j : Nat) : Int) < (((srtL (i.links.take k)).length : Nat) : Int))) (d := false) (by kernel_rfl) (fun e346 => Bool.noConfusion (e346.symm.trans hcj))) fun q344 h345 => ?_
    clear h343
    have h347 := h345.keep [(38, .bool false), (37, undef), (36, undef), (30, undef), (25, .bool (decide (((j : Nat) : Int) < (((srtL (i.links.take k)).length : Nat) : Int)))), (1, .pointer (some ⟨b3, 0, none⟩)), (2, .pointer (some ⟨b8, 0, none⟩)), (3, .int .i64 0), (5, .slice A' ((srtL (i.links.take k)).length) c'), (6, .int .i64 ((k : Nat) : Int)), (7, .int .i64 ((j : Nat) : Int))] ⟨look_bool rfl (by rw [hcj]; rfl), rfl, rfl, rfl, rfl, rfl, rfl, rfl, rfl, rfl, rfl, trivial⟩
    clear h345
    refine wpO_end ?_
    have h348 := h347.keep [(38, .bool false), (1, .pointer (some ⟨b3, 0, none⟩)), (2, .pointer (some ⟨b8, 0, none⟩)), (3, .int .i64 0), (5, .slice A' ((srtL (i.links.take k)).length) c'), (6, .int .i64 ((k : Nat) : Int)), (7, .int .i64 ((j : Nat) : Int))] ⟨rfl, rfl, rfl, rfl, rfl, rfl, rfl, trivial⟩
    clear h347
    refine then_n ?_
    refine kC 38 false h348 (fun e349 => Bool.noConfusion (e349.symm.trans (rfl))) (fun _ => ?_)
    refine c_exit 2 (by kernel_rfl) ?_
    refine then_e (then_e (inB_hit ?_))
    refine then_n ?_
    have hll := srt_len (i.links.take k)
    rw [List.length_take] at hll
    refine c_cut (fun qa qw => ∃ (v412 : Value), Fr 60 [(5, v412), (38, .bool false), (1, .pointer (some ⟨b3, 0, none⟩)), (2, .pointer (some ⟨b8, 0, none⟩)), (3, .int .i64 0), (6, .int .i64 ((k : Nat) : Int)), (7, .int .i64 ((j : Nat) : Int))] qa ∧ Bx w [(b8, .cells #[.string (⟨#[]⟩ : ByteArray), .int .i64 0, .string (⟨#[]⟩ : ByteArray), .string (⟨#[]⟩ : ByteArray), .int .i64 0, .string (⟨#[]⟩ : ByteArray), .int .i64 0, .int .i64 0, .int .i64 0, .int .i64 0, .int .i64 0, .bool false, .int .i64 0, .bool false, .bool false, .slice none 0 0] 24 (0, 0)), (b3, .cells (insV i (some ad) c).cells 24 (0, 0))] qw ∧ World.ownsRow qw w.heap.size 67 2 v412 (srtL (i.links.take (k + 1))).length (lkc (srtL (i.links.take (k + 1))))) ?_ ?_
    ·
      have hD420 := hD333.drew
      refine reg_plan (S := Bx w [(b8, .cells #[.string (⟨#[]⟩ : ByteArray), .int .i64 0, .string (⟨#[]⟩ : ByteArray), .string (⟨#[]⟩ : ByteArray), .int .i64 0, .string (⟨#[]⟩ : ByteArray), .int .i64 0, .int .i64 0, .int .i64 0, .int .i64 0, .int .i64 0, .bool false, .int .i64 0, .bool false, .bool false, .slice none 0 0] 24 (0, 0)), (b3, .cells (insV i (some ad) c).cells 24 (0, 0))]) 17 [⟨0, false, 0, 0, 2199023255552⟩, ⟨1, true, 0, 32, 4398046511104⟩, ⟨2, true, 0, 128, 8796093022208⟩, ⟨3, true, 6, 13194139533312, 17592186044416⟩, ⟨4, false, 9, 19791209299968, 35184372088832⟩, ⟨5, true, 0, 2, 70368744177664⟩, ⟨6, true, 32, 70368744177664, 140737488355328⟩, ⟨7, true, 0, 64, 281474976710656⟩, ⟨8, true, 192, 422212465065984, 562949953421312⟩, ⟨9, true, 256, 562949953421312, 1125899906842624⟩, ⟨10, false, 512, 1125899906842624, 2251799813685248⟩, ⟨11, false, 1040, 2286984185774080, 4503599627370496⟩, ⟨12, true, 0, 32, 9007199254740992⟩, ⟨13, true, 0, 128, 18014398509481984⟩, ⟨14, true, 12288, 27021597764222976, 36028797018963968⟩, ⟨15, false, 18432, 40532396646334464, 72057594037927936⟩, ⟨16, true, 65535, 72057594037927936, 32⟩] (.free ⟨1, true, 0, 32, 4398046511104⟩ (.free ⟨2, true, 0, 128, 8796093022208⟩ (.free ⟨3, true, 6, 13194139533312, 17592186044416⟩ (.free ⟨5, true, 0, 2, 70368744177664⟩ (.free ⟨6, true, 32, 70368744177664, 140737488355328⟩ (.free ⟨7, true, 0, 64, 281474976710656⟩ (.free ⟨8, true, 192, 422212465065984, 562949953421312⟩ (.free ⟨9, true, 256, 562949953421312, 1125899906842624⟩ (.free ⟨12, true, 0, 32, 9007199254740992⟩ (.free ⟨13, true, 0, 128, 18014398509481984⟩ (.free ⟨14, true, 12288, 27021597764222976, 36028797018963968⟩ (.alt ⟨0, false, 0, 0, 2199023255552⟩ (.alt ⟨4, false, 9, 19791209299968, 35184372088832⟩ (.alt ⟨10, false, 512, 1125899906842624, 2251799813685248⟩ (.alt ⟨11, false, 1040, 2286984185774080, 4503599627370496⟩ (.alt ⟨15, false, 18432, 40532396646334464, 72057594037927936⟩ (.free ⟨16, true, 65535, 72057594037927936, 32⟩ (.done)) (.none)) (.none)) (.none)) (.alt ⟨10, false, 512, 1125899906842624, 2251799813685248⟩ (.alt ⟨4, false, 9, 19791209299968, 35184372088832⟩ (.alt ⟨11, false, 1040, 2286984185774080, 4503599627370496⟩ (.alt ⟨15, false, 18432, 40532396646334464, 72057594037927936⟩ (.free ⟨16, true, 65535, 72057594037927936, 32⟩ (.done)) (.none)) (.none)) (.none)) (.none))) (.alt ⟨10, false, 512, 1125899906842624, 2251799813685248⟩ (.alt ⟨0, false, 0, 0, 2199023255552⟩ (.alt ⟨4, false, 9, 19791209299968, 35184372088832⟩ (.alt ⟨11, false, 1040, 2286984185774080, 4503599627370496⟩ (.alt ⟨15, false, 18432, 40532396646334464, 72057594037927936⟩ (.free ⟨16, true, 65535, 72057594037927936, 32⟩ (.done)) (.none)) (.none)) (.none)) (.none)) (.none)))))))))))))) (by kernel_rfl) (by kernel_rfl) (by kernel_rfl) (fun _ _ _ _ h => absurd h.2 (by simp)) hD420 ?_
      have ho421 := own_drew ho334
      generalize World.drew w335 = w422 at hD420 ho421 ⊢
      refine p_free ?_
      refine fE 1 42 (.move (.tmp 5)) 22 (.slice A' ((srtL (i.links.take k)).length) c') h348 fun q423 h424 => ?_
      clear h348
      refine wpO_end ?_
      refine cut_n ?_
      refine p_free ?_
      refine fE 2 43 (.move (.tmp 7)) 3 (.int .i64 ((j : Nat) : Int)) h424 fun q425 h426 => ?_
      clear h424
      refine wpO_end ?_
      refine cut_n ?_
      refine p_free ?_
      refine fE 3 44 (.slice 22 (.tmp 42) none (some (.tmp 43)) none) 22 (.slice A' j c') h426 (hr := fun _ hS => r_sliceHi (n := (srtL (i.links.take k)).length) (m := 2) (kd := .i64) (i := j) (by kernel_rfl) (by kernel_rfl) (Nat.le_trans hk59 (own_le ho334)) (by kernel_rfl)) fun q427 h428 => ?_
      clear h426
      refine wpO_end ?_
      refine cut_n ?_
      refine p_free ?_
      refine fE 5 46 (.fieldAddr 24 (.tmp 1) 15) 0 (.pointer (some ⟨b3, 15, none⟩)) h428 fun q429 h430 => ?_
      clear h428
      refine wpO_end ?_
      refine cut_n ?_
      refine p_free ?_
      refine fE 6 47 (.load 22 (.tmp 46)) 22 (.slice (some ad) i.links.length c) h430 (hr := fun _ hS => r_loadC (b := b3) (v := .slice (some ad) i.links.length c) hS 1 15 (by kernel_rfl) (by kernel_rfl) (by kernel_rfl)) fun q431 h432 => ?_
      clear h430
      refine wpO_end ?_
      refine cut_n ?_
      refine p_free ?_
      refine fE 7 48 (.move (.tmp 6)) 3 (.int .i64 ((k : Nat) : Int)) h432 fun q433 h434 => ?_
      clear h432
      refine wpO_end ?_
      refine cut_n ?_
      refine p_free ?_
      refine fE 8 49 (.indexAddr 22 (.tmp 47) (.tmp 48)) 0 (.pointer (some ((ad.add (k * 2)).add 0))) h434 (hr := fun _ hS => r_index0 (n := i.links.length) (c := c) (kd := .i64) (by kernel_rfl) (by kernel_rfl) hlt (by kernel_rfl)) fun q435 h436 => ?_
      clear h434
      refine wpO_end ?_
      refine cut_n ?_
      refine p_free ?_
      refine fE 9 50 (.load 67 (.tmp 49)) 67 (.agg #[.int .i64 x.t, .string x.r]) h436 (hr := fun _ hS => r_loadE (o := 0) (vs := [.int .i64 x.t, .string x.r]) (hE0.below hS.bel) (by kernel_rfl) (by kernel_rfl) (by kernel_rfl)) fun q437 h438 => ?_
      clear h436
      refine wpO_end ?_
      refine cut_n ?_
      refine p_free ?_
      refine fE 12 53 (.move (.tmp 5)) 22 (.slice A' ((srtL (i.links.take k)).length) c') h438 fun q439 h440 => ?_
      clear h438
      refine wpO_end ?_
      refine cut_n ?_
      refine p_free ?_
      refine fE 13 54 (.move (.tmp 7)) 3 (.int .i64 ((j : Nat) : Int)) h440 fun q441 h442 => ?_
      clear h440
      refine wpO_end ?_
      refine cut_n ?_
      refine p_free ?_
      refine fE 14 55 (.slice 22 (.tmp 53) (some (.tmp 54)) none none) 22 (.slice (dropA A' c' j 2) (((srtL (i.links.take k)).length) - j) (c' - j)) h442 (hr := fun _ hS => r_sliceLo (n := (srtL (i.links.take k)).length) (m := 2) (kd := .i64) (i := j) (by kernel_rfl) (by kernel_rfl) hk59 (own_le ho334) (by kernel_rfl)) fun q443 h444 => ?_
      clear h442
      refine wpO_end ?_
      refine cut_n ?_
      refine p_alt ?_ ?_
      ·
        refine sB (d := 41) (n := 0) (e := 67) (base := w.heap.size) (size := 2) 0 #[] h444 hD420 hD420.bel.size (by kernel_rfl) (by unfold maxLen; omega) (fun _ hq => hq) (fun b447 w448 hb449 hB450 ho451 hN452 q445 h446 => ?_)
        have hl453 := own_below ho421 hN452
        have hus454 : Oth _ _ 67 2 (Value.slice (some ⟨b447, 0, none⟩) 0 0) _ := Oth.nil.cons hl453 (apart_new ho421 hb449)
        clear h444 hD420
        refine wpO_end ?_
        refine cut_n ?_
        refine p_alt ?_ ?_
        ·
          refine stAp3 (x := Operand.tmp 41) (y := Operand.tmp 44) (i := 4) (d := 45) (t := 22) (e := 67) (size := 2) (bytes := 24) (base := w.heap.size) (nn := 0) (m := j) (c := c') (ty := 22) (A := A') (v := (.slice (some ⟨b447, 0, none⟩) 0 0)) (xs := []) (news := (lkc ((srtL (i.links.take k)).take j))) h446 (by kernel_rfl) (by kernel_rfl) (by kernel_rfl) (by kernel_rfl) (by decide) (by kernel_rfl) (by kernel_rfl) ho451 hus454 (by rw [lkc_size, List.length_take]; omega) (by rw [lkc_take]; exact (own_rr hus454.hd.1).take _) (fun e => by have := own_le2 hus454.hd.1 e; omega) (lkc_one _) (by unfold maxLen; omega) (by omega) hB450 hB450.bel.size (Nat.le_refl _) (by kernel_rfl) (fun _ hq => hq) (fun v457 w458 ho459 hus460 hB461 q455 h456 => ?_)
          clear h446 hB450
          refine wpO_end ?_
          refine cut_n ?_
          refine p_alt ?_ ?_
          ·
            refine sB (d := 51) (n := 1) (e := 67) (base := w.heap.size) (size := 2) 10 #[.int .i64 x.t, .string x.r] h456 hB461 hB461.bel.size (by kernel_rfl) (by unfold maxLen; omega) (fun _ hq => hq) (fun b464 w465 hb466 hB467 ho468 hN469 q462 h463 => ?_)
            have ho471 := own_below ho459 hN469
            have hus472 := (Oth.nil.cons ho468 (apart_swap (apart_new ho459 hb466))).cons (own_below hus460.hd.1 hN469) hus460.hd.2
            clear h456 hB461
            refine wpO_end ?_
            refine cut_n ?_
            refine p_alt ?_ ?_
            ·
              refine stAp3 (x := Operand.tmp 45) (y := Operand.tmp 51) (i := 11) (d := 52) (t := 22) (e := 67) (size := 2) (bytes := 24) (base := w.heap.size) (nn := (0 + j)) (m := 1) (c := 1) (ty := 22) (A := (some ⟨b464, 0, none⟩)) (v := v457) (xs := ([] ++ (lkc ((srtL (i.links.take k)).take j)))) (news := [.int .i64 x.t, .string x.r]) h463 (by kernel_rfl) (by kernel_rfl) (by kernel_rfl) (by kernel_rfl) (by decide) (by kernel_rfl) (by kernel_rfl) ho471 hus472 rfl (own_rr hus472.tl.hd.1) (own_le2 hus472.tl.hd.1) (by intro u hu; revert u hu; simp only [List.forall_mem_cons]; exact ⟨rfl, rfl, fun _ h => absurd h (by simp)⟩) (by unfold maxLen; omega) (by omega) hB467 hB467.bel.size (Nat.le_refl _) (by kernel_rfl) (fun _ hq => hq) (fun v475 w476 ho477 hus478 hB479 q473 h474 => ?_)
              clear h463 hB467
              refine wpO_end ?_
              refine cut_n ?_
              refine p_alt ?_ ?_
              ·
                refine stAp3 (x := Operand.tmp 52) (y := Operand.tmp 55) (i := 15) (d := 56) (t := 22) (e := 67) (size := 2) (bytes := 24) (base := w.heap.size) (nn := ((0 + j) + 1)) (m := (((srtL (i.links.take k)).length) - j)) (c := (c' - j)) (ty := 22) (A := (dropA A' c' j 2)) (v := v475) (xs := (([] ++ (lkc ((srtL (i.links.take k)).take j))) ++ [.int .i64 x.t, .string x.r])) (news := (lkc ((srtL (i.links.take k)).drop j))) h474 (by kernel_rfl) (by kernel_rfl) (by kernel_rfl) (by kernel_rfl) (by decide) (by kernel_rfl) (by kernel_rfl) ho477 hus478 (by rw [lkc_size, List.length_drop]) (by rw [lkc_drop]; exact rd_dropA (own_rr hus478.hd.1) (lkc_size _) hk59 (own_le hus478.hd.1)) (dropA_none (own_le2 hus478.hd.1)) (lkc_one _) (by unfold maxLen; omega) (by omega) hB479 hB479.bel.size (Nat.le_refl _) (by kernel_rfl) (fun _ hq => hq) (fun v482 w483 ho484 hus485 hB486 q480 h481 => ?_)
                clear h474 hB479
                have ho487 : World.ownsRow w483 w.heap.size 67 2 v482 (srtL (i.links.take (k + 1))).length (lkc (srtL (i.links.take (k + 1)))) := by rw [srt_snoc hx, hins, ← lkc_ins, show ((srtL (i.links.take k)).take j ++ x :: (srtL (i.links.take k)).drop j).length = 0 + j + 1 + ((srtL (i.links.take k)).length - j) by simp; omega]; exact ho484
                refine wpO_end ?_
                refine cut_n ?_
                refine p_free ?_
                refine fE 16 5 (.assign (.tmp 56)) 22 v482 h481 fun q488 h489 => ?_
                clear h481
                refine wpO_end ?_
                refine cut_n ?_
                refine p_done ?_
                exact cut_n ⟨v482, h489.keep _ ⟨rfl, rfl, rfl, rfl, rfl, rfl, rfl, trivial⟩, hB486.sel [0, 1] (by decide) rfl, ho487⟩
              exact p_none
            exact p_none
          exact p_none
        refine p_alt ?_ ?_
        ·
          refine sB (d := 51) (n := 1) (e := 67) (base := w.heap.size) (size := 2) 10 #[.int .i64 x.t, .string x.r] h446 hB450 hB450.bel.size (by kernel_rfl) (by unfold maxLen; omega) (fun _ hq => hq) (fun b492 w493 hb494 hB495 ho496 hN497 q490 h491 => ?_)
          have ho499 := own_below ho451 hN497
          have hus500 := (Oth.nil.cons ho496 (apart_swap (apart_new ho451 hb494))).cons (own_below hus454.hd.1 hN497) hus454.hd.2
          clear h446 hB450
          refine wpO_end ?_
          refine cut_n ?_
          refine p_alt ?_ ?_
          ·
            refine stAp3 (x := Operand.tmp 41) (y := Operand.tmp 44) (i := 4) (d := 45) (t := 22) (e := 67) (size := 2) (bytes := 24) (base := w.heap.size) (nn := 0) (m := j) (c := c') (ty := 22) (A := A') (v := (.slice (some ⟨b447, 0, none⟩) 0 0)) (xs := []) (news := (lkc ((srtL (i.links.take k)).take j))) h491 (by kernel_rfl) (by kernel_rfl) (by kernel_rfl) (by kernel_rfl) (by decide) (by kernel_rfl) (by kernel_rfl) ho499 hus500 (by rw [lkc_size, List.length_take]; omega) (by rw [lkc_take]; exact (own_rr hus500.hd.1).take _) (fun e => by have := own_le2 hus500.hd.1 e; omega) (lkc_one _) (by unfold maxLen; omega) (by omega) hB495 hB495.bel.size (Nat.le_refl _) (by kernel_rfl) (fun _ hq => hq) (fun v503 w504 ho505 hus506 hB507 q501 h502 => ?_)
            clear h491 hB495
            refine wpO_end ?_
            refine cut_n ?_
            refine p_alt ?_ ?_
            ·
              refine stAp3 (x := Operand.tmp 45) (y := Operand.tmp 51) (i := 11) (d := 52) (t := 22) (e := 67) (size := 2) (bytes := 24) (base := w.heap.size) (nn := (0 + j)) (m := 1) (c := 1) (ty := 22) (A := (some ⟨b492, 0, none⟩)) (v := v503) (xs := ([] ++ (lkc ((srtL (i.links.take k)).take j)))) (news := [.int .i64 x.t, .string x.r]) h502 (by kernel_rfl) (by kernel_rfl) (by kernel_rfl) (by kernel_rfl) (by decide) (by kernel_rfl) (by kernel_rfl) ho505 hus506 rfl (own_rr hus506.tl.hd.1) (own_le2 hus506.tl.hd.1) (by intro u hu; revert u hu; simp only [List.forall_mem_cons]; exact ⟨rfl, rfl, fun _ h => absurd h (by simp)⟩) (by unfold maxLen; omega) (by omega) hB507 hB507.bel.size (Nat.le_refl _) (by kernel_rfl) (fun _ hq => hq) (fun v510 w511 ho512 hus513 hB514 q508 h509 => ?_)
              clear h502 hB507
              refine wpO_end ?_
              refine cut_n ?_
              refine p_alt ?_ ?_
              ·
                refine stAp3 (x := Operand.tmp 52) (y := Operand.tmp 55) (i := 15) (d := 56) (t := 22) (e := 67) (size := 2) (bytes := 24) (base := w.heap.size) (nn := ((0 + j) + 1)) (m := (((srtL (i.links.take k)).length) - j)) (c := (c' - j)) (ty := 22) (A := (dropA A' c' j 2)) (v := v510) (xs := (([] ++ (lkc ((srtL (i.links.take k)).take j))) ++ [.int .i64 x.t, .string x.r])) (news := (lkc ((srtL (i.links.take k)).drop j))) h509 (by kernel_rfl) (by kernel_rfl) (by kernel_rfl) (by kernel_rfl) (by decide) (by kernel_rfl) (by kernel_rfl) ho512 hus513 (by rw [lkc_size, List.length_drop]) (by rw [lkc_drop]; exact rd_dropA (own_rr hus513.hd.1) (lkc_size _) hk59 (own_le hus513.hd.1)) (dropA_none (own_le2 hus513.hd.1)) (lkc_one _) (by unfold maxLen; omega) (by omega) hB514 hB514.bel.size (Nat.le_refl _) (by kernel_rfl) (fun _ hq => hq) (fun v517 w518 ho519 hus520 hB521 q515 h516 => ?_)
                clear h509 hB514
                have ho522 : World.ownsRow w518 w.heap.size 67 2 v517 (srtL (i.links.take (k + 1))).length (lkc (srtL (i.links.take (k + 1)))) := by rw [srt_snoc hx, hins, ← lkc_ins, show ((srtL (i.links.take k)).take j ++ x :: (srtL (i.links.take k)).drop j).length = 0 + j + 1 + ((srtL (i.links.take k)).length - j) by simp; omega]; exact ho519
                refine wpO_end ?_
                refine cut_n ?_
                refine p_free ?_
                refine fE 16 5 (.assign (.tmp 56)) 22 v517 h516 fun q523 h524 => ?_
                clear h516
                refine wpO_end ?_
                refine cut_n ?_
                refine p_done ?_
                exact cut_n ⟨v517, h524.keep _ ⟨rfl, rfl, rfl, rfl, rfl, rfl, rfl, trivial⟩, hB521.sel [0, 1] (by decide) rfl, ho522⟩
              exact p_none
            exact p_none
          exact p_none
        exact p_none
      refine p_alt ?_ ?_
      ·
        refine sB (d := 51) (n := 1) (e := 67) (base := w.heap.size) (size := 2) 10 #[.int .i64 x.t, .string x.r] h444 hD420 hD420.bel.size (by kernel_rfl) (by unfold maxLen; omega) (fun _ hq => hq) (fun b527 w528 hb529 hB530 ho531 hN532 q525 h526 => ?_)
        have hl533 := own_below ho421 hN532
        clear h444 hD420
        refine wpO_end ?_
        refine cut_n ?_
        refine p_alt ?_ ?_
        ·
          refine sB (d := 41) (n := 0) (e := 67) (base := w.heap.size) (size := 2) 0 #[] h526 hB530 hB530.bel.size (by kernel_rfl) (by unfold maxLen; omega) (fun _ hq => hq) (fun b536 w537 hb538 hB539 ho540 hN541 q534 h535 => ?_)
          have hl542 := own_below hl533 hN541
          have ht543 := own_below ho531 hN541
          have hus544 : Oth _ _ 67 2 (Value.slice (some ⟨b536, 0, none⟩) 0 0) _ := (Oth.nil.cons ht543 (apart_new ho531 hb538)).cons hl542 (apart_new hl533 hb538)
          clear h526 hB530
          refine wpO_end ?_
          refine cut_n ?_
          refine p_alt ?_ ?_
          ·
            refine stAp3 (x := Operand.tmp 41) (y := Operand.tmp 44) (i := 4) (d := 45) (t := 22) (e := 67) (size := 2) (bytes := 24) (base := w.heap.size) (nn := 0) (m := j) (c := c') (ty := 22) (A := A') (v := (.slice (some ⟨b536, 0, none⟩) 0 0)) (xs := []) (news := (lkc ((srtL (i.links.take k)).take j))) h535 (by kernel_rfl) (by kernel_rfl) (by kernel_rfl) (by kernel_rfl) (by decide) (by kernel_rfl) (by kernel_rfl) ho540 hus544 (by rw [lkc_size, List.length_take]; omega) (by rw [lkc_take]; exact (own_rr hus544.hd.1).take _) (fun e => by have := own_le2 hus544.hd.1 e; omega) (lkc_one _) (by unfold maxLen; omega) (by omega) hB539 hB539.bel.size (Nat.le_refl _) (by kernel_rfl) (fun _ hq => hq) (fun v547 w548 ho549 hus550 hB551 q545 h546 => ?_)
            clear h535 hB539
            refine wpO_end ?_
            refine cut_n ?_
            refine p_alt ?_ ?_
            ·
              refine stAp3 (x := Operand.tmp 45) (y := Operand.tmp 51) (i := 11) (d := 52) (t := 22) (e := 67) (size := 2) (bytes := 24) (base := w.heap.size) (nn := (0 + j)) (m := 1) (c := 1) (ty := 22) (A := (some ⟨b527, 0, none⟩)) (v := v547) (xs := ([] ++ (lkc ((srtL (i.links.take k)).take j)))) (news := [.int .i64 x.t, .string x.r]) h546 (by kernel_rfl) (by kernel_rfl) (by kernel_rfl) (by kernel_rfl) (by decide) (by kernel_rfl) (by kernel_rfl) ho549 hus550 rfl (own_rr hus550.tl.hd.1) (own_le2 hus550.tl.hd.1) (by intro u hu; revert u hu; simp only [List.forall_mem_cons]; exact ⟨rfl, rfl, fun _ h => absurd h (by simp)⟩) (by unfold maxLen; omega) (by omega) hB551 hB551.bel.size (Nat.le_refl _) (by kernel_rfl) (fun _ hq => hq) (fun v554 w555 ho556 hus557 hB558 q552 h553 => ?_)
              clear h546 hB551
              refine wpO_end ?_
              refine cut_n ?_
              refine p_alt ?_ ?_
              ·
                refine stAp3 (x := Operand.tmp 52) (y := Operand.tmp 55) (i := 15) (d := 56) (t := 22) (e := 67) (size := 2) (bytes := 24) (base := w.heap.size) (nn := ((0 + j) + 1)) (m := (((srtL (i.links.take k)).length) - j)) (c := (c' - j)) (ty := 22) (A := (dropA A' c' j 2)) (v := v554) (xs := (([] ++ (lkc ((srtL (i.links.take k)).take j))) ++ [.int .i64 x.t, .string x.r])) (news := (lkc ((srtL (i.links.take k)).drop j))) h553 (by kernel_rfl) (by kernel_rfl) (by kernel_rfl) (by kernel_rfl) (by decide) (by kernel_rfl) (by kernel_rfl) ho556 hus557 (by rw [lkc_size, List.length_drop]) (by rw [lkc_drop]; exact rd_dropA (own_rr hus557.hd.1) (lkc_size _) hk59 (own_le hus557.hd.1)) (dropA_none (own_le2 hus557.hd.1)) (lkc_one _) (by unfold maxLen; omega) (by omega) hB558 hB558.bel.size (Nat.le_refl _) (by kernel_rfl) (fun _ hq => hq) (fun v561 w562 ho563 hus564 hB565 q559 h560 => ?_)
                clear h553 hB558
                have ho566 : World.ownsRow w562 w.heap.size 67 2 v561 (srtL (i.links.take (k + 1))).length (lkc (srtL (i.links.take (k + 1)))) := by rw [srt_snoc hx, hins, ← lkc_ins, show ((srtL (i.links.take k)).take j ++ x :: (srtL (i.links.take k)).drop j).length = 0 + j + 1 + ((srtL (i.links.take k)).length - j) by simp; omega]; exact ho563
                refine wpO_end ?_
                refine cut_n ?_
                refine p_free ?_
                refine fE 16 5 (.assign (.tmp 56)) 22 v561 h560 fun q567 h568 => ?_
                clear h560
                refine wpO_end ?_
                refine cut_n ?_
                refine p_done ?_
                exact cut_n ⟨v561, h568.keep _ ⟨rfl, rfl, rfl, rfl, rfl, rfl, rfl, trivial⟩, hB565.sel [0, 1] (by decide) rfl, ho566⟩
              exact p_none
            exact p_none
          exact p_none
        exact p_none
      exact p_none
    rintro q569 w570 ⟨v412, h571, hB572, ho573⟩
    refine inB_n ?_
    refine then_n ?_
    refine rp 3 ?_
    refine b0 (.C 0 19 <| .E 1 20 (.int .i64 (IntKind.i64.wrap (((k : Nat) : Int) + 1))) <| .C 2 6 <| .nil) [(6, .int .i64 (IntKind.i64.wrap (((k : Nat) : Int) + 1))), (5, v412), (38, .bool false), (1, .pointer (some ⟨b3, 0, none⟩)), (2, .pointer (some ⟨b8, 0, none⟩)), (3, .int .i64 0), (7, .int .i64 ((j : Nat) : Int))] h571 (Kw.nil hB572) fun q574 h575 => ?_
    clear h571
    refine wpO_end ?_
    obtain ⟨A576, cp577, rfl, -, -⟩ := own_rd ho573
    have h578 := h575.keep [(1, .pointer (some ⟨b3, 0, none⟩)), (2, .pointer (some ⟨b8, 0, none⟩)), (3, .int .i64 0), (5, .slice A576 ((srtL (i.links.take (k + 1))).length) cp577), (6, .int .i64 (((k + 1) : Nat) : Int))] ⟨rfl, rfl, rfl, rfl, look_int rfl (wrap_succ (by have := hn; omega)), trivial⟩
    have hm579 := h578.int (k := 6) (kd := .i64) (z := (((k + 1) : Nat) : Int)) rfl
    refine then_n ⟨⟨k + 1, A576, cp577, by omega, h578, hB572, ho573⟩, ?_⟩
    show (((i.links.length : Int)) - intAt _ 6).toNat < (((i.links.length : Int)) - intAt _ 6).toNat
    rw [hm43, hm579]; omega
  have hp580 : ¬ (((k : Nat) : Int) < ((i.links.length : Nat) : Int)) := of_decide_eq_false hc51
  have hke : i.links.take k = i.links := List.take_of_length_le (by omega)
  refine c_exit 0 (by kernel_rfl) ?_
  refine then_e (then_e (inB_hit ?_))
  refine then_n ?_
  refine kS ?_
  refine rp 3 ?_
  refine b0 (.C 0 57 <| .C 1 58 <| .nil) [(58, .pointer (some ⟨b3, 15, none⟩)), (57, .slice A' ((srtL (i.links.take k)).length) c'), (1, .pointer (some ⟨b3, 0, none⟩)), (2, .pointer (some ⟨b8, 0, none⟩)), (3, .int .i64 0)] h50 (Kw.nil hB41) fun q581 h582 => ?_
  clear h50
  refine sW 2 1 15 [(b8, .cells #[.string (⟨#[]⟩ : ByteArray), .int .i64 0, .string (⟨#[]⟩ : ByteArray), .string (⟨#[]⟩ : ByteArray), .int .i64 0, .string (⟨#[]⟩ : ByteArray), .int .i64 0, .int .i64 0, .int .i64 0, .int .i64 0, .int .i64 0, .bool false, .int .i64 0, .bool false, .bool false, .slice none 0 0] 24 (0, 0)), (b3, .cells #[.string i.ref, .int .i64 i.kind, .string i.sender, .string i.cpty, .int .i64 i.side, .string i.asset, .int .i64 i.qty, .int .i64 i.amt, .int .i64 i.tday, .int .i64 i.sday, .int .i64 i.prio, .bool i.part, .int .i64 i.minlot, .bool i.hold, .bool i.resv, .slice A' ((srtL (i.links.take k)).length) c'] 24 (0, 0))] h582 gok_none hB41 (.inr fun _ _ => trivial) (fun w585 hB586 hT q583 h584 => ?_)
  clear h582 hB41
  have ho587 := own_turned hx44 hT (by kernel_rfl)
  clear hT
  refine wpO_end ?_
  have h588 := h584.keep [(1, .pointer (some ⟨b3, 0, none⟩)), (2, .pointer (some ⟨b8, 0, none⟩)), (3, .int .i64 0)] ⟨rfl, rfl, rfl, trivial⟩
  clear h584
  refine then_n ?_
  refine kS ?_
  refine rp 3 ?_
  refine b0 (.S 0 59 1 0 16 <| .nil) [(59, .agg #[.string i.ref, .int .i64 i.kind, .string i.sender, .string i.cpty, .int .i64 i.side, .string i.asset, .int .i64 i.qty, .int .i64 i.amt, .int .i64 i.tday, .int .i64 i.sday, .int .i64 i.prio, .bool i.part, .int .i64 i.minlot, .bool i.hold, .bool i.resv, .slice A' ((srtL (i.links.take k)).length) c']), (2, .pointer (some ⟨b8, 0, none⟩)), (3, .int .i64 0)] h588 (Kw.nil hB586) fun q589 h590 => ?_
  clear h588
  refine sW 1 0 0 [(b8, .cells #[.string i.ref, .int .i64 i.kind, .string i.sender, .string i.cpty, .int .i64 i.side, .string i.asset, .int .i64 i.qty, .int .i64 i.amt, .int .i64 i.tday, .int .i64 i.sday, .int .i64 i.prio, .bool i.part, .int .i64 i.minlot, .bool i.hold, .bool i.resv, .slice A' ((srtL (i.links.take k)).length) c'] 24 (0, 0)), (b3, .cells #[.string i.ref, .int .i64 i.kind, .string i.sender, .string i.cpty, .int .i64 i.side, .string i.asset, .int .i64 i.qty, .int .i64 i.amt, .int .i64 i.tday, .int .i64 i.sday, .int .i64 i.prio, .bool i.part, .int .i64 i.minlot, .bool i.hold, .bool i.resv, .slice A' ((srtL (i.links.take k)).length) c'] 24 (0, 0))] h590 gok_none hB586 (.inr fun _ _ => trivial) (fun w593 hB594 hT q591 h592 => ?_)
  clear h590 hB586
  have ho595 := own_turned ho587 hT (by kernel_rfl)
  clear hT
  refine b0 (.C 2 3 <| .nil) [(3, .int .i64 0), (2, .pointer (some ⟨b8, 0, none⟩))] h592 (Kw.nil hB594) fun q596 h597 => ?_
  clear h592
  refine wpO_end ?_
  refine then_n ?_
  refine c_ret (by kernel_rfl) ?_
  refine retCT (t := 2) (T := 24) (u := 3) (b := b8) (v := .int .i64 0) (vs := [.string i.ref, .int .i64 i.kind, .string i.sender, .string i.cpty, .int .i64 i.side, .string i.asset, .int .i64 i.qty, .int .i64 i.amt, .int .i64 i.tday, .int .i64 i.sday, .int .i64 i.prio, .bool i.part, .int .i64 i.minlot, .bool i.hold, .bool i.resv, .slice A' ((srtL (i.links.take k)).length) c']) h597 (by kernel_rfl) (by kernel_rfl) (by kernel_rfl) hB594 0 (by kernel_rfl) (by kernel_rfl) (by kernel_rfl) ?_
  have e598 : nrmR i = (wl i (srtL i.links), 0) := cF hc24
  rw [hke] at *
  exact ⟨A', c', by rw [e598]; rfl, by rw [e598]; exact ho595, hB594.bel⟩

end Go.Proofs.YtljegdokbifoiaaDoor.Af
