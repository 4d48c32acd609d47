/- The iterators over the maps' keys: each key once, in some order. No condition. -/
import Derived.Test.YtljegdokbifoiaaGreatDoorZzPq
import Derived.Test.YtljegdokbifoiaaGreatDoorZzMi
import Derived.Test.YtljegdokbifoiaaGreatDoorZzSi
import Derived.RangeFuncNested
import Derived.RangeFuncBound
import Derived.RangeFuncCalls
import Derived.RangeFuncLeaves
namespace Go.Proofs.YtljegdokbifoiaaGreatDoor.Af
open Go.RowKit Go.Maps Go.Shelf Go.Sort

/-- What has come so far. -/
structure Coll {κ ν α : Type} (dec : κ → α) (M : List (κ × ν)) (Sn : κ → Prop) (ss : List α) : Prop where
  nd : ss.Nodup
  sub : ∀ s ∈ ss, s ∈ M.map fun p => dec p.1
  iff : ∀ p ∈ M, (Sn p.1 ↔ dec p.1 ∈ ss)
theorem Coll.start {κ ν α : Type} (dec : κ → α) (M : List (κ × ν)) : Coll dec M (fun _ => False) [] := ⟨by simp, by simp, fun _ _ => by simp⟩
theorem Coll.step {κ ν α : Type} {dec : κ → α} (inj : ∀ a b, dec a = dec b → a = b) {M : List (κ × ν)} {Sn : κ → Prop} {ss : List α} (h : Coll dec M Sn ss) {k : κ} {v : ν} (hk : (k, v) ∈ M) (hn : ¬ Sn k) : Coll dec M (fun x => Sn x ∨ x = k) (ss ++ [dec k]) := by
  refine ⟨?_, fun s hs => ?_, fun p hp => ?_⟩
  · rw [List.nodup_append]
    refine ⟨h.nd, by simp, fun a ha b hb e => hn ?_⟩
    simp only [List.mem_singleton] at hb
    exact (h.iff _ hk).2 (by rw [← hb, ← e]; exact ha)
  · rcases List.mem_append.1 hs with hs | hs
    · exact h.sub s hs
    · rw [List.mem_singleton] at hs
      exact List.mem_map.2 ⟨_, hk, hs.symm⟩
  · rw [List.mem_append, List.mem_singleton, h.iff p hp]
    exact or_congr Iff.rfl ⟨fun e => by rw [e], fun e => inj _ _ e⟩
theorem Coll.done {κ ν α : Type} {dec : κ → α} (inj : ∀ a b, dec a = dec b → a = b) {M : List (κ × ν)} (hn : (M.map (·.1)).Nodup) {Sn : κ → Prop} {ss : List α} (h : Coll dec M Sn ss) (ha : ∀ p ∈ M, Sn p.1) : ss.Perm (M.map fun p => dec p.1) := by
  have h2 : (M.map fun p => dec p.1).Nodup := by
    have := nd_map dec inj hn
    rwa [List.map_map] at this
  rw [List.perm_ext_iff_of_nodup h.nd h2]
  refine fun a => ⟨h.sub a, fun ha' => ?_⟩
  obtain ⟨p, hp, rfl⟩ := List.mem_map.1 ha'
  exact (h.iff p hp).1 (ha p hp)
def decS (s : ByteArray) : List UInt8 := s.data.toList
theorem decS_inj : ∀ a b, decS a = decS b → a = b := fun a b h => by
  cases a; cases b
  simp only [decS, ByteArray.mk.injEq] at *
  exact Array.toList_inj.1 h
theorem encS_dec (s : ByteArray) : encStr (decS s) = eKs s := rfl

set_option maxRecDepth 100000 in
set_option maxHeartbeats 1000000 in
theorem it106 (F : Fence) (n : Nat) (h10 : F.fn 106) (hro : F.round = none) (hn : 1 ≤ n) (Bm b : Nat) (es : Array MapEntry) (clk : Nat) (M : List (ByteArray × Use)) (w : World) (hBm : Bm < w.heap.size) (hm0 : w.cell? ⟨Bm, 0, none⟩ = some (.map (some b))) (hb0 : w.heap[b]? = some (.map es clk)) (hM : MapT Tryz.prog 9 eKs eU es clk M) :
    SeqGives F n Tryz.prog 106 #[.pointer (some ⟨Bm, 0, none⟩)] encStr (fun ss => ss.Perm (M.map fun p => decS p.1)) M.length w := fun l J W hW hJ hY h0 => by
  have hm : W.cell? ⟨Bm, 0, none⟩ = some (.map (some b)) := (hW.cell (p := ⟨Bm, 0, none⟩) hBm).trans hm0
  have hb : W.heap[b]? = some (.map es clk) := (hW.block b (Array.getElem?_eq_some_iff.1 hb0).1).trans hb0
  have hsz : es.size ≤ M.length := by
    have := hM.perm.length_eq
    simpa using Nat.le_of_eq this
  refine callsIn_of_wp Tryz.func106 rfl h10 ?_ hro
  simp only [Tryz.ntmps106, List.size_toArray, List.length_cons, List.length_nil, Nat.reduceAdd, Nat.reduceSub, Array.replicate_succ, Array.replicate_zero, List.push_toArray, List.append_toArray, List.nil_append, List.cons_append]
  gi_wp2_with (first
    | (gi_at_range; refine gi_range (es := es) (clk := clk) _ rfl _ 134 99 rfl Tryz.underlying134 rfl hb hM ?_; intro w0 hrg0 hg0 hs0)
    | gi_in)
  try go_frame
  gi_loopw [3] (fun _ wr => ∃ (Sn : ByteArray → Prop) (cnt : Nat) (ss : List (List UInt8)), MIt Tryz.prog 9 eKs eU wr b W.heap.size M Sn cnt ∧ ss.length + cnt ≤ M.length ∧ Coll decS M Sn ss ∧ J ss wr)
    (fun _ wr => wr.rangeLeft b W.heap.size)
  case atStart =>
    exact ⟨_, _, [], hrg0, by simpa using hsz, Coll.start _ M, hJ [] W w0 none h0 hg0 (fun r e => by cases e)⟩
  case round =>
    obtain ⟨Sn, cnt, ss, hrg, hcs, hC, hJs⟩ := hrel
    gi_wp2_with (first
      | (gi_at_next; refine gi_next _ rfl _ rfl eKs_inj rfl hrg ?_ ?_)
      | gi_in)
    · intro hc0 hl0
      gi_wp2
      go_end0
      exact ⟨⟨_, rfl⟩, ss, hC.done decS_inj hM.nd hl0, hJs⟩
    · rintro ⟨x, c⟩ w2 cnt2 hkM hns hrg2 hlt hg2 hs2 hen
      have hJ2 : J ss w2 := hJ ss wr w2 (some W.heap.size) hJs hg2 (fun r e => by cases e; exact ⟨Nat.le_refl _, by obtain ⟨_, _, _, _, _, _, _, hr, _⟩ := hrg.it; exact ⟨_, hr, rfl⟩⟩)
      obtain ⟨fn, tmps, assign, body, hy, hR⟩ := hY ss (decS x) w2 hJ2 (by omega)
      rw [encS_dec] at hy
      unfold eKs at hy hen ⊢
      clear hs2
      gi_wp2
      refine hR.mono ?_
      rintro e W3 ⟨rfl, hJ3, hk3⟩
      gi_wp2
      have hrg3 := hrg2.walks hk3
      go_roundw
      case rel => exact ⟨_, cnt2, ss ++ [decS x], hrg3, by simp; omega, hC.step decS_inj hkM hns, hJ3⟩
      case measure => rw [hrg3.left_eq, hrg.left_eq]; exact hlt

set_option maxRecDepth 100000 in
set_option maxHeartbeats 1000000 in
theorem it92 (F : Fence) (n : Nat) (h10 : F.fn 92) (hro : F.round = none) (hn : 1 ≤ n) (Bm b : Nat) (es : Array MapEntry) (clk : Nat) (M : List (ByteArray × Pos)) (w : World) (hBm : Bm < w.heap.size) (hm0 : w.cell? ⟨Bm, 0, none⟩ = some (.map (some b))) (hb0 : w.heap[b]? = some (.map es clk)) (hM : MapT Tryz.prog 9 eKs eP es clk M) :
    SeqGives F n Tryz.prog 92 #[.pointer (some ⟨Bm, 0, none⟩)] encStr (fun ss => ss.Perm (M.map fun p => decS p.1)) M.length w := fun l J W hW hJ hY h0 => by
  have hm : W.cell? ⟨Bm, 0, none⟩ = some (.map (some b)) := (hW.cell (p := ⟨Bm, 0, none⟩) hBm).trans hm0
  have hb : W.heap[b]? = some (.map es clk) := (hW.block b (Array.getElem?_eq_some_iff.1 hb0).1).trans hb0
  have hsz : es.size ≤ M.length := by
    have := hM.perm.length_eq
    simpa using Nat.le_of_eq this
  refine callsIn_of_wp Tryz.func92 rfl h10 ?_ hro
  simp only [Tryz.ntmps92, List.size_toArray, List.length_cons, List.length_nil, Nat.reduceAdd, Nat.reduceSub, Array.replicate_succ, Array.replicate_zero, List.push_toArray, List.append_toArray, List.nil_append, List.cons_append]
  gi_wp2_with (first
    | (gi_at_range; refine gi_range (es := es) (clk := clk) _ rfl _ 102 44 rfl Tryz.underlying102 rfl hb hM ?_; intro w0 hrg0 hg0 hs0)
    | gi_in)
  try go_frame
  gi_loopw [3] (fun _ wr => ∃ (Sn : ByteArray → Prop) (cnt : Nat) (ss : List (List UInt8)), MIt Tryz.prog 9 eKs eP wr b W.heap.size M Sn cnt ∧ ss.length + cnt ≤ M.length ∧ Coll decS M Sn ss ∧ J ss wr)
    (fun _ wr => wr.rangeLeft b W.heap.size)
  case atStart =>
    exact ⟨_, _, [], hrg0, by simpa using hsz, Coll.start _ M, hJ [] W w0 none h0 hg0 (fun r e => by cases e)⟩
  case round =>
    obtain ⟨Sn, cnt, ss, hrg, hcs, hC, hJs⟩ := hrel
    gi_wp2_with (first
      | (gi_at_next; refine gi_next _ rfl _ rfl eKs_inj rfl hrg ?_ ?_)
      | gi_in)
    · intro hc0 hl0
      gi_wp2
      go_end0
      exact ⟨⟨_, rfl⟩, ss, hC.done decS_inj hM.nd hl0, hJs⟩
    · rintro ⟨x, c⟩ w2 cnt2 hkM hns hrg2 hlt hg2 hs2 hen
      have hJ2 : J ss w2 := hJ ss wr w2 (some W.heap.size) hJs hg2 (fun r e => by cases e; exact ⟨Nat.le_refl _, by obtain ⟨_, _, _, _, _, _, _, hr, _⟩ := hrg.it; exact ⟨_, hr, rfl⟩⟩)
      obtain ⟨fn, tmps, assign, body, hy, hR⟩ := hY ss (decS x) w2 hJ2 (by omega)
      rw [encS_dec] at hy
      unfold eKs at hy hen ⊢
      clear hs2
      gi_wp2
      refine hR.mono ?_
      rintro e W3 ⟨rfl, hJ3, hk3⟩
      gi_wp2
      have hrg3 := hrg2.walks hk3
      go_roundw
      case rel => exact ⟨_, cnt2, ss ++ [decS x], hrg3, by simp; omega, hC.step decS_inj hkM hns, hJ3⟩
      case measure => rw [hrg3.left_eq, hrg.left_eq]; exact hlt

set_option maxRecDepth 100000 in
set_option maxHeartbeats 1000000 in
theorem it96 (F : Fence) (n : Nat) (h10 : F.fn 96) (hro : F.round = none) (hn : 1 ≤ n) (Bm b : Nat) (es : Array MapEntry) (clk : Nat) (M : List (Rt × Int)) (w : World) (hBm : Bm < w.heap.size) (hm0 : w.cell? ⟨Bm, 0, none⟩ = some (.map (some b))) (hb0 : w.heap[b]? = some (.map es clk)) (hM : MapT Tryz.prog 108 eR eN es clk M) :
    SeqStopsK F n Tryz.prog 96 #[.pointer (some ⟨Bm, 0, none⟩)] (fun r => #[eR r]) KeepsWalks (fun ss => ss.Perm (M.map fun p => p.1)) (fun _ => True) M.length w := fun l J Jx W hW hJ hJx hY h0 => by
  have hm : W.cell? ⟨Bm, 0, none⟩ = some (.map (some b)) := (hW.cell (p := ⟨Bm, 0, none⟩) hBm).trans hm0
  have hb : W.heap[b]? = some (.map es clk) := (hW.block b (Array.getElem?_eq_some_iff.1 hb0).1).trans hb0
  have hsz : es.size ≤ M.length := by
    have := hM.perm.length_eq
    simpa using Nat.le_of_eq this
  refine callsIn_of_wp Tryz.func96 rfl h10 ?_ hro
  simp only [Tryz.ntmps96, List.size_toArray, List.length_cons, List.length_nil, Nat.reduceAdd, Nat.reduceSub, Array.replicate_succ, Array.replicate_zero, List.push_toArray, List.append_toArray, List.nil_append, List.cons_append]
  gi_wp2_with (first
    | (gi_at_range; refine gi_range (es := es) (clk := clk) _ rfl _ 106 2 rfl Tryz.underlying106 rfl hb hM ?_; intro w0 hrg0 hg0 hs0)
    | gi_in)
  try go_frame
  gi_loopw [3] (fun _ wr => ∃ (Sn : Rt → Prop) (cnt : Nat) (ss : List Rt), MIt Tryz.prog 108 eR eN wr b W.heap.size M Sn cnt ∧ ss.length + cnt ≤ M.length ∧ Coll id M Sn ss ∧ J ss wr)
    (fun _ wr => wr.rangeLeft b W.heap.size)
  case atStart =>
    exact ⟨_, _, [], hrg0, by simpa using hsz, Coll.start _ M, hJ [] W w0 none h0 hg0 (fun r e => by cases e)⟩
  case round =>
    obtain ⟨Sn, cnt, ss, hrg, hcs, hC, hJs⟩ := hrel
    gi_wp2_with (first
      | (gi_at_next; refine gi_next _ rfl _ rfl eR_inj rfl hrg ?_ ?_)
      | gi_in)
    · intro hc0 hl0
      gi_wp2
      go_end0
      exact ⟨⟨_, rfl⟩, .inl ⟨ss, hC.done (fun _ _ h => h) hM.nd hl0, hJs⟩⟩
    · rintro ⟨x, c⟩ w2 cnt2 hkM hns hrg2 hlt hg2 hs2 hen
      have hJ2 : J ss w2 := hJ ss wr w2 (some W.heap.size) hJs hg2 (fun r e => by cases e; exact ⟨Nat.le_refl _, by obtain ⟨_, _, _, _, _, _, _, hr, _⟩ := hrg.it; exact ⟨_, hr, rfl⟩⟩)
      have hJ2' : J ss (w2.alloc (.cells #[.string x.1, .string x.2] 108)) := hJ ss w2 _ none hJ2 (World.grownBy_alloc w2 _ none) (fun r e => by cases e)
      obtain ⟨fn, tmps, assign, body, hy, hR⟩ := hY ss x _ hJ2' (by omega)
      unfold eR at hy hen ⊢
      clear hs2
      gi_wp2
      refine hR.mono ?_
      rintro e W3 (⟨rfl, hJ3, hk3'⟩ | ⟨rfl, hJx3⟩)
      rotate_left
      · gi_wp2
        refine bodyPost_ret (results_none rfl _ _ _) rfl ?_
        exact ⟨⟨_, rfl⟩, .inr ⟨_, trivial, hJx3⟩⟩
      have hk3 : KeepsWalks w2 W3 := (KeepsWalks.alloc w2 _).trans hk3'
      gi_wp2
      have hrg3 := hrg2.walks hk3
      go_roundw
      case rel => exact ⟨_, cnt2, ss ++ [id x], hrg3, by simp; omega, hC.step (fun _ _ h => h) hkM hns, hJ3⟩
      case measure => rw [hrg3.left_eq, hrg.left_eq]; exact hlt
end Go.Proofs.YtljegdokbifoiaaGreatDoor.Af
