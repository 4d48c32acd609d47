/- maps.DeleteFunc: what is not positive is left out. No condition. -/
import Derived.Test.YtljegdokbifoiaaGreatDoorZzPq
import Derived.Test.YtljegdokbifoiaaGreatDoorZzMi
import Derived.Test.YtljegdokbifoiaaGreatDoorZzSi
import Derived.Shelf.AbstractIn
import Derived.Sort.MapsRangeIn
import Derived.WalkKit
import Derived.OwnWalkIn
import Derived.TacticsInMore
import Derived.RegionIn
import Derived.LoopNIn
import Derived.LoopIn
namespace Go.Proofs.YtljegdokbifoiaaGreatDoor.Af
open Go.RowKit Go.Maps Go.Shelf Go.Sort

def posN (M : List (Rt × Int)) : List (Rt × Int) := M.filter fun p => decide (0 < p.2)
theorem del44 (r : Rt) (n : Int) (W : World) : Calls Tryz.prog 44 #[.agg #[.string r.1, .string r.2], .int .i64 n] W fun e w' => e = .returned (.bool (decide (n ≤ 0))) ∧ w' = W.alloc (.cells #[.string r.1, .string r.2] 108) := by
  go_enter Tryz.func44, Tryz.ntmps44
  go_wp2
  go_ret
  exact ⟨rfl, rfl⟩
/-- Between two rounds: 'D': the keys that are left out. -/
structure DelI (M0 M : List (Rt × Int)) (Sn : Rt → Prop) (D : Rt → Bool) : Prop where
  is : M = M0.filter fun p : Rt × Int => !D p.1
  out : ∀ p ∈ M0, D p.1 = true → p.2 ≤ 0
  pos : ∀ p ∈ M0, Sn p.1 → D p.1 = false → 0 < p.2
theorem nd_val {M0 : List (Rt × Int)} (hn : (M0.map (·.1)).Nodup) {k : Rt} {a c : Int} (h1 : (k, a) ∈ M0) (h2 : (k, c) ∈ M0) : a = c := by
  have e1 := getK_of_mem hn h1
  have e2 := getK_of_mem hn h2
  rw [e1] at e2
  exact Option.some.inj e2
theorem DelI.start (M0 : List (Rt × Int)) : DelI M0 M0 (fun _ => False) (fun _ => false) := ⟨(List.filter_eq_self.2 fun _ _ => rfl).symm, fun _ _ h => by simp at h, fun _ _ h => h.elim⟩
theorem DelI.done {M0 M : List (Rt × Int)} {Sn : Rt → Prop} {D : Rt → Bool} (h : DelI M0 M Sn D) (ha : AllS M Sn) : M = posN M0 := by
  have h0 := h.is
  unfold posN
  rw [h0]
  refine List.filter_congr fun p hp => ?_
  cases hd : D p.1 with
  | false =>
    have := h.pos p hp (ha p (by rw [h0]; exact List.mem_filter.2 ⟨hp, by rw [hd]; rfl⟩)) hd
    rw [decide_eq_true this]
    rfl
  | true =>
    have := h.out p hp hd
    rw [decide_eq_false (by omega)]
    rfl
theorem DelI.mem {M0 M : List (Rt × Int)} {Sn : Rt → Prop} {D : Rt → Bool} (h : DelI M0 M Sn D) {p : Rt × Int} (hp : p ∈ M) : p ∈ M0 ∧ D p.1 = false := by
  rw [h.is, List.mem_filter] at hp
  exact ⟨hp.1, by simpa using hp.2⟩
theorem DelI.stay {M0 M : List (Rt × Int)} (hn : (M0.map (·.1)).Nodup) {Sn : Rt → Prop} {D : Rt → Bool} (h : DelI M0 M Sn D) {x : Rt} {c : Int} (hx : (x, c) ∈ M) (hc : ¬ c ≤ 0) : DelI M0 M (fun y => Sn y ∨ y = x) D := by
  refine ⟨h.is, h.out, fun p hp hs hd => ?_⟩
  rcases hs with hs | hs
  · exact h.pos p hp hs hd
  · have := nd_val hn (show (x, p.2) ∈ M0 by rw [← hs]; exact hp) (h.mem hx).1
    omega
theorem DelI.gone {M0 M : List (Rt × Int)} (hn : (M0.map (·.1)).Nodup) {Sn : Rt → Prop} {D : Rt → Bool} (h : DelI M0 M Sn D) {x : Rt} {c : Int} (hx : (x, c) ∈ M) (hc : c ≤ 0) : DelI M0 (M.filter fun p => p.1 ≠ x) (fun y => Sn y ∨ y = x) (fun y => decide (y = x) || D y) := by
  refine ⟨?_, fun p hp hd => ?_, fun p hp hs hd => ?_⟩
  · rw [h.is, List.filter_filter]
    refine List.filter_congr fun p _ => ?_
    by_cases e : p.1 = x
    · simp [e]
    · simp [e]
  · by_cases e : p.1 = x
    · have := nd_val hn (show (x, p.2) ∈ M0 by rw [← e]; exact hp) (h.mem hx).1
      omega
    · exact h.out p hp (by simpa [e] using hd)
  · simp only [Bool.or_eq_false_iff, decide_eq_false_iff_not] at hd
    rcases hs with hs | hs
    · exact h.pos p hp hs hd.2
    · exact absurd hs hd.1
theorem grow_trans {W A B : World} {b : Nat} {row : Option Nat} (h : W.grownBy A (some b)) (h2 : A.grownBy B row) (hr : ∀ r, row = some r → r = b ∨ W.heap.size ≤ r) : W.grownBy B (some b) := by
  obtain ⟨a1, a2, a3, a4, a5⟩ := h
  obtain ⟨b1, b2, b3, b4, b5⟩ := h2
  refine ⟨b1.trans a1, b2.trans a2, b3.trans a3, Nat.le_trans a4 b4, fun k hk hne => (b5 k (Nat.lt_of_lt_of_le hk a4) fun e => ?_).trans (a5 k hk hne)⟩
  rcases hr k e.symm with rfl | h
  · exact hne rfl
  · omega
theorem Krt : Keyed Tryz.prog 108 := Keyed.of_law (deep_law_laid (m := 4) (by kernel_rfl) (by decide) (Nat.le_of_ble_eq_true (by kernel_rfl)) (by kernel_rfl) (by rw [Tryz.underlying108]))
set_option maxRecDepth 100000 in
set_option maxHeartbeats 1000000 in
theorem del43 (b : Nat) (es : Array MapEntry) (clk : Nat) (M : List (Rt × Int)) (W : World) (hb : W.heap[b]? = some (.map es clk)) (hM : MapT Tryz.prog 108 eR eN es clk M) :
    Calls Tryz.prog 43 #[.map (some b), .func (.func 44) #[] #[]] W fun e w' => e = .returned (.tuple #[]) ∧ W.grownBy w' (some b) ∧ ∃ (es' : Array MapEntry) (clk' : Nat), w'.heap[b]? = some (.map es' clk') ∧ MapT Tryz.prog 108 eR eN es' clk' (posN M) := by
  refine (callsIn_wide (n := 3)).1 ?_
  have h44 := fun (r : Rt) (n : Int) (W' : World) => callsIn_wide (n := 2) |>.2 (del44 r n W')
  refine callsIn_of_wp Tryz.func43 rfl trivial ?_ rfl
  simp only [Tryz.ntmps43, List.size_toArray, List.length_cons, List.length_nil, Nat.reduceAdd, Nat.reduceSub, Array.replicate_succ, Array.replicate_zero, List.push_toArray, List.append_toArray, List.nil_append, List.cons_append]
  gi_wp2_with (first
    | (gi_at_range; refine gi_range (es := es) (clk := clk) _ rfl _ 106 2 rfl Tryz.underlying106 rfl hb hM ?_; intro w0 hrg0 hg0 hs0)
    | gi_in)
  try go_frame
  gi_loopw [4, 5] (fun _ _ wr => ∃ (Sn : Rt → Prop) (cnt : Nat) (M' : List (Rt × Int)) (D : Rt → Bool), MIt Tryz.prog 108 eR eN wr b W.heap.size M' Sn cnt ∧ DelI M M' Sn D ∧ W.grownBy wr (some b))
    (fun _ _ wr => wr.rangeLeft b W.heap.size)
  case atStart =>
    exact ⟨_, _, M, _, hrg0, DelI.start M, ⟨hg0.1, hg0.2, hg0.3, hg0.4, fun k hk _ => hg0.5 k hk (by simp)⟩⟩
  case round =>
    obtain ⟨Sn, cnt, M', D, hrg, hD, hG⟩ := hrel
    gi_wp2_with (first
      | (gi_at_next; refine gi_next _ rfl _ rfl eR_inj rfl hrg ?_ ?_)
      | gi_in)
    · intro hc0 hl0
      gi_wp2
      go_end0
      refine ⟨rfl, hG, ?_⟩
      obtain ⟨es', clk', _, _, _, hb', hM', _⟩ := hrg.it
      exact ⟨es', clk', hb', hD.done hl0 ▸ hM'⟩
    · rintro ⟨x, c⟩ w2 cnt2 hkM hns hrg2 hlt hg2 hs2 hen
      unfold eR eN at hen ⊢
      clear hs2
      have hG2 := grow_trans hG hg2 (fun r e => by cases e; exact .inr (Nat.le_refl _))
      by_cases hc : c ≤ 0
      · have hd : decide (c ≤ 0) = true := decide_eq_true hc
        gi_wp2_with (first
          | (refine ⟨trivial, ?_⟩; gi_at_call 44; refine (h44 x c _).mono ?_; rintro e w3 ⟨rfl, rfl⟩; rw [hd])
          | (gi_at_delete; refine gi_delete _ rfl _ _ 106 2 rfl Krt eR_inj Tryz.underlying106 (hrg2.below (((Below.refl _ w2).alloc (Nat.le_refl _) _).alloc (by simp) _)) hkM rfl rfl ?_; intro w4 cnt4 hrg4 hle4 hg4 hs4)
          | gi_in)
        refine ⟨⟨_, _, _, _, _, _, _, _, _, _, _, _, _, ⟨_, cnt4, _, _, hrg4, hD.gone hM.nd hkM hc, grow_trans (grow_trans (grow_trans hG2 (World.grownBy_alloc w2 _ none) (fun r e => by cases e)) (World.grownBy_alloc _ _ none) (fun r e => by cases e)) hg4 (fun r e => by cases e; exact .inl rfl)⟩, rfl⟩, ?_⟩
        rw [hrg4.left_eq, hrg.left_eq]; omega
      · have hd : decide (c ≤ 0) = false := decide_eq_false hc
        gi_wp2_with (first
          | (refine ⟨trivial, ?_⟩; gi_at_call 44; refine (h44 x c _).mono ?_; rintro e w3 ⟨rfl, rfl⟩; rw [hd])
          | gi_in)
        have hrg3 := hrg2.below (((Below.refl _ w2).alloc (Nat.le_refl _) (.cells #[.string x.1, .string x.2] 108)).alloc (by simp) (.cells #[.string x.1, .string x.2] 108))
        go_roundw
        case rel => exact ⟨_, cnt2, _, _, hrg3, hD.stay hM.nd hkM (by omega), grow_trans (grow_trans hG2 (World.grownBy_alloc w2 _ none) (fun r e => by cases e)) (World.grownBy_alloc _ _ none) (fun r e => by cases e)⟩
        case measure => rw [hrg3.left_eq, hrg.left_eq]; exact hlt
end Go.Proofs.YtljegdokbifoiaaGreatDoor.Af
