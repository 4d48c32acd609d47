/- Collecting a map's keys: routes. At most 10000 entries. -/
import Derived.Test.YtljegdokbifoiaaGreatDoorZzIt
import Derived.Test.YtljegdokbifoiaaGreatDoorZzAp
import Derived.Maps.AppendAt
import Derived.RangeFuncNested
import Derived.RangeFuncBound
import Derived.RangeFuncCalls
import Derived.RangeFuncLeaves
namespace Go.Proofs.YtljegdokbifoiaaGreatDoor.Af
open Go.RowKit Go.Maps Go.Shelf Go.Sort Go.Lib

attribute [local go_sem] Oper.semAt_some
def rtC (r : Rt) : List Value := [.string r.1, .string r.2]
theorem info108 : (Tryz.prog.info? 108).map (fun i => (i.zero, i.size, i.bytes)) = some (some (.agg #[.string ⟨#[]⟩, .string ⟨#[]⟩]), 2, 32) := by kernel_rfl
/-- A route in a box. -/
def BoxR (W : World) (B : Nat) (r : Rt) : Prop := W.heap[B]? = some (.cells #[.string r.1, .string r.2] 108 (0, 0))
theorem BoxR.cell {W : World} {B : Nat} {r : Rt} (h : BoxR W B r) : W.cell? ⟨B, 0, none⟩ = some (.string r.1) ∧ W.cell? ⟨B, 1, none⟩ = some (.string r.2) ∧ W.frozen? ⟨B, 0, none⟩ = false ∧ W.frozen? ⟨B, 1, none⟩ = false := by
  unfold BoxR at h
  refine ⟨?_, ?_, ?_, ?_⟩ <;> simp [World.cell?, World.frozen?, h]
theorem rt_new (W : World) (a b : Value) : ∀ j u, ([a, b] : List Value)[j]? = some u → (W.alloc (.cells #[a, b] 108)).cell? ((⟨W.heap.size, 0, none⟩ : Addr).add j) = some u := fun j u hj => by
  obtain ⟨ad, e1, -, h⟩ := Rd.of_blk (World.alloc_heap_new W (.cells #[a, b] 108)) j u hj
  cases e1
  exact h
set_option maxRecDepth 100000 in
set_option maxHeartbeats 2000000 in
theorem app110 (M : List (Rt × Int)) (Bm b : Nat) (es : Array MapEntry) (clk : Nat) (w : World) (hn : M.length ≤ 10000) (hBm : Bm < w.heap.size) (hm : w.cell? ⟨Bm, 0, none⟩ = some (.map (some b))) (hb : w.heap[b]? = some (.map es clk)) (hM : MapT Tryz.prog 108 eR eN es clk M) :
    Calls Tryz.prog 110 #[.slice none 0 0, .func (.func 96) #[] #[.pointer (some ⟨Bm, 0, none⟩)]] w fun e w' => ∃ (v : Value) (ks : List Rt), e = .returned v ∧ ks.Perm (M.map (·.1)) ∧ w'.ownsRow w.heap.size 108 2 v ks.length (ks.flatMap rtC) ∧ Below w.heap.size w w' := by
  refine (callsIn_wide (n := 4)).1 ?_
  obtain ⟨i0, hi, hz0, hz1, hz2⟩ := info_parts info108
  refine callsIn_of_wp_marks Tryz.func110 rfl trivial ?_ rfl
  simp only [Tryz.ntmps110, List.size_toArray, List.length_cons, List.length_nil, Nat.reduceAdd, Nat.reduceSub, Array.replicate_succ, Array.replicate_zero, List.push_toArray, List.append_toArray, List.nil_append, List.cons_append]
  gi_wp2
  have bO := Boxed.new w 141 (.slice none 0 0)
  have hB0 : Below w.heap.size w (w.alloc (.cells #[.slice none 0 0] 141)) := (Below.refl _ w).alloc (Nat.le_refl _) _
  refine wpIn_rangeFunc_ownH rfl (by omega) (gf := 96) (lb := #[.pointer (some ⟨Bm, 0, none⟩)]) rfl trivial (enters_of Tryz.func96 (by kernel_rfl) rfl)
    (it96 Fence.wide (4 - 1) trivial rfl (by omega) Bm b es clk M w hBm hm hb hM) walksK_t walksK_b hB0 (fun _ => rfl)
    (fun pre W => (∃ v, Boxed W w.heap.size 141 v ∧ W.ownsRow w.heap.size 108 2 v pre.length (pre.flatMap rtC) ∧ (v = .slice none 0 0 ↔ pre = [])) ∧ Below w.heap.size w W)
    (fun _ _ _ => False)
    (OwnFrom.and (Own.from (holdsRow_own w.heap.size w.heap.size 141 108 2 (fun pre => pre.length) (fun pre => pre.flatMap rtC) (fun pre v => v = .slice none 0 0 ↔ pre = [])) _) (ownFrom_below (Nat.le_refl _) (by simp)))
    (fun _ _ _ _ _ hs _ _ => hs)
    ⟨⟨_, bO, World.ownsRow_nil _ _ _ _, by simp⟩, hB0⟩
    (fun x a' W => ∃ Bx, w.heap.size < Bx ∧ BoxR W Bx x ∧ a' = { tmps := #[.slice none 0 0, .func (.func 96) #[] #[.pointer (some ⟨Bm, 0, none⟩)], .pointer (some ⟨w.heap.size, 0, none⟩), undef, .slice none 0 0, .pointer (some ⟨Bx, 0, none⟩), .func (.func 96) #[] #[.pointer (some ⟨Bm, 0, none⟩)], eR x, undef, undef, undef, undef, undef], defers := [] })
    (fun x a' => ?own) ?assign ?body ?done ?stop
  case own =>
    rintro s W W' row ⟨Bx, h1, h2, h3⟩ hg hr
    refine ⟨Bx, h1, ?_, h3⟩
    have hlt : Bx < W.heap.size := (Array.getElem?_eq_some_iff.1 h2).1
    refine (hg.block Bx hlt fun e => ?_).trans h2
    obtain ⟨-, o, ho, hc⟩ := hr Bx e.symm
    rw [show W.heap[Bx]? = _ from h2] at ho
    cases ho
    cases hc
  case assign =>
    rintro l pre x W K hi hK
    obtain ⟨⟨v, hv, hrow, hnil⟩, hB⟩ := hi
    unfold eR at hK ⊢
    gi_wp2
    exact hK _ _ ((KeepsOthers.alloc _ _).from _) (KeepsOthers.alloc _ _).walks ⟨⟨v, hv.alloc _, hrow.alloc _, hnil⟩, hB.alloc hB.size _⟩ ⟨W.heap.size, by have := hv.lt; omega, World.alloc_heap_new W _, rfl⟩
  case body =>
    rintro l pre x a' W hl ⟨r, hr⟩ ⟨⟨v, hv, hrow, hnil⟩, hB⟩ ⟨Bx, hBx, bX, rfl⟩ hlt
    have hc := hv.cell
    obtain ⟨hx0, hx1, hf0, hf1'⟩ := bX.cell
    unfold eR
    gi_wp2_with (gi_at_builtin; refine wpListIn_append_own _ rfl _ _ 141 rfl w.heap.size 108 i0 (.agg #[.string ⟨#[]⟩, .string ⟨#[]⟩]) 2 32 Tryz.underlying141 hi hz0 hz1 hz2 rfl (by decide) _ _ _ rfl (hrow.alloc _) ⟨W.heap.size, 0, none⟩ 1 1 [.string x.1, .string x.2] rfl rfl (rt_new _ _ _) (by simp [Value.oneCell']) (by unfold maxLen; omega) (by omega) (by have := hB.size; simp; omega) ?_; intro v' w1 hown' hgrow _; obtain ⟨g', cap', rfl⟩ := ownsRow_succ hown'; obtain ⟨hv1, hv2, hr2, hk2, hb2⟩ := hv.appended (by decide) hrow hB.size (Nat.le_refl _) hown' hgrow; have hc1 := hv1.cell; have hf1 := hv1.frozen)
    exact ⟨hk2.from _, hk2.walks, ⟨_, hv2, by rw [List.flatMap_append, List.length_append]; simpa [rtC] using hr2, by simp⟩, hB.trans hb2⟩
  case done =>
    rintro D ys W hD hp ⟨⟨v, hv, hrow, hnil⟩, hB⟩ hK
    have hc := hv.cell
    gi_wp2
    refine ⟨by simp, .inl ⟨_, _, rfl, run_takeDeferred hK, ?_⟩⟩
    exact ⟨_, results_tmp rfl _ _ _, v, ys, rfl, hp, ownsRow_putObj hrow _ hK rfl, hB.trans (belowK_b (w := w) (Nat.le_refl _) W D _ _ (by simp at hD; omega) hK rfl rfl)⟩
  case stop =>
    rintro D c pre W _ _ h _
    exact h.elim
end Go.Proofs.YtljegdokbifoiaaGreatDoor.Af
