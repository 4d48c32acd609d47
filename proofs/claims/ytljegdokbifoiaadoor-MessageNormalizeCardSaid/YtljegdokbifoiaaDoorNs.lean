/- Ordering an own row of links: slices.SortFunc by the references. At most 1000 links. -/
import Derived.Test.YtljegdokbifoiaaDoorSs
import Derived.Test.YtljegdokbifoiaaDoorNzp
import Derived.Test.YtljegdokbifoiaaDoorCl
import Derived.Shelf.SlSortCmp.NoneTotal
namespace Go.Proofs.YtljegdokbifoiaaDoor.Af
open Go.RowKit Go.Shelf Go.Lib Go.Sort

instance : Inhabited Lk := ⟨⟨0, ⟨#[]⟩⟩⟩
def encL (x : Lk) : List Value := [.int .i64 x.t, .string x.r]
def cmpK (x y : Lk) : Int := Lib.compareBytes x.r.data.toList y.r.data.toList
theorem ltOf_cmp (x y : Lk) : ltOf cmpK x y = ltB x.r y.r := rfl
theorem swoK : SWO (ltOf cmpK) where
  irrefl x := by rw [ltOf_cmp]; exact lt_self _
  trans x y z h1 h2 := by rw [ltOf_cmp] at *; exact lt_trans' h1 h2
  ntrans x y z h1 h2 := by
    rw [ltOf_cmp] at *
    cases h : ltB x.r z.r with
    | false => rfl
    | true =>
      exfalso
      cases h3 : ltB y.r x.r with
      | true => rw [lt_trans' h3 h] at h2; cases h2
      | false =>
        have e := lt_total h1 h3
        unfold ltB at h h2
        rw [e] at h
        rw [h] at h2
        cases h2
set_option maxHeartbeats 1000000 in
theorem closure55 (x y : Lk) (W : World) : Calls Tryd.prog 55 #[.agg #[.int .i64 x.t, .string x.r], .agg #[.int .i64 y.t, .string y.r]] W fun e w' => e = .returned (.int .i64 (cmpK x y)) ∧ ∃ q os', w' = grow (W.drewN q) os' := by
  have hcon := fun W' => Tryd.strings_Compare x.r y.r W'
  unfold cmpK
  generalize Lib.compareBytes x.r.data.toList y.r.data.toList = r at hcon ⊢
  go_enter Tryd.func55, Tryd.ntmps55
  go_wp2_with (go_at_call 56; refine (hcon _).mono ?_; rintro e w' ⟨rfl, rfl⟩)
  go_ret
  exact ⟨rfl, 0, _, by rw [alloc_eq_grow, alloc_eq_grow, grow_grow]; rfl⟩
theorem flat_lkc (L : List Lk) (j : Nat) (hj : j < L.length * 2) : (lkc L)[j]? = some ((flatK encL 2 L.toArray)[j]!) := by
  have h2 : j / 2 < L.length := by omega
  rw [get_flatK _ _ _ j (by simpa using hj)]
  have hx : L.toArray[j / 2]! = L[j / 2] := by simp [h2]
  rw [hx]
  obtain ⟨g0, g1⟩ := lkc_get L (j / 2) L[j / 2] (List.getElem?_eq_getElem h2)
  rcases Nat.mod_two_eq_zero_or_one j with h | h
  · have e : j / 2 * 2 = j := by omega
    rw [e] at g0
    rw [h]
    exact g0
  · have e : j / 2 * 2 + 1 = j := by omega
    rw [e] at g1
    rw [h]
    exact g1
theorem put_take (cur : Array Value) (L : List Lk) (hs : L.length * 2 ≤ cur.size) : (putCells id 0 (flatK encL 2 L.toArray) cur).toList.take (L.length * 2) = lkc L := by
  apply List.ext_getElem?
  intro j
  rw [List.getElem?_take]
  split
  · rename_i hj
    rw [flat_lkc L j hj, Array.getElem?_toList, putCells, Array.getElem?_mapIdx, Array.getElem?_eq_getElem (by omega), Option.map_some, if_pos ⟨Nat.zero_le _, by simpa using hj⟩]
    rfl
  · rename_i hj
    rw [List.getElem?_eq_none (by rw [lkc_length]; omega)]
theorem sorted_srt {L L' : List Lk} (hd : L.Pairwise dst) (hp : L'.Perm L) (hs : ∀ (i j : Nat) (x y : Lk), i < j → L'[i]? = some x → L'[j]? = some y → ltB y.r x.r = false) : L' = srtL L := by
  refine asc_uniq ?_ (srt_asc L hd) (hp.trans (srt_perm L).symm)
  have hd' := dst_perm hp.symm hd
  rw [List.pairwise_iff_getElem] at hd' ⊢
  intro i j hi hj hij
  have h1 := hs i j L'[i] L'[j] hij (List.getElem?_eq_getElem hi) (List.getElem?_eq_getElem hj)
  unfold asc
  cases h2 : ltB L'[i].r L'[j].r with
  | true => rfl
  | false => exact absurd (lt_total h2 h1) (hd' i j hi hj hij)
theorem c54 (ls : List Lk) (A : Option Addr) (c base : Nat) (w : World) (hn : ls.length ≤ 1000) (ho : World.ownsRow w base 66 2 (.slice A ls.length c) ls.length (lkc ls)) (hd : ls.Pairwise dst) :
    Calls Tryd.prog 54 #[.slice A ls.length c, .func (.func 55) #[] #[]] w fun e w' => e = .returned (.tuple #[]) ∧ World.ownsRow w' base 66 2 (.slice A ls.length c) ls.length (lkc (srtL ls)) ∧ w.grownBy w' (Value.ownBlock (.slice A ls.length c)) := by
  obtain ⟨hl, h | ⟨g, cap, cur, h, hge, hblk, hle, hcap, hsz, htake⟩⟩ := ho
  · obtain ⟨h1, h2⟩ := h
    cases ls with
    | cons x l => cases h2
    | nil =>
      cases h1
      refine (AnyF.slices_SortFunc_none Tryd.sortL none 0 (.func (.func 55) #[] #[]) w).mono fun e w' ⟨h3, h4⟩ => ?_
      subst h4
      exact ⟨h3, own_nil _ _ _ _, rfl, rfl, rfl, Nat.le_refl _, fun _ _ _ => rfl⟩
  · cases h
    have hlt : g < w.heap.size := blk_size hblk
    have hH : HoldsK encL 2 w g 0 ls.toArray := fun j hj => by
      have hj' : j < ls.length * 2 := by simpa using hj
      rw [Nat.zero_add]
      refine ⟨?_, Lib.frozen_of_heap hblk j⟩
      rw [cell_of_row w g j cur 66 (0, 0) hblk]
      have := flat_lkc ls j hj'
      rw [← htake, List.getElem?_take, if_pos hj', Array.getElem?_toList] at this
      exact this
    have eg : ∀ args w, (callFunc 55 args).run Tryd.prog w = .ok (.enter 55 args) w := enters_of Tryd.func55 (by kernel_rfl) rfl
    have hcmp : CmpLays Tryd.prog 55 #[] encL 2 cmpK g 0 ls.toArray.size w := fun _ _ _ _ x y => closure55 x y _
    have hcon := AnyQ.slices_SortFunc Tryd.sortL 2 Tryd.isAgg66 Tryd.sizeOf66 encL (fun _ => rfl) (fun x v hv => by simp [encL] at hv; rcases hv with rfl | rfl <;> rfl) cmpK swoK 55 #[] g 0 c ls.toArray w eg hcmp hH hlt (by simp; omega)
    change Calls Tryd.prog 54 _ _ _ at hcon
    refine hcon.mono fun e w' ⟨h1, d', n, os, hp, hs, hw⟩ => ⟨h1, ?_⟩
    obtain ⟨hps, -, hpp⟩ := hp
    have hsz' : d'.size = ls.length := by simpa using hps
    have hperm : d'.toList.Perm ls := by
      have e1 : (d'.extract 0 ls.toArray.size).toList = d'.toList := by simp [← hsz']
      have e2 : (ls.toArray.extract 0 ls.toArray.size).toList = ls := by simp
      rw [e1, e2] at hpp
      exact hpp
    have hsrt : d'.toList = srtL ls := sorted_srt hd hperm fun i j x y hij hx hy => by
      have hi := (List.getElem?_eq_some_iff.1 hx).1
      have hj := (List.getElem?_eq_some_iff.1 hy).1
      have := hs i j (Nat.zero_le _) hij (by simpa [hsz'] using hj)
      rw [ltOf_cmp] at this
      have ex : d'[i]! = x := by
        have : d'[i]? = some x := by simpa using hx
        rw [getElem!_def, this]
      have ey : d'[j]! = y := by
        have : d'[j]? = some y := by simpa using hy
        rw [getElem!_def, this]
      rw [ex, ey] at this
      exact this
    have hd' : d' = (srtL ls).toArray := by rw [← hsrt]
    have hheap : ∀ k, k < w.heap.size → w'.heap[k]? = ((putRow id (Sort.ahead w n) g 0 (flatK encL 2 d'))).heap[k]? := fun k hk => by
      rw [hw]
      exact heap_grow_old _ _ (by simpa [putRowK] using hk)
    have hself : w'.heap[g]? = some (.cells (putCells id 0 (flatK encL 2 d') cur) 66 (0, 0)) := by
      rw [hheap g hlt]
      show (w.heap.modify g (onCells _))[g]? = _
      rw [Array.getElem?_modify, if_pos rfl, hblk]
      rfl
    refine ⟨⟨by rw [lkc_length, srt_len, Nat.mul_comm], .inr ⟨g, c, _, rfl, hge, hself, hle, hcap, ?_, ?_⟩⟩, ?_⟩
    · simp [putCells, hsz]
    · rw [hd', ← srt_len ls]
      exact put_take cur (srtL ls) (by rw [srt_len, hsz]; exact Nat.mul_le_mul_right _ hle)
    · refine ⟨by rw [hw]; rfl, by rw [hw]; rfl, by rw [hw]; rfl, by rw [hw]; simp [sortWorldK, putRowK], fun k hk hne => ?_⟩
      rw [hheap k hk]
      show (w.heap.modify g (onCells _))[k]? = _
      rw [Array.getElem?_modify, if_neg (fun e => hne (by rw [e]; rfl))]
end Go.Proofs.YtljegdokbifoiaaDoor.Af
