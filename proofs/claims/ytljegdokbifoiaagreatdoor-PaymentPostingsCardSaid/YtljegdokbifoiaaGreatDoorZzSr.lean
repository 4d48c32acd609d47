/- Ordering routes. At most 10000. -/
import Derived.Test.YtljegdokbifoiaaGreatDoorZzCp
import Derived.Shelf.SlSortCmp.NoneTotal
namespace Go.Proofs.YtljegdokbifoiaaGreatDoor.Af
open Go.RowKit Go.Maps Go.Shelf Go.Sort Go.Lib

theorem eq_of_cmp {a b : ByteArray} (h : cmpS a b = 0) : a = b := decS_inj _ _ (cb_eq _ _ h)
theorem cmpS_self (a : ByteArray) : cmpS a a = 0 := cb_self _
def ltR (x y : Rt) : Bool := decide (cmpR x y < 0)
theorem ltR_iff (x y : Rt) : ltR x y = true ↔ ltB x.1 y.1 = true ∨ x.1 = y.1 ∧ ltB x.2 y.2 = true := by
  unfold ltR cmpR orI ltB
  simp only [decide_eq_true_eq]
  by_cases h : cmpS x.1 y.1 = 0
  · rw [if_pos h]
    have e := eq_of_cmp h
    constructor
    · intro h2; exact .inr ⟨e, h2⟩
    · rintro (h2 | h2)
      · exact absurd h (by unfold cmpS; omega)
      · exact h2.2
  · rw [if_neg h]
    constructor
    · intro h2; exact .inl h2
    · rintro (h2 | h2)
      · exact h2
      · exact absurd (by rw [h2.1]; exact cmpS_self _) h
theorem ltOf_R (x y : Rt) : ltOf cmpR x y = ltR x y := rfl
theorem ltR_self (x : Rt) : ltR x x = false := by
  cases h : ltR x x with
  | false => rfl
  | true =>
    rcases (ltR_iff x x).1 h with h1 | h1
    · rw [lt_self] at h1; cases h1
    · rw [lt_self] at h1; cases h1.2
theorem ltR_trans {x y z : Rt} (h1 : ltR x y = true) (h2 : ltR y z = true) : ltR x z = true := by
  rw [ltR_iff] at *
  rcases h1 with h1 | ⟨e1, h1⟩ <;> rcases h2 with h2 | ⟨e2, h2⟩
  · exact .inl (lt_trans' h1 h2)
  · exact .inl (by rw [← e2]; exact h1)
  · exact .inl (by rw [e1]; exact h2)
  · exact .inr ⟨e1.trans e2, lt_trans' h1 h2⟩
theorem ltR_tot {x y : Rt} (h1 : ltR x y = false) (h2 : ltR y x = false) : x = y := by
  have n1 : ¬ ltR x y = true := by rw [h1]; simp
  have n2 : ¬ ltR y x = true := by rw [h2]; simp
  rw [ltR_iff] at n1 n2
  have e1 : x.1 = y.1 := lt_tot (by simpa using fun h => n1 (.inl h)) (by simpa using fun h => n2 (.inl h))
  refine Prod.ext e1 (lt_tot ?_ ?_)
  · simpa using fun h => n1 (.inr ⟨e1, h⟩)
  · simpa using fun h => n2 (.inr ⟨e1.symm, h⟩)
theorem ltR_asym {x y : Rt} (h : ltR x y = true) : ltR y x = false := by
  cases h2 : ltR y x with
  | false => rfl
  | true => rw [← ltR_trans h h2, ltR_self]
theorem swoR : SWO (ltOf cmpR) where
  irrefl x := ltR_self x
  trans x y z h1 h2 := ltR_trans h1 h2
  ntrans x y z h1 h2 := by
    rw [ltOf_R] at *
    cases h : ltR x z with
    | false => rfl
    | true =>
      exfalso
      cases h3 : ltR y x with
      | true => rw [ltR_trans h3 h] at h2; cases h2
      | false =>
        have e := ltR_tot h1 h3
        subst e
        rw [h] at h2
        cases h2
def sortR (l : List Rt) : List Rt := l.mergeSort fun x y => !ltR y x
theorem sortR_perm (l : List Rt) : (sortR l).Perm l := List.mergeSort_perm _ _
theorem sortR_len (l : List Rt) : (sortR l).length = l.length := (sortR_perm l).length_eq
theorem sortR_asc (l : List Rt) : (sortR l).Pairwise fun x y => ltR y x = false := by
  have h := List.pairwise_mergeSort (le := fun x y => !ltR y x) (fun a b c h1 h2 => by
      simp only [Bool.not_eq_true'] at *
      exact swoR.ntrans c b a h2 h1) (fun a b => by
      cases h : ltR b a with
      | false => simp
      | true => simp [ltR_asym h]) l
  exact h.imp fun h => by simpa using h
theorem sortR_eq {l m : List Rt} (hp : l.Perm m) (hl : l.Pairwise fun x y => ltR y x = false) : l = sortR m :=
  (hp.trans (sortR_perm m).symm).eq_of_pairwise (fun _ _ _ _ h1 h2 => ltR_tot h2 h1) hl (sortR_asc m)
def keysR {ν : Type} (M : List (Rt × ν)) : List Rt := sortR (M.map (·.1))
theorem keysR_len {ν : Type} (M : List (Rt × ν)) : (keysR M).length = M.length := by unfold keysR; rw [sortR_len, List.length_map]
theorem keysR_of {ν : Type} {M : List (Rt × ν)} {ks : List Rt} (h : ks.Perm (M.map (·.1))) : sortR ks = keysR M := sortR_eq ((sortR_perm ks).trans h) (sortR_asc ks)
theorem keysR_mem {ν : Type} {M : List (Rt × ν)} {k : Rt} (h : k ∈ keysR M) : k ∈ M.map (·.1) := (sortR_perm _).mem_iff.1 h
instance : Inhabited Rt := ⟨(⟨#[]⟩, ⟨#[]⟩)⟩
def rtsc (l : List Rt) : List Value := l.flatMap rtC
theorem rtsc_len (l : List Rt) : (rtsc l).length = l.length * 2 := by
  induction l with
  | nil => rfl
  | cons x l ih => simp only [rtsc, List.flatMap_cons, List.length_append, List.length_cons, rtC] at ih ⊢; simp at ih ⊢; omega
theorem rtsc_el {l : List Rt} {k : Nat} {x : Rt} (h : l[k]? = some x) : ∀ j u, (rtC x)[j]? = some u → (rtsc l)[k * 2 + j]? = some u := by
  induction l generalizing k with
  | nil => simp at h
  | cons y l ih =>
    intro j u hj
    have hjl : j < 2 := (List.getElem?_eq_some_iff.1 hj).1
    simp only [rtsc, List.flatMap_cons]
    cases k with
    | zero =>
      simp only [List.getElem?_cons_zero, Option.some.injEq] at h
      subst h
      rw [List.getElem?_append_left (by show 0 * 2 + j < 2; omega), Nat.zero_mul, Nat.zero_add]
      exact hj
    | succ k =>
      rw [List.getElem?_cons_succ] at h
      rw [List.getElem?_append_right (by show 2 ≤ _; omega), show (k + 1) * 2 + j - (rtC y).length = k * 2 + j by show _ - 2 = _; omega]
      exact ih h j u hj
theorem flat_rtsc (L : List Rt) (j : Nat) (hj : j < L.length * 2) : (rtsc L)[j]? = some ((flatK rtC 2 L.toArray)[j]!) := by
  have h2 : j / 2 < L.length := by omega
  rw [get_flatK _ _ _ j (by simpa using hj)]
  have hx : L.toArray[j / 2]! = L[j / 2] := by simp [h2]
  rw [hx]
  have g := fun i u => rtsc_el (List.getElem?_eq_getElem h2) i u
  rcases Nat.mod_two_eq_zero_or_one j with h | h
  · have e : j / 2 * 2 + 0 = j := by omega
    have := g 0 _ rfl
    rw [e] at this
    rw [h]
    exact this
  · have e : j / 2 * 2 + 1 = j := by omega
    have := g 1 _ rfl
    rw [e] at this
    rw [h]
    exact this
theorem c95 (ks : List Rt) (A : Option Addr) (c base : Nat) (w : World) (hn : ks.length ≤ 10000) (ho : World.ownsRow w base 108 2 (.slice A ks.length c) ks.length (rtsc ks)) :
    Calls Tryz.prog 95 #[.slice A ks.length c, .func (.func 46) #[] #[]] w fun e w' => e = .returned (.tuple #[]) ∧ World.ownsRow w' base 108 2 (.slice A ks.length c) ks.length (rtsc (sortR ks)) ∧ w.grownBy w' (Value.ownBlock (.slice A ks.length c)) := by
  obtain ⟨hl, h | ⟨g, cap, cur, h, hge, hblk, hle, hcap, hsz, htake⟩⟩ := ho
  · obtain ⟨h1, h2⟩ := h
    cases ks with
    | cons x l => cases h2
    | nil =>
      cases h1
      refine (AnyF.slices_SortFunc_none Tryz.sortR none 0 (.func (.func 46) #[] #[]) w).mono fun e w' ⟨h3, h4⟩ => ?_
      subst h4
      refine ⟨h3, ?_, rfl, rfl, rfl, Nat.le_refl _, fun _ _ _ => rfl⟩
      have : sortR [] = [] := List.eq_nil_of_length_eq_zero (sortR_len [])
      rw [this]
      exact own_nil _ _ _ _
  · cases h
    have hlt : g < w.heap.size := blk_size hblk
    have hH : HoldsK rtC 2 w g 0 ks.toArray := fun j hj => by
      have hj' : j < ks.length * 2 := by simpa using hj
      rw [Nat.zero_add]
      refine ⟨?_, Lib.frozen_of_heap hblk j⟩
      rw [cell_of_row w g j cur 108 (0, 0) hblk]
      have := flat_rtsc ks j hj'
      rw [← htake, List.getElem?_take, if_pos hj', Array.getElem?_toList] at this
      exact this
    have eg : ∀ args w, (callFunc 46 args).run Tryz.prog w = .ok (.enter 46 args) w := enters_of Tryz.func46 (by kernel_rfl) rfl
    have hcmp : CmpLays Tryz.prog 46 #[] rtC 2 cmpR g 0 ks.toArray.size w := fun _ _ _ _ x y => p46 x y _
    have hcon := AnyQ.slices_SortFunc Tryz.sortR 2 Tryz.isAgg108 Tryz.sizeOf108 rtC (fun _ => rfl) (fun x v hv => by simp [rtC] at hv; rcases hv with rfl | rfl <;> rfl) cmpR swoR 46 #[] g 0 c ks.toArray w eg hcmp hH hlt (by simp; omega)
    change Calls Tryz.prog 95 _ _ _ at hcon
    refine hcon.mono fun e w' ⟨h1, d', n, os, hp, hs, hw⟩ => ⟨h1, ?_⟩
    obtain ⟨hps, -, hpp⟩ := hp
    have hsz' : d'.size = ks.length := by simpa using hps
    have hperm : d'.toList.Perm ks := by
      have e1 : (d'.extract 0 ks.toArray.size).toList = d'.toList := by simp [← hsz']
      have e2 : (ks.toArray.extract 0 ks.toArray.size).toList = ks := by simp
      rw [e1, e2] at hpp
      exact hpp
    have hsrt : d'.toList = sortR ks := sortR_eq hperm (by
      rw [List.pairwise_iff_getElem]
      intro i j hi hj hij
      have hj' : j < d'.size := by simpa using hj
      have hi' : i < d'.size := by omega
      have := hs i j (Nat.zero_le _) hij (by simpa [← hsz'] using hj')
      rw [getElem!_pos d' j hj', getElem!_pos d' i hi', ltOf_R] at this
      simpa using this)
    have hd' : d' = (sortR ks).toArray := by rw [← hsrt]
    have hheap : ∀ k, k < w.heap.size → w'.heap[k]? = ((putRow id (Sort.ahead w n) g 0 (flatK rtC 2 d'))).heap[k]? := fun k hk => by
      rw [hw]
      exact heap_grow_old _ _ (by simpa [putRowK] using hk)
    have hself : w'.heap[g]? = some (.cells (putCells id 0 (flatK rtC 2 d') cur) 108 (0, 0)) := by
      rw [hheap g hlt]
      show (w.heap.modify g (onCells _))[g]? = _
      rw [Array.getElem?_modify, if_pos rfl, hblk]
      rfl
    refine ⟨⟨by rw [rtsc_len, sortR_len], .inr ⟨g, c, _, rfl, hge, hself, hle, hcap, ?_, ?_⟩⟩, ?_⟩
    · simp [putCells, hsz]
    · rw [hd']
      apply List.ext_getElem?
      intro j
      rw [List.getElem?_take]
      split
      · rename_i hj
        have hj2 : j < (sortR ks).length * 2 := by rw [sortR_len]; exact hj
        rw [flat_rtsc (sortR ks) j hj2, Array.getElem?_toList, putCells, Array.getElem?_mapIdx, Array.getElem?_eq_getElem (by rw [hsz]; omega), Option.map_some, if_pos ⟨Nat.zero_le _, by simpa using hj2⟩]
        rfl
      · rename_i hj
        rw [List.getElem?_eq_none (by rw [rtsc_len, sortR_len]; omega)]
    · refine ⟨by rw [hw]; rfl, by rw [hw]; rfl, by rw [hw]; rfl, by rw [hw]; simp [sortWorldK, putRowK], fun k hk hne => ?_⟩
      rw [hheap k hk]
      show (w.heap.modify g (onCells _))[k]? = _
      rw [Array.getElem?_modify, if_neg (fun e => hne (by rw [e]; rfl))]
end Go.Proofs.YtljegdokbifoiaaGreatDoor.Af
