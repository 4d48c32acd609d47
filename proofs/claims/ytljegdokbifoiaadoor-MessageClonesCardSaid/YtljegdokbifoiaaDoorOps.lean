/- The references of an instruction's links are no longer than a machine holds. No condition but the row's own. -/
import Derived.Test.YtljegdokbifoiaaDoorOpq
namespace Go.Proofs.YtljegdokbifoiaaDoor.Af
open Go.ChangeShapes Go.WideShapes Go.ChangeAt Go.RowKit
variable {H : Type} {enc : TypeId × Value → H} {W : World}

theorem weightsAll_mem {P : Program} {e : TypeId} {l : List (DataW H)} {i : Nat} {d : DataW H} (h : l[i]? = some d) {n : Nat} (hn : n ∈ d.weights P e) : n ∈ DataW.weightsAll P e l := by
  induction l generalizing i with
  | nil => simp at h
  | cons x l ih =>
    simp only [DataW.weightsAll, List.mem_append]
    cases i with
    | zero =>
      simp only [List.getElem?_cons_zero, Option.some.injEq] at h
      subst h
      exact .inl hn
    | succ i =>
      rw [List.getElem?_cons_succ] at h
      exact .inr (ih h)
theorem weightsEach_mem {P : Program} {ts : List TypeId} {l : List (DataW H)} {i : Nat} {t : TypeId} {d : DataW H} (ht : ts[i]? = some t) (h : l[i]? = some d) {n : Nat} (hn : n ∈ d.weights P t) : n ∈ DataW.weightsEach P ts l := by
  induction l generalizing i ts with
  | nil => simp at h
  | cons x l ih =>
    cases ts with
    | nil => simp at ht
    | cons u ts =>
      simp only [DataW.weightsEach, List.mem_append]
      cases i with
      | zero =>
        simp only [List.getElem?_cons_zero, Option.some.injEq] at h ht
        subst h; subst ht
        exact .inl hn
      | succ i =>
        rw [List.getElem?_cons_succ] at h ht
        exact .inr (ih ht h)
theorem links_sized {fuel : Nat} {A : Option Addr} {c : Nat} {ls : List Lk} {x : DataW H × List MemPlace} (h : DataW.trod enc Tryd.prog W 0 (fun _ => true) true fuel 22 [.slice A ls.length c] = some x)
    (hr : Rd W A (lkc ls)) (hw : ∀ n ∈ x.1.weights Tryd.prog 22, n ≤ reachBytes) : ∀ y ∈ ls, y.r.size ≤ reachBytes := by
  rcases DataW.trod_slice Tryd.underlying22 h with ⟨hcs, _⟩ | ⟨a, len, cap, elems, rest, n, _, hcs, hx, _, hl, hm, hlen, hel, _⟩
  · intro y hy
    simp only [List.cons.injEq, Value.slice.injEq, and_true] at hcs
    rw [List.eq_nil_of_length_eq_zero hcs.2.1] at hy
    cases hy
  · have c67 : Tryd.prog.cellsOf 67 = 2 := by kernel_rfl
    have c9 : Tryd.prog.cellsOf 9 = 1 := by kernel_rfl
    simp only [List.cons.injEq, Value.slice.injEq, and_true] at hcs
    obtain ⟨rfl, hlen2, -⟩ := hcs
    intro y hy
    obtain ⟨i, hi, rfl⟩ := List.mem_iff_getElem.1 hy
    have h1 := hel i (by omega)
    rw [c67, List.getElem?_eq_getElem (by omega)] at h1
    cases hcells : W.cells? 0 (a.add (i * 2)) 2 with
    | none => rw [hcells] at h1; cases h1
    | some row =>
      rw [hcells] at h1
      obtain ⟨_, hrl, hrc⟩ := World.cells?_some hcells
      obtain ⟨ys, m, _, hxy, _, hyl, hf⟩ := DataW.trod_struct Tryd.underlying67 (show DataW.trod enc Tryd.prog W 0 (fun _ => true) true n 67 row = some elems[i] from h1)
      have hyl' : ys.length = 2 := hyl
      have f1 : DataW.trod enc Tryd.prog W 0 (fun _ => true) true m 9 ((row.drop 1).take (Tryd.prog.cellsOf 9)) = ys[1]? := hf 1 _ rfl
      rw [c9, List.getElem?_eq_getElem (by omega)] at f1
      obtain ⟨s, e2, hs2, _⟩ := DataW.trod_string Tryd.underlying9 f1
      have g1 := hrc 1 (by omega)
      rw [of_drop e2, add_add'] at g1
      obtain ⟨ad, ea, _, g2⟩ := hr (i * 2 + 1) _ (lkc_get ls i ls[i] (List.getElem?_eq_getElem hi)).2
      cases ea
      rw [g1] at g2
      have es : s = ls[i].r := by simpa using g2
      have hin : s.data.toList.length ∈ x.1.weights Tryd.prog 22 := by
        rw [hx]
        show _ ∈ DataW.weights Tryd.prog 22 (.slice _ _)
        unfold DataW.weights
        rw [Tryd.underlying22]
        refine List.mem_cons_of_mem _ (List.mem_append_left _ (weightsAll_mem (i := i) (d := elems[i].1) (by rw [List.getElem?_map, List.getElem?_eq_getElem (by omega)]; rfl) ?_))
        rw [hxy]
        unfold DataW.weights
        rw [Tryd.underlying67]
        refine weightsEach_mem (i := 1) (t := 9) (d := ys[1].1) rfl (by rw [List.getElem?_map, List.getElem?_eq_getElem (by omega)]; rfl) ?_
        rw [hs2]
        unfold DataW.weights
        exact List.mem_singleton.2 rfl
      have := hw _ hin
      rw [← es]
      have e3 : s.data.toList.length = s.size := Array.length_toList
      omega
theorem ins_sized {i : Ins} {A : Option Addr} {c : Nat} {d : DataW H} {p : List MemPlace} (h : DataW.Trod enc Tryd.prog W 0 (fun _ => true) true 24 (insV i A c) d p) (hr : Rd W A (lkc i.links))
    (hw : ∀ n ∈ d.weights Tryd.prog 24, n ≤ reachBytes) : ∀ y ∈ i.links, y.r.size ≤ reachBytes := by
  obtain ⟨fuel, hf0⟩ := h
  obtain ⟨ys, n, _, hx, hl, hyl, hf⟩ := DataW.trod_struct Tryd.underlying24 (show DataW.trod enc Tryd.prog W 0 (fun _ => true) true fuel 24 (insV i A c).cells.toList = some (d, p) from hf0)
  have hyl' : ys.length = 16 := hyl
  have c22 : Tryd.prog.cellsOf 22 = 1 := by kernel_rfl
  have hh : DataW.trod enc Tryd.prog W 0 (fun _ => true) true n 22 (((insV i A c).cells.toList.drop 15).take (Tryd.prog.cellsOf 22)) = ys[15]? := hf 15 _ rfl
  rw [c22, List.getElem?_eq_getElem (by omega)] at hh
  refine links_sized (x := ys[15]) hh hr fun k hk => hw k ?_
  have hd : d = .agg (ys.map (·.1)) := congrArg Prod.fst hx
  rw [hd]
  unfold DataW.weights
  rw [Tryd.underlying24]
  exact weightsEach_mem (i := 15) (t := 22) (d := ys[15].1) rfl (by rw [List.getElem?_map, List.getElem?_eq_getElem (by omega)]; rfl) hk
end Go.Proofs.YtljegdokbifoiaaDoor.Af
