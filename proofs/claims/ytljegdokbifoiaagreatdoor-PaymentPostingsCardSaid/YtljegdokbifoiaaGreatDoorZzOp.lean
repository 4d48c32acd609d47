/- What an instruction of the reference's package reads as: its fields and its links. No condition. -/
import Derived.Test.YtljegdokbifoiaaGreatDoorRows
import Derived.Test.YtljegdokbifoiaaGreatDoorZzCkp
import Derived.ProofKit
import Derived.OpenShut
import Derived.LaidMore
import Derived.Lay
import Derived.Stop.Joined
namespace Go.Proofs.YtljegdokbifoiaaGreatDoor.Af
open Go.ChangeShapes Go.WideShapes Go.ChangeAt Go.RowKit

theorem of_drop {l : List Value} {o : Nat} {v : Value} (h : (l.drop o).take 1 = [v]) : l[o]? = some v := by
  have : ((l.drop o).take 1)[0]? = some v := by rw [h]; rfl
  rw [List.getElem?_take, if_pos (by omega), List.getElem?_drop] at this
  simpa using this
theorem lkc_inv (l : List Lk) : ∀ (j : Nat) (u : Value), (lkc l)[j]? = some u → ∃ (k : Nat) (x : Lk), l[k]? = some x ∧ ((j = 2 * k ∧ u = .int .i64 x.t) ∨ (j = 2 * k + 1 ∧ u = .string x.r)) := by
  induction l with
  | nil => intro j u h; simp [lkc] at h
  | cons x l ih =>
    intro j u h
    match j, h with
    | 0, h => exact ⟨0, x, rfl, .inl ⟨rfl, (Option.some.inj h).symm⟩⟩
    | 1, h => exact ⟨0, x, rfl, .inr ⟨rfl, (Option.some.inj h).symm⟩⟩
    | j + 2, h =>
      obtain ⟨k, y, h1, h2⟩ := ih j u h
      exact ⟨k + 1, y, by rw [List.getElem?_cons_succ]; exact h1, h2.imp (fun h => ⟨by omega, h.2⟩) (fun h => ⟨by omega, h.2⟩)⟩
theorem cell_in {w : World} {a : Addr} {v : Value} (h : w.cell? a = some v) : a.block < w.heap.size := by
  rcases Nat.lt_or_ge a.block w.heap.size with h' | h'
  · exact h'
  · unfold World.cell? at h
    rw [Array.getElem?_eq_none h'] at h
    simp at h
variable {H : Type} {enc : TypeId × Value → H} {W : World}
/-- A row of links. -/
theorem open_links {fuel : Nat} {cs : List Value} {x : DataW H × List MemPlace} (h : DataW.trod enc Tryz.prog W 0 (fun _ => true) true fuel 48 cs = some x) :
    ∃ (A : Option Addr) (c : Nat) (ls : List Lk), cs = [.slice A ls.length c] ∧ ls.length ≤ c ∧ c ≤ maxLen ∧ Rd W A (lkc ls) := by
  rcases DataW.trod_slice Tryz.underlying48 h with ⟨hcs, _⟩ | ⟨a, len, cap, elems, rest, n, _, hcs, _, _, hl, hm, hlen, hel, _⟩
  · exact ⟨none, 0, [], hcs, Nat.le_refl _, Nat.zero_le _, Rd.nil _ _⟩
  · have c67 : Tryz.prog.cellsOf 118 = 2 := by kernel_rfl
    have c3 : Tryz.prog.cellsOf 3 = 1 := by kernel_rfl
    have c9 : Tryz.prog.cellsOf 9 = 1 := by kernel_rfl
    have key : ∀ i : Nat, ∃ l : Lk, i < len → W.cell? (a.add (i * 2)) = some (.int .i64 l.t) ∧ W.cell? (a.add (i * 2 + 1)) = some (.string l.r) := fun i => by
      rcases Nat.lt_or_ge i len with hi | hi
      · have h1 := hel i hi
        rw [c67, List.getElem?_eq_getElem (by omega)] at h1
        cases hcells : W.cells? 0 (a.add (i * 2)) 2 with
        | none => rw [hcells] at h1; cases h1
        | some row =>
          rw [hcells] at h1
          obtain ⟨_, hrl, hrc⟩ := World.cells?_some hcells
          obtain ⟨ys, m, _, _, _, hyl, hf⟩ := DataW.trod_struct Tryz.underlying118 (show DataW.trod enc Tryz.prog W 0 (fun _ => true) true n 118 row = some elems[i] from h1)
          have hyl' : ys.length = 2 := hyl
          have f0 : DataW.trod enc Tryz.prog W 0 (fun _ => true) true m 3 ((row.drop 0).take (Tryz.prog.cellsOf 3)) = ys[0]? := hf 0 _ rfl
          have f1 : DataW.trod enc Tryz.prog W 0 (fun _ => true) true m 9 ((row.drop 1).take (Tryz.prog.cellsOf 9)) = ys[1]? := hf 1 _ rfl
          rw [c3, List.getElem?_eq_getElem (by omega)] at f0
          rw [c9, List.getElem?_eq_getElem (by omega)] at f1
          obtain ⟨z, e1, _⟩ := DataW.trod_int Tryz.underlying3 f0
          obtain ⟨s, e2, _⟩ := DataW.trod_string Tryz.underlying9 f1
          have g0 := hrc 0 (by omega)
          have g1 := hrc 1 (by omega)
          rw [of_drop e1, add_add'] at g0
          rw [of_drop e2, add_add'] at g1
          exact ⟨⟨z, s⟩, fun _ => ⟨g0, g1⟩⟩
      · exact ⟨⟨0, ⟨#[]⟩⟩, fun h => absurd h (by omega)⟩
    obtain ⟨f, hf⟩ := Classical.skolem.1 key
    refine ⟨some a, cap, (List.range len).map f, by rw [hcs]; simp, by simpa using hl, hm, fun j u hj => ?_⟩
    obtain ⟨k, y, h1, h2⟩ := lkc_inv _ j u hj
    rw [List.getElem?_map] at h1
    have hk : k < len := by
      rcases Nat.lt_or_ge k len with h3 | h3
      · exact h3
      · rw [List.getElem?_eq_none (by simpa using h3)] at h1; cases h1
    rw [List.getElem?_range hk] at h1
    simp only [Option.map_some, Option.some.injEq] at h1
    obtain ⟨g0, g1⟩ := hf k hk
    refine ⟨a, rfl, ?_, ?_⟩
    · have := cell_in g0
      rwa [add_block] at this
    · rcases h2 with ⟨rfl, rfl⟩ | ⟨rfl, rfl⟩
      · rw [← h1, Nat.mul_comm 2 k]; exact g0
      · rw [← h1, Nat.mul_comm 2 k]; exact g1
theorem list16 {l : List Value} {v0 v1 v2 v3 v4 v5 v6 v7 v8 v9 v10 v11 v12 v13 v14 v15 : Value} (hl : l.length = 16) (h0 : l[0]? = some v0) (h1 : l[1]? = some v1) (h2 : l[2]? = some v2) (h3 : l[3]? = some v3) (h4 : l[4]? = some v4) (h5 : l[5]? = some v5) (h6 : l[6]? = some v6) (h7 : l[7]? = some v7) (h8 : l[8]? = some v8) (h9 : l[9]? = some v9) (h10 : l[10]? = some v10) (h11 : l[11]? = some v11) (h12 : l[12]? = some v12) (h13 : l[13]? = some v13) (h14 : l[14]? = some v14) (h15 : l[15]? = some v15) :
    l = [v0, v1, v2, v3, v4, v5, v6, v7, v8, v9, v10, v11, v12, v13, v14, v15] := by
  apply List.ext_getElem?
  intro j
  match j with
  | 0 => exact h0
  | 1 => exact h1
  | 2 => exact h2
  | 3 => exact h3
  | 4 => exact h4
  | 5 => exact h5
  | 6 => exact h6
  | 7 => exact h7
  | 8 => exact h8
  | 9 => exact h9
  | 10 => exact h10
  | 11 => exact h11
  | 12 => exact h12
  | 13 => exact h13
  | 14 => exact h14
  | 15 => exact h15
  | n + 16 => rw [List.getElem?_eq_none (by omega)]; rfl
/-- An instruction's cells. -/
theorem open_cells {fuel : Nat} {cs : List Value} {x : DataW H × List MemPlace} (h : DataW.trod enc Tryz.prog W 0 (fun _ => true) true fuel 50 cs = some x) :
    ∃ (i : Ins) (A : Option Addr) (c : Nat), cs = (insV i A c).cells.toList ∧ i.links.length ≤ c ∧ c ≤ maxLen ∧ Rd W A (lkc i.links) := by
  obtain ⟨ys, n, _, _, hl, hyl, hf⟩ := DataW.trod_struct Tryz.underlying50 h
  have hl' : cs.length = 16 := hl.trans (by kernel_rfl)
  have hyl' : ys.length = 16 := hyl
  have c2 : Tryz.prog.cellsOf 2 = 1 := by kernel_rfl
  have c3 : Tryz.prog.cellsOf 3 = 1 := by kernel_rfl
  have c4 : Tryz.prog.cellsOf 4 = 1 := by kernel_rfl
  have c9 : Tryz.prog.cellsOf 9 = 1 := by kernel_rfl
  have c22 : Tryz.prog.cellsOf 48 = 1 := by kernel_rfl
  have str : ∀ (o : Nat) (fd : Field), ys.length = 16 → o < 16 → fd.type = 9 → fd.offset = o → DataW.trod enc Tryz.prog W 0 (fun _ => true) true n fd.type ((cs.drop fd.offset).take (Tryz.prog.cellsOf fd.type)) = ys[o]? → ∃ s, cs[o]? = some (.string s) := fun o fd hy ho ht hof hh => by
    rw [ht, hof, c9, List.getElem?_eq_getElem (by omega)] at hh
    obtain ⟨s, e, _⟩ := DataW.trod_string Tryz.underlying9 hh
    exact ⟨s, of_drop e⟩
  have int3 : ∀ (o : Nat) (fd : Field), ys.length = 16 → o < 16 → fd.type = 3 → fd.offset = o → DataW.trod enc Tryz.prog W 0 (fun _ => true) true n fd.type ((cs.drop fd.offset).take (Tryz.prog.cellsOf fd.type)) = ys[o]? → ∃ s, cs[o]? = some (.int .i64 s) := fun o fd hy ho ht hof hh => by
    rw [ht, hof, c3, List.getElem?_eq_getElem (by omega)] at hh
    obtain ⟨s, e, _⟩ := DataW.trod_int Tryz.underlying3 hh
    exact ⟨s, of_drop e⟩
  have int2 : ∀ (o : Nat) (fd : Field), ys.length = 16 → o < 16 → fd.type = 2 → fd.offset = o → DataW.trod enc Tryz.prog W 0 (fun _ => true) true n fd.type ((cs.drop fd.offset).take (Tryz.prog.cellsOf fd.type)) = ys[o]? → ∃ s, cs[o]? = some (.int .i64 s) := fun o fd hy ho ht hof hh => by
    rw [ht, hof, c2, List.getElem?_eq_getElem (by omega)] at hh
    obtain ⟨s, e, _⟩ := DataW.trod_int Tryz.underlying2 hh
    exact ⟨s, of_drop e⟩
  have bool4 : ∀ (o : Nat) (fd : Field), ys.length = 16 → o < 16 → fd.type = 4 → fd.offset = o → DataW.trod enc Tryz.prog W 0 (fun _ => true) true n fd.type ((cs.drop fd.offset).take (Tryz.prog.cellsOf fd.type)) = ys[o]? → ∃ s, cs[o]? = some (.bool s) := fun o fd hy ho ht hof hh => by
    rw [ht, hof, c4, List.getElem?_eq_getElem (by omega)] at hh
    obtain ⟨s, e, _⟩ := DataW.trod_bool Tryz.underlying4 hh
    exact ⟨s, of_drop e⟩
  obtain ⟨x0, h0⟩ := str 0 _ hyl' (by omega) rfl rfl (hf 0 _ rfl)
  obtain ⟨x1, h1⟩ := int3 1 _ hyl' (by omega) rfl rfl (hf 1 _ rfl)
  obtain ⟨x2, h2⟩ := str 2 _ hyl' (by omega) rfl rfl (hf 2 _ rfl)
  obtain ⟨x3, h3⟩ := str 3 _ hyl' (by omega) rfl rfl (hf 3 _ rfl)
  obtain ⟨x4, h4⟩ := int3 4 _ hyl' (by omega) rfl rfl (hf 4 _ rfl)
  obtain ⟨x5, h5⟩ := str 5 _ hyl' (by omega) rfl rfl (hf 5 _ rfl)
  obtain ⟨x6, h6⟩ := int2 6 _ hyl' (by omega) rfl rfl (hf 6 _ rfl)
  obtain ⟨x7, h7⟩ := int2 7 _ hyl' (by omega) rfl rfl (hf 7 _ rfl)
  obtain ⟨x8, h8⟩ := int3 8 _ hyl' (by omega) rfl rfl (hf 8 _ rfl)
  obtain ⟨x9, h9⟩ := int3 9 _ hyl' (by omega) rfl rfl (hf 9 _ rfl)
  obtain ⟨x10, h10⟩ := int3 10 _ hyl' (by omega) rfl rfl (hf 10 _ rfl)
  obtain ⟨x11, h11⟩ := bool4 11 _ hyl' (by omega) rfl rfl (hf 11 _ rfl)
  obtain ⟨x12, h12⟩ := int2 12 _ hyl' (by omega) rfl rfl (hf 12 _ rfl)
  obtain ⟨x13, h13⟩ := bool4 13 _ hyl' (by omega) rfl rfl (hf 13 _ rfl)
  obtain ⟨x14, h14⟩ := bool4 14 _ hyl' (by omega) rfl rfl (hf 14 _ rfl)
  have hh : DataW.trod enc Tryz.prog W 0 (fun _ => true) true n 48 ((cs.drop 15).take (Tryz.prog.cellsOf 48)) = ys[15]? := hf 15 _ rfl
  rw [c22, List.getElem?_eq_getElem (by omega)] at hh
  obtain ⟨A, c, ls, e, k1, k2, k3⟩ := open_links hh
  refine ⟨⟨x0, x1, x2, x3, x4, x5, x6, x7, x8, x9, x10, x11, x12, x13, x14, ls⟩, A, c, ?_, k1, k2, k3⟩
  exact list16 hl' h0 h1 h2 h3 h4 h5 h6 h7 h8 h9 h10 h11 h12 h13 h14 (of_drop e)
set_option maxRecDepth 100000 in
theorem open_ins {base : Nat} {v : Value} {d : DataW H} {p : List MemPlace} (hv : Value.okWide Tryz.prog W .any base 50 v) (h : DataW.Trod enc Tryz.prog W 0 (fun _ => true) true 50 v d p) :
    ∃ (i : Ins) (A : Option Addr) (c : Nat), v = insV i A c ∧ i.links.length ≤ c ∧ c ≤ maxLen ∧ Rd W A (lkc i.links) := by
  unfold Value.okWide at hv
  rw [Tryz.underlying50] at hv
  obtain ⟨cs, rfl, _, _⟩ := hv
  obtain ⟨fuel, hf⟩ := h
  obtain ⟨i, A, c, e, h1, h2, h3⟩ := open_cells hf
  refine ⟨i, A, c, ?_, h1, h2, h3⟩
  have e' : cs.toList = (insV i A c).cells.toList := e
  have : cs = (insV i A c).cells := Array.ext' e'
  rw [this]
  rfl
end Go.Proofs.YtljegdokbifoiaaGreatDoor.Af
