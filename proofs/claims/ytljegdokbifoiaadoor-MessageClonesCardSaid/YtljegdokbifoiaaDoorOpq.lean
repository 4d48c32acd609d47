/- What an amendment and a request of the reference's package read as. No condition. -/
import Derived.Test.YtljegdokbifoiaaDoorOp
import Derived.Test.YtljegdokbifoiaaDoorRqp
namespace Go.Proofs.YtljegdokbifoiaaDoor.Af
open Go.ChangeShapes Go.WideShapes Go.ChangeAt Go.RowKit
variable {H : Type} {enc : TypeId × Value → H} {W : World}

theorem list9 {l : List Value} {v0 v1 v2 v3 v4 v5 v6 v7 v8 : Value} (hl : l.length = 9) (h0 : l[0]? = some v0) (h1 : l[1]? = some v1) (h2 : l[2]? = some v2) (h3 : l[3]? = some v3) (h4 : l[4]? = some v4) (h5 : l[5]? = some v5) (h6 : l[6]? = some v6) (h7 : l[7]? = some v7) (h8 : l[8]? = some v8) :
    l = [v0, v1, v2, v3, v4, v5, v6, v7, v8] := by
  apply List.ext_getElem?
  intro j
  match j with
  | 0 => exact h0
  | 1 => exact h1
  | 2 => exact h2
  | 3 => exact h3
  | 4 => exact h4
  | 5 => exact h5
  | 6 => exact h6
  | 7 => exact h7
  | 8 => exact h8
  | n + 9 => rw [List.getElem?_eq_none (by omega)]; rfl
theorem open_am_cells {fuel : Nat} {cs : List Value} {x : DataW H × List MemPlace} (h : DataW.trod enc Tryd.prog W 0 (fun _ => true) true fuel 40 cs = some x) : ∃ m : Am, cs = (amV m).cells.toList := by
  obtain ⟨ys, n, _, _, hl, hyl, hf⟩ := DataW.trod_struct Tryd.underlying40 h
  have hl' : cs.length = 9 := hl.trans (by kernel_rfl)
  have hyl' : ys.length = 9 := hyl
  have c2 : Tryd.prog.cellsOf 2 = 1 := by kernel_rfl
  have c3 : Tryd.prog.cellsOf 3 = 1 := by kernel_rfl
  have c4 : Tryd.prog.cellsOf 4 = 1 := by kernel_rfl
  have int3 : ∀ (o : Nat) (fd : Field), ys.length = 9 → o < 9 → fd.type = 3 → fd.offset = o → DataW.trod enc Tryd.prog W 0 (fun _ => true) true n fd.type ((cs.drop fd.offset).take (Tryd.prog.cellsOf fd.type)) = ys[o]? → ∃ s, cs[o]? = some (.int .i64 s) := fun o fd hy ho ht hof hh => by
    rw [ht, hof, c3, List.getElem?_eq_getElem (by omega)] at hh
    obtain ⟨s, e, _⟩ := DataW.trod_int Tryd.underlying3 hh
    exact ⟨s, of_drop e⟩
  have int2 : ∀ (o : Nat) (fd : Field), ys.length = 9 → o < 9 → fd.type = 2 → fd.offset = o → DataW.trod enc Tryd.prog W 0 (fun _ => true) true n fd.type ((cs.drop fd.offset).take (Tryd.prog.cellsOf fd.type)) = ys[o]? → ∃ s, cs[o]? = some (.int .i64 s) := fun o fd hy ho ht hof hh => by
    rw [ht, hof, c2, List.getElem?_eq_getElem (by omega)] at hh
    obtain ⟨s, e, _⟩ := DataW.trod_int Tryd.underlying2 hh
    exact ⟨s, of_drop e⟩
  have bool4 : ∀ (o : Nat) (fd : Field), ys.length = 9 → o < 9 → fd.type = 4 → fd.offset = o → DataW.trod enc Tryd.prog W 0 (fun _ => true) true n fd.type ((cs.drop fd.offset).take (Tryd.prog.cellsOf fd.type)) = ys[o]? → ∃ s, cs[o]? = some (.bool s) := fun o fd hy ho ht hof hh => by
    rw [ht, hof, c4, List.getElem?_eq_getElem (by omega)] at hh
    obtain ⟨s, e, _⟩ := DataW.trod_bool Tryd.underlying4 hh
    exact ⟨s, of_drop e⟩
  obtain ⟨x0, h0⟩ := bool4 0 _ hyl' (by omega) rfl rfl (hf 0 _ rfl)
  obtain ⟨x1, h1⟩ := bool4 1 _ hyl' (by omega) rfl rfl (hf 1 _ rfl)
  obtain ⟨x2, h2⟩ := bool4 2 _ hyl' (by omega) rfl rfl (hf 2 _ rfl)
  obtain ⟨x3, h3⟩ := bool4 3 _ hyl' (by omega) rfl rfl (hf 3 _ rfl)
  obtain ⟨x4, h4⟩ := int2 4 _ hyl' (by omega) rfl rfl (hf 4 _ rfl)
  obtain ⟨x5, h5⟩ := int3 5 _ hyl' (by omega) rfl rfl (hf 5 _ rfl)
  obtain ⟨x6, h6⟩ := int3 6 _ hyl' (by omega) rfl rfl (hf 6 _ rfl)
  obtain ⟨x7, h7⟩ := bool4 7 _ hyl' (by omega) rfl rfl (hf 7 _ rfl)
  obtain ⟨x8, h8⟩ := int2 8 _ hyl' (by omega) rfl rfl (hf 8 _ rfl)
  exact ⟨⟨x0, x1, x2, x3, x4, x5, x6, x7, x8⟩, list9 hl' h0 h1 h2 h3 h4 h5 h6 h7 h8⟩
set_option maxRecDepth 100000 in
theorem open_am {base : Nat} {v : Value} {d : DataW H} {p : List MemPlace} (hv : Value.okWide Tryd.prog W .any base 40 v) (h : DataW.Trod enc Tryd.prog W 0 (fun _ => true) true 40 v d p) : ∃ m : Am, v = amV m := by
  unfold Value.okWide at hv
  rw [Tryd.underlying40] at hv
  obtain ⟨cs, rfl, _, _⟩ := hv
  obtain ⟨fuel, hf⟩ := h
  obtain ⟨m, e⟩ := open_am_cells hf
  have e' : cs.toList = (amV m).cells.toList := e
  have : cs = (amV m).cells := Array.ext' e'
  exact ⟨m, by rw [this]; rfl⟩
theorem list28 {l a b : List Value} {v0 v1 v2 : Value} (h0 : l[0]? = some v0) (h1 : l[1]? = some v1) (h2 : l[2]? = some v2) (ha : (l.drop 3).take 16 = a) (hb : (l.drop 19).take 9 = b) (hl : l.length = 28) : l = [v0, v1, v2] ++ (a ++ b) := by
  have e1 : l.take 3 = [v0, v1, v2] := by
    match l, h0, h1, h2 with
    | x :: y :: z :: r, h0, h1, h2 =>
      simp only [List.getElem?_cons_zero, List.getElem?_cons_succ, Option.some.injEq] at h0 h1 h2
      subst h0; subst h1; subst h2
      rfl
  have e2 : l.drop 3 = a ++ b := by
    rw [← ha, ← hb]
    have : l.drop 19 = (l.drop 3).drop 16 := by rw [List.drop_drop]
    rw [this, List.take_of_length_le (l := (l.drop 3).drop 16) (by simp; omega), List.take_append_drop]
  rw [← e1, ← e2, List.take_append_drop]
set_option maxRecDepth 100000 in
theorem open_req {base : Nat} {v : Value} {d : DataW H} {p : List MemPlace} (hv : Value.okWide Tryd.prog W .any base 42 v) (h : DataW.Trod enc Tryd.prog W 0 (fun _ => true) true 42 v d p) :
    ∃ (q : Rq) (A : Option Addr) (c : Nat), v = rqV q A c ∧ q.ins.links.length ≤ c ∧ c ≤ maxLen ∧ Rd W A (lkc q.ins.links) := by
  unfold Value.okWide at hv
  rw [Tryd.underlying42] at hv
  obtain ⟨cs, rfl, _, _⟩ := hv
  obtain ⟨fuel, hf0⟩ := h
  obtain ⟨ys, n, _, _, hl, hyl, hf⟩ := DataW.trod_struct Tryd.underlying42 (show DataW.trod enc Tryd.prog W 0 (fun _ => true) true fuel 42 cs.toList = some (d, p) from hf0)
  have hl' : cs.toList.length = 28 := hl.trans (by kernel_rfl)
  have hyl' : ys.length = 5 := hyl
  have c3 : Tryd.prog.cellsOf 3 = 1 := by kernel_rfl
  have c9 : Tryd.prog.cellsOf 9 = 1 := by kernel_rfl
  have c24 : Tryd.prog.cellsOf 24 = 16 := by kernel_rfl
  have c40 : Tryd.prog.cellsOf 40 = 9 := by kernel_rfl
  have f0 : DataW.trod enc Tryd.prog W 0 (fun _ => true) true n 3 ((cs.toList.drop 0).take (Tryd.prog.cellsOf 3)) = ys[0]? := hf 0 _ rfl
  have f1 : DataW.trod enc Tryd.prog W 0 (fun _ => true) true n 9 ((cs.toList.drop 1).take (Tryd.prog.cellsOf 9)) = ys[1]? := hf 1 _ rfl
  have f2 : DataW.trod enc Tryd.prog W 0 (fun _ => true) true n 9 ((cs.toList.drop 2).take (Tryd.prog.cellsOf 9)) = ys[2]? := hf 2 _ rfl
  have f3 : DataW.trod enc Tryd.prog W 0 (fun _ => true) true n 24 ((cs.toList.drop 3).take (Tryd.prog.cellsOf 24)) = ys[3]? := hf 3 _ rfl
  have f4 : DataW.trod enc Tryd.prog W 0 (fun _ => true) true n 40 ((cs.toList.drop 19).take (Tryd.prog.cellsOf 40)) = ys[4]? := hf 4 _ rfl
  rw [c3, List.getElem?_eq_getElem (by omega)] at f0
  rw [c9, List.getElem?_eq_getElem (by omega)] at f1 f2
  rw [c24, List.getElem?_eq_getElem (by omega)] at f3
  rw [c40, List.getElem?_eq_getElem (by omega)] at f4
  obtain ⟨x0, e0, _⟩ := DataW.trod_int Tryd.underlying3 f0
  obtain ⟨x1, e1, _⟩ := DataW.trod_string Tryd.underlying9 f1
  obtain ⟨x2, e2, _⟩ := DataW.trod_string Tryd.underlying9 f2
  obtain ⟨i, A, c, e3, k1, k2, k3⟩ := open_cells f3
  obtain ⟨m, e4⟩ := open_am_cells f4
  refine ⟨⟨x0, x1, x2, i, m⟩, A, c, ?_, k1, k2, k3⟩
  have e' := list28 (of_drop e0) (of_drop e1) (of_drop e2) e3 e4 hl'
  have : cs = (rqV ⟨x0, x1, x2, i, m⟩ A c).cells := Array.ext' e'
  rw [this]
  rfl
end Go.Proofs.YtljegdokbifoiaaDoor.Af
