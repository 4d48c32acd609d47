/- Equality of links, instructions, amendments and requests in plain Lean. No condition. -/
import Derived.Test.YtljegdokbifoiaaGreatDoorZzPi
import Derived.Laws.StructEq
import Derived.KernelRfl
namespace Go.Proofs.YtljegdokbifoiaaGreatDoor.Af
open Go.RowKit

theorem ef_nil {P : Program} {d : Nat} {xs ys : Array Value} (w : World) : (Op.eqFields d xs ys []).run P w = .ok true w := rfl
theorem ef_cons {P : Program} {d : Nat} {xs ys : Array Value} {f : Field} {fs : List Field} {b c : Bool} (u v : Value) (w : World) (h : (Op.eqFields d xs ys fs).run P w = .ok c w) (hn : (f.name == "_") = false := by kernel_rfl) (hu : (part f.type xs f.offset).run P w = .ok u w := by kernel_rfl)
    (hv : (part f.type ys f.offset).run P w = .ok v w := by kernel_rfl) (hb : (Op.equalIn d f.type u v).run P w = .ok b w := by kernel_rfl) : (Op.eqFields d xs ys (f :: fs)).run P w = .ok (b && c) w := by
  have hne : f.name ≠ "_" := by simpa using hn
  unfold Op.eqFields
  rw [if_pos hne]
  simp only [Sem.run_bind, hu, hv, hb, Result.andThen_ok]
  cases b with
  | true => simpa using h
  | false => rfl
theorem r_eqlA {P : Program} {l : List (Nat × Value)} {t t' ty : TypeId} {x y : Operand} {xs ys : Array Value} {b : Bool} (w : World) (hx : ev l x = .agg xs) (hy : ev l y = .agg ys) (hm : P.eqGuardType P.depth t = false)
    (h : (Op.equalIn 10000 t (.agg xs) (.agg ys)).run P w = .ok b w) : (xop l (.binOp .eql t x y t') ty).run P w = .ok (.value (.bool b)) w := by
  unfold xop execOp
  simp only [hx, hy, Sem.run_bind, run_eqGuard_agg w _ _ _ _ _ _ hm, Result.andThen_ok, run_eql_struct, h, Sem.run_pure]
theorem r_neqA {P : Program} {l : List (Nat × Value)} {t t' ty : TypeId} {x y : Operand} {xs ys : Array Value} {b : Bool} (w : World) (hx : ev l x = .agg xs) (hy : ev l y = .agg ys) (hm : P.eqGuardType P.depth t = false)
    (h : (Op.equalIn 10000 t (.agg xs) (.agg ys)).run P w = .ok b w) : (xop l (.binOp .neq t x y t') ty).run P w = .ok (.value (.bool (!b))) w := by
  unfold xop execOp
  simp only [hx, hy, Sem.run_bind, run_eqGuard_agg w _ _ _ _ _ _ hm, Result.andThen_ok, run_neq_struct, h, Sem.run_pure]
def needEq (a b : ByteArray) (m n : Int) : Bool := (a.toList == b.toList) && ((m == n) && true)
theorem eq42 (a b : ByteArray) (m n : Int) (w : World) : (Op.equalIn 10000 42 (.agg #[.string a, .int .i64 m]) (.agg #[.string b, .int .i64 n])).run Tryz.prog w = .ok (needEq a b m n) w := by
  rw [run_equalIn_struct w 9999 42 _ _ (by simp [Program.fieldsOf, Tryz.underlying42]) (by kernel_rfl)]
  simp only [Program.fieldsOf, Tryz.underlying42]
  exact ef_cons (.string a) (.string b) w (ef_cons (.int .i64 m) (.int .i64 n) w (ef_nil w)) (hb := run_equalIn_string w _ _ _ _ Tryz.underlying9)
def pairEq (a b a' b' : ByteArray) (m n : Int) : Bool := (a.toList == a'.toList) && ((b.toList == b'.toList) && ((m == n) && true))
theorem eq46 (a b a' b' : ByteArray) (m n : Int) (w : World) : (Op.equalIn 10000 46 (.agg #[.string a, .string b, .int .i64 m]) (.agg #[.string a', .string b', .int .i64 n])).run Tryz.prog w = .ok (pairEq a b a' b' m n) w := by
  rw [run_equalIn_struct w 9999 46 _ _ (by simp [Program.fieldsOf, Tryz.underlying46]) (by kernel_rfl)]
  simp only [Program.fieldsOf, Tryz.underlying46]
  exact ef_cons (.string a) (.string a') w (ef_cons (.string b) (.string b') w (ef_cons (.int .i64 m) (.int .i64 n) w (ef_nil w)) (hb := run_equalIn_string w _ _ _ _ Tryz.underlying9)) (hb := run_equalIn_string w _ _ _ _ Tryz.underlying9)
def posEq (a b : ByteArray) (m n m' n' : Int) : Bool := (a.toList == b.toList) && ((m == m') && ((n == n') && true))
theorem eq44 (a b : ByteArray) (m n m' n' : Int) (w : World) : (Op.equalIn 10000 44 (.agg #[.string a, .int .i64 m, .int .i64 n]) (.agg #[.string b, .int .i64 m', .int .i64 n'])).run Tryz.prog w = .ok (posEq a b m n m' n') w := by
  rw [run_equalIn_struct w 9999 44 _ _ (by simp [Program.fieldsOf, Tryz.underlying44]) (by kernel_rfl)]
  simp only [Program.fieldsOf, Tryz.underlying44]
  exact ef_cons (.string a) (.string b) w (ef_cons (.int .i64 m) (.int .i64 m') w (ef_cons (.int .i64 n) (.int .i64 n') w (ef_nil w))) (hb := run_equalIn_string w _ _ _ _ Tryz.underlying9)

/-! ### The chapter's example -/
def bA : ByteArray := ⟨#[66, 65, 78, 75, 65]⟩
def bB : ByteArray := ⟨#[66, 65, 78, 75, 66]⟩
def kA : Ins := ⟨⟨#[65, 49]⟩, 0, ⟨#[66, 65, 78, 75, 65]⟩, ⟨#[66, 65, 78, 75, 66]⟩, 0, ⟨#[67, 65, 83, 72]⟩, 0, 50, 0, 9816, 0, false, 0, false, false, []⟩
def kB : Ins := ⟨⟨#[66, 49]⟩, 0, ⟨#[66, 65, 78, 75, 66]⟩, ⟨#[66, 65, 78, 75, 65]⟩, 0, ⟨#[67, 65, 83, 72]⟩, 0, 30, 0, 9816, 0, false, 0, false, false, []⟩
def lAB (i j : Ins) : List InA := [(i, none, 0), (j, none, 0)]
theorem lr_ab (w : World) (i j : Ins) (hi : i.links = []) (hj : j.links = []) : Lr w (lAB i j) := by
  intro p hp
  simp only [lAB, List.mem_cons, List.not_mem_nil, or_false] at hp
  rcases hp with rfl | rfl <;> refine ⟨?_, ?_, ?_⟩
  · simp [hi]
  · simp [hi]
  · simp only [hi]; exact Rd.nil _ _
  · simp [hj]
  · simp [hj]
  · simp only [hj]; exact Rd.nil _ _
theorem kn1 : allE [kA, kB] = 0 := by kernel_rfl
theorem kn2 : allE [kB, kA] = 0 := by kernel_rfl
theorem kn3 : useA [kA, kB] [] = [(bA, (20, 50)), (bB, (-20, 0))] := by kernel_rfl
theorem kn4 : useA [kB, kA] [] = [(bB, (-20, 30)), (bA, (20, 20))] := by kernel_rfl
theorem kn5 : posN (netA [kA, kB] []) = [((bA, bB), 20)] := by kernel_rfl
theorem sortS_eq {l m : List ByteArray} (hp : m.Perm l) (hs : m.Pairwise fun x y => ltB y x = false) : sortS l = m :=
  ((sortS_perm l).trans hp.symm).eq_of_pairwise (fun _ _ _ _ h1 h2 => lt_tot h2 h1) (sortS_asc l) hs
theorem kn6 (x y : Use) : keysS [(bA, x), (bB, y)] = [bA, bB] := sortS_eq (List.Perm.refl _) (by simp; decide)
theorem kn7 (x y : Use) : keysS [(bB, x), (bA, y)] = [bA, bB] := sortS_eq (List.Perm.swap _ _ _) (by simp; decide)
theorem kn8 : keysR [((bA, bB), (20 : Int))] = [(bA, bB)] := (sortR_eq (List.Perm.refl _) (by simp)).symm
theorem two_rows {w : World} {base e size : Nat} {v : Value} {a b : List Value} (h : w.ownsRow base e size v 2 (a ++ b)) (ha : a.length = size) (h0 : a ≠ []) : ∃ ad c, v = .slice (some ad) 2 c ∧ El w (ad.add (0 * size)) a ∧ (b ≠ [] → El w (ad.add (1 * size)) b) := by
  obtain ⟨A, c, rfl, -, hr⟩ := own_rd h
  obtain ⟨ad, rfl, hE⟩ := hr.el (0 * size) a h0 (fun j u hj => by rw [Nat.zero_mul, Nat.zero_add, List.getElem?_append_left (List.getElem?_eq_some_iff.1 hj).1]; exact hj)
  refine ⟨ad, c, rfl, hE, fun hb => ?_⟩
  obtain ⟨ad', e1, hE'⟩ := hr.el (1 * size) b hb (fun j u hj => by rw [Nat.one_mul, List.getElem?_append_right (by omega), ha, Nat.add_sub_cancel_left]; exact hj)
  cases e1
  exact hE'
theorem known1 (b : Nat) (w : World) (hb : w.heap[b]? = some (.cells (insc (lAB kA kB)).toArray 30 (0, 0))) : Calls Tryz.prog 15 #[.slice (some ⟨b, 0, none⟩) 2 2] w fun e w' => ∃ ad c, e = .returned (.tuple #[.slice (some ad) 2 c, .int .i64 0]) ∧ El w' (ad.add (0 * 2)) [.string bA, .int .i64 50] ∧ El w' (ad.add (1 * 2)) [.string bB, .int .i64 0] ∧ Below w.heap.size w w' := by
  refine (p15 (lAB kA kB) (some ⟨b, 0, none⟩) 2 w (by decide) (Rd.of_blk hb) (lr_ab w _ _ rfl rfl)).mono ?_
  rintro e w' ⟨v, rfl, ho, hbl⟩
  have e0 : (lAB kA kB).map (·.1) = [kA, kB] := rfl
  rw [e0, kn1, kn3] at ho
  have e1 : nKeys 0 [(bA, ((20, 50) : Use)), (bB, (-20, 0))] = [bA, bB] := kn6 _ _
  rw [e1] at ho
  obtain ⟨ad, c, rfl, h1, h2⟩ := two_rows (a := [.string bA, .int .i64 50]) (b := [.string bB, .int .i64 0]) ho rfl (by simp)
  exact ⟨ad, c, by rw [e0, kn1], h1, h2 (by simp), hbl⟩
theorem known2 (b : Nat) (w : World) (hb : w.heap[b]? = some (.cells (insc (lAB kB kA)).toArray 30 (0, 0))) : Calls Tryz.prog 15 #[.slice (some ⟨b, 0, none⟩) 2 2] w fun e w' => ∃ ad c, e = .returned (.tuple #[.slice (some ad) 2 c, .int .i64 0]) ∧ El w' (ad.add (0 * 2)) [.string bA, .int .i64 20] ∧ El w' (ad.add (1 * 2)) [.string bB, .int .i64 30] ∧ Below w.heap.size w w' := by
  refine (p15 (lAB kB kA) (some ⟨b, 0, none⟩) 2 w (by decide) (Rd.of_blk hb) (lr_ab w _ _ rfl rfl)).mono ?_
  rintro e w' ⟨v, rfl, ho, hbl⟩
  have e0 : (lAB kB kA).map (·.1) = [kB, kA] := rfl
  rw [e0, kn2, kn4] at ho
  have e1 : nKeys 0 [(bB, ((-20, 30) : Use)), (bA, (20, 20))] = [bA, bB] := kn7 _ _
  rw [e1] at ho
  obtain ⟨ad, c, rfl, h1, h2⟩ := two_rows (a := [.string bA, .int .i64 20]) (b := [.string bB, .int .i64 30]) ho rfl (by simp)
  exact ⟨ad, c, by rw [e0, kn2], h1, h2 (by simp), hbl⟩
theorem known3 (b : Nat) (w : World) (hb : w.heap[b]? = some (.cells (insc (lAB kA kB)).toArray 30 (0, 0))) : Calls Tryz.prog 18 #[.slice (some ⟨b, 0, none⟩) 2 2] w fun e w' => ∃ ad c, e = .returned (.tuple #[.slice (some ad) 1 c, .int .i64 0]) ∧ El w' (ad.add (0 * 3)) [.string bA, .string bB, .int .i64 20] ∧ Below w.heap.size w w' := by
  refine (p18 (lAB kA kB) (some ⟨b, 0, none⟩) 2 w (by decide) (Rd.of_blk hb) (lr_ab w _ _ rfl rfl)).mono ?_
  rintro e w' ⟨v, rfl, ho, hbl⟩
  have e0 : (lAB kA kB).map (·.1) = [kA, kB] := rfl
  rw [e0, kn1, kn5] at ho
  have e1 : nKeysR 0 [((bA, bB), (20 : Int))] = [(bA, bB)] := kn8
  rw [e1] at ho
  obtain ⟨A, c, rfl, -, hr⟩ := own_rd ho
  obtain ⟨ad, rfl, hE⟩ := hr.el (0 * 3) [.string bA, .string bB, .int .i64 20] (by simp) (fun j u hj => by rw [Nat.zero_mul, Nat.zero_add]; exact hj)
  exact ⟨ad, c, by rw [e0, kn1]; rfl, hE, hbl⟩
end Go.Proofs.YtljegdokbifoiaaGreatDoor.Af
