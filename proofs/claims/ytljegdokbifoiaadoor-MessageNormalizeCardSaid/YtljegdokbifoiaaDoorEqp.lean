/- Equality of links, instructions, amendments and requests in plain Lean. No condition. -/
import Derived.Test.YtljegdokbifoiaaDoorKn
import Derived.Laws.StructEq
import Derived.KernelRfl
namespace Go.Proofs.YtljegdokbifoiaaDoor.Af
open Go.RowKit

theorem ef_nil {P : Program} {d : Nat} {xs ys : Array Value} (w : World) : (Op.eqFields d xs ys []).run P w = .ok true w := rfl
theorem ef_cons {P : Program} {d : Nat} {xs ys : Array Value} {f : Field} {fs : List Field} {b c : Bool} (u v : Value) (w : World) (h : (Op.eqFields d xs ys fs).run P w = .ok c w) (hn : (f.name == "_") = false := by kernel_rfl) (hu : (part f.type xs f.offset).run P w = .ok u w := by kernel_rfl)
    (hv : (part f.type ys f.offset).run P w = .ok v w := by kernel_rfl) (hb : (Op.equalIn d f.type u v).run P w = .ok b w := by kernel_rfl) : (Op.eqFields d xs ys (f :: fs)).run P w = .ok (b && c) w := by
  have hne : f.name ≠ "_" := by simpa using hn
  unfold Op.eqFields
  rw [if_pos hne]
  simp only [Sem.run_bind, hu, hv, hb, Result.andThen_ok]
  cases b with
  | true => simpa using h
  | false => rfl
theorem r_eqlA {P : Program} {l : List (Nat × Value)} {t t' ty : TypeId} {x y : Operand} {xs ys : Array Value} {b : Bool} (w : World) (hx : ev l x = .agg xs) (hy : ev l y = .agg ys) (hm : P.eqGuardType P.depth t = false)
    (h : (Op.equalIn 10000 t (.agg xs) (.agg ys)).run P w = .ok b w) : (xop l (.binOp .eql t x y t') ty).run P w = .ok (.value (.bool b)) w := by
  unfold xop execOp
  simp only [hx, hy, Sem.run_bind, run_eqGuard_agg w _ _ _ _ _ _ hm, Result.andThen_ok, run_eql_struct, h, Sem.run_pure]
theorem r_neqA {P : Program} {l : List (Nat × Value)} {t t' ty : TypeId} {x y : Operand} {xs ys : Array Value} {b : Bool} (w : World) (hx : ev l x = .agg xs) (hy : ev l y = .agg ys) (hm : P.eqGuardType P.depth t = false)
    (h : (Op.equalIn 10000 t (.agg xs) (.agg ys)).run P w = .ok b w) : (xop l (.binOp .neq t x y t') ty).run P w = .ok (.value (.bool (!b))) w := by
  unfold xop execOp
  simp only [hx, hy, Sem.run_bind, run_eqGuard_agg w _ _ _ _ _ _ hm, Result.andThen_ok, run_neq_struct, h, Sem.run_pure]
def lkEq (a b : Lk) : Bool := (a.t == b.t) && ((a.r.toList == b.r.toList) && true)
theorem eq66 (a b : Lk) (w : World) : (Op.equalIn 10000 66 (.agg #[.int .i64 a.t, .string a.r]) (.agg #[.int .i64 b.t, .string b.r])).run Tryd.prog w = .ok (lkEq a b) w := by
  rw [run_equalIn_struct w 9999 66 _ _ (by simp [Program.fieldsOf, Tryd.underlying66]) (by kernel_rfl)]
  simp only [Program.fieldsOf, Tryd.underlying66]
  exact ef_cons (.int .i64 a.t) (.int .i64 b.t) w (ef_cons (.string a.r) (.string b.r) w (ef_nil w) (hb := run_equalIn_string w _ _ _ _ Tryd.underlying9))
theorem eq67 (a b : Lk) (w : World) : (Op.equalIn 10000 67 (.agg #[.int .i64 a.t, .string a.r]) (.agg #[.int .i64 b.t, .string b.r])).run Tryd.prog w = .ok (lkEq a b) w := by
  rw [run_equalIn_struct w 9999 67 _ _ (by simp [Program.fieldsOf, Tryd.underlying67]) (by kernel_rfl)]
  simp only [Program.fieldsOf, Tryd.underlying67]
  exact ef_cons (.int .i64 a.t) (.int .i64 b.t) w (ef_cons (.string a.r) (.string b.r) w (ef_nil w) (hb := run_equalIn_string w _ _ _ _ Tryd.underlying9))
def amEq (a b : Am) : Bool := (a.hasAmt == b.hasAmt) && ((a.hasDay == b.hasDay) && ((a.hasPrio == b.hasPrio) && ((a.hasPart == b.hasPart) && ((a.amt == b.amt) && ((a.sday == b.sday) && ((a.prio == b.prio) && ((a.part == b.part) && ((a.minlot == b.minlot) && true))))))))
theorem eq43 (a b : Am) (w : World) : (Op.equalIn 10000 43 (amV a) (amV b)).run Tryd.prog w = .ok (amEq a b) w := by
  unfold amV
  rw [run_equalIn_struct w 9999 43 _ _ (by simp [Program.fieldsOf, Tryd.underlying43]) (by kernel_rfl)]
  simp only [Program.fieldsOf, Tryd.underlying43]
  exact ef_cons (.bool a.hasAmt) (.bool b.hasAmt) w (ef_cons (.bool a.hasDay) (.bool b.hasDay) w (ef_cons (.bool a.hasPrio) (.bool b.hasPrio) w (ef_cons (.bool a.hasPart) (.bool b.hasPart) w (ef_cons (.int .i64 a.amt) (.int .i64 b.amt) w (ef_cons (.int .i64 a.sday) (.int .i64 b.sday) w (ef_cons (.int .i64 a.prio) (.int .i64 b.prio) w (ef_cons (.bool a.part) (.bool b.part) w (ef_cons (.int .i64 a.minlot) (.int .i64 b.minlot) w (ef_nil w)))))))))
theorem eq40 (a b : Am) (w : World) : (Op.equalIn 10000 40 (amV a) (amV b)).run Tryd.prog w = .ok (amEq a b) w := by
  unfold amV
  rw [run_equalIn_struct w 9999 40 _ _ (by simp [Program.fieldsOf, Tryd.underlying40]) (by kernel_rfl)]
  simp only [Program.fieldsOf, Tryd.underlying40]
  exact ef_cons (.bool a.hasAmt) (.bool b.hasAmt) w (ef_cons (.bool a.hasDay) (.bool b.hasDay) w (ef_cons (.bool a.hasPrio) (.bool b.hasPrio) w (ef_cons (.bool a.hasPart) (.bool b.hasPart) w (ef_cons (.int .i64 a.amt) (.int .i64 b.amt) w (ef_cons (.int .i64 a.sday) (.int .i64 b.sday) w (ef_cons (.int .i64 a.prio) (.int .i64 b.prio) w (ef_cons (.bool a.part) (.bool b.part) w (ef_cons (.int .i64 a.minlot) (.int .i64 b.minlot) w (ef_nil w)))))))))
def lksEq : List Lk → List Lk → Bool
  | [], [] => true
  | x :: l, y :: m => lkEq x y && lksEq l m
  | _, _ => false
theorem lksEq_len {l m : List Lk} (h : l.length ≠ m.length) : lksEq l m = false := by
  induction l generalizing m with
  | nil => cases m with
    | nil => exact absurd rfl h
    | cons y m => rfl
  | cons x l ih => cases m with
    | nil => rfl
    | cons y m =>
      simp only [lksEq]
      rw [ih (m := m) (by simpa using h), Bool.and_false]
theorem lksEq_no {l m : List Lk} {k : Nat} {x y : Lk} (hx : l[k]? = some x) (hy : m[k]? = some y) (h : lkEq x y = false) : lksEq l m = false := by
  induction l generalizing m k with
  | nil => simp at hx
  | cons u l ih => cases m with
    | nil => simp at hy
    | cons v m =>
      simp only [lksEq]
      cases k with
      | zero =>
        simp only [List.getElem?_cons_zero, Option.some.injEq] at hx hy
        subst hx; subst hy
        rw [h, Bool.false_and]
      | succ k =>
        rw [List.getElem?_cons_succ] at hx hy
        rw [ih hx hy, Bool.and_false]
theorem lksEq_yes {l m : List Lk} (hl : l.length = m.length) (h : ∀ (j : Nat) (x y : Lk), l[j]? = some x → m[j]? = some y → lkEq x y = true) : lksEq l m = true := by
  induction l generalizing m with
  | nil => cases m with
    | nil => rfl
    | cons y m => simp at hl
  | cons u l ih => cases m with
    | nil => simp at hl
    | cons v m =>
      simp only [lksEq]
      rw [h 0 u v rfl rfl, Bool.true_and]
      exact ih (by simpa using hl) fun j x y hx hy => h (j + 1) x y (by rw [List.getElem?_cons_succ]; exact hx) (by rw [List.getElem?_cons_succ]; exact hy)
end Go.Proofs.YtljegdokbifoiaaDoor.Af
