/- What a payment without error is; the folds of the maps. No condition. -/
import Derived.Test.YtljegdokbifoiaaGreatDoorZzPc
import Derived.Test.YtljegdokbifoiaaGreatDoorZzMz
import Derived.DeepKeys4
namespace Go.Proofs.YtljegdokbifoiaaGreatDoor.Af
open Go.RowKit Go.Maps

/-- What a payment without error says. -/
structure PayOK (i : Ins) : Prop where
  kind : i.kind = 0
  snd : memB i.sender = true
  cpt : memB i.cpty = true
  ne : i.cpty.toList ≠ i.sender.toList
  lo : 1 ≤ i.amt
  hi : i.amt ≤ 1000000000000000
theorem memB_size {s : ByteArray} (h : memB s = true) : s.size ≤ 8 ∧ 1 ≤ s.size := by
  unfold memB pfxE at h
  have hc : (clsOf sp1).length = 8 := rfl
  rw [hc] at h
  generalize pfxOK (clsOf sp1) s.data.toList = q at h
  cases q with
  | false => cases h
  | true =>
    rw [cond_true] at h
    by_cases h1 : ((s.size : Int) < 4)
    · rw [decide_eq_true h1] at h; cases h
    · rw [decide_eq_false h1, cond_false] at h
      by_cases h2 : (((8 : Nat) : Int) < (s.size : Int))
      · rw [decide_eq_true h2] at h; cases h
      · omega
theorem pay_ok {i : Ins} (h : payE i = 0) : PayOK i := by
  rw [pay_ref] at h
  unfold payR at h
  cases h0 : refI i != 0 with
  | true =>
    rw [h0, cond_true] at h
    rw [h] at h0
    exact absurd h0 (by decide)
  | false =>
    rw [h0, cond_false] at h
    have hk : i.kind = 0 := by
      cases hk : i.kind != 0 with
      | true => rw [hk] at h; exact absurd h (by decide)
      | false => simpa using hk
    have h1 : refI i = 0 := by simpa using h0
    unfold refI at h1
    rw [top_zero _ _ (by unfold rules15; simp)] at h1
    obtain ⟨h3, h4⟩ := h1
    unfold rules15 at h3
    simp only [List.forall_mem_cons] at h3
    obtain ⟨e1, e2, e3, e4, e5, e6, e7, e8, e9, e10, -⟩ := h3
    rw [hk] at e4 e5 e10
    rw [Bool.or_eq_false_iff] at e2
    have e10' := (Bool.or_eq_false_iff.1 e10).1
    rw [show decide ((0 : Int) < 2) = true from rfl, Bool.true_and, Bool.or_eq_false_iff] at e10'
    exact ⟨hk, by simpa using e2.2, by simpa using e4, by simpa using e5, by have := of_decide_eq_false e10'.1; omega, by have := of_decide_eq_false e10'.2; omega⟩
theorem pay_zero {l : List Ins} : ∀ {t : Int}, goA l t = 0 → ∀ i ∈ l, payE i = 0 := by
  induction l with
  | nil => intro _ _ i h; cases h
  | cons x l ih =>
    intro t h i hi
    unfold goA at h
    cases hx : payE x != 0 with
    | true => rw [hx, cond_true] at h; rw [h] at hx; exact absurd hx (by decide)
    | false =>
      rw [hx, cond_false] at h
      rcases List.mem_cons.1 hi with rfl | hi
      · simpa using hx
      · exact ih h i hi
theorem all_ok {l : List Ins} (h : allE l = 0) : ∀ i ∈ l, PayOK i := by
  intro i hi
  unfold allE at h
  cases hl : decide ((4096 : Int) < ((l.length : Nat) : Int)) with
  | true => rw [hl] at h; cases h
  | false => rw [hl, cond_false] at h; exact pay_ok (pay_zero h i hi)

/-! ### The maps -/
def eKs (s : ByteArray) : Value := .string s
theorem eKs_inj : ∀ a b, eKs a = eKs b → a = b := fun _ _ h => by cases h; rfl
theorem Kstr : Keyed Tryz.prog 9 := string_keyed Tryz.underlying9
theorem hk_str (s : ByteArray) (h : s.size ≤ 8) : ∃ l, keyOf Tryz.prog 9 (eKs s) = some l := ⟨_, Go.WideMaps.keyOf_string_mk Tryz.underlying9 (Nat.le_trans h (by decide))⟩
abbrev Use := Int × Int
def eU (u : Use) : Value := .agg #[.int .i64 u.1, .int .i64 u.2]
def maxI (a b : Int) : Int := if a < b then b else a
def useS (M : List (ByteArray × Use)) (i : Ins) : List (ByteArray × Use) :=
  updK (updK M i.sender (IntKind.i64.wrap ((lkD M i.sender (0, 0)).1 + i.amt), maxI (lkD M i.sender (0, 0)).2 (IntKind.i64.wrap ((lkD M i.sender (0, 0)).1 + i.amt)))) i.cpty (IntKind.i64.wrap ((lkD M i.cpty (0, 0)).1 - i.amt), (lkD M i.cpty (0, 0)).2)
def useA : List Ins → List (ByteArray × Use) → List (ByteArray × Use)
  | [], M => M
  | i :: r, M => useA r (useS M i)
/-- A position: the member, what it pays, what it receives. -/
structure Pos where
  mem : ByteArray
  paid : Int
  rcvd : Int
def Pos.z : Pos := ⟨⟨#[]⟩, 0, 0⟩
def eP (p : Pos) : Value := .agg #[.string p.mem, .int .i64 p.paid, .int .i64 p.rcvd]
def posS (M : List (ByteArray × Pos)) (i : Ins) : List (ByteArray × Pos) :=
  updK (updK M i.sender ⟨(lkD M i.sender Pos.z).mem, IntKind.i64.wrap ((lkD M i.sender Pos.z).paid + i.amt), (lkD M i.sender Pos.z).rcvd⟩) i.cpty ⟨(lkD M i.cpty Pos.z).mem, (lkD M i.cpty Pos.z).paid, IntKind.i64.wrap ((lkD M i.cpty Pos.z).rcvd + i.amt)⟩
def posA : List Ins → List (ByteArray × Pos) → List (ByteArray × Pos)
  | [], M => M
  | i :: r, M => posA r (posS M i)
abbrev Rt := ByteArray × ByteArray
def eR (r : Rt) : Value := .agg #[.string r.1, .string r.2]
theorem eR_inj : ∀ a b, eR a = eR b → a = b := fun a b h => by
  simp only [eR, Value.agg.injEq] at h
  have := congrArg Array.toList h
  simp only [List.cons.injEq, Value.string.injEq, and_true] at this
  exact Prod.ext this.1 this.2
def eN (n : Int) : Value := .int .i64 n
def netS (M : List (Rt × Int)) (i : Ins) : List (Rt × Int) :=
  updK (updK M (i.sender, i.cpty) (IntKind.i64.wrap (lkD M (i.sender, i.cpty) 0 + i.amt))) (i.cpty, i.sender) (IntKind.i64.wrap (lkD (updK M (i.sender, i.cpty) (IntKind.i64.wrap (lkD M (i.sender, i.cpty) 0 + i.amt))) (i.cpty, i.sender) 0 - i.amt))
def netA : List Ins → List (Rt × Int) → List (Rt × Int)
  | [], M => M
  | i :: r, M => netA r (netS M i)
theorem drop_at {α : Type} {l : List α} {k : Nat} {x : α} (h : l[k]? = some x) : l.drop k = x :: l.drop (k + 1) := by
  have hlt := (List.getElem?_eq_some_iff.1 h).1
  rw [List.drop_eq_getElem_cons hlt, (List.getElem?_eq_some_iff.1 h).2]
theorem useA_at {l : List InA} {k : Nat} {x : InA} (h : l[k]? = some x) (M : List (ByteArray × Use)) : useA ((l.drop k).map (·.1)) M = useA ((l.drop (k + 1)).map (·.1)) (useS M x.1) := by rw [drop_at h]; rfl
theorem posA_at {l : List InA} {k : Nat} {x : InA} (h : l[k]? = some x) (M : List (ByteArray × Pos)) : posA ((l.drop k).map (·.1)) M = posA ((l.drop (k + 1)).map (·.1)) (posS M x.1) := by rw [drop_at h]; rfl
theorem netA_at {l : List InA} {k : Nat} {x : InA} (h : l[k]? = some x) (M : List (Rt × Int)) : netA ((l.drop k).map (·.1)) M = netA ((l.drop (k + 1)).map (·.1)) (netS M x.1) := by rw [drop_at h]; rfl
theorem useA_end {l : List InA} {k : Nat} (h : l.length ≤ k) (M : List (ByteArray × Use)) : useA ((l.drop k).map (·.1)) M = M := by rw [List.drop_of_length_le h]; rfl
theorem posA_end {l : List InA} {k : Nat} (h : l.length ≤ k) (M : List (ByteArray × Pos)) : posA ((l.drop k).map (·.1)) M = M := by rw [List.drop_of_length_le h]; rfl
theorem netA_end {l : List InA} {k : Nat} (h : l.length ≤ k) (M : List (Rt × Int)) : netA ((l.drop k).map (·.1)) M = M := by rw [List.drop_of_length_le h]; rfl
end Go.Proofs.YtljegdokbifoiaaGreatDoor.Af
