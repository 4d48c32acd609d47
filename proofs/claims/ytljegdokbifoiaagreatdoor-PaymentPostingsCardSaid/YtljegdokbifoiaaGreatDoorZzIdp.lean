/- Identifiers in plain Lean: classes of characters, expansion, check digits. No condition. -/
import Derived.Test.YtljegdokbifoiaaGreatDoorZzMs
import Derived.Lib.AppendStr
import Derived.Lib.Builder
import Derived.Lib.ItoaNum
namespace Go.Proofs.YtljegdokbifoiaaGreatDoor.Af
open Go.RowKit

def letterB (c : Int) : Bool := decide (65 ≤ c) && decide (c ≤ 90)
def digitB (c : Int) : Bool := decide (48 ≤ c) && decide (c ≤ 57)
def alnumB (c : Int) : Bool := letterB c || digitB c
def refB (c : Int) : Bool := alnumB c || (c == 45)
def clsB (g : Nat) (c : Int) : Bool := bif Nat.beq g 119 then letterB c else bif Nat.beq g 120 then alnumB c else bif Nat.beq g 121 then digitB c else refB c
def fnV (g : Nat) : Value := .func (.func g) #[] #[]
def spanC (sp : List (Nat × Nat)) : List Value := sp.flatMap fun p => [.int .i64 ((p.1 : Nat) : Int), fnV p.2]
def clsOf (sp : List (Nat × Nat)) : List Nat := sp.flatMap fun p => List.replicate p.1 p.2
theorem spanC_get (l : List (Nat × Nat)) (k : Nat) (x : Nat × Nat) (h : l[k]? = some x) : ∀ j u, ([.int .i64 ((x.1 : Nat) : Int), fnV x.2] : List Value)[j]? = some u → (spanC l)[k * 2 + j]? = some u := by
  induction l generalizing k with
  | nil => simp at h
  | cons y l ih =>
    intro j u hj
    cases k with
    | zero =>
      simp only [List.getElem?_cons_zero, Option.some.injEq] at h
      subst h
      rw [Nat.zero_mul, Nat.zero_add]
      match j, hj with
      | 0, hj => exact hj
      | 1, hj => exact hj
    | succ k =>
      rw [List.getElem?_cons_succ] at h
      have := ih k h j u hj
      rw [show (k + 1) * 2 + j = k * 2 + j + 2 by omega]
      exact this
theorem clsOf_take (sp : List (Nat × Nat)) (k : Nat) (x : Nat × Nat) (h : sp[k]? = some x) : clsOf (sp.take (k + 1)) = clsOf (sp.take k) ++ List.replicate x.1 x.2 := by
  have hlt := (List.getElem?_eq_some_iff.1 h).1
  have he := (List.getElem?_eq_some_iff.1 h).2
  rw [List.take_succ_eq_append_getElem hlt, he]
  simp [clsOf]
/-- The classes of the first characters of a string, and the error that an identifier of these classes has ahead of its check digits. -/
def pfxOK (cl : List Nat) (s : List UInt8) : Bool := (cl.zip s).all fun p => clsB p.1 (p.2.toNat : Int)
def pfxE (cl : List Nat) (sh : Int) (s : ByteArray) : Int :=
  bif pfxOK cl s.data.toList then (bif decide ((s.size : Int) < sh) then 4 else bif decide ((cl.length : Int) < (s.size : Int)) then 5 else 0) else 3
theorem pfxOK_iff (cl : List Nat) (s : List UInt8) : pfxOK cl s = true ↔ ∀ (j : Nat) (g : Nat) (c : UInt8), cl[j]? = some g → s[j]? = some c → clsB g (c.toNat : Int) = true := by
  unfold pfxOK
  rw [List.all_eq_true]
  constructor
  · intro h j g c hg hc
    have : (cl.zip s)[j]? = some (g, c) := by rw [List.getElem?_zip_eq_some]; exact ⟨hg, hc⟩
    exact h _ (List.mem_of_getElem? this)
  · intro h p hp
    obtain ⟨j, hj⟩ := List.getElem?_of_mem hp
    rw [List.getElem?_zip_eq_some] at hj
    exact h j p.1 p.2 hj.1 hj.2
def chAt (s : ByteArray) (k : Nat) : UInt8 := s.data.toList.getD k 0
theorem getL {s : ByteArray} {k : Nat} (h : (k : Int) < (s.size : Int)) : s.data.toList[k]? = some (chAt s k) := by
  have h' : k < s.data.toList.length := by have : s.data.toList.length = s.size := Array.length_toList; omega
  rw [List.getElem?_eq_getElem h']
  unfold chAt
  rw [List.getD_eq_getElem?_getD, List.getElem?_eq_getElem h']
  rfl
theorem getS {s : ByteArray} {k : Nat} (h : (k : Int) < (s.size : Int)) : s[k]? = some (chAt s k) := by
  have h1 := getL h
  have h' : k < s.size := by omega
  rw [getElem?_pos s k h']
  rw [Array.getElem?_toList] at h1
  rw [getElem?_pos s.data k h'] at h1
  exact h1
theorem getSd {s : ByteArray} {k : Nat} (h : decide ((k : Int) < (s.size : Int)) = true) : s[k]? = some (chAt s k) := getS (of_decide_eq_true h)
theorem rep_snoc (L : List Value) (j : Nat) (v : Value) : (L ++ List.replicate j v) ++ [v] = L ++ List.replicate (j + 1) v := by
  rw [List.replicate_succ', List.append_assoc]
theorem clsOf_len (sp : List (Nat × Nat)) (k : Nat) (x : Nat × Nat) (h : sp[k]? = some x) : (clsOf (sp.take k)).length + x.1 ≤ (clsOf sp).length := by
  have h1 := clsOf_take sp k x h
  have h2 : (clsOf (sp.take (k + 1))).length ≤ (clsOf sp).length := by
    have : clsOf sp = clsOf (sp.take (k + 1)) ++ clsOf (sp.drop (k + 1)) := by
      unfold clsOf
      rw [← List.flatMap_append, List.take_append_drop]
    rw [this, List.length_append]
    omega
  rw [h1, List.length_append, List.length_replicate] at h2
  exact h2
theorem clsOf_row (sp : List (Nat × Nat)) (k : Nat) (x : Nat × Nat) (h : sp[k]? = some x) : (clsOf (sp.take (k + 1))).map fnV = (clsOf (sp.take k)).map fnV ++ List.replicate x.1 (fnV x.2) := by
  rw [clsOf_take sp k x h, List.map_append, List.map_replicate]
theorem pfx_step {cl : List Nat} {s : ByteArray} {k g : Nat} (h : ∀ (j : Nat) (g : Nat) (c : UInt8), j < k → cl[j]? = some g → s.data.toList[j]? = some c → clsB g (c.toNat : Int) = true)
    (hg : cl[k]? = some g) (hc : (decide ((k : Int) < (s.size : Int)) && !clsB g ((chAt s k).toNat : Int)) = false) :
    ∀ (j : Nat) (g : Nat) (c : UInt8), j < k + 1 → cl[j]? = some g → s.data.toList[j]? = some c → clsB g (c.toNat : Int) = true := by
  intro j g' c hj hg' hc'
  rcases Nat.lt_succ_iff_lt_or_eq.1 hj with hlt | rfl
  · exact h j g' c hlt hg' hc'
  · rw [hg] at hg'
    cases hg'
    have hlt : (j : Int) < (s.size : Int) := by
      have := (List.getElem?_eq_some_iff.1 hc').1
      have e : s.data.toList.length = s.size := Array.length_toList
      omega
    rw [getL hlt] at hc'
    cases hc'
    rw [decide_eq_true hlt, Bool.true_and, Bool.not_eq_false'] at hc
    exact hc
theorem pfx_bad {cl : List Nat} {s : ByteArray} {k g : Nat} {sh : Int} (hg : cl[k]? = some g) (hc : (decide ((k : Int) < (s.size : Int)) && !clsB g ((chAt s k).toNat : Int)) = true) : pfxE cl sh s = 3 := by
  rw [Bool.and_eq_true, Bool.not_eq_true'] at hc
  have h : pfxOK cl s.data.toList = false := by
    cases hp : pfxOK cl s.data.toList with
    | false => rfl
    | true =>
      have := (pfxOK_iff _ _).1 hp k g _ hg (getL (of_decide_eq_true hc.1))
      rw [hc.2] at this
      cases this
  unfold pfxE
  rw [h]
  rfl
theorem pfx_ok {cl : List Nat} {s : ByteArray} {k : Nat} {sh : Int} (h : ∀ (j : Nat) (g : Nat) (c : UInt8), j < k → cl[j]? = some g → s.data.toList[j]? = some c → clsB g (c.toNat : Int) = true)
    (hk : ¬ ((k : Int) < (cl.length : Int))) : pfxE cl sh s = bif decide ((s.size : Int) < sh) then 4 else bif decide ((cl.length : Int) < (s.size : Int)) then 5 else 0 := by
  have h : pfxOK cl s.data.toList = true := (pfxOK_iff _ _).2 fun j g c hg hc => h j g c (by have := (List.getElem?_eq_some_iff.1 hg).1; omega) hg hc
  unfold pfxE
  rw [h]
  rfl
theorem isB_below {B b : Nat} {bs : List Value} {w w' : World} (h : Lib.IsBuilder 230 5 B b bs w) (hb : Below w.heap.size w w') : Lib.IsBuilder 230 5 B b bs w' := by
  have key : ∀ p, Lib.BuilderAt 230 5 B b p bs w → Lib.BuilderAt 230 5 B b p bs w' := fun p h => by
    have hlt := h.lt
    obtain ⟨h1, v, h2, h3, h4⟩ := h
    exact ⟨h1, v, (hb.block b hlt).trans h2, own_below h3 hb, h4⟩
  exact h.imp (key _) (key _)
theorem isB_new {w0 w : World} {b : Nat} (h : w.heap[b]? = some (.cells #[.pointer none, .slice none 0 0] 230 (0, 0))) (hb : w0.heap.size ≤ b) : Lib.IsBuilder 230 5 w0.heap.size b [] w :=
  .inl ⟨hb, .slice none 0 0, h, own_nil _ _ _ _, by simp [Value.ownBlock]⟩

/-! ### digits -/
def okC (c : UInt8) : Bool := alnumB (c.toNat : Int)
def expC (c : UInt8) : List UInt8 := bif digitB (c.toNat : Int) then [c] else [UInt8.ofNat (48 + (c.toNat - 55) / 10), UInt8.ofNat (48 + (c.toNat - 55) % 10)]
def expL (s : List UInt8) : List UInt8 := s.flatMap expC
def digV (c : UInt8) : List Nat := bif digitB (c.toNat : Int) then [c.toNat - 48] else [(c.toNat - 55) / 10, (c.toNat - 55) % 10]
def digs (s : List UInt8) : List Nat := s.flatMap digV
def lTerm (k d : Nat) : Nat := bif k % 2 == 0 then (2 * d) / 10 + (2 * d) % 10 else d / 10 + d % 10
def lSum (l : List Nat) : Nat → Nat
  | 0 => 0
  | k + 1 => lSum l k + lTerm k (l.getD (l.length - 1 - k) 0)
def luhnD (s : List UInt8) : Nat := (10 - lSum (digs s) (digs s).length % 10) % 10
theorem okC_iff (c : UInt8) : okC c = true ↔ (65 ≤ c.toNat ∧ c.toNat ≤ 90) ∨ (48 ≤ c.toNat ∧ c.toNat ≤ 57) := by
  unfold okC alnumB letterB digitB
  simp only [Bool.or_eq_true, Bool.and_eq_true, decide_eq_true_eq]
  omega
theorem digitB_iff (c : UInt8) : digitB (c.toNat : Int) = true ↔ 48 ≤ c.toNat ∧ c.toNat ≤ 57 := by
  unfold digitB
  simp only [Bool.and_eq_true, decide_eq_true_eq]
  omega
theorem decDigits_two (v : Nat) (h1 : 10 ≤ v) (h2 : v < 100) : Lib.decDigits v = [UInt8.ofNat (48 + v / 10), UInt8.ofNat (48 + v % 10)] := by
  rw [Lib.decDigits, dif_neg (by omega), Lib.decDigits, dif_pos (by omega)]
  rfl
theorem decDigits_one (v : Nat) (h2 : v < 10) : Lib.decDigits v = [UInt8.ofNat (48 + v)] := by
  rw [Lib.decDigits, dif_pos h2]
theorem expC_letter (c : UInt8) (h : okC c = true) (hd : digitB (c.toNat : Int) = false) : Lib.decDigits (c.toNat - 55) = expC c ∧ c.toNat - 55 < 100 ∧ 65 ≤ c.toNat ∧ c.toNat ≤ 90 := by
  rw [okC_iff] at h
  have hn : ¬ (48 ≤ c.toNat ∧ c.toNat ≤ 57) := fun hh => by rw [(digitB_iff c).2 hh] at hd; cases hd
  unfold expC
  rw [hd]
  exact ⟨decDigits_two _ (by omega) (by omega), by omega, by omega, by omega⟩
theorem expC_digit (c : UInt8) (hd : digitB (c.toNat : Int) = true) : expC c = [c] := by
  unfold expC
  rw [hd]
  rfl
theorem up_val (c : UInt8) (h1 : 65 ≤ c.toNat) (h2 : c.toNat ≤ 90) : IntKind.i64.wrap (IntKind.i64.wrap (IntKind.u8.wrap (((c.toNat : Nat) : Int) - 65)) + 10) = ((c.toNat - 55 : Nat) : Int) := by
  have e1 : IntKind.u8.wrap (((c.toNat : Nat) : Int) - 65) = ((c.toNat : Nat) : Int) - 65 := by
    rw [IntKind.wrap_u8]; omega
  rw [e1, wrap_i64 (z := ((c.toNat : Nat) : Int) - 65) (by omega) (by omega), wrap_i64 (by omega) (by omega)]
  omega
theorem expL_take (l : List UInt8) (k : Nat) (c : UInt8) (h : l[k]? = some c) : expL (l.take (k + 1)) = expL (l.take k) ++ expC c := by
  have hlt := (List.getElem?_eq_some_iff.1 h).1
  have he := (List.getElem?_eq_some_iff.1 h).2
  rw [List.take_succ_eq_append_getElem hlt, he]
  simp [expL]
theorem expC_len (c : UInt8) : (expC c).length ≤ 2 := by
  unfold expC
  cases digitB (c.toNat : Int) <;> simp
theorem expL_len (l : List UInt8) : (expL l).length ≤ 2 * l.length := by
  induction l with
  | nil => simp [expL]
  | cons c l ih =>
    have := expC_len c
    simp only [expL, List.flatMap_cons, List.length_append, List.length_cons] at ih ⊢
    omega
theorem expC_digs (c : UInt8) (h : okC c = true) : (expC c).map (fun x => x.toNat - 48) = digV c ∧ ∀ x ∈ expC c, 48 ≤ x.toNat ∧ x.toNat ≤ 57 := by
  rw [okC_iff] at h
  unfold expC digV
  cases hd : digitB (c.toNat : Int) with
  | true =>
    rw [digitB_iff] at hd
    simp only [cond_true, List.map_cons, List.map_nil, List.mem_singleton, forall_eq, true_and]
    exact hd
  | false =>
    have hn : ¬ (48 ≤ c.toNat ∧ c.toNat ≤ 57) := fun hh => by rw [(digitB_iff c).2 hh] at hd; cases hd
    have e1 : (UInt8.ofNat (48 + (c.toNat - 55) / 10)).toNat = 48 + (c.toNat - 55) / 10 := by simp; omega
    have e2 : (UInt8.ofNat (48 + (c.toNat - 55) % 10)).toNat = 48 + (c.toNat - 55) % 10 := by simp; omega
    simp only [cond_false, List.map_cons, List.map_nil, List.mem_cons, List.not_mem_nil, or_false, forall_eq_or_imp, forall_eq, e1, e2]
    refine ⟨?_, by omega, by omega⟩
    rw [Nat.add_sub_cancel_left, Nat.add_sub_cancel_left]
theorem expL_digs (l : List UInt8) (h : ∀ c ∈ l, okC c = true) : (expL l).map (fun x => x.toNat - 48) = digs l ∧ ∀ x ∈ expL l, 48 ≤ x.toNat ∧ x.toNat ≤ 57 := by
  induction l with
  | nil => exact ⟨rfl, by simp [expL]⟩
  | cons c l ih =>
    obtain ⟨h1, h2⟩ := ih fun c hc => h c (List.mem_cons_of_mem _ hc)
    obtain ⟨h3, h4⟩ := expC_digs c (h c List.mem_cons_self)
    refine ⟨?_, fun x hx => ?_⟩
    · simp only [expL, digs, List.flatMap_cons, List.map_append] at h1 ⊢
      rw [h1, h3]
    · simp only [expL, List.flatMap_cons, List.mem_append] at hx h2
      exact hx.elim (h4 x) (h2 x)
/-- The number at a place of the expansion, and what the program's character comes to. -/
theorem exp_at (l : List UInt8) (h : ∀ c ∈ l, okC c = true) (j : Nat) (hj : j < (expL l).length) : ∃ b, (expL l)[j]? = some b ∧ (digs l).getD j 0 < 10 ∧ IntKind.i64.wrap (IntKind.u8.wrap (((b.toNat : Nat) : Int) - 48)) = (((digs l).getD j 0 : Nat) : Int) := by
  obtain ⟨h1, h2⟩ := expL_digs l h
  refine ⟨(expL l)[j], List.getElem?_eq_getElem hj, ?_⟩
  have h3 := h2 _ (List.getElem_mem hj)
  have e : (digs l).getD j 0 = (expL l)[j].toNat - 48 := by
    rw [← h1, List.getD_eq_getElem?_getD, List.getElem?_map, List.getElem?_eq_getElem hj]
    rfl
  rw [e]
  refine ⟨by omega, ?_⟩
  have e1 : IntKind.u8.wrap ((((expL l)[j].toNat : Nat) : Int) - 48) = (((expL l)[j].toNat : Nat) : Int) - 48 := by
    rw [IntKind.wrap_u8]; omega
  rw [e1, wrap_i64 (by omega) (by omega)]
  omega
theorem digs_len (l : List UInt8) (h : ∀ c ∈ l, okC c = true) : (digs l).length = (expL l).length := by
  rw [← (expL_digs l h).1, List.length_map]
theorem lSum_le (l : List Nat) (h : ∀ j, l.getD j 0 < 10) (k : Nat) : lSum l k ≤ 9 * k := by
  induction k with
  | zero => exact Nat.le_refl _
  | succ k ih =>
    have := h (l.length - 1 - k)
    simp only [lSum]
    have : lTerm k (l.getD (l.length - 1 - k) 0) ≤ 9 := by
      unfold lTerm
      cases k % 2 == 0 <;> simp only [cond_true, cond_false] <;> omega
    omega
theorem digs_lt (l : List UInt8) (h : ∀ c ∈ l, okC c = true) (j : Nat) : (digs l).getD j 0 < 10 := by
  rcases Nat.lt_or_ge j (expL l).length with hj | hj
  · obtain ⟨b, -, h2, -⟩ := exp_at l h j hj
    exact h2
  · rw [← digs_len l h] at hj
    rw [List.getD_eq_getElem?_getD, List.getElem?_eq_none hj]
    exact Nat.zero_lt_succ 9
theorem luhnD_lt (s : List UInt8) : luhnD s < 10 := Nat.mod_lt _ (by omega)
/-- One round of the sum, as the program reckons it. -/
theorem l_round (k d S : Nat) (x : Int) (hx : (k % 2 = 0 → x = ((2 * d : Nat) : Int)) ∧ (¬ k % 2 = 0 → x = ((d : Nat) : Int))) (hd : d < 10) (hS : S ≤ 9 * k) (hk : k < 1000000) :
    IntKind.i64.wrap (((S : Nat) : Int) + IntKind.i64.wrap (IntKind.i64.wrap (Int.tdiv x 10) + Int.tmod x 10)) = ((S + lTerm k d : Nat) : Int) := by
  have key : ∀ y : Nat, y < 100 → IntKind.i64.wrap (((S : Nat) : Int) + IntKind.i64.wrap (IntKind.i64.wrap (Int.tdiv (y : Int) 10) + Int.tmod (y : Int) 10)) = ((S + (y / 10 + y % 10) : Nat) : Int) := fun y hy => by
    rw [Int.tdiv_eq_ediv_of_nonneg (by omega), Int.tmod_eq_emod_of_nonneg (by omega)]
    rw [wrap_i64 (z := ((y : Nat) : Int) / 10) (by omega) (by omega), wrap_i64 (z := ((y : Nat) : Int) / 10 + ((y : Nat) : Int) % 10) (by omega) (by omega), wrap_i64 (by omega) (by omega)]
    omega
  by_cases h : k % 2 = 0
  · rw [hx.1 h, key _ (by omega)]
    unfold lTerm
    rw [h]
    rfl
  · rw [hx.2 h, key _ (by omega)]
    unfold lTerm
    have : (k % 2 == 0) = false := by simpa using h
    rw [this]
    rfl
theorem par_eq (k : Nat) : (Int.tmod (k : Int) 2 == (0 : Int)) = (k % 2 == 0) := by
  rw [Int.tmod_eq_emod_of_nonneg (by omega), show ((k : Int) % 2) = ((k % 2 : Nat) : Int) by omega]
  rcases Nat.mod_two_eq_zero_or_one k with h | h <;> rw [h] <;> rfl
theorem luhn_end (S : Nat) (hS : S < 1000000) : Int.tmod (IntKind.i64.wrap (10 - Int.tmod ((S : Nat) : Int) 10)) 10 = (((10 - S % 10) % 10 : Nat) : Int) := by
  rw [Int.tmod_eq_emod_of_nonneg (a := ((S : Nat) : Int)) (by omega), wrap_i64 (by omega) (by omega), Int.tmod_eq_emod_of_nonneg (by omega)]
  omega

/-! ### the identifiers -/
def sp0 : List (Nat × Nat) := [(2, 119), (9, 120), (1, 121)]
def sp1 : List (Nat × Nat) := [(1, 119), (7, 120)]
def sp2 : List (Nat × Nat) := [(16, 123)]
def isinB (s : ByteArray) : Bool := (pfxE (clsOf sp0) 12 s == 0) && ((⟨#[UInt8.ofNat (48 + luhnD (s.extract 0 11).data.toList)]⟩ : ByteArray).toList == (s.extract 11 s.size).toList)
def memB (s : ByteArray) : Bool := pfxE (clsOf sp1) 4 s == 0
def rfB (s : ByteArray) : Bool := pfxE (clsOf sp2) 1 s == 0
theorem clsOf0 : clsOf sp0 = [119, 119, 120, 120, 120, 120, 120, 120, 120, 120, 120, 121] := rfl
theorem clsOf1 : clsOf sp1 = [119, 120, 120, 120, 120, 120, 120, 120] := rfl
theorem clsOf2 : clsOf sp2 = [123, 123, 123, 123, 123, 123, 123, 123, 123, 123, 123, 123, 123, 123, 123, 123] := rfl
theorem extract_list (s : ByteArray) (n : Nat) : (s.extract 0 n).data.toList = s.data.toList.take n := by
  simp [ByteArray.data_extract]
theorem extract_size (s : ByteArray) (n : Nat) (h : n ≤ s.size) : (s.extract 0 n).size = n := by
  simp [ByteArray.size_extract]; omega
/-- The body of a security's identifier: eleven letters and digits. -/
theorem isin_body (s : ByteArray) (h : pfxE (clsOf sp0) 12 s = 0) : s.size = 12 ∧ ∀ c ∈ (s.extract 0 11).data.toList, okC c = true := by
  unfold pfxE at h
  cases hp : pfxOK (clsOf sp0) s.data.toList with
  | false => rw [hp] at h; cases h
  | true =>
    rw [hp, cond_true] at h
    have hsz : s.size = 12 := by
      cases h1 : decide ((s.size : Int) < 12) with
      | true => rw [h1] at h; cases h
      | false =>
        rw [h1, cond_false] at h
        cases h2 : decide (((clsOf sp0).length : Int) < (s.size : Int)) with
        | true => rw [h2] at h; cases h
        | false =>
          have h3 := of_decide_eq_false h1
          have h4 := of_decide_eq_false h2
          rw [clsOf0] at h4
          simp only [List.length_cons, List.length_nil] at h4
          omega
    refine ⟨hsz, fun c hc => ?_⟩
    rw [extract_list s 11] at hc
    obtain ⟨j, hj⟩ := List.getElem?_of_mem hc
    rw [List.getElem?_take] at hj
    split at hj
    · rename_i hlt
      have key := (pfxOK_iff _ _).1 hp j
      rw [clsOf0] at key
      have : ∃ g, (g = 119 ∨ g = 120) ∧ ([119, 119, 120, 120, 120, 120, 120, 120, 120, 120, 120, 121] : List Nat)[j]? = some g := by
        match j, hlt with
        | 0, _ => exact ⟨119, .inl rfl, rfl⟩
        | 1, _ => exact ⟨119, .inl rfl, rfl⟩
        | 2, _ => exact ⟨120, .inr rfl, rfl⟩
        | 3, _ => exact ⟨120, .inr rfl, rfl⟩
        | 4, _ => exact ⟨120, .inr rfl, rfl⟩
        | 5, _ => exact ⟨120, .inr rfl, rfl⟩
        | 6, _ => exact ⟨120, .inr rfl, rfl⟩
        | 7, _ => exact ⟨120, .inr rfl, rfl⟩
        | 8, _ => exact ⟨120, .inr rfl, rfl⟩
        | 9, _ => exact ⟨120, .inr rfl, rfl⟩
        | 10, _ => exact ⟨120, .inr rfl, rfl⟩
        | n + 11, h => omega
      obtain ⟨g, hg, hg2⟩ := this
      have := key g c hg2 hj
      unfold okC alnumB
      rcases hg with rfl | rfl
      · rw [show letterB (c.toNat : Int) = true from this, Bool.true_or]
      · exact this
    · cases hj
end Go.Proofs.YtljegdokbifoiaaGreatDoor.Af
