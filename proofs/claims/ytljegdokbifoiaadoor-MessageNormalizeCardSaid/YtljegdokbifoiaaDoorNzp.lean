/- Ordered links in plain Lean: the order of references, insertion, the one ordered list. No condition. -/
import Derived.Test.YtljegdokbifoiaaDoorApp
import Derived.Lib.Bytealg
import Derived.Sort.Statements
namespace Go.Proofs.YtljegdokbifoiaaDoor.Af
open Go.RowKit

/-! ### the order of byte strings -/
theorem cb_swap (a b : List UInt8) : Lib.compareBytes b a = - Lib.compareBytes a b := by
  induction a generalizing b with
  | nil => cases b <;> rfl
  | cons x a ih =>
    cases b with
    | nil => rfl
    | cons y b =>
      simp only [Lib.compareBytes]
      by_cases h1 : x < y
      · have h2 : ¬ y < x := fun h => by rw [UInt8.lt_iff_toNat_lt] at h h1; omega
        simp [h1, h2]
      · by_cases h2 : y < x
        · simp [h1, h2]
        · simp only [h1, h2, if_false]; exact ih b
theorem cb_self (a : List UInt8) : Lib.compareBytes a a = 0 := by
  have := cb_swap a a
  omega
theorem cb_eq (a b : List UInt8) (h : Lib.compareBytes a b = 0) : a = b := by
  induction a generalizing b with
  | nil => cases b with
    | nil => rfl
    | cons y b => simp [Lib.compareBytes] at h
  | cons x a ih =>
    cases b with
    | nil => simp [Lib.compareBytes] at h
    | cons y b =>
      simp only [Lib.compareBytes] at h
      by_cases h1 : x < y
      · simp [h1] at h
      · by_cases h2 : y < x
        · simp [h1, h2] at h
        · simp only [h1, h2, if_false] at h
          have : x = y := by
            rw [UInt8.lt_iff_toNat_lt] at h1 h2
            exact UInt8.toNat_inj.1 (by omega)
          rw [this, ih b h]
theorem cb_trans (a b c : List UInt8) (h1 : Lib.compareBytes a b < 0) (h2 : Lib.compareBytes b c < 0) : Lib.compareBytes a c < 0 := by
  induction a generalizing b c with
  | nil => cases b with
    | nil => simp [Lib.compareBytes] at h1
    | cons y b => cases c with
      | nil => simp [Lib.compareBytes] at h2
      | cons z c => simp [Lib.compareBytes]
  | cons x a ih => cases b with
    | nil => simp [Lib.compareBytes] at h1
    | cons y b => cases c with
      | nil => simp [Lib.compareBytes] at h2
      | cons z c =>
        simp only [Lib.compareBytes, UInt8.lt_iff_toNat_lt] at h1 h2 ⊢
        by_cases e1 : x.toNat < y.toNat
        · by_cases e2 : y.toNat < z.toNat
          · rw [if_pos (by omega)]; decide
          · by_cases e3 : z.toNat < y.toNat
            · simp [e2, e3] at h2
            · rw [if_pos (by omega)]; decide
        · by_cases e2 : y.toNat < x.toNat
          · simp [e1, e2] at h1
          · simp only [e1, e2, if_false] at h1
            by_cases e3 : y.toNat < z.toNat
            · rw [if_pos (by omega)]; decide
            · by_cases e4 : z.toNat < y.toNat
              · simp [e3, e4] at h2
              · simp only [e3, e4, if_false] at h2
                rw [if_neg (by omega), if_neg (by omega)]
                exact ih b c h1 h2
def ltB (a b : ByteArray) : Bool := decide (Lib.compareBytes a.data.toList b.data.toList < 0)
theorem lt_self (a : ByteArray) : ltB a a = false := by unfold ltB; rw [cb_self]; rfl
theorem lt_asym {a b : ByteArray} (h : ltB a b = true) : ltB b a = false := by
  unfold ltB at h ⊢
  rw [decide_eq_true_eq] at h
  rw [cb_swap, decide_eq_false_iff_not]
  omega
theorem lt_trans' {a b c : ByteArray} (h1 : ltB a b = true) (h2 : ltB b c = true) : ltB a c = true := by
  unfold ltB at h1 h2 ⊢
  rw [decide_eq_true_eq] at h1 h2 ⊢
  exact cb_trans _ _ _ h1 h2
theorem lt_total {a b : ByteArray} (h1 : ltB a b = false) (h2 : ltB b a = false) : a.data.toList = b.data.toList := by
  unfold ltB at h1 h2
  rw [decide_eq_false_iff_not] at h1 h2
  rw [cb_swap] at h2
  exact cb_eq _ _ (by omega)
/-- A step of the comparison. -/
theorem cb_drop {la lb : List UInt8} {k : Nat} {x y : UInt8} (hx : la[k]? = some x) (hy : lb[k]? = some y) : Lib.compareBytes (la.drop k) (lb.drop k) = if x < y then -1 else if y < x then 1 else Lib.compareBytes (la.drop (k + 1)) (lb.drop (k + 1)) := by
  have h1 := (List.getElem?_eq_some_iff.1 hx)
  have h2 := (List.getElem?_eq_some_iff.1 hy)
  obtain ⟨a1, a2⟩ := h1
  obtain ⟨b1, b2⟩ := h2
  rw [List.drop_eq_getElem_cons a1, List.drop_eq_getElem_cons b1, a2, b2]
  rfl
theorem lt_hit {a b : ByteArray} {k : Nat} {x y : UInt8} (hinv : Lib.compareBytes a.data.toList b.data.toList = Lib.compareBytes (a.data.toList.drop k) (b.data.toList.drop k)) (hx : a.data.toList[k]? = some x) (hy : b.data.toList[k]? = some y)
    (hne : (((x.toNat : Nat) : Int) != ((y.toNat : Nat) : Int)) = true) : decide (((x.toNat : Nat) : Int) < ((y.toNat : Nat) : Int)) = ltB a b := by
  have hne' : x.toNat ≠ y.toNat := by have := hne; simp at this; omega
  unfold ltB
  rw [hinv, cb_drop hx hy]
  simp only [UInt8.lt_iff_toNat_lt]
  by_cases h1 : x.toNat < y.toNat
  · rw [if_pos h1, decide_eq_true (by omega)]; rfl
  · rw [if_neg h1, if_pos (by omega), decide_eq_false (by omega)]; rfl
theorem lt_next {a b : ByteArray} {k : Nat} {x y : UInt8} (hinv : Lib.compareBytes a.data.toList b.data.toList = Lib.compareBytes (a.data.toList.drop k) (b.data.toList.drop k)) (hx : a.data.toList[k]? = some x) (hy : b.data.toList[k]? = some y)
    (hne : (((x.toNat : Nat) : Int) != ((y.toNat : Nat) : Int)) = false) : Lib.compareBytes a.data.toList b.data.toList = Lib.compareBytes (a.data.toList.drop (k + 1)) (b.data.toList.drop (k + 1)) := by
  have hne' : x.toNat = y.toNat := by have := hne; simp at this; omega
  rw [hinv, cb_drop hx hy]
  simp only [UInt8.lt_iff_toNat_lt]
  rw [if_neg (by omega), if_neg (by omega)]
theorem lt_end {a b : ByteArray} {k : Nat} (hinv : Lib.compareBytes a.data.toList b.data.toList = Lib.compareBytes (a.data.toList.drop k) (b.data.toList.drop k)) (hka : k ≤ a.size) (hkb : k ≤ b.size) (h : ¬ (k < a.size ∧ k < b.size)) : decide (((a.size : Nat) : Int) < ((b.size : Nat) : Int)) = ltB a b := by
  have ea : a.data.toList.length = a.size := Array.length_toList
  have eb : b.data.toList.length = b.size := Array.length_toList
  unfold ltB
  rw [hinv]
  by_cases h1 : k < a.size
  · have h2 : b.data.toList.drop k = [] := List.drop_of_length_le (by omega)
    rw [h2, List.drop_eq_getElem_cons (by omega : k < a.data.toList.length), decide_eq_false (by omega)]; rfl
  · have h2 : a.data.toList.drop k = [] := List.drop_of_length_le (by omega)
    rw [h2]
    by_cases h3 : k < b.size
    · rw [List.drop_eq_getElem_cons (by omega : k < b.data.toList.length), decide_eq_true (by omega)]; rfl
    · have h4 : b.data.toList.drop k = [] := List.drop_of_length_le (by omega)
      rw [h4, decide_eq_false (by omega)]; rfl

/-! ### insertion -/
def ins1 (x : Lk) : List Lk → List Lk
  | [] => [x]
  | y :: l => bif ltB y.r x.r then y :: ins1 x l else x :: y :: l
def srtL (l : List Lk) : List Lk := l.foldl (fun a x => ins1 x a) []
theorem srt_snoc {l : List Lk} {k : Nat} {x : Lk} (h : l[k]? = some x) : srtL (l.take (k + 1)) = ins1 x (srtL (l.take k)) := by
  have hlt := (List.getElem?_eq_some_iff.1 h).1
  have he := (List.getElem?_eq_some_iff.1 h).2
  unfold srtL
  rw [List.take_succ_eq_append_getElem hlt, he, List.foldl_append]
  rfl
theorem ins1_at (x : Lk) (l : List Lk) (k : Nat) (hk : k ≤ l.length) (h1 : ∀ (j : Nat) (y : Lk), j < k → l[j]? = some y → ltB y.r x.r = true) (h2 : ∀ y, l[k]? = some y → ltB y.r x.r = false) : ins1 x l = l.take k ++ x :: l.drop k := by
  induction l generalizing k with
  | nil =>
    have : k = 0 := by simpa using hk
    subst this
    rfl
  | cons y l ih =>
    cases k with
    | zero => simp only [ins1]; rw [h2 y rfl]; rfl
    | succ k =>
      simp only [ins1]
      rw [h1 0 y (by omega) rfl]
      simp only [cond_true, List.take_succ_cons, List.drop_succ_cons, List.cons_append]
      rw [ih k (by simpa using hk) (fun j z hj hz => h1 (j + 1) z (by omega) (by rw [List.getElem?_cons_succ]; exact hz)) (fun z hz => h2 z (by rw [List.getElem?_cons_succ]; exact hz))]
theorem ins1_perm (x : Lk) (l : List Lk) : (ins1 x l).Perm (x :: l) := by
  induction l with
  | nil => exact List.Perm.refl _
  | cons y l ih =>
    simp only [ins1]
    cases ltB y.r x.r with
    | true => exact (List.Perm.cons y ih).trans (List.Perm.swap x y l)
    | false => exact List.Perm.refl _
theorem srt_perm (l : List Lk) : (srtL l).Perm l := by
  have key : ∀ (l a : List Lk), (l.foldl (fun a x => ins1 x a) a).Perm (l ++ a) := by
    intro l
    induction l with
    | nil => intro a; exact List.Perm.refl _
    | cons x l ih => intro a; exact (ih (ins1 x a)).trans ((List.Perm.append_left l (ins1_perm x a)).trans List.perm_middle)
  have := key l []
  rwa [List.append_nil] at this
theorem srt_len (l : List Lk) : (srtL l).length = l.length := (srt_perm l).length_eq
def dst (a b : Lk) : Prop := a.r.data.toList ≠ b.r.data.toList
def asc (a b : Lk) : Prop := ltB a.r b.r = true
theorem ins1_asc (x : Lk) (l : List Lk) (hd : ∀ y ∈ l, dst x y) (h : l.Pairwise asc) : (ins1 x l).Pairwise asc := by
  induction l with
  | nil => simp [ins1]
  | cons y l ih =>
    rw [List.pairwise_cons] at h
    simp only [List.forall_mem_cons] at hd
    simp only [ins1]
    cases hb : ltB y.r x.r with
    | true =>
      simp only [cond_true, List.pairwise_cons]
      refine ⟨fun z hz => ?_, ih hd.2 h.2⟩
      rw [(ins1_perm x l).mem_iff, List.mem_cons] at hz
      rcases hz with rfl | hz
      · exact hb
      · exact h.1 z hz
    | false =>
      have hxy : ltB x.r y.r = true := by
        cases h3 : ltB x.r y.r with
        | true => rfl
        | false => exact absurd (lt_total h3 hb) hd.1
      simp only [cond_false, List.pairwise_cons]
      refine ⟨fun z hz => ?_, h⟩
      rcases List.mem_cons.1 hz with rfl | hz
      · exact hxy
      · exact lt_trans' hxy (h.1 z hz)
theorem srt_asc (l : List Lk) (hd : l.Pairwise dst) : (srtL l).Pairwise asc := by
  have key : ∀ (l a : List Lk), l.Pairwise dst → a.Pairwise asc → (∀ x ∈ l, ∀ y ∈ a, dst x y) → (l.foldl (fun a x => ins1 x a) a).Pairwise asc := by
    intro l
    induction l with
    | nil => intro a _ h _; exact h
    | cons x l ih =>
      intro a hl ha hx
      rw [List.pairwise_cons] at hl
      simp only [List.forall_mem_cons] at hx
      refine ih (ins1 x a) hl.2 (ins1_asc x a hx.1 ha) fun z hz y hy => ?_
      rw [(ins1_perm x a).mem_iff, List.mem_cons] at hy
      rcases hy with rfl | hy
      · exact fun e => hl.1 z hz e.symm
      · exact hx.2 z hz y hy
  exact key l [] hd List.Pairwise.nil (fun _ _ y hy => by cases hy)
theorem asc_uniq {l m : List Lk} (hl : l.Pairwise asc) (hm : m.Pairwise asc) (hp : l.Perm m) : l = m :=
  List.Perm.eq_of_pairwise (le := asc) (fun a b _ _ h1 h2 => by have := lt_asym h1; unfold asc at h2; rw [this] at h2; cases h2) hl hm hp
theorem dst_perm {l m : List Lk} (hp : l.Perm m) (h : l.Pairwise dst) : m.Pairwise dst := hp.pairwise h fun h1 e => h1 e.symm
theorem srt_idem (l : List Lk) (hd : l.Pairwise dst) : srtL (srtL l) = srtL l :=
  asc_uniq (srt_asc _ (dst_perm (srt_perm l).symm hd)) (srt_asc l hd) (srt_perm _)

/-! ### a valid instruction's links -/
def good (i : Ins) (x : Lk) : Prop := ((x.t != 0) && (x.t != 1)) = false ∧ (!rfB x.r) = false ∧ (x.r.toList == i.ref.toList) = false
theorem beq_dst (a b : Lk) : (a.r.toList == b.r.toList) = false ↔ dst a b := by
  unfold dst
  rw [ByteArray.toList_eq, ByteArray.toList_eq]
  simp
theorem dup_false (l : List Lk) (r : ByteArray) : dupB l r = false ↔ ∀ y ∈ l, (y.r.toList == r.toList) = false := by
  unfold dupB
  rw [List.any_eq_false]
  simp
theorem refL_iff (i : Ins) : ∀ (l p : List Lk), i.links = p ++ l → (refL i p.length l = 0 ↔ (∀ x ∈ l, good i x) ∧ l.Pairwise dst ∧ ∀ x ∈ l, ∀ y ∈ p, dst y x)
  | [], p, _ => by simp [refL]
  | x :: l, p, h => by
    have ih := refL_iff i l (p ++ [x]) (by rw [h]; simp)
    rw [List.length_append, List.length_singleton] at ih
    have ht : i.links.take p.length = p := by rw [h]; simp
    show refTop (rulesR i p.length x) (refL i (p.length + 1) l) = 0 ↔ _
    rw [top_zero _ _ (by unfold rulesR; simp), ih]
    unfold rulesR
    rw [ht]
    simp only [List.forall_mem_cons, List.pairwise_cons, dup_false, List.forall_mem_append, beq_dst]
    constructor
    · rintro ⟨⟨g1, g2, g3, g4, -⟩, h2, h3, h4⟩
      exact ⟨⟨⟨g1, g2, g3⟩, h2⟩, ⟨fun z hz => (h4 z hz).2.1, h3⟩, g4, fun z hz y hy => (h4 z hz).1 y hy⟩
    · rintro ⟨⟨⟨g1, g2, g3⟩, h2⟩, ⟨h3, h4⟩, h5, h6⟩
      exact ⟨⟨g1, g2, g3, h5, fun _ h => by cases h⟩, h2, h4, fun z hz => ⟨fun y hy => h6 z hz y hy, h3 z hz, fun _ h => by cases h⟩⟩
def wl (i : Ins) (l : List Lk) : Ins := ⟨i.ref, i.kind, i.sender, i.cpty, i.side, i.asset, i.qty, i.amt, i.tday, i.sday, i.prio, i.part, i.minlot, i.hold, i.resv, l⟩
theorem ref_links (i : Ins) (h : refI i = 0) : (∀ x ∈ i.links, good i x) ∧ i.links.Pairwise dst := by
  unfold refI at h
  rw [top_zero _ _ (by unfold rules15; simp)] at h
  have := (refL_iff i i.links [] (by simp)).1 h.2
  exact ⟨this.1, this.2.1⟩
theorem chk_dst (i : Ins) (h : chkI i = 0) : i.links.Pairwise dst := (ref_links i (by rw [← chk_ref]; exact h)).2
/-- The instruction with ordered links is valid as well. -/
theorem ref_srt (i : Ins) (h : refI i = 0) : refI (wl i (srtL i.links)) = 0 := by
  obtain ⟨h1, h2⟩ := ref_links i h
  unfold refI at h ⊢
  rw [top_zero _ _ (by unfold rules15; simp)] at h ⊢
  refine ⟨?_, ?_⟩
  · have e : rules15 (wl i (srtL i.links)) = rules15 i := by unfold rules15 wl; simp only [srt_len]
    rw [e]; exact h.1
  · refine (refL_iff (wl i (srtL i.links)) (srtL i.links) [] rfl).2 ⟨fun x hx => h1 x ((srt_perm i.links).mem_iff.1 hx), dst_perm (srt_perm i.links).symm h2, fun _ _ _ hy => by cases hy⟩
def nrmP (i : Ins) : Ins × Int := bif chkI i != 0 then (zIns, chkI i) else (wl i (srtL i.links), 0)
def nrmR (i : Ins) : Ins × Int := bif refI i != 0 then (zIns, refI i) else (wl i (srtL i.links), 0)
theorem nrm_ref (i : Ins) : nrmP i = nrmR i := by unfold nrmP nrmR; rw [chk_ref]
theorem nrm_len (i : Ins) : (nrmP i).1.links.length ≤ i.links.length := by
  unfold nrmP
  cases chkI i != 0 with
  | true => exact Nat.zero_le _
  | false => exact Nat.le_of_eq (srt_len _)
theorem nrm_ok (i : Ins) (h : ((nrmR i).2 != 0) = false) : refI i = 0 := by
  unfold nrmR at h
  cases hb : refI i != 0 with
  | true => rw [hb] at h; simp only [cond_true] at h; rw [hb] at h; cases h
  | false => simpa using hb
theorem nrm_twice (i : Ins) (h : ((nrmR i).2 != 0) = false) : nrmP (nrmP i).1 = ((nrmP i).1, 0) ∧ chkI (nrmP i).1 = 0 := by
  have h0 := nrm_ok i h
  have h1 : nrmP i = (wl i (srtL i.links), 0) := by unfold nrmP; rw [chk_ref, h0]; rfl
  have h2 := ref_srt i h0
  rw [h1]
  show nrmP (wl i (srtL i.links)) = (wl i (srtL i.links), 0) ∧ chkI (wl i (srtL i.links)) = 0
  refine ⟨?_, by rw [chk_ref]; exact h2⟩
  unfold nrmP
  rw [chk_ref, h2]
  show (wl (wl i (srtL i.links)) (srtL (srtL i.links)), (0 : Int)) = _
  rw [srt_idem _ (ref_links i h0).2]
  rfl
end Go.Proofs.YtljegdokbifoiaaDoor.Af
