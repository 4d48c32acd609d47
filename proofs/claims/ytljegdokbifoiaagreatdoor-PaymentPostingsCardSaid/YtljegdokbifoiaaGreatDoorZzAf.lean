/- A walk over a frame of which only a list of slots is known; a region's operations in one order that its edges force or that does not matter. No condition. -/
import Derived.Test.YtljegdokbifoiaaGreatDoorProg
import Derived.Below
import Derived.WalkKit
import Derived.OrdersHeld
import Derived.KernelRfl
import Derived.Laws.Rows
import Derived.Laws.CopyRow
import Derived.IntWalk
import Derived.Laws.AppendOwn
namespace Go.Proofs.YtljegdokbifoiaaGreatDoor.Af
open Go.RowKit

/-! ### what is known of a frame -/
def look : List (Nat × Value) → Nat → Option Value
  | [], _ => none
  | (i, v) :: l, k => cond (Nat.beq i k) (some v) (look l k)

structure Fr (n : Nat) (l : List (Nat × Value)) (a : Act) : Prop where
  dfr : a.defers = []
  size : a.tmps.size = n
  get : ∀ k v, look l k = some v → a.tmps[k]? = some v

def ev (l : List (Nat × Value)) : Operand → Value
  | .tmp k => (look l k).getD undef
  | .const v => v
  | .global g => .pointer (some ⟨g, 0, none⟩)
  | .func f => .func (.func f) #[] #[]

def okx (l : List (Nat × Value)) : Operand → Bool
  | .tmp k => (look l k).isSome
  | _ => true

def oks (l : List (Nat × Value)) (o : Op) : Bool := o.operands.all (okx l) && (match o with | .select .. => false | _ => true)

variable {n : Nat} {l : List (Nat × Value)} {a : Act}

theorem Fr.eval (h : Fr n l a) {x : Operand} (hx : okx l x = true) : a.eval x = ev l x := by
  cases x with
  | tmp k =>
    change (look l k).isSome = true at hx
    cases hk : look l k with
    | none => rw [hk] at hx; cases hx
    | some v =>
      have := h.get k v hk
      simp [Act.eval, ev, hk, this]
  | const v => rfl
  | global g => rfl
  | func f => rfl

theorem Fr.exec (h : Fr n l a) (o : Oper) (hk : oks l o.op = true) : execOp a.eval o = execOp (ev l) o := by
  unfold oks at hk
  rw [Bool.and_eq_true] at hk
  refine execOp_congr o (fun cs b e => ?_) (fun x hx => h.eval ?_)
  · rw [e] at hk; cases hk.2
  · have := hk.1
    rw [Array.all_eq_true_iff_forall_mem] at this
    exact this x hx

theorem Fr.put (h : Fr n l a) (d : Nat) (hd : Nat.blt d n = true) (v : Value) : Fr n ((d, v) :: l) (a.put (some d) v) := by
  have hd' : d < n := by simpa using hd
  refine ⟨h.dfr, by simp [Act.put, h.size], fun k u hk => ?_⟩
  have hs := h.size
  simp only [look] at hk
  cases hb : Nat.beq d k with
  | true =>
    rw [hb] at hk
    have e : d = k := Nat.eq_of_beq_eq_true hb
    subst e
    simp only [cond_true, Option.some.injEq] at hk
    subst hk
    simp [Act.put, hs, hd']
  | false =>
    rw [hb] at hk
    have e : d ≠ k := Nat.ne_of_beq_eq_false hb
    simp only [cond_false] at hk
    have := h.get k u hk
    simp [Act.put, e, this]

theorem Fr.put_none (h : Fr n l a) (v : Value) : Fr n l (a.put none v) := h

/-- Less is known. -/
theorem Fr.sub (h : Fr n l a) (l' : List (Nat × Value)) (hs : ∀ p ∈ l', look l p.1 = some p.2) : Fr n l' a := by
  refine ⟨h.dfr, h.size, fun k v hk => h.get k v ?_⟩
  clear h
  induction l' with
  | nil => cases hk
  | cons p l' ih =>
    obtain ⟨i, u⟩ := p
    simp only [look] at hk
    cases hb : Nat.beq i k with
    | true =>
      rw [hb] at hk
      have e : i = k := Nat.eq_of_beq_eq_true hb
      subst e
      simp only [cond_true, Option.some.injEq] at hk
      subst hk
      exact hs (i, u) (by simp)
    | false =>
      rw [hb] at hk
      exact ih (fun p hp => hs p (by simp [hp])) hk

/-- The same frame, a slot's value told otherwise. -/
theorem Fr.conv (h : Fr n l a) {l' : List (Nat × Value)} (e : l = l') : Fr n l' a := e ▸ h

/-! ### regions -/
section
variable {P : Program} {ops : Array Oper} {Q : Exit → Act → World → Prop} {S : World → Prop} {w : World} {r : List (Nat × Bool)}

/-- The operation waits for all others: so nothing comes up behind it. -/
def lastB (ops : Array Oper) (j : Nat) : Bool := match ops[j]? with | some o => (List.range ops.size).all fun k => Nat.beq k j || o.after.any fun e => Region.binds .any e && Nat.beq e.on k | none => false
def SL (ops : Array Oper) (S : World → Prop) (i : Nat) (w : World) : Prop := lastB ops i = true ∨ S w
theorem lastB_not {i j : Nat} {oj : Oper} (hi : i < ops.size) (hj : ops[j]? = some oj) (hne : j ≠ i) (hno : ∀ e ∈ oj.after, Region.binds .any e = true → e.on ≠ i) : ¬ lastB ops j = true := by
  intro h
  unfold lastB at h
  rw [hj] at h
  have h1 := List.all_eq_true.1 h i (List.mem_range.2 hi)
  rw [Bool.or_eq_true] at h1
  rcases h1 with h1 | h1
  · exact hne (Nat.eq_of_beq_eq_true h1).symm
  · obtain ⟨e, he, h2⟩ := Array.any_eq_true'.1 h1
    rw [Bool.and_eq_true] at h2
    exact hno e he h2.1 (Nat.eq_of_beq_eq_true h2.2)
def wpAnyT (P : Program) (ops : Array Oper) (Q : Exit → Act → World → Prop) (S : World → Prop) : Nat → Array Bool → Act → World → Prop
  | 0, listed, a, w => Region.ready .any ops listed = [] ∧ Q .normal a w
  | fuel + 1, listed, a, w =>
    (Region.ready .any ops listed = [] → Q .normal a w) ∧
    ∀ i ∈ Region.ready .any ops listed, wpOp P ops Q i (fun a' w' => SL ops S i w' ∧ wpAnyT P ops Q S fuel (listed.setIfInBounds i true) a' w') a w
theorem wpAny_of_T : ∀ (fuel : Nat) (listed : Array Bool) (a : Act) (w : World), wpAnyT P ops Q S fuel listed a w → wpAny P .any ops Q fuel listed a w
  | 0, _, _, _, h => h
  | fuel + 1, _, _, _, h => ⟨h.1, fun i hi => wpOp_mono (fun a' w' h' => wpAny_of_T fuel _ a' w' h'.2) (h.2 i hi)⟩
theorem wpAnyT_done {listed : Array Bool} {a : Act} {w : World} (hr : Region.ready .any ops listed = []) (h : Q .normal a w) : ∀ fuel, wpAnyT P ops Q S fuel listed a w
  | 0 => ⟨hr, h⟩
  | _ + 1 => ⟨fun _ => h, by rw [hr]; simp⟩
theorem wpAnyT_first {i : Nat} {oi : Oper} {v : Value} (hi : ops[i]? = some oi) (hsel : ∀ (j : Nat) (o : Oper) cs b, ops[j]? = some o → o.op ≠ .select cs b)
    (hQ : ∀ c a w, Q (.panic c) (a.put oi.dst v) w → Q (.panic c) a w) :
    ∀ (fuel : Nat) (listed : Array Bool) (a : Act) (w : World),
      (∀ j oj, ops[j]? = some oj → j ≠ i → listed.getD j true = false → (∀ e ∈ oj.after, Region.binds .any e = true → e.on ≠ i) → oi.apart ops oj = true) →
      i ∈ Region.ready .any ops listed → YieldsIf P ops S oi v a → S w →
      wpAnyT P ops Q S fuel (listed.setIfInBounds i true) (a.put oi.dst v) w → wpAnyT P ops Q S (fuel + 1) listed a w := by
  have hil : i < ops.size := (Array.getElem?_eq_some_iff.1 hi).1
  intro fuel
  induction fuel with
  | zero =>
    intro listed a w _ hr hy hS H
    refine ⟨fun h => (by rw [h] at hr; cases hr), fun j hj => ?_⟩
    by_cases hji : j = i
    · subst hji; exact hy.wpOp hi hS ⟨.inr hS, H⟩
    · have := ready_mono hj hji
      rw [H.1] at this
      cases this
  | succ fuel ih =>
    intro listed a w hfree hr hy hS H
    refine ⟨fun h => (by rw [h] at hr; cases hr), fun j hj => ?_⟩
    by_cases hji : j = i
    · subst hji; exact hy.wpOp hi hS ⟨.inr hS, H⟩
    · have h1 := H.2 j (ready_mono hj hji)
      obtain ⟨hjun, oj, hoj, hall⟩ := mem_ready.1 hj
      have hnot : ∀ e ∈ oj.after, Region.binds .any e = true → e.on ≠ i := fun e he hb heq => by
        have h1 := hall e he hb
        have h0 := (mem_ready.1 hr).1
        rw [heq] at h1
        rcases Nat.lt_or_ge i listed.size with h' | h'
        · simp [h'] at h0 h1; rw [h0] at h1; cases h1
        · simp [Array.getElem?_eq_none h'] at h1
      have h2 := wpOp_putIf hoj (hfree j oj hoj hji hjun hnot) (fun cs b => hsel i oi cs b hi) (fun cs b => hsel j oj cs b hoj) hQ hy h1
      have hfree' : ∀ k ok, ops[k]? = some ok → k ≠ i → (listed.setIfInBounds j true).getD k true = false →
          (∀ e ∈ ok.after, Region.binds .any e = true → e.on ≠ i) → oi.apart ops ok = true := fun k ok hk hki hun hno => by
        refine hfree k ok hk hki ?_ hno
        by_cases hjk : j = k
        · subst hjk; exact hjun
        · rw [getD_set_ne true hjk] at hun; exact hun
      refine wpOp_mono (fun a' w' h3 => ?_) h2
      have hS' : S w' := h3.2.1.resolve_left (lastB_not hil hoj hji hnot)
      refine ⟨.inr hS', ih (listed.setIfInBounds j true) a' w' hfree' (ready_mono hr (Ne.symm hji)) h3.1 hS' ?_⟩
      rw [Array.setIfInBounds_comm _ _ hji]
      exact h3.2.2

/-- The operations in a given order: 'true': one that only yields a value, in every world that meets S. -/
def wpO (P : Program) (ops : Array Oper) (Q : Exit → Act → World → Prop) (S : World → Prop) : List (Nat × Bool) → Act → World → Prop
  | [], a, w => Q .normal a w
  | (i, true) :: r, a, w => ∃ o v, ops[i]? = some o ∧ YieldsIf P ops S o v a ∧ wpO P ops Q S r (a.put o.dst v) w
  | (i, false) :: r, a, w => wpOp P ops Q i (fun a' w' => SL ops S i w' ∧ wpO P ops Q S r a' w') a w

/-! the check of an order, by masks -/
def orL : List Nat → Nat
  | [] => 0
  | k :: l => Nat.lor (Nat.shiftLeft 1 k) (orL l)
theorem orL_bit (l : List Nat) (k : Nat) : (orL l).testBit k = true ↔ k ∈ l := by
  induction l with
  | nil => simp [orL]
  | cons x l ih =>
    show (Nat.shiftLeft 1 x ||| orL l).testBit k = true ↔ _
    rw [Nat.testBit_or, Bool.or_eq_true, ih, List.mem_cons]
    have : (Nat.shiftLeft 1 x).testBit k = decide (k = x) := by
      show (1 <<< x).testBit k = _
      rw [Nat.one_shiftLeft, Nat.testBit_two_pow]
      simp [eq_comm]
    rw [this, decide_eq_true_eq]
def depL (md : Region.Mode) (o : Oper) : List Nat := (o.after.toList.filter (Region.binds md)).map (·.on)
def dstL (o : Oper) : List Nat := o.dst.toList

structure Dg where
  i : Nat
  f : Bool
  dep : Nat
  lk : Nat
  dst : Nat
def Dg.ok (md : Region.Mode) (ops : Array Oper) (x : Dg) : Bool :=
  match ops[x.i]? with
  | none => false
  | some o => Nat.beq (orL (depL md o)) x.dep && (Nat.beq (orL (o.looksAt ops)) x.lk && Nat.beq (orL (dstL o)) x.dst)
def apartD (x y : Dg) : Bool := Nat.beq (Nat.land x.dst y.lk) 0 && (Nat.beq (Nat.land x.dst y.dst) 0 && Nat.beq (Nat.land y.dst x.lk) 0)
def bitD (m k : Nat) : Bool := Nat.beq (Nat.land (Nat.shiftLeft 1 k) m) 0
def goD : Nat → List Dg → Bool
  | _, [] => true
  | m, x :: r => Nat.beq (Nat.land x.dep m) x.dep && (bitD m x.i &&
      ((cond x.f (r.all fun y => !bitD y.dep x.i || apartD x y) (r.all fun y => !Nat.beq (Nat.land y.dep m) y.dep)) && goD (Nat.lor (Nat.shiftLeft 1 x.i) m) r))
def chkD (md : Region.Mode) (ops : Array Oper) (n : Nat) (ds : List Dg) : Bool :=
  Nat.beq ops.size n && (Nat.ble ds.length n && (ds.all (Dg.ok md ops) && (((List.range n).all fun j => ds.any fun x => Nat.beq x.i j) && goD 0 ds)))

theorem bitD_iff (m k : Nat) : bitD m k = true ↔ m.testBit k = false := by
  unfold bitD
  have e : Nat.land (Nat.shiftLeft 1 k) m = 2 ^ k &&& m := by
    show (1 <<< k) &&& m = _
    rw [Nat.one_shiftLeft]
  rw [e, Nat.beq_eq]
  constructor
  · intro h
    have h2 : (2 ^ k &&& m).testBit k = false := by rw [h]; simp
    rw [Nat.testBit_and, Nat.testBit_two_pow_self] at h2
    simpa using h2
  · intro h
    apply Nat.eq_of_testBit_eq
    intro j
    rw [Nat.testBit_and, Nat.testBit_two_pow]
    by_cases hj : k = j
    · subst hj; simp [h]
    · simp [hj]
theorem sub_iff (a m : Nat) : Nat.beq (Nat.land a m) a = true ↔ ∀ k, a.testBit k = true → m.testBit k = true := by
  rw [Nat.beq_eq]
  show a &&& m = a ↔ _
  constructor
  · intro h k hk
    rw [← h, Nat.testBit_and, Bool.and_eq_true] at hk
    exact hk.2
  · intro h
    apply Nat.eq_of_testBit_eq
    intro k
    rw [Nat.testBit_and]
    cases hk : a.testBit k with
    | false => rfl
    | true => rw [h k hk]; rfl
theorem disj_iff (a m : Nat) : Nat.beq (Nat.land a m) 0 = true ↔ ∀ k, a.testBit k = true → m.testBit k = false := by
  rw [Nat.beq_eq]
  show a &&& m = 0 ↔ _
  constructor
  · intro h k hk
    have h2 : (a &&& m).testBit k = false := by rw [h]; simp
    rw [Nat.testBit_and, hk] at h2
    simpa using h2
  · intro h
    apply Nat.eq_of_testBit_eq
    intro k
    rw [Nat.testBit_and]
    cases hk : a.testBit k with
    | false => simp
    | true => rw [h k hk]; simp

theorem Dg.ok_spec {md : Region.Mode} {x : Dg} (h : x.ok md ops = true) : ∃ o, ops[x.i]? = some o ∧ (∀ k, x.dep.testBit k = true ↔ ∃ e ∈ o.after, Region.binds md e = true ∧ e.on = k) ∧
    (∀ k, x.lk.testBit k = true ↔ k ∈ o.looksAt ops) ∧ (∀ k, x.dst.testBit k = true ↔ o.dst = some k) := by
  unfold Dg.ok at h
  split at h
  · cases h
  · rename_i o ho
    simp only [Bool.and_eq_true, Nat.beq_eq] at h
    refine ⟨o, ho, fun k => ?_, fun k => ?_, fun k => ?_⟩
    · rw [← h.1, orL_bit, depL, List.mem_map]
      simp only [List.mem_filter, Array.mem_toList_iff]
      constructor
      · rintro ⟨e, ⟨h1, h2⟩, h3⟩; exact ⟨e, h1, h2, h3⟩
      · rintro ⟨e, h1, h2, h3⟩; exact ⟨e, ⟨h1, h2⟩, h3⟩
    · rw [← h.2.1, orL_bit]
    · rw [← h.2.2, orL_bit, dstL]; simp

theorem apartD_spec {md : Region.Mode} {x y : Dg} {ox oy : Oper} (hx : x.ok md ops = true) (hy : y.ok md ops = true) (hox : ops[x.i]? = some ox) (hoy : ops[y.i]? = some oy) (h : apartD x y = true) : ox.apart ops oy = true := by
  obtain ⟨o1, h1, -, hl1, hd1⟩ := Dg.ok_spec hx
  obtain ⟨o2, h2, -, hl2, hd2⟩ := Dg.ok_spec hy
  rw [hox] at h1; rw [hoy] at h2
  cases h1; cases h2
  simp only [apartD, Bool.and_eq_true, disj_iff] at h
  obtain ⟨ha, hb, hc⟩ := h
  have nt : ∀ {b : Bool} {p : Prop}, b = false → (b = true ↔ p) → ¬ p := fun hb hp h => by rw [hp.2 h] at hb; cases hb
  unfold Oper.apart
  cases hdx : ox.dst with
  | none =>
    cases hdy : oy.dst with
    | none => rfl
    | some d =>
      have := nt (hc d ((hd2 d).2 hdy)) (hl1 d)
      simp [this]
  | some d =>
    have hd := (hd1 d).2 hdx
    have p1 := nt (ha d hd) (hl2 d)
    have p2 := nt (hb d hd) (hd2 d)
    cases hdy : oy.dst with
    | none => simp [p1]
    | some d' =>
      have p3 := nt (hc d' ((hd2 d').2 hdy)) (hl1 d')
      rw [hdy] at p2
      have p4 : d' ≠ d := fun e => p2 (by rw [e])
      simp [p1, p3, p4]

theorem wpAnyT_of_wpO (hs : Region.noSelect ops = true) (hQ : ∀ c a a' w, Q (.panic c) a' w → Q (.panic c) a w) :
    ∀ (r : List Dg) (fuel : Nat) (m : Nat) (t : Array Bool) (a : Act) (w : World), r.length ≤ fuel → (∀ x ∈ r, x.ok .any ops = true) → goD m r = true →
      (∀ j b, j < ops.size → t.getD j b = m.testBit j) → (∀ j, j < ops.size → m.testBit j = true ∨ ∃ x ∈ r, x.i = j) → t.size = ops.size → (∀ k, m.testBit k = true → k < ops.size) → S w →
      wpO P ops Q S (r.map fun x => (x.i, x.f)) a w → wpAnyT P ops Q S fuel t a w
  | [], fuel, m, t, a, w, _, _, _, ht, hc, _, _, _, h => by
    refine wpAnyT_done ?_ h fuel
    rw [List.eq_nil_iff_forall_not_mem]
    intro j hj
    obtain ⟨h1, o, h2, -⟩ := mem_ready.1 hj
    have hlt : j < ops.size := (Array.getElem?_eq_some_iff.1 h2).1
    rcases hc j hlt with h3 | ⟨x, hx, -⟩
    · rw [ht j true hlt, h3] at h1; cases h1
    · cases hx
  | x :: r, fuel, m, t, a, w, hf, hok, hg, ht, hc, hts, hml, hS, h => by
    obtain ⟨fuel, rfl⟩ : ∃ q, fuel = q + 1 := ⟨fuel - 1, by simp at hf; omega⟩
    simp only [goD, Bool.and_eq_true] at hg
    obtain ⟨g1, g2, g3, g4⟩ := hg
    have hx := hok x (by simp)
    obtain ⟨o, ho, hdep, -, -⟩ := Dg.ok_spec hx
    have hlt : x.i < ops.size := (Array.getElem?_eq_some_iff.1 ho).1
    rw [bitD_iff] at g2
    rw [sub_iff] at g1
    have hready : x.i ∈ Region.ready .any ops t := mem_ready.2 ⟨by rw [ht _ _ hlt]; exact g2, o, ho, fun e he hb => by
      have h1 := g1 e.on ((hdep e.on).2 ⟨e, he, hb, rfl⟩)
      rcases Nat.lt_or_ge e.on ops.size with h2 | h2
      · rw [ht _ _ h2]; exact h1
      · exfalso
        exact absurd (hml e.on h1) (by omega)⟩
    have hok' : ∀ y ∈ r, y.ok .any ops = true := fun y hy => hok y (by simp [hy])
    have ht' : ∀ j b, j < ops.size → (t.setIfInBounds x.i true).getD j b = (Nat.lor (Nat.shiftLeft 1 x.i) m).testBit j := fun j b hj => by
      have e : (Nat.lor (Nat.shiftLeft 1 x.i) m).testBit j = (decide (x.i = j) || m.testBit j) := by
        show ((1 <<< x.i) ||| m).testBit j = _
        rw [Nat.testBit_or, Nat.one_shiftLeft, Nat.testBit_two_pow]
      rw [e]
      by_cases hij : x.i = j
      · subst hij
        simp [hts, hlt]
      · rw [getD_set_ne b hij, ht j b hj]; simp [hij]
    have hc' : ∀ j, j < ops.size → (Nat.lor (Nat.shiftLeft 1 x.i) m).testBit j = true ∨ ∃ y ∈ r, y.i = j := fun j hj => by
      have e : (Nat.lor (Nat.shiftLeft 1 x.i) m).testBit j = (decide (x.i = j) || m.testBit j) := by
        show ((1 <<< x.i) ||| m).testBit j = _
        rw [Nat.testBit_or, Nat.one_shiftLeft, Nat.testBit_two_pow]
      rcases hc j hj with h1 | ⟨y, hy, h2⟩
      · left; rw [e, h1]; simp
      · rcases List.mem_cons.1 hy with rfl | hy
        · left; rw [e]; simp [h2]
        · exact .inr ⟨y, hy, h2⟩
    have hml' : ∀ k, (Nat.lor (Nat.shiftLeft 1 x.i) m).testBit k = true → k < ops.size := fun k hk => by
      have e : (Nat.lor (Nat.shiftLeft 1 x.i) m).testBit k = (decide (x.i = k) || m.testBit k) := by
        show ((1 <<< x.i) ||| m).testBit k = _
        rw [Nat.testBit_or, Nat.one_shiftLeft, Nat.testBit_two_pow]
      rw [e, Bool.or_eq_true, decide_eq_true_eq] at hk
      rcases hk with hk | hk
      · exact hk ▸ hlt
      · exact hml k hk
    have unl : ∀ j oj, ops[j]? = some oj → j ≠ x.i → t.getD j true = false → ∃ y ∈ r, y.i = j := fun j oj hj hne hun => by
      have hjl : j < ops.size := (Array.getElem?_eq_some_iff.1 hj).1
      rw [ht _ _ hjl] at hun
      rcases hc j hjl with h1 | ⟨y, hy, h2⟩
      · rw [h1] at hun; cases hun
      · rcases List.mem_cons.1 hy with rfl | hy
        · exact absurd h2.symm hne
        · exact ⟨y, hy, h2⟩
    cases hfl : x.f with
    | true =>
      rw [hfl] at g3
      have h' : wpO P ops Q S ((x.i, true) :: r.map fun x => (x.i, x.f)) a w := by simpa [hfl] using h
      obtain ⟨o', v, ho', hy, h''⟩ := h'
      rw [ho] at ho'
      cases ho'
      refine wpAnyT_first ho (fun j oj cs b hj => Region.noSelect_spec hs j oj cs b hj) (fun c a w => hQ c a _ w) fuel t a w (fun j oj hj hne hun hno => ?_) hready hy hS
        (wpAnyT_of_wpO hs hQ r fuel _ _ _ _ (by simp at hf; omega) hok' g4 ht' hc' (by simpa using hts) hml' hS h'')
      obtain ⟨y, hy1, hy2⟩ := unl j oj hj hne hun
      have g5 := List.all_eq_true.1 g3 y hy1
      rw [Bool.or_eq_true] at g5
      subst hy2
      rcases g5 with g5 | g5
      · exfalso
        have g6 : y.dep.testBit x.i = true := by
          cases hb : y.dep.testBit x.i with
          | true => rfl
          | false => rw [(bitD_iff _ _).2 hb] at g5; cases g5
        obtain ⟨oy, hoy, hdy, -, -⟩ := Dg.ok_spec (hok' y hy1)
        rw [hj] at hoy
        cases hoy
        obtain ⟨e, he, hb, hon⟩ := (hdy x.i).1 g6
        exact hno e he hb hon
      · exact apartD_spec hx (hok' y hy1) ho hj g5
    | false =>
      rw [hfl] at g3
      have h' : wpOp P ops Q x.i (fun a' w' => SL ops S x.i w' ∧ wpO P ops Q S (r.map fun x => (x.i, x.f)) a' w') a w := by
        have : wpO P ops Q S ((x.i, false) :: r.map fun x => (x.i, x.f)) a w := by simpa [hfl] using h
        exact this
      refine ⟨fun h0 => (by rw [h0] at hready; cases hready), fun j hj => ?_⟩
      have hji : j = x.i := by
        rcases Nat.decEq j x.i with hne | he
        · exfalso
          obtain ⟨h1, oj, hoj, h2⟩ := mem_ready.1 hj
          obtain ⟨y, hy1, hy2⟩ := unl j oj hoj hne h1
          have g5 := List.all_eq_true.1 g3 y hy1
          subst hy2
          have g6 : Nat.beq (Nat.land y.dep m) y.dep = true := by
            rw [sub_iff]
            intro k hk
            obtain ⟨oy, hoy, hdy, -, -⟩ := Dg.ok_spec (hok' y hy1)
            rw [hoj] at hoy
            cases hoy
            obtain ⟨e, he, hb, hon⟩ := (hdy k).1 hk
            have h3 := h2 e he hb
            rw [hon] at h3
            have hkl : k < ops.size := by
              rcases Nat.lt_or_ge k ops.size with h4 | h4
              · exact h4
              · simp [Array.getElem?_eq_none (hts ▸ h4 : t.size ≤ k)] at h3
            rw [ht _ _ hkl] at h3
            exact h3
          rw [g6] at g5
          cases g5
        · exact he
      subst hji
      cases r with
      | nil =>
        refine wpOp_mono (fun a' w' h'' => ⟨h''.1, wpAnyT_done ?_ h''.2 _⟩) h'
        rw [List.eq_nil_iff_forall_not_mem]
        intro j hj
        obtain ⟨h1, o', h2, -⟩ := mem_ready.1 hj
        have hlt' : j < ops.size := (Array.getElem?_eq_some_iff.1 h2).1
        rcases hc' j hlt' with h3 | ⟨x, hx, -⟩
        · rw [ht' j true hlt', h3] at h1; cases h1
        · cases hx
      | cons y r =>
        refine wpOp_mono (fun a' w' h'' => ⟨h''.1, ?_⟩) h'
        have hS' : S w' := by
          refine h''.1.resolve_left ?_
          have hyo := hok' y (by simp)
          obtain ⟨oy, hoy, -⟩ := Dg.ok_spec hyo
          have hyl : y.i < ops.size := (Array.getElem?_eq_some_iff.1 hoy).1
          have g7 := g4
          simp only [goD, Bool.and_eq_true] at g7
          refine lastB_not hyl ho (fun e => ?_) (fun e he hb hon => ?_)
          · have := g7.2.1
            rw [bitD_iff, ← e] at this
            rw [show (Nat.lor (Nat.shiftLeft 1 x.i) m).testBit x.i = true from ?_] at this
            · cases this
            · show ((1 <<< x.i) ||| m).testBit x.i = true
              rw [Nat.testBit_or, Nat.one_shiftLeft, Nat.testBit_two_pow]
              simp
          · have h8 := g1 e.on ((hdep e.on).2 ⟨e, he, hb, rfl⟩)
            have := g7.2.1
            rw [bitD_iff, ← hon] at this
            rw [show (Nat.lor (Nat.shiftLeft 1 x.i) m).testBit e.on = true from ?_] at this
            · cases this
            · show ((1 <<< x.i) ||| m).testBit e.on = true
              rw [Nat.testBit_or, h8, Bool.or_true]
        exact wpAnyT_of_wpO hs hQ (y :: r) fuel _ _ _ _ (by simp at hf ⊢; omega) hok' g4 ht' hc' (by simpa using hts) hml' hS' h''.2

def isReg (c : Code) (d : Bool) : Bool := match c with | .region _ _ b => b == d | _ => false
def rops : Code → Array Oper | .region _ ops _ => ops | _ => #[]

theorem reg_draw {c : Code} (S : World → Prop) (m : Nat) (ds : List Dg) (r : List (Nat × Bool)) (hc : isReg c true = true) (hm : P.follows .mixedOrders = true)
    (hk : (Region.noSelect (rops c) && chkD .any (rops c) m ds) = true) (hr : (ds.map fun x => (x.i, x.f)) = r)
    (hQ : ∀ c a a' w, Q (.panic c) a' w → Q (.panic c) a w) (hS : S w.drew)
    (h : wpO P (rops c) Q S r a w.drew) : c.wp P Q a w := by
  cases c <;> simp only [isReg] at hc <;> try cases hc
  rename_i id ops b
  have e : b = true := by simpa using hc
  subst e
  subst hr
  simp only [rops, chkD, Bool.and_eq_true, Nat.beq_eq, Nat.ble_eq] at hk
  obtain ⟨k1, k2, k3, k4, k5, k6⟩ := hk
  have k4' : ∀ x ∈ ds, x.ok .any ops = true := fun x hx => List.all_eq_true.1 k4 x hx
  refine wp_region_any hm (wpAny_of_T _ _ _ _ (wpAnyT_of_wpO k1 hQ ds _ 0 _ _ _ (by omega) k4' k6 (fun j b hj => by simp [hj]) (fun j hj => .inr ?_) (by simp) (fun k hk => by simp at hk) hS h))
  have := List.all_eq_true.1 k5 j (List.mem_range.2 (by omega))
  obtain ⟨x, hx, he⟩ := List.any_eq_true.1 this
  exact ⟨x, hx, by simpa [Nat.beq_eq] using he⟩

def plainOrd (m : Nat) : List (Nat × Bool) := (List.range m).map (·, false)

theorem wpOps_of_wpO : ∀ (r : List Nat) (a : Act) (w : World), wpO P ops Q (fun _ => True) (r.map (·, false)) a w → wpOps P ops Q r a w
  | [], _, _, h => h
  | i :: r, a, w, h => by
    rw [wpOps_cons]
    exact wpOp_mono (fun a' w' h' => wpOps_of_wpO r a' w' h'.2) h

theorem reg_plain {c : Code} (r : List (Nat × Bool)) (hc : isReg c false = true) (hr : plainOrd (rops c).size = r)
    (h : wpO P (rops c) Q (fun _ => True) r a w) : c.wp P Q a w := by
  cases c <;> simp only [isReg] at hc <;> try cases hc
  rename_i id ops b
  have e : b = false := by simpa using hc
  subst e
  subst hr
  exact wp_region (wpOps_of_wpO _ _ _ h)

/-- What counts of an operation: the slot, the operation, the type, the guard. -/
def shp (o : Option Oper) : Option (Option Tmp × Op × TypeId × Option (Nat × Bool)) := o.map fun o => (o.dst, o.op, o.type, o.guard)
def xop (l : List (Nat × Value)) (op : Op) (ty : TypeId) : Sem Next := execOp (ev l) ⟨none, op, ty, "", #[], none⟩

theorem shp_some {i : Nat} {d : Option Tmp} {op : Op} {ty : TypeId} {g : Option (Nat × Bool)} (h : shp ops[i]? = some (d, op, ty, g)) :
    ∃ o, ops[i]? = some o ∧ o.dst = d ∧ o.op = op ∧ o.type = ty ∧ o.guard = g := by
  unfold shp at h
  cases ho : ops[i]? with
  | none => rw [ho] at h; cases h
  | some o =>
    rw [ho] at h
    simp only [Option.map_some, Option.some.injEq, Prod.mk.injEq] at h
    exact ⟨o, rfl, h.1, h.2.1, h.2.2.1, h.2.2.2⟩

theorem execOp_xop (h : Fr n l a) {o : Oper} {op : Op} {ty : TypeId} (h1 : o.op = op) (h2 : o.type = ty) (hk : oks l op = true) : execOp a.eval o = xop l op ty := by
  subst h1; subst h2
  rw [h.exec o hk]
  unfold xop execOp resolve
  rfl

/-- The guard of an operation, where it is known: is the operation carried out? -/
def gok (ops : Array Oper) (l : List (Nat × Value)) (g : Option (Nat × Bool)) (b : Bool) : Prop :=
  match g with
  | none => b = true
  | some (j, want) => ∃ t v, (ops[j]?).bind (·.dst) = some t ∧ look l t = some v ∧ (match v with | .bool c => (c == want) = b | _ => b = false)

theorem gok_none : gok ops l none true := rfl
theorem gok_some {j t : Nat} {want c b : Bool} (h1 : (ops[j]?).bind (·.dst) = some t) (h2 : look l t = some (.bool c)) (h3 : (c == want) = b) : gok ops l (some (j, want)) b := ⟨t, .bool c, h1, h2, h3⟩
theorem gok_undef {j t : Nat} {want : Bool} (h1 : (ops[j]?).bind (·.dst) = some t) (h2 : look l t = some undef) : gok ops l (some (j, want)) false := ⟨t, undef, h1, h2, rfl⟩

theorem wanted_of_gok (h : Fr n l a) {o : Oper} {g : Option (Nat × Bool)} {b : Bool} (hg : o.guard = g) (hk : gok ops l g b) : Region.wanted o (yielded ops a.tmps) = b := by
  subst hg
  unfold gok at hk
  unfold Region.wanted
  cases hgd : o.guard with
  | none => rw [hgd] at hk; exact hk.symm
  | some p =>
    obtain ⟨j, want⟩ := p
    rw [hgd] at hk
    obtain ⟨t, v, h1, h2, h3⟩ := hk
    have := h.get t _ h2
    simp only [yielded, h1, Option.bind_some, this]
    cases v with
    | bool c =>
      simp only at h3
      rw [← h3]
      cases c <;> cases want <;> rfl
    | _ => simp only at h3; rw [h3]; rfl

/-- An operation that only yields a value. -/
theorem stF {i d : Nat} {op : Op} {ty : TypeId} {g : Option (Nat × Bool)} {v : Value} (hF : Fr n l a) (ho : shp ops[i]? = some (some d, op, ty, g)) (hd : Nat.blt d n = true) (hk : oks l op = true)
    (hg : gok ops l g true) (hr : ∀ w, S w → (xop l op ty).run P w = .ok (.value v) w) (k : ∀ a, Fr n ((d, v) :: l) a → wpO P ops Q S r a w) : wpO P ops Q S ((i, true) :: r) a w := by
  obtain ⟨o, h0, h1, h2, h3, h4⟩ := shp_some ho
  refine ⟨o, v, h0, .inl ⟨wanted_of_gok hF h4 hg, fun w hS => ?_⟩, ?_⟩
  · rw [execOp_xop hF h2 h3 hk]; exact hr w hS
  · rw [h1]; exact k _ (hF.put d hd v)

/-- An operation that is passed over. -/
theorem stFskip {i d : Nat} {op : Op} {ty : TypeId} {g : Option (Nat × Bool)} (hF : Fr n l a) (ho : shp ops[i]? = some (some d, op, ty, g)) (hd : Nat.blt d n = true)
    (hg : gok ops l g false) (k : ∀ a, Fr n ((d, undef) :: l) a → wpO P ops Q S r a w) : wpO P ops Q S ((i, true) :: r) a w := by
  obtain ⟨o, h0, h1, h2, h3, h4⟩ := shp_some ho
  exact ⟨o, undef, h0, .inr ⟨wanted_of_gok hF h4 hg, rfl⟩, by rw [h1]; exact k _ (hF.put d hd undef)⟩

theorem stEskip {i d : Nat} {op : Op} {ty : TypeId} {g : Option (Nat × Bool)} (hF : Fr n l a) (ho : shp ops[i]? = some (some d, op, ty, g)) (hd : Nat.blt d n = true)
    (hg : gok ops l g false) (hS : S w) (k : ∀ a, Fr n ((d, undef) :: l) a → wpO P ops Q S r a w) : wpO P ops Q S ((i, false) :: r) a w := by
  obtain ⟨o, h0, h1, h2, h3, h4⟩ := shp_some ho
  show wpOp P ops Q i _ a w
  unfold wpOp
  simp only [h0, wanted_of_gok hF h4 hg, Bool.false_eq_true, if_false]
  exact ⟨.inr hS, by rw [h1]; exact k _ (hF.put d hd undef)⟩

/-- An operation that yields a value and may turn the world. -/
theorem stE {i d : Nat} {op : Op} {ty : TypeId} {g : Option (Nat × Bool)} {v : Value} {w' : World} (hF : Fr n l a) (ho : shp ops[i]? = some (some d, op, ty, g)) (hd : Nat.blt d n = true) (hk : oks l op = true)
    (hg : gok ops l g true) (hr : (xop l op ty).run P w = .ok (.value v) w') (hS : S w') (k : ∀ a, Fr n ((d, v) :: l) a → wpO P ops Q S r a w') : wpO P ops Q S ((i, false) :: r) a w := by
  obtain ⟨o, h0, h1, h2, h3, h4⟩ := shp_some ho
  show wpOp P ops Q i _ a w
  unfold wpOp
  simp only [h0, wanted_of_gok hF h4 hg, if_true]
  refine .inl ?_
  unfold Oper.wp
  rw [execOp_xop hF h2 h3 hk, hr]
  exact ⟨.inr hS, by rw [h1]; exact k _ (hF.put d hd v)⟩

/-- A store. -/
theorem stS {i : Nat} {op : Op} {ty : TypeId} {g : Option (Nat × Bool)} {w' : World} (hF : Fr n l a) (ho : shp ops[i]? = some (none, op, ty, g)) (hk : oks l op = true)
    (hg : gok ops l g true) (hr : (xop l op ty).run P w = .ok .skip w') (hS : SL ops S i w') (k : ∀ a, Fr n l a → wpO P ops Q S r a w') : wpO P ops Q S ((i, false) :: r) a w := by
  obtain ⟨o, h0, h1, h2, h3, h4⟩ := shp_some ho
  show wpOp P ops Q i _ a w
  unfold wpOp
  simp only [h0, wanted_of_gok hF h4 hg, if_true]
  refine .inl ?_
  unfold Oper.wp
  rw [execOp_xop hF h2 h3 hk, hr]
  exact ⟨hS, by rw [h1]; exact k _ hF⟩

/-- A call of a Go function, by its contract. -/
theorem stC {i d f : Nat} {op : Op} {ty : TypeId} {g : Option (Nat × Bool)} {args : Array Value} {w1 : World} {R : Ending → World → Prop} (hF : Fr n l a) (ho : shp ops[i]? = some (some d, op, ty, g)) (hd : Nat.blt d n = true) (hk : oks l op = true)
    (hg : gok ops l g true) (hr : (xop l op ty).run P w = .ok (.enter f args) w1) (hc : Calls P f args w1 R)
    (k : ∀ e w', R e w' → ∃ v, e = .returned v ∧ S w' ∧ ∀ a, Fr n ((d, v) :: l) a → wpO P ops Q S r a w') : wpO P ops Q S ((i, false) :: r) a w := by
  obtain ⟨o, h0, h1, h2, h3, h4⟩ := shp_some ho
  show wpOp P ops Q i _ a w
  unfold wpOp
  simp only [h0, wanted_of_gok hF h4 hg, if_true]
  refine .inl ?_
  unfold Oper.wp
  rw [execOp_xop hF h2 h3 hk, hr]
  refine Calls.mono hc fun e w' hR => ?_
  obtain ⟨v, rfl, hS, hk⟩ := k e w' hR
  exact ⟨.inr hS, by rw [h1]; exact hk _ (hF.put d hd v)⟩

/-- A call without a result. -/
theorem stC0 {i f : Nat} {op : Op} {ty : TypeId} {g : Option (Nat × Bool)} {args : Array Value} {w1 : World} {R : Ending → World → Prop} (hF : Fr n l a) (ho : shp ops[i]? = some (none, op, ty, g)) (hk : oks l op = true)
    (hg : gok ops l g true) (hr : (xop l op ty).run P w = .ok (.enter f args) w1) (hc : Calls P f args w1 R)
    (k : ∀ e w', R e w' → ∃ v, e = .returned v ∧ S w' ∧ ∀ a, Fr n l a → wpO P ops Q S r a w') : wpO P ops Q S ((i, false) :: r) a w := by
  obtain ⟨o, h0, h1, h2, h3, h4⟩ := shp_some ho
  show wpOp P ops Q i _ a w
  unfold wpOp
  simp only [h0, wanted_of_gok hF h4 hg, if_true]
  refine .inl ?_
  unfold Oper.wp
  rw [execOp_xop hF h2 h3 hk, hr]
  refine Calls.mono hc fun e w' hR => ?_
  obtain ⟨v, rfl, hS, hk⟩ := k e w' hR
  exact ⟨.inr hS, by rw [h1]; exact hk _ hF⟩

theorem wpO_end (h : Q .normal a w) : wpO P ops Q S [] a w := h

/-- Ways meet again: a part of the operations leads to I, and from I on the rest. -/
def CutQ (I : Act → World → Prop) (Q : Exit → Act → World → Prop) : Exit → Act → World → Prop
  | .normal, a, w => I a w
  | e, a, w => Q e a w

theorem wpO_append : ∀ (p : List (Nat × Bool)) (a : Act) (w : World), wpO P ops (CutQ (fun a w => wpO P ops Q S r a w) Q) S p a w → wpO P ops Q S (p ++ r) a w
  | [], _, _, h => h
  | (i, true) :: p, a, w, h => by
    obtain ⟨o, v, h0, h1, h2⟩ := h
    exact ⟨o, v, h0, h1, wpO_append p _ _ h2⟩
  | (i, false) :: p, a, w, h => by
    have h' : wpOp P ops (CutQ (fun a w => wpO P ops Q S r a w) Q) i (fun a' w' => SL ops S i w' ∧ wpO P ops (CutQ (fun a w => wpO P ops Q S r a w) Q) S p a' w') a w := h
    show wpOp P ops Q i (fun a' w' => SL ops S i w' ∧ wpO P ops Q S (p ++ r) a' w') a w
    have h2 := wpOp_mono (K' := fun a' w' => SL ops S i w' ∧ wpO P ops Q S (p ++ r) a' w') (fun a' w' hh => ⟨hh.1, wpO_append p a' w' hh.2⟩) h'
    unfold wpOp at h2 ⊢
    cases ho : ops[i]? with
    | none => rw [ho] at h2; exact h2
    | some o =>
      rw [ho] at h2
      simp only at h2 ⊢
      split
      · rename_i hw
        rw [if_pos hw] at h2
        rcases h2 with h2 | ⟨h2, b, v, h3⟩
        · refine .inl ?_
          unfold Oper.wp at *
          generalize (execOp a.eval o).run P w = x at *
          cases x with
          | ok nx w' =>
            cases nx <;> simp only [Oper.upon] at h2 ⊢ <;>
              first
                | exact h2
                | exact Calls.mono h2 (fun e w'' he => by cases e <;> first | exact he | (obtain ⟨b, v, hb⟩ := he; exact ⟨b, v, hb⟩))
          | halt x w' => cases x <;> simp only [Oper.upon] at h2 ⊢ <;> exact h2
        · exact .inr ⟨h2, b, v, h3⟩
      · rename_i hw
        rw [if_neg hw] at h2
        exact h2

theorem wpO_cut (p q : List (Nat × Bool)) (I : Act → World → Prop) (h : wpO P ops (CutQ I Q) S p a w) (k : ∀ a w, I a w → wpO P ops Q S q a w) : wpO P ops Q S (p ++ q) a w := by
  refine wpO_append p a w ?_
  induction p generalizing a w with
  | nil => exact k a w h
  | cons x p ih =>
    obtain ⟨i, b⟩ := x
    cases b with
    | true =>
      obtain ⟨o, v, h0, h1, h2⟩ := h
      exact ⟨o, v, h0, h1, ih h2⟩
    | false =>
      have h' : wpOp P ops (CutQ I Q) i (fun a' w' => SL ops S i w' ∧ wpO P ops (CutQ I Q) S p a' w') a w := h
      show wpOp P ops (CutQ (fun a w => wpO P ops Q S q a w) Q) i (fun a' w' => SL ops S i w' ∧ wpO P ops (CutQ (fun a w => wpO P ops Q S q a w) Q) S p a' w') a w
      have h2 := wpOp_mono (K' := fun a' w' => SL ops S i w' ∧ wpO P ops (CutQ (fun a w => wpO P ops Q S q a w) Q) S p a' w') (fun a' w' hh => ⟨hh.1, ih hh.2⟩) h'
      unfold wpOp at h2 ⊢
      cases ho : ops[i]? with
      | none => rw [ho] at h2; exact h2
      | some o =>
        rw [ho] at h2
        simp only at h2 ⊢
        split
        · rename_i hw
          rw [if_pos hw] at h2
          rcases h2 with h2 | ⟨h2, b, v, h3⟩
          · refine .inl ?_
            unfold Oper.wp at *
            generalize (execOp a.eval o).run P w = x at *
            cases x with
            | ok nx w' =>
              cases nx <;> simp only [Oper.upon] at h2 ⊢ <;>
                first
                  | exact h2
                  | exact Calls.mono h2 (fun e w'' he => by cases e <;> first | exact he | (obtain ⟨b, v, hb⟩ := he; exact ⟨b, v, hb⟩))
            | halt x w' => cases x <;> simp only [Oper.upon] at h2 ⊢ <;> exact h2
          · exact .inr ⟨h2, b, v, h3⟩
        · rename_i hw
          rw [if_neg hw] at h2
          exact h2
end

/-! ### code -/
section
variable {P : Program} {Q : Exit → Act → World → Prop} {w : World}
def cl : Code → Code | .seq a _ => a | c => c
def cr : Code → Code | .seq _ b => b | c => c
def isSeq : Code → Bool | .seq _ _ => true | _ => false
def cthn : Code → Code | .cond _ t _ => t | c => c
def cels : Code → Code | .cond _ _ e => e | c => c
def cdx : Code → Operand | .cond x _ _ => x | _ => .func 0
def isCond (c : Code) (x : Operand) : Bool := match c, x with | .cond (.tmp t) _ _, .tmp u => Nat.beq t u | _, _ => false
def cbody : Code → Code | .block _ b => b | .loop b => b | .scope b => b | c => c
def isBlock (c : Code) (id : Nat) : Bool := match c with | .block i _ => Nat.beq i id | _ => false
def isLoop : Code → Bool | .loop _ => true | _ => false
def isRet : Code → Bool | .ret => true | _ => false
def isSkip : Code → Bool | .skip => true | _ => false
def isExit (c : Code) (id : Nat) : Bool := match c with | .exit i => Nat.beq i id | _ => false

theorem c_seq {c : Code} (hc : isSeq c = true) (h : (cl c).wp P (Exit.then ((cr c).wp P Q) Q) a w) : c.wp P Q a w := by
  cases c <;> simp only [isSeq] at hc <;> try cases hc
  exact wp_seq h

theorem c_cond {c : Code} {t : Nat} {b : Bool} (hF : Fr n l a) (hc : isCond c (.tmp t) = true) (hb : look l t = some (.bool b)) (h1 : b = true → (cthn c).wp P Q a w) (h2 : b = false → (cels c).wp P Q a w) : c.wp P Q a w := by
  cases c <;> simp only [isCond] at hc <;> try cases hc
  rename_i x y z
  cases x <;> simp only at hc <;> try cases hc
  rename_i u
  have e : u = t := Nat.eq_of_beq_eq_true hc
  subst e
  have hg := hF.get _ _ hb
  exact wp_cond_split (t := b) (by simp [Act.eval, hg]) h1 h2

theorem c_block {c : Code} (id : Nat) (hc : isBlock c id = true) (h : (cbody c).wp P (Exit.inBlock id Q) a w) : c.wp P Q a w := by
  cases c <;> simp only [isBlock] at hc <;> try cases hc
  rename_i i b
  have e : i = id := Nat.eq_of_beq_eq_true hc
  subst e
  exact wp_block h

theorem c_loop {c : Code} (hc : isLoop c = true) (I : Act → World → Prop) (μ : Act → World → Nat) (h0 : I a w)
    (h : ∀ a w, I a w → (cbody c).wp P (Exit.then (fun a' w' => I a' w' ∧ μ a' w' < μ a w) Q) a w) : c.wp P Q a w := by
  cases c <;> simp only [isLoop] at hc <;> try cases hc
  exact wp_loop I μ h0 h

theorem c_ret {c : Code} (hc : isRet c = true) (h : Q .ret a w) : c.wp P Q a w := by
  cases c <;> simp only [isRet] at hc <;> try cases hc
  exact wp_ret h

theorem c_skip {c : Code} (hc : isSkip c = true) (h : Q .normal a w) : c.wp P Q a w := by
  cases c <;> simp only [isSkip] at hc <;> try cases hc
  exact wp_skip h

theorem c_exit {c : Code} (id : Nat) (hc : isExit c id = true) (h : Q (.exit id) a w) : c.wp P Q a w := by
  cases c <;> simp only [isExit] at hc <;> try cases hc
  rename_i i
  have e : i = id := Nat.eq_of_beq_eq_true hc
  subst e
  exact wp_exit h

/-- Ways meet again behind a piece of code. -/
theorem c_cut {c : Code} (I : Act → World → Prop) (h : c.wp P (CutQ I Q) a w) (k : ∀ a w, I a w → Q .normal a w) : c.wp P Q a w :=
  Code.wp_mono (fun e a w q => by cases e <;> first | exact q | exact k _ _ q) h

def bodyOf (f : Func) : Code := f.body.getD .skip

theorem enter {f : Nat} {fn : Func} {args : Array Value} {R : Ending → World → Prop} (hf : P.funcs[f]? = some fn) (hb : fn.body.isSome = true)
    (h : ∀ a, Fr fn.ntmps (args.toList.zipIdx.map fun p => (p.2, p.1)) a → (bodyOf fn).wp P (bodyPost P fn R) a w) (hn : Nat.ble args.size fn.ntmps = true) : Calls P f args w R := by
  cases hc : fn.body with
  | none => rw [hc] at hb; cases hb
  | some c =>
    refine calls_of_wp hf hc ?_
    have e : bodyOf fn = c := by simp [bodyOf, hc]
    rw [← e]
    have hn' : args.size ≤ fn.ntmps := by simpa [Nat.ble_eq] using hn
    refine h _ ⟨rfl, by simp; omega, fun k v hk => ?_⟩
    have key : ∀ (xs : List Value) (s : Nat), look (xs.zipIdx s |>.map fun p => (p.2, p.1)) k = some v → s ≤ k ∧ xs[k - s]? = some v := by
      intro xs
      induction xs with
      | nil => intro s hs; cases hs
      | cons x xs ih =>
        intro s hs
        simp only [List.zipIdx_cons, List.map_cons, look] at hs
        cases hb : Nat.beq s k with
        | true =>
          rw [hb] at hs
          have e : s = k := Nat.eq_of_beq_eq_true hb
          subst e
          simp only [cond_true, Option.some.injEq] at hs
          subst hs
          simp
        | false =>
          rw [hb] at hs
          have e : s ≠ k := Nat.ne_of_beq_eq_false hb
          obtain ⟨h1, h2⟩ := ih (s + 1) hs
          refine ⟨by omega, ?_⟩
          rw [show k - s = (k - (s + 1)) + 1 by omega, List.getElem?_cons_succ]
          exact h2
    obtain ⟨-, h2⟩ := key args.toList 0 hk
    have h3 : args[k]? = some v := by simpa using h2
    have hlt : k < args.size := by
      rcases Nat.lt_or_ge k args.size with h | h
      · exact h
      · rw [Array.getElem?_eq_none h] at h3; cases h3
    rw [Array.getElem?_append_left hlt]
    exact h3

/-- One result in a slot. -/
theorem ret1 {fn : Func} {R : Ending → World → Prop} {t : Nat} {v : Value} (hF : Fr n l a) (hr : fn.results = #[.tmp t]) (hl : look l t = some v) (h : R (.returned v) w) : bodyPost P fn R .ret a w := by
  refine bodyPost_ret (results_tmp hr _ _ _) hF.dfr ?_
  have := hF.get _ _ hl
  simpa [this] using h

theorem ret2 {fn : Func} {R : Ending → World → Prop} {t u : Nat} {v v' : Value} (hF : Fr n l a) (hr : fn.results = #[.tmp t, .tmp u]) (hl : look l t = some v) (hl' : look l u = some v')
    (h : R (.returned (.tuple #[v, v'])) w) : bodyPost P fn R .ret a w := by
  refine bodyPost_ret (results_tmp2 hr _ _ _) hF.dfr ?_
  have h1 := hF.get _ _ hl
  have h2 := hF.get _ _ hl'
  simpa [h1, h2] using h
end

/-! ### worlds: blocks that are known whole, and nothing older turned -/
structure Bx (w0 : World) (bs : List (Nat × Obj)) (w : World) : Prop where
  blk : ∀ (i : Nat) (p : Nat × Obj), bs[i]? = some p → w.heap[p.1]? = some p.2
  bel : Below w0.heap.size w0 w
  ge : ∀ (i : Nat) (p : Nat × Obj), bs[i]? = some p → w0.heap.size ≤ p.1
  nd : ∀ (i j : Nat) (p q : Nat × Obj), bs[i]? = some p → bs[j]? = some q → p.1 = q.1 → i = j

theorem blk_size {w : World} {b : Nat} {o : Obj} (h : w.heap[b]? = some o) : b < w.heap.size := by
  rcases Nat.lt_or_ge b w.heap.size with h' | h'
  · exact h'
  · rw [Array.getElem?_eq_none h'] at h; cases h

section
variable {w0 w w' : World} {bs : List (Nat × Obj)}
theorem Bx.refl (w : World) : Bx w [] w := ⟨fun _ _ h => by simp at h, Below.refl _ _, fun _ _ h => by simp at h, fun _ _ _ _ h => by simp at h⟩
theorem Bx.drew (h : Bx w0 bs w) : Bx w0 bs w.drew := ⟨h.blk, h.bel.drew, h.ge, h.nd⟩
theorem Bx.call (h : Bx w0 bs w) (hb : Below w.heap.size w w') : Bx w0 bs w' :=
  ⟨fun i p hp => (hb.block p.1 (blk_size (h.blk i p hp))).trans (h.blk i p hp), h.bel.trans (hb.mono h.bel.size), h.ge, h.nd⟩
theorem Bx.at (h : Bx w0 bs w) (i : Nat) {b : Nat} {o : Obj} (hi : bs[i]? = some (b, o)) : w.heap[b]? = some o := h.blk i (b, o) hi
theorem Bx.alloc (h : Bx w0 bs w) (o : Obj) : Bx w0 ((w.heap.size, o) :: bs) (w.alloc o) := by
  refine ⟨fun i p hp => ?_, h.bel.alloc h.bel.size o, fun i p hp => ?_, fun i j p q hp hq e => ?_⟩
  · cases i with
    | zero =>
      simp only [List.getElem?_cons_zero, Option.some.injEq] at hp
      subst hp
      exact heap_alloc_new w o
    | succ i =>
      rw [List.getElem?_cons_succ] at hp
      exact (Below.heap_alloc w o p.1 (blk_size (h.blk i p hp))).trans (h.blk i p hp)
  · cases i with
    | zero =>
      simp only [List.getElem?_cons_zero, Option.some.injEq] at hp
      subst hp
      exact h.bel.size
    | succ i =>
      rw [List.getElem?_cons_succ] at hp
      exact h.ge i p hp
  · cases i with
    | zero =>
      cases j with
      | zero => rfl
      | succ j =>
        simp only [List.getElem?_cons_zero, Option.some.injEq] at hp
        rw [List.getElem?_cons_succ] at hq
        subst hp
        have := blk_size (h.blk j q hq)
        simp only at e
        omega
    | succ i =>
      rw [List.getElem?_cons_succ] at hp
      cases j with
      | zero =>
        simp only [List.getElem?_cons_zero, Option.some.injEq] at hq
        subst hq
        have := blk_size (h.blk i p hp)
        simp only at e
        omega
      | succ j =>
        rw [List.getElem?_cons_succ] at hq
        rw [h.nd i j p q hp hq e]
theorem Bx.tail {p : Nat × Obj} (h : Bx w0 (p :: bs) w) : Bx w0 bs w :=
  ⟨fun i q hq => h.blk (i + 1) q (by rw [List.getElem?_cons_succ]; exact hq), h.bel, fun i q hq => h.ge (i + 1) q (by rw [List.getElem?_cons_succ]; exact hq),
   fun i j q r hq hr e => by have := h.nd (i + 1) (j + 1) q r (by rw [List.getElem?_cons_succ]; exact hq) (by rw [List.getElem?_cons_succ]; exact hr) e; omega⟩
theorem Bx.set (h : Bx w0 bs w) (k : Nat) {b : Nat} {cs cs' : Array Value} {T : TypeId} (hb : bs[k]? = some (b, .cells cs T (0, 0))) :
    Bx w0 (bs.set k (b, .cells cs' T (0, 0))) (w.setRow b cs') := by
  have hk : k < bs.length := (List.getElem?_eq_some_iff.1 hb).1
  have h0 := h.blk k _ hb
  have hge := h.ge k _ hb
  have look : ∀ (i : Nat) (p : Nat × Obj), (bs.set k (b, .cells cs' T (0, 0)))[i]? = some p → (i = k ∧ p = (b, .cells cs' T (0, 0))) ∨ (i ≠ k ∧ bs[i]? = some p) := fun i p hp => by
    by_cases hik : k = i
    · subst hik
      rw [List.getElem?_set_self hk, Option.some.injEq] at hp
      exact .inl ⟨rfl, hp.symm⟩
    · rw [List.getElem?_set_ne hik] at hp
      exact .inr ⟨Ne.symm hik, hp⟩
  refine ⟨fun i p hp => ?_, ?_, fun i p hp => ?_, fun i j p q hp hq e => ?_⟩
  · rcases look i p hp with ⟨rfl, rfl⟩ | ⟨hik, hp⟩
    · exact setRow_heap w b cs cs' T (0, 0) h0
    · have hne : p.1 ≠ b := fun e => hik (h.nd i k p _ hp hb e)
      rw [setRow_other w b p.1 cs' hne]
      exact h.blk i p hp
  · refine h.bel.trans ⟨rfl, rfl, rfl, by simp [World.setRow], fun j hj => ?_⟩
    have : j ≠ b := by simp only at hge; omega
    exact setRow_other w b j cs' this
  · rcases look i p hp with ⟨rfl, rfl⟩ | ⟨_, hp⟩
    · exact hge
    · exact h.ge i p hp
  · rcases look i p hp with ⟨rfl, rfl⟩ | ⟨hik, hp'⟩
    · rcases look j q hq with ⟨rfl, rfl⟩ | ⟨hjk, hq'⟩
      · rfl
      · exact (h.nd j i q _ hq' hb e.symm).symm
    · rcases look j q hq with ⟨rfl, rfl⟩ | ⟨hjk, hq'⟩
      · exact h.nd i j p _ hp' hb e
      · exact h.nd i j p q hp' hq' e
end

/-! ### memory that is read: a row of cells from an address on -/
def Rd (w : World) (A : Option Addr) (cs : List Value) : Prop := ∀ j u, cs[j]? = some u → ∃ ad, A = some ad ∧ ad.block < w.heap.size ∧ w.cell? (ad.add j) = some u
theorem add_block (ad : Addr) (j : Nat) : (ad.add j).block = ad.block := by unfold Addr.add; split <;> rfl
theorem Rd.below {w w' : World} {A : Option Addr} {cs : List Value} (h : Rd w A cs) (hb : Below w.heap.size w w') : Rd w' A cs := fun j u hj => by
  obtain ⟨ad, h1, h2, h3⟩ := h j u hj
  exact ⟨ad, h1, Nat.lt_of_lt_of_le h2 hb.size, (hb.cell (p := ad.add j) (by rw [add_block]; exact h2)).trans h3⟩
theorem Rd.nil (w : World) (A : Option Addr) : Rd w A [] := fun j u hj => by simp at hj
theorem Rd.of_blk {w : World} {b : Nat} {cs : Array Value} {T : TypeId} {fr : Nat × Nat} (h : w.heap[b]? = some (.cells cs T fr)) : Rd w (some ⟨b, 0, none⟩) cs.toList := fun j u hj => by
  refine ⟨_, rfl, blk_size h, ?_⟩
  have hadd : (⟨b, 0, none⟩ : Addr).add j = ⟨b, j, none⟩ := by unfold Addr.add; split <;> simp_all
  rw [hadd, cell_of_row w b j cs T fr h]
  simpa using hj

/-! ### what operations come to -/
section
variable {P : Program} {w : World} {t ty : TypeId} {x y : Operand}
def scalT (P : Program) (t : TypeId) : Bool := match P.underlying t with | some (.struct _) | some (.array _ _) | none => false | _ => true
def aggT (P : Program) (t m : Nat) : Bool := (match P.underlying t with | some (.struct _) | some (.array _ _) => true | _ => false) && (match P.info? t with | some i => Nat.beq i.size m | none => false)
def szT (P : Program) (t m : Nat) : Bool := match P.info? t with | some i => Nat.beq i.size m | none => false

theorem run_isAgg_false {t : TypeId} (h : scalT P t = true) (w : World) : (isAgg t).run P w = .ok false w := by
  unfold scalT at h
  unfold isAgg
  cases hu : P.underlying t with
  | none => rw [hu] at h; cases h
  | some d =>
    rw [Sem.run_bind, run_underlying hu w]
    rw [hu] at h
    cases d <;> first | (cases h; done) | (simp; done)
theorem run_isAgg_true {t m : Nat} (h : aggT P t m = true) (w : World) : (isAgg t).run P w = .ok true w := by
  unfold aggT at h
  rw [Bool.and_eq_true] at h
  unfold isAgg
  cases hu : P.underlying t with
  | none => rw [hu] at h; cases h.1
  | some d =>
    rw [Sem.run_bind, run_underlying hu w]
    rw [hu] at h
    cases d <;> first | (cases h.1; done) | (simp; done)
theorem aggT_sz {t m : Nat} (h : aggT P t m = true) : szT P t m = true := by
  unfold aggT at h
  rw [Bool.and_eq_true] at h
  exact h.2
theorem run_sizeOf_sz {t m : Nat} (h : szT P t m = true) (w : World) : (sizeOf t).run P w = .ok m w := by
  unfold szT at h
  cases hi : P.info? t with
  | none => rw [hi] at h; cases h
  | some i =>
    rw [hi] at h
    have e : i.size = m := Nat.eq_of_beq_eq_true h
    simp [sizeOf, typeInfo, hi, e]

/-- A cell is loaded. -/
theorem r_load {a : Addr} {v : Value} (hx : ev l x = .pointer (some a)) (hs : scalT P t = true) (hc : w.cell? a = some v) : (xop l (.load t x) ty).run P w = .ok (.value v) w := by
  unfold xop execOp
  simp only [hx, Instr.loadAt, Instr.sureAddr, loadVar, Sem.run_bind, Sem.run_pure, Result.andThen_ok, run_isAgg_false hs w, Bool.false_eq_true, if_false]
  have : (load a).run P w = .ok v w := by simp [load, Sem.run, hc]
  rw [this]
  rfl

/-- A struct is loaded out of a row of cells. -/
theorem r_loadA {a : Addr} {vs : List Value} (hx : ev l x = .pointer (some a)) (hs : aggT P t vs.length = true) (hc : ∀ j u, vs[j]? = some u → w.cell? (a.add j) = some u) : (xop l (.load t x) ty).run P w = .ok (.value (.agg vs.toArray)) w := by
  unfold xop execOp
  simp only [hx, Instr.loadAt, Instr.sureAddr, loadVar, Sem.run_bind, Sem.run_pure, Result.andThen_ok, run_isAgg_true hs w, if_true, run_sizeOf_sz (aggT_sz hs) w, run_loadCells_list w a vs hc]

/-- .. out of a block that is known whole. -/
theorem r_loadB {b o : Nat} {cs : Array Value} {T : TypeId} {fr : Nat × Nat} {vs : List Value} (hx : ev l x = .pointer (some ⟨b, o, none⟩)) (hs : aggT P t vs.length = true) (hb : w.heap[b]? = some (.cells cs T fr))
    (hv : ∀ j, j < vs.length → cs[o + j]? = vs[j]?) : (xop l (.load t x) ty).run P w = .ok (.value (.agg vs.toArray)) w := by
  refine r_loadA hx hs fun j u hj => ?_
  have hadd : (⟨b, o, none⟩ : Addr).add j = ⟨b, o + j, none⟩ := by unfold Addr.add; split <;> simp_all
  rw [hadd, cell_of_row w b (o + j) cs T fr hb, hv j (List.getElem?_eq_some_iff.1 hj).1]
  exact hj

/-- A value is stored into a block that is known whole. -/
theorem r_store {b o : Nat} {cs : Array Value} {T : TypeId} {vs : List Value} (hx : ev l x = .pointer (some ⟨b, o, none⟩)) (hy : (ev l y).cells.toList = vs) (hs : szT P t vs.length = true) (hb : w.heap[b]? = some (.cells cs T (0, 0)))
    (ho : Nat.ble (o + vs.length) cs.size = true) (h1 : vs.all (·.oneCell') = true) : (xop l (.store t x y) ty).run P w = .ok .skip (w.setRow b (cs.toList.take o ++ vs ++ cs.toList.drop (o + vs.length)).toArray) := by
  unfold xop execOp
  have hsz : (ev l y).cells.size = vs.length := by rw [← hy]; simp
  have h2 := run_storeCells_at (P := P) b o T vs 0 cs w hb (by simpa [Nat.ble_eq] using ho) (fun v hv => List.all_eq_true.1 h1 v hv)
  simp only [Nat.add_zero] at h2
  simp only [hx, Instr.storeAt, Instr.sureAddr, storeVar, Sem.run_bind, Sem.run_pure, Result.andThen_ok, run_sizeOf_sz hs w, hsz, ne_eq, not_true_eq_false, if_false, hy, h2]

/-- 'c && ..' and 'c || ..', where the second part ran only if it had to. -/
theorem r_and {u v : Nat} {c d : Bool} (h1 : look l u = some (.bool c)) (h2 : c = true → look l v = some (.bool d)) : (xop l (.pick (.tmp u) (.tmp v) (.const (.bool false))) ty).run P w = .ok (.value (.bool (c && d))) w := by
  have e : (xop l (.pick (.tmp u) (.tmp v) (.const (.bool false))) ty).run P w = ((asBool ((look l u).getD undef)).bind fun b => Sem.pure (.value (if b = true then (look l v).getD undef else .bool false))).run P w := rfl
  rw [e, h1]
  cases c with
  | true => rw [h2 rfl]; rfl
  | false => rfl
theorem r_or {u v : Nat} {c d : Bool} (h1 : look l u = some (.bool c)) (h2 : c = false → look l v = some (.bool d)) : (xop l (.pick (.tmp u) (.const (.bool true)) (.tmp v)) ty).run P w = .ok (.value (.bool (c || d))) w := by
  have e : (xop l (.pick (.tmp u) (.const (.bool true)) (.tmp v)) ty).run P w = ((asBool ((look l u).getD undef)).bind fun b => Sem.pure (.value (if b = true then .bool true else (look l v).getD undef))).run P w := rfl
  rw [e, h1]
  cases c with
  | true => rfl
  | false => rw [h2 rfl]; rfl
end

/-! ### steps that lay blocks, and stores -/
section
variable {P : Program} {ops : Array Oper} {Q : Exit → Act → World → Prop} {S : World → Prop} {w w0 : World} {r : List (Nat × Bool)} {bs : List (Nat × Obj)}
theorem stA {i d : Nat} {op : Op} {ty : TypeId} {g : Option (Nat × Bool)} {mk : Nat → Value} {o : Obj} (hF : Fr n l a) (ho : shp ops[i]? = some (some d, op, ty, g)) (hd : Nat.blt d n = true) (hk : oks l op = true)
    (hg : gok ops l g true) (hr : ∀ w, (xop l op ty).run P w = .ok (.value (mk w.heap.size)) (w.alloc o)) (hB : Bx w0 bs w) (hS : ∀ w' b, Bx w0 ((b, o) :: bs) w' → S w')
    (k : ∀ b w', Bx w0 ((b, o) :: bs) w' → Below w.heap.size w w' → ∀ a, Fr n ((d, mk b) :: l) a → wpO P ops Q S r a w') : wpO P ops Q S ((i, false) :: r) a w :=
  stE hF ho hd hk hg (hr w) (hS _ _ (hB.alloc o)) (k _ _ (hB.alloc o) ((Below.refl _ w).alloc (Nat.le_refl _) o))

theorem stW {i : Nat} {op : Op} {ty : TypeId} {g : Option (Nat × Bool)} {b j : Nat} {cs cs' : Array Value} {T : TypeId} (hF : Fr n l a) (ho : shp ops[i]? = some (none, op, ty, g)) (hk : oks l op = true)
    (hg : gok ops l g true) (hB : Bx w0 bs w) (hb : bs[j]? = some (b, .cells cs T (0, 0))) (hr : (xop l op ty).run P w = .ok .skip (w.setRow b cs')) (hS : ∀ w', Bx w0 (bs.set j (b, .cells cs' T (0, 0))) w' → S w')
    (k : ∀ w', Bx w0 (bs.set j (b, .cells cs' T (0, 0))) w' → ∀ a, Fr n l a → wpO P ops Q S r a w') : wpO P ops Q S ((i, false) :: r) a w :=
  stS hF ho hk hg hr (.inr (hS _ (hB.set j hb))) (k _ (hB.set j hb))
end

/-! ### small words for printed walks -/
section
variable {P : Program} {Q : Exit → Act → World → Prop} {K : Act → World → Prop} {I : Act → World → Prop} {w w0 : World} {bs : List (Nat × Obj)} {t ty : TypeId} {x y : Operand}
theorem then_n (h : K a w) : Exit.then K Q .normal a w := h
theorem then_r (h : Q .ret a w) : Exit.then K Q .ret a w := h
theorem then_e {id : Nat} (h : Q (.exit id) a w) : Exit.then K Q (.exit id) a w := h
theorem inB_n {i : Nat} (h : Q .normal a w) : Exit.inBlock i Q .normal a w := h
theorem inB_r {i : Nat} (h : Q .ret a w) : Exit.inBlock i Q .ret a w := h
theorem inB_hit {i : Nat} (h : Q .normal a w) : Exit.inBlock i Q (.exit i) a w := by simp only [Exit.inBlock, if_true]; exact h
theorem inB_miss {i id : Nat} (hne : Nat.beq id i = false) (h : Q (.exit id) a w) : Exit.inBlock i Q (.exit id) a w := by simp only [Exit.inBlock]; rw [if_neg (Nat.ne_of_beq_eq_false hne)]; exact h
theorem cut_n (h : I a w) : CutQ I Q .normal a w := h
theorem cut_r (h : Q .ret a w) : CutQ I Q .ret a w := h
theorem cut_e {id : Nat} (h : Q (.exit id) a w) : CutQ I Q (.exit id) a w := h
theorem cT {α : Type} {c : Bool} {p q : α} (h : c = true) : cond c p q = p := by rw [h]; rfl
theorem cF {α : Type} {c : Bool} {p q : α} (h : c = false) : cond c p q = q := by rw [h]; rfl
theorem ret_eq {v v' : Value} (h : v = v') : Ending.returned v = .returned v' := by rw [h]

def subL (l : List (Nat × Value)) : List (Nat × Value) → Prop
  | [] => True
  | p :: r => look l p.1 = some p.2 ∧ subL l r
theorem Fr.keep (h : Fr n l a) (l' : List (Nat × Value)) (hs : subL l l') : Fr n l' a := by
  refine h.sub l' ?_
  clear h
  induction l' with
  | nil => intro p hp; cases hp
  | cons q r ih =>
    intro p hp
    rcases List.mem_cons.1 hp with rfl | hp
    · exact hs.1
    · exact ih hs.2 p hp

def intAt (a : Act) (k : Nat) : Int := intOf (a.tmps[k]?.getD undef)
theorem Fr.int {k : Nat} {kd : IntKind} {z : Int} (h : Fr n l a) (hl : look l k = some (.int kd z)) : intAt a k = z := by
  have := h.get _ _ hl
  simp [intAt, this, intOf]

def Turned (w w' : World) (b : Nat) (T : TypeId) : Prop := ∃ cs cs' : Array Value, w.heap[b]? = some (.cells cs T (0, 0)) ∧ w' = w.setRow b cs'
theorem own_turned {w w' : World} {b T base e size nn : Nat} {v : Value} {xs : List Value} (h : w.ownsRow base e size v nn xs) (ht : Turned w w' b T) (hne : Nat.beq T e = false) : w'.ownsRow base e size v nn xs := by
  obtain ⟨cs, cs', h1, rfl⟩ := ht
  refine h.kept (row := some b) ⟨rfl, rfl, rfl, by simp [World.setRow], fun k _ hk => setRow_other w b k cs' fun e' => hk (by rw [e'])⟩ (.inr ?_)
  obtain ⟨_, h2⟩ := h
  rcases h2 with ⟨rfl, -⟩ | ⟨g, cap, cur, rfl, -, hh, -⟩
  · simp [Value.ownBlock]
  · intro hg
    simp only [Value.ownBlock, Option.some.injEq] at hg
    rw [hg, h1] at hh
    simp only [Option.some.injEq, Obj.cells.injEq] at hh
    rw [hh.2.1] at hne
    simp at hne

def bcell (bs : List (Nat × Obj)) (j o : Nat) : Option (Nat × Value) :=
  match bs[j]? with
  | some (b, .cells cs _ _) => (cs[o]?).map fun v => (b, v)
  | _ => none
def bcells (bs : List (Nat × Obj)) (j o m : Nat) : Option (Nat × List Value) :=
  match bs[j]? with
  | some (b, .cells cs _ _) => some (b, (cs.toList.drop o).take m)
  | _ => none

/-- A cell of a known block is loaded. -/
theorem r_loadC (hB : Bx w0 bs w) (j o : Nat) {b : Nat} {v : Value} (h : bcell bs j o = some (b, v)) (hx : ev l x = .pointer (some ⟨b, o, none⟩)) (hs : scalT P t = true) : (xop l (.load t x) ty).run P w = .ok (.value v) w := by
  unfold bcell at h
  split at h
  · rename_i b' cs T fr hb
    cases hc : cs[o]? with
    | none => rw [hc] at h; cases h
    | some u =>
      rw [hc] at h
      simp only [Option.map_some, Option.some.injEq, Prod.mk.injEq] at h
      obtain ⟨rfl, rfl⟩ := h
      exact r_load hx hs ((cell_of_row w b' o cs T fr (hB.at j hb)).trans hc)
  · cases h
/-- A struct is loaded out of a known block. -/
theorem r_loadS (hB : Bx w0 bs w) (j o : Nat) {b : Nat} {vs : List Value} (h : bcells bs j o vs.length = some (b, vs)) (hx : ev l x = .pointer (some ⟨b, o, none⟩)) (hs : aggT P t vs.length = true) : (xop l (.load t x) ty).run P w = .ok (.value (.agg vs.toArray)) w := by
  unfold bcells at h
  split at h
  · rename_i b' cs T fr hb
    simp only [Option.some.injEq, Prod.mk.injEq] at h
    obtain ⟨rfl, h2⟩ := h
    refine r_loadB hx hs (hB.at j hb) fun i hi => ?_
    rw [← h2, List.getElem?_take, if_pos (by omega), List.getElem?_drop]
    simp
  · cases h
/-- A store into a known block. -/
theorem stWs {ops : Array Oper} {S : World → Prop} {r : List (Nat × Bool)} {i : Nat} {ty t : TypeId} {g : Option (Nat × Bool)} (j o : Nat) {b : Nat} {cs cs' vs : List Value} {T : TypeId} (hF : Fr n l a) (ho : shp ops[i]? = some (none, .store t x y, ty, g)) (hk : oks l (.store t x y) = true)
    (hg : gok ops l g true) (hB : Bx w0 bs w) (hb : bs[j]? = some (b, .cells cs.toArray T (0, 0))) (hx : ev l x = .pointer (some ⟨b, o, none⟩)) (hy : (ev l y).cells.toList = vs) (hs : szT P t vs.length = true)
    (hl : Nat.ble (o + vs.length) cs.length = true) (h1 : vs.all (·.oneCell') = true) (hcs : cs.take o ++ vs ++ cs.drop (o + vs.length) = cs') (hS : lastB ops i = true ∨ ∀ w', Bx w0 (bs.set j (b, .cells cs'.toArray T (0, 0))) w' → S w')
    (k : ∀ w', Bx w0 (bs.set j (b, .cells cs'.toArray T (0, 0))) w' → Turned w w' b T → ∀ a, Fr n l a → wpO P ops Q S r a w') : wpO P ops Q S ((i, false) :: r) a w :=
  stS hF ho hk hg (by rw [r_store hx hy hs (hB.at j hb) (by simpa using hl) h1, hcs]) (hS.imp id fun f => f _ (hB.set j hb)) (k _ (hB.set j hb) ⟨_, _, hB.at j hb, rfl⟩)
end

theorem retC {P : Program} {w w0 : World} {bs : List (Nat × Obj)} {fn : Func} {R : Ending → World → Prop} {t T b : Nat} {vs : List Value} (hF : Fr n l a) (hr : fn.results = #[.cell t T]) (hl : look l t = some (.pointer (some ⟨b, 0, none⟩))) (hB : Bx w0 bs w) (j : Nat) (hb : bcells bs j 0 vs.length = some (b, vs)) (hs : aggT P T vs.length = true)
    (hlen : (match bs[j]? with | some (_, .cells cs _ _) => Nat.beq cs.size vs.length | _ => false) = true) (h : R (.returned (.agg vs.toArray)) w) : bodyPost P fn R .ret a w := by
  unfold bcells at hb
  split at hb
  · rename_i b' cs T' fr hbb
    rw [hbb] at hlen
    simp only [Option.some.injEq, Prod.mk.injEq, List.drop_zero] at hb
    obtain ⟨rfl, h2⟩ := hb
    have hsz : cs.size = vs.length := Nat.eq_of_beq_eq_true hlen
    have hcs : cs = vs.toArray := by
      rw [← h2, List.take_of_length_le (by simp [hsz])]
    subst hcs
    have hagg := hs
    unfold aggT at hagg
    rw [Bool.and_eq_true] at hagg
    cases hu : P.underlying T with
    | none => rw [hu] at hagg; cases hagg.1
    | some d =>
      rw [hu] at hagg
      cases hi : P.info? T with
      | none => rw [hi] at hagg; cases hagg.2
      | some inf =>
        rw [hi] at hagg
        have e := Nat.eq_of_beq_eq_true hagg.2
        refine bodyPost_ret (results_cell_row hr _ w b' T' vs.toArray fr d ?_ (hB.at j hbb) hu ?_ ?_) hF.dfr h
        · have := hF.get _ _ hl
          simp [this]
        · cases d <;> first | rfl | (cases hagg.1; done)
        · simp [hi, e]
  · cases hb
theorem own_below {w w' : World} {base e size nn : Nat} {v : Value} {xs : List Value} (h : w.ownsRow base e size v nn xs) (hb : Below w.heap.size w w') : w'.ownsRow base e size v nn xs :=
  h.kept (row := none) ⟨hb.os, hb.tape, hb.output, hb.size, fun k hk _ => hb.block k hk⟩ (by cases h' : v.ownBlock <;> simp)
theorem Bx.step0 {w0 w w' : World} (h : Bx w0 [] w) (hb : Below w0.heap.size w w') : Bx w0 [] w' := ⟨fun _ _ h => by simp at h, h.bel.trans hb, fun _ _ h => by simp at h, fun _ _ _ _ h => by simp at h⟩
theorem own_rd {w : World} {base e size nn : Nat} {v : Value} {xs : List Value} (h : w.ownsRow base e size v nn xs) : ∃ A c, v = .slice A nn c ∧ nn ≤ c ∧ Rd w A xs := by
  obtain ⟨h1, h2⟩ := h
  rcases h2 with ⟨rfl, rfl⟩ | ⟨g, cap, cur, rfl, _, hh, hc, _, _, hx⟩
  · refine ⟨none, 0, rfl, Nat.le_refl _, fun j u hj => ?_⟩
    rw [Nat.zero_mul] at h1
    rw [List.eq_nil_of_length_eq_zero h1] at hj
    simp at hj
  · refine ⟨_, _, rfl, hc, fun j u hj => ?_⟩
    have hrd := Rd.of_blk hh
    refine hrd j u ?_
    rw [← hx] at hj
    rw [List.getElem?_take] at hj
    split at hj
    · exact hj
    · cases hj
theorem own_le {w : World} {base e size nn n c : Nat} {A : Option Addr} {xs : List Value} (h : w.ownsRow base e size (.slice A n c) nn xs) : nn ≤ c := by
  obtain ⟨_, _, e, h1, _⟩ := own_rd h
  cases e
  exact h1
theorem own_rr {w : World} {base e size nn n c : Nat} {A : Option Addr} {xs : List Value} (h : w.ownsRow base e size (.slice A n c) nn xs) : Rd w A xs := by
  obtain ⟨_, _, e, _, h1⟩ := own_rd h
  cases e
  exact h1
theorem look_bool {k : Nat} {b b' : Bool} (h : look l k = some (.bool b)) (e : b = b') : look l k = some (.bool b') := by rw [h, e]
theorem own_drew {w : World} {base e size nn : Nat} {v : Value} {xs : List Value} (h : w.ownsRow base e size v nn xs) : w.drew.ownsRow base e size v nn xs := h
theorem own_nil (w : World) (base e size : Nat) : w.ownsRow base e size (.slice none 0 0) 0 [] := ⟨by simp, .inl ⟨rfl, rfl⟩⟩

/-! ### elements of rows -/
theorem add_add' (ad : Addr) (x y : Nat) : (ad.add x).add y = ad.add (x + y) := by
  unfold Addr.add
  by_cases hx : x = 0
  · subst hx; simp
  · by_cases hy : y = 0
    · subst hy; simp [hx]
    · simp [hx, hy, Nat.add_assoc]
theorem Rd.elem {w : World} {A : Option Addr} {cs : List Value} (h : Rd w A cs) (o : Nat) (vs : List Value) (hne : vs ≠ []) (hv : ∀ j u, vs[j]? = some u → cs[o + j]? = some u) :
    ∃ ad, A = some ad ∧ ad.block < w.heap.size ∧ ∀ j u, vs[j]? = some u → w.cell? ((ad.add o).add j) = some u := by
  cases vs with
  | nil => exact absurd rfl hne
  | cons v0 vs =>
    obtain ⟨ad, h1, h2, -⟩ := h (o + 0) v0 (hv 0 v0 rfl)
    refine ⟨ad, h1, h2, fun j u hj => ?_⟩
    obtain ⟨ad', h1', -, h3⟩ := h (o + j) u (hv j u hj)
    rw [h1] at h1'
    cases h1'
    rw [add_add']
    exact h3
theorem wrap_i64 {z : Int} (h0 : -9223372036854775808 ≤ z) (h1 : z ≤ 9223372036854775807) : IntKind.i64.wrap z = z := by
  exact IntWalk.i64_in _ ⟨by omega, by omega⟩
theorem wrap_succ {k : Nat} (h : k + 1 ≤ 9223372036854775807) : IntKind.i64.wrap ((k : Int) + 1) = ((k + 1 : Nat) : Int) := by
  rw [wrap_i64 (by omega) (by omega)]; omega
theorem look_int {k : Nat} {kd : IntKind} {z z' : Int} (h : look l k = some (.int kd z)) (e : z = z') : look l k = some (.int kd z') := by rw [h, e]

section
variable {P : Program} {w : World} {t ty : TypeId} {x y : Operand}
def elT (P : Program) (t m : Nat) : Bool := match P.underlying t with | some (.slice e) => szT P e m | _ => false
theorem r_index {ad : Addr} {n c i m : Nat} {kd : IntKind} (hx : ev l x = .slice (some ad) n c) (hy : ev l y = .int kd (i : Int)) (hi : i < n) (ht : elT P t m = true) : (xop l (.indexAddr t x y) ty).run P w = .ok (.value (.pointer (some (ad.add (i * m))))) w := by
  unfold elT at ht
  split at ht
  · rename_i e hu
    unfold xop execOp
    have hsz := run_sizeOf_sz ht w
    simp only [hx, hy, Instr.indexAt, asIntOf, Sem.run_bind, Sem.run_pure, Result.andThen_ok, run_underlying hu w]
    rw [if_pos ⟨by omega, by omega⟩]
    simp only [Sem.run_bind, hsz, Result.andThen_ok, Sem.run_pure, Int.toNat_natCast]
  · cases ht
theorem add_zero' (ad : Addr) : ad.add 0 = ad := by simp [Addr.add]
theorem r_index0 {ad : Addr} {n c i m : Nat} {kd : IntKind} (hx : ev l x = .slice (some ad) n c) (hy : ev l y = .int kd (i : Int)) (hi : i < n) (ht : elT P t m = true) : (xop l (.indexAddr t x y) ty).run P w = .ok (.value (.pointer (some ((ad.add (i * m)).add 0)))) w := by
  rw [add_zero']; exact r_index hx hy hi ht
/-- An element: its cells, one behind the other from an address on. -/
def El (w : World) (ad : Addr) (vs : List Value) : Prop := ad.block < w.heap.size ∧ ∀ j u, vs[j]? = some u → w.cell? (ad.add j) = some u
theorem El.below {w w' : World} {ad : Addr} {vs : List Value} (h : El w ad vs) (hb : Below w.heap.size w w') : El w' ad vs :=
  ⟨Nat.lt_of_lt_of_le h.1 hb.size, fun j u hj => (hb.cell (p := ad.add j) (by rw [add_block]; exact h.1)).trans (h.2 j u hj)⟩
theorem Rd.el {w : World} {A : Option Addr} {cs : List Value} (h : Rd w A cs) (o : Nat) (vs : List Value) (hne : vs ≠ []) (hv : ∀ j u, vs[j]? = some u → cs[o + j]? = some u) : ∃ ad, A = some ad ∧ El w (ad.add o) vs := by
  obtain ⟨ad, h1, h2, h3⟩ := h.elem o vs hne hv
  exact ⟨ad, h1, by rw [add_block]; exact h2, h3⟩
def posT (P : Program) (t : Nat) : Bool := match P.info? t with | some i => !Nat.beq i.size 0 | none => false
theorem posT_size {t : Nat} (h : posT P t = true) (w : World) : ∃ m, m ≠ 0 ∧ (sizeOf t).run P w = .ok m w := by
  unfold posT at h
  cases hi : P.info? t with
  | none => rw [hi] at h; cases h
  | some i =>
    rw [hi] at h
    refine ⟨i.size, fun e => ?_, ?_⟩
    · simp only [e] at h; cases h
    · simp [sizeOf, typeInfo, hi]
theorem r_fieldAddr {ad : Addr} {o : Nat} {s f : Nat} {off : Nat} (hx : ev l x = .pointer (some (ad.add o))) (hf : (match P.underlying s with | some (.struct fs) => (match fs[f]? with | some z => Nat.beq z.offset off && posT P z.type | none => false) | _ => false) = true) : (xop l (.fieldAddr s x f) ty).run P w = .ok (.value (.pointer (some (ad.add (o + off))))) w := by
  split at hf
  · rename_i fs hu
    split at hf
    · rename_i z hz
      rw [Bool.and_eq_true] at hf
      have e := Nat.eq_of_beq_eq_true hf.1
      obtain ⟨m, hm0, hm⟩ := posT_size hf.2 w
      unfold xop execOp
      simp only [hx, Instr.fieldAt, Instr.sureAddr, Sem.run_bind, Sem.run_pure, Result.andThen_ok, run_underlying hu w, hz, fieldPlace, hm, hm0, if_false, add_add', e]
    · cases hf
  · cases hf
theorem r_loadF {ad : Addr} {o : Nat} {v : Value} {vs : List Value} (h : El w ad vs) (hv : vs[o]? = some v) (hx : ev l x = .pointer (some (ad.add o))) (hs : scalT P t = true) : (xop l (.load t x) ty).run P w = .ok (.value v) w :=
  r_load hx hs (h.2 o v hv)
theorem r_loadE {ad : Addr} {o : Nat} {vs cs : List Value} (h : El w ad cs) (hv : (cs.drop o).take vs.length = vs) (hx : ev l x = .pointer (some (ad.add o))) (hs : aggT P t vs.length = true) : (xop l (.load t x) ty).run P w = .ok (.value (.agg vs.toArray)) w := by
  refine r_loadA hx hs fun j u hj => ?_
  rw [add_add']
  refine h.2 (o + j) u ?_
  rw [← hv, List.getElem?_take] at hj
  split at hj
  · rwa [List.getElem?_drop] at hj
  · cases hj
def strT (P : Program) (t : Nat) : Bool := match P.underlying t with | some .string => true | _ => false
theorem r_indexS {s : ByteArray} {i : Nat} {b : UInt8} {kd : IntKind} (hx : ev l x = .string s) (hy : ev l y = .int kd (i : Int)) (hi : s[i]? = some b) (ht : strT P t = true) : (xop l (.index t x y) ty).run P w = .ok (.value (.int .u8 b.toNat)) w := by
  unfold strT at ht
  split at ht
  · rename_i hu
    unfold xop execOp
    simp only [hx, hy, Instr.index, asIntOf, Sem.run_bind, Sem.run_pure, Result.andThen_ok, run_underlying hu w, Int.toNat_natCast]
    rw [if_pos (by omega : (0 : Int) ≤ (i : Int)), hi]
    rfl
  · cases ht
end

/-! ### cuts of strings and slices -/
section
variable {P : Program} {w : World} {t ty : TypeId} {x y : Operand}
theorem r_sliceSHi {s : ByteArray} {i : Nat} {kd : IntKind} (hx : ev l x = .string s) (hy : ev l y = .int kd (i : Int)) (hi : i ≤ s.size) (ht : strT P t = true) : (xop l (.slice t x none (some y) none) ty).run P w = .ok (.value (.string (s.extract 0 i))) w := by
  unfold strT at ht
  split at ht
  · rename_i hu
    unfold xop execOp
    simp [hx, hy, Instr.sliceAt, Instr.slice, Instr.sliceBounds, Instr.sliceBound, asIntOf, Sem.run_bind, run_underlying hu w, hi]
  · cases ht
theorem r_sliceSLo {s : ByteArray} {i : Nat} {kd : IntKind} (hx : ev l x = .string s) (hy : ev l y = .int kd (i : Int)) (hi : i ≤ s.size) (ht : strT P t = true) : (xop l (.slice t x (some y) none none) ty).run P w = .ok (.value (.string (s.extract i s.size))) w := by
  unfold strT at ht
  split at ht
  · rename_i hu
    unfold xop execOp
    simp [hx, hy, Instr.sliceAt, Instr.slice, Instr.sliceBounds, Instr.sliceBound, asIntOf, Sem.run_bind, run_underlying hu w, hi]
  · cases ht
theorem r_sliceHi {A : Option Addr} {n c i m : Nat} {kd : IntKind} (hx : ev l x = .slice A n c) (hy : ev l y = .int kd (i : Int)) (hi : i ≤ c) (ht : elT P t m = true) : (xop l (.slice t x none (some y) none) ty).run P w = .ok (.value (.slice A i c)) w := by
  unfold elT at ht
  split at ht
  · rename_i e hu
    have hsz := run_sizeOf_sz ht w
    have hA : (if c = 0 then A else A.map fun z => z.add (0 * m)) = A := by
      split
      · rfl
      · cases A with
        | none => rfl
        | some ad => simp [Addr.add]
    unfold xop execOp
    simp [hx, hy, Instr.sliceAt, Instr.slice, Instr.sliceBounds, Instr.sliceBound, asIntOf, Sem.run_bind, run_underlying hu w, hi, hsz]
    cases A with
    | none => simp
    | some ad => simp [Addr.add]
  · cases ht
end

/-! ### append onto a row of the call's own -/
def neT (e : TypeId) (bs : List (Nat × Obj)) : Bool := bs.all fun p => match p.2 with | .cells _ T _ => !Nat.beq T e | _ => true
theorem Bx.grown {w0 w w' : World} {bs : List (Nat × Obj)} {base e size nn : Nat} {v : Value} {xs : List Value} (h : Bx w0 bs w) (hown : w.ownsRow base e size v nn xs) (hg : w.grownBy w' v.ownBlock) (hb : w0.heap.size ≤ base) (hne : neT e bs = true) : Bx w0 bs w' := by
  have hnb : ∀ k, v.ownBlock = some k → base ≤ k := fun k hk => (hown.lt k hk).1
  refine ⟨fun i p hp => ?_, ?_, h.ge, h.nd⟩
  · have hb' := h.blk i p hp
    rw [hg.block p.1 (blk_size hb') (fun e' => ?_)]
    · exact hb'
    · obtain ⟨h1, h2⟩ := hown
      rcases h2 with ⟨rfl, -⟩ | ⟨g, cap, cur, rfl, -, hh, -⟩
      · cases e'
      · simp only [Value.ownBlock, Option.some.injEq] at e'
        have h3 := List.all_eq_true.1 hne p (List.mem_of_getElem? hp)
        rw [e', hh] at hb'
        simp only [Option.some.injEq] at hb'
        rw [← hb'] at h3
        simp at h3
  · exact h.bel.grown hg h.bel.size (fun k hk => Nat.le_trans hb (hnb k hk))

def appT (P : Program) (t e size bytes : Nat) : Bool := (match P.underlying t with | some (.slice e') => Nat.beq e' e | _ => false) &&
  (match P.info? e with | some i => (Nat.beq i.size size && (Nat.beq i.bytes bytes && (match i.zero with | some z => Nat.beq z.cells.size size | none => false))) | none => false)
section
variable {P : Program} {ops : Array Oper} {Q : Exit → Act → World → Prop} {S : World → Prop} {w w0 : World} {r : List (Nat × Bool)} {bs : List (Nat × Obj)}
theorem stApp {i d t e size bytes base nn m c : Nat} {x y : Operand} {ty : TypeId} {g : Option (Nat × Bool)} {v : Value} {xs news : List Value} {ad : Addr} (hF : Fr n l a) (ho : shp ops[i]? = some (some d, .call { callee := .builtin .append, args := #[x, y], argTypes := #[t, t] }, ty, g)) (hd : Nat.blt d n = true)
    (hk : oks l (.call { callee := .builtin .append, args := #[x, y], argTypes := #[t, t] }) = true) (hg : gok ops l g true) (hT : appT P t e size bytes = true) (hsz : 0 < size) (hx : ev l x = v) (hy : ev l y = .slice (some ad) m c) (hown : w.ownsRow base e size v nn xs) (hl : news.length = m * size)
    (hn : ∀ j u, news[j]? = some u → w.cell? (ad.add j) = some u) (h1 : ∀ u ∈ news, u.oneCell' = true) (h63 : nn + m ≤ maxLen) (hby : (nn + m) * bytes ≤ 140737488355328) (hB : Bx w0 bs w) (hbase : base ≤ w.heap.size) (hb0 : w0.heap.size ≤ base) (hne : neT e bs = true) (hS : ∀ w', Bx w0 bs w' → S w')
    (k : ∀ v' w', w'.ownsRow base e size v' (nn + m) (xs ++ news) → w.grownBy w' v.ownBlock → Bx w0 bs w' → (v' = .slice none 0 0 ↔ v = .slice none 0 0 ∧ m = 0) → ∀ a, Fr n ((d, v') :: l) a → wpO P ops Q S r a w') : wpO P ops Q S ((i, false) :: r) a w := by
  unfold appT at hT
  rw [Bool.and_eq_true] at hT
  obtain ⟨hT1, hT2⟩ := hT
  split at hT1
  · rename_i e' hu
    have he : e' = e := Nat.eq_of_beq_eq_true hT1
    subst he
    split at hT2
    · rename_i inf hi
      simp only [Bool.and_eq_true] at hT2
      obtain ⟨g1, g2, g3⟩ := hT2
      split at g3
      · rename_i z hz
        obtain ⟨v', w', hr, ho', hg', hnil⟩ := run_append_own (P := P) w base t ty e' inf z size bytes hu hi hz (Nat.eq_of_beq_eq_true g1) (Nat.eq_of_beq_eq_true g2) (Nat.eq_of_beq_eq_true g3) hsz v nn xs hown ad m c news hl hn h1 h63 hby hbase
        have hB' := hB.grown hown hg' hb0 hne
        refine stE hF ho hd hk hg (v := v') (w' := w') ?_ (hS _ hB') (k v' w' ho' hg' hB' hnil)
        unfold xop execOp resolve
        simp only [List.map_toArray, List.map_cons, List.map_nil, hx, hy, Sem.run_bind, Sem.run_pure, Result.andThen_ok]
        show ((Builtin.append_ #[t, t] ty #[v, .slice (some ad) m c]).bind fun x => Sem.pure (Next.value x)).run P w = _
        rw [show ∀ (s : Sem Value) (f : Value → Sem Next), s.bind f = s >>= f from fun _ _ => rfl, Sem.run_bind, hr]
        rfl
      · cases g3
    · cases hT2
  · cases hT1
end

/-! ### the same in few words: what a kernel's look shows is not written -/
section
variable {P : Program} {ops : Array Oper} {Q : Exit → Act → World → Prop} {S : World → Prop} {w w0 : World} {r : List (Nat × Bool)}
def shs (o : Option Oper) : Option (Option Tmp × Option (Nat × Bool)) := o.map fun o => (o.dst, o.guard)
theorem shs_some {i : Nat} {d : Option Tmp} {g : Option (Nat × Bool)} (h : shs ops[i]? = some (d, g)) : ∃ o, ops[i]? = some o ∧ o.dst = d ∧ o.guard = g := by
  unfold shs at h
  cases ho : ops[i]? with
  | none => rw [ho] at h; cases h
  | some o =>
    rw [ho] at h
    simp only [Option.map_some, Option.some.injEq, Prod.mk.injEq] at h
    exact ⟨o, rfl, h.1, h.2⟩
theorem eE (i d : Nat) (op : Op) (ty : TypeId) (v : Value) (hF : Fr n l a) (k : ∀ a, Fr n ((d, v) :: l) a → wpO P ops Q (fun _ => True) r a w) (ho : shp ops[i]? = some (some d, op, ty, none) := by kernel_rfl)
    (hd : Nat.blt d n = true := by kernel_rfl) (hk : oks l op = true := by kernel_rfl) (hr : (xop l op ty).run P w = .ok (.value v) w := by kernel_rfl) : wpO P ops Q (fun _ => True) ((i, false) :: r) a w :=
  stE hF ho hd hk gok_none hr trivial k
theorem eG (i d : Nat) (op : Op) (ty : TypeId) (g : Nat × Bool) (v : Value) (hg : gok ops l (some g) true) (hF : Fr n l a) (k : ∀ a, Fr n ((d, v) :: l) a → wpO P ops Q (fun _ => True) r a w) (ho : shp ops[i]? = some (some d, op, ty, some g) := by kernel_rfl)
    (hd : Nat.blt d n = true := by kernel_rfl) (hk : oks l op = true := by kernel_rfl) (hr : (xop l op ty).run P w = .ok (.value v) w := by kernel_rfl) : wpO P ops Q (fun _ => True) ((i, false) :: r) a w :=
  stE hF ho hd hk hg hr trivial k
theorem fE (i d : Nat) (op : Op) (ty : TypeId) (v : Value) (hF : Fr n l a) (k : ∀ a, Fr n ((d, v) :: l) a → wpO P ops Q S r a w) (ho : shp ops[i]? = some (some d, op, ty, none) := by kernel_rfl)
    (hd : Nat.blt d n = true := by kernel_rfl) (hk : oks l op = true := by kernel_rfl) (hr : ∀ w, S w → (xop l op ty).run P w = .ok (.value v) w := by intro _ _; kernel_rfl) : wpO P ops Q S ((i, true) :: r) a w :=
  stF hF ho hd hk gok_none hr k
theorem fG (i d : Nat) (op : Op) (ty : TypeId) (g : Nat × Bool) (v : Value) (hg : gok ops l (some g) true) (hF : Fr n l a) (k : ∀ a, Fr n ((d, v) :: l) a → wpO P ops Q S r a w) (ho : shp ops[i]? = some (some d, op, ty, some g) := by kernel_rfl)
    (hd : Nat.blt d n = true := by kernel_rfl) (hk : oks l op = true := by kernel_rfl) (hr : ∀ w, S w → (xop l op ty).run P w = .ok (.value v) w := by intro _ _; kernel_rfl) : wpO P ops Q S ((i, true) :: r) a w :=
  stF hF ho hd hk hg hr k
theorem kF (i d : Nat) (g : Nat × Bool) (hg : gok ops l (some g) false) (hF : Fr n l a) (k : ∀ a, Fr n ((d, undef) :: l) a → wpO P ops Q S r a w) (ho : shs ops[i]? = some (some d, some g) := by kernel_rfl) (hd : Nat.blt d n = true := by kernel_rfl) : wpO P ops Q S ((i, true) :: r) a w := by
  obtain ⟨o, h0, h1, h4⟩ := shs_some ho
  exact ⟨o, undef, h0, .inr ⟨wanted_of_gok hF h4 hg, rfl⟩, by rw [h1]; exact k _ (hF.put d hd undef)⟩
theorem kE (i d : Nat) (g : Nat × Bool) (hg : gok ops l (some g) false) (hF : Fr n l a) (hS : S w) (k : ∀ a, Fr n ((d, undef) :: l) a → wpO P ops Q S r a w) (ho : shs ops[i]? = some (some d, some g) := by kernel_rfl) (hd : Nat.blt d n = true := by kernel_rfl) : wpO P ops Q S ((i, false) :: r) a w := by
  obtain ⟨o, h0, h1, h4⟩ := shs_some ho
  show wpOp P ops Q i _ a w
  unfold wpOp
  simp only [h0, wanted_of_gok hF h4 hg, Bool.false_eq_true, if_false]
  exact ⟨.inr hS, by rw [h1]; exact k _ (hF.put d hd undef)⟩
theorem g1 {j : Nat} {c : Bool} (t : Nat) (hc : c = true) (h1 : (ops[j]?).bind (·.dst) = some t := by kernel_rfl) (h2 : look l t = some (.bool c) := by kernel_rfl) : gok ops l (some (j, true)) true := gok_some h1 h2 (by rw [hc]; rfl)
theorem g2 {j : Nat} {c : Bool} (t : Nat) (hc : c = false) (h1 : (ops[j]?).bind (·.dst) = some t := by kernel_rfl) (h2 : look l t = some (.bool c) := by kernel_rfl) : gok ops l (some (j, false)) true := gok_some h1 h2 (by rw [hc]; rfl)
theorem g3 {j : Nat} {c : Bool} (t : Nat) (hc : c = false) (h1 : (ops[j]?).bind (·.dst) = some t := by kernel_rfl) (h2 : look l t = some (.bool c) := by kernel_rfl) : gok ops l (some (j, true)) false := gok_some h1 h2 (by rw [hc]; rfl)
theorem g4 {j : Nat} {c : Bool} (t : Nat) (hc : c = true) (h1 : (ops[j]?).bind (·.dst) = some t := by kernel_rfl) (h2 : look l t = some (.bool c) := by kernel_rfl) : gok ops l (some (j, false)) false := gok_some h1 h2 (by rw [hc]; rfl)
theorem g0 {j : Nat} {b : Bool} (t : Nat) (h1 : (ops[j]?).bind (·.dst) = some t := by kernel_rfl) (h2 : look l t = some undef := by kernel_rfl) : gok ops l (some (j, b)) false := gok_undef h1 h2
end

end Go.Proofs.YtljegdokbifoiaaGreatDoor.Af
