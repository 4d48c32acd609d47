/- Regions where several operations may come up at once: every order that the language leaves open. No condition. -/
import Derived.Test.YtljegdokbifoiaaGreatDoorZzAf
namespace Go.Proofs.YtljegdokbifoiaaGreatDoor.Af
open Go.RowKit

/-- A plan: what is carried out next, or what may come up next, each with its own plan. -/
inductive Pl where
  | done : Pl
  | free : Dg → Pl → Pl
  | alt : Dg → Pl → Pl → Pl
  | none : Pl
def Pl.heads : Pl → List Nat
  | .alt x _ q => x.i :: q.heads
  | _ => []
def subB (a m : Nat) : Bool := Nat.beq (Nat.land a m) a
def putB (i m : Nat) : Nat := Nat.lor (Nat.shiftLeft 1 i) m
def goP (all : List Dg) : Pl → Nat → Bool → Bool
  | .done, m, c => !c && all.all fun y => !bitD m y.i
  | .free x p, m, c => !c && (subB x.dep m && (bitD m x.i && ((all.all fun y => !bitD m y.i || (Nat.beq y.i x.i || (!bitD y.dep x.i || apartD x y))) && goP all p (putB x.i m) false)))
  | .alt x p q, m, c => (c || all.all fun y => !bitD m y.i || (!subB y.dep m || (x.i :: q.heads).any (Nat.beq · y.i))) && (subB x.dep m && (bitD m x.i && (goP all p (putB x.i m) false && goP all q m true)))
  | .none, _, c => c
def Pl.ok (ops : Array Oper) : Pl → Bool
  | .done => true
  | .free x p => x.ok .any ops && p.ok ops
  | .alt x p q => x.ok .any ops && (p.ok ops && q.ok ops)
  | .none => true
def Pl.depth : Pl → Nat
  | .done => 0
  | .free _ p => p.depth + 1
  | .alt _ p q => max (p.depth + 1) q.depth
  | .none => 0
def chkP (ops : Array Oper) (n : Nat) (all : List Dg) (p : Pl) : Bool :=
  Nat.beq ops.size n && (all.all (Dg.ok .any ops) && (((List.range n).all fun j => all.any fun x => Nat.beq x.i j) && (p.ok ops && (Nat.ble p.depth n && goP all p 0 false))))

section
variable {P : Program} {ops : Array Oper} {Q : Exit → Act → World → Prop} {S : World → Prop} {a : Act} {w : World}
def wpP (P : Program) (ops : Array Oper) (Q : Exit → Act → World → Prop) (S : World → Prop) : Pl → Act → World → Prop
  | .done, a, w => Q .normal a w
  | .free x p, a, w => ∃ o v, ops[x.i]? = some o ∧ YieldsIf P ops S o v a ∧ wpP P ops Q S p (a.put o.dst v) w
  | .alt x p q, a, w => wpOp P ops Q x.i (fun a' w' => SL ops S x.i w' ∧ wpP P ops Q S p a' w') a w ∧ wpP P ops Q S q a w
  | .none, _, _ => True

theorem putB_bit (i m k : Nat) : (putB i m).testBit k = (decide (i = k) || m.testBit k) := by
  show ((1 <<< i) ||| m).testBit k = _
  rw [Nat.testBit_or, Nat.one_shiftLeft, Nat.testBit_two_pow]
theorem subB_iff (a m : Nat) : subB a m = true ↔ ∀ k, a.testBit k = true → m.testBit k = true := sub_iff a m

/-- What comes up at a choice is among its heads. -/
theorem wpP_head : ∀ (p : Pl) (a : Act) (w : World) (i : Nat), i ∈ p.heads → wpP P ops Q S p a w → ∃ (x : Dg) (q : Pl), x.i = i ∧ (∀ all m c, goP all p m c = true → subB x.dep m = true ∧ bitD m x.i = true ∧ goP all q (putB x.i m) false = true) ∧ (p.ok ops = true → x.ok .any ops = true ∧ q.ok ops = true) ∧ q.depth + 1 ≤ p.depth ∧
      wpOp P ops Q i (fun a' w' => SL ops S i w' ∧ wpP P ops Q S q a' w') a w
  | .done, _, _, _, h, _ => by cases h
  | .free _ _, _, _, _, h, _ => by cases h
  | .none, _, _, _, h, _ => by cases h
  | .alt x p q, a, w, i, h, hw => by
    rcases List.mem_cons.1 h with rfl | h
    · refine ⟨x, p, rfl, fun all m c hg => ?_, fun hk => ?_, Nat.le_max_left _ _, hw.1⟩
      · simp only [goP, Bool.and_eq_true] at hg
        exact ⟨hg.2.1, hg.2.2.1, hg.2.2.2.1⟩
      · simp only [Pl.ok, Bool.and_eq_true] at hk
        exact ⟨hk.1, hk.2.1⟩
    · obtain ⟨y, r, h1, h2, h3, h4, h5⟩ := wpP_head q a w i h hw.2
      refine ⟨y, r, h1, fun all m c hg => ?_, fun hk => ?_, Nat.le_trans h4 (Nat.le_max_right _ _), h5⟩
      · simp only [goP, Bool.and_eq_true] at hg
        exact h2 all m true hg.2.2.2.2
      · simp only [Pl.ok, Bool.and_eq_true] at hk
        exact h3 hk.2.2

theorem wpAnyT_of_wpP (hs : Region.noSelect ops = true) (hQ : ∀ c a a' w, Q (.panic c) a' w → Q (.panic c) a w) (all : List Dg) (hall : ∀ x ∈ all, x.ok .any ops = true) (hcov : ∀ j, j < ops.size → ∃ x ∈ all, x.i = j) :
    ∀ (d : Nat) (p : Pl) (fuel : Nat) (m : Nat) (t : Array Bool) (a : Act) (w : World), p.depth ≤ d → p.depth ≤ fuel → p.ok ops = true → goP all p m false = true →
      (∀ j b, j < ops.size → t.getD j b = m.testBit j) → t.size = ops.size → (∀ k, m.testBit k = true → k < ops.size) → S w →
      wpP P ops Q S p a w → wpAnyT P ops Q S fuel t a w := by
  intro d
  induction d with
  | zero =>
    intro p fuel m t a w hd _ _ hg ht hts _ _ h
    cases p with
    | done =>
      refine wpAnyT_done ?_ h fuel
      rw [List.eq_nil_iff_forall_not_mem]
      intro j hj
      obtain ⟨h1, o, h2, -⟩ := mem_ready.1 hj
      have hlt : j < ops.size := (Array.getElem?_eq_some_iff.1 h2).1
      obtain ⟨x, hx, rfl⟩ := hcov j hlt
      simp only [goP, Bool.and_eq_true] at hg
      have h3 := List.all_eq_true.1 hg.2 x hx
      rw [ht x.i true hlt] at h1
      rw [(bitD_iff _ _).2 h1] at h3
      cases h3
    | free x p => simp [Pl.depth] at hd
    | alt x p q => simp [Pl.depth] at hd
    | none => simp [goP] at hg
  | succ d ih =>
    intro p fuel m t a w hd hf hok hg ht hts hml hS h
    have step : ∀ (x : Dg) (o : Oper), ops[x.i]? = some o → x.i < ops.size ∧ (∀ j b, j < ops.size → (t.setIfInBounds x.i true).getD j b = (putB x.i m).testBit j) ∧ (∀ k, (putB x.i m).testBit k = true → k < ops.size) := fun x o ho => by
      have hlt : x.i < ops.size := (Array.getElem?_eq_some_iff.1 ho).1
      refine ⟨hlt, fun j b hj => ?_, fun k hk => ?_⟩
      · rw [putB_bit]
        by_cases hij : x.i = j
        · subst hij
          simp [hts, hlt]
        · rw [getD_set_ne b hij, ht j b hj]; simp [hij]
      · rw [putB_bit, Bool.or_eq_true, decide_eq_true_eq] at hk
        rcases hk with hk | hk
        · exact hk ▸ hlt
        · exact hml k hk
    cases p with
    | none => simp [goP] at hg
    | done =>
      refine wpAnyT_done ?_ h fuel
      rw [List.eq_nil_iff_forall_not_mem]
      intro j hj
      obtain ⟨h1, o, h2, -⟩ := mem_ready.1 hj
      have hlt : j < ops.size := (Array.getElem?_eq_some_iff.1 h2).1
      obtain ⟨x, hx, rfl⟩ := hcov j hlt
      simp only [goP, Bool.and_eq_true] at hg
      have h3 := List.all_eq_true.1 hg.2 x hx
      rw [ht x.i true hlt] at h1
      rw [(bitD_iff _ _).2 h1] at h3
      cases h3
    | free x p =>
      simp only [goP, Bool.and_eq_true] at hg
      obtain ⟨-, g1, g2, g3, g4⟩ := hg
      simp only [Pl.ok, Bool.and_eq_true] at hok
      obtain ⟨fuel, rfl⟩ : ∃ q, fuel = q + 1 := ⟨fuel - 1, by simp [Pl.depth] at hf; omega⟩
      obtain ⟨o, ho, hdep, -, -⟩ := Dg.ok_spec hok.1
      obtain ⟨hlt, ht', hml'⟩ := step x o ho
      rw [bitD_iff] at g2
      rw [subB_iff] at g1
      obtain ⟨o', v, ho', hy, h''⟩ := h
      rw [ho] at ho'
      cases ho'
      have hready : x.i ∈ Region.ready .any ops t := mem_ready.2 ⟨by rw [ht _ _ hlt]; exact g2, o, ho, fun e he hb => by
        have h1 := g1 e.on ((hdep e.on).2 ⟨e, he, hb, rfl⟩)
        rw [ht _ _ (hml e.on h1)]
        exact h1⟩
      refine wpAnyT_first ho (fun j oj cs b hj => Region.noSelect_spec hs j oj cs b hj) (fun c a w => hQ c a _ w) fuel t a w (fun j oj hj hne hun hno => ?_) hready hy hS
        (ih p fuel _ _ _ _ (by simp [Pl.depth] at hd; omega) (by simp [Pl.depth] at hf; omega) hok.2 g4 ht' (by simpa using hts) hml' hS h'')
      have hjl : j < ops.size := (Array.getElem?_eq_some_iff.1 hj).1
      obtain ⟨y, hy1, rfl⟩ := hcov j hjl
      rw [ht _ _ hjl] at hun
      have g5 := List.all_eq_true.1 g3 y hy1
      rw [(bitD_iff _ _).2 hun, Bool.not_true, Bool.false_or, Bool.or_eq_true, Bool.or_eq_true] at g5
      rcases g5 with g5 | g5 | g5
      · exact absurd (Nat.eq_of_beq_eq_true g5) hne
      · exfalso
        have g6 : y.dep.testBit x.i = true := by
          cases hb : y.dep.testBit x.i with
          | true => rfl
          | false => rw [(bitD_iff _ _).2 hb] at g5; cases g5
        obtain ⟨oy, hoy, hdy, -, -⟩ := Dg.ok_spec (hall y hy1)
        rw [hj] at hoy
        cases hoy
        obtain ⟨e, he, hb, hon⟩ := (hdy x.i).1 g6
        exact hno e he hb hon
      · exact apartD_spec hok.1 (hall y hy1) ho hj g5
    | alt x p q =>
      obtain ⟨fuel, rfl⟩ : ∃ z, fuel = z + 1 := ⟨fuel - 1, by simp only [Pl.depth] at hf; omega⟩
      have hg0 := hg
      simp only [goP, Bool.and_eq_true, Bool.false_or] at hg
      obtain ⟨g0, g1, g2, -, -⟩ := hg
      have hok0 := hok
      simp only [Pl.ok, Bool.and_eq_true] at hok
      obtain ⟨o, ho, hdep, -, -⟩ := Dg.ok_spec hok.1
      obtain ⟨hlt, -, -⟩ := step x o ho
      rw [bitD_iff] at g2
      rw [subB_iff] at g1
      have hready : x.i ∈ Region.ready .any ops t := mem_ready.2 ⟨by rw [ht _ _ hlt]; exact g2, o, ho, fun e he hb => by
        have h1 := g1 e.on ((hdep e.on).2 ⟨e, he, hb, rfl⟩)
        rw [ht _ _ (hml e.on h1)]
        exact h1⟩
      refine ⟨fun h0 => (by rw [h0] at hready; cases hready), fun j hj => ?_⟩
      obtain ⟨hjun, oj, hoj, hjdep⟩ := mem_ready.1 hj
      have hjl : j < ops.size := (Array.getElem?_eq_some_iff.1 hoj).1
      have hmem : j ∈ (Pl.alt x p q).heads := by
        obtain ⟨y, hy1, hyj⟩ := hcov j hjl
        subst hyj
        have g5 := List.all_eq_true.1 g0 y hy1
        rw [ht _ _ hjl] at hjun
        rw [(bitD_iff _ _).2 hjun, Bool.not_true, Bool.false_or, Bool.or_eq_true] at g5
        rcases g5 with g5 | g5
        · exfalso
          have : subB y.dep m = true := by
            rw [subB_iff]
            intro k hk
            obtain ⟨oy, hoy, hdy, -, -⟩ := Dg.ok_spec (hall y hy1)
            rw [hoj] at hoy
            cases hoy
            obtain ⟨e, he, hb, hon⟩ := (hdy k).1 hk
            have h3 := hjdep e he hb
            rw [hon] at h3
            have hkl : k < ops.size := by
              rcases Nat.lt_or_ge k ops.size with h4 | h4
              · exact h4
              · simp [Array.getElem?_eq_none (hts ▸ h4 : t.size ≤ k)] at h3
            rw [ht _ _ hkl] at h3
            exact h3
          rw [this] at g5
          cases g5
        · obtain ⟨z, hz, he⟩ := List.any_eq_true.1 g5
          have := Nat.eq_of_beq_eq_true he
          subst this
          exact hz
      obtain ⟨y, r, rfl, hgy, hoky, hdy, hwy⟩ := wpP_head _ a w j hmem h
      obtain ⟨k1, k2, k3⟩ := hgy all m false hg0
      obtain ⟨k4, k5⟩ := hoky hok0
      obtain ⟨-, ht', hml'⟩ := step y oj hoj
      refine wpOp_mono (fun a' w' h'' => ⟨h''.1, ?_⟩) hwy
      have last : ∀ z : Dg, z.ok .any ops = true → bitD (putB y.i m) z.i = true → S w' := fun z hz hzb => by
        refine h''.1.resolve_left ?_
        obtain ⟨oz, hoz, -⟩ := Dg.ok_spec hz
        have hzl : z.i < ops.size := (Array.getElem?_eq_some_iff.1 hoz).1
        rw [bitD_iff, putB_bit, Bool.or_eq_false_iff, decide_eq_false_iff_not] at hzb
        obtain ⟨oy, hoy, hdy', -, -⟩ := Dg.ok_spec k4
        rw [hoj] at hoy
        cases hoy
        refine lastB_not hzl hoj hzb.1 fun e he hb hon => ?_
        have := (subB_iff _ _).1 k1 e.on ((hdy' e.on).2 ⟨e, he, hb, rfl⟩)
        rw [hon, hzb.2] at this
        cases this
      have key : S w' ∨ r = .done := by
        cases r with
        | done => exact .inr rfl
        | none => simp [goP] at k3
        | free z r =>
          simp only [goP, Bool.and_eq_true] at k3
          simp only [Pl.ok, Bool.and_eq_true] at k5
          exact .inl (last z k5.1 k3.2.2.1)
        | alt z r s =>
          simp only [goP, Bool.and_eq_true] at k3
          simp only [Pl.ok, Bool.and_eq_true] at k5
          exact .inl (last z k5.1 k3.2.2.1)
      rcases key with hS' | rfl
      · exact ih r fuel _ _ _ _ (by omega) (by omega) k5 k3 ht' (by simpa using hts) hml' hS' h''.2
      · refine wpAnyT_done ?_ h''.2 fuel
        rw [List.eq_nil_iff_forall_not_mem]
        intro j hj
        obtain ⟨h1, o, h2, -⟩ := mem_ready.1 hj
        have hlt : j < ops.size := (Array.getElem?_eq_some_iff.1 h2).1
        obtain ⟨z, hz, rfl⟩ := hcov j hlt
        simp only [goP, Bool.and_eq_true] at k3
        have h3 := List.all_eq_true.1 k3.2 z hz
        rw [ht' z.i true hlt] at h1
        rw [(bitD_iff _ _).2 h1] at h3
        cases h3

theorem reg_plan {c : Code} (S : World → Prop) (m : Nat) (all : List Dg) (p : Pl) (hc : isReg c true = true) (hm : P.follows .mixedOrders = true)
    (hk : (Region.noSelect (rops c) && chkP (rops c) m all p) = true) (hQ : ∀ c a a' w, Q (.panic c) a' w → Q (.panic c) a w) (hS : S w.drew)
    (h : wpP P (rops c) Q S p a w.drew) : c.wp P Q a w := by
  cases c <;> simp only [isReg] at hc <;> try cases hc
  rename_i id ops b
  have e : b = true := by simpa using hc
  subst e
  simp only [rops, chkP, Bool.and_eq_true, Nat.beq_eq, Nat.ble_eq] at hk
  obtain ⟨k1, k2, k3, k4, k5, k6, k7⟩ := hk
  refine wp_region_any hm (wpAny_of_T _ _ _ _ (wpAnyT_of_wpP k1 hQ all (fun x hx => List.all_eq_true.1 k3 x hx) (fun j hj => ?_) p.depth p _ 0 _ _ _ (Nat.le_refl _) (by omega) k5 k7 (fun j b hj => by simp [hj]) (by simp) (fun k hk => by simp at hk) hS h))
  obtain ⟨x, hx, he⟩ := List.any_eq_true.1 (List.all_eq_true.1 k4 j (List.mem_range.2 (by omega)))
  exact ⟨x, hx, Nat.eq_of_beq_eq_true he⟩

/-- A step of a plan, by the laws of the lists. -/
theorem p_done (h : Q .normal a w) : wpP P ops Q S .done a w := h
theorem p_none : wpP P ops Q S .none a w := trivial
theorem p_free {x : Dg} {p : Pl} (h : wpO P ops (CutQ (fun a w => wpP P ops Q S p a w) Q) S [(x.i, true)] a w) : wpP P ops Q S (.free x p) a w := by
  obtain ⟨o, v, h1, h2, h3⟩ := h
  exact ⟨o, v, h1, h2, h3⟩
theorem p_alt {x : Dg} {p q : Pl} (h : wpO P ops (CutQ (fun a w => wpP P ops Q S p a w) Q) S [(x.i, false)] a w) (h2 : wpP P ops Q S q a w) : wpP P ops Q S (.alt x p q) a w := by
  refine ⟨?_, h2⟩
  have h' : wpOp P ops (CutQ (fun a w => wpP P ops Q S p a w) Q) x.i (fun a' w' => SL ops S x.i w' ∧ wpP P ops Q S p a' w') a w := h
  unfold wpOp at h' ⊢
  cases ho : ops[x.i]? with
  | none => rw [ho] at h'; exact h'
  | some o =>
    rw [ho] at h'
    simp only at h' ⊢
    split
    · rename_i hw
      rw [if_pos hw] at h'
      rcases h' with h' | ⟨h', b, v, h3⟩
      · refine .inl ?_
        unfold Oper.wp at *
        generalize (execOp a.eval o).run P w = y at *
        cases y with
        | ok nx w' =>
          cases nx <;> simp only [Oper.upon] at h' ⊢ <;>
            first
              | exact h'
              | exact Calls.mono h' (fun e w'' he => by cases e <;> first | exact he | (obtain ⟨b, v, hb⟩ := he; exact ⟨b, v, hb⟩))
        | halt z w' => cases z <;> simp only [Oper.upon] at h' ⊢ <;> exact h'
      · exact .inr ⟨h', b, v, h3⟩
    · rename_i hw
      rw [if_neg hw] at h'
      exact h'
end
/-- Blocks in another order, or fewer. -/
theorem Bx.sel {w0 w : World} {bs bs' : List (Nat × Obj)} (h : Bx w0 bs w) (ks : List Nat) (hn : ks.Nodup) (he : ks.map (fun k => bs[k]?) = bs'.map some) : Bx w0 bs' w := by
  have get : ∀ (i : Nat) (p : Nat × Obj), bs'[i]? = some p → ∃ k, ks[i]? = some k ∧ bs[k]? = some p := fun i p hp => by
    have h1 : (ks.map fun k => bs[k]?)[i]? = (bs'.map some)[i]? := by rw [he]
    rw [List.getElem?_map, List.getElem?_map, hp] at h1
    cases hk : ks[i]? with
    | none => rw [hk] at h1; cases h1
    | some k =>
      rw [hk] at h1
      exact ⟨k, rfl, Option.some.inj h1⟩
  refine ⟨fun i p hp => ?_, h.bel, fun i p hp => ?_, fun i j p q hp hq e => ?_⟩
  · obtain ⟨k, -, h2⟩ := get i p hp
    exact h.blk k p h2
  · obtain ⟨k, -, h2⟩ := get i p hp
    exact h.ge k p h2
  · obtain ⟨k, h1, h2⟩ := get i p hp
    obtain ⟨k', h3, h4⟩ := get j q hq
    have := h.nd k k' p q h2 h4 e
    subst this
    exact (List.getElem?_inj (List.getElem?_eq_some_iff.1 h1).1 hn).1 (h1.trans h3.symm)
theorem own_base {w : World} {base base' e size nn : Nat} {v : Value} {xs : List Value} (h : w.ownsRow base e size v nn xs) (hb : base' ≤ base) : w.ownsRow base' e size v nn xs := by
  obtain ⟨h1, h2⟩ := h
  refine ⟨h1, h2.imp id ?_⟩
  rintro ⟨g, cap, cur, hv, hg, hr⟩
  exact ⟨g, cap, cur, hv, Nat.le_trans hb hg, hr⟩
end Go.Proofs.YtljegdokbifoiaaGreatDoor.Af
