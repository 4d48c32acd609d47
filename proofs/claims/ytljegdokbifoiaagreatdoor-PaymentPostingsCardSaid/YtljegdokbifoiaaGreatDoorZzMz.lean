/- Maps: what a map's block holds, as a list of keys and values in whatever order; looking up, entering, storing. No condition. Maps in a walk: looking up, storing. No condition. -/
import Derived.Test.YtljegdokbifoiaaGreatDoorZzBt
import Derived.Maps.Keyed
import Derived.Maps.OwnOps
import Derived.MapKept
import Derived.RangeFuncRecord
namespace Go.Proofs.YtljegdokbifoiaaGreatDoor.Af
open Go.RowKit Go.Maps Go.MapKept

theorem nd_of_map {α β : Type} (f : α → β) {l : List α} (h : (l.map f).Nodup) : l.Nodup := List.Pairwise.of_map f (fun _ _ hab e => hab (congrArg f e)) h
theorem nd_map {α β : Type} (f : α → β) (inj : ∀ a b, f a = f b → a = b) {l : List α} (h : l.Nodup) : (l.map f).Nodup := List.Pairwise.map f (fun _ _ hab e => hab (inj _ _ e)) h
def getK {κ ν : Type} [DecidableEq κ] (M : List (κ × ν)) (k : κ) : Option ν := (M.find? fun p => p.1 = k).map (·.2)
def updK {κ ν : Type} [DecidableEq κ] (M : List (κ × ν)) (k : κ) (v : ν) : List (κ × ν) := bif (getK M k).isSome then M.map fun p => if p.1 = k then (k, v) else p else M ++ [(k, v)]
section
variable {κ ν : Type} [DecidableEq κ] {M : List (κ × ν)} {k k' : κ} {v v' : ν}
theorem getK_some (h : getK M k = some v) : (k, v) ∈ M := by
  unfold getK at h
  cases hf : M.find? (fun p => decide (p.1 = k)) with
  | none => rw [hf] at h; cases h
  | some p =>
    rw [hf] at h
    have h1 := List.find?_some hf
    have h2 := List.mem_of_find?_eq_some hf
    simp only [Option.map_some, Option.some.injEq] at h
    have h1 : p.1 = k := by simpa using h1
    rw [← h1, ← h]
    exact h2
theorem getK_none : getK M k = none ↔ ∀ p ∈ M, p.1 ≠ k := by
  unfold getK
  simp
theorem getK_of_mem (hn : (M.map (·.1)).Nodup) (h : (k, v) ∈ M) : getK M k = some v := by
  cases hg : getK M k with
  | none => exact absurd rfl (getK_none.1 hg _ h)
  | some u =>
    have h2 := getK_some hg
    have : ∀ (M : List (κ × ν)), (M.map (·.1)).Nodup → (k, v) ∈ M → (k, u) ∈ M → u = v := by
      intro M
      induction M with
      | nil => intro _ h; cases h
      | cons p M ih =>
        intro hn h1 h2
        rw [List.map_cons, List.nodup_cons] at hn
        rcases List.mem_cons.1 h1 with e1 | h1 <;> rcases List.mem_cons.1 h2 with e2 | h2
        · rw [← e1] at e2; exact (Prod.mk.injEq .. ▸ e2).2
        · exact absurd (List.mem_map.2 ⟨_, h2, by rw [← e1]⟩) hn.1
        · exact absurd (List.mem_map.2 ⟨_, h1, by rw [← e2]⟩) hn.1
        · exact ih hn.2 h1 h2
    rw [this M hn h h2]
theorem updK_keys_mem {x : κ} : x ∈ (updK M k v).map (·.1) ↔ x = k ∨ x ∈ M.map (·.1) := by
  unfold updK
  cases hg : getK M k with
  | none =>
    simp only [Option.isSome_none, cond_false, List.map_append, List.map_cons, List.map_nil, List.mem_append, List.mem_singleton]
    exact Or.comm
  | some u =>
    have hk : k ∈ M.map (·.1) := List.mem_map.2 ⟨_, getK_some hg, rfl⟩
    simp only [Option.isSome_some, cond_true, List.map_map]
    have e : (M.map ((fun p : κ × ν => p.1) ∘ fun p => if p.1 = k then (k, v) else p)) = M.map (·.1) := by
      apply List.map_congr_left
      intro p _
      simp only [Function.comp]
      split
      · rename_i h; exact h.symm
      · rfl
    rw [e]
    constructor
    · exact Or.inr
    · rintro (rfl | h)
      · exact hk
      · exact h
theorem updK_nodup (hn : (M.map (·.1)).Nodup) : ((updK M k v).map (·.1)).Nodup := by
  unfold updK
  cases hg : getK M k with
  | none =>
    simp only [Option.isSome_none, cond_false, List.map_append, List.map_cons, List.map_nil]
    rw [List.nodup_append]
    refine ⟨hn, by simp, fun a ha b hb e => ?_⟩
    simp only [List.mem_singleton] at hb
    obtain ⟨p, hp, rfl⟩ := List.mem_map.1 ha
    exact getK_none.1 hg p hp (by rw [e, hb])
  | some u =>
    simp only [Option.isSome_some, cond_true, List.map_map]
    have e : (M.map ((fun p : κ × ν => p.1) ∘ fun p => if p.1 = k then (k, v) else p)) = M.map (·.1) := by
      apply List.map_congr_left
      intro p _
      simp only [Function.comp]
      split
      · rename_i h; exact h.symm
      · rfl
    rw [e]
    exact hn
theorem getK_updK (hn : (M.map (·.1)).Nodup) : getK (updK M k v) k' = if k' = k then some v else getK M k' := by
  have key : ∀ u, (k', u) ∈ updK M k v ↔ (k' = k ∧ u = v) ∨ (k' ≠ k ∧ (k', u) ∈ M) := fun u => by
    unfold updK
    cases hg : getK M k with
    | none =>
      simp only [Option.isSome_none, cond_false, List.mem_append, List.mem_singleton, Prod.mk.injEq]
      constructor
      · rintro (h | h)
        · exact .inr ⟨getK_none.1 hg _ h, h⟩
        · exact .inl h
      · rintro (h | h)
        · exact .inr h
        · exact .inl h.2
    | some w =>
      simp only [Option.isSome_some, cond_true, List.mem_map]
      constructor
      · rintro ⟨p, hp, e⟩
        split at e
        · cases e; exact .inl ⟨rfl, rfl⟩
        · rename_i hne
          subst e
          exact .inr ⟨hne, hp⟩
      · rintro (⟨rfl, rfl⟩ | ⟨hne, h⟩)
        · exact ⟨(k', w), getK_some hg, by simp⟩
        · exact ⟨(k', u), h, by simp [hne]⟩
  split
  · rename_i e
    exact getK_of_mem (updK_nodup hn) ((key v).2 (.inl ⟨e, rfl⟩))
  · rename_i e
    cases hg : getK M k' with
    | none =>
      rw [getK_none]
      intro p hp hpk
      have : (k', p.2) ∈ updK M k v := by rw [← hpk]; exact hp
      rcases (key p.2).1 this with ⟨h, -⟩ | ⟨-, h⟩
      · exact e h
      · exact getK_none.1 hg _ h rfl
    | some u => exact getK_of_mem (updK_nodup hn) ((key u).2 (.inr ⟨e, getK_some hg⟩))
end

def enE (e : MapEntry) : Value × Value := (e.key, e.val)
/-- A map's entries, as a list of keys and values in some order. -/
structure MapT {κ ν : Type} (P : Program) (kt : TypeId) (eK : κ → Value) (eV : ν → Value) (es : Array MapEntry) (clk : Nat) (M : List (κ × ν)) : Prop where
  st : Stamped es clk
  keys : ∀ p ∈ M, ∃ l, keyOf P kt (eK p.1) = some l
  perm : (es.toList.map enE).Perm (M.map fun p => (eK p.1, eV p.2))
  nd : (M.map (·.1)).Nodup
section
variable {κ ν : Type} {P : Program} {kt : TypeId} {eK : κ → Value} {eV : ν → Value} {es : Array MapEntry} {clk : Nat} {M : List (κ × ν)} {w w0 : World}
theorem MapT.empty : MapT (κ := κ) (ν := ν) P kt eK eV #[] 0 [] := ⟨⟨fun _ h => by simp at h, by simp, by simp⟩, fun _ h => by simp at h, by simp, by simp⟩
theorem MapT.mem (h : MapT P kt eK eV es clk M) {e : MapEntry} (he : e ∈ es.toList) : ∃ p ∈ M, e.key = eK p.1 ∧ e.val = eV p.2 := by
  have h1 : enE e ∈ es.toList.map enE := List.mem_map.2 ⟨e, he, rfl⟩
  rw [h.perm.mem_iff, List.mem_map] at h1
  obtain ⟨p, hp, e1⟩ := h1
  simp only [enE, Prod.mk.injEq] at e1
  exact ⟨p, hp, e1.1.symm, e1.2.symm⟩
theorem MapT.mem' (h : MapT P kt eK eV es clk M) {p : κ × ν} (hp : p ∈ M) : ∃ e ∈ es.toList, e.key = eK p.1 ∧ e.val = eV p.2 := by
  have h1 : (eK p.1, eV p.2) ∈ M.map fun p => (eK p.1, eV p.2) := List.mem_map.2 ⟨p, hp, rfl⟩
  rw [← h.perm.mem_iff, List.mem_map] at h1
  obtain ⟨e, he, e1⟩ := h1
  simp only [enE, Prod.mk.injEq] at e1
  exact ⟨e, he, e1.1, e1.2⟩
variable [DecidableEq κ]
theorem MapT.find (h : MapT P kt eK eV es clk M) (K : Keyed P kt) (inj : ∀ a b, eK a = eK b → a = b) {k : κ} (hk : ∃ l, keyOf P kt (eK k) = some l) :
    (getK M k = none ∧ (Instr.findKey kt (eK k) es.toList).run P w = .ok none w ∧ ∀ e ∈ es.toList, e.key ≠ eK k) ∨
    ∃ v j e, getK M k = some v ∧ (Instr.findKey kt (eK k) es.toList).run P w = .ok (some (j, eV v)) w ∧ es.toList[j]? = some e ∧ e.key = eK k ∧ e.val = eV v := by
  obtain ⟨lx, hl⟩ := hk
  rcases K.find w hl es.toList (fun e he => by
    obtain ⟨p, hp, e1, -⟩ := h.mem he
    rw [e1]; exact h.keys p hp) with ⟨h1, h2⟩ | ⟨j, e, h1, h2, h3⟩
  · refine .inl ⟨getK_none.2 fun p hp e1 => ?_, h1, h2⟩
    obtain ⟨e, he, e2, -⟩ := h.mem' hp
    exact h2 e he (by rw [e2, e1])
  · obtain ⟨p, hp, e1, e2⟩ := h.mem (List.mem_of_getElem? h2)
    have hpk : p.1 = k := inj _ _ (by rw [← e1, h3])
    refine .inr ⟨p.2, j, e, getK_of_mem h.nd (by rw [← hpk]; exact hp), by rw [h1, e2], h2, h3, e2⟩
/-- What a look-up yields. -/
def lkV (eV : ν → Value) (z : Value) (M : List (κ × ν)) (k : κ) : Value := match getK M k with | some v => eV v | none => z
theorem MapT.lookup (h : MapT P kt eK eV es clk M) (K : Keyed P kt) (inj : ∀ a b, eK a = eK b → a = b) {t et : TypeId} (ht : P.underlying t = some (.map kt et)) {z : Value} (hz : (zeroValue et).run P w = .ok z w) {b : Nat} (hb : w.heap[b]? = some (.map es clk)) {k : κ} (hk : ∃ l, keyOf P kt (eK k) = some l) :
    (Instr.lookup t (.map (some b)) (eK k) false).run P w = .ok (lkV eV z M k) w := by
  obtain ⟨lx, hl⟩ := hk
  unfold Instr.lookup lkV
  simp only [Sem.run_bind, run_underlying ht w, Result.andThen_ok, Go.MapKept.run_getObj_map hb, Sem.run_pure, K.check w _ hl]
  rcases h.find (w := w) K inj ⟨lx, hl⟩ with ⟨h1, h2, -⟩ | ⟨v, j, e, h1, h2, -⟩
  · simp only [h2, h1, Result.andThen_ok, Sem.run_bind, hz, Sem.run_pure]
    rfl
  · simp only [h2, h1, Result.andThen_ok, Sem.run_bind, Sem.run_pure]
    rfl
theorem enE_modify (l : List MapEntry) (j : Nat) (e : MapEntry) (hj : l[j]? = some e) (f : MapEntry → MapEntry) : (l.modify j f).map enE = (l.map enE).set j (enE (f e)) := by
  induction l generalizing j with
  | nil => simp at hj
  | cons x l ih =>
    cases j with
    | zero => simp only [List.getElem?_cons_zero, Option.some.injEq] at hj; subst hj; simp
    | succ j =>
      rw [List.getElem?_cons_succ] at hj
      simp [ih j hj]
theorem perm_upd (eK : κ → Value) (eV : ν → Value) (inj : ∀ a b, eK a = eK b → a = b) {l : List MapEntry} {j : Nat} {e : MapEntry} {k : κ} {v : ν} (hp : (l.map enE).Perm (M.map fun p => (eK p.1, eV p.2))) (hn : (l.map (·.key)).Nodup) (hnM : (M.map (·.1)).Nodup) (hj : l[j]? = some e) (hek : e.key = eK k) :
    ((l.map enE).set j (eK k, eV v)).Perm ((updK M k v).map fun p => (eK p.1, eV p.2)) := by
  have nd1 : (l.map enE).Nodup := by
    have : ((l.map enE).map Prod.fst).Nodup := by rw [List.map_map]; exact hn
    exact nd_of_map _ this
  have hkeysM : ∀ (M : List (κ × ν)), (M.map (·.1)).Nodup → (M.map fun p => (eK p.1, eV p.2)).Nodup := fun M hM => by
    have : ((M.map fun p => (eK p.1, eV p.2)).map Prod.fst) = (M.map (·.1)).map eK := by simp [List.map_map, Function.comp]
    refine nd_of_map Prod.fst ?_
    rw [this]
    exact nd_map eK inj hM
  have nd2 := hkeysM M hnM
  have hjl : j < l.length := (List.getElem?_eq_some_iff.1 hj).1
  rw [List.perm_ext_iff_of_nodup ?_ (hkeysM _ (updK_nodup hnM))]
  · rintro ⟨a, c⟩
    rw [List.mem_iff_getElem?]
    constructor
    · rintro ⟨i, hi⟩
      rw [List.getElem?_set] at hi
      split at hi
      · rename_i e1
        split at hi
        · cases hi
          exact List.mem_map.2 ⟨(k, v), getK_some (by rw [getK_updK hnM, if_pos rfl]), rfl⟩
        · cases hi
      · rename_i e1
        have hm := List.mem_of_getElem? hi
        rw [hp.mem_iff, List.mem_map] at hm
        obtain ⟨p, hpM, e2⟩ := hm
        simp only [Prod.mk.injEq] at e2
        have hne : p.1 ≠ k := fun e3 => by
          rw [List.getElem?_map] at hi
          obtain ⟨x, hx, e4⟩ := Option.map_eq_some_iff.1 hi
          simp only [enE, Prod.mk.injEq] at e4
          have h5 : (l.map (·.key))[i]? = (l.map (·.key))[j]? := by
            rw [List.getElem?_map, List.getElem?_map, hx, hj]
            simp only [Option.map_some, Option.some.injEq]
            rw [e4.1, ← e2.1, e3, hek]
          have := (List.getElem?_inj (by rw [List.length_map]; exact (List.getElem?_eq_some_iff.1 hx).1) hn).1 h5
          exact e1 this.symm
        exact List.mem_map.2 ⟨p, getK_some (by rw [getK_updK hnM, if_neg hne]; exact getK_of_mem hnM hpM), by rw [e2.1, e2.2]⟩
    · intro hm
      obtain ⟨p, hpu, e2⟩ := List.mem_map.1 hm
      simp only [Prod.mk.injEq] at e2
      by_cases hpk : p.1 = k
      · have hg2 : getK (updK M k v) p.1 = some p.2 := getK_of_mem (updK_nodup hnM) hpu
        rw [getK_updK hnM, if_pos hpk] at hg2
        refine ⟨j, ?_⟩
        rw [List.getElem?_set, if_pos rfl, if_pos (by simpa using hjl), ← e2.1, ← e2.2, hpk]
        cases hg2
        rfl
      · have hg2 : getK (updK M k v) p.1 = some p.2 := getK_of_mem (updK_nodup hnM) hpu
        rw [getK_updK hnM, if_neg hpk] at hg2
        have hm2 : (eK p.1, eV p.2) ∈ l.map enE := by rw [hp.mem_iff]; exact List.mem_map.2 ⟨p, getK_some hg2, rfl⟩
        obtain ⟨i, hi⟩ := List.mem_iff_getElem?.1 hm2
        refine ⟨i, ?_⟩
        rw [List.getElem?_set, if_neg (fun e1 => ?_), hi, ← e2.1, ← e2.2]
        subst e1
        rw [List.getElem?_map, hj] at hi
        simp only [Option.map_some, Option.some.injEq, enE, Prod.mk.injEq] at hi
        exact hpk (inj _ _ (by rw [← hi.1, hek]))
  · have hk2 : (((l.map enE).set j (eK k, eV v)).map Prod.fst).Nodup := by
      rw [List.map_set]
      have e3 : ((l.map enE).map Prod.fst) = l.map (·.key) := by rw [List.map_map]; rfl
      rw [e3]
      have e4 : (l.map (·.key)).set j (eK k) = l.map (·.key) := by
        apply List.ext_getElem?
        intro i
        rw [List.getElem?_set]
        split
        · rename_i e5
          subst e5
          rw [if_pos (by simpa using hjl), List.getElem?_map, hj]
          simp [hek]
        · rfl
      rw [e4]
      exact hn
    exact nd_of_map _ hk2
theorem map_modify_same {α β : Type} (g : α → β) (f : α → α) : ∀ (l : List α) (j : Nat), (∀ x, l[j]? = some x → g (f x) = g x) → (l.modify j f).map g = l.map g
  | [], j, _ => by simp
  | x :: l, 0, h => by simp [h x rfl]
  | x :: l, j + 1, h => by
    have := map_modify_same g f l j (fun y hy => h y (by rw [List.getElem?_cons_succ]; exact hy))
    simp [this]
theorem MapT.set (h : MapT P kt eK eV es clk M) (inj : ∀ a b, eK a = eK b → a = b) {k : κ} (v : ν) (hk : ∃ l, keyOf P kt (eK k) = some l) {j : Nat} {e : MapEntry} (hj : es.toList[j]? = some e) (hek : e.key = eK k) :
    MapT P kt eK eV (es.modify j fun e => { e with key := eK k, val := eV v }) clk (updK M k v) := by
  have hb : ((es.modify j fun e => { e with key := eK k, val := eV v }).toList.map (·.born)) = es.toList.map (·.born) := by
    rw [Array.toList_modify]
    exact map_modify_same _ _ _ _ fun _ _ => rfl
  have hkk : ((es.modify j fun e => { e with key := eK k, val := eV v }).toList.map (·.key)) = es.toList.map (·.key) := by
    rw [Array.toList_modify]
    exact map_modify_same _ _ _ _ fun x hx => by rw [hj] at hx; cases hx; exact hek.symm
  refine ⟨⟨fun x hx => ?_, by rw [hb]; exact h.st.2.1, by rw [hkk]; exact h.st.2.2⟩, fun p hp => ?_, ?_, updK_nodup h.nd⟩
  · have : x.born ∈ es.toList.map (·.born) := by rw [← hb]; exact List.mem_map.2 ⟨x, hx, rfl⟩
    obtain ⟨y, hy, e1⟩ := List.mem_map.1 this
    rw [← e1]
    exact h.st.1 y hy
  · have : p.1 ∈ (updK M k v).map (·.1) := List.mem_map.2 ⟨p, hp, rfl⟩
    rw [updK_keys_mem] at this
    rcases this with e1 | h1
    · rw [e1]; exact hk
    · obtain ⟨q, hq, e1⟩ := List.mem_map.1 h1
      rw [← e1]
      exact h.keys q hq
  · rw [Array.toList_modify, enE_modify _ _ _ hj]
    exact perm_upd eK eV inj h.perm h.st.2.2 h.nd hj hek
theorem MapT.push (h : MapT P kt eK eV es clk M) (inj : ∀ a b, eK a = eK b → a = b) {k : κ} (v : ν) (hk : ∃ l, keyOf P kt (eK k) = some l) (hg : getK M k = none) :
    MapT P kt eK eV (es.push { key := eK k, val := eV v, born := clk }) (clk + 1) (updK M k v) := by
  have hne : ∀ e ∈ es.toList, e.key ≠ eK k := fun e he e1 => by
    obtain ⟨p, hp, e2, -⟩ := h.mem he
    exact getK_none.1 hg p hp (inj _ _ (by rw [← e2, e1]))
  refine ⟨⟨fun x hx => ?_, ?_, ?_⟩, fun p hp => ?_, ?_, updK_nodup h.nd⟩
  · rw [Array.toList_push, List.mem_append, List.mem_singleton] at hx
    rcases hx with hx | rfl
    · have := h.st.1 x hx; omega
    · exact Nat.lt_succ_self _
  · rw [Array.toList_push, List.map_append, List.nodup_append]
    refine ⟨h.st.2.1, by simp, fun a ha b hb e1 => ?_⟩
    simp only [List.map_cons, List.map_nil, List.mem_singleton] at hb
    obtain ⟨x, hx, rfl⟩ := List.mem_map.1 ha
    have := h.st.1 x hx
    omega
  · rw [Array.toList_push, List.map_append, List.nodup_append]
    refine ⟨h.st.2.2, by simp, fun a ha b hb e1 => ?_⟩
    simp only [List.map_cons, List.map_nil, List.mem_singleton] at hb
    obtain ⟨x, hx, rfl⟩ := List.mem_map.1 ha
    exact hne x hx (by rw [e1, hb])
  · have : p.1 ∈ (updK M k v).map (·.1) := List.mem_map.2 ⟨p, hp, rfl⟩
    rw [updK_keys_mem] at this
    rcases this with e1 | h1
    · rw [e1]; exact hk
    · obtain ⟨q, hq, e1⟩ := List.mem_map.1 h1
      rw [← e1]
      exact h.keys q hq
  · unfold updK
    rw [hg]
    simp only [Option.isSome_none, cond_false, Array.toList_push, List.map_append, List.map_cons, List.map_nil]
    exact List.Perm.append_right _ h.perm
theorem MapT.update (h : MapT P kt eK eV es clk M) (K : Keyed P kt) (inj : ∀ a b, eK a = eK b → a = b) {t et : TypeId} (ht : P.underlying t = some (.map kt et)) {b : Nat} (hb : w.heap[b]? = some (.map es clk)) {k : κ} (v : ν) (hk : ∃ l, keyOf P kt (eK k) = some l) :
    ∃ es' clk', (Instr.mapUpdate t (.map (some b)) (eK k) (eV v)).run P w = .ok () (w.putObj b (.map es' clk')) ∧ MapT P kt eK eV es' clk' (updK M k v) := by
  obtain ⟨lx, hl⟩ := hk
  rcases h.find (w := w) K inj ⟨lx, hl⟩ with ⟨h1, h2, -⟩ | ⟨u, j, e, h1, h2, h3, h4, -⟩
  · refine ⟨_, _, ?_, h.push inj v ⟨lx, hl⟩ h1⟩
    unfold Instr.mapUpdate
    simp only [Sem.run_bind, run_underlying ht w, Result.andThen_ok, Go.MapKept.run_getObj_map hb, K.check w _ hl, h2, Go.MapKept.run_setObj_map _ hb]
    rfl
  · refine ⟨_, _, ?_, h.set inj v ⟨lx, hl⟩ h3 h4⟩
    have h5 : (((es[j]?).map (·.key)).getD (eK k)) = eK k := by
      have : es[j]? = some e := by rw [← Array.getElem?_toList]; exact h3
      rw [this]
      exact h4
    unfold Instr.mapUpdate
    simp only [Sem.run_bind, run_underlying ht w, Result.andThen_ok, Go.MapKept.run_getObj_map hb, K.check w _ hl, h2, h5, K.stays w hl, Go.MapKept.run_setObj_map _ hb]
    rfl
end
end Go.Proofs.YtljegdokbifoiaaGreatDoor.Af

namespace Go.Proofs.YtljegdokbifoiaaGreatDoor.Af
open Go.RowKit Go.Maps Go.MapKept

theorem Bx.setO {w0 w : World} {bs : List (Nat × Obj)} (h : Bx w0 bs w) (k : Nat) {b : Nat} {o o' : Obj} (hb : bs[k]? = some (b, o)) : Bx w0 (bs.set k (b, o')) (w.putObj b o') := by
  have hk : k < bs.length := (List.getElem?_eq_some_iff.1 hb).1
  have h0 := h.blk k _ hb
  have hge := h.ge k _ hb
  have hlt : b < w.heap.size := blk_size h0
  have other : ∀ j, j ≠ b → (w.putObj b o').heap[j]? = w.heap[j]? := fun j hj => by
    show (w.heap.setIfInBounds b o')[j]? = _
    rw [Array.getElem?_setIfInBounds, if_neg (fun e => hj e.symm)]
  have self : (w.putObj b o').heap[b]? = some o' := by
    show (w.heap.setIfInBounds b o')[b]? = _
    rw [Array.getElem?_setIfInBounds, if_pos rfl, if_pos hlt]
  have look : ∀ (i : Nat) (p : Nat × Obj), (bs.set k (b, o'))[i]? = some p → (i = k ∧ p = (b, o')) ∨ (i ≠ k ∧ bs[i]? = some p) := fun i p hp => by
    by_cases hik : k = i
    · subst hik
      rw [List.getElem?_set_self hk, Option.some.injEq] at hp
      exact .inl ⟨rfl, hp.symm⟩
    · rw [List.getElem?_set_ne hik] at hp
      exact .inr ⟨Ne.symm hik, hp⟩
  refine ⟨fun i p hp => ?_, ?_, fun i p hp => ?_, fun i j p q hp hq e => ?_⟩
  · rcases look i p hp with ⟨rfl, rfl⟩ | ⟨hik, hp⟩
    · exact self
    · have hne : p.1 ≠ b := fun e => hik (h.nd i k p _ hp hb e)
      rw [other p.1 hne]
      exact h.blk i p hp
  · refine h.bel.trans ⟨rfl, rfl, rfl, by simp [World.putObj], fun j hj => other j ?_⟩
    simp only at hge
    omega
  · rcases look i p hp with ⟨rfl, rfl⟩ | ⟨_, hp⟩
    · exact hge
    · exact h.ge i p hp
  · rcases look i p hp with ⟨rfl, rfl⟩ | ⟨hik, hp'⟩
    · rcases look j q hq with ⟨rfl, rfl⟩ | ⟨hjk, hq'⟩
      · rfl
      · exact (h.nd j i q _ hq' hb e.symm).symm
    · rcases look j q hq with ⟨rfl, rfl⟩ | ⟨hjk, hq'⟩
      · exact h.nd i j p _ hp' hb e
      · exact h.nd i j p q hp' hq' e
/-- A map's block has been turned, nothing else. -/
def Put (w w' : World) (b : Nat) : Prop := ∃ es clk es' clk', w.heap[b]? = some (.map es clk) ∧ w' = w.putObj b (.map es' clk')
theorem own_put {w w' : World} {b base e size nn : Nat} {v : Value} {xs : List Value} (h : w.ownsRow base e size v nn xs) (hp : Put w w' b) : w'.ownsRow base e size v nn xs := by
  obtain ⟨es, clk, es', clk', hb, rfl⟩ := hp
  refine h.kept (row := some b) ⟨rfl, rfl, rfl, by simp [World.putObj], fun k _ hk => ?_⟩ (.inr ?_)
  · show (w.heap.setIfInBounds b _)[k]? = _
    rw [Array.getElem?_setIfInBounds, if_neg (fun e => hk (by rw [e]))]
  · obtain ⟨_, h2⟩ := h
    rcases h2 with ⟨rfl, -⟩ | ⟨g, cap, cur, rfl, -, hh, -⟩
    · simp [Value.ownBlock]
    · intro hg
      simp only [Value.ownBlock, Option.some.injEq] at hg
      rw [hg, hb] at hh
      cases hh
/-- What a look-up comes to. -/
def lkD {κ ν : Type} [DecidableEq κ] (M : List (κ × ν)) (k : κ) (d : ν) : ν := (getK M k).getD d
section
variable {κ ν : Type} [DecidableEq κ] {P : Program} {kt et : TypeId} {eK : κ → Value} {eV : ν → Value} {es : Array MapEntry} {clk : Nat} {M : List (κ × ν)} {w w0 : World} {bs : List (Nat × Obj)} {l : List (Nat × Value)} {t ty : TypeId} {x y z : Operand}
theorem r_lookup (hB : Bx w0 bs w) (j : Nat) {b : Nat} {k : κ} {d : ν} (hb : bs[j]? = some (b, .map es clk)) (hM : MapT P kt eK eV es clk M) (K : Keyed P kt) (inj : ∀ a b, eK a = eK b → a = b) (hk : ∃ l, keyOf P kt (eK k) = some l) (ht : P.underlying t = some (.map kt et)) (hz : ∀ w, (zeroValue et).run P w = .ok (eV d) w)
    (hx : ev l x = .map (some b)) (hy : ev l y = eK k) : (xop l (.lookup t x y false) ty).run P w = .ok (.value (eV (lkD M k d))) w := by
  have h := hM.lookup K inj ht (hz w) (hB.at j hb) hk
  have e : lkV eV (eV d) M k = eV (lkD M k d) := by
    unfold lkV lkD
    cases getK M k <;> rfl
  unfold xop execOp
  simp only [hx, hy, Sem.run_bind, h, Result.andThen_ok, Sem.run_pure, e]
theorem r_lookupH {b : Nat} {k : κ} {d : ν} (hb : w.heap[b]? = some (.map es clk)) (hM : MapT P kt eK eV es clk M) (K : Keyed P kt) (inj : ∀ a b, eK a = eK b → a = b) (hk : ∃ l, keyOf P kt (eK k) = some l) (ht : P.underlying t = some (.map kt et)) (hz : ∀ w, (zeroValue et).run P w = .ok (eV d) w)
    (hx : ev l x = .map (some b)) (hy : ev l y = eK k) : (xop l (.lookup t x y false) ty).run P w = .ok (.value (eV (lkD M k d))) w := by
  have h := hM.lookup K inj ht (hz w) hb hk
  have e : lkV eV (eV d) M k = eV (lkD M k d) := by
    unfold lkV lkD
    cases getK M k <;> rfl
  unfold xop execOp
  simp only [hx, hy, Sem.run_bind, h, Result.andThen_ok, Sem.run_pure, e]
variable {ops : Array Oper} {Q : Exit → Act → World → Prop} {S : World → Prop} {r : List (Nat × Bool)} {n : Nat} {a : Act}
theorem sMU (i j : Nat) {b : Nat} {k : κ} {v : ν} (hF : Fr n l a) (hB : Bx w0 bs w) (hb : bs[j]? = some (b, .map es clk)) (hM : MapT P kt eK eV es clk M) (K : Keyed P kt) (inj : ∀ a b, eK a = eK b → a = b) (hk : ∃ l, keyOf P kt (eK k) = some l) (ht : P.underlying t = some (.map kt et))
    (ho : shp ops[i]? = some (none, .mapUpdate t x y z, ty, none)) (hkk : oks l (.mapUpdate t x y z) = true) (hx : ev l x = .map (some b)) (hy : ev l y = eK k) (hz : ev l z = eV v) (hS : ∀ es' clk' w', Bx w0 (bs.set j (b, .map es' clk')) w' → lastB ops i = true ∨ S w')
    (kk : ∀ es' clk' w', MapT P kt eK eV es' clk' (updK M k v) → Bx w0 (bs.set j (b, .map es' clk')) w' → Put w w' b → ∀ a, Fr n l a → wpO P ops Q S r a w') : wpO P ops Q S ((i, false) :: r) a w := by
  obtain ⟨es', clk', h1, h2⟩ := hM.update K inj ht (hB.at j hb) v hk
  have hB' : Bx w0 (bs.set j (b, .map es' clk')) (w.putObj b (.map es' clk')) := hB.setO j hb
  refine stS hF ho hkk gok_none ?_ (hS es' clk' _ hB') (kk es' clk' _ h2 hB' ⟨es, clk, es', clk', hB.at j hb, rfl⟩)
  unfold xop execOp
  simp only [hx, hy, hz, Sem.run_bind, h1, Result.andThen_ok, Sem.run_pure]
end
end Go.Proofs.YtljegdokbifoiaaGreatDoor.Af
