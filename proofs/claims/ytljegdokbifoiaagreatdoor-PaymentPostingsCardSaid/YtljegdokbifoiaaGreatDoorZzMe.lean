/- Maps in a walk: an entry for 'm[k] op= v', and the store into it. No condition. -/
import Derived.Test.YtljegdokbifoiaaGreatDoorZzMz
import Derived.WideKeyEntry
namespace Go.Proofs.YtljegdokbifoiaaGreatDoor.Af
open Go.RowKit Go.Maps Go.MapKept

section
variable {κ ν : Type} [DecidableEq κ] {M : List (κ × ν)} {k k' : κ} {v u d : ν}
theorem updK_updK : updK (updK M k u) k v = updK M k v := by
  have hs : (getK (updK M k u) k).isSome = true := by
    rw [Option.isSome_iff_ne_none]
    intro e
    rw [getK_none] at e
    have : k ∈ (updK M k u).map (·.1) := updK_keys_mem.2 (.inl rfl)
    obtain ⟨p, hp, e1⟩ := List.mem_map.1 this
    exact e p hp e1
  have e0 : updK (updK M k u) k v = (updK M k u).map fun p => if p.1 = k then (k, v) else p := by
    show (bif (getK (updK M k u) k).isSome then _ else _) = _
    rw [hs]
    rfl
  rw [e0]
  unfold updK
  cases hg : getK M k with
  | some x =>
    simp only [Option.isSome_some, cond_true, List.map_map]
    apply List.map_congr_left
    intro p _
    simp only [Function.comp]
    by_cases h : p.1 = k
    · simp [h]
    · simp [h]
  | none =>
    simp only [Option.isSome_none, cond_false, List.map_append, List.map_cons, List.map_nil, if_true]
    congr 1
    rw [List.map_congr_left (g := id)]
    · simp
    · intro p hp
      rw [if_neg (getK_none.1 hg p hp)]
      rfl
theorem lkD_updK (hn : (M.map (·.1)).Nodup) : lkD (updK M k v) k' d = if k' = k then v else lkD M k' d := by
  unfold lkD
  rw [getK_updK hn]
  split <;> rfl
theorem updK_mem : (k, v) ∈ updK M k v := by
  unfold updK
  cases hg : getK M k with
  | none => simp
  | some x =>
    simp only [Option.isSome_some, cond_true, List.mem_map]
    exact ⟨(k, x), getK_some hg, by simp⟩
theorem lkD_upd_self (hn : ((updK M k v).map (·.1)).Nodup) : lkD (updK M k v) k d = v := by
  unfold lkD
  rw [getK_of_mem hn updK_mem]
  rfl
theorem updK_self (hn : (M.map (·.1)).Nodup) (h : getK M k = some v) : updK M k v = M := by
  unfold updK
  rw [h]
  simp only [Option.isSome_some, cond_true]
  rw [List.map_congr_left (g := id)]
  · simp
  · intro p hp
    by_cases hk : p.1 = k
    · rw [if_pos hk]
      have := getK_of_mem hn (show (p.1, p.2) ∈ M from hp)
      rw [hk, h] at this
      cases this
      rw [← hk]
      rfl
    · rw [if_neg hk]
      rfl
end
/-- An entry for k is there, under the stamp st. -/
def EntS {κ ν : Type} [DecidableEq κ] (P : Program) (kt : TypeId) (eK : κ → Value) (eV : ν → Value) (es : Array MapEntry) (clk : Nat) (M : List (κ × ν)) (k : κ) (d : ν) (st : Nat) : Prop :=
  MapT P kt eK eV es clk (updK M k (lkD M k d)) ∧ ∃ (j : Nat) (e : MapEntry), es.toList[j]? = some e ∧ e.born = st ∧ e.key = eK k
section
variable {κ ν : Type} [DecidableEq κ] {P : Program} {kt et : TypeId} {eK : κ → Value} {eV : ν → Value} {es : Array MapEntry} {clk : Nat} {M : List (κ × ν)} {w w0 : World} {bs : List (Nat × Obj)} {l : List (Nat × Value)} {t ty : TypeId} {x y z : Operand}
theorem r_lookupE {st : Nat} (hB : Bx w0 bs w) (j : Nat) {b : Nat} {k : κ} {d : ν} (hb : bs[j]? = some (b, .map es clk)) (hM : EntS P kt eK eV es clk M k d st) (K : Keyed P kt) (inj : ∀ a b, eK a = eK b → a = b) (hk : ∃ l, keyOf P kt (eK k) = some l) (ht : P.underlying t = some (.map kt et)) (hz : ∀ w, (zeroValue et).run P w = .ok (eV d) w)
    (hx : ev l x = .map (some b)) (hy : ev l y = eK k) : (xop l (.lookup t x y false) ty).run P w = .ok (.value (eV (lkD M k d))) w := by
  have h := r_lookup (ty := ty) (d := d) hB j hb hM.1 K inj hk ht hz hx hy
  rwa [lkD_upd_self hM.1.nd] at h
theorem MapT.entry (h : MapT P kt eK eV es clk M) (K : Keyed P kt) (inj : ∀ a b, eK a = eK b → a = b) {d : ν} (hz : ∀ w, (zeroValue et).run P w = .ok (eV d) w) (ht : P.underlying t = some (.map kt et)) {b : Nat} (hb : w.heap[b]? = some (.map es clk)) {k : κ} (hk : ∃ l, keyOf P kt (eK k) = some l) :
    ∃ es' clk' st, (Instr.mapEntry t (.map (some b)) (eK k)).run P w = .ok (.tuple #[eV (lkD M k d), .int .i64 ((st : Nat) : Int)]) (w.putObj b (.map es' clk')) ∧ EntS P kt eK eV es' clk' M k d st := by
  obtain ⟨lx, hl⟩ := hk
  rcases h.find (w := w) K inj ⟨lx, hl⟩ with ⟨h1, h2, -⟩ | ⟨u, j, e, h1, h2, h3, h4, h5⟩
  · have hd : lkD M k d = d := by unfold lkD; rw [h1]; rfl
    refine ⟨es.push { key := eK k, val := eV d, born := clk }, clk + 1, clk, ?_, ?_, es.size, { key := eK k, val := eV d, born := clk }, by simp, rfl, rfl⟩
    · rw [hd]
      unfold Instr.mapEntry
      simp only [Sem.run_bind, run_underlying ht w, Result.andThen_ok, Go.MapKept.run_getObj_map hb, K.check w _ hl, h2, hz, Go.MapKept.run_setObj_map _ hb]
      rfl
    · rw [hd]
      exact h.push inj d ⟨lx, hl⟩ h1
  · have hd : lkD M k d = u := by unfold lkD; rw [h1]; rfl
    have hj : es[j]? = some e := by rw [← Array.getElem?_toList]; exact h3
    have hsame : es.modify j (fun e => { e with key := eK k }) = es.modify j fun e => { e with key := eK k, val := eV u } := by
      apply Array.ext'
      rw [Array.toList_modify, Array.toList_modify]
      have hm : ∀ (l : List MapEntry) (j : Nat), l[j]? = some e → l.modify j (fun e => { e with key := eK k }) = l.modify j fun e => { e with key := eK k, val := eV u } := by
        intro l
        induction l with
        | nil => intro j hj; simp at hj
        | cons a l ih =>
          intro j hj
          cases j with
          | zero =>
            simp only [List.getElem?_cons_zero, Option.some.injEq] at hj
            subst hj
            simp [← h5]
          | succ j =>
            rw [List.getElem?_cons_succ] at hj
            simp [ih j hj]
      exact hm _ j h3
    refine ⟨es.modify j fun e => { e with key := eK k }, clk, e.born, ?_, ?_, j, { e with key := eK k }, ?_, rfl, rfl⟩
    · have h6 : (((es[j]?).map (·.key)).getD (eK k)) = eK k := by rw [hj]; exact h4
      have h7 : ((Option.map (fun x : MapEntry => ((x.born : Nat) : Int)) es[j]?).getD 0) = ((e.born : Nat) : Int) := by rw [hj]; rfl
      rw [hd]
      unfold Instr.mapEntry
      simp only [Sem.run_bind, run_underlying ht w, Result.andThen_ok, Go.MapKept.run_getObj_map hb, K.check w _ hl, h2, h6, h7, K.stays w hl, Go.MapKept.run_setObj_map _ hb]
      rfl
    · rw [hd, hsame]
      exact h.set inj u ⟨lx, hl⟩ h3 h4
    · rw [Array.toList_modify, List.getElem?_modify, h3]
      simp
theorem EntS.store {k : κ} {d : ν} {st : Nat} (h : EntS P kt eK eV es clk M k d st) (inj : ∀ a b, eK a = eK b → a = b) {b : Nat} (hb : w.heap[b]? = some (.map es clk)) (v : ν) (hk : ∃ l, keyOf P kt (eK k) = some l) :
    ∃ es', (Instr.entryStore t (.map (some b)) (.int .i64 ((st : Nat) : Int)) (eV v)).run P w = .ok () (w.putObj b (.map es' clk)) ∧ MapT P kt eK eV es' clk (updK M k v) := by
  obtain ⟨hM, j, e, hj, hb1, hk1⟩ := h
  have hset := hM.set inj v hk hj hk1
  rw [updK_updK] at hset
  refine ⟨es.modify j fun e => { e with val := eV v }, ?_, ?_⟩
  · have hidx : es.findIdx? (fun e => ((e.born : Nat) : Int) == ((st : Nat) : Int)) = some j := by
      rw [Go.WideElems.findIdx_arr, ← hb1]
      exact Go.WideElems.findIdx_born hM.st.2.1 hj
    simp [Instr.entryStore, MapKept.run_getObj_map hb, asInt, asIntOf, hidx, MapKept.run_setObj_map _ hb, Result.andThen]
    rfl
  · have hsame : (es.modify j fun e => { e with val := eV v }) = es.modify j fun e => { e with key := eK k, val := eV v } := by
      apply Array.ext'
      rw [Array.toList_modify, Array.toList_modify]
      have hm : ∀ (l : List MapEntry) (j : Nat), l[j]? = some e → l.modify j (fun e => { e with val := eV v }) = l.modify j fun e => { e with key := eK k, val := eV v } := by
        intro l
        induction l with
        | nil => intro j hj; simp at hj
        | cons a l ih =>
          intro j hj
          cases j with
          | zero =>
            simp only [List.getElem?_cons_zero, Option.some.injEq] at hj
            subst hj
            simp [← hk1]
          | succ j =>
            rw [List.getElem?_cons_succ] at hj
            simp [ih j hj]
      exact hm _ j hj
    rw [hsame]
    exact hset
variable {ops : Array Oper} {Q : Exit → Act → World → Prop} {S : World → Prop} {r : List (Nat × Bool)} {n : Nat} {a : Act}
theorem sME (i dd j : Nat) {b : Nat} {k : κ} {d : ν} (hF : Fr n l a) (hB : Bx w0 bs w) (hb : bs[j]? = some (b, .map es clk)) (hM : MapT P kt eK eV es clk M) (K : Keyed P kt) (inj : ∀ a b, eK a = eK b → a = b) (hk : ∃ l, keyOf P kt (eK k) = some l) (ht : P.underlying t = some (.map kt et)) (hz : ∀ w, (zeroValue et).run P w = .ok (eV d) w)
    (ho : shp ops[i]? = some (some dd, .mapEntry t x y, ty, none)) (hd : Nat.blt dd n = true) (hkk : oks l (.mapEntry t x y) = true) (hx : ev l x = .map (some b)) (hy : ev l y = eK k) (hS : ∀ es' clk' w', Bx w0 (bs.set j (b, .map es' clk')) w' → S w')
    (kk : ∀ es' clk' st w', EntS P kt eK eV es' clk' M k d st → Bx w0 (bs.set j (b, .map es' clk')) w' → Put w w' b → ∀ a, Fr n ((dd, .tuple #[eV (lkD M k d), .int .i64 ((st : Nat) : Int)]) :: l) a → wpO P ops Q S r a w') : wpO P ops Q S ((i, false) :: r) a w := by
  obtain ⟨es', clk', st, h1, h2⟩ := hM.entry K inj hz ht (hB.at j hb) hk
  have hB' : Bx w0 (bs.set j (b, .map es' clk')) (w.putObj b (.map es' clk')) := hB.setO j hb
  refine stE hF ho hd hkk gok_none ?_ (hS es' clk' _ hB') (kk es' clk' st _ h2 hB' ⟨es, clk, es', clk', hB.at j hb, rfl⟩)
  unfold xop execOp
  simp only [hx, hy, Sem.run_bind, h1, Result.andThen_ok, Sem.run_pure]
theorem sES (i j : Nat) {b st : Nat} {k : κ} {d v : ν} (hF : Fr n l a) (hB : Bx w0 bs w) (hb : bs[j]? = some (b, .map es clk)) (hM : EntS P kt eK eV es clk M k d st) (inj : ∀ a b, eK a = eK b → a = b) (hk : ∃ l, keyOf P kt (eK k) = some l)
    (ho : shp ops[i]? = some (none, .entryStore t x y z, ty, none)) (hkk : oks l (.entryStore t x y z) = true) (hx : ev l x = .map (some b)) (hy : ev l y = .int .i64 ((st : Nat) : Int)) (hz : ev l z = eV v) (hS : ∀ es' clk' w', Bx w0 (bs.set j (b, .map es' clk')) w' → lastB ops i = true ∨ S w')
    (kk : ∀ es' clk' w', MapT P kt eK eV es' clk' (updK M k v) → Bx w0 (bs.set j (b, .map es' clk')) w' → Put w w' b → ∀ a, Fr n l a → wpO P ops Q S r a w') : wpO P ops Q S ((i, false) :: r) a w := by
  obtain ⟨es', h1, h2⟩ := hM.store (t := t) inj (hB.at j hb) v hk
  have hB' : Bx w0 (bs.set j (b, .map es' clk)) (w.putObj b (.map es' clk)) := hB.setO j hb
  refine stS hF ho hkk gok_none ?_ (hS es' clk _ hB') (kk es' clk _ h2 hB' ⟨es, clk, es', clk, hB.at j hb, rfl⟩)
  unfold xop execOp
  simp only [hx, hy, hz, Sem.run_bind, h1, Result.andThen_ok, Sem.run_pure]
end
end Go.Proofs.YtljegdokbifoiaaGreatDoor.Af
