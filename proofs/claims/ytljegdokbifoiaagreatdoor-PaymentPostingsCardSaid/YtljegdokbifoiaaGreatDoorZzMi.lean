/- Ranging over a map: what is left, step by step; leaving entries out. No condition. -/
import Derived.Test.YtljegdokbifoiaaGreatDoorZzMz
import Derived.Maps.OwnIn
import Derived.Maps.RangeRun
import Derived.RangeFuncSeq
namespace Go.Proofs.YtljegdokbifoiaaGreatDoor.Af
open Go.RowKit Go.Maps Go.MapKept
open Go.ChangeMaps (setBlock)

/-- A range under way over a map that no round has laid entries into: 'Sn': the keys that have come. -/
structure MIt {κ ν : Type} (P : Program) (kt : TypeId) (eK : κ → Value) (eV : ν → Value) (w : World) (b r : Nat) (M : List (κ × ν)) (Sn : κ → Prop) (cnt : Nat) : Prop where
  it : ∃ es clk since seen c0, w.heap[b]? = some (.map es clk) ∧ MapT P kt eK eV es clk M ∧ w.heap[r]? = some (.mapIter (some b) since seen c0) ∧ (∀ x ∈ es.toList, x.born < since) ∧ since ≤ c0 ∧ since ≤ clk ∧ (leftOf es seen).size = cnt ∧
    ∀ x ∈ es.toList, ∀ k, x.key = eK k → (seen.contains x.born = true ↔ Sn k)
section
variable {κ ν : Type} {P : Program} {kt : TypeId} {eK : κ → Value} {eV : ν → Value} {es : Array MapEntry} {clk : Nat} {M : List (κ × ν)} {w w' : World} {b r cnt : Nat} {Sn : κ → Prop}
theorem MIt.ne (h : MIt P kt eK eV w b r M Sn cnt) : r ≠ b := by
  obtain ⟨es, clk, since, seen, c0, hb, -, hr, -⟩ := h
  intro e
  rw [e, hb] at hr
  cases hr
theorem MIt.lt (h : MIt P kt eK eV w b r M Sn cnt) : b < w.heap.size ∧ r < w.heap.size := by
  obtain ⟨es, clk, since, seen, c0, hb, -, hr, -⟩ := h
  exact ⟨(Array.getElem?_eq_some_iff.1 hb).1, (Array.getElem?_eq_some_iff.1 hr).1⟩
theorem MIt.same (h : MIt P kt eK eV w b r M Sn cnt) (hb' : ∀ o, w.heap[b]? = some o → o.isWalk = true → w'.heap[b]? = some o) (hr' : ∀ o, w.heap[r]? = some o → o.isWalk = true → w'.heap[r]? = some o) : MIt P kt eK eV w' b r M Sn cnt := by
  obtain ⟨es, clk, since, seen, c0, hb, hM, hr, h1⟩ := h
  exact ⟨es, clk, since, seen, c0, hb' _ hb rfl, hM, hr' _ hr rfl, h1⟩
theorem MIt.walks (h : MIt P kt eK eV w b r M Sn cnt) (hk : KeepsWalks w w') : MIt P kt eK eV w' b r M Sn cnt := h.same (fun _ ho hw => hk.same b _ ho hw) (fun _ ho hw => hk.same r _ ho hw)
theorem MIt.below (h : MIt P kt eK eV w b r M Sn cnt) (hk : Below w.heap.size w w') : MIt P kt eK eV w' b r M Sn cnt := h.same (fun _ ho _ => (hk.block b h.lt.1).trans ho) (fun _ ho _ => (hk.block r h.lt.2).trans ho)
theorem MIt.left_eq (h : MIt P kt eK eV w b r M Sn cnt) : w.rangeLeft b r = cnt := by
  obtain ⟨es, clk, since, seen, c0, hb, -, hr, -, -, -, hc, -⟩ := h
  simp only [World.rangeLeft, hb, hr]
  exact hc
theorem MIt.start (hb : w.heap[b]? = some (.map es clk)) (hM : MapT P kt eK eV es clk M) {t et : TypeId} (ht : P.underlying t = some (.map kt et)) :
    ∃ w', (Instr.range t (.map (some b))).run P w = .ok (.pointer (some ⟨w.heap.size, 0, none⟩)) w' ∧ MIt P kt eK eV w' b w.heap.size M (fun _ => False) es.size ∧ w.grownBy w' none ∧ w'.heap.size = w.heap.size + 1 := by
  have hlt : b < w.heap.size := (Array.getElem?_eq_some_iff.1 hb).1
  refine ⟨_, run_range_map w t kt et b es clk ht hb, ⟨es, clk, clk, #[], clk, ((MapKept.heap_alloc w _).2 b hlt).trans hb, hM, (MapKept.heap_alloc w _).1, hM.st.1, Nat.le_refl _, Nat.le_refl _, by simp [leftOf], fun _ _ _ _ => by simp⟩, World.grownBy_alloc w _ none, by simp⟩
theorem MIt.next (h : MIt P kt eK eV w b r M Sn cnt) (inj : ∀ a b, eK a = eK b → a = b) (ty : TypeId) :
    (cnt = 0 ∧ (∀ p ∈ M, Sn p.1) ∧ (Instr.next (.pointer (some ⟨r, 0, none⟩)) false ty).run P w = .ok (.tuple #[.bool false]) w) ∨
    ∃ k v w' cnt', (k, v) ∈ M ∧ ¬ Sn k ∧ (Instr.next (.pointer (some ⟨r, 0, none⟩)) false ty).run P w = .ok (.tuple #[.bool true, eK k, eV v]) w' ∧
      MIt P kt eK eV w' b r M (fun x => Sn x ∨ x = k) cnt' ∧ cnt' < cnt ∧ w.grownBy w' (some r) ∧ w'.heap.size = w.heap.size ∧ (Instr.entry (.pointer (some ⟨r, 0, none⟩))).run P w' = .ok (.tuple #[eK k, eV v]) w' := by
  have hne := h.ne
  obtain ⟨es, clk, since, seen, c0, hb, hM, hr, hold, hsc, hsk, hc, hS⟩ := h
  rcases run_next_at (P := P) w ty r b since c0 seen es clk hr hb hold hsc with ⟨h0, hrun⟩ | ⟨e, he, w1, hal, hrun⟩
  · refine Or.inl ⟨by omega, fun p hp => ?_, hrun⟩
    obtain ⟨e, he, hk, -⟩ := hM.mem' hp
    exact (hS e he _ hk).1 (all_seen es seen h0 e he)
  · obtain ⟨he1, he2⟩ := mem_left he
    obtain ⟨p, hp, hk, hv⟩ := hM.mem he1
    have hlt := (Array.getElem?_eq_some_iff.1 hr).1
    have hblt := (Array.getElem?_eq_some_iff.1 hb).1
    have hg1 : w.grownBy w1 none ∧ w1.heap = w.heap := by
      rcases hal with rfl | rfl
      · exact ⟨⟨rfl, rfl, rfl, Nat.le_refl _, fun _ _ _ => rfl⟩, rfl⟩
      · exact ⟨⟨rfl, rfl, rfl, Nat.le_refl _, fun _ _ _ => rfl⟩, rfl⟩
    have hself : (setBlock w1 r (.mapIter (some b) since (seen.push e.born) clk)).heap[r]? = some (.mapIter (some b) since (seen.push e.born) clk) := by
      unfold setBlock
      simp only [hg1.2]
      rw [Array.getElem?_setIfInBounds, if_pos rfl, if_pos hlt]
    have hoth : ∀ k, k ≠ r → (setBlock w1 r (.mapIter (some b) since (seen.push e.born) clk)).heap[k]? = w.heap[k]? := fun k hk => by
      unfold setBlock
      simp only [hg1.2]
      rw [Array.getElem?_setIfInBounds, if_neg (fun e => hk e.symm)]
    have hsz : (setBlock w1 r (.mapIter (some b) since (seen.push e.born) clk)).heap.size = w.heap.size := by
      unfold setBlock
      simp [hg1.2]
    have hb2 := (hoth b (Ne.symm hne)).trans hb
    rw [hk, hv] at hrun
    have hen := run_entry_at (P := P) _ r b since seen es clk e hself hb2 he1 hM.st.2.1
    rw [hk, hv] at hen
    refine Or.inr ⟨p.1, p.2, _, (leftOf es (seen.push e.born)).size, hp, fun hs => ?_, hrun, ⟨es, clk, since, seen.push e.born, clk, hb2, hM, hself, hold, hsk, hsk, rfl, fun x hx k hxk => ?_⟩, by rw [← hc]; exact left_shrinks es seen e he, ⟨hg1.1.1, hg1.1.2, hg1.1.3, Nat.le_of_eq hsz.symm, fun k _ hk => hoth k (fun e => hk (by rw [e]))⟩, hsz, hen⟩
    · have := (hS e he1 p.1 hk).2 hs
      rw [he2] at this
      cases this
    · rw [Array.contains_push, Bool.or_eq_true, hS x hx k hxk]
      refine or_congr Iff.rfl ⟨fun h1 => ?_, fun h1 => ?_⟩
      · have h2 : x = e := born_inj hM.st.2.1 hx he1 (by simpa using h1)
        subst h2
        exact inj _ _ (by rw [← hxk, hk])
      · have h2 : x = e := entry_eq_of_key (List.pairwise_map.1 hM.st.2.2) hx he1 (by rw [hxk, hk, h1])
        rw [h2]
        simp
theorem eraseIdx_map {α β : Type} (f : α → β) : ∀ (l : List α) (j : Nat), (l.eraseIdx j).map f = (l.map f).eraseIdx j
  | [], _ => rfl
  | _ :: _, 0 => rfl
  | _ :: l, j + 1 => by simp [eraseIdx_map f l j]
theorem nd_erase_iff {α : Type} {l : List α} (hn : l.Nodup) {j : Nat} {e x : α} (hj : l[j]? = some e) : x ∈ l.eraseIdx j ↔ x ∈ l ∧ x ≠ e := by
  rw [List.mem_eraseIdx_iff_getElem?, List.mem_iff_getElem?]
  constructor
  · rintro ⟨i, hi, h⟩
    refine ⟨⟨i, h⟩, fun e1 => hi ?_⟩
    subst e1
    exact (List.getElem?_inj (List.getElem?_eq_some_iff.1 h).1 hn).1 (h.trans hj.symm)
  · rintro ⟨⟨i, h⟩, hne⟩
    refine ⟨i, fun e1 => hne ?_, h⟩
    subst e1
    rw [h] at hj
    exact Option.some.inj hj
/-- An entry is left out while a range is under way. -/
theorem MIt.del [DecidableEq κ] (h : MIt P kt eK eV w b r M Sn cnt) (K : Keyed P kt) (inj : ∀ a b, eK a = eK b → a = b) {t et : TypeId} (ht : P.underlying t = some (.map kt et)) {k : κ} {v : ν} (hk : (k, v) ∈ M) (ty : TypeId) :
    ∃ w' cnt', (Builtin.delete_ #[t, kt] ty #[.map (some b), eK k]).run P w = .ok (.tuple #[]) w' ∧ MIt P kt eK eV w' b r (M.filter fun p => p.1 ≠ k) Sn cnt' ∧ cnt' ≤ cnt ∧ w.grownBy w' (some b) ∧ w'.heap.size = w.heap.size := by
  have hne := h.ne
  have hlt := h.lt
  obtain ⟨es, clk, since, seen, c0, hb, hM, hr, hold, hsc, hsk, hc, hS⟩ := h
  obtain ⟨lx, hl⟩ : ∃ l, keyOf P kt (eK k) = some l := hM.keys _ hk
  rcases hM.find (w := w) K inj ⟨lx, hl⟩ with ⟨h1, -, -⟩ | ⟨u, j, e, h1, h2, h3, h4, h5⟩
  · exact absurd rfl (getK_none.1 h1 _ hk)
  have hrun : (Builtin.delete_ #[t, kt] ty #[.map (some b), eK k]).run P w = .ok (.tuple #[]) (w.putObj b (.map (es.eraseIdxIfInBounds j) clk)) := by
    unfold Builtin.delete_
    simp only [List.getElem?_toArray, List.getElem?_cons_zero, List.getElem?_cons_succ, Sem.run_bind, run_underlying ht w, Result.andThen_ok, Go.MapKept.run_getObj_map hb, K.check w _ hl, h2, Go.MapKept.run_setObj_map _ hb, Sem.run_pure]
    rfl
  have htl : (es.eraseIdxIfInBounds j).toList = es.toList.eraseIdx j := by rw [Array.toList_eraseIdxIfInBounds]
  have hsub : ∀ x, x ∈ (es.eraseIdxIfInBounds j).toList → x ∈ es.toList := fun x hx => by rw [htl] at hx; exact (List.eraseIdx_sublist _ _).subset hx
  have hself : (w.putObj b (.map (es.eraseIdxIfInBounds j) clk)).heap[b]? = some (.map (es.eraseIdxIfInBounds j) clk) := World.putObj_heap_same hlt.1
  have hoth : ∀ i, i ≠ b → (w.putObj b (.map (es.eraseIdxIfInBounds j) clk)).heap[i]? = w.heap[i]? := fun i hi => World.putObj_heap_other hi
  have hpn : (es.toList.map enE).Nodup := nd_of_map Prod.fst (by rw [List.map_map]; exact hM.st.2.2)
  have hje : (es.toList.map enE)[j]? = some (enE e) := by rw [List.getElem?_map, h3]; rfl
  have hM' : MapT P kt eK eV (es.eraseIdxIfInBounds j) clk (M.filter fun p => p.1 ≠ k) := by
    refine ⟨⟨fun x hx => hM.st.1 x (hsub x hx), ?_, ?_⟩, fun p hp => hM.keys p (List.mem_filter.1 hp).1, ?_, ?_⟩
    · rw [htl, eraseIdx_map]; exact hM.st.2.1.sublist (List.eraseIdx_sublist _ _)
    · rw [htl, eraseIdx_map]; exact hM.st.2.2.sublist (List.eraseIdx_sublist _ _)
    · have hMn : (M.map fun p => (eK p.1, eV p.2)).Nodup := (hM.perm.nodup_iff).1 hpn
      have hfn : ((M.filter fun p => p.1 ≠ k).map fun p => (eK p.1, eV p.2)).Nodup := hMn.sublist ((List.filter_sublist).map _)
      rw [htl, eraseIdx_map, List.perm_ext_iff_of_nodup (hpn.sublist (List.eraseIdx_sublist _ _)) hfn]
      intro q
      rw [nd_erase_iff hpn hje, hM.perm.mem_iff, List.mem_map, List.mem_map]
      constructor
      · rintro ⟨⟨p, hp, rfl⟩, hq⟩
        refine ⟨p, List.mem_filter.2 ⟨hp, decide_eq_true fun e1 => hq ?_⟩, rfl⟩
        have hv1 := getK_of_mem hM.nd hp
        rw [e1, h1] at hv1
        have hem : enE e ∈ es.toList.map enE := List.mem_iff_getElem?.2 ⟨j, hje⟩
        rw [hM.perm.mem_iff, List.mem_map] at hem
        obtain ⟨p', hp', e2⟩ := hem
        have e3 : p'.1 = k := inj _ _ (by have := (Prod.mk.injEq .. ▸ e2 : eK p'.1 = e.key ∧ eV p'.2 = e.val).1; rw [this, h4])
        have hv2 := getK_of_mem hM.nd hp'
        rw [e3, h1] at hv2
        rw [← e2, e3, e1, ← Option.some.inj hv1, ← Option.some.inj hv2]
      · rintro ⟨p, hp, rfl⟩
        rw [List.mem_filter] at hp
        refine ⟨⟨p, hp.1, rfl⟩, fun e1 => ?_⟩
        have e2 : eK p.1 = e.key := congrArg Prod.fst e1
        exact of_decide_eq_true hp.2 (inj _ _ (by rw [e2, h4]))
    · exact hM.nd.sublist ((List.filter_sublist).map _)
  refine ⟨_, (leftOf (es.eraseIdxIfInBounds j) seen).size, hrun, ⟨_, clk, since, seen, c0, hself, hM', (hoth r hne).trans hr, fun x hx => hold x (hsub x hx), hsc, hsk, rfl, fun x hx => hS x (hsub x hx)⟩, ?_, ⟨rfl, rfl, rfl, by simp [World.putObj], fun i _ hi => hoth i (fun e => hi (by rw [e]))⟩, by simp [World.putObj]⟩
  rw [← hc]
  unfold leftOf
  have e1 : ((es.eraseIdxIfInBounds j).filter fun e => !seen.contains e.born).size = ((es.toList.eraseIdx j).filter fun e => !seen.contains e.born).length := by rw [← htl, ← Array.toList_filter, Array.length_toList]
  have e2 : (es.filter fun e => !seen.contains e.born).size = (es.toList.filter fun e => !seen.contains e.born).length := by rw [← Array.toList_filter, Array.length_toList]
  rw [e1, e2]
  exact ((List.eraseIdx_sublist _ _).filter _).length_le
end
def AllS {κ ν : Type} (M : List (κ × ν)) (Sn : κ → Prop) : Prop := ∀ p ∈ M, Sn p.1
structure Ent (κ ν : Type) where
  k : κ
  v : ν
section
variable {κ ν : Type} {F : Fence} {nF : Nat} {P : Program} (w : World) {ops : Array Oper} {rest : List Oper} {o : Oper} {a : Act} {Q : Exit → Act → World → Prop} {kt : TypeId} {eK : κ → Value} {eV : ν → Value} {M : List (κ × ν)} {b r cnt : Nat} {Sn : κ → Prop}
theorem gi_next (hg : o.guard = none) (it : Operand) (hop : o.op = Op.next it false) (inj : ∀ a b, eK a = eK b → a = b) (hit : a.eval it = .pointer (some ⟨r, 0, none⟩)) (h : MIt P kt eK eV w b r M Sn cnt)
    (hDone : cnt = 0 → AllS M Sn → wpListIn F nF P ops Q rest (a.put o.dst (.tuple #[.bool false])) w)
    (hMore : ∀ (q : Ent κ ν) w' cnt', (q.k, q.v) ∈ M → ¬ Sn q.k → MIt P kt eK eV w' b r M (fun x => Sn x ∨ x = q.k) cnt' → cnt' < cnt → w.grownBy w' (some r) → w'.heap.size = w.heap.size → (Instr.entry (.pointer (some ⟨r, 0, none⟩))).run P w' = .ok (.tuple #[eK q.k, eV q.v]) w' → wpListIn F nF P ops Q rest (a.put o.dst (.tuple #[.bool true, eK q.k, eV q.v])) w') :
    wpListIn F nF P ops Q (o :: rest) a w := by
  refine wpListIn_plain hg fun K' hK' => ?_
  unfold Oper.wpIn
  refine ⟨by simp [Oper.about, hop], ?_⟩
  rw [Oper.semAt_plain F _ _ (by rw [hop]; intro c hc'; cases hc')]
  rcases h.next inj o.type with ⟨h0, h1, hrun⟩ | ⟨k, v, w', cnt', h1, h2, hrun, h3, h4, h5, h6, h7⟩
  · simp [execOp, hop, hit, hrun, Result.andThen]
    exact hK' _ _ (hDone h0 h1)
  · simp [execOp, hop, hit, hrun, Result.andThen]
    exact hK' _ _ (hMore ⟨k, v⟩ w' cnt' h1 h2 h3 h4 h5 h6 h7)
theorem gi_range {es : Array MapEntry} {clk : Nat} (hg : o.guard = none) (x : Operand) (t et : TypeId) (hop : o.op = Op.range t x) (ht : P.underlying t = some (.map kt et)) (hx : a.eval x = .map (some b)) (hb : w.heap[b]? = some (.map es clk)) (hM : MapT P kt eK eV es clk M)
    (k : ∀ w', MIt P kt eK eV w' b w.heap.size M (fun _ => False) es.size → w.grownBy w' none → w'.heap.size = w.heap.size + 1 → wpListIn F nF P ops Q rest (a.put o.dst (.pointer (some ⟨w.heap.size, 0, none⟩))) w') :
    wpListIn F nF P ops Q (o :: rest) a w := by
  refine wpListIn_plain hg fun K' hK' => ?_
  obtain ⟨w', hrun, r1, r2, r3⟩ := MIt.start (w := w) hb hM ht
  unfold Oper.wpIn
  refine ⟨by simp [Oper.about, hop], ?_⟩
  rw [Oper.semAt_plain F _ _ (by rw [hop]; intro c hc'; cases hc')]
  simp [execOp, hop, hx, hrun, Result.andThen]
  exact hK' _ _ (k w' r1 r2 r3)
theorem gi_delete [DecidableEq κ] (hg : o.guard = none) (m x : Operand) (t et : TypeId) (hop : o.op = Op.call { callee := Callee.builtin Builtin.delete, args := #[m, x], argTypes := #[t, kt] }) (K : Keyed P kt) (inj : ∀ a b, eK a = eK b → a = b) (ht : P.underlying t = some (.map kt et))
    (h : MIt P kt eK eV w b r M Sn cnt) {k : κ} {v : ν} (hk : (k, v) ∈ M) (hm : a.eval m = .map (some b)) (hx : a.eval x = eK k)
    (kk : ∀ w' cnt', MIt P kt eK eV w' b r (M.filter fun p => p.1 ≠ k) Sn cnt' → cnt' ≤ cnt → w.grownBy w' (some b) → w'.heap.size = w.heap.size → wpListIn F nF P ops Q rest (a.put o.dst (.tuple #[])) w') :
    wpListIn F nF P ops Q (o :: rest) a w := by
  refine wpListIn_plain hg fun K' hK' => ?_
  obtain ⟨w', cnt', hrun, r1, r2, r3, r4⟩ := h.del K inj ht hk o.type
  unfold Oper.wpIn
  refine ⟨by simp [Oper.about, hop, resolve, Target.leads, Sem.run_pure], ?_⟩
  rw [Oper.semAt_plain F _ _ (by rw [hop]; intro c hc'; cases hc')]
  simp [execOp, hop, resolve, invoke, builtin, hm, hx, hrun, Result.andThen]
  exact hK' _ _ (kk w' cnt' r1 r2 r3 r4)
end
end Go.Proofs.YtljegdokbifoiaaGreatDoor.Af
