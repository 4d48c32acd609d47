/- Rows of the call's own, appended to one another: what stays apart. No condition. -/
import Derived.Test.YtljegdokbifoiaaDoorNzp
import Derived.Test.YtljegdokbifoiaaDoorCl
import Derived.ArgAppend
import Derived.Laws.OwnMore
namespace Go.Proofs.YtljegdokbifoiaaDoor.Af
open Go.RowKit

def Apart (v u : Value) : Prop := ∀ k, v.ownBlock = some k → u.ownBlock ≠ some k
def Fresh (w : World) (v v' : Value) : Prop := ∀ k, k < w.heap.size → v.ownBlock ≠ some k → v'.ownBlock ≠ some k
section
variable {P : Program}
theorem append_any (w : World) (base : Nat) (t ty e : TypeId) (i : TypeInfo) (z : Value) (size bytes : Nat) (ht : P.underlying t = some (.slice e)) (hi : P.info? e = some i) (hz : i.zero = some z) (hsize : i.size = size) (hby : i.bytes = bytes) (hzs : z.cells.size = size) (hsz : 0 < size)
    (v : Value) (n : Nat) (xs : List Value) (hown : w.ownsRow base e size v n xs) (A : Option Addr) (m c : Nat) (news : List Value) (hl : news.length = m * size) (hrd : Rd w A news) (hA : A = none → m = 0 ∧ c = 0) (h1 : ∀ u ∈ news, u.oneCell' = true)
    (h63 : n + m ≤ maxLen) (hbytes : (n + m) * bytes ≤ 140737488355328) (hbase : base ≤ w.heap.size) :
    ∃ v' w', (Builtin.append_ #[t, t] ty #[v, .slice A m c]).run P w = .ok v' w' ∧ w'.ownsRow base e size v' (n + m) (xs ++ news) ∧ w.grownBy w' v.ownBlock ∧ Fresh w v v' := by
  cases A with
  | none =>
    obtain ⟨rfl, rfl⟩ := hA rfl
    have hn : news = [] := List.eq_nil_of_length_eq_zero (by rw [hl, Nat.zero_mul])
    subst hn
    refine ⟨v, w, run_append_owned_none w base t ty e i size ht hi v n xs hown, by rw [Nat.add_zero, List.append_nil]; exact hown, ⟨rfl, rfl, rfl, Nat.le_refl _, fun _ _ _ => rfl⟩, fun _ _ h => h⟩
  | some a =>
    have hnews : ∀ j u, news[j]? = some u → w.cell? (a.add j) = some u := fun j u hj => by
      obtain ⟨ad, e1, -, h2⟩ := hrd j u hj
      cases e1
      exact h2
    have old := hown
    obtain ⟨hxl, ⟨rfl, rfl⟩ | ⟨g, cap, cur, rfl, hbg, hg, hnc, hcm, hcs, htake⟩⟩ := hown
    · have hx : xs = [] := List.eq_nil_of_length_eq_zero (by simpa using hxl)
      subst hx
      obtain ⟨v', w', h2, h3, h4, -⟩ := run_append_own (P := P) w w.heap.size t ty e i z size bytes ht hi hz hsize hby hzs hsz (.slice none 0 0) 0 [] (own_nil _ _ _ _) a m c news hl hnews h1 h63 hbytes (Nat.le_refl _)
      refine ⟨v', w', h2, own_base h3 hbase, h4, fun k hk _ e => ?_⟩
      have := (h3.lt k e).1
      omega
    · by_cases hroom : n + m ≤ cap
      · obtain ⟨w', h2, h3, h4⟩ := run_append_fits (P := P) w base t ty e i size ht hi hsize g n cap xs old a m c news hl hnews h1 hroom
        exact ⟨_, w', h2, h3, h4, fun k hk hne => hne⟩
      · have holds : ∀ j u, xs[j]? = some u → w.cell? ((⟨g, 0, none⟩ : Addr).add j) = some u := old.cells (g := g) rfl
        obtain ⟨v', w', h2, h3, h4⟩ := run_append_arg_grows (P := P) w t ty e i z size bytes ht hi hz hsize hby hzs hsz ⟨g, 0, none⟩ n cap xs hxl holds a m c news hl hnews (by omega) h63 hbytes
        refine ⟨v', w', h2, own_base h3 hbase, ⟨h4.os, h4.tape, h4.output, h4.size, fun k hk _ => h4.block k hk (by simp)⟩, fun k hk _ e => ?_⟩
        have := (h3.lt k e).1
        omega
end
/-- Others: rows of the call's own that are read. -/
def Oth (w : World) (base e size : Nat) (v : Value) (us : List (Value × Nat × List Value)) : Prop := ∀ u ∈ us, w.ownsRow base e size u.1 u.2.1 u.2.2 ∧ Apart v u.1
theorem Oth.nil {w : World} {base e size : Nat} {v : Value} : Oth w base e size v [] := fun _ h => by cases h
theorem Oth.cons {w : World} {base e size n : Nat} {v u : Value} {xs : List Value} {us : List (Value × Nat × List Value)} (h : Oth w base e size v us) (ho : w.ownsRow base e size u n xs) (ha : Apart v u) : Oth w base e size v ((u, n, xs) :: us) := fun p hp => by
  rcases List.mem_cons.1 hp with rfl | hp
  · exact ⟨ho, ha⟩
  · exact h p hp
theorem Oth.hd {w : World} {base e size n : Nat} {v u : Value} {xs : List Value} {us : List (Value × Nat × List Value)} (h : Oth w base e size v ((u, n, xs) :: us)) : w.ownsRow base e size u n xs ∧ Apart v u := h (u, n, xs) (by simp)
theorem Oth.tl {w : World} {base e size n : Nat} {v u : Value} {xs : List Value} {us : List (Value × Nat × List Value)} (h : Oth w base e size v ((u, n, xs) :: us)) : Oth w base e size v us := fun p hp => h p (by simp [hp])
theorem apart_new {w : World} {base e size n b m c : Nat} {u : Value} {xs : List Value} (h : w.ownsRow base e size u n xs) (hb : b = w.heap.size) : Apart (.slice (some ⟨b, 0, none⟩) m c) u := fun k hk e => by
  have := (h.lt k e).2
  simp only [Value.ownBlock, Option.some.injEq] at hk
  omega
theorem apart_swap {v u : Value} (h : Apart v u) : Apart u v := fun k hk e => h k e hk
section
variable {P : Program} {ops : Array Oper} {Q : Exit → Act → World → Prop} {S : World → Prop} {w w0 : World} {r : List (Nat × Bool)} {bs : List (Nat × Obj)} {N : Nat} {l : List (Nat × Value)} {a : Act}
theorem stAp3 {i d t e size bytes base nn m c : Nat} {x y : Operand} {ty : TypeId} {v : Value} {xs news : List Value} {A : Option Addr} {us : List (Value × Nat × List Value)} (hF : Fr N l a) (ho : shp ops[i]? = some (some d, .call { callee := .builtin .append, args := #[x, y], argTypes := #[t, t] }, ty, none)) (hd : Nat.blt d N = true)
    (hk : oks l (.call { callee := .builtin .append, args := #[x, y], argTypes := #[t, t] }) = true) (hT : appT P t e size bytes = true) (hsz : 0 < size) (hx : ev l x = v) (hy : ev l y = .slice A m c) (hown : w.ownsRow base e size v nn xs) (hus : Oth w base e size v us) (hl : news.length = m * size)
    (hrd : Rd w A news) (hA : A = none → m = 0 ∧ c = 0) (h1 : ∀ u ∈ news, u.oneCell' = true) (h63 : nn + m ≤ maxLen) (hby : (nn + m) * bytes ≤ 140737488355328) (hB : Bx w0 bs w) (hbase : base ≤ w.heap.size) (hb0 : w0.heap.size ≤ base) (hne : neT e bs = true) (hS : ∀ w', Bx w0 bs w' → S w')
    (k : ∀ v' w', w'.ownsRow base e size v' (nn + m) (xs ++ news) → Oth w' base e size v' us → Bx w0 bs w' → ∀ a, Fr N ((d, v') :: l) a → wpO P ops Q S r a w') : wpO P ops Q S ((i, false) :: r) a w := by
  unfold appT at hT
  rw [Bool.and_eq_true] at hT
  obtain ⟨hT1, hT2⟩ := hT
  split at hT1
  · rename_i e' hu
    have he : e' = e := Nat.eq_of_beq_eq_true hT1
    subst he
    split at hT2
    · rename_i inf hi
      simp only [Bool.and_eq_true] at hT2
      obtain ⟨g1, g2, g3⟩ := hT2
      split at g3
      · rename_i z hz
        obtain ⟨v', w', hr, ho', hg', hfr⟩ := append_any (P := P) w base t ty e' inf z size bytes hu hi hz (Nat.eq_of_beq_eq_true g1) (Nat.eq_of_beq_eq_true g2) (Nat.eq_of_beq_eq_true g3) hsz v nn xs hown A m c news hl hrd hA h1 h63 hby hbase
        have hB' := hB.grown hown hg' hb0 hne
        have hus' : Oth w' base e' size v' us := fun u hm => by
          obtain ⟨q1, q2⟩ := hus u hm
          refine ⟨q1.kept (row := v.ownBlock) hg' ?_, fun k hk e => ?_⟩
          · cases hv : u.1.ownBlock with
            | none => exact .inl rfl
            | some k => exact .inr fun e => q2 k e.symm hv
          · exact hfr k (q1.lt k e).2 (fun e' => q2 k e' e) hk
        refine stE hF ho hd hk gok_none (v := v') (w' := w') ?_ (hS _ hB') (k v' w' ho' hus' hB')
        unfold xop execOp resolve
        simp only [List.map_toArray, List.map_cons, List.map_nil, hx, hy, Sem.run_bind, Sem.run_pure, Result.andThen_ok]
        show ((Builtin.append_ #[t, t] ty #[v, .slice A m c]).bind fun x => Sem.pure (Next.value x)).run P w = _
        rw [show ∀ (s : Sem Value) (f : Value → Sem Next), s.bind f = s >>= f from fun _ _ => rfl, Sem.run_bind, hr]
        rfl
      · cases g3
    · cases hT2
  · cases hT1
/-- A slice that is built: a row of the call's own. -/
theorem sB {d e n : Nat} {base size : Nat} (i : Nat) (cs : Array Value) (hF : Fr N l a) (hB : Bx w0 bs w) (hb : base ≤ w.heap.size) (hsz : cs.size = n * size) (hnm : n ≤ maxLen) (hS : ∀ w', Bx w0 bs w' → S w')
    (k : ∀ b w', b = w.heap.size → Bx w0 bs w' → w'.ownsRow base e size (.slice (some ⟨b, 0, none⟩) n n) n cs.toList → Below w.heap.size w w' → ∀ a, Fr N ((d, .slice (some ⟨b, 0, none⟩) n n) :: l) a → wpO P ops Q S r a w')
    (ho : shs ops[i]? = some (some d, none) := by kernel_rfl) (hd : Nat.blt d N = true := by kernel_rfl) (hk : oks l (opA ops i) = true := by kernel_rfl)
    (hr : ∀ w, (xop l (opA ops i) (tyA ops i)).run P w = .ok (.value (.slice (some ⟨w.heap.size, 0, none⟩) n n)) (w.alloc (.cells cs e (0, 0))) := by intro _; kernel_rfl) : wpO P ops Q S ((i, false) :: r) a w :=
  stE hF (shp_of ho) hd hk gok_none (hr w) (hS _ (hB.alloc _).tail) (k _ _ rfl (hB.alloc _).tail ⟨by rw [Array.length_toList, hsz], .inr ⟨w.heap.size, n, cs, rfl, hb, heap_alloc_new w _, Nat.le_refl _, hnm, hsz, by rw [List.take_of_length_le (by rw [Array.length_toList, hsz]; exact Nat.le_refl _)]⟩⟩ ((Below.refl _ w).alloc (Nat.le_refl _) _))
theorem own_le2 {base e size nn n c : Nat} {A : Option Addr} {xs : List Value} (h : w.ownsRow base e size (.slice A n c) nn xs) : A = none → n = 0 ∧ c = 0 := by
  obtain ⟨-, h | ⟨g, cap, cur, h, -⟩⟩ := h
  · intro _
    have := h.1
    simp only [Value.slice.injEq] at this
    exact ⟨this.2.1, this.2.2⟩
  · intro e
    simp only [Value.slice.injEq] at h
    rw [e] at h
    cases h.1
/-- What is left of a slice behind a place. -/
def dropA (A : Option Addr) (c i m : Nat) : Option Addr := if c - i = 0 then A else A.map fun z => z.add (i * m)
theorem r_sliceLo {t ty : TypeId} {x y : Operand} {A : Option Addr} {n c i m : Nat} {kd : IntKind} (hx : ev l x = .slice A n c) (hy : ev l y = .int kd (i : Int)) (hi : i ≤ n) (hn : n ≤ c) (ht : elT P t m = true) : (xop l (.slice t x (some y) none none) ty).run P w = .ok (.value (.slice (dropA A c i m) (n - i) (c - i))) w := by
  unfold elT at ht
  split at ht
  · rename_i e hu
    have hsz := run_sizeOf_sz ht w
    unfold xop execOp dropA
    simp [hx, hy, Instr.sliceAt, Instr.slice, Instr.sliceBounds, Instr.sliceBound, asIntOf, Sem.run_bind, run_underlying hu w, hi, hsz]
    by_cases h0 : c = i
    · rw [if_pos h0, if_pos (by omega)]
    · rw [if_neg h0, if_neg (by omega)]
  · cases ht
theorem rd_dropA {A : Option Addr} {c n i m : Nat} {cs : List Value} (h : Rd w A cs) (hl : cs.length = n * m) (hin : i ≤ n) (hn : n ≤ c) : Rd w (dropA A c i m) (cs.drop (i * m)) := fun j u hj => by
  rw [List.getElem?_drop] at hj
  obtain ⟨ad, e1, h2, h3⟩ := h (i * m + j) u hj
  unfold dropA
  split
  · rename_i h0
    have : i = n := by omega
    rw [List.getElem?_eq_none (by rw [hl, this]; omega)] at hj
    cases hj
  · rw [e1]
    exact ⟨ad.add (i * m), rfl, by rw [add_block]; exact h2, by rw [add_add']; exact h3⟩
theorem dropA_none {A : Option Addr} {c n i m : Nat} (h : A = none → n = 0 ∧ c = 0) : dropA A c i m = none → n - i = 0 ∧ c - i = 0 := by
  intro e
  have hA : A = none := by
    unfold dropA at e
    split at e
    · exact e
    · cases A with
      | none => rfl
      | some a => cases e
  have := h hA
  omega
end
theorem lkc_drop (l : List Lk) (k : Nat) : lkc (l.drop k) = (lkc l).drop (k * 2) := by
  induction l generalizing k with
  | nil => simp [lkc]
  | cons x l ih =>
    cases k with
    | zero => simp
    | succ k =>
      rw [List.drop_succ_cons, ih k, show (k + 1) * 2 = k * 2 + 2 by omega]
      rfl
theorem lkc_ins (x : Lk) (l : List Lk) (k : Nat) : ((([] ++ lkc (l.take k)) ++ [.int .i64 x.t, .string x.r]) ++ lkc (l.drop k) : List Value) = lkc (l.take k ++ x :: l.drop k) := by
  simp [lkc]
theorem own_blkE {w : World} {base e size n c : Nat} {A : Option Addr} {xs : List Value} (h : w.ownsRow base e size (.slice A n c) n xs) (h0 : 0 < n) : ∃ (g : Nat) (cur : Array Value), A = some ⟨g, 0, none⟩ ∧ base ≤ g ∧ w.heap[g]? = some (.cells cur e (0, 0)) ∧ cur.toList.take (n * size) = xs := by
  obtain ⟨-, h | ⟨g, cap, cur, h, hge, hblk, -, -, -, ht⟩⟩ := h
  · omega
  · cases h
    exact ⟨g, cur, rfl, hge, hblk, ht⟩
theorem bx_own {w0 w : World} {bs : List (Nat × Obj)} {g e : Nat} {cur : Array Value} (h : Bx w0 bs w) (hb : w.heap[g]? = some (.cells cur e (0, 0))) (hge : w0.heap.size ≤ g) (hne : neT e bs = true) : Bx w0 ((g, .cells cur e (0, 0)) :: bs) w := by
  have apart : ∀ (i : Nat) (p : Nat × Obj), bs[i]? = some p → p.1 ≠ g := fun i p hp e1 => by
    have h3 := List.all_eq_true.1 hne p (List.mem_of_getElem? hp)
    have h2 := h.blk i p hp
    rw [e1, hb] at h2
    simp only [Option.some.injEq] at h2
    rw [← h2] at h3
    simp at h3
  refine ⟨fun i p hp => ?_, h.bel, fun i p hp => ?_, fun i j p q hp hq e1 => ?_⟩
  · cases i with
    | zero => simp only [List.getElem?_cons_zero, Option.some.injEq] at hp; subst hp; exact hb
    | succ i => rw [List.getElem?_cons_succ] at hp; exact h.blk i p hp
  · cases i with
    | zero => simp only [List.getElem?_cons_zero, Option.some.injEq] at hp; subst hp; exact hge
    | succ i => rw [List.getElem?_cons_succ] at hp; exact h.ge i p hp
  · cases i with
    | zero => cases j with
      | zero => rfl
      | succ j =>
        simp only [List.getElem?_cons_zero, Option.some.injEq] at hp
        rw [List.getElem?_cons_succ] at hq
        subst hp
        exact absurd e1.symm (apart j q hq)
    | succ i => cases j with
      | zero =>
        simp only [List.getElem?_cons_zero, Option.some.injEq] at hq
        rw [List.getElem?_cons_succ] at hp
        subst hq
        exact absurd e1 (apart i p hp)
      | succ j =>
        rw [List.getElem?_cons_succ] at hp hq
        rw [h.nd i j p q hp hq e1]
theorem el_own {w : World} {g n j e : Nat} {cur : Array Value} {L : List Lk} {y : Lk} (h : w.heap[g]? = some (.cells cur e (0, 0))) (ht : cur.toList.take (n * 2) = lkc L) (hy : L[j]? = some y) : El w ((⟨g, 0, none⟩ : Addr).add (j * 2)) [.int .i64 y.t, .string y.r] := by
  obtain ⟨ad, e1, e2⟩ := (Rd.of_blk h).el (j * 2) [.int .i64 y.t, .string y.r] (by simp) (fun k u hk => by
    have h1 := lkc_el L j y hy k u hk
    rw [← ht, List.getElem?_take] at h1
    split at h1
    · exact h1
    · cases h1)
  cases e1
  exact e2
theorem rf_size {s : ByteArray} (h : rfB s = true) : s.size ≤ 16 := by
  unfold rfB pfxE at h
  rcases Nat.lt_or_ge 16 s.size with h1 | h1
  · exfalso
    rw [show decide ((s.size : Int) < 1) = false from decide_eq_false (by omega), show decide (((clsOf sp2).length : Int) < (s.size : Int)) = true from decide_eq_true (by rw [clsOf2]; show (16 : Int) < _; omega)] at h
    generalize pfxOK (clsOf sp2) s.data.toList = q at h
    cases q <;> exact absurd h (by decide)
  · exact h1
end Go.Proofs.YtljegdokbifoiaaDoor.Af
