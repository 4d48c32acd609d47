/- Rows of links that may be written: what stays as it was. No condition. -/
import Derived.Test.YtljegdokbifoiaaDoorNp
import Derived.Test.YtljegdokbifoiaaDoorAp
import Derived.Laws.Concat
import Derived.Laws.Strings
namespace Go.Proofs.YtljegdokbifoiaaDoor.Af
open Go.RowKit

def WT (w : World) (g n M : Nat) : Prop := ∃ cur : Array Value, w.heap[g]? = some (.cells cur 66 (0, 0)) ∧ ∀ j, j < n → (∃ t, cur[j * 2]? = some (.int .i64 t)) ∧ ∃ r, cur[j * 2 + 1]? = some (.string r) ∧ r.size ≤ M
def RW (w : World) (B : Nat) (A : Option Addr) (n M : Nat) : Prop := n ≤ 1000 ∧ (0 < n → ∃ g, A = some ⟨g, 0, none⟩ ∧ B ≤ g ∧ WT w g n M)
theorem wt_own {w : World} {B c M : Nat} {A : Option Addr} {ls : List Lk} (h : World.ownsRow w B 66 2 (.slice A ls.length c) ls.length (lkc ls)) (hn : ls.length ≤ 1000) (hs : ∀ x ∈ ls, x.r.size ≤ M) : RW w B A ls.length M := by
  refine ⟨hn, fun h0 => ?_⟩
  obtain ⟨-, h | ⟨g, cap, cur, h, hge, hblk, hle, hcap, hsz, htake⟩⟩ := h
  · omega
  · cases h
    refine ⟨g, rfl, hge, cur, hblk, fun j hj => ?_⟩
    obtain ⟨g0, g1⟩ := lkc_get ls j ls[j] (List.getElem?_eq_getElem hj)
    rw [← htake, List.getElem?_take, if_pos (by omega), Array.getElem?_toList] at g0 g1
    exact ⟨⟨_, g0⟩, ⟨_, g1, hs _ (List.getElem_mem hj)⟩⟩
def Rw3 (w : World) (B : Nat) (Ay Az Au : Option Addr) (ny nz nu M : Nat) : Prop := RW w B Ay ny M ∧ RW w B Az nz M ∧ RW w B Au nu M
theorem pick3 {B : Nat} {Ay Az Au : Option Addr} {ny nz nu cy cz cu : Nat} (k : Nat) (hk : k < 3) :
    ∃ A n c, ([.slice Ay ny cy, .slice Az nz cz, .slice Au nu cu] : List Value)[k]? = some (.slice A n c) ∧ ∀ w M, Rw3 w B Ay Az Au ny nz nu M → RW w B A n M := by
  match k, hk with
  | 0, _ => exact ⟨Ay, ny, cy, rfl, fun w M h => h.1⟩
  | 1, _ => exact ⟨Az, nz, cz, rfl, fun w M h => h.2.1⟩
  | 2, _ => exact ⟨Au, nu, cu, rfl, fun w M h => h.2.2⟩
theorem el_blk {w : World} {b k : Nat} {cs : Array Value} {T : TypeId} {fr : Nat × Nat} {v : Value} (h : w.heap[b]? = some (.cells cs T fr)) (hk : cs.toList[k]? = some v) : El w ((⟨b, 0, none⟩ : Addr).add (k * 1)) [v] := by
  obtain ⟨ad, h1, h2⟩ := (Rd.of_blk h).el (k * 1) [v] (by simp) (fun j u hj => by
    match j, hj with
    | 0, hj => rw [Nat.mul_one, Nat.add_zero, hk]; exact hj)
  cases h1
  exact h2
theorem el_wt {w : World} {g m : Nat} {cur : Array Value} {t : Int} {r : ByteArray} (h : w.heap[g]? = some (.cells cur 66 (0, 0))) (h1 : cur[m * 2]? = some (.int .i64 t)) (h2 : cur[m * 2 + 1]? = some (.string r)) : El w ((⟨g, 0, none⟩ : Addr).add (m * 2)) [.int .i64 t, .string r] := by
  obtain ⟨ad, e1, e2⟩ := (Rd.of_blk h).el (m * 2) [.int .i64 t, .string r] (by simp) (fun j u hj => by
    match j, hj with
    | 0, hj => rw [Nat.add_zero, Array.getElem?_toList, h1]; exact hj
    | 1, hj => rw [Array.getElem?_toList, h2]; exact hj)
  cases e1
  exact e2
def Upd (w w' : World) (g q : Nat) (u : Value) : Prop := ∃ cur : Array Value, w.heap[g]? = some (.cells cur 66 (0, 0)) ∧ w' = w.setRow g (cur.toList.set q u).toArray
theorem add_lit2 (g m o : Nat) : ((⟨g, 0, none⟩ : Addr).add (m * 2)).add o = ⟨g, m * 2 + o, none⟩ := by
  rw [add_add']
  unfold Addr.add
  split
  · simp
  · simp
theorem stX {P : Program} {ops : Array Oper} {Q : Exit → Act → World → Prop} {r : List (Nat × Bool)} {w : World} {N : Nat} {l : List (Nat × Value)} {a : Act} {t ty : TypeId} {x y : Operand} (i : Nat) {g m o : Nat} {cur : Array Value} (u : Value) (hF : Fr N l a) (hb : w.heap[g]? = some (.cells cur 66 (0, 0))) (hlt : m * 2 + o < cur.size)
    (k : ∀ w', Upd w w' g (m * 2 + o) u → ∀ a, Fr N l a → wpO P ops Q (fun _ => True) r a w') (ho : shp ops[i]? = some (none, .store t x y, ty, none)) (hk : oks l (.store t x y) = true)
    (hx : ev l x = .pointer (some (((⟨g, 0, none⟩ : Addr).add (m * 2)).add o))) (hy : (ev l y).cells.toList = [u]) (hs : szT P t 1 = true) (h1 : u.oneCell' = true) : wpO P ops Q (fun _ => True) ((i, false) :: r) a w := by
  rw [add_lit2] at hx
  refine stS hF ho hk gok_none (r_store hx hy hs hb (by simp; omega) (by simpa using h1)) (.inr trivial) (k _ ⟨cur, hb, ?_⟩)
  rw [List.set_eq_take_append_cons_drop, if_pos (by simpa using hlt)]
  simp
theorem bx_upd {w0 w w' : World} {bs : List (Nat × Obj)} {g q : Nat} {u : Value} (h : Bx w0 bs w) (hu : Upd w w' g q u) (hg : w0.heap.size ≤ g) (hne : neT 66 bs = true) : Bx w0 bs w' := by
  obtain ⟨cur, hb, rfl⟩ := hu
  refine ⟨fun i p hp => ?_, h.bel.trans ⟨rfl, rfl, rfl, by simp [World.setRow], fun j hj => setRow_other w g j _ (by omega)⟩, h.ge, h.nd⟩
  have hb' := h.blk i p hp
  rw [setRow_other w g p.1 _ (fun e => ?_)]
  · exact hb'
  · have h3 := List.all_eq_true.1 hne p (List.mem_of_getElem? hp)
    rw [e, hb] at hb'
    simp only [Option.some.injEq] at hb'
    rw [← hb'] at h3
    simp at h3
theorem wt_upd {w w' : World} {g g' q n M : Nat} {u : Value} (h : WT w g n M) (hu : Upd w w' g' q u) (ht : (∃ j t, q = j * 2 ∧ u = .int .i64 t) ∨ ∃ j r, q = j * 2 + 1 ∧ u = .string r ∧ r.size ≤ M + 1) : WT w' g n (M + 1) := by
  obtain ⟨cur, hb, rfl⟩ := hu
  obtain ⟨c, h1, h2⟩ := h
  by_cases e : g = g'
  · subst e
    rw [h1] at hb
    simp only [Option.some.injEq, Obj.cells.injEq, and_true] at hb
    subst hb
    refine ⟨_, setRow_heap w g c _ 66 (0, 0) h1, fun j hj => ?_⟩
    obtain ⟨⟨t0, a0⟩, ⟨r0, a1, a2⟩⟩ := h2 j hj
    have hs0 : j * 2 < c.size := (Array.getElem?_eq_some_iff.1 a0).1
    have hs1 : j * 2 + 1 < c.size := (Array.getElem?_eq_some_iff.1 a1).1
    simp only [List.getElem?_toArray, List.getElem?_set, Array.length_toList, Array.getElem?_toList]
    rcases ht with ⟨j', t, hq, hu⟩ | ⟨j', r, hq, hu, hrs⟩
    · refine ⟨?_, ?_⟩
      · by_cases e : q = j * 2
        · rw [if_pos e, if_pos (by omega)]; exact ⟨t, by rw [hu]⟩
        · rw [if_neg e]; exact ⟨t0, a0⟩
      · rw [if_neg (by omega)]; exact ⟨r0, a1, by omega⟩
    · refine ⟨?_, ?_⟩
      · rw [if_neg (by omega)]; exact ⟨t0, a0⟩
      · by_cases e : q = j * 2 + 1
        · rw [if_pos e, if_pos (by omega)]; exact ⟨r, by rw [hu], hrs⟩
        · rw [if_neg e]; exact ⟨r0, a1, by omega⟩
  · exact ⟨c, by rw [setRow_other w g' g _ e]; exact h1, fun j hj => ⟨(h2 j hj).1, by obtain ⟨r, a, b⟩ := (h2 j hj).2; exact ⟨r, a, by omega⟩⟩⟩
theorem rw3_upd {w w' : World} {B g q M : Nat} {u : Value} {Ay Az Au : Option Addr} {ny nz nu : Nat} (h : Rw3 w B Ay Az Au ny nz nu M) (hu : Upd w w' g q u) (ht : (∃ j t, q = j * 2 ∧ u = .int .i64 t) ∨ ∃ j r, q = j * 2 + 1 ∧ u = .string r ∧ r.size ≤ M + 1) : Rw3 w' B Ay Az Au ny nz nu (M + 1) := by
  have one : ∀ {A : Option Addr} {n : Nat}, RW w B A n M → RW w' B A n (M + 1) := fun h => ⟨h.1, fun h0 => by
    obtain ⟨g, h1, h2, h3⟩ := h.2 h0
    exact ⟨g, h1, h2, wt_upd h3 hu ht⟩⟩
  exact ⟨one h.1, one h.2.1, one h.2.2⟩
theorem rw3_mono {w : World} {B M M' : Nat} {Ay Az Au : Option Addr} {ny nz nu : Nat} (h : Rw3 w B Ay Az Au ny nz nu M) (hm : M ≤ M') : Rw3 w B Ay Az Au ny nz nu M' := by
  have one : ∀ {A : Option Addr} {n : Nat}, RW w B A n M → RW w B A n M' := fun h => ⟨h.1, fun h0 => by
    obtain ⟨g, h1, h2, c, h3, h4⟩ := h.2 h0
    refine ⟨g, h1, h2, c, h3, fun j hj => ⟨(h4 j hj).1, ?_⟩⟩
    obtain ⟨r, a, b⟩ := (h4 j hj).2
    exact ⟨r, a, by omega⟩⟩
  exact ⟨one h.1, one h.2.1, one h.2.2⟩
theorem r_concat {P : Program} {w : World} {l : List (Nat × Value)} {t t' ty : TypeId} {x y : Operand} {a b : ByteArray} (hx : ev l x = .string a) (hy : ev l y = .string b) (h : a.size + b.size ≤ 9223372036854775807) : (xop l (.binOp .add t x y t') ty).run P w = .ok (.value (.string (a ++ b))) w := by
  unfold xop execOp
  simp only [hx, hy, Sem.run_bind]
  have e : (eqGuard .add t x y (.string a) (.string b)).run P w = Result.ok () w := by simp [eqGuard]
  simp only [e, Result.andThen_ok, binOp_string_add, run_string_add_sum w a b h, Sem.run_pure]
theorem nrm_sized {i : Ins} {M : Nat} (hs : ∀ x ∈ i.links, x.r.size ≤ M) : ∀ x ∈ (nrmP i).1.links, x.r.size ≤ M := by
  unfold nrmP
  cases chkI i != 0 with
  | true => intro x hx; cases hx
  | false => exact fun x hx => hs x ((srt_perm i.links).mem_iff.1 hx)
theorem app_sized {i : Ins} {m : Am} {M : Nat} (hs : ∀ x ∈ i.links, x.r.size ≤ M) : ∀ x ∈ (appP i m).1.links, x.r.size ≤ M := by
  unfold appP
  cases chkI i != 0 with
  | true => intro x hx; cases hx
  | false =>
    cases chkA m != 0 with
    | true => intro x hx; cases hx
    | false =>
      cases badQ i m with
      | true => intro x hx; cases hx
      | false =>
        cases chkI (amd i m) != 0 with
        | true => intro x hx; cases hx
        | false => exact hs
end Go.Proofs.YtljegdokbifoiaaDoor.Af
