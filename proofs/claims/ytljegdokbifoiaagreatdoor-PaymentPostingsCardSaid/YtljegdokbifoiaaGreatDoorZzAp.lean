/- Collecting a map's keys, and ordering them: strings. At most 10000 entries. -/
import Derived.Test.YtljegdokbifoiaaGreatDoorZzIt
import Derived.Test.YtljegdokbifoiaaGreatDoorZzCb
import Derived.Test.YtljegdokbifoiaaGreatDoorZzSz
import Derived.Test.YtljegdokbifoiaaGreatDoorZzSf
namespace Go.Proofs.YtljegdokbifoiaaGreatDoor.Af
open Go.RowKit Go.Maps Go.Shelf Go.Sort Go.Lib

def undS (l : List UInt8) : ByteArray := ⟨l.toArray⟩
theorem und_dec (s : ByteArray) : undS (decS s) = s := by cases s; simp [undS, decS]
theorem enc_und (l : List UInt8) : eKs (undS l) = encStr l := rfl
theorem keys_und {ν : Type} {ss : List (List UInt8)} {M : List (ByteArray × ν)} (h : ss.Perm (M.map fun p => decS p.1)) : (ss.map undS).Perm (M.map (·.1)) := by
  have := h.map undS
  rwa [List.map_map, show (undS ∘ fun p : ByteArray × ν => decS p.1) = (·.1) from funext fun p => und_dec p.1] at this
theorem app107 {ν : Type} (M : List (ByteArray × ν)) (g Bm : Nat) (w : World) (hn : M.length ≤ 10000) (eg : ∀ args w, (callFunc g args).run Tryz.prog w = .ok (.enter g args) w) (hs : SeqGives Fence.wide 2 Tryz.prog g #[.pointer (some ⟨Bm, 0, none⟩)] encStr (fun ss => ss.Perm (M.map fun p => decS p.1)) M.length w) :
    Calls Tryz.prog 107 #[.slice none 0 0, .func (.func g) #[] #[.pointer (some ⟨Bm, 0, none⟩)]] w fun e w' => ∃ (v : Value) (ks : List ByteArray), e = .returned v ∧ ks.Perm (M.map (·.1)) ∧ w'.ownsRow w.heap.size 9 1 v ks.length (ks.map eKs) ∧ Below w.heap.size w w' := by
  refine (callsIn_wide (n := 3)).1 ?_
  refine (AnyZ.appendSeq_in Tryz.apS Fence.wide 3 trivial rfl (by omega) g #[.pointer (some ⟨Bm, 0, none⟩)] trivial eg _ M.length (Nat.le_trans hn (by decide)) (by omega) w hs).mono ?_
  rintro e w' ⟨v, ss, rfl, hp, hown, -, hb⟩
  refine ⟨v, ss.map undS, rfl, keys_und hp, ?_, hb⟩
  rw [List.length_map, List.map_map]
  exact hown
theorem app106 (M : List (ByteArray × Use)) (Bm b : Nat) (es : Array MapEntry) (clk : Nat) (w : World) (hn : M.length ≤ 10000) (hBm : Bm < w.heap.size) (hm : w.cell? ⟨Bm, 0, none⟩ = some (.map (some b))) (hb : w.heap[b]? = some (.map es clk)) (hM : MapT Tryz.prog 9 eKs eU es clk M) :
    Calls Tryz.prog 107 #[.slice none 0 0, .func (.func 106) #[] #[.pointer (some ⟨Bm, 0, none⟩)]] w fun e w' => ∃ (v : Value) (ks : List ByteArray), e = .returned v ∧ ks.Perm (M.map (·.1)) ∧ w'.ownsRow w.heap.size 9 1 v ks.length (ks.map eKs) ∧ Below w.heap.size w w' :=
  app107 M 106 Bm w hn (enters_of Tryz.func106 (by kernel_rfl) rfl) (it106 Fence.wide 2 trivial rfl (by omega) Bm b es clk M w hBm hm hb hM)
theorem app92 (M : List (ByteArray × Pos)) (Bm b : Nat) (es : Array MapEntry) (clk : Nat) (w : World) (hn : M.length ≤ 10000) (hBm : Bm < w.heap.size) (hm : w.cell? ⟨Bm, 0, none⟩ = some (.map (some b))) (hb : w.heap[b]? = some (.map es clk)) (hM : MapT Tryz.prog 9 eKs eP es clk M) :
    Calls Tryz.prog 107 #[.slice none 0 0, .func (.func 92) #[] #[.pointer (some ⟨Bm, 0, none⟩)]] w fun e w' => ∃ (v : Value) (ks : List ByteArray), e = .returned v ∧ ks.Perm (M.map (·.1)) ∧ w'.ownsRow w.heap.size 9 1 v ks.length (ks.map eKs) ∧ Below w.heap.size w w' :=
  app107 M 92 Bm w hn (enters_of Tryz.func92 (by kernel_rfl) rfl) (it92 Fence.wide 2 trivial rfl (by omega) Bm b es clk M w hBm hm hb hM)

/-! ### Ordering -/
instance : Inhabited ByteArray := ⟨⟨#[]⟩⟩
def cmpS (x y : ByteArray) : Int := Lib.compareBytes x.data.toList y.data.toList
theorem ltOf_S (x y : ByteArray) : ltOf cmpS x y = ltB x y := rfl
theorem lt_tot {a b : ByteArray} (h1 : ltB a b = false) (h2 : ltB b a = false) : a = b := decS_inj _ _ (lt_total h1 h2)
theorem swoS : SWO (ltOf cmpS) where
  irrefl x := by rw [ltOf_S]; exact lt_self _
  trans x y z h1 h2 := by rw [ltOf_S] at *; exact lt_trans' h1 h2
  ntrans x y z h1 h2 := by
    rw [ltOf_S] at *
    cases h : ltB x z with
    | false => rfl
    | true =>
      exfalso
      cases h3 : ltB y x with
      | true => rw [lt_trans' h3 h] at h2; cases h2
      | false =>
        have e := lt_tot h1 h3
        subst e
        rw [h] at h2
        cases h2
def sortS (l : List ByteArray) : List ByteArray := l.mergeSort fun x y => !ltB y x
theorem sortS_perm (l : List ByteArray) : (sortS l).Perm l := List.mergeSort_perm _ _
theorem sortS_len (l : List ByteArray) : (sortS l).length = l.length := (sortS_perm l).length_eq
theorem sortS_asc (l : List ByteArray) : (sortS l).Pairwise fun x y => ltB y x = false := by
  have h := List.pairwise_mergeSort (le := fun x y => !ltB y x) (fun a b c h1 h2 => by
      simp only [Bool.not_eq_true'] at *
      exact swoS.ntrans c b a h2 h1) (fun a b => by
      cases h : ltB b a with
      | false => simp
      | true => simp [lt_asym h]) l
  exact h.imp fun h => by simpa using h
theorem sortS_uniq {l m : List ByteArray} (hp : l.Perm m) : sortS l = sortS m :=
  ((sortS_perm l).trans (hp.trans (sortS_perm m).symm)).eq_of_pairwise (fun _ _ _ _ h1 h2 => lt_tot h2 h1) ((sortS_asc l).imp fun h => h) ((sortS_asc m).imp fun h => h)
def keysS {ν : Type} (M : List (ByteArray × ν)) : List ByteArray := sortS (M.map (·.1))
theorem keysS_len {ν : Type} (M : List (ByteArray × ν)) : (keysS M).length = M.length := by unfold keysS; rw [sortS_len, List.length_map]
theorem keysS_of {ν : Type} {M : List (ByteArray × ν)} {ks : List ByteArray} (h : ks.Perm (M.map (·.1))) : sortS ks = keysS M := sortS_uniq h
theorem keysS_mem {ν : Type} {M : List (ByteArray × ν)} {k : ByteArray} (h : k ∈ keysS M) : k ∈ M.map (·.1) := (sortS_perm _).mem_iff.1 h
theorem c91 (ks : List ByteArray) (A : Option Addr) (c base : Nat) (w : World) (hn : ks.length ≤ 10000) (ho : World.ownsRow w base 9 1 (.slice A ks.length c) ks.length (ks.map eKs)) :
    Calls Tryz.prog 91 #[.slice A ks.length c, .func (.func 41) #[] #[]] w fun e w' => e = .returned (.tuple #[]) ∧ World.ownsRow w' base 9 1 (.slice A ks.length c) ks.length ((sortS ks).map eKs) ∧ w.grownBy w' (Value.ownBlock (.slice A ks.length c)) := by
  obtain ⟨hl, h | ⟨g, cap, cur, h, hge, hblk, hle, hcap, hsz, htake⟩⟩ := ho
  · obtain ⟨h1, h2⟩ := h
    cases ks with
    | cons x l => cases h2
    | nil =>
      cases h1
      refine (AnyF.slices_SortFunc_none Tryz.laysSlF06_f91 none 0 (.func (.func 41) #[] #[]) w).mono fun e w' ⟨h3, h4⟩ => ?_
      subst h4
      refine ⟨h3, ?_, rfl, rfl, rfl, Nat.le_refl _, fun _ _ _ => rfl⟩
      have : sortS [] = [] := List.eq_nil_of_length_eq_zero (sortS_len [])
      rw [this]
      exact own_nil _ _ _ _
  · cases h
    have hlt : g < w.heap.size := blk_size hblk
    have hcur : ∀ j, j < ks.length → cur[j]? = (ks.map eKs)[j]? := fun j hj => by
      rw [← htake, List.getElem?_take, if_pos (by omega), Array.getElem?_toList]
    have hH : Holds eKs w g 0 ks.toArray := fun j hj => by
      have hj' : j < ks.length := by simpa using hj
      rw [Nat.zero_add]
      refine ⟨?_, Lib.frozen_of_heap hblk j⟩
      rw [cell_of_row w g j cur 9 (0, 0) hblk, hcur j hj']
      simp [hj']
    have eg : ∀ args w, (callFunc 41 args).run Tryz.prog w = .ok (.enter 41 args) w := enters_of Tryz.func41 (by kernel_rfl) rfl
    have hcmp : CmpLays1 Tryz.prog 41 #[] eKs cmpS g 0 ks.toArray.size w := fun _ _ _ _ x y => (Tryz.strings_Compare x y _).mono fun e w' ⟨h1, h2⟩ => ⟨h1, 0, #[], by rw [h2]; rfl⟩
    have hcon := Tryz.slices_SortFunc_total eKs (fun _ => rfl) cmpS swoS 41 #[] g 0 c ks.toArray w eg hcmp hH hlt (by simp; omega) (fun x y h1 h2 => lt_tot h1 h2)
    refine hcon.mono fun e w' ⟨h1, n, os, hw⟩ => ⟨h1, ?_⟩
    have hd : (ks.toArray.toList.mergeSort fun x y => !(ltOf cmpS) y x) = sortS ks := rfl
    rw [hd] at hw
    have hheap : ∀ k, k < w.heap.size → w'.heap[k]? = ((putRow eKs (Sort.ahead w n) g 0 (sortS ks).toArray)).heap[k]? := fun k hk => by
      rw [hw]
      exact heap_grow_old _ _ (by simpa [putRow, mapBlock] using hk)
    have hself : w'.heap[g]? = some (.cells (putCells eKs 0 (sortS ks).toArray cur) 9 (0, 0)) := by
      rw [hheap g hlt]
      show (w.heap.modify g (onCells _))[g]? = _
      rw [Array.getElem?_modify, if_pos rfl, hblk]
      rfl
    refine ⟨⟨by rw [List.length_map, sortS_len, Nat.mul_one], .inr ⟨g, c, _, rfl, hge, hself, hle, hcap, ?_, ?_⟩⟩, ?_⟩
    · simp [putCells, hsz]
    · apply List.ext_getElem?
      intro j
      rw [List.getElem?_take]
      split
      · rename_i hj
        have hj1 : j < (sortS ks).length := by rw [sortS_len]; omega
        rw [Array.getElem?_toList, putCells, Array.getElem?_mapIdx, Array.getElem?_eq_getElem (by omega), Option.map_some, if_pos ⟨Nat.zero_le _, by simpa using hj1⟩, List.getElem?_map, List.getElem?_eq_getElem hj1]
        simp [hj1]
      · rename_i hj
        rw [List.getElem?_eq_none (by rw [List.length_map, sortS_len]; omega)]
    · refine ⟨by rw [hw]; rfl, by rw [hw]; rfl, by rw [hw]; rfl, by rw [hw]; simp [sortWorld, putRow, mapBlock], fun k hk hne => ?_⟩
      rw [hheap k hk]
      show (w.heap.modify g (onCells _))[k]? = _
      rw [Array.getElem?_modify, if_neg (fun e => hne (by rw [e]; rfl))]

/-! ### The rows that come of the maps -/
def needV (m : ByteArray) (n : Int) : Value := .agg #[.string m, .int .i64 n]
def needC (h : Use → Int) (M : List (ByteArray × Use)) (s : ByteArray) : List Value := [.string s, .int .i64 (h (lkD M s (0, 0)))]
def hMost (u : Use) : Int := u.2
def hNow (u : Use) : Int := maxI 0 u.1
def needs (h : Use → Int) (M : List (ByteArray × Use)) (ks : List ByteArray) : List Value := ks.flatMap (needC h M)
def posC (M : List (ByteArray × Pos)) (s : ByteArray) : List Value := [.string s, .int .i64 (lkD M s Pos.z).paid, .int .i64 (lkD M s Pos.z).rcvd]
def poss (M : List (ByteArray × Pos)) (ks : List ByteArray) : List Value := ks.flatMap (posC M)
theorem own_rd' {w : World} {base e size nn c : Nat} {A : Option Addr} {xs : List Value} (h : w.ownsRow base e size (.slice A nn c) nn xs) : Rd w A xs := by
  obtain ⟨A', c', e1, -, hr⟩ := own_rd h
  cases e1
  exact hr
theorem take_flat {α β : Type} (f : α → List β) {l : List α} {k : Nat} {x : α} (h : l[k]? = some x) : (l.take (k + 1)).flatMap f = (l.take k).flatMap f ++ f x := by
  rw [List.take_add_one, h, List.flatMap_append]
  simp
theorem updK_len {κ ν : Type} [DecidableEq κ] (M : List (κ × ν)) (k : κ) (v : ν) : (updK M k v).length ≤ M.length + 1 := by
  unfold updK
  cases (getK M k).isSome with
  | true => simp
  | false => simp
theorem useA_len (l : List Ins) : ∀ (M : List (ByteArray × Use)), (useA l M).length ≤ M.length + 2 * l.length := by
  induction l with
  | nil => intro M; simp [useA]
  | cons i l ih =>
    intro M
    have h := ih (useS M i)
    have h1 := updK_len (updK M i.sender (IntKind.i64.wrap ((lkD M i.sender (0, 0)).1 + i.amt), maxI (lkD M i.sender (0, 0)).2 (IntKind.i64.wrap ((lkD M i.sender (0, 0)).1 + i.amt)))) i.cpty (IntKind.i64.wrap ((lkD M i.cpty (0, 0)).1 - i.amt), (lkD M i.cpty (0, 0)).2)
    have h2 := updK_len M i.sender (IntKind.i64.wrap ((lkD M i.sender (0, 0)).1 + i.amt), maxI (lkD M i.sender (0, 0)).2 (IntKind.i64.wrap ((lkD M i.sender (0, 0)).1 + i.amt)))
    show (useA l (useS M i)).length ≤ _
    have h3 : (useS M i).length ≤ M.length + 2 := by unfold useS; omega
    rw [List.length_cons]
    omega
theorem posA_len (l : List Ins) : ∀ (M : List (ByteArray × Pos)), (posA l M).length ≤ M.length + 2 * l.length := by
  induction l with
  | nil => intro M; simp [posA]
  | cons i l ih =>
    intro M
    have h := ih (posS M i)
    have h3 : (posS M i).length ≤ M.length + 2 := by unfold posS; exact Nat.le_trans (updK_len _ _ _) (Nat.add_le_add_right (updK_len _ _ _) 1)
    show (posA l (posS M i)).length ≤ _
    rw [List.length_cons]
    omega
theorem netA_len (l : List Ins) : ∀ (M : List (Rt × Int)), (netA l M).length ≤ M.length + 2 * l.length := by
  induction l with
  | nil => intro M; simp [netA]
  | cons i l ih =>
    intro M
    have h := ih (netS M i)
    have h3 : (netS M i).length ≤ M.length + 2 := by unfold netS; exact Nat.le_trans (updK_len _ _ _) (Nat.add_le_add_right (updK_len _ _ _) 1)
    show (netA l (netS M i)).length ≤ _
    rw [List.length_cons]
    omega
/-- A row's k-th string. -/
theorem keyV_el {l : List ByteArray} {k : Nat} {x : ByteArray} (h : l[k]? = some x) : ∀ j u, ([eKs x] : List Value)[j]? = some u → (l.map eKs)[k * 1 + j]? = some u := by
  intro j u hj
  match j, hj with
  | 0, hj =>
    rw [List.getElem?_map, Nat.add_zero, Nat.mul_one, h]
    exact hj
end Go.Proofs.YtljegdokbifoiaaGreatDoor.Af
