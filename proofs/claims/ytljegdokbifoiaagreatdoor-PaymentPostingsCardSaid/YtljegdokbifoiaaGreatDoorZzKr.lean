/- A route is a key; rows of pairs. No condition. -/
import Derived.Test.YtljegdokbifoiaaGreatDoorZzDf
import Derived.Test.YtljegdokbifoiaaGreatDoorZzSr
import Derived.Test.YtljegdokbifoiaaGreatDoorZzMe
namespace Go.Proofs.YtljegdokbifoiaaGreatDoor.Af
open Go.RowKit Go.Maps Go.Shelf Go.Sort Go.Lib

theorem cells108 : Tryz.prog.cellsOf 108 = 2 := by kernel_rfl
theorem cells9 : Tryz.prog.cellsOf 9 = 1 := by kernel_rfl
theorem keyT108 : Tryz.prog.keyType 108 = true := by kernel_rfl
theorem size_prog : ∃ n, Tryz.prog.types.size = n + 1 := ⟨_, (by kernel_rfl : Tryz.prog.types.size = (Tryz.prog.types.size - 1) + 1)⟩
theorem hk_rt {a b : ByteArray} (ha : a.size ≤ 8) (hb : b.size ≤ 8) : ∃ l, keyOf Tryz.prog 108 (eR (a, b)) = some l := by
  obtain ⟨n, hn⟩ := size_prog
  have h1 : ∀ (s : ByteArray) (d : Nat), s.size ≤ 8 → Tryz.prog.keyLits (d + 1) 9 [.string s] = some [.string s.data.toList] := fun s d hs => by
    have : s.size ≤ maxLen := Nat.le_trans hs (by decide)
    unfold Program.keyLits
    rw [Tryz.underlying9]
    simp [this]
  have hf : (eR (a, b)).formed Tryz.prog 108 = true := by
    unfold Value.formed eR
    simp only [Tryz.underlying108, cells108]
    rfl
  unfold keyOf
  rw [Tryz.underlying108]
  simp only [keyT108, hf, Bool.and_self, if_true, hn]
  refine ⟨_, congrArg (Option.map _) (?_ : _ = some [.string a.data.toList, .string b.data.toList])⟩
  unfold Program.keyLits
  rw [Tryz.underlying108]
  have e1 : (eR (a, b)).cells.toList = [.string a, .string b] := rfl
  simp [e1, cells108, cells9, h1 _ _ ha, h1 _ _ hb]
def pairC (M : List (Rt × Int)) (r : Rt) : List Value := [.string r.1, .string r.2, .int .i64 (lkD M r 0)]
def pairV (r : Rt) (n : Int) : Value := .agg #[.string r.1, .string r.2, .int .i64 n]
theorem Bx.newO {w0 w w' : World} {bs : List (Nat × Obj)} (h : Bx w0 bs w) (k : Nat) {b : Nat} {o o' : Obj} (hb : bs[k]? = some (b, o)) (hg : w.grownBy w' (some b)) (hn : w'.heap[b]? = some o') : Bx w0 (bs.set k (b, o')) w' := by
  have hk : k < bs.length := (List.getElem?_eq_some_iff.1 hb).1
  have hge := h.ge k _ hb
  obtain ⟨g1, g2, g3, g4, g5⟩ := hg
  have other : ∀ j, j < w.heap.size → j ≠ b → w'.heap[j]? = w.heap[j]? := fun j hl hj => g5 j hl (fun e => hj (Option.some.inj e))
  have look : ∀ (i : Nat) (p : Nat × Obj), (bs.set k (b, o'))[i]? = some p → (i = k ∧ p = (b, o')) ∨ (i ≠ k ∧ bs[i]? = some p) := fun i p hp => by
    by_cases hik : k = i
    · subst hik
      rw [List.getElem?_set_self hk, Option.some.injEq] at hp
      exact .inl ⟨rfl, hp.symm⟩
    · rw [List.getElem?_set_ne hik] at hp
      exact .inr ⟨Ne.symm hik, hp⟩
  refine ⟨fun i p hp => ?_, ?_, fun i p hp => ?_, fun i j p q hp hq e => ?_⟩
  · rcases look i p hp with ⟨rfl, rfl⟩ | ⟨hik, hp⟩
    · exact hn
    · have hne : p.1 ≠ b := fun e => hik (h.nd i k p _ hp hb e)
      rw [other p.1 (blk_size (h.blk i p hp)) hne]
      exact h.blk i p hp
  · refine h.bel.trans ⟨g1, g2, g3, g4, fun j hj => other j (Nat.lt_of_lt_of_le hj h.bel.size) ?_⟩
    simp only at hge
    omega
  · rcases look i p hp with ⟨rfl, rfl⟩ | ⟨_, hp⟩
    · exact hge
    · exact h.ge i p hp
  · rcases look i p hp with ⟨rfl, rfl⟩ | ⟨hik, hp'⟩
    · rcases look j q hq with ⟨rfl, rfl⟩ | ⟨hjk, hq'⟩
      · rfl
      · exact (h.nd j i q _ hq' hb e.symm).symm
    · rcases look j q hq with ⟨rfl, rfl⟩ | ⟨hjk, hq'⟩
      · exact h.nd i j p _ hp' hb e
      · exact h.nd i j p q hp' hq' e
theorem net_keys {l : List Ins} (h : ∀ i ∈ l, PayOK i) : ∀ (M : List (Rt × Int)), (∀ s ∈ M.map (·.1), s.1.size ≤ 8 ∧ s.2.size ≤ 8) → ∀ s ∈ (netA l M).map (·.1), s.1.size ≤ 8 ∧ s.2.size ≤ 8 := by
  induction l with
  | nil => intro M hM; exact hM
  | cons i l ih =>
    intro M hM
    refine ih (fun j hj => h j (List.mem_cons_of_mem _ hj)) (netS M i) fun s hs => ?_
    have hi := h i (List.mem_cons_self ..)
    have h1 := (memB_size hi.snd).1
    have h2 := (memB_size hi.cpt).1
    unfold netS at hs
    rw [updK_keys_mem, updK_keys_mem] at hs
    rcases hs with rfl | rfl | hs
    · exact ⟨h2, h1⟩
    · exact ⟨h1, h2⟩
    · exact hM s hs
theorem posN_keys {M : List (Rt × Int)} {s : Rt} (h : s ∈ (posN M).map (·.1)) : s ∈ M.map (·.1) := by
  obtain ⟨p, hp, rfl⟩ := List.mem_map.1 h
  exact List.mem_map.2 ⟨p, (List.mem_filter.1 hp).1, rfl⟩
theorem posN_len (M : List (Rt × Int)) : (posN M).length ≤ M.length := List.length_filter_le _ _
def nKeysR (e : Int) (M : List (Rt × Int)) : List Rt := bif e != 0 then [] else keysR M
end Go.Proofs.YtljegdokbifoiaaGreatDoor.Af
