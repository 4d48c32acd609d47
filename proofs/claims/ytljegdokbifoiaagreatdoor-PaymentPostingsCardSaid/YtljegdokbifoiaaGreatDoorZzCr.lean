/- Comparing routes: cmp.Or of two comparisons. No condition. -/
import Derived.Test.YtljegdokbifoiaaGreatDoorZzAr
import Derived.WalkKit
import Derived.RegionTactic
import Derived.ChangeAlike
import Derived.Deep.RegionWith
import Derived.LoopTactic
namespace Go.Proofs.YtljegdokbifoiaaGreatDoor.Af
open Go.RowKit Go.Maps Go.Shelf Go.Sort Go.Lib

def orI (a b : Int) : Int := if a = 0 then b else a
set_option maxHeartbeats 1000000 in
theorem or72 (a b : Int) (B : Nat) (W : World) (h0 : W.cell? ⟨B, 0, none⟩ = some (.int .i64 a)) (h1 : W.cell? ⟨B, 1, none⟩ = some (.int .i64 b)) :
    Calls Tryz.prog 72 #[.slice (some ⟨B, 0, none⟩) 2 2] W fun e w' => e = .returned (.int .i64 (orI a b)) ∧ w' = W := by
  go_enter Tryz.func72, Tryz.ntmps72
  go_wp2
  go_loop [8] (fun i => ∃ k : Nat, i = .int .i64 (k : Int) ∧ k ≤ 2 ∧ (1 ≤ k → a = 0) ∧ (2 ≤ k → b = 0)) (fun i => 2 - (intOf i).toNat)
  case atStart => exact ⟨0, rfl, by omega, by omega, by omega⟩
  case round =>
    obtain ⟨k, rfl, hk, ha, hb⟩ := hrel
    rcases (by omega : k = 0 ∨ k = 1 ∨ k = 2) with rfl | rfl | rfl
    · by_cases h : a = 0
      · subst h
        go_wp2
        go_round
        case rel => exact ⟨1, rfl, by omega, by simp, by omega⟩
        case measure => simp [intOf]
      · go_wp2
        go_ret
        refine ⟨?_, by first | rfl | trivial⟩
        unfold orI
        rw [if_neg h]
        rfl
    · obtain rfl := ha (Nat.le_refl _)
      by_cases h : b = 0
      · subst h
        go_wp2
        go_round
        case rel => exact ⟨2, rfl, by omega, by simp, by simp⟩
        case measure => simp [intOf]
      · go_wp2
        go_ret
        exact ⟨rfl, by first | rfl | trivial⟩
    · obtain rfl := ha (by omega)
      obtain rfl := hb (Nat.le_refl _)
      go_wp2
      go_ret
      exact ⟨rfl, by first | rfl | trivial⟩
def cmpR (x y : Rt) : Int := orI (cmpS x.1 y.1) (cmpS x.2 y.2)
/-- The world has grown by blocks, and drawn. -/
def Gr (w0 w : World) : Prop := ∃ q os, w = grow (w0.drewN q) os
theorem Gr.refl (w : World) : Gr w w := ⟨0, #[], by simp [grow, World.drewN]⟩
theorem Gr.alloc {w0 w w' : World} {o : Obj} (h : Gr w0 w) (e : w' = w.alloc o) : Gr w0 w' := by
  obtain ⟨q, os, rfl⟩ := h
  exact ⟨q, os.push o, by rw [e]; simp [grow, World.alloc]⟩
theorem Gr.drew {w0 w : World} (h : Gr w0 w) : Gr w0 w.drew := by
  obtain ⟨q, os, rfl⟩ := h
  exact ⟨q + 1, os, by simp [grow, World.drew, World.drewN, Nat.add_assoc]⟩
section
variable {P : Program} {ops : Array Oper} {n : Nat} {bs : List (Nat × Obj)} {Q : Exit → Act → World → Prop} {S : World → Prop} {R : List (Nat × Bool)} {w w0 : World} {l : List (Nat × Value)}
theorem sA2 {a : Act} (i d : Nat) {g : Option (Nat × Bool)} (mk : Nat → Value) (o : Obj) (hF : Fr n l a) (hg : gok ops l g true) (hB : Bx w0 bs w) (hS : ∀ w' b, Bx w0 ((b, o) :: bs) w' → S w')
    (k : ∀ b w', Bx w0 ((b, o) :: bs) w' → w' = w.alloc o → ∀ a, Fr n ((d, mk b) :: l) a → wpO P ops Q S R a w')
    (ho : shs ops[i]? = some (some d, g) := by kernel_rfl) (hd : Nat.blt d n = true := by kernel_rfl) (hk : oks l (opA ops i) = true := by kernel_rfl)
    (hr : ∀ w, (xop l (opA ops i) (tyA ops i)).run P w = .ok (.value (mk w.heap.size)) (w.alloc o) := by intro _; kernel_rfl) : wpO P ops Q S ((i, false) :: R) a w :=
  stE hF (shp_of ho) hd hk hg (hr w) (hS _ _ (hB.alloc o)) (k _ _ (hB.alloc o) rfl)
end
theorem or72' (a b : Int) (B : Nat) (W : World) (h : W.heap[B]? = some (.cells #[.int .i64 a, .int .i64 b] 3 (0, 0))) :
    Calls Tryz.prog 72 #[.slice (some ⟨B, 0, none⟩) 2 2] W fun e w' => e = .returned (.int .i64 (orI a b)) ∧ w' = W :=
  or72 a b B W (by simp [World.cell?, h]) (by simp [World.cell?, h])
end Go.Proofs.YtljegdokbifoiaaGreatDoor.Af
