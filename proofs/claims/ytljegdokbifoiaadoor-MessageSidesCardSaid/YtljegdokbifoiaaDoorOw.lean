/- An instruction in the other package's type. Short lists of links. -/
import Derived.Test.YtljegdokbifoiaaDoorCk
namespace Go.Proofs.YtljegdokbifoiaaDoor.Af
open Go.RowKit
theorem lkc_snoc (l : List Lk) (k : Nat) (x : Lk) (h : l[k]? = some x) : lkc (l.take k) ++ [.int .i64 x.t, .string x.r] = lkc (l.take (k + 1)) := by
  have hlt := (List.getElem?_eq_some_iff.1 h).1
  have he := (List.getElem?_eq_some_iff.1 h).2
  rw [List.take_succ_eq_append_getElem hlt, he]
  simp [lkc]

set_option maxHeartbeats 4000000 in
set_option maxRecDepth 20000 in
theorem c13 (i : Ins) (A : Option Addr) (c : Nat) (w : World) (hn : i.links.length ≤ 1000) (hr : Rd w A (lkc i.links)) : Calls Tryd.prog 13 #[.agg #[.string i.ref, .int .i64 i.kind, .string i.sender, .string i.cpty, .int .i64 i.side, .string i.asset, .int .i64 i.qty, .int .i64 i.amt, .int .i64 i.tday, .int .i64 i.sday, .int .i64 i.prio, .bool i.part, .int .i64 i.minlot, .bool i.hold, .bool i.resv, .slice A i.links.length c]] w (fun e w' => ∃ (A' : Option Addr) (c' : Nat), e = .returned (insV i A' c') ∧ w'.ownsRow w.heap.size 66 2 (.slice A' i.links.length c') i.links.length (lkc i.links) ∧ Below w.heap.size w w') := by
  refine enter Tryd.func13 (by kernel_rfl) ?_ (by kernel_rfl)
  intro q0 h0
  replace h0 := h0.conv (l' := [(0, .agg #[.string i.ref, .int .i64 i.kind, .string i.sender, .string i.cpty, .int .i64 i.side, .string i.asset, .int .i64 i.qty, .int .i64 i.amt, .int .i64 i.tday, .int .i64 i.sday, .int .i64 i.prio, .bool i.part, .int .i64 i.minlot, .bool i.hold, .bool i.resv, .slice A i.links.length c])]) rfl
  have hB := Bx.refl w
  refine c_seq (by kernel_rfl) ?_
  refine reg_plain [(0, false), (1, false)] (by kernel_rfl) (by kernel_rfl) ?_
  refine stA (i := 0) (d := 1) (op := Op.box 24 (Operand.tmp 0)) (ty := 0) (g := none) (mk := fun b => .pointer (some ⟨b, 0, none⟩)) (o := .cells #[.string i.ref, .int .i64 i.kind, .string i.sender, .string i.cpty, .int .i64 i.side, .string i.asset, .int .i64 i.qty, .int .i64 i.amt, .int .i64 i.tday, .int .i64 i.sday, .int .i64 i.prio, .bool i.part, .int .i64 i.minlot, .bool i.hold, .bool i.resv, .slice A i.links.length c] 24 (0, 0)) h0 (by kernel_rfl) (by kernel_rfl) (by kernel_rfl) gok_none (fun _ => by kernel_rfl) hB (fun _ _ hq => trivial) (fun b3 w4 hB5 hN q1 h2 => ?_)
  clear h0 hB hN
  refine stA (i := 1) (d := 2) (op := Op.alloc 29) (ty := 0) (g := none) (mk := fun b => .pointer (some ⟨b, 0, none⟩)) (o := .cells #[.string (⟨#[]⟩ : ByteArray), .int .i64 0, .string (⟨#[]⟩ : ByteArray), .string (⟨#[]⟩ : ByteArray), .int .i64 0, .string (⟨#[]⟩ : ByteArray), .int .i64 0, .int .i64 0, .int .i64 0, .int .i64 0, .int .i64 0, .bool false, .int .i64 0, .bool false, .bool false, .slice none 0 0] 29 (0, 0)) h2 (by kernel_rfl) (by kernel_rfl) (by kernel_rfl) gok_none (fun _ => by kernel_rfl) hB5 (fun _ _ hq => trivial) (fun b8 w9 hB10 hN q6 h7 => ?_)
  clear h2 hB5 hN
  refine wpO_end ?_
  have h11 := h7.keep [(2, .pointer (some ⟨b8, 0, none⟩)), (1, .pointer (some ⟨b3, 0, none⟩))] ⟨rfl, rfl, trivial⟩
  clear h7
  refine then_n ?_
  refine c_seq (by kernel_rfl) ?_
  refine reg_plain [(0, false), (1, false), (2, false), (3, false), (4, false), (5, false), (6, false), (7, false), (8, false), (9, false), (10, false), (11, false), (12, false), (13, false), (14, false), (15, false), (16, false), (17, false), (18, false), (19, false), (20, false), (21, false), (22, false), (23, false), (24, false), (25, false), (26, false), (27, false), (28, false), (29, false), (30, false), (31, false), (32, false)] (by kernel_rfl) (by kernel_rfl) ?_
  refine eE 0 5 (.fieldAddr 24 (.tmp 1) 0) 0 (.pointer (some ⟨b3, 0, none⟩)) h11 fun q12 h13 => ?_
  clear h11
  refine eE 1 6 (.load 9 (.tmp 5)) 9 (.string i.ref) h13 (hr := r_loadC (b := b3) (v := .string i.ref) hB10 1 0 (by kernel_rfl) (by kernel_rfl) (by kernel_rfl)) fun q14 h15 => ?_
  clear h13
  refine eE 2 7 (.fieldAddr 24 (.tmp 1) 1) 0 (.pointer (some ⟨b3, 1, none⟩)) h15 fun q16 h17 => ?_
  clear h15
  refine eE 3 8 (.load 3 (.tmp 7)) 3 (.int .i64 i.kind) h17 (hr := r_loadC (b := b3) (v := .int .i64 i.kind) hB10 1 1 (by kernel_rfl) (by kernel_rfl) (by kernel_rfl)) fun q18 h19 => ?_
  clear h17
  refine eE 4 9 (.fieldAddr 24 (.tmp 1) 2) 0 (.pointer (some ⟨b3, 2, none⟩)) h19 fun q20 h21 => ?_
  clear h19
  refine eE 5 10 (.load 9 (.tmp 9)) 9 (.string i.sender) h21 (hr := r_loadC (b := b3) (v := .string i.sender) hB10 1 2 (by kernel_rfl) (by kernel_rfl) (by kernel_rfl)) fun q22 h23 => ?_
  clear h21
  refine eE 6 11 (.fieldAddr 24 (.tmp 1) 3) 0 (.pointer (some ⟨b3, 3, none⟩)) h23 fun q24 h25 => ?_
  clear h23
  refine eE 7 12 (.load 9 (.tmp 11)) 9 (.string i.cpty) h25 (hr := r_loadC (b := b3) (v := .string i.cpty) hB10 1 3 (by kernel_rfl) (by kernel_rfl) (by kernel_rfl)) fun q26 h27 => ?_
  clear h25
  refine eE 8 13 (.fieldAddr 24 (.tmp 1) 4) 0 (.pointer (some ⟨b3, 4, none⟩)) h27 fun q28 h29 => ?_
  clear h27
  refine eE 9 14 (.load 3 (.tmp 13)) 3 (.int .i64 i.side) h29 (hr := r_loadC (b := b3) (v := .int .i64 i.side) hB10 1 4 (by kernel_rfl) (by kernel_rfl) (by kernel_rfl)) fun q30 h31 => ?_
  clear h29
  refine eE 10 15 (.fieldAddr 24 (.tmp 1) 5) 0 (.pointer (some ⟨b3, 5, none⟩)) h31 fun q32 h33 => ?_
  clear h31
  refine eE 11 16 (.load 9 (.tmp 15)) 9 (.string i.asset) h33 (hr := r_loadC (b := b3) (v := .string i.asset) hB10 1 5 (by kernel_rfl) (by kernel_rfl) (by kernel_rfl)) fun q34 h35 => ?_
  clear h33
  refine eE 12 17 (.fieldAddr 24 (.tmp 1) 6) 0 (.pointer (some ⟨b3, 6, none⟩)) h35 fun q36 h37 => ?_
  clear h35
  refine eE 13 18 (.load 2 (.tmp 17)) 2 (.int .i64 i.qty) h37 (hr := r_loadC (b := b3) (v := .int .i64 i.qty) hB10 1 6 (by kernel_rfl) (by kernel_rfl) (by kernel_rfl)) fun q38 h39 => ?_
  clear h37
  refine eE 14 19 (.fieldAddr 24 (.tmp 1) 7) 0 (.pointer (some ⟨b3, 7, none⟩)) h39 fun q40 h41 => ?_
  clear h39
  refine eE 15 20 (.load 2 (.tmp 19)) 2 (.int .i64 i.amt) h41 (hr := r_loadC (b := b3) (v := .int .i64 i.amt) hB10 1 7 (by kernel_rfl) (by kernel_rfl) (by kernel_rfl)) fun q42 h43 => ?_
  clear h41
  refine eE 16 21 (.fieldAddr 24 (.tmp 1) 8) 0 (.pointer (some ⟨b3, 8, none⟩)) h43 fun q44 h45 => ?_
  clear h43
  refine eE 17 22 (.load 3 (.tmp 21)) 3 (.int .i64 i.tday) h45 (hr := r_loadC (b := b3) (v := .int .i64 i.tday) hB10 1 8 (by kernel_rfl) (by kernel_rfl) (by kernel_rfl)) fun q46 h47 => ?_
  clear h45
  refine eE 18 23 (.fieldAddr 24 (.tmp 1) 9) 0 (.pointer (some ⟨b3, 9, none⟩)) h47 fun q48 h49 => ?_
  clear h47
  refine eE 19 24 (.load 3 (.tmp 23)) 3 (.int .i64 i.sday) h49 (hr := r_loadC (b := b3) (v := .int .i64 i.sday) hB10 1 9 (by kernel_rfl) (by kernel_rfl) (by kernel_rfl)) fun q50 h51 => ?_
  clear h49
  refine eE 20 25 (.fieldAddr 24 (.tmp 1) 10) 0 (.pointer (some ⟨b3, 10, none⟩)) h51 fun q52 h53 => ?_
  clear h51
  refine eE 21 26 (.load 3 (.tmp 25)) 3 (.int .i64 i.prio) h53 (hr := r_loadC (b := b3) (v := .int .i64 i.prio) hB10 1 10 (by kernel_rfl) (by kernel_rfl) (by kernel_rfl)) fun q54 h55 => ?_
  clear h53
  refine eE 22 27 (.fieldAddr 24 (.tmp 1) 11) 0 (.pointer (some ⟨b3, 11, none⟩)) h55 fun q56 h57 => ?_
  clear h55
  refine eE 23 28 (.load 4 (.tmp 27)) 4 (.bool i.part) h57 (hr := r_loadC (b := b3) (v := .bool i.part) hB10 1 11 (by kernel_rfl) (by kernel_rfl) (by kernel_rfl)) fun q58 h59 => ?_
  clear h57
  refine eE 24 29 (.fieldAddr 24 (.tmp 1) 12) 0 (.pointer (some ⟨b3, 12, none⟩)) h59 fun q60 h61 => ?_
  clear h59
  refine eE 25 30 (.load 2 (.tmp 29)) 2 (.int .i64 i.minlot) h61 (hr := r_loadC (b := b3) (v := .int .i64 i.minlot) hB10 1 12 (by kernel_rfl) (by kernel_rfl) (by kernel_rfl)) fun q62 h63 => ?_
  clear h61
  refine eE 26 31 (.fieldAddr 24 (.tmp 1) 13) 0 (.pointer (some ⟨b3, 13, none⟩)) h63 fun q64 h65 => ?_
  clear h63
  refine eE 27 32 (.load 4 (.tmp 31)) 4 (.bool i.hold) h65 (hr := r_loadC (b := b3) (v := .bool i.hold) hB10 1 13 (by kernel_rfl) (by kernel_rfl) (by kernel_rfl)) fun q66 h67 => ?_
  clear h65
  refine eE 28 33 (.fieldAddr 24 (.tmp 1) 14) 0 (.pointer (some ⟨b3, 14, none⟩)) h67 fun q68 h69 => ?_
  clear h67
  refine eE 29 34 (.load 4 (.tmp 33)) 4 (.bool i.resv) h69 (hr := r_loadC (b := b3) (v := .bool i.resv) hB10 1 14 (by kernel_rfl) (by kernel_rfl) (by kernel_rfl)) fun q70 h71 => ?_
  clear h69
  refine eE 30 35 (.build 29 #[(0, .tmp 6), (1, .tmp 8), (2, .tmp 10), (3, .tmp 12), (4, .tmp 14), (5, .tmp 16), (6, .tmp 18), (7, .tmp 20), (8, .tmp 22), (9, .tmp 24), (10, .tmp 26), (11, .tmp 28), (12, .tmp 30), (13, .tmp 32), (14, .tmp 34)]) 29 (.agg #[.string i.ref, .int .i64 i.kind, .string i.sender, .string i.cpty, .int .i64 i.side, .string i.asset, .int .i64 i.qty, .int .i64 i.amt, .int .i64 i.tday, .int .i64 i.sday, .int .i64 i.prio, .bool i.part, .int .i64 i.minlot, .bool i.hold, .bool i.resv, .slice none 0 0]) h71 fun q72 h73 => ?_
  clear h71
  refine stA (i := 31) (d := 3) (op := Op.alloc 29) (ty := 0) (g := none) (mk := fun b => .pointer (some ⟨b, 0, none⟩)) (o := .cells #[.string (⟨#[]⟩ : ByteArray), .int .i64 0, .string (⟨#[]⟩ : ByteArray), .string (⟨#[]⟩ : ByteArray), .int .i64 0, .string (⟨#[]⟩ : ByteArray), .int .i64 0, .int .i64 0, .int .i64 0, .int .i64 0, .int .i64 0, .bool false, .int .i64 0, .bool false, .bool false, .slice none 0 0] 29 (0, 0)) h73 (by kernel_rfl) (by kernel_rfl) (by kernel_rfl) gok_none (fun _ => by kernel_rfl) hB10 (fun _ _ hq => trivial) (fun b76 w77 hB78 hN q74 h75 => ?_)
  clear h73 hB10 hN
  refine stWs (i := 32) (ty := 0) (t := 29) (x := Operand.tmp 3) (y := Operand.tmp 35) (g := none) 0 0 (b := b76) (T := 29) (cs := [.string (⟨#[]⟩ : ByteArray), .int .i64 0, .string (⟨#[]⟩ : ByteArray), .string (⟨#[]⟩ : ByteArray), .int .i64 0, .string (⟨#[]⟩ : ByteArray), .int .i64 0, .int .i64 0, .int .i64 0, .int .i64 0, .int .i64 0, .bool false, .int .i64 0, .bool false, .bool false, .slice none 0 0]) (vs := [.string i.ref, .int .i64 i.kind, .string i.sender, .string i.cpty, .int .i64 i.side, .string i.asset, .int .i64 i.qty, .int .i64 i.amt, .int .i64 i.tday, .int .i64 i.sday, .int .i64 i.prio, .bool i.part, .int .i64 i.minlot, .bool i.hold, .bool i.resv, .slice none 0 0]) (cs' := [.string i.ref, .int .i64 i.kind, .string i.sender, .string i.cpty, .int .i64 i.side, .string i.asset, .int .i64 i.qty, .int .i64 i.amt, .int .i64 i.tday, .int .i64 i.sday, .int .i64 i.prio, .bool i.part, .int .i64 i.minlot, .bool i.hold, .bool i.resv, .slice none 0 0]) h75 (by kernel_rfl) (by kernel_rfl) gok_none hB78 (by kernel_rfl) (by kernel_rfl) (by kernel_rfl) (by kernel_rfl) (by kernel_rfl) (by kernel_rfl) (by kernel_rfl) (.inr fun _ _ => trivial) (fun w81 hB82 hT q79 h80 => ?_)
  replace hB82 : Bx w [(b76, .cells #[.string i.ref, .int .i64 i.kind, .string i.sender, .string i.cpty, .int .i64 i.side, .string i.asset, .int .i64 i.qty, .int .i64 i.amt, .int .i64 i.tday, .int .i64 i.sday, .int .i64 i.prio, .bool i.part, .int .i64 i.minlot, .bool i.hold, .bool i.resv, .slice none 0 0] 29 (0, 0)), (b8, .cells #[.string (⟨#[]⟩ : ByteArray), .int .i64 0, .string (⟨#[]⟩ : ByteArray), .string (⟨#[]⟩ : ByteArray), .int .i64 0, .string (⟨#[]⟩ : ByteArray), .int .i64 0, .int .i64 0, .int .i64 0, .int .i64 0, .int .i64 0, .bool false, .int .i64 0, .bool false, .bool false, .slice none 0 0] 29 (0, 0)), (b3, .cells #[.string i.ref, .int .i64 i.kind, .string i.sender, .string i.cpty, .int .i64 i.side, .string i.asset, .int .i64 i.qty, .int .i64 i.amt, .int .i64 i.tday, .int .i64 i.sday, .int .i64 i.prio, .bool i.part, .int .i64 i.minlot, .bool i.hold, .bool i.resv, .slice A i.links.length c] 24 (0, 0))] w81 := hB82
  clear h75 hB78
  clear hT
  refine wpO_end ?_
  have h83 := h80.keep [(3, .pointer (some ⟨b76, 0, none⟩)), (2, .pointer (some ⟨b8, 0, none⟩)), (1, .pointer (some ⟨b3, 0, none⟩))] ⟨rfl, rfl, rfl, trivial⟩
  clear h80
  refine then_n ?_
  refine c_seq (by kernel_rfl) ?_
  refine c_seq (by kernel_rfl) ?_
  refine reg_plain [(0, false)] (by kernel_rfl) (by kernel_rfl) ?_
  refine eE 0 4 (.assign (.const (.int .i64 0))) 3 (.int .i64 0) h83 fun q84 h85 => ?_
  clear h83
  refine wpO_end ?_
  refine then_n ?_
  refine c_block 0 (by kernel_rfl) ?_
  refine c_loop (by kernel_rfl) (fun qa qw => ∃ k : Nat, ∃ (A' : Option Addr) (c' : Nat), (k ≤ i.links.length) ∧ Fr 62 [(1, .pointer (some ⟨b3, 0, none⟩)), (2, .pointer (some ⟨b8, 0, none⟩)), (3, .pointer (some ⟨b76, 0, none⟩)), (4, .int .i64 ((k : Nat) : Int))] qa ∧ Bx w [(b76, .cells #[.string i.ref, .int .i64 i.kind, .string i.sender, .string i.cpty, .int .i64 i.side, .string i.asset, .int .i64 i.qty, .int .i64 i.amt, .int .i64 i.tday, .int .i64 i.sday, .int .i64 i.prio, .bool i.part, .int .i64 i.minlot, .bool i.hold, .bool i.resv, .slice A' k c'] 29 (0, 0)), (b8, .cells #[.string (⟨#[]⟩ : ByteArray), .int .i64 0, .string (⟨#[]⟩ : ByteArray), .string (⟨#[]⟩ : ByteArray), .int .i64 0, .string (⟨#[]⟩ : ByteArray), .int .i64 0, .int .i64 0, .int .i64 0, .int .i64 0, .int .i64 0, .bool false, .int .i64 0, .bool false, .bool false, .slice none 0 0] 29 (0, 0)), (b3, .cells #[.string i.ref, .int .i64 i.kind, .string i.sender, .string i.cpty, .int .i64 i.side, .string i.asset, .int .i64 i.qty, .int .i64 i.amt, .int .i64 i.tday, .int .i64 i.sday, .int .i64 i.prio, .bool i.part, .int .i64 i.minlot, .bool i.hold, .bool i.resv, .slice A i.links.length c] 24 (0, 0))] qw ∧ (qw.ownsRow w.heap.size 66 2 (.slice A' k c') k (lkc (i.links.take k)))) (fun qa _ => (((i.links.length : Int)) - intAt qa 4).toNat) ⟨0, none, 0, Nat.zero_le _, h85.keep _ ⟨rfl, rfl, rfl, rfl, trivial⟩, hB82, own_nil _ _ _ _⟩ ?_
  rintro q86 w87 ⟨k, A', c', hk90, h88, hB89, hx92⟩
  have hm91 := h88.int (k := 4) (kd := .i64) (z := ((k : Nat) : Int)) rfl
  clear h85 hB82
  refine c_seq (by kernel_rfl) ?_
  refine c_seq (by kernel_rfl) ?_
  refine reg_plain [(0, false), (1, false), (2, false), (3, false), (4, false)] (by kernel_rfl) (by kernel_rfl) ?_
  refine eE 0 36 (.move (.tmp 4)) 3 (.int .i64 ((k : Nat) : Int)) h88 fun q93 h94 => ?_
  clear h88
  refine eE 1 37 (.fieldAddr 24 (.tmp 1) 15) 0 (.pointer (some ⟨b3, 15, none⟩)) h94 fun q95 h96 => ?_
  clear h94
  refine eE 2 38 (.load 22 (.tmp 37)) 22 (.slice A i.links.length c) h96 (hr := r_loadC (b := b3) (v := .slice A i.links.length c) hB89 2 15 (by kernel_rfl) (by kernel_rfl) (by kernel_rfl)) fun q97 h98 => ?_
  clear h96
  refine eE 3 39 (.call { callee := .builtin .len, args := #[.tmp 38], argTypes := #[22] }) 3 (.int .i64 ((i.links.length : Nat) : Int)) h98 fun q99 h100 => ?_
  clear h98
  refine eE 4 40 (.binOp .lss 3 (.tmp 36) (.tmp 39) 3) 4 (.bool (decide (((k : Nat) : Int) < ((i.links.length : Nat) : Int)))) h100 fun q101 h102 => ?_
  clear h100
  refine wpO_end ?_
  refine then_n ?_
  refine c_cond (t := 40) (b := decide (((k : Nat) : Int) < ((i.links.length : Nat) : Int))) h102 (by kernel_rfl) (by kernel_rfl) (fun hc103 => ?_) (fun hc103 => ?_)
  ·
    have hp104 : (((k : Nat) : Int) < ((i.links.length : Nat) : Int)) := of_decide_eq_true hc103
    have hlt : k < i.links.length := by omega
    obtain ⟨x, hx⟩ : ∃ x, i.links[k]? = some x := ⟨i.links[k], List.getElem?_eq_getElem hlt⟩
    obtain ⟨ad, hA, hE0⟩ := hr.el (k * 2) [.int .i64 x.t, .string x.r] (by simp) (lkc_el i.links k x hx)
    subst hA
    refine c_skip (by kernel_rfl) ?_
    refine then_n ?_
    refine c_seq (by kernel_rfl) ?_
    refine c_block 1 (by kernel_rfl) ?_
    have hD105 := hB89.drew
    refine reg_draw (S := Bx w [(b76, .cells #[.string i.ref, .int .i64 i.kind, .string i.sender, .string i.cpty, .int .i64 i.side, .string i.asset, .int .i64 i.qty, .int .i64 i.amt, .int .i64 i.tday, .int .i64 i.sday, .int .i64 i.prio, .bool i.part, .int .i64 i.minlot, .bool i.hold, .bool i.resv, .slice A' k c'] 29 (0, 0)), (b8, .cells #[.string (⟨#[]⟩ : ByteArray), .int .i64 0, .string (⟨#[]⟩ : ByteArray), .string (⟨#[]⟩ : ByteArray), .int .i64 0, .string (⟨#[]⟩ : ByteArray), .int .i64 0, .int .i64 0, .int .i64 0, .int .i64 0, .int .i64 0, .bool false, .int .i64 0, .bool false, .bool false, .slice none 0 0] 29 (0, 0)), (b3, .cells #[.string i.ref, .int .i64 i.kind, .string i.sender, .string i.cpty, .int .i64 i.side, .string i.asset, .int .i64 i.qty, .int .i64 i.amt, .int .i64 i.tday, .int .i64 i.sday, .int .i64 i.prio, .bool i.part, .int .i64 i.minlot, .bool i.hold, .bool i.resv, .slice (some ad) i.links.length c] 24 (0, 0))]) 19 [⟨0, true, 0, 8, 8796093022208⟩, ⟨1, true, 1, 8796093022208, 17592186044416⟩, ⟨2, true, 0, 2, 35184372088832⟩, ⟨3, true, 4, 35184372088832, 70368744177664⟩, ⟨4, true, 0, 16, 140737488355328⟩, ⟨5, true, 24, 211106232532992, 281474976710656⟩, ⟨6, true, 32, 281474976710656, 562949953421312⟩, ⟨7, true, 64, 562949953421312, 1125899906842624⟩, ⟨8, true, 0, 2, 2251799813685248⟩, ⟨9, true, 256, 2251799813685248, 4503599627370496⟩, ⟨10, true, 0, 16, 9007199254740992⟩, ⟨11, true, 1536, 13510798882111488, 18014398509481984⟩, ⟨12, true, 2048, 18014398509481984, 36028797018963968⟩, ⟨13, true, 4096, 36028797018963968, 72057594037927936⟩, ⟨14, true, 8320, 73183493944770560, 144115188075855872⟩, ⟨15, false, 16384, 144115188075855872, 288230376151711744⟩, ⟨16, false, 32770, 288247968337756160, 576460752303423488⟩, ⟨17, true, 131071, 8, 1152921504606846976⟩, ⟨18, false, 262143, 1729382256910270464, 0⟩] [(0, true), (1, true), (2, true), (3, true), (4, true), (5, true), (6, true), (7, true), (8, true), (9, true), (10, true), (11, true), (12, true), (13, true), (14, true), (15, false), (16, false), (17, true), (18, false)] (by kernel_rfl) (by kernel_rfl) (by kernel_rfl) (by kernel_rfl) (fun _ _ _ _ h => absurd h.2 (by simp)) hD105 ?_
    have ho106 := own_drew hx92
    generalize World.drew w87 = w107 at hD105 ho106 ⊢
    refine fE 0 43 (.fieldAddr 29 (.tmp 3) 15) 0 (.pointer (some ⟨b76, 15, none⟩)) h102 fun q108 h109 => ?_
    clear h102
    refine fE 1 44 (.load 27 (.tmp 43)) 27 (.slice A' k c') h109 (hr := fun _ hS => r_loadC (b := b76) (v := .slice A' k c') hS 0 15 (by kernel_rfl) (by kernel_rfl) (by kernel_rfl)) fun q110 h111 => ?_
    clear h109
    refine fE 2 45 (.fieldAddr 24 (.tmp 1) 15) 0 (.pointer (some ⟨b3, 15, none⟩)) h111 fun q112 h113 => ?_
    clear h111
    refine fE 3 46 (.load 22 (.tmp 45)) 22 (.slice (some ad) i.links.length c) h113 (hr := fun _ hS => r_loadC (b := b3) (v := .slice (some ad) i.links.length c) hS 2 15 (by kernel_rfl) (by kernel_rfl) (by kernel_rfl)) fun q114 h115 => ?_
    clear h113
    refine fE 4 47 (.move (.tmp 4)) 3 (.int .i64 ((k : Nat) : Int)) h115 fun q116 h117 => ?_
    clear h115
    refine fE 5 48 (.indexAddr 22 (.tmp 46) (.tmp 47)) 0 (.pointer (some ((ad.add (k * 2)).add 0))) h117 (hr := fun _ hS => r_index0 (n := i.links.length) (c := c) (kd := .i64) (by kernel_rfl) (by kernel_rfl) hlt (by kernel_rfl)) fun q118 h119 => ?_
    clear h117
    refine fE 6 49 (.fieldAddr 67 (.tmp 48) 0) 0 (.pointer (some ((ad.add (k * 2)).add 0))) h119 (hr := fun _ hS => r_fieldAddr (ad := ad.add (k * 2)) (o := 0) (off := 0) (by kernel_rfl) (by kernel_rfl)) fun q120 h121 => ?_
    clear h119
    refine fE 7 50 (.load 3 (.tmp 49)) 3 (.int .i64 x.t) h121 (hr := fun _ hS => r_loadF (o := 0) (v := .int .i64 x.t) (hE0.below hS.bel) (by kernel_rfl) (by kernel_rfl) (by kernel_rfl)) fun q122 h123 => ?_
    clear h121
    refine fE 8 51 (.fieldAddr 24 (.tmp 1) 15) 0 (.pointer (some ⟨b3, 15, none⟩)) h123 fun q124 h125 => ?_
    clear h123
    refine fE 9 52 (.load 22 (.tmp 51)) 22 (.slice (some ad) i.links.length c) h125 (hr := fun _ hS => r_loadC (b := b3) (v := .slice (some ad) i.links.length c) hS 2 15 (by kernel_rfl) (by kernel_rfl) (by kernel_rfl)) fun q126 h127 => ?_
    clear h125
    refine fE 10 53 (.move (.tmp 4)) 3 (.int .i64 ((k : Nat) : Int)) h127 fun q128 h129 => ?_
    clear h127
    refine fE 11 54 (.indexAddr 22 (.tmp 52) (.tmp 53)) 0 (.pointer (some ((ad.add (k * 2)).add 0))) h129 (hr := fun _ hS => r_index0 (n := i.links.length) (c := c) (kd := .i64) (by kernel_rfl) (by kernel_rfl) hlt (by kernel_rfl)) fun q130 h131 => ?_
    clear h129
    refine fE 12 55 (.fieldAddr 67 (.tmp 54) 1) 0 (.pointer (some ((ad.add (k * 2)).add 1))) h131 (hr := fun _ hS => r_fieldAddr (ad := ad.add (k * 2)) (o := 0) (off := 1) (by kernel_rfl) (by kernel_rfl)) fun q132 h133 => ?_
    clear h131
    refine fE 13 56 (.load 9 (.tmp 55)) 9 (.string x.r) h133 (hr := fun _ hS => r_loadF (o := 1) (v := .string x.r) (hE0.below hS.bel) (by kernel_rfl) (by kernel_rfl) (by kernel_rfl)) fun q134 h135 => ?_
    clear h133
    refine fE 14 57 (.build 66 #[(0, .tmp 50), (1, .tmp 56)]) 66 (.agg #[.int .i64 x.t, .string x.r]) h135 fun q136 h137 => ?_
    clear h135
    refine stA (i := 15) (d := 58) (op := Op.buildSlice 27 1 #[(0, Operand.tmp 57)]) (ty := 27) (g := none) (mk := fun b => .slice (some ⟨b, 0, none⟩) 1 1) (o := .cells #[.int .i64 x.t, .string x.r] 66 (0, 0)) h137 (by kernel_rfl) (by kernel_rfl) (by kernel_rfl) gok_none (fun _ => by kernel_rfl) hD105 (fun _ _ hq => hq.tail) (fun b140 w141 hB142 hN q138 h139 => ?_)
    have ho143 := own_below ho106 hN
    clear h137 hD105 hN
    have hr152 := Rd.of_blk (hB142.at 0 rfl)
    refine stApp (x := Operand.tmp 44) (y := Operand.tmp 58) (i := 16) (d := 59) (t := 27) (e := 66) (size := 2) (bytes := 24) (base := w.heap.size) (nn := k) (m := 1) (c := 1) (ty := 27) (g := none) (v := .slice A' k c') (xs := (lkc (i.links.take k))) (news := [.int .i64 x.t, .string x.r]) (ad := ⟨b140, 0, none⟩) h139 (by kernel_rfl) (by kernel_rfl) (by kernel_rfl) gok_none (by kernel_rfl) (by decide) (by kernel_rfl) (by kernel_rfl) ho143 (by kernel_rfl) (fun j u hj => by obtain ⟨ad', e1, -, h1⟩ := hr152 j u hj; cases e1; exact h1) (by intro u hu; revert u hu; simp only [List.forall_mem_cons]; exact ⟨rfl, rfl, fun _ h => absurd h (by simp)⟩) (by first | (unfold maxLen; omega) | omega) (by first | (unfold maxLen; omega) | omega) hB142.tail hB142.bel.size (Nat.le_refl _) (by kernel_rfl) (fun _ hq => hq) (fun v146 w147 ho148 hg149 hB150 hz151 q144 h145 => ?_)
    clear h139 hB142 hr152
    obtain ⟨A153, c154, rfl, -, hr155⟩ := own_rd ho148
    refine fE 17 60 (.fieldAddr 29 (.tmp 3) 15) 0 (.pointer (some ⟨b76, 15, none⟩)) h145 fun q156 h157 => ?_
    clear h145
    refine stWs (i := 18) (ty := 0) (t := 27) (x := Operand.tmp 60) (y := Operand.tmp 59) (g := none) 0 15 (b := b76) (T := 29) (cs := [.string i.ref, .int .i64 i.kind, .string i.sender, .string i.cpty, .int .i64 i.side, .string i.asset, .int .i64 i.qty, .int .i64 i.amt, .int .i64 i.tday, .int .i64 i.sday, .int .i64 i.prio, .bool i.part, .int .i64 i.minlot, .bool i.hold, .bool i.resv, .slice A' k c']) (vs := [.slice A153 (k + 1) c154]) (cs' := [.string i.ref, .int .i64 i.kind, .string i.sender, .string i.cpty, .int .i64 i.side, .string i.asset, .int .i64 i.qty, .int .i64 i.amt, .int .i64 i.tday, .int .i64 i.sday, .int .i64 i.prio, .bool i.part, .int .i64 i.minlot, .bool i.hold, .bool i.resv, .slice A153 (k + 1) c154]) h157 (by kernel_rfl) (by kernel_rfl) gok_none hB150 (by kernel_rfl) (by kernel_rfl) (by kernel_rfl) (by kernel_rfl) (by kernel_rfl) (by kernel_rfl) (by kernel_rfl) (.inl (by kernel_rfl)) (fun w160 hB161 hT q158 h159 => ?_)
    replace hB161 : Bx w [(b76, .cells #[.string i.ref, .int .i64 i.kind, .string i.sender, .string i.cpty, .int .i64 i.side, .string i.asset, .int .i64 i.qty, .int .i64 i.amt, .int .i64 i.tday, .int .i64 i.sday, .int .i64 i.prio, .bool i.part, .int .i64 i.minlot, .bool i.hold, .bool i.resv, .slice A153 (k + 1) c154] 29 (0, 0)), (b8, .cells #[.string (⟨#[]⟩ : ByteArray), .int .i64 0, .string (⟨#[]⟩ : ByteArray), .string (⟨#[]⟩ : ByteArray), .int .i64 0, .string (⟨#[]⟩ : ByteArray), .int .i64 0, .int .i64 0, .int .i64 0, .int .i64 0, .int .i64 0, .bool false, .int .i64 0, .bool false, .bool false, .slice none 0 0] 29 (0, 0)), (b3, .cells #[.string i.ref, .int .i64 i.kind, .string i.sender, .string i.cpty, .int .i64 i.side, .string i.asset, .int .i64 i.qty, .int .i64 i.amt, .int .i64 i.tday, .int .i64 i.sday, .int .i64 i.prio, .bool i.part, .int .i64 i.minlot, .bool i.hold, .bool i.resv, .slice (some ad) i.links.length c] 24 (0, 0))] w160 := hB161
    clear h157 hB150
    have ho162 := own_turned ho148 hT (by kernel_rfl)
    clear hT
    refine wpO_end ?_
    refine inB_n ?_
    refine then_n ?_
    refine reg_plain [(0, false), (1, false), (2, false)] (by kernel_rfl) (by kernel_rfl) ?_
    refine eE 0 41 (.move (.tmp 4)) 3 (.int .i64 ((k : Nat) : Int)) h159 fun q163 h164 => ?_
    clear h159
    refine eE 1 42 (.binOp .add 3 (.tmp 41) (.const (.int .i64 1)) 3) 3 (.int .i64 (IntKind.i64.wrap (((k : Nat) : Int) + 1))) h164 fun q165 h166 => ?_
    clear h164
    refine eE 2 4 (.assign (.tmp 42)) 3 (.int .i64 (IntKind.i64.wrap (((k : Nat) : Int) + 1))) h166 fun q167 h168 => ?_
    clear h166
    refine wpO_end ?_
    have h169 := h168.keep [(4, .int .i64 (IntKind.i64.wrap (((k : Nat) : Int) + 1))), (42, .int .i64 (IntKind.i64.wrap (((k : Nat) : Int) + 1))), (41, .int .i64 ((k : Nat) : Int)), (60, .pointer (some ⟨b76, 15, none⟩)), (59, .slice A153 (k + 1) c154), (58, .slice (some ⟨b140, 0, none⟩) 1 1), (57, .agg #[.int .i64 x.t, .string x.r]), (56, .string x.r), (55, .pointer (some ((ad.add (k * 2)).add 1))), (54, .pointer (some ((ad.add (k * 2)).add 0))), (53, .int .i64 ((k : Nat) : Int)), (52, .slice (some ad) i.links.length c), (51, .pointer (some ⟨b3, 15, none⟩)), (50, .int .i64 x.t), (49, .pointer (some ((ad.add (k * 2)).add 0))), (48, .pointer (some ((ad.add (k * 2)).add 0))), (47, .int .i64 ((k : Nat) : Int)), (46, .slice (some ad) i.links.length c), (45, .pointer (some ⟨b3, 15, none⟩)), (44, .slice A' k c'), (43, .pointer (some ⟨b76, 15, none⟩)), (40, .bool (decide (((k : Nat) : Int) < ((i.links.length : Nat) : Int)))), (39, .int .i64 ((i.links.length : Nat) : Int)), (38, .slice (some ad) i.links.length c), (37, .pointer (some ⟨b3, 15, none⟩)), (36, .int .i64 ((k : Nat) : Int)), (1, .pointer (some ⟨b3, 0, none⟩)), (2, .pointer (some ⟨b8, 0, none⟩)), (3, .pointer (some ⟨b76, 0, none⟩))] ⟨rfl, rfl, rfl, rfl, rfl, rfl, rfl, rfl, rfl, rfl, rfl, rfl, rfl, rfl, rfl, rfl, rfl, rfl, rfl, rfl, rfl, rfl, rfl, rfl, rfl, rfl, rfl, rfl, rfl, trivial⟩
    clear h168
    have h170 := h169.keep [(1, .pointer (some ⟨b3, 0, none⟩)), (2, .pointer (some ⟨b8, 0, none⟩)), (3, .pointer (some ⟨b76, 0, none⟩)), (4, .int .i64 (((k + 1) : Nat) : Int))] ⟨rfl, rfl, rfl, look_int rfl (wrap_succ (by have := hn; omega)), trivial⟩
    have hm171 := h170.int (k := 4) (kd := .i64) (z := (((k + 1) : Nat) : Int)) rfl
    refine then_n ⟨⟨k + 1, A153, c154, by omega, h170, hB161, by rw [← lkc_snoc _ _ _ hx]; exact ho162⟩, ?_⟩
    show (((i.links.length : Int)) - intAt _ 4).toNat < (((i.links.length : Int)) - intAt _ 4).toNat
    rw [hm91, hm171]; omega
  ·
    have hp172 : ¬ (((k : Nat) : Int) < ((i.links.length : Nat) : Int)) := of_decide_eq_false hc103
    have hke : k = i.links.length := by omega
    refine c_exit 0 (by kernel_rfl) ?_
    refine then_e (then_e (inB_hit ?_))
    refine then_n ?_
    refine c_seq (by kernel_rfl) ?_
    refine reg_plain [(0, false), (1, false)] (by kernel_rfl) (by kernel_rfl) ?_
    refine eE 0 61 (.load 29 (.tmp 3)) 29 (.agg #[.string i.ref, .int .i64 i.kind, .string i.sender, .string i.cpty, .int .i64 i.side, .string i.asset, .int .i64 i.qty, .int .i64 i.amt, .int .i64 i.tday, .int .i64 i.sday, .int .i64 i.prio, .bool i.part, .int .i64 i.minlot, .bool i.hold, .bool i.resv, .slice A' k c']) h102 (hr := r_loadS (b := b76) (vs := [.string i.ref, .int .i64 i.kind, .string i.sender, .string i.cpty, .int .i64 i.side, .string i.asset, .int .i64 i.qty, .int .i64 i.amt, .int .i64 i.tday, .int .i64 i.sday, .int .i64 i.prio, .bool i.part, .int .i64 i.minlot, .bool i.hold, .bool i.resv, .slice A' k c']) hB89 0 0 (by kernel_rfl) (by kernel_rfl) (by kernel_rfl)) fun q173 h174 => ?_
    clear h102
    refine stWs (i := 1) (ty := 0) (t := 29) (x := Operand.tmp 2) (y := Operand.tmp 61) (g := none) 1 0 (b := b8) (T := 29) (cs := [.string (⟨#[]⟩ : ByteArray), .int .i64 0, .string (⟨#[]⟩ : ByteArray), .string (⟨#[]⟩ : ByteArray), .int .i64 0, .string (⟨#[]⟩ : ByteArray), .int .i64 0, .int .i64 0, .int .i64 0, .int .i64 0, .int .i64 0, .bool false, .int .i64 0, .bool false, .bool false, .slice none 0 0]) (vs := [.string i.ref, .int .i64 i.kind, .string i.sender, .string i.cpty, .int .i64 i.side, .string i.asset, .int .i64 i.qty, .int .i64 i.amt, .int .i64 i.tday, .int .i64 i.sday, .int .i64 i.prio, .bool i.part, .int .i64 i.minlot, .bool i.hold, .bool i.resv, .slice A' k c']) (cs' := [.string i.ref, .int .i64 i.kind, .string i.sender, .string i.cpty, .int .i64 i.side, .string i.asset, .int .i64 i.qty, .int .i64 i.amt, .int .i64 i.tday, .int .i64 i.sday, .int .i64 i.prio, .bool i.part, .int .i64 i.minlot, .bool i.hold, .bool i.resv, .slice A' k c']) h174 (by kernel_rfl) (by kernel_rfl) gok_none hB89 (by kernel_rfl) (by kernel_rfl) (by kernel_rfl) (by kernel_rfl) (by kernel_rfl) (by kernel_rfl) (by kernel_rfl) (.inr fun _ _ => trivial) (fun w177 hB178 hT q175 h176 => ?_)
    replace hB178 : Bx w [(b76, .cells #[.string i.ref, .int .i64 i.kind, .string i.sender, .string i.cpty, .int .i64 i.side, .string i.asset, .int .i64 i.qty, .int .i64 i.amt, .int .i64 i.tday, .int .i64 i.sday, .int .i64 i.prio, .bool i.part, .int .i64 i.minlot, .bool i.hold, .bool i.resv, .slice A' k c'] 29 (0, 0)), (b8, .cells #[.string i.ref, .int .i64 i.kind, .string i.sender, .string i.cpty, .int .i64 i.side, .string i.asset, .int .i64 i.qty, .int .i64 i.amt, .int .i64 i.tday, .int .i64 i.sday, .int .i64 i.prio, .bool i.part, .int .i64 i.minlot, .bool i.hold, .bool i.resv, .slice A' k c'] 29 (0, 0)), (b3, .cells #[.string i.ref, .int .i64 i.kind, .string i.sender, .string i.cpty, .int .i64 i.side, .string i.asset, .int .i64 i.qty, .int .i64 i.amt, .int .i64 i.tday, .int .i64 i.sday, .int .i64 i.prio, .bool i.part, .int .i64 i.minlot, .bool i.hold, .bool i.resv, .slice A i.links.length c] 24 (0, 0))] w177 := hB178
    clear h174 hB89
    have ho179 := own_turned hx92 hT (by kernel_rfl)
    clear hT
    refine wpO_end ?_
    have h180 := h176.keep [(2, .pointer (some ⟨b8, 0, none⟩))] ⟨rfl, trivial⟩
    clear h176
    refine then_n ?_
    refine c_ret (by kernel_rfl) ?_
    refine retC (t := 2) (T := 29) (b := b8) (vs := [.string i.ref, .int .i64 i.kind, .string i.sender, .string i.cpty, .int .i64 i.side, .string i.asset, .int .i64 i.qty, .int .i64 i.amt, .int .i64 i.tday, .int .i64 i.sday, .int .i64 i.prio, .bool i.part, .int .i64 i.minlot, .bool i.hold, .bool i.resv, .slice A' k c']) h180 (by kernel_rfl) (by kernel_rfl) hB178 1 (by kernel_rfl) (by kernel_rfl) (by kernel_rfl) ?_
    subst hke
    exact ⟨_, _, rfl, by have := ho179; rw [List.take_length] at this; exact this, hB178.bel⟩

set_option maxHeartbeats 4000000 in
set_option maxRecDepth 20000 in
theorem c35 (i : Ins) (A : Option Addr) (c : Nat) (w : World) (hn : i.links.length ≤ 1000) (hr : Rd w A (lkc i.links)) : Calls Tryd.prog 35 #[.agg #[.string i.ref, .int .i64 i.kind, .string i.sender, .string i.cpty, .int .i64 i.side, .string i.asset, .int .i64 i.qty, .int .i64 i.amt, .int .i64 i.tday, .int .i64 i.sday, .int .i64 i.prio, .bool i.part, .int .i64 i.minlot, .bool i.hold, .bool i.resv, .slice A i.links.length c]] w (fun e w' => ∃ (A' : Option Addr) (c' : Nat), e = .returned (insV i A' c') ∧ w'.ownsRow w.heap.size 67 2 (.slice A' i.links.length c') i.links.length (lkc i.links) ∧ Below w.heap.size w w') := by
  refine enter Tryd.func35 (by kernel_rfl) ?_ (by kernel_rfl)
  intro q0 h0
  replace h0 := h0.conv (l' := [(0, .agg #[.string i.ref, .int .i64 i.kind, .string i.sender, .string i.cpty, .int .i64 i.side, .string i.asset, .int .i64 i.qty, .int .i64 i.amt, .int .i64 i.tday, .int .i64 i.sday, .int .i64 i.prio, .bool i.part, .int .i64 i.minlot, .bool i.hold, .bool i.resv, .slice A i.links.length c])]) rfl
  have hB := Bx.refl w
  refine c_seq (by kernel_rfl) ?_
  refine reg_plain [(0, false), (1, false)] (by kernel_rfl) (by kernel_rfl) ?_
  refine stA (i := 0) (d := 1) (op := Op.box 29 (Operand.tmp 0)) (ty := 0) (g := none) (mk := fun b => .pointer (some ⟨b, 0, none⟩)) (o := .cells #[.string i.ref, .int .i64 i.kind, .string i.sender, .string i.cpty, .int .i64 i.side, .string i.asset, .int .i64 i.qty, .int .i64 i.amt, .int .i64 i.tday, .int .i64 i.sday, .int .i64 i.prio, .bool i.part, .int .i64 i.minlot, .bool i.hold, .bool i.resv, .slice A i.links.length c] 29 (0, 0)) h0 (by kernel_rfl) (by kernel_rfl) (by kernel_rfl) gok_none (fun _ => by kernel_rfl) hB (fun _ _ hq => trivial) (fun b3 w4 hB5 hN q1 h2 => ?_)
  clear h0 hB hN
  refine stA (i := 1) (d := 2) (op := Op.alloc 24) (ty := 0) (g := none) (mk := fun b => .pointer (some ⟨b, 0, none⟩)) (o := .cells #[.string (⟨#[]⟩ : ByteArray), .int .i64 0, .string (⟨#[]⟩ : ByteArray), .string (⟨#[]⟩ : ByteArray), .int .i64 0, .string (⟨#[]⟩ : ByteArray), .int .i64 0, .int .i64 0, .int .i64 0, .int .i64 0, .int .i64 0, .bool false, .int .i64 0, .bool false, .bool false, .slice none 0 0] 24 (0, 0)) h2 (by kernel_rfl) (by kernel_rfl) (by kernel_rfl) gok_none (fun _ => by kernel_rfl) hB5 (fun _ _ hq => trivial) (fun b8 w9 hB10 hN q6 h7 => ?_)
  clear h2 hB5 hN
  refine wpO_end ?_
  have h11 := h7.keep [(2, .pointer (some ⟨b8, 0, none⟩)), (1, .pointer (some ⟨b3, 0, none⟩))] ⟨rfl, rfl, trivial⟩
  clear h7
  refine then_n ?_
  refine c_seq (by kernel_rfl) ?_
  refine reg_plain [(0, false), (1, false), (2, false), (3, false), (4, false), (5, false), (6, false), (7, false), (8, false), (9, false), (10, false), (11, false), (12, false), (13, false), (14, false), (15, false), (16, false), (17, false), (18, false), (19, false), (20, false), (21, false), (22, false), (23, false), (24, false), (25, false), (26, false), (27, false), (28, false), (29, false), (30, false), (31, false), (32, false)] (by kernel_rfl) (by kernel_rfl) ?_
  refine eE 0 5 (.fieldAddr 29 (.tmp 1) 0) 0 (.pointer (some ⟨b3, 0, none⟩)) h11 fun q12 h13 => ?_
  clear h11
  refine eE 1 6 (.load 9 (.tmp 5)) 9 (.string i.ref) h13 (hr := r_loadC (b := b3) (v := .string i.ref) hB10 1 0 (by kernel_rfl) (by kernel_rfl) (by kernel_rfl)) fun q14 h15 => ?_
  clear h13
  refine eE 2 7 (.fieldAddr 29 (.tmp 1) 1) 0 (.pointer (some ⟨b3, 1, none⟩)) h15 fun q16 h17 => ?_
  clear h15
  refine eE 3 8 (.load 3 (.tmp 7)) 3 (.int .i64 i.kind) h17 (hr := r_loadC (b := b3) (v := .int .i64 i.kind) hB10 1 1 (by kernel_rfl) (by kernel_rfl) (by kernel_rfl)) fun q18 h19 => ?_
  clear h17
  refine eE 4 9 (.fieldAddr 29 (.tmp 1) 2) 0 (.pointer (some ⟨b3, 2, none⟩)) h19 fun q20 h21 => ?_
  clear h19
  refine eE 5 10 (.load 9 (.tmp 9)) 9 (.string i.sender) h21 (hr := r_loadC (b := b3) (v := .string i.sender) hB10 1 2 (by kernel_rfl) (by kernel_rfl) (by kernel_rfl)) fun q22 h23 => ?_
  clear h21
  refine eE 6 11 (.fieldAddr 29 (.tmp 1) 3) 0 (.pointer (some ⟨b3, 3, none⟩)) h23 fun q24 h25 => ?_
  clear h23
  refine eE 7 12 (.load 9 (.tmp 11)) 9 (.string i.cpty) h25 (hr := r_loadC (b := b3) (v := .string i.cpty) hB10 1 3 (by kernel_rfl) (by kernel_rfl) (by kernel_rfl)) fun q26 h27 => ?_
  clear h25
  refine eE 8 13 (.fieldAddr 29 (.tmp 1) 4) 0 (.pointer (some ⟨b3, 4, none⟩)) h27 fun q28 h29 => ?_
  clear h27
  refine eE 9 14 (.load 3 (.tmp 13)) 3 (.int .i64 i.side) h29 (hr := r_loadC (b := b3) (v := .int .i64 i.side) hB10 1 4 (by kernel_rfl) (by kernel_rfl) (by kernel_rfl)) fun q30 h31 => ?_
  clear h29
  refine eE 10 15 (.fieldAddr 29 (.tmp 1) 5) 0 (.pointer (some ⟨b3, 5, none⟩)) h31 fun q32 h33 => ?_
  clear h31
  refine eE 11 16 (.load 9 (.tmp 15)) 9 (.string i.asset) h33 (hr := r_loadC (b := b3) (v := .string i.asset) hB10 1 5 (by kernel_rfl) (by kernel_rfl) (by kernel_rfl)) fun q34 h35 => ?_
  clear h33
  refine eE 12 17 (.fieldAddr 29 (.tmp 1) 6) 0 (.pointer (some ⟨b3, 6, none⟩)) h35 fun q36 h37 => ?_
  clear h35
  refine eE 13 18 (.load 2 (.tmp 17)) 2 (.int .i64 i.qty) h37 (hr := r_loadC (b := b3) (v := .int .i64 i.qty) hB10 1 6 (by kernel_rfl) (by kernel_rfl) (by kernel_rfl)) fun q38 h39 => ?_
  clear h37
  refine eE 14 19 (.fieldAddr 29 (.tmp 1) 7) 0 (.pointer (some ⟨b3, 7, none⟩)) h39 fun q40 h41 => ?_
  clear h39
  refine eE 15 20 (.load 2 (.tmp 19)) 2 (.int .i64 i.amt) h41 (hr := r_loadC (b := b3) (v := .int .i64 i.amt) hB10 1 7 (by kernel_rfl) (by kernel_rfl) (by kernel_rfl)) fun q42 h43 => ?_
  clear h41
  refine eE 16 21 (.fieldAddr 29 (.tmp 1) 8) 0 (.pointer (some ⟨b3, 8, none⟩)) h43 fun q44 h45 => ?_
  clear h43
  refine eE 17 22 (.load 3 (.tmp 21)) 3 (.int .i64 i.tday) h45 (hr := r_loadC (b := b3) (v := .int .i64 i.tday) hB10 1 8 (by kernel_rfl) (by kernel_rfl) (by kernel_rfl)) fun q46 h47 => ?_
  clear h45
  refine eE 18 23 (.fieldAddr 29 (.tmp 1) 9) 0 (.pointer (some ⟨b3, 9, none⟩)) h47 fun q48 h49 => ?_
  clear h47
  refine eE 19 24 (.load 3 (.tmp 23)) 3 (.int .i64 i.sday) h49 (hr := r_loadC (b := b3) (v := .int .i64 i.sday) hB10 1 9 (by kernel_rfl) (by kernel_rfl) (by kernel_rfl)) fun q50 h51 => ?_
  clear h49
  refine eE 20 25 (.fieldAddr 29 (.tmp 1) 10) 0 (.pointer (some ⟨b3, 10, none⟩)) h51 fun q52 h53 => ?_
  clear h51
  refine eE 21 26 (.load 3 (.tmp 25)) 3 (.int .i64 i.prio) h53 (hr := r_loadC (b := b3) (v := .int .i64 i.prio) hB10 1 10 (by kernel_rfl) (by kernel_rfl) (by kernel_rfl)) fun q54 h55 => ?_
  clear h53
  refine eE 22 27 (.fieldAddr 29 (.tmp 1) 11) 0 (.pointer (some ⟨b3, 11, none⟩)) h55 fun q56 h57 => ?_
  clear h55
  refine eE 23 28 (.load 4 (.tmp 27)) 4 (.bool i.part) h57 (hr := r_loadC (b := b3) (v := .bool i.part) hB10 1 11 (by kernel_rfl) (by kernel_rfl) (by kernel_rfl)) fun q58 h59 => ?_
  clear h57
  refine eE 24 29 (.fieldAddr 29 (.tmp 1) 12) 0 (.pointer (some ⟨b3, 12, none⟩)) h59 fun q60 h61 => ?_
  clear h59
  refine eE 25 30 (.load 2 (.tmp 29)) 2 (.int .i64 i.minlot) h61 (hr := r_loadC (b := b3) (v := .int .i64 i.minlot) hB10 1 12 (by kernel_rfl) (by kernel_rfl) (by kernel_rfl)) fun q62 h63 => ?_
  clear h61
  refine eE 26 31 (.fieldAddr 29 (.tmp 1) 13) 0 (.pointer (some ⟨b3, 13, none⟩)) h63 fun q64 h65 => ?_
  clear h63
  refine eE 27 32 (.load 4 (.tmp 31)) 4 (.bool i.hold) h65 (hr := r_loadC (b := b3) (v := .bool i.hold) hB10 1 13 (by kernel_rfl) (by kernel_rfl) (by kernel_rfl)) fun q66 h67 => ?_
  clear h65
  refine eE 28 33 (.fieldAddr 29 (.tmp 1) 14) 0 (.pointer (some ⟨b3, 14, none⟩)) h67 fun q68 h69 => ?_
  clear h67
  refine eE 29 34 (.load 4 (.tmp 33)) 4 (.bool i.resv) h69 (hr := r_loadC (b := b3) (v := .bool i.resv) hB10 1 14 (by kernel_rfl) (by kernel_rfl) (by kernel_rfl)) fun q70 h71 => ?_
  clear h69
  refine eE 30 35 (.build 24 #[(0, .tmp 6), (1, .tmp 8), (2, .tmp 10), (3, .tmp 12), (4, .tmp 14), (5, .tmp 16), (6, .tmp 18), (7, .tmp 20), (8, .tmp 22), (9, .tmp 24), (10, .tmp 26), (11, .tmp 28), (12, .tmp 30), (13, .tmp 32), (14, .tmp 34)]) 24 (.agg #[.string i.ref, .int .i64 i.kind, .string i.sender, .string i.cpty, .int .i64 i.side, .string i.asset, .int .i64 i.qty, .int .i64 i.amt, .int .i64 i.tday, .int .i64 i.sday, .int .i64 i.prio, .bool i.part, .int .i64 i.minlot, .bool i.hold, .bool i.resv, .slice none 0 0]) h71 fun q72 h73 => ?_
  clear h71
  refine stA (i := 31) (d := 3) (op := Op.alloc 24) (ty := 0) (g := none) (mk := fun b => .pointer (some ⟨b, 0, none⟩)) (o := .cells #[.string (⟨#[]⟩ : ByteArray), .int .i64 0, .string (⟨#[]⟩ : ByteArray), .string (⟨#[]⟩ : ByteArray), .int .i64 0, .string (⟨#[]⟩ : ByteArray), .int .i64 0, .int .i64 0, .int .i64 0, .int .i64 0, .int .i64 0, .bool false, .int .i64 0, .bool false, .bool false, .slice none 0 0] 24 (0, 0)) h73 (by kernel_rfl) (by kernel_rfl) (by kernel_rfl) gok_none (fun _ => by kernel_rfl) hB10 (fun _ _ hq => trivial) (fun b76 w77 hB78 hN q74 h75 => ?_)
  clear h73 hB10 hN
  refine stWs (i := 32) (ty := 0) (t := 24) (x := Operand.tmp 3) (y := Operand.tmp 35) (g := none) 0 0 (b := b76) (T := 24) (cs := [.string (⟨#[]⟩ : ByteArray), .int .i64 0, .string (⟨#[]⟩ : ByteArray), .string (⟨#[]⟩ : ByteArray), .int .i64 0, .string (⟨#[]⟩ : ByteArray), .int .i64 0, .int .i64 0, .int .i64 0, .int .i64 0, .int .i64 0, .bool false, .int .i64 0, .bool false, .bool false, .slice none 0 0]) (vs := [.string i.ref, .int .i64 i.kind, .string i.sender, .string i.cpty, .int .i64 i.side, .string i.asset, .int .i64 i.qty, .int .i64 i.amt, .int .i64 i.tday, .int .i64 i.sday, .int .i64 i.prio, .bool i.part, .int .i64 i.minlot, .bool i.hold, .bool i.resv, .slice none 0 0]) (cs' := [.string i.ref, .int .i64 i.kind, .string i.sender, .string i.cpty, .int .i64 i.side, .string i.asset, .int .i64 i.qty, .int .i64 i.amt, .int .i64 i.tday, .int .i64 i.sday, .int .i64 i.prio, .bool i.part, .int .i64 i.minlot, .bool i.hold, .bool i.resv, .slice none 0 0]) h75 (by kernel_rfl) (by kernel_rfl) gok_none hB78 (by kernel_rfl) (by kernel_rfl) (by kernel_rfl) (by kernel_rfl) (by kernel_rfl) (by kernel_rfl) (by kernel_rfl) (.inr fun _ _ => trivial) (fun w81 hB82 hT q79 h80 => ?_)
  replace hB82 : Bx w [(b76, .cells #[.string i.ref, .int .i64 i.kind, .string i.sender, .string i.cpty, .int .i64 i.side, .string i.asset, .int .i64 i.qty, .int .i64 i.amt, .int .i64 i.tday, .int .i64 i.sday, .int .i64 i.prio, .bool i.part, .int .i64 i.minlot, .bool i.hold, .bool i.resv, .slice none 0 0] 24 (0, 0)), (b8, .cells #[.string (⟨#[]⟩ : ByteArray), .int .i64 0, .string (⟨#[]⟩ : ByteArray), .string (⟨#[]⟩ : ByteArray), .int .i64 0, .string (⟨#[]⟩ : ByteArray), .int .i64 0, .int .i64 0, .int .i64 0, .int .i64 0, .int .i64 0, .bool false, .int .i64 0, .bool false, .bool false, .slice none 0 0] 24 (0, 0)), (b3, .cells #[.string i.ref, .int .i64 i.kind, .string i.sender, .string i.cpty, .int .i64 i.side, .string i.asset, .int .i64 i.qty, .int .i64 i.amt, .int .i64 i.tday, .int .i64 i.sday, .int .i64 i.prio, .bool i.part, .int .i64 i.minlot, .bool i.hold, .bool i.resv, .slice A i.links.length c] 29 (0, 0))] w81 := hB82
  clear h75 hB78
  clear hT
  refine wpO_end ?_
  have h83 := h80.keep [(3, .pointer (some ⟨b76, 0, none⟩)), (2, .pointer (some ⟨b8, 0, none⟩)), (1, .pointer (some ⟨b3, 0, none⟩))] ⟨rfl, rfl, rfl, trivial⟩
  clear h80
  refine then_n ?_
  refine c_seq (by kernel_rfl) ?_
  refine c_seq (by kernel_rfl) ?_
  refine reg_plain [(0, false)] (by kernel_rfl) (by kernel_rfl) ?_
  refine eE 0 4 (.assign (.const (.int .i64 0))) 3 (.int .i64 0) h83 fun q84 h85 => ?_
  clear h83
  refine wpO_end ?_
  refine then_n ?_
  refine c_block 0 (by kernel_rfl) ?_
  refine c_loop (by kernel_rfl) (fun qa qw => ∃ k : Nat, ∃ (A' : Option Addr) (c' : Nat), (k ≤ i.links.length) ∧ Fr 62 [(1, .pointer (some ⟨b3, 0, none⟩)), (2, .pointer (some ⟨b8, 0, none⟩)), (3, .pointer (some ⟨b76, 0, none⟩)), (4, .int .i64 ((k : Nat) : Int))] qa ∧ Bx w [(b76, .cells #[.string i.ref, .int .i64 i.kind, .string i.sender, .string i.cpty, .int .i64 i.side, .string i.asset, .int .i64 i.qty, .int .i64 i.amt, .int .i64 i.tday, .int .i64 i.sday, .int .i64 i.prio, .bool i.part, .int .i64 i.minlot, .bool i.hold, .bool i.resv, .slice A' k c'] 24 (0, 0)), (b8, .cells #[.string (⟨#[]⟩ : ByteArray), .int .i64 0, .string (⟨#[]⟩ : ByteArray), .string (⟨#[]⟩ : ByteArray), .int .i64 0, .string (⟨#[]⟩ : ByteArray), .int .i64 0, .int .i64 0, .int .i64 0, .int .i64 0, .int .i64 0, .bool false, .int .i64 0, .bool false, .bool false, .slice none 0 0] 24 (0, 0)), (b3, .cells #[.string i.ref, .int .i64 i.kind, .string i.sender, .string i.cpty, .int .i64 i.side, .string i.asset, .int .i64 i.qty, .int .i64 i.amt, .int .i64 i.tday, .int .i64 i.sday, .int .i64 i.prio, .bool i.part, .int .i64 i.minlot, .bool i.hold, .bool i.resv, .slice A i.links.length c] 29 (0, 0))] qw ∧ (qw.ownsRow w.heap.size 67 2 (.slice A' k c') k (lkc (i.links.take k)))) (fun qa _ => (((i.links.length : Int)) - intAt qa 4).toNat) ⟨0, none, 0, Nat.zero_le _, h85.keep _ ⟨rfl, rfl, rfl, rfl, trivial⟩, hB82, own_nil _ _ _ _⟩ ?_
  rintro q86 w87 ⟨k, A', c', hk90, h88, hB89, hx92⟩
  have hm91 := h88.int (k := 4) (kd := .i64) (z := ((k : Nat) : Int)) rfl
  clear h85 hB82
  refine c_seq (by kernel_rfl) ?_
  refine c_seq (by kernel_rfl) ?_
  refine reg_plain [(0, false), (1, false), (2, false), (3, false), (4, false)] (by kernel_rfl) (by kernel_rfl) ?_
  refine eE 0 36 (.move (.tmp 4)) 3 (.int .i64 ((k : Nat) : Int)) h88 fun q93 h94 => ?_
  clear h88
  refine eE 1 37 (.fieldAddr 29 (.tmp 1) 15) 0 (.pointer (some ⟨b3, 15, none⟩)) h94 fun q95 h96 => ?_
  clear h94
  refine eE 2 38 (.load 27 (.tmp 37)) 27 (.slice A i.links.length c) h96 (hr := r_loadC (b := b3) (v := .slice A i.links.length c) hB89 2 15 (by kernel_rfl) (by kernel_rfl) (by kernel_rfl)) fun q97 h98 => ?_
  clear h96
  refine eE 3 39 (.call { callee := .builtin .len, args := #[.tmp 38], argTypes := #[27] }) 3 (.int .i64 ((i.links.length : Nat) : Int)) h98 fun q99 h100 => ?_
  clear h98
  refine eE 4 40 (.binOp .lss 3 (.tmp 36) (.tmp 39) 3) 4 (.bool (decide (((k : Nat) : Int) < ((i.links.length : Nat) : Int)))) h100 fun q101 h102 => ?_
  clear h100
  refine wpO_end ?_
  refine then_n ?_
  refine c_cond (t := 40) (b := decide (((k : Nat) : Int) < ((i.links.length : Nat) : Int))) h102 (by kernel_rfl) (by kernel_rfl) (fun hc103 => ?_) (fun hc103 => ?_)
  ·
    have hp104 : (((k : Nat) : Int) < ((i.links.length : Nat) : Int)) := of_decide_eq_true hc103
    have hlt : k < i.links.length := by omega
    obtain ⟨x, hx⟩ : ∃ x, i.links[k]? = some x := ⟨i.links[k], List.getElem?_eq_getElem hlt⟩
    obtain ⟨ad, hA, hE0⟩ := hr.el (k * 2) [.int .i64 x.t, .string x.r] (by simp) (lkc_el i.links k x hx)
    subst hA
    refine c_skip (by kernel_rfl) ?_
    refine then_n ?_
    refine c_seq (by kernel_rfl) ?_
    refine c_block 1 (by kernel_rfl) ?_
    have hD105 := hB89.drew
    refine reg_draw (S := Bx w [(b76, .cells #[.string i.ref, .int .i64 i.kind, .string i.sender, .string i.cpty, .int .i64 i.side, .string i.asset, .int .i64 i.qty, .int .i64 i.amt, .int .i64 i.tday, .int .i64 i.sday, .int .i64 i.prio, .bool i.part, .int .i64 i.minlot, .bool i.hold, .bool i.resv, .slice A' k c'] 24 (0, 0)), (b8, .cells #[.string (⟨#[]⟩ : ByteArray), .int .i64 0, .string (⟨#[]⟩ : ByteArray), .string (⟨#[]⟩ : ByteArray), .int .i64 0, .string (⟨#[]⟩ : ByteArray), .int .i64 0, .int .i64 0, .int .i64 0, .int .i64 0, .int .i64 0, .bool false, .int .i64 0, .bool false, .bool false, .slice none 0 0] 24 (0, 0)), (b3, .cells #[.string i.ref, .int .i64 i.kind, .string i.sender, .string i.cpty, .int .i64 i.side, .string i.asset, .int .i64 i.qty, .int .i64 i.amt, .int .i64 i.tday, .int .i64 i.sday, .int .i64 i.prio, .bool i.part, .int .i64 i.minlot, .bool i.hold, .bool i.resv, .slice (some ad) i.links.length c] 29 (0, 0))]) 19 [⟨0, true, 0, 8, 8796093022208⟩, ⟨1, true, 1, 8796093022208, 17592186044416⟩, ⟨2, true, 0, 2, 35184372088832⟩, ⟨3, true, 4, 35184372088832, 70368744177664⟩, ⟨4, true, 0, 16, 140737488355328⟩, ⟨5, true, 24, 211106232532992, 281474976710656⟩, ⟨6, true, 32, 281474976710656, 562949953421312⟩, ⟨7, true, 64, 562949953421312, 1125899906842624⟩, ⟨8, true, 0, 2, 2251799813685248⟩, ⟨9, true, 256, 2251799813685248, 4503599627370496⟩, ⟨10, true, 0, 16, 9007199254740992⟩, ⟨11, true, 1536, 13510798882111488, 18014398509481984⟩, ⟨12, true, 2048, 18014398509481984, 36028797018963968⟩, ⟨13, true, 4096, 36028797018963968, 72057594037927936⟩, ⟨14, true, 8320, 73183493944770560, 144115188075855872⟩, ⟨15, false, 16384, 144115188075855872, 288230376151711744⟩, ⟨16, false, 32770, 288247968337756160, 576460752303423488⟩, ⟨17, true, 131071, 8, 1152921504606846976⟩, ⟨18, false, 262143, 1729382256910270464, 0⟩] [(0, true), (1, true), (2, true), (3, true), (4, true), (5, true), (6, true), (7, true), (8, true), (9, true), (10, true), (11, true), (12, true), (13, true), (14, true), (15, false), (16, false), (17, true), (18, false)] (by kernel_rfl) (by kernel_rfl) (by kernel_rfl) (by kernel_rfl) (fun _ _ _ _ h => absurd h.2 (by simp)) hD105 ?_
    have ho106 := own_drew hx92
    generalize World.drew w87 = w107 at hD105 ho106 ⊢
    refine fE 0 43 (.fieldAddr 24 (.tmp 3) 15) 0 (.pointer (some ⟨b76, 15, none⟩)) h102 fun q108 h109 => ?_
    clear h102
    refine fE 1 44 (.load 22 (.tmp 43)) 22 (.slice A' k c') h109 (hr := fun _ hS => r_loadC (b := b76) (v := .slice A' k c') hS 0 15 (by kernel_rfl) (by kernel_rfl) (by kernel_rfl)) fun q110 h111 => ?_
    clear h109
    refine fE 2 45 (.fieldAddr 29 (.tmp 1) 15) 0 (.pointer (some ⟨b3, 15, none⟩)) h111 fun q112 h113 => ?_
    clear h111
    refine fE 3 46 (.load 27 (.tmp 45)) 27 (.slice (some ad) i.links.length c) h113 (hr := fun _ hS => r_loadC (b := b3) (v := .slice (some ad) i.links.length c) hS 2 15 (by kernel_rfl) (by kernel_rfl) (by kernel_rfl)) fun q114 h115 => ?_
    clear h113
    refine fE 4 47 (.move (.tmp 4)) 3 (.int .i64 ((k : Nat) : Int)) h115 fun q116 h117 => ?_
    clear h115
    refine fE 5 48 (.indexAddr 27 (.tmp 46) (.tmp 47)) 0 (.pointer (some ((ad.add (k * 2)).add 0))) h117 (hr := fun _ hS => r_index0 (n := i.links.length) (c := c) (kd := .i64) (by kernel_rfl) (by kernel_rfl) hlt (by kernel_rfl)) fun q118 h119 => ?_
    clear h117
    refine fE 6 49 (.fieldAddr 66 (.tmp 48) 0) 0 (.pointer (some ((ad.add (k * 2)).add 0))) h119 (hr := fun _ hS => r_fieldAddr (ad := ad.add (k * 2)) (o := 0) (off := 0) (by kernel_rfl) (by kernel_rfl)) fun q120 h121 => ?_
    clear h119
    refine fE 7 50 (.load 3 (.tmp 49)) 3 (.int .i64 x.t) h121 (hr := fun _ hS => r_loadF (o := 0) (v := .int .i64 x.t) (hE0.below hS.bel) (by kernel_rfl) (by kernel_rfl) (by kernel_rfl)) fun q122 h123 => ?_
    clear h121
    refine fE 8 51 (.fieldAddr 29 (.tmp 1) 15) 0 (.pointer (some ⟨b3, 15, none⟩)) h123 fun q124 h125 => ?_
    clear h123
    refine fE 9 52 (.load 27 (.tmp 51)) 27 (.slice (some ad) i.links.length c) h125 (hr := fun _ hS => r_loadC (b := b3) (v := .slice (some ad) i.links.length c) hS 2 15 (by kernel_rfl) (by kernel_rfl) (by kernel_rfl)) fun q126 h127 => ?_
    clear h125
    refine fE 10 53 (.move (.tmp 4)) 3 (.int .i64 ((k : Nat) : Int)) h127 fun q128 h129 => ?_
    clear h127
    refine fE 11 54 (.indexAddr 27 (.tmp 52) (.tmp 53)) 0 (.pointer (some ((ad.add (k * 2)).add 0))) h129 (hr := fun _ hS => r_index0 (n := i.links.length) (c := c) (kd := .i64) (by kernel_rfl) (by kernel_rfl) hlt (by kernel_rfl)) fun q130 h131 => ?_
    clear h129
    refine fE 12 55 (.fieldAddr 66 (.tmp 54) 1) 0 (.pointer (some ((ad.add (k * 2)).add 1))) h131 (hr := fun _ hS => r_fieldAddr (ad := ad.add (k * 2)) (o := 0) (off := 1) (by kernel_rfl) (by kernel_rfl)) fun q132 h133 => ?_
    clear h131
    refine fE 13 56 (.load 9 (.tmp 55)) 9 (.string x.r) h133 (hr := fun _ hS => r_loadF (o := 1) (v := .string x.r) (hE0.below hS.bel) (by kernel_rfl) (by kernel_rfl) (by kernel_rfl)) fun q134 h135 => ?_
    clear h133
    refine fE 14 57 (.build 67 #[(0, .tmp 50), (1, .tmp 56)]) 67 (.agg #[.int .i64 x.t, .string x.r]) h135 fun q136 h137 => ?_
    clear h135
    refine stA (i := 15) (d := 58) (op := Op.buildSlice 22 1 #[(0, Operand.tmp 57)]) (ty := 22) (g := none) (mk := fun b => .slice (some ⟨b, 0, none⟩) 1 1) (o := .cells #[.int .i64 x.t, .string x.r] 67 (0, 0)) h137 (by kernel_rfl) (by kernel_rfl) (by kernel_rfl) gok_none (fun _ => by kernel_rfl) hD105 (fun _ _ hq => hq.tail) (fun b140 w141 hB142 hN q138 h139 => ?_)
    have ho143 := own_below ho106 hN
    clear h137 hD105 hN
    have hr152 := Rd.of_blk (hB142.at 0 rfl)
    refine stApp (x := Operand.tmp 44) (y := Operand.tmp 58) (i := 16) (d := 59) (t := 22) (e := 67) (size := 2) (bytes := 24) (base := w.heap.size) (nn := k) (m := 1) (c := 1) (ty := 22) (g := none) (v := .slice A' k c') (xs := (lkc (i.links.take k))) (news := [.int .i64 x.t, .string x.r]) (ad := ⟨b140, 0, none⟩) h139 (by kernel_rfl) (by kernel_rfl) (by kernel_rfl) gok_none (by kernel_rfl) (by decide) (by kernel_rfl) (by kernel_rfl) ho143 (by kernel_rfl) (fun j u hj => by obtain ⟨ad', e1, -, h1⟩ := hr152 j u hj; cases e1; exact h1) (by intro u hu; revert u hu; simp only [List.forall_mem_cons]; exact ⟨rfl, rfl, fun _ h => absurd h (by simp)⟩) (by first | (unfold maxLen; omega) | omega) (by first | (unfold maxLen; omega) | omega) hB142.tail hB142.bel.size (Nat.le_refl _) (by kernel_rfl) (fun _ hq => hq) (fun v146 w147 ho148 hg149 hB150 hz151 q144 h145 => ?_)
    clear h139 hB142 hr152
    obtain ⟨A153, c154, rfl, -, hr155⟩ := own_rd ho148
    refine fE 17 60 (.fieldAddr 24 (.tmp 3) 15) 0 (.pointer (some ⟨b76, 15, none⟩)) h145 fun q156 h157 => ?_
    clear h145
    refine stWs (i := 18) (ty := 0) (t := 22) (x := Operand.tmp 60) (y := Operand.tmp 59) (g := none) 0 15 (b := b76) (T := 24) (cs := [.string i.ref, .int .i64 i.kind, .string i.sender, .string i.cpty, .int .i64 i.side, .string i.asset, .int .i64 i.qty, .int .i64 i.amt, .int .i64 i.tday, .int .i64 i.sday, .int .i64 i.prio, .bool i.part, .int .i64 i.minlot, .bool i.hold, .bool i.resv, .slice A' k c']) (vs := [.slice A153 (k + 1) c154]) (cs' := [.string i.ref, .int .i64 i.kind, .string i.sender, .string i.cpty, .int .i64 i.side, .string i.asset, .int .i64 i.qty, .int .i64 i.amt, .int .i64 i.tday, .int .i64 i.sday, .int .i64 i.prio, .bool i.part, .int .i64 i.minlot, .bool i.hold, .bool i.resv, .slice A153 (k + 1) c154]) h157 (by kernel_rfl) (by kernel_rfl) gok_none hB150 (by kernel_rfl) (by kernel_rfl) (by kernel_rfl) (by kernel_rfl) (by kernel_rfl) (by kernel_rfl) (by kernel_rfl) (.inl (by kernel_rfl)) (fun w160 hB161 hT q158 h159 => ?_)
    replace hB161 : Bx w [(b76, .cells #[.string i.ref, .int .i64 i.kind, .string i.sender, .string i.cpty, .int .i64 i.side, .string i.asset, .int .i64 i.qty, .int .i64 i.amt, .int .i64 i.tday, .int .i64 i.sday, .int .i64 i.prio, .bool i.part, .int .i64 i.minlot, .bool i.hold, .bool i.resv, .slice A153 (k + 1) c154] 24 (0, 0)), (b8, .cells #[.string (⟨#[]⟩ : ByteArray), .int .i64 0, .string (⟨#[]⟩ : ByteArray), .string (⟨#[]⟩ : ByteArray), .int .i64 0, .string (⟨#[]⟩ : ByteArray), .int .i64 0, .int .i64 0, .int .i64 0, .int .i64 0, .int .i64 0, .bool false, .int .i64 0, .bool false, .bool false, .slice none 0 0] 24 (0, 0)), (b3, .cells #[.string i.ref, .int .i64 i.kind, .string i.sender, .string i.cpty, .int .i64 i.side, .string i.asset, .int .i64 i.qty, .int .i64 i.amt, .int .i64 i.tday, .int .i64 i.sday, .int .i64 i.prio, .bool i.part, .int .i64 i.minlot, .bool i.hold, .bool i.resv, .slice (some ad) i.links.length c] 29 (0, 0))] w160 := hB161
    clear h157 hB150
    have ho162 := own_turned ho148 hT (by kernel_rfl)
    clear hT
    refine wpO_end ?_
    refine inB_n ?_
    refine then_n ?_
    refine reg_plain [(0, false), (1, false), (2, false)] (by kernel_rfl) (by kernel_rfl) ?_
    refine eE 0 41 (.move (.tmp 4)) 3 (.int .i64 ((k : Nat) : Int)) h159 fun q163 h164 => ?_
    clear h159
    refine eE 1 42 (.binOp .add 3 (.tmp 41) (.const (.int .i64 1)) 3) 3 (.int .i64 (IntKind.i64.wrap (((k : Nat) : Int) + 1))) h164 fun q165 h166 => ?_
    clear h164
    refine eE 2 4 (.assign (.tmp 42)) 3 (.int .i64 (IntKind.i64.wrap (((k : Nat) : Int) + 1))) h166 fun q167 h168 => ?_
    clear h166
    refine wpO_end ?_
    have h169 := h168.keep [(4, .int .i64 (IntKind.i64.wrap (((k : Nat) : Int) + 1))), (42, .int .i64 (IntKind.i64.wrap (((k : Nat) : Int) + 1))), (41, .int .i64 ((k : Nat) : Int)), (60, .pointer (some ⟨b76, 15, none⟩)), (59, .slice A153 (k + 1) c154), (58, .slice (some ⟨b140, 0, none⟩) 1 1), (57, .agg #[.int .i64 x.t, .string x.r]), (56, .string x.r), (55, .pointer (some ((ad.add (k * 2)).add 1))), (54, .pointer (some ((ad.add (k * 2)).add 0))), (53, .int .i64 ((k : Nat) : Int)), (52, .slice (some ad) i.links.length c), (51, .pointer (some ⟨b3, 15, none⟩)), (50, .int .i64 x.t), (49, .pointer (some ((ad.add (k * 2)).add 0))), (48, .pointer (some ((ad.add (k * 2)).add 0))), (47, .int .i64 ((k : Nat) : Int)), (46, .slice (some ad) i.links.length c), (45, .pointer (some ⟨b3, 15, none⟩)), (44, .slice A' k c'), (43, .pointer (some ⟨b76, 15, none⟩)), (40, .bool (decide (((k : Nat) : Int) < ((i.links.length : Nat) : Int)))), (39, .int .i64 ((i.links.length : Nat) : Int)), (38, .slice (some ad) i.links.length c), (37, .pointer (some ⟨b3, 15, none⟩)), (36, .int .i64 ((k : Nat) : Int)), (1, .pointer (some ⟨b3, 0, none⟩)), (2, .pointer (some ⟨b8, 0, none⟩)), (3, .pointer (some ⟨b76, 0, none⟩))] ⟨rfl, rfl, rfl, rfl, rfl, rfl, rfl, rfl, rfl, rfl, rfl, rfl, rfl, rfl, rfl, rfl, rfl, rfl, rfl, rfl, rfl, rfl, rfl, rfl, rfl, rfl, rfl, rfl, rfl, trivial⟩
    clear h168
    have h170 := h169.keep [(1, .pointer (some ⟨b3, 0, none⟩)), (2, .pointer (some ⟨b8, 0, none⟩)), (3, .pointer (some ⟨b76, 0, none⟩)), (4, .int .i64 (((k + 1) : Nat) : Int))] ⟨rfl, rfl, rfl, look_int rfl (wrap_succ (by have := hn; omega)), trivial⟩
    have hm171 := h170.int (k := 4) (kd := .i64) (z := (((k + 1) : Nat) : Int)) rfl
    refine then_n ⟨⟨k + 1, A153, c154, by omega, h170, hB161, by rw [← lkc_snoc _ _ _ hx]; exact ho162⟩, ?_⟩
    show (((i.links.length : Int)) - intAt _ 4).toNat < (((i.links.length : Int)) - intAt _ 4).toNat
    rw [hm91, hm171]; omega
  ·
    have hp172 : ¬ (((k : Nat) : Int) < ((i.links.length : Nat) : Int)) := of_decide_eq_false hc103
    have hke : k = i.links.length := by omega
    refine c_exit 0 (by kernel_rfl) ?_
    refine then_e (then_e (inB_hit ?_))
    refine then_n ?_
    refine c_seq (by kernel_rfl) ?_
    refine reg_plain [(0, false), (1, false)] (by kernel_rfl) (by kernel_rfl) ?_
    refine eE 0 61 (.load 24 (.tmp 3)) 24 (.agg #[.string i.ref, .int .i64 i.kind, .string i.sender, .string i.cpty, .int .i64 i.side, .string i.asset, .int .i64 i.qty, .int .i64 i.amt, .int .i64 i.tday, .int .i64 i.sday, .int .i64 i.prio, .bool i.part, .int .i64 i.minlot, .bool i.hold, .bool i.resv, .slice A' k c']) h102 (hr := r_loadS (b := b76) (vs := [.string i.ref, .int .i64 i.kind, .string i.sender, .string i.cpty, .int .i64 i.side, .string i.asset, .int .i64 i.qty, .int .i64 i.amt, .int .i64 i.tday, .int .i64 i.sday, .int .i64 i.prio, .bool i.part, .int .i64 i.minlot, .bool i.hold, .bool i.resv, .slice A' k c']) hB89 0 0 (by kernel_rfl) (by kernel_rfl) (by kernel_rfl)) fun q173 h174 => ?_
    clear h102
    refine stWs (i := 1) (ty := 0) (t := 24) (x := Operand.tmp 2) (y := Operand.tmp 61) (g := none) 1 0 (b := b8) (T := 24) (cs := [.string (⟨#[]⟩ : ByteArray), .int .i64 0, .string (⟨#[]⟩ : ByteArray), .string (⟨#[]⟩ : ByteArray), .int .i64 0, .string (⟨#[]⟩ : ByteArray), .int .i64 0, .int .i64 0, .int .i64 0, .int .i64 0, .int .i64 0, .bool false, .int .i64 0, .bool false, .bool false, .slice none 0 0]) (vs := [.string i.ref, .int .i64 i.kind, .string i.sender, .string i.cpty, .int .i64 i.side, .string i.asset, .int .i64 i.qty, .int .i64 i.amt, .int .i64 i.tday, .int .i64 i.sday, .int .i64 i.prio, .bool i.part, .int .i64 i.minlot, .bool i.hold, .bool i.resv, .slice A' k c']) (cs' := [.string i.ref, .int .i64 i.kind, .string i.sender, .string i.cpty, .int .i64 i.side, .string i.asset, .int .i64 i.qty, .int .i64 i.amt, .int .i64 i.tday, .int .i64 i.sday, .int .i64 i.prio, .bool i.part, .int .i64 i.minlot, .bool i.hold, .bool i.resv, .slice A' k c']) h174 (by kernel_rfl) (by kernel_rfl) gok_none hB89 (by kernel_rfl) (by kernel_rfl) (by kernel_rfl) (by kernel_rfl) (by kernel_rfl) (by kernel_rfl) (by kernel_rfl) (.inr fun _ _ => trivial) (fun w177 hB178 hT q175 h176 => ?_)
    replace hB178 : Bx w [(b76, .cells #[.string i.ref, .int .i64 i.kind, .string i.sender, .string i.cpty, .int .i64 i.side, .string i.asset, .int .i64 i.qty, .int .i64 i.amt, .int .i64 i.tday, .int .i64 i.sday, .int .i64 i.prio, .bool i.part, .int .i64 i.minlot, .bool i.hold, .bool i.resv, .slice A' k c'] 24 (0, 0)), (b8, .cells #[.string i.ref, .int .i64 i.kind, .string i.sender, .string i.cpty, .int .i64 i.side, .string i.asset, .int .i64 i.qty, .int .i64 i.amt, .int .i64 i.tday, .int .i64 i.sday, .int .i64 i.prio, .bool i.part, .int .i64 i.minlot, .bool i.hold, .bool i.resv, .slice A' k c'] 24 (0, 0)), (b3, .cells #[.string i.ref, .int .i64 i.kind, .string i.sender, .string i.cpty, .int .i64 i.side, .string i.asset, .int .i64 i.qty, .int .i64 i.amt, .int .i64 i.tday, .int .i64 i.sday, .int .i64 i.prio, .bool i.part, .int .i64 i.minlot, .bool i.hold, .bool i.resv, .slice A i.links.length c] 29 (0, 0))] w177 := hB178
    clear h174 hB89
    have ho179 := own_turned hx92 hT (by kernel_rfl)
    clear hT
    refine wpO_end ?_
    have h180 := h176.keep [(2, .pointer (some ⟨b8, 0, none⟩))] ⟨rfl, trivial⟩
    clear h176
    refine then_n ?_
    refine c_ret (by kernel_rfl) ?_
    refine retC (t := 2) (T := 24) (b := b8) (vs := [.string i.ref, .int .i64 i.kind, .string i.sender, .string i.cpty, .int .i64 i.side, .string i.asset, .int .i64 i.qty, .int .i64 i.amt, .int .i64 i.tday, .int .i64 i.sday, .int .i64 i.prio, .bool i.part, .int .i64 i.minlot, .bool i.hold, .bool i.resv, .slice A' k c']) h180 (by kernel_rfl) (by kernel_rfl) hB178 1 (by kernel_rfl) (by kernel_rfl) (by kernel_rfl) ?_
    subst hke
    exact ⟨_, _, rfl, by have := ho179; rw [List.take_length] at this; exact this, hB178.bel⟩

end Go.Proofs.YtljegdokbifoiaaDoor.Af
