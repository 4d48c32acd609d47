/- The reference's check of instructions. Short lists of links. -/
import Derived.Test.YtljegdokbifoiaaDoorRkp
namespace Go.Proofs.YtljegdokbifoiaaDoor.Af
open Go.RowKit
/-- The reference's rules but for the links. -/
def rules15 (i : Ins) : List (Bool × Int) := [((decide (i.kind < (0 : Int))) || (decide ((4 : Int) < i.kind)), 11), ((!(rfB i.ref)) || (!(memB i.sender)), 6), ((!(decide (i.kind < (3 : Int)))) && (i.cpty.toList != (⟨#[]⟩ : ByteArray).toList), 3), ((decide (i.kind < (3 : Int))) && (!(memB i.cpty)), 6), ((decide (i.kind < (3 : Int))) && (i.cpty.toList == i.sender.toList), 1), ((i.side != (0 : Int)) && (i.side != (1 : Int)), 11), ((!((i.kind == (1 : Int)) || (i.kind == (2 : Int)))) && (i.side != (0 : Int)), 3), (((i.kind == (0 : Int)) && (i.asset.toList != (⟨#[67, 65, 83, 72]⟩ : ByteArray).toList)) || ((decide ((0 : Int) < i.kind)) && (!(isinB i.asset))), 6), (((i.kind == (0 : Int)) && (i.qty != (0 : Int))) || ((decide ((0 : Int) < i.kind)) && ((decide (i.qty < (1 : Int))) || (decide ((1000000000000000 : Int) < i.qty)))), 2), (((decide (i.kind < (2 : Int))) && ((decide (i.amt < (1 : Int))) || (decide ((1000000000000000 : Int) < i.amt)))) || ((decide ((2 : Int) ≤ i.kind)) && (i.amt != (0 : Int))), 2), (((!(dayB i.sday)) || (((i.kind == (1 : Int)) || (i.kind == (2 : Int))) && ((decide (i.tday < (0 : Int))) || (decide (i.sday < i.tday))))) || ((!((i.kind == (1 : Int)) || (i.kind == (2 : Int)))) && (i.tday != (0 : Int))), 28), (((decide (i.prio < (0 : Int))) || (decide ((2 : Int) < i.prio))) || ((!(decide (i.kind < (3 : Int)))) && (i.prio != (0 : Int))), 2), (i.part && (!((i.kind == (1 : Int)) || (i.kind == (2 : Int)))), 3), ((i.part && ((decide (i.minlot < (1 : Int))) || (decide (i.qty < i.minlot)))) || ((!i.part) && (i.minlot != (0 : Int))), 2), (((i.hold && (!(decide (i.kind < (3 : Int))))) || (i.resv && ((i.kind != (0 : Int)) || (i.prio != (2 : Int))))) || ((!(decide (i.kind < (3 : Int)))) && (decide ((0 : Int) < ((i.links.length : Nat) : Int)))), 3), (decide ((8 : Int) < ((i.links.length : Nat) : Int)), 8)]
def refI (i : Ins) : Int := refTop (rules15 i) (refL i 0 i.links)

set_option maxHeartbeats 4000000 in
set_option maxRecDepth 20000 in
theorem c15 (i : Ins) (A : Option Addr) (c : Nat) (w : World) (hn : i.links.length ≤ 4611686018427387904) (hr : Rd w A (lkc i.links)) : Calls Tryd.prog 15 #[.agg #[.string i.ref, .int .i64 i.kind, .string i.sender, .string i.cpty, .int .i64 i.side, .string i.asset, .int .i64 i.qty, .int .i64 i.amt, .int .i64 i.tday, .int .i64 i.sday, .int .i64 i.prio, .bool i.part, .int .i64 i.minlot, .bool i.hold, .bool i.resv, .slice A i.links.length c]] w fun e w' => e = .returned (.int .i64 (refI i)) ∧ Below w.heap.size w w' := by
  refine enter Tryd.func15 (by kernel_rfl) ?_ (by kernel_rfl)
  intro q0 h0
  replace h0 := h0.conv (l' := [(0, .agg #[.string i.ref, .int .i64 i.kind, .string i.sender, .string i.cpty, .int .i64 i.side, .string i.asset, .int .i64 i.qty, .int .i64 i.amt, .int .i64 i.tday, .int .i64 i.sday, .int .i64 i.prio, .bool i.part, .int .i64 i.minlot, .bool i.hold, .bool i.resv, .slice A i.links.length c])]) rfl
  have hB := Bx.refl w
  refine c_seq (by kernel_rfl) ?_
  refine reg_plain [(0, false), (1, false)] (by kernel_rfl) (by kernel_rfl) ?_
  refine stA (i := 0) (d := 1) (op := Op.box 24 (Operand.tmp 0)) (ty := 0) (g := none) (mk := fun b => .pointer (some ⟨b, 0, none⟩)) (o := .cells #[.string i.ref, .int .i64 i.kind, .string i.sender, .string i.cpty, .int .i64 i.side, .string i.asset, .int .i64 i.qty, .int .i64 i.amt, .int .i64 i.tday, .int .i64 i.sday, .int .i64 i.prio, .bool i.part, .int .i64 i.minlot, .bool i.hold, .bool i.resv, .slice A i.links.length c] 24 (0, 0)) h0 (by kernel_rfl) (by kernel_rfl) (by kernel_rfl) gok_none (fun _ => by kernel_rfl) hB (fun _ _ hq => trivial) (fun b3 w4 hB5 hN q1 h2 => ?_)
  clear h0 hB hN
  refine eE 1 2 (.assign (.const (.int .i64 0))) 3 (.int .i64 0) h2 fun q6 h7 => ?_
  clear h2
  refine wpO_end ?_
  have h8 := h7.keep [(2, .int .i64 0), (1, .pointer (some ⟨b3, 0, none⟩))] ⟨rfl, rfl, trivial⟩
  clear h7
  refine then_n ?_
  refine c_seq (by kernel_rfl) ?_
  refine c_seq (by kernel_rfl) ?_
  refine reg_plain [(0, false), (1, false), (2, false), (3, false), (4, false), (5, false), (6, false), (7, false)] (by kernel_rfl) (by kernel_rfl) ?_
  refine eE 0 8 (.fieldAddr 24 (.tmp 1) 1) 0 (.pointer (some ⟨b3, 1, none⟩)) h8 fun q9 h10 => ?_
  clear h8
  refine eE 1 9 (.load 3 (.tmp 8)) 3 (.int .i64 i.kind) h10 (hr := r_loadC (b := b3) (v := .int .i64 i.kind) hB5 0 1 (by kernel_rfl) (by kernel_rfl) (by kernel_rfl)) fun q11 h12 => ?_
  clear h10
  refine eE 2 10 (.binOp .lss 3 (.tmp 9) (.const (.int .i64 0)) 3) 4 (.bool (decide (i.kind < (0 : Int)))) h12 fun q13 h14 => ?_
  clear h12
  refine eE 3 11 (.move (.tmp 10)) 4 (.bool (decide (i.kind < (0 : Int)))) h14 fun q15 h16 => ?_
  clear h14
  refine wpO_cut [(4, false), (5, false), (6, false), (7, false)] [] (fun qa qw => Fr 291 [(15, .bool ((decide (i.kind < (0 : Int))) || (decide ((4 : Int) < i.kind)))), (2, .int .i64 0), (1, .pointer (some ⟨b3, 0, none⟩))] qa ∧ Bx w [(b3, .cells #[.string i.ref, .int .i64 i.kind, .string i.sender, .string i.cpty, .int .i64 i.side, .string i.asset, .int .i64 i.qty, .int .i64 i.amt, .int .i64 i.tday, .int .i64 i.sday, .int .i64 i.prio, .bool i.part, .int .i64 i.minlot, .bool i.hold, .bool i.resv, .slice A i.links.length c] 24 (0, 0))] qw) ?_ ?_
  ·
    rcases Bool.eq_false_or_eq_true (decide (i.kind < (0 : Int))) with hc17 | hc17
    ·
      refine kE 4 12 (3, false) (g4 11 hc17) h16 trivial fun q18 h19 => ?_
      clear h16
      refine kE 5 13 (3, false) (g4 11 hc17) h19 trivial fun q20 h21 => ?_
      clear h19
      refine kE 6 14 (3, false) (g4 11 hc17) h21 trivial fun q22 h23 => ?_
      clear h21
      refine eE 7 15 (.pick (.tmp 11) (.const (.bool true)) (.tmp 14)) 4 (.bool ((decide (i.kind < (0 : Int))) || (decide ((4 : Int) < i.kind)))) h23 (hr := r_or (c := decide (i.kind < (0 : Int))) (d := (decide ((4 : Int) < i.kind))) (by kernel_rfl) (fun e26 => Bool.noConfusion (e26.symm.trans hc17))) fun q24 h25 => ?_
      clear h23
      exact ⟨h25.keep _ ⟨rfl, rfl, rfl, trivial⟩, hB5⟩
    ·
      refine eG 4 12 (.fieldAddr 24 (.tmp 1) 1) 0 (3, false) (.pointer (some ⟨b3, 1, none⟩)) (g2 11 hc17) h16 fun q27 h28 => ?_
      clear h16
      refine eG 5 13 (.load 3 (.tmp 12)) 3 (3, false) (.int .i64 i.kind) (g2 11 hc17) h28 (hr := r_loadC (b := b3) (v := .int .i64 i.kind) hB5 0 1 (by kernel_rfl) (by kernel_rfl) (by kernel_rfl)) fun q29 h30 => ?_
      clear h28
      refine eG 6 14 (.binOp .gtr 3 (.tmp 13) (.const (.int .i64 4)) 3) 4 (3, false) (.bool (decide ((4 : Int) < i.kind))) (g2 11 hc17) h30 fun q31 h32 => ?_
      clear h30
      refine eE 7 15 (.pick (.tmp 11) (.const (.bool true)) (.tmp 14)) 4 (.bool ((decide (i.kind < (0 : Int))) || (decide ((4 : Int) < i.kind)))) h32 (hr := r_or (c := decide (i.kind < (0 : Int))) (d := (decide ((4 : Int) < i.kind))) (by kernel_rfl) (fun _ => by kernel_rfl)) fun q33 h34 => ?_
      clear h32
      exact ⟨h34.keep _ ⟨rfl, rfl, rfl, trivial⟩, hB5⟩
  rintro q35 w36 ⟨h37, hB38⟩
  refine wpO_end ?_
  refine then_n ?_
  refine c_cond (t := 15) (b := (decide (i.kind < (0 : Int))) || (decide ((4 : Int) < i.kind))) h37 (by kernel_rfl) (by kernel_rfl) (fun hc39 => ?_) (fun hc39 => ?_)
  ·
    refine c_seq (by kernel_rfl) ?_
    refine reg_plain [(0, false)] (by kernel_rfl) (by kernel_rfl) ?_
    refine eE 0 2 (.assign (.const (.int .i64 11))) 3 (.int .i64 11) h37 fun q40 h41 => ?_
    clear h37
    refine wpO_end ?_
    have h42 := h41.keep [(2, .int .i64 11), (1, .pointer (some ⟨b3, 0, none⟩))] ⟨rfl, rfl, trivial⟩
    clear h41
    refine then_n ?_
    refine c_ret (by kernel_rfl) ?_
    refine then_r ?_
    refine ret1 (t := 2) (v := .int .i64 11) h42 (by kernel_rfl) (by kernel_rfl) ?_
    exact ⟨ret_eq (congrArg (Value.int .i64) (show refI i = 11 from cT hc39).symm), hB38.bel⟩
  ·
    refine c_skip (by kernel_rfl) ?_
    refine then_n ?_
    refine c_seq (by kernel_rfl) ?_
    have hD43 := hB38.drew
    refine reg_draw (S := Bx w [(b3, .cells #[.string i.ref, .int .i64 i.kind, .string i.sender, .string i.cpty, .int .i64 i.side, .string i.asset, .int .i64 i.qty, .int .i64 i.amt, .int .i64 i.tday, .int .i64 i.sday, .int .i64 i.prio, .bool i.part, .int .i64 i.minlot, .bool i.hold, .bool i.resv, .slice A i.links.length c] 24 (0, 0))]) 13 [⟨0, true, 0, 2, 65536⟩, ⟨1, true, 1, 65536, 131072⟩, ⟨2, true, 2, 131072, 262144⟩, ⟨3, true, 0, 2, 524288⟩, ⟨4, true, 8, 524288, 1048576⟩, ⟨5, true, 16, 1048576, 2097152⟩, ⟨6, true, 32, 2097152, 4194304⟩, ⟨7, true, 64, 4194306, 8388608⟩, ⟨8, true, 192, 12582912, 16777216⟩, ⟨9, true, 320, 20971520, 33554432⟩, ⟨10, true, 576, 37748736, 67108864⟩, ⟨11, true, 71, 262144, 8⟩, ⟨12, true, 4095, 67108864, 16⟩] [(0, true), (1, true), (2, true), (3, true), (4, true), (5, true), (6, true), (7, true), (8, true), (9, true), (10, true), (11, true), (12, true)] (by kernel_rfl) (by kernel_rfl) (by kernel_rfl) (by kernel_rfl) (fun _ _ _ _ h => absurd h.2 (by simp)) hD43 ?_
    generalize World.drew w36 = w44 at hD43 ⊢
    refine fE 0 16 (.fieldAddr 24 (.tmp 1) 1) 0 (.pointer (some ⟨b3, 1, none⟩)) h37 fun q45 h46 => ?_
    clear h37
    refine fE 1 17 (.load 3 (.tmp 16)) 3 (.int .i64 i.kind) h46 (hr := fun _ hS => r_loadC (b := b3) (v := .int .i64 i.kind) hS 0 1 (by kernel_rfl) (by kernel_rfl) (by kernel_rfl)) fun q47 h48 => ?_
    clear h46
    refine fE 2 18 (.binOp .lss 3 (.tmp 17) (.const (.int .i64 3)) 3) 4 (.bool (decide (i.kind < (3 : Int)))) h48 fun q49 h50 => ?_
    clear h48
    refine fE 3 19 (.fieldAddr 24 (.tmp 1) 1) 0 (.pointer (some ⟨b3, 1, none⟩)) h50 fun q51 h52 => ?_
    clear h50
    refine fE 4 20 (.load 3 (.tmp 19)) 3 (.int .i64 i.kind) h52 (hr := fun _ hS => r_loadC (b := b3) (v := .int .i64 i.kind) hS 0 1 (by kernel_rfl) (by kernel_rfl) (by kernel_rfl)) fun q53 h54 => ?_
    clear h52
    refine fE 5 21 (.binOp .eql 3 (.tmp 20) (.const (.int .i64 1)) 3) 4 (.bool (i.kind == (1 : Int))) h54 fun q55 h56 => ?_
    clear h54
    refine fE 6 22 (.move (.tmp 21)) 4 (.bool (i.kind == (1 : Int))) h56 fun q57 h58 => ?_
    clear h56
    refine wpO_cut [(7, true), (8, true), (9, true), (10, true)] [(11, true), (12, true)] (fun qa qw => Fr 291 [(26, .bool ((i.kind == (1 : Int)) || (i.kind == (2 : Int)))), (18, .bool (decide (i.kind < (3 : Int)))), (2, .int .i64 0), (1, .pointer (some ⟨b3, 0, none⟩))] qa ∧ Bx w [(b3, .cells #[.string i.ref, .int .i64 i.kind, .string i.sender, .string i.cpty, .int .i64 i.side, .string i.asset, .int .i64 i.qty, .int .i64 i.amt, .int .i64 i.tday, .int .i64 i.sday, .int .i64 i.prio, .bool i.part, .int .i64 i.minlot, .bool i.hold, .bool i.resv, .slice A i.links.length c] 24 (0, 0))] qw) ?_ ?_
    ·
      rcases Bool.eq_false_or_eq_true (i.kind == (1 : Int)) with hc59 | hc59
      ·
        refine kF 7 23 (6, false) (g4 22 hc59) h58 fun q60 h61 => ?_
        clear h58
        refine kF 8 24 (6, false) (g4 22 hc59) h61 fun q62 h63 => ?_
        clear h61
        refine kF 9 25 (6, false) (g4 22 hc59) h63 fun q64 h65 => ?_
        clear h63
        refine fE 10 26 (.pick (.tmp 22) (.const (.bool true)) (.tmp 25)) 4 (.bool ((i.kind == (1 : Int)) || (i.kind == (2 : Int)))) h65 (hr := fun _ hS => r_or (c := (i.kind == (1 : Int))) (d := (i.kind == (2 : Int))) (by kernel_rfl) (fun e68 => Bool.noConfusion (e68.symm.trans hc59))) fun q66 h67 => ?_
        clear h65
        exact ⟨h67.keep _ ⟨rfl, rfl, rfl, rfl, trivial⟩, hD43⟩
      ·
        refine fG 7 23 (.fieldAddr 24 (.tmp 1) 1) 0 (6, false) (.pointer (some ⟨b3, 1, none⟩)) (g2 22 hc59) h58 fun q69 h70 => ?_
        clear h58
        refine fG 8 24 (.load 3 (.tmp 23)) 3 (6, false) (.int .i64 i.kind) (g2 22 hc59) h70 (hr := fun _ hS => r_loadC (b := b3) (v := .int .i64 i.kind) hS 0 1 (by kernel_rfl) (by kernel_rfl) (by kernel_rfl)) fun q71 h72 => ?_
        clear h70
        refine fG 9 25 (.binOp .eql 3 (.tmp 24) (.const (.int .i64 2)) 3) 4 (6, false) (.bool (i.kind == (2 : Int))) (g2 22 hc59) h72 fun q73 h74 => ?_
        clear h72
        refine fE 10 26 (.pick (.tmp 22) (.const (.bool true)) (.tmp 25)) 4 (.bool ((i.kind == (1 : Int)) || (i.kind == (2 : Int)))) h74 (hr := fun _ hS => r_or (c := (i.kind == (1 : Int))) (d := (i.kind == (2 : Int))) (by kernel_rfl) (fun _ => by kernel_rfl)) fun q75 h76 => ?_
        clear h74
        exact ⟨h76.keep _ ⟨rfl, rfl, rfl, rfl, trivial⟩, hD43⟩
    rintro q77 w78 ⟨h79, hB80⟩
    refine fE 11 3 (.assign (.tmp 18)) 4 (.bool (decide (i.kind < (3 : Int)))) h79 fun q81 h82 => ?_
    clear h79
    refine fE 12 4 (.assign (.tmp 26)) 4 (.bool ((i.kind == (1 : Int)) || (i.kind == (2 : Int)))) h82 fun q83 h84 => ?_
    clear h82
    refine wpO_end ?_
    have h85 := h84.keep [(4, .bool ((i.kind == (1 : Int)) || (i.kind == (2 : Int)))), (3, .bool (decide (i.kind < (3 : Int)))), (2, .int .i64 0), (1, .pointer (some ⟨b3, 0, none⟩))] ⟨rfl, rfl, rfl, rfl, trivial⟩
    clear h84
    refine then_n ?_
    refine c_seq (by kernel_rfl) ?_
    refine c_seq (by kernel_rfl) ?_
    refine reg_plain [(0, false), (1, false), (2, false), (3, false), (4, false), (5, false), (6, false), (7, false), (8, false), (9, false)] (by kernel_rfl) (by kernel_rfl) ?_
    refine eE 0 27 (.fieldAddr 24 (.tmp 1) 0) 0 (.pointer (some ⟨b3, 0, none⟩)) h85 fun q86 h87 => ?_
    clear h85
    refine eE 1 28 (.load 9 (.tmp 27)) 9 (.string i.ref) h87 (hr := r_loadC (b := b3) (v := .string i.ref) hB80 0 0 (by kernel_rfl) (by kernel_rfl) (by kernel_rfl)) fun q88 h89 => ?_
    clear h87
    refine stC (i := 2) (d := 29) (op := Op.call { callee := Callee.value (Operand.func 50), args := #[Operand.const (Value.int IntKind.i64 2), Operand.tmp 28], argTypes := #[3, 9] }) (ty := 4) (g := none) (f := 50) (args := #[.int .i64 2, .string i.ref]) (w1 := w78) h89 (by kernel_rfl) (by kernel_rfl) (by kernel_rfl) gok_none (by kernel_rfl) (c50_2 i.ref w78) ?_
    rintro _ w92 ⟨rfl, hb93⟩
    have hB94 := hB80.call hb93
    refine ⟨_, rfl, trivial, fun q90 h91 => ?_⟩
    clear h89 hB80 hb93
    refine eE 3 30 (.unOp .not 4 (.tmp 29)) 4 (.bool (!(rfB i.ref))) h91 fun q95 h96 => ?_
    clear h91
    refine eE 4 31 (.move (.tmp 30)) 4 (.bool (!(rfB i.ref))) h96 fun q97 h98 => ?_
    clear h96
    refine wpO_cut [(5, false), (6, false), (7, false), (8, false), (9, false)] [] (fun qa qw => Fr 291 [(36, .bool ((!(rfB i.ref)) || (!(memB i.sender)))), (4, .bool ((i.kind == (1 : Int)) || (i.kind == (2 : Int)))), (3, .bool (decide (i.kind < (3 : Int)))), (2, .int .i64 0), (1, .pointer (some ⟨b3, 0, none⟩))] qa ∧ Bx w [(b3, .cells #[.string i.ref, .int .i64 i.kind, .string i.sender, .string i.cpty, .int .i64 i.side, .string i.asset, .int .i64 i.qty, .int .i64 i.amt, .int .i64 i.tday, .int .i64 i.sday, .int .i64 i.prio, .bool i.part, .int .i64 i.minlot, .bool i.hold, .bool i.resv, .slice A i.links.length c] 24 (0, 0))] qw) ?_ ?_
    ·
      rcases Bool.eq_false_or_eq_true (!(rfB i.ref)) with hc99 | hc99
      ·
        refine kE 5 32 (4, false) (g4 31 hc99) h98 trivial fun q100 h101 => ?_
        clear h98
        refine kE 6 33 (4, false) (g4 31 hc99) h101 trivial fun q102 h103 => ?_
        clear h101
        refine kE 7 34 (4, false) (g4 31 hc99) h103 trivial fun q104 h105 => ?_
        clear h103
        refine kE 8 35 (4, false) (g4 31 hc99) h105 trivial fun q106 h107 => ?_
        clear h105
        refine eE 9 36 (.pick (.tmp 31) (.const (.bool true)) (.tmp 35)) 4 (.bool ((!(rfB i.ref)) || (!(memB i.sender)))) h107 (hr := r_or (c := !(rfB i.ref)) (d := (!(memB i.sender))) (by kernel_rfl) (fun e110 => Bool.noConfusion (e110.symm.trans hc99))) fun q108 h109 => ?_
        clear h107
        exact ⟨h109.keep _ ⟨rfl, rfl, rfl, rfl, rfl, trivial⟩, hB94⟩
      ·
        refine eG 5 32 (.fieldAddr 24 (.tmp 1) 2) 0 (4, false) (.pointer (some ⟨b3, 2, none⟩)) (g2 31 hc99) h98 fun q111 h112 => ?_
        clear h98
        refine eG 6 33 (.load 9 (.tmp 32)) 9 (4, false) (.string i.sender) (g2 31 hc99) h112 (hr := r_loadC (b := b3) (v := .string i.sender) hB94 0 2 (by kernel_rfl) (by kernel_rfl) (by kernel_rfl)) fun q113 h114 => ?_
        clear h112
        refine stC (i := 7) (d := 34) (op := Op.call { callee := Callee.value (Operand.func 50), args := #[Operand.const (Value.int IntKind.i64 1), Operand.tmp 33], argTypes := #[3, 9] }) (ty := 4) (g := (some (4, false))) (f := 50) (args := #[.int .i64 1, .string i.sender]) (w1 := w92) h114 (by kernel_rfl) (by kernel_rfl) (by kernel_rfl) (g2 31 hc99) (by kernel_rfl) (c50_1 i.sender w92) ?_
        rintro _ w117 ⟨rfl, hb118⟩
        have hB119 := hB94.call hb118
        refine ⟨_, rfl, trivial, fun q115 h116 => ?_⟩
        clear h114 hB94 hb118
        refine eG 8 35 (.unOp .not 4 (.tmp 34)) 4 (4, false) (.bool (!(memB i.sender))) (g2 31 hc99) h116 fun q120 h121 => ?_
        clear h116
        refine eE 9 36 (.pick (.tmp 31) (.const (.bool true)) (.tmp 35)) 4 (.bool ((!(rfB i.ref)) || (!(memB i.sender)))) h121 (hr := r_or (c := !(rfB i.ref)) (d := (!(memB i.sender))) (by kernel_rfl) (fun _ => by kernel_rfl)) fun q122 h123 => ?_
        clear h121
        exact ⟨h123.keep _ ⟨rfl, rfl, rfl, rfl, rfl, trivial⟩, hB119⟩
    rintro q124 w125 ⟨h126, hB127⟩
    refine wpO_end ?_
    refine then_n ?_
    refine c_cond (t := 36) (b := (!(rfB i.ref)) || (!(memB i.sender))) h126 (by kernel_rfl) (by kernel_rfl) (fun hc128 => ?_) (fun hc128 => ?_)
    ·
      refine c_seq (by kernel_rfl) ?_
      refine reg_plain [(0, false)] (by kernel_rfl) (by kernel_rfl) ?_
      refine eE 0 2 (.assign (.const (.int .i64 6))) 3 (.int .i64 6) h126 fun q129 h130 => ?_
      clear h126
      refine wpO_end ?_
      have h131 := h130.keep [(2, .int .i64 6), (4, .bool ((i.kind == (1 : Int)) || (i.kind == (2 : Int)))), (3, .bool (decide (i.kind < (3 : Int)))), (1, .pointer (some ⟨b3, 0, none⟩))] ⟨rfl, rfl, rfl, rfl, trivial⟩
      clear h130
      refine then_n ?_
      refine c_ret (by kernel_rfl) ?_
      refine then_r ?_
      refine ret1 (t := 2) (v := .int .i64 6) h131 (by kernel_rfl) (by kernel_rfl) ?_
      exact ⟨ret_eq (congrArg (Value.int .i64) (show refI i = 6 from (cF hc39).trans (cT hc128)).symm), hB127.bel⟩
    ·
      refine c_skip (by kernel_rfl) ?_
      refine then_n ?_
      refine c_seq (by kernel_rfl) ?_
      refine c_seq (by kernel_rfl) ?_
      refine reg_plain [(0, false), (1, false), (2, false), (3, false), (4, false), (5, false), (6, false)] (by kernel_rfl) (by kernel_rfl) ?_
      refine eE 0 37 (.move (.tmp 3)) 4 (.bool (decide (i.kind < (3 : Int)))) h126 fun q132 h133 => ?_
      clear h126
      refine eE 1 38 (.unOp .not 4 (.tmp 37)) 4 (.bool (!(decide (i.kind < (3 : Int))))) h133 fun q134 h135 => ?_
      clear h133
      refine eE 2 39 (.move (.tmp 38)) 4 (.bool (!(decide (i.kind < (3 : Int))))) h135 fun q136 h137 => ?_
      clear h135
      refine wpO_cut [(3, false), (4, false), (5, false), (6, false)] [] (fun qa qw => Fr 291 [(43, .bool ((!(decide (i.kind < (3 : Int)))) && (i.cpty.toList != (⟨#[]⟩ : ByteArray).toList))), (4, .bool ((i.kind == (1 : Int)) || (i.kind == (2 : Int)))), (3, .bool (decide (i.kind < (3 : Int)))), (2, .int .i64 0), (1, .pointer (some ⟨b3, 0, none⟩))] qa ∧ Bx w [(b3, .cells #[.string i.ref, .int .i64 i.kind, .string i.sender, .string i.cpty, .int .i64 i.side, .string i.asset, .int .i64 i.qty, .int .i64 i.amt, .int .i64 i.tday, .int .i64 i.sday, .int .i64 i.prio, .bool i.part, .int .i64 i.minlot, .bool i.hold, .bool i.resv, .slice A i.links.length c] 24 (0, 0))] qw) ?_ ?_
      ·
        rcases Bool.eq_false_or_eq_true (!(decide (i.kind < (3 : Int)))) with hc138 | hc138
        ·
          refine eG 3 40 (.fieldAddr 24 (.tmp 1) 3) 0 (2, true) (.pointer (some ⟨b3, 3, none⟩)) (g1 39 hc138) h137 fun q139 h140 => ?_
          clear h137
          refine eG 4 41 (.load 9 (.tmp 40)) 9 (2, true) (.string i.cpty) (g1 39 hc138) h140 (hr := r_loadC (b := b3) (v := .string i.cpty) hB127 0 3 (by kernel_rfl) (by kernel_rfl) (by kernel_rfl)) fun q141 h142 => ?_
          clear h140
          refine eG 5 42 (.binOp .neq 9 (.tmp 41) (.const (.string { data := #[] })) 9) 4 (2, true) (.bool (i.cpty.toList != (⟨#[]⟩ : ByteArray).toList)) (g1 39 hc138) h142 fun q143 h144 => ?_
          clear h142
          refine eE 6 43 (.pick (.tmp 39) (.tmp 42) (.const (.bool false))) 4 (.bool ((!(decide (i.kind < (3 : Int)))) && (i.cpty.toList != (⟨#[]⟩ : ByteArray).toList))) h144 (hr := r_and (c := !(decide (i.kind < (3 : Int)))) (d := (i.cpty.toList != (⟨#[]⟩ : ByteArray).toList)) (by kernel_rfl) (fun _ => by kernel_rfl)) fun q145 h146 => ?_
          clear h144
          exact ⟨h146.keep _ ⟨rfl, rfl, rfl, rfl, rfl, trivial⟩, hB127⟩
        ·
          refine kE 3 40 (2, true) (g3 39 hc138) h137 trivial fun q147 h148 => ?_
          clear h137
          refine kE 4 41 (2, true) (g3 39 hc138) h148 trivial fun q149 h150 => ?_
          clear h148
          refine kE 5 42 (2, true) (g3 39 hc138) h150 trivial fun q151 h152 => ?_
          clear h150
          refine eE 6 43 (.pick (.tmp 39) (.tmp 42) (.const (.bool false))) 4 (.bool ((!(decide (i.kind < (3 : Int)))) && (i.cpty.toList != (⟨#[]⟩ : ByteArray).toList))) h152 (hr := r_and (c := !(decide (i.kind < (3 : Int)))) (d := (i.cpty.toList != (⟨#[]⟩ : ByteArray).toList)) (by kernel_rfl) (fun e155 => Bool.noConfusion (e155.symm.trans hc138))) fun q153 h154 => ?_
          clear h152
          exact ⟨h154.keep _ ⟨rfl, rfl, rfl, rfl, rfl, trivial⟩, hB127⟩
      rintro q156 w157 ⟨h158, hB159⟩
      refine wpO_end ?_
      refine then_n ?_
      refine c_cond (t := 43) (b := (!(decide (i.kind < (3 : Int)))) && (i.cpty.toList != (⟨#[]⟩ : ByteArray).toList)) h158 (by kernel_rfl) (by kernel_rfl) (fun hc160 => ?_) (fun hc160 => ?_)
      ·
        refine c_seq (by kernel_rfl) ?_
        refine reg_plain [(0, false)] (by kernel_rfl) (by kernel_rfl) ?_
        refine eE 0 2 (.assign (.const (.int .i64 3))) 3 (.int .i64 3) h158 fun q161 h162 => ?_
        clear h158
        refine wpO_end ?_
        have h163 := h162.keep [(2, .int .i64 3), (4, .bool ((i.kind == (1 : Int)) || (i.kind == (2 : Int)))), (3, .bool (decide (i.kind < (3 : Int)))), (1, .pointer (some ⟨b3, 0, none⟩))] ⟨rfl, rfl, rfl, rfl, trivial⟩
        clear h162
        refine then_n ?_
        refine c_ret (by kernel_rfl) ?_
        refine then_r ?_
        refine ret1 (t := 2) (v := .int .i64 3) h163 (by kernel_rfl) (by kernel_rfl) ?_
        exact ⟨ret_eq (congrArg (Value.int .i64) (show refI i = 3 from (cF hc39).trans ((cF hc128).trans (cT hc160))).symm), hB159.bel⟩
      ·
        refine c_skip (by kernel_rfl) ?_
        refine then_n ?_
        refine c_seq (by kernel_rfl) ?_
        refine c_seq (by kernel_rfl) ?_
        refine reg_plain [(0, false), (1, false), (2, false), (3, false), (4, false), (5, false), (6, false)] (by kernel_rfl) (by kernel_rfl) ?_
        refine eE 0 44 (.move (.tmp 3)) 4 (.bool (decide (i.kind < (3 : Int)))) h158 fun q164 h165 => ?_
        clear h158
        refine eE 1 45 (.move (.tmp 44)) 4 (.bool (decide (i.kind < (3 : Int)))) h165 fun q166 h167 => ?_
        clear h165
        refine wpO_cut [(2, false), (3, false), (4, false), (5, false), (6, false)] [] (fun qa qw => Fr 291 [(50, .bool ((decide (i.kind < (3 : Int))) && (!(memB i.cpty)))), (4, .bool ((i.kind == (1 : Int)) || (i.kind == (2 : Int)))), (3, .bool (decide (i.kind < (3 : Int)))), (2, .int .i64 0), (1, .pointer (some ⟨b3, 0, none⟩))] qa ∧ Bx w [(b3, .cells #[.string i.ref, .int .i64 i.kind, .string i.sender, .string i.cpty, .int .i64 i.side, .string i.asset, .int .i64 i.qty, .int .i64 i.amt, .int .i64 i.tday, .int .i64 i.sday, .int .i64 i.prio, .bool i.part, .int .i64 i.minlot, .bool i.hold, .bool i.resv, .slice A i.links.length c] 24 (0, 0))] qw) ?_ ?_
        ·
          rcases Bool.eq_false_or_eq_true (decide (i.kind < (3 : Int))) with hc168 | hc168
          ·
            refine eG 2 46 (.fieldAddr 24 (.tmp 1) 3) 0 (1, true) (.pointer (some ⟨b3, 3, none⟩)) (g1 45 hc168) h167 fun q169 h170 => ?_
            clear h167
            refine eG 3 47 (.load 9 (.tmp 46)) 9 (1, true) (.string i.cpty) (g1 45 hc168) h170 (hr := r_loadC (b := b3) (v := .string i.cpty) hB159 0 3 (by kernel_rfl) (by kernel_rfl) (by kernel_rfl)) fun q171 h172 => ?_
            clear h170
            refine stC (i := 4) (d := 48) (op := Op.call { callee := Callee.value (Operand.func 50), args := #[Operand.const (Value.int IntKind.i64 1), Operand.tmp 47], argTypes := #[3, 9] }) (ty := 4) (g := (some (1, true))) (f := 50) (args := #[.int .i64 1, .string i.cpty]) (w1 := w157) h172 (by kernel_rfl) (by kernel_rfl) (by kernel_rfl) (g1 45 hc168) (by kernel_rfl) (c50_1 i.cpty w157) ?_
            rintro _ w175 ⟨rfl, hb176⟩
            have hB177 := hB159.call hb176
            refine ⟨_, rfl, trivial, fun q173 h174 => ?_⟩
            clear h172 hB159 hb176
            refine eG 5 49 (.unOp .not 4 (.tmp 48)) 4 (1, true) (.bool (!(memB i.cpty))) (g1 45 hc168) h174 fun q178 h179 => ?_
            clear h174
            refine eE 6 50 (.pick (.tmp 45) (.tmp 49) (.const (.bool false))) 4 (.bool ((decide (i.kind < (3 : Int))) && (!(memB i.cpty)))) h179 (hr := r_and (c := decide (i.kind < (3 : Int))) (d := (!(memB i.cpty))) (by kernel_rfl) (fun _ => by kernel_rfl)) fun q180 h181 => ?_
            clear h179
            exact ⟨h181.keep _ ⟨rfl, rfl, rfl, rfl, rfl, trivial⟩, hB177⟩
          ·
            refine kE 2 46 (1, true) (g3 45 hc168) h167 trivial fun q182 h183 => ?_
            clear h167
            refine kE 3 47 (1, true) (g3 45 hc168) h183 trivial fun q184 h185 => ?_
            clear h183
            refine kE 4 48 (1, true) (g3 45 hc168) h185 trivial fun q186 h187 => ?_
            clear h185
            refine kE 5 49 (1, true) (g3 45 hc168) h187 trivial fun q188 h189 => ?_
            clear h187
            refine eE 6 50 (.pick (.tmp 45) (.tmp 49) (.const (.bool false))) 4 (.bool ((decide (i.kind < (3 : Int))) && (!(memB i.cpty)))) h189 (hr := r_and (c := decide (i.kind < (3 : Int))) (d := (!(memB i.cpty))) (by kernel_rfl) (fun e192 => Bool.noConfusion (e192.symm.trans hc168))) fun q190 h191 => ?_
            clear h189
            exact ⟨h191.keep _ ⟨rfl, rfl, rfl, rfl, rfl, trivial⟩, hB159⟩
        rintro q193 w194 ⟨h195, hB196⟩
        refine wpO_end ?_
        refine then_n ?_
        refine c_cond (t := 50) (b := (decide (i.kind < (3 : Int))) && (!(memB i.cpty))) h195 (by kernel_rfl) (by kernel_rfl) (fun hc197 => ?_) (fun hc197 => ?_)
        ·
          refine c_seq (by kernel_rfl) ?_
          refine reg_plain [(0, false)] (by kernel_rfl) (by kernel_rfl) ?_
          refine eE 0 2 (.assign (.const (.int .i64 6))) 3 (.int .i64 6) h195 fun q198 h199 => ?_
          clear h195
          refine wpO_end ?_
          have h200 := h199.keep [(2, .int .i64 6), (4, .bool ((i.kind == (1 : Int)) || (i.kind == (2 : Int)))), (3, .bool (decide (i.kind < (3 : Int)))), (1, .pointer (some ⟨b3, 0, none⟩))] ⟨rfl, rfl, rfl, rfl, trivial⟩
          clear h199
          refine then_n ?_
          refine c_ret (by kernel_rfl) ?_
          refine then_r ?_
          refine ret1 (t := 2) (v := .int .i64 6) h200 (by kernel_rfl) (by kernel_rfl) ?_
          exact ⟨ret_eq (congrArg (Value.int .i64) (show refI i = 6 from (cF hc39).trans ((cF hc128).trans ((cF hc160).trans (cT hc197)))).symm), hB196.bel⟩
        ·
          refine c_skip (by kernel_rfl) ?_
          refine then_n ?_
          refine c_seq (by kernel_rfl) ?_
          refine c_seq (by kernel_rfl) ?_
          refine reg_plain [(0, false), (1, false), (2, false), (3, false), (4, false), (5, false), (6, false), (7, false)] (by kernel_rfl) (by kernel_rfl) ?_
          refine eE 0 51 (.move (.tmp 3)) 4 (.bool (decide (i.kind < (3 : Int)))) h195 fun q201 h202 => ?_
          clear h195
          refine eE 1 52 (.move (.tmp 51)) 4 (.bool (decide (i.kind < (3 : Int)))) h202 fun q203 h204 => ?_
          clear h202
          refine wpO_cut [(2, false), (3, false), (4, false), (5, false), (6, false), (7, false)] [] (fun qa qw => Fr 291 [(58, .bool ((decide (i.kind < (3 : Int))) && (i.cpty.toList == i.sender.toList))), (4, .bool ((i.kind == (1 : Int)) || (i.kind == (2 : Int)))), (3, .bool (decide (i.kind < (3 : Int)))), (2, .int .i64 0), (1, .pointer (some ⟨b3, 0, none⟩))] qa ∧ Bx w [(b3, .cells #[.string i.ref, .int .i64 i.kind, .string i.sender, .string i.cpty, .int .i64 i.side, .string i.asset, .int .i64 i.qty, .int .i64 i.amt, .int .i64 i.tday, .int .i64 i.sday, .int .i64 i.prio, .bool i.part, .int .i64 i.minlot, .bool i.hold, .bool i.resv, .slice A i.links.length c] 24 (0, 0))] qw) ?_ ?_
          ·
            rcases Bool.eq_false_or_eq_true (decide (i.kind < (3 : Int))) with hc205 | hc205
            ·
              refine eG 2 53 (.fieldAddr 24 (.tmp 1) 3) 0 (1, true) (.pointer (some ⟨b3, 3, none⟩)) (g1 52 hc205) h204 fun q206 h207 => ?_
              clear h204
              refine eG 3 54 (.load 9 (.tmp 53)) 9 (1, true) (.string i.cpty) (g1 52 hc205) h207 (hr := r_loadC (b := b3) (v := .string i.cpty) hB196 0 3 (by kernel_rfl) (by kernel_rfl) (by kernel_rfl)) fun q208 h209 => ?_
              clear h207
              refine eG 4 55 (.fieldAddr 24 (.tmp 1) 2) 0 (1, true) (.pointer (some ⟨b3, 2, none⟩)) (g1 52 hc205) h209 fun q210 h211 => ?_
              clear h209
              refine eG 5 56 (.load 9 (.tmp 55)) 9 (1, true) (.string i.sender) (g1 52 hc205) h211 (hr := r_loadC (b := b3) (v := .string i.sender) hB196 0 2 (by kernel_rfl) (by kernel_rfl) (by kernel_rfl)) fun q212 h213 => ?_
              clear h211
              refine eG 6 57 (.binOp .eql 9 (.tmp 54) (.tmp 56) 9) 4 (1, true) (.bool (i.cpty.toList == i.sender.toList)) (g1 52 hc205) h213 fun q214 h215 => ?_
              clear h213
              refine eE 7 58 (.pick (.tmp 52) (.tmp 57) (.const (.bool false))) 4 (.bool ((decide (i.kind < (3 : Int))) && (i.cpty.toList == i.sender.toList))) h215 (hr := r_and (c := decide (i.kind < (3 : Int))) (d := (i.cpty.toList == i.sender.toList)) (by kernel_rfl) (fun _ => by kernel_rfl)) fun q216 h217 => ?_
              clear h215
              exact ⟨h217.keep _ ⟨rfl, rfl, rfl, rfl, rfl, trivial⟩, hB196⟩
            ·
              refine kE 2 53 (1, true) (g3 52 hc205) h204 trivial fun q218 h219 => ?_
              clear h204
              refine kE 3 54 (1, true) (g3 52 hc205) h219 trivial fun q220 h221 => ?_
              clear h219
              refine kE 4 55 (1, true) (g3 52 hc205) h221 trivial fun q222 h223 => ?_
              clear h221
              refine kE 5 56 (1, true) (g3 52 hc205) h223 trivial fun q224 h225 => ?_
              clear h223
              refine kE 6 57 (1, true) (g3 52 hc205) h225 trivial fun q226 h227 => ?_
              clear h225
              refine eE 7 58 (.pick (.tmp 52) (.tmp 57) (.const (.bool false))) 4 (.bool ((decide (i.kind < (3 : Int))) && (i.cpty.toList == i.sender.toList))) h227 (hr := r_and (c := decide (i.kind < (3 : Int))) (d := (i.cpty.toList == i.sender.toList)) (by kernel_rfl) (fun e230 => Bool.noConfusion (e230.symm.trans hc205))) fun q228 h229 => ?_
              clear h227
              exact ⟨h229.keep _ ⟨rfl, rfl, rfl, rfl, rfl, trivial⟩, hB196⟩
          rintro q231 w232 ⟨h233, hB234⟩
          refine wpO_end ?_
          refine then_n ?_
          refine c_cond (t := 58) (b := (decide (i.kind < (3 : Int))) && (i.cpty.toList == i.sender.toList)) h233 (by kernel_rfl) (by kernel_rfl) (fun hc235 => ?_) (fun hc235 => ?_)
          ·
            refine c_seq (by kernel_rfl) ?_
            refine reg_plain [(0, false)] (by kernel_rfl) (by kernel_rfl) ?_
            refine eE 0 2 (.assign (.const (.int .i64 1))) 3 (.int .i64 1) h233 fun q236 h237 => ?_
            clear h233
            refine wpO_end ?_
            have h238 := h237.keep [(2, .int .i64 1), (4, .bool ((i.kind == (1 : Int)) || (i.kind == (2 : Int)))), (3, .bool (decide (i.kind < (3 : Int)))), (1, .pointer (some ⟨b3, 0, none⟩))] ⟨rfl, rfl, rfl, rfl, trivial⟩
            clear h237
            refine then_n ?_
            refine c_ret (by kernel_rfl) ?_
            refine then_r ?_
            refine ret1 (t := 2) (v := .int .i64 1) h238 (by kernel_rfl) (by kernel_rfl) ?_
            exact ⟨ret_eq (congrArg (Value.int .i64) (show refI i = 1 from (cF hc39).trans ((cF hc128).trans ((cF hc160).trans ((cF hc197).trans (cT hc235))))).symm), hB234.bel⟩
          ·
            refine c_skip (by kernel_rfl) ?_
            refine then_n ?_
            refine c_seq (by kernel_rfl) ?_
            refine c_seq (by kernel_rfl) ?_
            refine reg_plain [(0, false), (1, false), (2, false), (3, false), (4, false), (5, false), (6, false), (7, false)] (by kernel_rfl) (by kernel_rfl) ?_
            refine eE 0 59 (.fieldAddr 24 (.tmp 1) 4) 0 (.pointer (some ⟨b3, 4, none⟩)) h233 fun q239 h240 => ?_
            clear h233
            refine eE 1 60 (.load 3 (.tmp 59)) 3 (.int .i64 i.side) h240 (hr := r_loadC (b := b3) (v := .int .i64 i.side) hB234 0 4 (by kernel_rfl) (by kernel_rfl) (by kernel_rfl)) fun q241 h242 => ?_
            clear h240
            refine eE 2 61 (.binOp .neq 3 (.tmp 60) (.const (.int .i64 0)) 3) 4 (.bool (i.side != (0 : Int))) h242 fun q243 h244 => ?_
            clear h242
            refine eE 3 62 (.move (.tmp 61)) 4 (.bool (i.side != (0 : Int))) h244 fun q245 h246 => ?_
            clear h244
            refine wpO_cut [(4, false), (5, false), (6, false), (7, false)] [] (fun qa qw => Fr 291 [(66, .bool ((i.side != (0 : Int)) && (i.side != (1 : Int)))), (4, .bool ((i.kind == (1 : Int)) || (i.kind == (2 : Int)))), (3, .bool (decide (i.kind < (3 : Int)))), (2, .int .i64 0), (1, .pointer (some ⟨b3, 0, none⟩))] qa ∧ Bx w [(b3, .cells #[.string i.ref, .int .i64 i.kind, .string i.sender, .string i.cpty, .int .i64 i.side, .string i.asset, .int .i64 i.qty, .int .i64 i.amt, .int .i64 i.tday, .int .i64 i.sday, .int .i64 i.prio, .bool i.part, .int .i64 i.minlot, .bool i.hold, .bool i.resv, .slice A i.links.length c] 24 (0, 0))] qw) ?_ ?_
            ·
              rcases Bool.eq_false_or_eq_true (i.side != (0 : Int)) with hc247 | hc247
              ·
                refine eG 4 63 (.fieldAddr 24 (.tmp 1) 4) 0 (3, true) (.pointer (some ⟨b3, 4, none⟩)) (g1 62 hc247) h246 fun q248 h249 => ?_
                clear h246
                refine eG 5 64 (.load 3 (.tmp 63)) 3 (3, true) (.int .i64 i.side) (g1 62 hc247) h249 (hr := r_loadC (b := b3) (v := .int .i64 i.side) hB234 0 4 (by kernel_rfl) (by kernel_rfl) (by kernel_rfl)) fun q250 h251 => ?_
                clear h249
                refine eG 6 65 (.binOp .neq 3 (.tmp 64) (.const (.int .i64 1)) 3) 4 (3, true) (.bool (i.side != (1 : Int))) (g1 62 hc247) h251 fun q252 h253 => ?_
                clear h251
                refine eE 7 66 (.pick (.tmp 62) (.tmp 65) (.const (.bool false))) 4 (.bool ((i.side != (0 : Int)) && (i.side != (1 : Int)))) h253 (hr := r_and (c := (i.side != (0 : Int))) (d := (i.side != (1 : Int))) (by kernel_rfl) (fun _ => by kernel_rfl)) fun q254 h255 => ?_
                clear h253
                exact ⟨h255.keep _ ⟨rfl, rfl, rfl, rfl, rfl, trivial⟩, hB234⟩
              ·
                refine kE 4 63 (3, true) (g3 62 hc247) h246 trivial fun q256 h257 => ?_
                clear h246
                refine kE 5 64 (3, true) (g3 62 hc247) h257 trivial fun q258 h259 => ?_
                clear h257
                refine kE 6 65 (3, true) (g3 62 hc247) h259 trivial fun q260 h261 => ?_
                clear h259
                refine eE 7 66 (.pick (.tmp 62) (.tmp 65) (.const (.bool false))) 4 (.bool ((i.side != (0 : Int)) && (i.side != (1 : Int)))) h261 (hr := r_and (c := (i.side != (0 : Int))) (d := (i.side != (1 : Int))) (by kernel_rfl) (fun e264 => Bool.noConfusion (e264.symm.trans hc247))) fun q262 h263 => ?_
                clear h261
                exact ⟨h263.keep _ ⟨rfl, rfl, rfl, rfl, rfl, trivial⟩, hB234⟩
            rintro q265 w266 ⟨h267, hB268⟩
            refine wpO_end ?_
            refine then_n ?_
            refine c_cond (t := 66) (b := (i.side != (0 : Int)) && (i.side != (1 : Int))) h267 (by kernel_rfl) (by kernel_rfl) (fun hc269 => ?_) (fun hc269 => ?_)
            ·
              refine c_seq (by kernel_rfl) ?_
              refine reg_plain [(0, false)] (by kernel_rfl) (by kernel_rfl) ?_
              refine eE 0 2 (.assign (.const (.int .i64 11))) 3 (.int .i64 11) h267 fun q270 h271 => ?_
              clear h267
              refine wpO_end ?_
              have h272 := h271.keep [(2, .int .i64 11), (4, .bool ((i.kind == (1 : Int)) || (i.kind == (2 : Int)))), (3, .bool (decide (i.kind < (3 : Int)))), (1, .pointer (some ⟨b3, 0, none⟩))] ⟨rfl, rfl, rfl, rfl, trivial⟩
              clear h271
              refine then_n ?_
              refine c_ret (by kernel_rfl) ?_
              refine then_r ?_
              refine ret1 (t := 2) (v := .int .i64 11) h272 (by kernel_rfl) (by kernel_rfl) ?_
              exact ⟨ret_eq (congrArg (Value.int .i64) (show refI i = 11 from (cF hc39).trans ((cF hc128).trans ((cF hc160).trans ((cF hc197).trans ((cF hc235).trans (cT hc269)))))).symm), hB268.bel⟩
            ·
              refine c_skip (by kernel_rfl) ?_
              refine then_n ?_
              refine c_seq (by kernel_rfl) ?_
              refine c_seq (by kernel_rfl) ?_
              refine reg_plain [(0, false), (1, false), (2, false), (3, false), (4, false), (5, false), (6, false)] (by kernel_rfl) (by kernel_rfl) ?_
              refine eE 0 67 (.move (.tmp 4)) 4 (.bool ((i.kind == (1 : Int)) || (i.kind == (2 : Int)))) h267 fun q273 h274 => ?_
              clear h267
              refine eE 1 68 (.unOp .not 4 (.tmp 67)) 4 (.bool (!((i.kind == (1 : Int)) || (i.kind == (2 : Int))))) h274 fun q275 h276 => ?_
              clear h274
              refine eE 2 69 (.move (.tmp 68)) 4 (.bool (!((i.kind == (1 : Int)) || (i.kind == (2 : Int))))) h276 fun q277 h278 => ?_
              clear h276
              refine wpO_cut [(3, false), (4, false), (5, false), (6, false)] [] (fun qa qw => Fr 291 [(73, .bool ((!((i.kind == (1 : Int)) || (i.kind == (2 : Int)))) && (i.side != (0 : Int)))), (4, .bool ((i.kind == (1 : Int)) || (i.kind == (2 : Int)))), (3, .bool (decide (i.kind < (3 : Int)))), (2, .int .i64 0), (1, .pointer (some ⟨b3, 0, none⟩))] qa ∧ Bx w [(b3, .cells #[.string i.ref, .int .i64 i.kind, .string i.sender, .string i.cpty, .int .i64 i.side, .string i.asset, .int .i64 i.qty, .int .i64 i.amt, .int .i64 i.tday, .int .i64 i.sday, .int .i64 i.prio, .bool i.part, .int .i64 i.minlot, .bool i.hold, .bool i.resv, .slice A i.links.length c] 24 (0, 0))] qw) ?_ ?_
              ·
                rcases Bool.eq_false_or_eq_true (!((i.kind == (1 : Int)) || (i.kind == (2 : Int)))) with hc279 | hc279
                ·
                  refine eG 3 70 (.fieldAddr 24 (.tmp 1) 4) 0 (2, true) (.pointer (some ⟨b3, 4, none⟩)) (g1 69 hc279) h278 fun q280 h281 => ?_
                  clear h278
                  refine eG 4 71 (.load 3 (.tmp 70)) 3 (2, true) (.int .i64 i.side) (g1 69 hc279) h281 (hr := r_loadC (b := b3) (v := .int .i64 i.side) hB268 0 4 (by kernel_rfl) (by kernel_rfl) (by kernel_rfl)) fun q282 h283 => ?_
                  clear h281
                  refine eG 5 72 (.binOp .neq 3 (.tmp 71) (.const (.int .i64 0)) 3) 4 (2, true) (.bool (i.side != (0 : Int))) (g1 69 hc279) h283 fun q284 h285 => ?_
                  clear h283
                  refine eE 6 73 (.pick (.tmp 69) (.tmp 72) (.const (.bool false))) 4 (.bool ((!((i.kind == (1 : Int)) || (i.kind == (2 : Int)))) && (i.side != (0 : Int)))) h285 (hr := r_and (c := !((i.kind == (1 : Int)) || (i.kind == (2 : Int)))) (d := (i.side != (0 : Int))) (by kernel_rfl) (fun _ => by kernel_rfl)) fun q286 h287 => ?_
                  clear h285
                  exact ⟨h287.keep _ ⟨rfl, rfl, rfl, rfl, rfl, trivial⟩, hB268⟩
                ·
                  refine kE 3 70 (2, true) (g3 69 hc279) h278 trivial fun q288 h289 => ?_
                  clear h278
                  refine kE 4 71 (2, true) (g3 69 hc279) h289 trivial fun q290 h291 => ?_
                  clear h289
                  refine kE 5 72 (2, true) (g3 69 hc279) h291 trivial fun q292 h293 => ?_
                  clear h291
                  refine eE 6 73 (.pick (.tmp 69) (.tmp 72) (.const (.bool false))) 4 (.bool ((!((i.kind == (1 : Int)) || (i.kind == (2 : Int)))) && (i.side != (0 : Int)))) h293 (hr := r_and (c := !((i.kind == (1 : Int)) || (i.kind == (2 : Int)))) (d := (i.side != (0 : Int))) (by kernel_rfl) (fun e296 => Bool.noConfusion (e296.symm.trans hc279))) fun q294 h295 => ?_
                  clear h293
                  exact ⟨h295.keep _ ⟨rfl, rfl, rfl, rfl, rfl, trivial⟩, hB268⟩
              rintro q297 w298 ⟨h299, hB300⟩
              refine wpO_end ?_
              refine then_n ?_
              refine c_cond (t := 73) (b := (!((i.kind == (1 : Int)) || (i.kind == (2 : Int)))) && (i.side != (0 : Int))) h299 (by kernel_rfl) (by kernel_rfl) (fun hc301 => ?_) (fun hc301 => ?_)
              ·
                refine c_seq (by kernel_rfl) ?_
                refine reg_plain [(0, false)] (by kernel_rfl) (by kernel_rfl) ?_
                refine eE 0 2 (.assign (.const (.int .i64 3))) 3 (.int .i64 3) h299 fun q302 h303 => ?_
                clear h299
                refine wpO_end ?_
                have h304 := h303.keep [(2, .int .i64 3), (4, .bool ((i.kind == (1 : Int)) || (i.kind == (2 : Int)))), (3, .bool (decide (i.kind < (3 : Int)))), (1, .pointer (some ⟨b3, 0, none⟩))] ⟨rfl, rfl, rfl, rfl, trivial⟩
                clear h303
                refine then_n ?_
                refine c_ret (by kernel_rfl) ?_
                refine then_r ?_
                refine ret1 (t := 2) (v := .int .i64 3) h304 (by kernel_rfl) (by kernel_rfl) ?_
                exact ⟨ret_eq (congrArg (Value.int .i64) (show refI i = 3 from (cF hc39).trans ((cF hc128).trans ((cF hc160).trans ((cF hc197).trans ((cF hc235).trans ((cF hc269).trans (cT hc301))))))).symm), hB300.bel⟩
              ·
                refine c_skip (by kernel_rfl) ?_
                refine then_n ?_
                refine c_seq (by kernel_rfl) ?_
                refine c_seq (by kernel_rfl) ?_
                refine reg_plain [(0, false), (1, false), (2, false), (3, false), (4, false), (5, false), (6, false), (7, false), (8, false), (9, false), (10, false), (11, false), (12, false), (13, false), (14, false), (15, false), (16, false), (17, false), (18, false)] (by kernel_rfl) (by kernel_rfl) ?_
                refine eE 0 74 (.fieldAddr 24 (.tmp 1) 1) 0 (.pointer (some ⟨b3, 1, none⟩)) h299 fun q305 h306 => ?_
                clear h299
                refine eE 1 75 (.load 3 (.tmp 74)) 3 (.int .i64 i.kind) h306 (hr := r_loadC (b := b3) (v := .int .i64 i.kind) hB300 0 1 (by kernel_rfl) (by kernel_rfl) (by kernel_rfl)) fun q307 h308 => ?_
                clear h306
                refine eE 2 76 (.binOp .eql 3 (.tmp 75) (.const (.int .i64 0)) 3) 4 (.bool (i.kind == (0 : Int))) h308 fun q309 h310 => ?_
                clear h308
                refine eE 3 77 (.move (.tmp 76)) 4 (.bool (i.kind == (0 : Int))) h310 fun q311 h312 => ?_
                clear h310
                refine wpO_cut [(4, false), (5, false), (6, false), (7, false)] [(8, false), (9, false), (10, false), (11, false), (12, false), (13, false), (14, false), (15, false), (16, false), (17, false), (18, false)] (fun qa qw => Fr 291 [(81, .bool ((i.kind == (0 : Int)) && (i.asset.toList != (⟨#[67, 65, 83, 72]⟩ : ByteArray).toList))), (4, .bool ((i.kind == (1 : Int)) || (i.kind == (2 : Int)))), (3, .bool (decide (i.kind < (3 : Int)))), (2, .int .i64 0), (1, .pointer (some ⟨b3, 0, none⟩))] qa ∧ Bx w [(b3, .cells #[.string i.ref, .int .i64 i.kind, .string i.sender, .string i.cpty, .int .i64 i.side, .string i.asset, .int .i64 i.qty, .int .i64 i.amt, .int .i64 i.tday, .int .i64 i.sday, .int .i64 i.prio, .bool i.part, .int .i64 i.minlot, .bool i.hold, .bool i.resv, .slice A i.links.length c] 24 (0, 0))] qw) ?_ ?_
                ·
                  rcases Bool.eq_false_or_eq_true (i.kind == (0 : Int)) with hc313 | hc313
                  ·
                    refine eG 4 78 (.fieldAddr 24 (.tmp 1) 5) 0 (3, true) (.pointer (some ⟨b3, 5, none⟩)) (g1 77 hc313) h312 fun q314 h315 => ?_
                    clear h312
                    refine eG 5 79 (.load 9 (.tmp 78)) 9 (3, true) (.string i.asset) (g1 77 hc313) h315 (hr := r_loadC (b := b3) (v := .string i.asset) hB300 0 5 (by kernel_rfl) (by kernel_rfl) (by kernel_rfl)) fun q316 h317 => ?_
                    clear h315
                    refine eG 6 80 (.binOp .neq 9 (.tmp 79) (.const (.string { data := #[67, 65, 83, 72] })) 9) 4 (3, true) (.bool (i.asset.toList != (⟨#[67, 65, 83, 72]⟩ : ByteArray).toList)) (g1 77 hc313) h317 fun q318 h319 => ?_
                    clear h317
                    refine eE 7 81 (.pick (.tmp 77) (.tmp 80) (.const (.bool false))) 4 (.bool ((i.kind == (0 : Int)) && (i.asset.toList != (⟨#[67, 65, 83, 72]⟩ : ByteArray).toList))) h319 (hr := r_and (c := (i.kind == (0 : Int))) (d := (i.asset.toList != (⟨#[67, 65, 83, 72]⟩ : ByteArray).toList)) (by kernel_rfl) (fun _ => by kernel_rfl)) fun q320 h321 => ?_
                    clear h319
                    exact ⟨h321.keep _ ⟨rfl, rfl, rfl, rfl, rfl, trivial⟩, hB300⟩
                  ·
                    refine kE 4 78 (3, true) (g3 77 hc313) h312 trivial fun q322 h323 => ?_
                    clear h312
                    refine kE 5 79 (3, true) (g3 77 hc313) h323 trivial fun q324 h325 => ?_
                    clear h323
                    refine kE 6 80 (3, true) (g3 77 hc313) h325 trivial fun q326 h327 => ?_
                    clear h325
                    refine eE 7 81 (.pick (.tmp 77) (.tmp 80) (.const (.bool false))) 4 (.bool ((i.kind == (0 : Int)) && (i.asset.toList != (⟨#[67, 65, 83, 72]⟩ : ByteArray).toList))) h327 (hr := r_and (c := (i.kind == (0 : Int))) (d := (i.asset.toList != (⟨#[67, 65, 83, 72]⟩ : ByteArray).toList)) (by kernel_rfl) (fun e330 => Bool.noConfusion (e330.symm.trans hc313))) fun q328 h329 => ?_
                    clear h327
                    exact ⟨h329.keep _ ⟨rfl, rfl, rfl, rfl, rfl, trivial⟩, hB300⟩
                rintro q331 w332 ⟨h333, hB334⟩
                refine eE 8 82 (.move (.tmp 81)) 4 (.bool ((i.kind == (0 : Int)) && (i.asset.toList != (⟨#[67, 65, 83, 72]⟩ : ByteArray).toList))) h333 fun q335 h336 => ?_
                clear h333
                refine wpO_cut [(9, false), (10, false), (11, false), (12, false), (13, false), (14, false), (15, false), (16, false), (17, false), (18, false)] [] (fun qa qw => Fr 291 [(92, .bool (((i.kind == (0 : Int)) && (i.asset.toList != (⟨#[67, 65, 83, 72]⟩ : ByteArray).toList)) || ((decide ((0 : Int) < i.kind)) && (!(isinB i.asset))))), (4, .bool ((i.kind == (1 : Int)) || (i.kind == (2 : Int)))), (3, .bool (decide (i.kind < (3 : Int)))), (2, .int .i64 0), (1, .pointer (some ⟨b3, 0, none⟩))] qa ∧ Bx w [(b3, .cells #[.string i.ref, .int .i64 i.kind, .string i.sender, .string i.cpty, .int .i64 i.side, .string i.asset, .int .i64 i.qty, .int .i64 i.amt, .int .i64 i.tday, .int .i64 i.sday, .int .i64 i.prio, .bool i.part, .int .i64 i.minlot, .bool i.hold, .bool i.resv, .slice A i.links.length c] 24 (0, 0))] qw) ?_ ?_
                ·
                  rcases Bool.eq_false_or_eq_true ((i.kind == (0 : Int)) && (i.asset.toList != (⟨#[67, 65, 83, 72]⟩ : ByteArray).toList)) with hc337 | hc337
                  ·
                    refine kE 9 83 (8, false) (g4 82 hc337) h336 trivial fun q338 h339 => ?_
                    clear h336
                    refine kE 10 84 (8, false) (g4 82 hc337) h339 trivial fun q340 h341 => ?_
                    clear h339
                    refine kE 11 85 (8, false) (g4 82 hc337) h341 trivial fun q342 h343 => ?_
                    clear h341
                    refine kE 12 86 (8, false) (g4 82 hc337) h343 trivial fun q344 h345 => ?_
                    clear h343
                    refine kE 13 87 (12, true) (g0 86) h345 trivial fun q346 h347 => ?_
                    clear h345
                    refine kE 14 88 (12, true) (g0 86) h347 trivial fun q348 h349 => ?_
                    clear h347
                    refine kE 15 89 (12, true) (g0 86) h349 trivial fun q350 h351 => ?_
                    clear h349
                    refine kE 16 90 (12, true) (g0 86) h351 trivial fun q352 h353 => ?_
                    clear h351
                    refine kE 17 91 (8, false) (g4 82 hc337) h353 trivial fun q354 h355 => ?_
                    clear h353
                    refine eE 18 92 (.pick (.tmp 82) (.const (.bool true)) (.tmp 91)) 4 (.bool (((i.kind == (0 : Int)) && (i.asset.toList != (⟨#[67, 65, 83, 72]⟩ : ByteArray).toList)) || ((decide ((0 : Int) < i.kind)) && (!(isinB i.asset))))) h355 (hr := r_or (c := (i.kind == (0 : Int)) && (i.asset.toList != (⟨#[67, 65, 83, 72]⟩ : ByteArray).toList)) (d := ((decide ((0 : Int) < i.kind)) && (!(isinB i.asset)))) (by kernel_rfl) (fun e358 => Bool.noConfusion (e358.symm.trans hc337))) fun q356 h357 => ?_
                    clear h355
                    exact ⟨h357.keep _ ⟨rfl, rfl, rfl, rfl, rfl, trivial⟩, hB334⟩
                  ·
                    refine eG 9 83 (.fieldAddr 24 (.tmp 1) 1) 0 (8, false) (.pointer (some ⟨b3, 1, none⟩)) (g2 82 hc337) h336 fun q359 h360 => ?_
                    clear h336
                    refine eG 10 84 (.load 3 (.tmp 83)) 3 (8, false) (.int .i64 i.kind) (g2 82 hc337) h360 (hr := r_loadC (b := b3) (v := .int .i64 i.kind) hB334 0 1 (by kernel_rfl) (by kernel_rfl) (by kernel_rfl)) fun q361 h362 => ?_
                    clear h360
                    refine eG 11 85 (.binOp .gtr 3 (.tmp 84) (.const (.int .i64 0)) 3) 4 (8, false) (.bool (decide ((0 : Int) < i.kind))) (g2 82 hc337) h362 fun q363 h364 => ?_
                    clear h362
                    refine eG 12 86 (.move (.tmp 85)) 4 (8, false) (.bool (decide ((0 : Int) < i.kind))) (g2 82 hc337) h364 fun q365 h366 => ?_
                    clear h364
                    refine wpO_cut [(13, false), (14, false), (15, false), (16, false), (17, false)] [(18, false)] (fun qa qw => Fr 291 [(91, .bool ((decide ((0 : Int) < i.kind)) && (!(isinB i.asset)))), (82, .bool ((i.kind == (0 : Int)) && (i.asset.toList != (⟨#[67, 65, 83, 72]⟩ : ByteArray).toList))), (4, .bool ((i.kind == (1 : Int)) || (i.kind == (2 : Int)))), (3, .bool (decide (i.kind < (3 : Int)))), (2, .int .i64 0), (1, .pointer (some ⟨b3, 0, none⟩))] qa ∧ Bx w [(b3, .cells #[.string i.ref, .int .i64 i.kind, .string i.sender, .string i.cpty, .int .i64 i.side, .string i.asset, .int .i64 i.qty, .int .i64 i.amt, .int .i64 i.tday, .int .i64 i.sday, .int .i64 i.prio, .bool i.part, .int .i64 i.minlot, .bool i.hold, .bool i.resv, .slice A i.links.length c] 24 (0, 0))] qw) ?_ ?_
                    ·
                      rcases Bool.eq_false_or_eq_true (decide ((0 : Int) < i.kind)) with hc367 | hc367
                      ·
                        refine eG 13 87 (.fieldAddr 24 (.tmp 1) 5) 0 (12, true) (.pointer (some ⟨b3, 5, none⟩)) (g1 86 hc367) h366 fun q368 h369 => ?_
                        clear h366
                        refine eG 14 88 (.load 9 (.tmp 87)) 9 (12, true) (.string i.asset) (g1 86 hc367) h369 (hr := r_loadC (b := b3) (v := .string i.asset) hB334 0 5 (by kernel_rfl) (by kernel_rfl) (by kernel_rfl)) fun q370 h371 => ?_
                        clear h369
                        refine stC (i := 15) (d := 89) (op := Op.call { callee := Callee.value (Operand.func 50), args := #[Operand.const (Value.int IntKind.i64 0), Operand.tmp 88], argTypes := #[3, 9] }) (ty := 4) (g := (some (12, true))) (f := 50) (args := #[.int .i64 0, .string i.asset]) (w1 := w332) h371 (by kernel_rfl) (by kernel_rfl) (by kernel_rfl) (g1 86 hc367) (by kernel_rfl) (c50_0 i.asset w332) ?_
                        rintro _ w374 ⟨rfl, hb375⟩
                        have hB376 := hB334.call hb375
                        refine ⟨_, rfl, trivial, fun q372 h373 => ?_⟩
                        clear h371 hB334 hb375
                        refine eG 16 90 (.unOp .not 4 (.tmp 89)) 4 (12, true) (.bool (!(isinB i.asset))) (g1 86 hc367) h373 fun q377 h378 => ?_
                        clear h373
                        refine eG 17 91 (.pick (.tmp 86) (.tmp 90) (.const (.bool false))) 4 (8, false) (.bool ((decide ((0 : Int) < i.kind)) && (!(isinB i.asset)))) (g2 82 hc337) h378 (hr := r_and (c := decide ((0 : Int) < i.kind)) (d := (!(isinB i.asset))) (by kernel_rfl) (fun _ => by kernel_rfl)) fun q379 h380 => ?_
                        clear h378
                        exact ⟨h380.keep _ ⟨rfl, rfl, rfl, rfl, rfl, rfl, trivial⟩, hB376⟩
                      ·
                        refine kE 13 87 (12, true) (g3 86 hc367) h366 trivial fun q381 h382 => ?_
                        clear h366
                        refine kE 14 88 (12, true) (g3 86 hc367) h382 trivial fun q383 h384 => ?_
                        clear h382
                        refine kE 15 89 (12, true) (g3 86 hc367) h384 trivial fun q385 h386 => ?_
                        clear h384
                        refine kE 16 90 (12, true) (g3 86 hc367) h386 trivial fun q387 h388 => ?_
                        clear h386
                        refine eG 17 91 (.pick (.tmp 86) (.tmp 90) (.const (.bool false))) 4 (8, false) (.bool ((decide ((0 : Int) < i.kind)) && (!(isinB i.asset)))) (g2 82 hc337) h388 (hr := r_and (c := decide ((0 : Int) < i.kind)) (d := (!(isinB i.asset))) (by kernel_rfl) (fun e391 => Bool.noConfusion (e391.symm.trans hc367))) fun q389 h390 => ?_
                        clear h388
                        exact ⟨h390.keep _ ⟨rfl, rfl, rfl, rfl, rfl, rfl, trivial⟩, hB334⟩
                    rintro q392 w393 ⟨h394, hB395⟩
                    refine eE 18 92 (.pick (.tmp 82) (.const (.bool true)) (.tmp 91)) 4 (.bool (((i.kind == (0 : Int)) && (i.asset.toList != (⟨#[67, 65, 83, 72]⟩ : ByteArray).toList)) || ((decide ((0 : Int) < i.kind)) && (!(isinB i.asset))))) h394 (hr := r_or (c := (i.kind == (0 : Int)) && (i.asset.toList != (⟨#[67, 65, 83, 72]⟩ : ByteArray).toList)) (d := ((decide ((0 : Int) < i.kind)) && (!(isinB i.asset)))) (by kernel_rfl) (fun _ => by kernel_rfl)) fun q396 h397 => ?_
                    clear h394
                    exact ⟨h397.keep _ ⟨rfl, rfl, rfl, rfl, rfl, trivial⟩, hB395⟩
                rintro q398 w399 ⟨h400, hB401⟩
                refine wpO_end ?_
                refine then_n ?_
                refine c_cond (t := 92) (b := ((i.kind == (0 : Int)) && (i.asset.toList != (⟨#[67, 65, 83, 72]⟩ : ByteArray).toList)) || ((decide ((0 : Int) < i.kind)) && (!(isinB i.asset)))) h400 (by kernel_rfl) (by kernel_rfl) (fun hc402 => ?_) (fun hc402 => ?_)
                ·
                  refine c_seq (by kernel_rfl) ?_
                  refine reg_plain [(0, false)] (by kernel_rfl) (by kernel_rfl) ?_
                  refine eE 0 2 (.assign (.const (.int .i64 6))) 3 (.int .i64 6) h400 fun q403 h404 => ?_
                  clear h400
                  refine wpO_end ?_
                  have h405 := h404.keep [(2, .int .i64 6), (4, .bool ((i.kind == (1 : Int)) || (i.kind == (2 : Int)))), (3, .bool (decide (i.kind < (3 : Int)))), (1, .pointer (some ⟨b3, 0, none⟩))] ⟨rfl, rfl, rfl, rfl, trivial⟩
                  clear h404
                  refine then_n ?_
                  refine c_ret (by kernel_rfl) ?_
                  refine then_r ?_
                  refine ret1 (t := 2) (v := .int .i64 6) h405 (by kernel_rfl) (by kernel_rfl) ?_
                  exact ⟨ret_eq (congrArg (Value.int .i64) (show refI i = 6 from (cF hc39).trans ((cF hc128).trans ((cF hc160).trans ((cF hc197).trans ((cF hc235).trans ((cF hc269).trans ((cF hc301).trans (cT hc402)))))))).symm), hB401.bel⟩
                ·
                  refine c_skip (by kernel_rfl) ?_
                  refine then_n ?_
                  refine c_seq (by kernel_rfl) ?_
                  refine c_seq (by kernel_rfl) ?_
                  refine reg_plain [(0, false), (1, false), (2, false), (3, false), (4, false), (5, false), (6, false), (7, false), (8, false), (9, false), (10, false), (11, false), (12, false), (13, false), (14, false), (15, false), (16, false), (17, false), (18, false), (19, false), (20, false), (21, false), (22, false)] (by kernel_rfl) (by kernel_rfl) ?_
                  refine eE 0 93 (.fieldAddr 24 (.tmp 1) 1) 0 (.pointer (some ⟨b3, 1, none⟩)) h400 fun q406 h407 => ?_
                  clear h400
                  refine eE 1 94 (.load 3 (.tmp 93)) 3 (.int .i64 i.kind) h407 (hr := r_loadC (b := b3) (v := .int .i64 i.kind) hB401 0 1 (by kernel_rfl) (by kernel_rfl) (by kernel_rfl)) fun q408 h409 => ?_
                  clear h407
                  refine eE 2 95 (.binOp .eql 3 (.tmp 94) (.const (.int .i64 0)) 3) 4 (.bool (i.kind == (0 : Int))) h409 fun q410 h411 => ?_
                  clear h409
                  refine eE 3 96 (.move (.tmp 95)) 4 (.bool (i.kind == (0 : Int))) h411 fun q412 h413 => ?_
                  clear h411
                  refine wpO_cut [(4, false), (5, false), (6, false), (7, false)] [(8, false), (9, false), (10, false), (11, false), (12, false), (13, false), (14, false), (15, false), (16, false), (17, false), (18, false), (19, false), (20, false), (21, false), (22, false)] (fun qa qw => Fr 291 [(100, .bool ((i.kind == (0 : Int)) && (i.qty != (0 : Int)))), (4, .bool ((i.kind == (1 : Int)) || (i.kind == (2 : Int)))), (3, .bool (decide (i.kind < (3 : Int)))), (2, .int .i64 0), (1, .pointer (some ⟨b3, 0, none⟩))] qa ∧ Bx w [(b3, .cells #[.string i.ref, .int .i64 i.kind, .string i.sender, .string i.cpty, .int .i64 i.side, .string i.asset, .int .i64 i.qty, .int .i64 i.amt, .int .i64 i.tday, .int .i64 i.sday, .int .i64 i.prio, .bool i.part, .int .i64 i.minlot, .bool i.hold, .bool i.resv, .slice A i.links.length c] 24 (0, 0))] qw) ?_ ?_
                  ·
                    rcases Bool.eq_false_or_eq_true (i.kind == (0 : Int)) with hc414 | hc414
                    ·
                      refine eG 4 97 (.fieldAddr 24 (.tmp 1) 6) 0 (3, true) (.pointer (some ⟨b3, 6, none⟩)) (g1 96 hc414) h413 fun q415 h416 => ?_
                      clear h413
                      refine eG 5 98 (.load 2 (.tmp 97)) 2 (3, true) (.int .i64 i.qty) (g1 96 hc414) h416 (hr := r_loadC (b := b3) (v := .int .i64 i.qty) hB401 0 6 (by kernel_rfl) (by kernel_rfl) (by kernel_rfl)) fun q417 h418 => ?_
                      clear h416
                      refine eG 6 99 (.binOp .neq 2 (.tmp 98) (.const (.int .i64 0)) 2) 4 (3, true) (.bool (i.qty != (0 : Int))) (g1 96 hc414) h418 fun q419 h420 => ?_
                      clear h418
                      refine eE 7 100 (.pick (.tmp 96) (.tmp 99) (.const (.bool false))) 4 (.bool ((i.kind == (0 : Int)) && (i.qty != (0 : Int)))) h420 (hr := r_and (c := (i.kind == (0 : Int))) (d := (i.qty != (0 : Int))) (by kernel_rfl) (fun _ => by kernel_rfl)) fun q421 h422 => ?_
                      clear h420
                      exact ⟨h422.keep _ ⟨rfl, rfl, rfl, rfl, rfl, trivial⟩, hB401⟩
                    ·
                      refine kE 4 97 (3, true) (g3 96 hc414) h413 trivial fun q423 h424 => ?_
                      clear h413
                      refine kE 5 98 (3, true) (g3 96 hc414) h424 trivial fun q425 h426 => ?_
                      clear h424
                      refine kE 6 99 (3, true) (g3 96 hc414) h426 trivial fun q427 h428 => ?_
                      clear h426
                      refine eE 7 100 (.pick (.tmp 96) (.tmp 99) (.const (.bool false))) 4 (.bool ((i.kind == (0 : Int)) && (i.qty != (0 : Int)))) h428 (hr := r_and (c := (i.kind == (0 : Int))) (d := (i.qty != (0 : Int))) (by kernel_rfl) (fun e431 => Bool.noConfusion (e431.symm.trans hc414))) fun q429 h430 => ?_
                      clear h428
                      exact ⟨h430.keep _ ⟨rfl, rfl, rfl, rfl, rfl, trivial⟩, hB401⟩
                  rintro q432 w433 ⟨h434, hB435⟩
                  refine eE 8 101 (.move (.tmp 100)) 4 (.bool ((i.kind == (0 : Int)) && (i.qty != (0 : Int)))) h434 fun q436 h437 => ?_
                  clear h434
                  refine wpO_cut [(9, false), (10, false), (11, false), (12, false), (13, false), (14, false), (15, false), (16, false), (17, false), (18, false), (19, false), (20, false), (21, false), (22, false)] [] (fun qa qw => Fr 291 [(115, .bool (((i.kind == (0 : Int)) && (i.qty != (0 : Int))) || ((decide ((0 : Int) < i.kind)) && ((decide (i.qty < (1 : Int))) || (decide ((1000000000000000 : Int) < i.qty)))))), (4, .bool ((i.kind == (1 : Int)) || (i.kind == (2 : Int)))), (3, .bool (decide (i.kind < (3 : Int)))), (2, .int .i64 0), (1, .pointer (some ⟨b3, 0, none⟩))] qa ∧ Bx w [(b3, .cells #[.string i.ref, .int .i64 i.kind, .string i.sender, .string i.cpty, .int .i64 i.side, .string i.asset, .int .i64 i.qty, .int .i64 i.amt, .int .i64 i.tday, .int .i64 i.sday, .int .i64 i.prio, .bool i.part, .int .i64 i.minlot, .bool i.hold, .bool i.resv, .slice A i.links.length c] 24 (0, 0))] qw) ?_ ?_
                  ·
                    rcases Bool.eq_false_or_eq_true ((i.kind == (0 : Int)) && (i.qty != (0 : Int))) with hc438 | hc438
                    ·
                      refine kE 9 102 (8, false) (g4 101 hc438) h437 trivial fun q439 h440 => ?_
                      clear h437
                      refine kE 10 103 (8, false) (g4 101 hc438) h440 trivial fun q441 h442 => ?_
                      clear h440
                      refine kE 11 104 (8, false) (g4 101 hc438) h442 trivial fun q443 h444 => ?_
                      clear h442
                      refine kE 12 105 (8, false) (g4 101 hc438) h444 trivial fun q445 h446 => ?_
                      clear h444
                      refine kE 13 106 (12, true) (g0 105) h446 trivial fun q447 h448 => ?_
                      clear h446
                      refine kE 14 107 (12, true) (g0 105) h448 trivial fun q449 h450 => ?_
                      clear h448
                      refine kE 15 108 (12, true) (g0 105) h450 trivial fun q451 h452 => ?_
                      clear h450
                      refine kE 16 109 (12, true) (g0 105) h452 trivial fun q453 h454 => ?_
                      clear h452
                      refine kE 17 110 (16, false) (g0 109) h454 trivial fun q455 h456 => ?_
                      clear h454
                      refine kE 18 111 (16, false) (g0 109) h456 trivial fun q457 h458 => ?_
                      clear h456
                      refine kE 19 112 (16, false) (g0 109) h458 trivial fun q459 h460 => ?_
                      clear h458
                      refine kE 20 113 (12, true) (g0 105) h460 trivial fun q461 h462 => ?_
                      clear h460
                      refine kE 21 114 (8, false) (g4 101 hc438) h462 trivial fun q463 h464 => ?_
                      clear h462
                      refine eE 22 115 (.pick (.tmp 101) (.const (.bool true)) (.tmp 114)) 4 (.bool (((i.kind == (0 : Int)) && (i.qty != (0 : Int))) || ((decide ((0 : Int) < i.kind)) && ((decide (i.qty < (1 : Int))) || (decide ((1000000000000000 : Int) < i.qty)))))) h464 (hr := r_or (c := (i.kind == (0 : Int)) && (i.qty != (0 : Int))) (d := ((decide ((0 : Int) < i.kind)) && ((decide (i.qty < (1 : Int))) || (decide ((1000000000000000 : Int) < i.qty))))) (by kernel_rfl) (fun e467 => Bool.noConfusion (e467.symm.trans hc438))) fun q465 h466 => ?_
                      clear h464
                      exact ⟨h466.keep _ ⟨rfl, rfl, rfl, rfl, rfl, trivial⟩, hB435⟩
                    ·
                      refine eG 9 102 (.fieldAddr 24 (.tmp 1) 1) 0 (8, false) (.pointer (some ⟨b3, 1, none⟩)) (g2 101 hc438) h437 fun q468 h469 => ?_
                      clear h437
                      refine eG 10 103 (.load 3 (.tmp 102)) 3 (8, false) (.int .i64 i.kind) (g2 101 hc438) h469 (hr := r_loadC (b := b3) (v := .int .i64 i.kind) hB435 0 1 (by kernel_rfl) (by kernel_rfl) (by kernel_rfl)) fun q470 h471 => ?_
                      clear h469
                      refine eG 11 104 (.binOp .gtr 3 (.tmp 103) (.const (.int .i64 0)) 3) 4 (8, false) (.bool (decide ((0 : Int) < i.kind))) (g2 101 hc438) h471 fun q472 h473 => ?_
                      clear h471
                      refine eG 12 105 (.move (.tmp 104)) 4 (8, false) (.bool (decide ((0 : Int) < i.kind))) (g2 101 hc438) h473 fun q474 h475 => ?_
                      clear h473
                      refine wpO_cut [(13, false), (14, false), (15, false), (16, false), (17, false), (18, false), (19, false), (20, false), (21, false)] [(22, false)] (fun qa qw => Fr 291 [(114, .bool ((decide ((0 : Int) < i.kind)) && ((decide (i.qty < (1 : Int))) || (decide ((1000000000000000 : Int) < i.qty))))), (101, .bool ((i.kind == (0 : Int)) && (i.qty != (0 : Int)))), (4, .bool ((i.kind == (1 : Int)) || (i.kind == (2 : Int)))), (3, .bool (decide (i.kind < (3 : Int)))), (2, .int .i64 0), (1, .pointer (some ⟨b3, 0, none⟩))] qa ∧ Bx w [(b3, .cells #[.string i.ref, .int .i64 i.kind, .string i.sender, .string i.cpty, .int .i64 i.side, .string i.asset, .int .i64 i.qty, .int .i64 i.amt, .int .i64 i.tday, .int .i64 i.sday, .int .i64 i.prio, .bool i.part, .int .i64 i.minlot, .bool i.hold, .bool i.resv, .slice A i.links.length c] 24 (0, 0))] qw) ?_ ?_
                      ·
                        rcases Bool.eq_false_or_eq_true (decide ((0 : Int) < i.kind)) with hc476 | hc476
                        ·
                          refine eG 13 106 (.fieldAddr 24 (.tmp 1) 6) 0 (12, true) (.pointer (some ⟨b3, 6, none⟩)) (g1 105 hc476) h475 fun q477 h478 => ?_
                          clear h475
                          refine eG 14 107 (.load 2 (.tmp 106)) 2 (12, true) (.int .i64 i.qty) (g1 105 hc476) h478 (hr := r_loadC (b := b3) (v := .int .i64 i.qty) hB435 0 6 (by kernel_rfl) (by kernel_rfl) (by kernel_rfl)) fun q479 h480 => ?_
                          clear h478
                          refine eG 15 108 (.binOp .lss 2 (.tmp 107) (.const (.int .i64 1)) 2) 4 (12, true) (.bool (decide (i.qty < (1 : Int)))) (g1 105 hc476) h480 fun q481 h482 => ?_
                          clear h480
                          refine eG 16 109 (.move (.tmp 108)) 4 (12, true) (.bool (decide (i.qty < (1 : Int)))) (g1 105 hc476) h482 fun q483 h484 => ?_
                          clear h482
                          refine wpO_cut [(17, false), (18, false), (19, false), (20, false)] [(21, false)] (fun qa qw => Fr 291 [(113, .bool ((decide (i.qty < (1 : Int))) || (decide ((1000000000000000 : Int) < i.qty)))), (105, .bool (decide ((0 : Int) < i.kind))), (101, .bool ((i.kind == (0 : Int)) && (i.qty != (0 : Int)))), (4, .bool ((i.kind == (1 : Int)) || (i.kind == (2 : Int)))), (3, .bool (decide (i.kind < (3 : Int)))), (2, .int .i64 0), (1, .pointer (some ⟨b3, 0, none⟩))] qa ∧ Bx w [(b3, .cells #[.string i.ref, .int .i64 i.kind, .string i.sender, .string i.cpty, .int .i64 i.side, .string i.asset, .int .i64 i.qty, .int .i64 i.amt, .int .i64 i.tday, .int .i64 i.sday, .int .i64 i.prio, .bool i.part, .int .i64 i.minlot, .bool i.hold, .bool i.resv, .slice A i.links.length c] 24 (0, 0))] qw) ?_ ?_
                          ·
                            rcases Bool.eq_false_or_eq_true (decide (i.qty < (1 : Int))) with hc485 | hc485
                            ·
                              refine kE 17 110 (16, false) (g4 109 hc485) h484 trivial fun q486 h487 => ?_
                              clear h484
                              refine kE 18 111 (16, false) (g4 109 hc485) h487 trivial fun q488 h489 => ?_
                              clear h487
                              refine kE 19 112 (16, false) (g4 109 hc485) h489 trivial fun q490 h491 => ?_
                              clear h489
                              refine eG 20 113 (.pick (.tmp 109) (.const (.bool true)) (.tmp 112)) 4 (12, true) (.bool ((decide (i.qty < (1 : Int))) || (decide ((1000000000000000 : Int) < i.qty)))) (g1 105 hc476) h491 (hr := r_or (c := decide (i.qty < (1 : Int))) (d := (decide ((1000000000000000 : Int) < i.qty))) (by kernel_rfl) (fun e494 => Bool.noConfusion (e494.symm.trans hc485))) fun q492 h493 => ?_
                              clear h491
                              exact ⟨h493.keep _ ⟨rfl, rfl, rfl, rfl, rfl, rfl, rfl, trivial⟩, hB435⟩
                            ·
                              refine eG 17 110 (.fieldAddr 24 (.tmp 1) 6) 0 (16, false) (.pointer (some ⟨b3, 6, none⟩)) (g2 109 hc485) h484 fun q495 h496 => ?_
                              clear h484
                              refine eG 18 111 (.load 2 (.tmp 110)) 2 (16, false) (.int .i64 i.qty) (g2 109 hc485) h496 (hr := r_loadC (b := b3) (v := .int .i64 i.qty) hB435 0 6 (by kernel_rfl) (by kernel_rfl) (by kernel_rfl)) fun q497 h498 => ?_
                              clear h496
                              refine eG 19 112 (.binOp .gtr 2 (.tmp 111) (.const (.int .i64 1000000000000000)) 2) 4 (16, false) (.bool (decide ((1000000000000000 : Int) < i.qty))) (g2 109 hc485) h498 fun q499 h500 => ?_
                              clear h498
                              refine eG 20 113 (.pick (.tmp 109) (.const (.bool true)) (.tmp 112)) 4 (12, true) (.bool ((decide (i.qty < (1 : Int))) || (decide ((1000000000000000 : Int) < i.qty)))) (g1 105 hc476) h500 (hr := r_or (c := decide (i.qty < (1 : Int))) (d := (decide ((1000000000000000 : Int) < i.qty))) (by kernel_rfl) (fun _ => by kernel_rfl)) fun q501 h502 => ?_
                              clear h500
                              exact ⟨h502.keep _ ⟨rfl, rfl, rfl, rfl, rfl, rfl, rfl, trivial⟩, hB435⟩
                          rintro q503 w504 ⟨h505, hB506⟩
                          refine eG 21 114 (.pick (.tmp 105) (.tmp 113) (.const (.bool false))) 4 (8, false) (.bool ((decide ((0 : Int) < i.kind)) && ((decide (i.qty < (1 : Int))) || (decide ((1000000000000000 : Int) < i.qty))))) (g2 101 hc438) h505 (hr := r_and (c := decide ((0 : Int) < i.kind)) (d := ((decide (i.qty < (1 : Int))) || (decide ((1000000000000000 : Int) < i.qty)))) (by kernel_rfl) (fun _ => by kernel_rfl)) fun q507 h508 => ?_
                          clear h505
                          exact ⟨h508.keep _ ⟨rfl, rfl, rfl, rfl, rfl, rfl, trivial⟩, hB506⟩
                        ·
                          refine kE 13 106 (12, true) (g3 105 hc476) h475 trivial fun q509 h510 => ?_
                          clear h475
                          refine kE 14 107 (12, true) (g3 105 hc476) h510 trivial fun q511 h512 => ?_
                          clear h510
                          refine kE 15 108 (12, true) (g3 105 hc476) h512 trivial fun q513 h514 => ?_
                          clear h512
                          refine kE 16 109 (12, true) (g3 105 hc476) h514 trivial fun q515 h516 => ?_
                          clear h514
                          refine kE 17 110 (16, false) (g0 109) h516 trivial fun q517 h518 => ?_
                          clear h516
                          refine kE 18 111 (16, false) (g0 109) h518 trivial fun q519 h520 => ?_
                          clear h518
                          refine kE 19 112 (16, false) (g0 109) h520 trivial fun q521 h522 => ?_
                          clear h520
                          refine kE 20 113 (12, true) (g3 105 hc476) h522 trivial fun q523 h524 => ?_
                          clear h522
                          refine eG 21 114 (.pick (.tmp 105) (.tmp 113) (.const (.bool false))) 4 (8, false) (.bool ((decide ((0 : Int) < i.kind)) && ((decide (i.qty < (1 : Int))) || (decide ((1000000000000000 : Int) < i.qty))))) (g2 101 hc438) h524 (hr := r_and (c := decide ((0 : Int) < i.kind)) (d := ((decide (i.qty < (1 : Int))) || (decide ((1000000000000000 : Int) < i.qty)))) (by kernel_rfl) (fun e527 => Bool.noConfusion (e527.symm.trans hc476))) fun q525 h526 => ?_
                          clear h524
                          exact ⟨h526.keep _ ⟨rfl, rfl, rfl, rfl, rfl, rfl, trivial⟩, hB435⟩
                      rintro q528 w529 ⟨h530, hB531⟩
                      refine eE 22 115 (.pick (.tmp 101) (.const (.bool true)) (.tmp 114)) 4 (.bool (((i.kind == (0 : Int)) && (i.qty != (0 : Int))) || ((decide ((0 : Int) < i.kind)) && ((decide (i.qty < (1 : Int))) || (decide ((1000000000000000 : Int) < i.qty)))))) h530 (hr := r_or (c := (i.kind == (0 : Int)) && (i.qty != (0 : Int))) (d := ((decide ((0 : Int) < i.kind)) && ((decide (i.qty < (1 : Int))) || (decide ((1000000000000000 : Int) < i.qty))))) (by kernel_rfl) (fun _ => by kernel_rfl)) fun q532 h533 => ?_
                      clear h530
                      exact ⟨h533.keep _ ⟨rfl, rfl, rfl, rfl, rfl, trivial⟩, hB531⟩
                  rintro q534 w535 ⟨h536, hB537⟩
                  refine wpO_end ?_
                  refine then_n ?_
                  refine c_cond (t := 115) (b := ((i.kind == (0 : Int)) && (i.qty != (0 : Int))) || ((decide ((0 : Int) < i.kind)) && ((decide (i.qty < (1 : Int))) || (decide ((1000000000000000 : Int) < i.qty))))) h536 (by kernel_rfl) (by kernel_rfl) (fun hc538 => ?_) (fun hc538 => ?_)
                  ·
                    refine c_seq (by kernel_rfl) ?_
                    refine reg_plain [(0, false)] (by kernel_rfl) (by kernel_rfl) ?_
                    refine eE 0 2 (.assign (.const (.int .i64 2))) 3 (.int .i64 2) h536 fun q539 h540 => ?_
                    clear h536
                    refine wpO_end ?_
                    have h541 := h540.keep [(2, .int .i64 2), (4, .bool ((i.kind == (1 : Int)) || (i.kind == (2 : Int)))), (3, .bool (decide (i.kind < (3 : Int)))), (1, .pointer (some ⟨b3, 0, none⟩))] ⟨rfl, rfl, rfl, rfl, trivial⟩
                    clear h540
                    refine then_n ?_
                    refine c_ret (by kernel_rfl) ?_
                    refine then_r ?_
                    refine ret1 (t := 2) (v := .int .i64 2) h541 (by kernel_rfl) (by kernel_rfl) ?_
                    exact ⟨ret_eq (congrArg (Value.int .i64) (show refI i = 2 from (cF hc39).trans ((cF hc128).trans ((cF hc160).trans ((cF hc197).trans ((cF hc235).trans ((cF hc269).trans ((cF hc301).trans ((cF hc402).trans (cT hc538))))))))).symm), hB537.bel⟩
                  ·
                    refine c_skip (by kernel_rfl) ?_
                    refine then_n ?_
                    refine c_seq (by kernel_rfl) ?_
                    refine c_seq (by kernel_rfl) ?_
                    refine reg_plain [(0, false), (1, false), (2, false), (3, false), (4, false), (5, false), (6, false), (7, false), (8, false), (9, false), (10, false), (11, false), (12, false), (13, false), (14, false), (15, false), (16, false), (17, false), (18, false), (19, false), (20, false), (21, false), (22, false)] (by kernel_rfl) (by kernel_rfl) ?_
                    refine eE 0 116 (.fieldAddr 24 (.tmp 1) 1) 0 (.pointer (some ⟨b3, 1, none⟩)) h536 fun q542 h543 => ?_
                    clear h536
                    refine eE 1 117 (.load 3 (.tmp 116)) 3 (.int .i64 i.kind) h543 (hr := r_loadC (b := b3) (v := .int .i64 i.kind) hB537 0 1 (by kernel_rfl) (by kernel_rfl) (by kernel_rfl)) fun q544 h545 => ?_
                    clear h543
                    refine eE 2 118 (.binOp .lss 3 (.tmp 117) (.const (.int .i64 2)) 3) 4 (.bool (decide (i.kind < (2 : Int)))) h545 fun q546 h547 => ?_
                    clear h545
                    refine eE 3 119 (.move (.tmp 118)) 4 (.bool (decide (i.kind < (2 : Int)))) h547 fun q548 h549 => ?_
                    clear h547
                    refine wpO_cut [(4, false), (5, false), (6, false), (7, false), (8, false), (9, false), (10, false), (11, false), (12, false)] [(13, false), (14, false), (15, false), (16, false), (17, false), (18, false), (19, false), (20, false), (21, false), (22, false)] (fun qa qw => Fr 291 [(128, .bool ((decide (i.kind < (2 : Int))) && ((decide (i.amt < (1 : Int))) || (decide ((1000000000000000 : Int) < i.amt))))), (4, .bool ((i.kind == (1 : Int)) || (i.kind == (2 : Int)))), (3, .bool (decide (i.kind < (3 : Int)))), (2, .int .i64 0), (1, .pointer (some ⟨b3, 0, none⟩))] qa ∧ Bx w [(b3, .cells #[.string i.ref, .int .i64 i.kind, .string i.sender, .string i.cpty, .int .i64 i.side, .string i.asset, .int .i64 i.qty, .int .i64 i.amt, .int .i64 i.tday, .int .i64 i.sday, .int .i64 i.prio, .bool i.part, .int .i64 i.minlot, .bool i.hold, .bool i.resv, .slice A i.links.length c] 24 (0, 0))] qw) ?_ ?_
                    ·
                      rcases Bool.eq_false_or_eq_true (decide (i.kind < (2 : Int))) with hc550 | hc550
                      ·
                        refine eG 4 120 (.fieldAddr 24 (.tmp 1) 7) 0 (3, true) (.pointer (some ⟨b3, 7, none⟩)) (g1 119 hc550) h549 fun q551 h552 => ?_
                        clear h549
                        refine eG 5 121 (.load 2 (.tmp 120)) 2 (3, true) (.int .i64 i.amt) (g1 119 hc550) h552 (hr := r_loadC (b := b3) (v := .int .i64 i.amt) hB537 0 7 (by kernel_rfl) (by kernel_rfl) (by kernel_rfl)) fun q553 h554 => ?_
                        clear h552
                        refine eG 6 122 (.binOp .lss 2 (.tmp 121) (.const (.int .i64 1)) 2) 4 (3, true) (.bool (decide (i.amt < (1 : Int)))) (g1 119 hc550) h554 fun q555 h556 => ?_
                        clear h554
                        refine eG 7 123 (.move (.tmp 122)) 4 (3, true) (.bool (decide (i.amt < (1 : Int)))) (g1 119 hc550) h556 fun q557 h558 => ?_
                        clear h556
                        refine wpO_cut [(8, false), (9, false), (10, false), (11, false)] [(12, false)] (fun qa qw => Fr 291 [(127, .bool ((decide (i.amt < (1 : Int))) || (decide ((1000000000000000 : Int) < i.amt)))), (119, .bool (decide (i.kind < (2 : Int)))), (4, .bool ((i.kind == (1 : Int)) || (i.kind == (2 : Int)))), (3, .bool (decide (i.kind < (3 : Int)))), (2, .int .i64 0), (1, .pointer (some ⟨b3, 0, none⟩))] qa ∧ Bx w [(b3, .cells #[.string i.ref, .int .i64 i.kind, .string i.sender, .string i.cpty, .int .i64 i.side, .string i.asset, .int .i64 i.qty, .int .i64 i.amt, .int .i64 i.tday, .int .i64 i.sday, .int .i64 i.prio, .bool i.part, .int .i64 i.minlot, .bool i.hold, .bool i.resv, .slice A i.links.length c] 24 (0, 0))] qw) ?_ ?_
                        ·
                          rcases Bool.eq_false_or_eq_true (decide (i.amt < (1 : Int))) with hc559 | hc559
                          ·
                            refine kE 8 124 (7, false) (g4 123 hc559) h558 trivial fun q560 h561 => ?_
                            clear h558
                            refine kE 9 125 (7, false) (g4 123 hc559) h561 trivial fun q562 h563 => ?_
                            clear h561
                            refine kE 10 126 (7, false) (g4 123 hc559) h563 trivial fun q564 h565 => ?_
                            clear h563
                            refine eG 11 127 (.pick (.tmp 123) (.const (.bool true)) (.tmp 126)) 4 (3, true) (.bool ((decide (i.amt < (1 : Int))) || (decide ((1000000000000000 : Int) < i.amt)))) (g1 119 hc550) h565 (hr := r_or (c := decide (i.amt < (1 : Int))) (d := (decide ((1000000000000000 : Int) < i.amt))) (by kernel_rfl) (fun e568 => Bool.noConfusion (e568.symm.trans hc559))) fun q566 h567 => ?_
                            clear h565
                            exact ⟨h567.keep _ ⟨rfl, rfl, rfl, rfl, rfl, rfl, trivial⟩, hB537⟩
                          ·
                            refine eG 8 124 (.fieldAddr 24 (.tmp 1) 7) 0 (7, false) (.pointer (some ⟨b3, 7, none⟩)) (g2 123 hc559) h558 fun q569 h570 => ?_
                            clear h558
                            refine eG 9 125 (.load 2 (.tmp 124)) 2 (7, false) (.int .i64 i.amt) (g2 123 hc559) h570 (hr := r_loadC (b := b3) (v := .int .i64 i.amt) hB537 0 7 (by kernel_rfl) (by kernel_rfl) (by kernel_rfl)) fun q571 h572 => ?_
                            clear h570
                            refine eG 10 126 (.binOp .gtr 2 (.tmp 125) (.const (.int .i64 1000000000000000)) 2) 4 (7, false) (.bool (decide ((1000000000000000 : Int) < i.amt))) (g2 123 hc559) h572 fun q573 h574 => ?_
                            clear h572
                            refine eG 11 127 (.pick (.tmp 123) (.const (.bool true)) (.tmp 126)) 4 (3, true) (.bool ((decide (i.amt < (1 : Int))) || (decide ((1000000000000000 : Int) < i.amt)))) (g1 119 hc550) h574 (hr := r_or (c := decide (i.amt < (1 : Int))) (d := (decide ((1000000000000000 : Int) < i.amt))) (by kernel_rfl) (fun _ => by kernel_rfl)) fun q575 h576 => ?_
                            clear h574
                            exact ⟨h576.keep _ ⟨rfl, rfl, rfl, rfl, rfl, rfl, trivial⟩, hB537⟩
                        rintro q577 w578 ⟨h579, hB580⟩
                        refine eE 12 128 (.pick (.tmp 119) (.tmp 127) (.const (.bool false))) 4 (.bool ((decide (i.kind < (2 : Int))) && ((decide (i.amt < (1 : Int))) || (decide ((1000000000000000 : Int) < i.amt))))) h579 (hr := r_and (c := decide (i.kind < (2 : Int))) (d := ((decide (i.amt < (1 : Int))) || (decide ((1000000000000000 : Int) < i.amt)))) (by kernel_rfl) (fun _ => by kernel_rfl)) fun q581 h582 => ?_
                        clear h579
                        exact ⟨h582.keep _ ⟨rfl, rfl, rfl, rfl, rfl, trivial⟩, hB580⟩
                      ·
                        refine kE 4 120 (3, true) (g3 119 hc550) h549 trivial fun q583 h584 => ?_
                        clear h549
                        refine kE 5 121 (3, true) (g3 119 hc550) h584 trivial fun q585 h586 => ?_
                        clear h584
                        refine kE 6 122 (3, true) (g3 119 hc550) h586 trivial fun q587 h588 => ?_
                        clear h586
                        refine kE 7 123 (3, true) (g3 119 hc550) h588 trivial fun q589 h590 => ?_
                        clear h588
                        refine kE 8 124 (7, false) (g0 123) h590 trivial fun q591 h592 => ?_
                        clear h590
                        refine kE 9 125 (7, false) (g0 123) h592 trivial fun q593 h594 => ?_
                        clear h592
                        refine kE 10 126 (7, false) (g0 123) h594 trivial fun q595 h596 => ?_
                        clear h594
                        refine kE 11 127 (3, true) (g3 119 hc550) h596 trivial fun q597 h598 => ?_
                        clear h596
                        refine eE 12 128 (.pick (.tmp 119) (.tmp 127) (.const (.bool false))) 4 (.bool ((decide (i.kind < (2 : Int))) && ((decide (i.amt < (1 : Int))) || (decide ((1000000000000000 : Int) < i.amt))))) h598 (hr := r_and (c := decide (i.kind < (2 : Int))) (d := ((decide (i.amt < (1 : Int))) || (decide ((1000000000000000 : Int) < i.amt)))) (by kernel_rfl) (fun e601 => Bool.noConfusion (e601.symm.trans hc550))) fun q599 h600 => ?_
                        clear h598
                        exact ⟨h600.keep _ ⟨rfl, rfl, rfl, rfl, rfl, trivial⟩, hB537⟩
                    rintro q602 w603 ⟨h604, hB605⟩
                    refine eE 13 129 (.move (.tmp 128)) 4 (.bool ((decide (i.kind < (2 : Int))) && ((decide (i.amt < (1 : Int))) || (decide ((1000000000000000 : Int) < i.amt))))) h604 fun q606 h607 => ?_
                    clear h604
                    refine wpO_cut [(14, false), (15, false), (16, false), (17, false), (18, false), (19, false), (20, false), (21, false), (22, false)] [] (fun qa qw => Fr 291 [(138, .bool (((decide (i.kind < (2 : Int))) && ((decide (i.amt < (1 : Int))) || (decide ((1000000000000000 : Int) < i.amt)))) || ((decide ((2 : Int) ≤ i.kind)) && (i.amt != (0 : Int))))), (4, .bool ((i.kind == (1 : Int)) || (i.kind == (2 : Int)))), (3, .bool (decide (i.kind < (3 : Int)))), (2, .int .i64 0), (1, .pointer (some ⟨b3, 0, none⟩))] qa ∧ Bx w [(b3, .cells #[.string i.ref, .int .i64 i.kind, .string i.sender, .string i.cpty, .int .i64 i.side, .string i.asset, .int .i64 i.qty, .int .i64 i.amt, .int .i64 i.tday, .int .i64 i.sday, .int .i64 i.prio, .bool i.part, .int .i64 i.minlot, .bool i.hold, .bool i.resv, .slice A i.links.length c] 24 (0, 0))] qw) ?_ ?_
                    ·
                      rcases Bool.eq_false_or_eq_true ((decide (i.kind < (2 : Int))) && ((decide (i.amt < (1 : Int))) || (decide ((1000000000000000 : Int) < i.amt)))) with hc608 | hc608
                      ·
                        refine kE 14 130 (13, false) (g4 129 hc608) h607 trivial fun q609 h610 => ?_
                        clear h607
                        refine kE 15 131 (13, false) (g4 129 hc608) h610 trivial fun q611 h612 => ?_
                        clear h610
                        refine kE 16 132 (13, false) (g4 129 hc608) h612 trivial fun q613 h614 => ?_
                        clear h612
                        refine kE 17 133 (13, false) (g4 129 hc608) h614 trivial fun q615 h616 => ?_
                        clear h614
                        refine kE 18 134 (17, true) (g0 133) h616 trivial fun q617 h618 => ?_
                        clear h616
                        refine kE 19 135 (17, true) (g0 133) h618 trivial fun q619 h620 => ?_
                        clear h618
                        refine kE 20 136 (17, true) (g0 133) h620 trivial fun q621 h622 => ?_
                        clear h620
                        refine kE 21 137 (13, false) (g4 129 hc608) h622 trivial fun q623 h624 => ?_
                        clear h622
                        refine eE 22 138 (.pick (.tmp 129) (.const (.bool true)) (.tmp 137)) 4 (.bool (((decide (i.kind < (2 : Int))) && ((decide (i.amt < (1 : Int))) || (decide ((1000000000000000 : Int) < i.amt)))) || ((decide ((2 : Int) ≤ i.kind)) && (i.amt != (0 : Int))))) h624 (hr := r_or (c := (decide (i.kind < (2 : Int))) && ((decide (i.amt < (1 : Int))) || (decide ((1000000000000000 : Int) < i.amt)))) (d := ((decide ((2 : Int) ≤ i.kind)) && (i.amt != (0 : Int)))) (by kernel_rfl) (fun e627 => Bool.noConfusion (e627.symm.trans hc608))) fun q625 h626 => ?_
                        clear h624
                        exact ⟨h626.keep _ ⟨rfl, rfl, rfl, rfl, rfl, trivial⟩, hB605⟩
                      ·
                        refine eG 14 130 (.fieldAddr 24 (.tmp 1) 1) 0 (13, false) (.pointer (some ⟨b3, 1, none⟩)) (g2 129 hc608) h607 fun q628 h629 => ?_
                        clear h607
                        refine eG 15 131 (.load 3 (.tmp 130)) 3 (13, false) (.int .i64 i.kind) (g2 129 hc608) h629 (hr := r_loadC (b := b3) (v := .int .i64 i.kind) hB605 0 1 (by kernel_rfl) (by kernel_rfl) (by kernel_rfl)) fun q630 h631 => ?_
                        clear h629
                        refine eG 16 132 (.binOp .geq 3 (.tmp 131) (.const (.int .i64 2)) 3) 4 (13, false) (.bool (decide ((2 : Int) ≤ i.kind))) (g2 129 hc608) h631 fun q632 h633 => ?_
                        clear h631
                        refine eG 17 133 (.move (.tmp 132)) 4 (13, false) (.bool (decide ((2 : Int) ≤ i.kind))) (g2 129 hc608) h633 fun q634 h635 => ?_
                        clear h633
                        refine wpO_cut [(18, false), (19, false), (20, false), (21, false)] [(22, false)] (fun qa qw => Fr 291 [(137, .bool ((decide ((2 : Int) ≤ i.kind)) && (i.amt != (0 : Int)))), (129, .bool ((decide (i.kind < (2 : Int))) && ((decide (i.amt < (1 : Int))) || (decide ((1000000000000000 : Int) < i.amt))))), (4, .bool ((i.kind == (1 : Int)) || (i.kind == (2 : Int)))), (3, .bool (decide (i.kind < (3 : Int)))), (2, .int .i64 0), (1, .pointer (some ⟨b3, 0, none⟩))] qa ∧ Bx w [(b3, .cells #[.string i.ref, .int .i64 i.kind, .string i.sender, .string i.cpty, .int .i64 i.side, .string i.asset, .int .i64 i.qty, .int .i64 i.amt, .int .i64 i.tday, .int .i64 i.sday, .int .i64 i.prio, .bool i.part, .int .i64 i.minlot, .bool i.hold, .bool i.resv, .slice A i.links.length c] 24 (0, 0))] qw) ?_ ?_
                        ·
                          rcases Bool.eq_false_or_eq_true (decide ((2 : Int) ≤ i.kind)) with hc636 | hc636
                          ·
                            refine eG 18 134 (.fieldAddr 24 (.tmp 1) 7) 0 (17, true) (.pointer (some ⟨b3, 7, none⟩)) (g1 133 hc636) h635 fun q637 h638 => ?_
                            clear h635
                            refine eG 19 135 (.load 2 (.tmp 134)) 2 (17, true) (.int .i64 i.amt) (g1 133 hc636) h638 (hr := r_loadC (b := b3) (v := .int .i64 i.amt) hB605 0 7 (by kernel_rfl) (by kernel_rfl) (by kernel_rfl)) fun q639 h640 => ?_
                            clear h638
                            refine eG 20 136 (.binOp .neq 2 (.tmp 135) (.const (.int .i64 0)) 2) 4 (17, true) (.bool (i.amt != (0 : Int))) (g1 133 hc636) h640 fun q641 h642 => ?_
                            clear h640
                            refine eG 21 137 (.pick (.tmp 133) (.tmp 136) (.const (.bool false))) 4 (13, false) (.bool ((decide ((2 : Int) ≤ i.kind)) && (i.amt != (0 : Int)))) (g2 129 hc608) h642 (hr := r_and (c := decide ((2 : Int) ≤ i.kind)) (d := (i.amt != (0 : Int))) (by kernel_rfl) (fun _ => by kernel_rfl)) fun q643 h644 => ?_
                            clear h642
                            exact ⟨h644.keep _ ⟨rfl, rfl, rfl, rfl, rfl, rfl, trivial⟩, hB605⟩
                          ·
                            refine kE 18 134 (17, true) (g3 133 hc636) h635 trivial fun q645 h646 => ?_
                            clear h635
                            refine kE 19 135 (17, true) (g3 133 hc636) h646 trivial fun q647 h648 => ?_
                            clear h646
                            refine kE 20 136 (17, true) (g3 133 hc636) h648 trivial fun q649 h650 => ?_
                            clear h648
                            refine eG 21 137 (.pick (.tmp 133) (.tmp 136) (.const (.bool false))) 4 (13, false) (.bool ((decide ((2 : Int) ≤ i.kind)) && (i.amt != (0 : Int)))) (g2 129 hc608) h650 (hr := r_and (c := decide ((2 : Int) ≤ i.kind)) (d := (i.amt != (0 : Int))) (by kernel_rfl) (fun e653 => Bool.noConfusion (e653.symm.trans hc636))) fun q651 h652 => ?_
                            clear h650
                            exact ⟨h652.keep _ ⟨rfl, rfl, rfl, rfl, rfl, rfl, trivial⟩, hB605⟩
                        rintro q654 w655 ⟨h656, hB657⟩
                        refine eE 22 138 (.pick (.tmp 129) (.const (.bool true)) (.tmp 137)) 4 (.bool (((decide (i.kind < (2 : Int))) && ((decide (i.amt < (1 : Int))) || (decide ((1000000000000000 : Int) < i.amt)))) || ((decide ((2 : Int) ≤ i.kind)) && (i.amt != (0 : Int))))) h656 (hr := r_or (c := (decide (i.kind < (2 : Int))) && ((decide (i.amt < (1 : Int))) || (decide ((1000000000000000 : Int) < i.amt)))) (d := ((decide ((2 : Int) ≤ i.kind)) && (i.amt != (0 : Int)))) (by kernel_rfl) (fun _ => by kernel_rfl)) fun q658 h659 => ?_
                        clear h656
                        exact ⟨h659.keep _ ⟨rfl, rfl, rfl, rfl, rfl, trivial⟩, hB657⟩
                    rintro q660 w661 ⟨h662, hB663⟩
                    refine wpO_end ?_
                    refine then_n ?_
                    refine c_cond (t := 138) (b := ((decide (i.kind < (2 : Int))) && ((decide (i.amt < (1 : Int))) || (decide ((1000000000000000 : Int) < i.amt)))) || ((decide ((2 : Int) ≤ i.kind)) && (i.amt != (0 : Int)))) h662 (by kernel_rfl) (by kernel_rfl) (fun hc664 => ?_) (fun hc664 => ?_)
                    ·
                      refine c_seq (by kernel_rfl) ?_
                      refine reg_plain [(0, false)] (by kernel_rfl) (by kernel_rfl) ?_
                      refine eE 0 2 (.assign (.const (.int .i64 2))) 3 (.int .i64 2) h662 fun q665 h666 => ?_
                      clear h662
                      refine wpO_end ?_
                      have h667 := h666.keep [(2, .int .i64 2), (4, .bool ((i.kind == (1 : Int)) || (i.kind == (2 : Int)))), (3, .bool (decide (i.kind < (3 : Int)))), (1, .pointer (some ⟨b3, 0, none⟩))] ⟨rfl, rfl, rfl, rfl, trivial⟩
                      clear h666
                      refine then_n ?_
                      refine c_ret (by kernel_rfl) ?_
                      refine then_r ?_
                      refine ret1 (t := 2) (v := .int .i64 2) h667 (by kernel_rfl) (by kernel_rfl) ?_
                      exact ⟨ret_eq (congrArg (Value.int .i64) (show refI i = 2 from (cF hc39).trans ((cF hc128).trans ((cF hc160).trans ((cF hc197).trans ((cF hc235).trans ((cF hc269).trans ((cF hc301).trans ((cF hc402).trans ((cF hc538).trans (cT hc664)))))))))).symm), hB663.bel⟩
                    ·
                      refine c_skip (by kernel_rfl) ?_
                      refine then_n ?_
                      refine c_seq (by kernel_rfl) ?_
                      refine c_seq (by kernel_rfl) ?_
                      refine reg_plain [(0, false), (1, false), (2, false), (3, false), (4, false), (5, false), (6, false), (7, false), (8, false), (9, false), (10, false), (11, false), (12, false), (13, false), (14, false), (15, false), (16, false), (17, false), (18, false), (19, false), (20, false), (21, false), (22, false), (23, false), (24, false), (25, false), (26, false), (27, false)] (by kernel_rfl) (by kernel_rfl) ?_
                      refine eE 0 139 (.fieldAddr 24 (.tmp 1) 9) 0 (.pointer (some ⟨b3, 9, none⟩)) h662 fun q668 h669 => ?_
                      clear h662
                      refine eE 1 140 (.load 3 (.tmp 139)) 3 (.int .i64 i.sday) h669 (hr := r_loadC (b := b3) (v := .int .i64 i.sday) hB663 0 9 (by kernel_rfl) (by kernel_rfl) (by kernel_rfl)) fun q670 h671 => ?_
                      clear h669
                      refine stC (i := 2) (d := 141) (op := Op.call { callee := Callee.value (Operand.func 51), args := #[Operand.tmp 140], argTypes := #[3] }) (ty := 4) (g := none) (f := 51) (args := #[.int .i64 i.sday]) (w1 := w661) h671 (by kernel_rfl) (by kernel_rfl) (by kernel_rfl) gok_none (by kernel_rfl) (c51 i.sday w661) ?_
                      rintro _ w674 ⟨rfl, hb675⟩
                      have hB676 := hB663.call hb675
                      refine ⟨_, rfl, trivial, fun q672 h673 => ?_⟩
                      clear h671 hB663 hb675
                      refine eE 3 142 (.unOp .not 4 (.tmp 141)) 4 (.bool (!(dayB i.sday))) h673 fun q677 h678 => ?_
                      clear h673
                      refine eE 4 143 (.move (.tmp 142)) 4 (.bool (!(dayB i.sday))) h678 fun q679 h680 => ?_
                      clear h678
                      refine wpO_cut [(5, false), (6, false), (7, false), (8, false), (9, false), (10, false), (11, false), (12, false), (13, false), (14, false), (15, false), (16, false), (17, false), (18, false)] [(19, false), (20, false), (21, false), (22, false), (23, false), (24, false), (25, false), (26, false), (27, false)] (fun qa qw => Fr 291 [(157, .bool ((!(dayB i.sday)) || (((i.kind == (1 : Int)) || (i.kind == (2 : Int))) && ((decide (i.tday < (0 : Int))) || (decide (i.sday < i.tday)))))), (4, .bool ((i.kind == (1 : Int)) || (i.kind == (2 : Int)))), (3, .bool (decide (i.kind < (3 : Int)))), (2, .int .i64 0), (1, .pointer (some ⟨b3, 0, none⟩))] qa ∧ Bx w [(b3, .cells #[.string i.ref, .int .i64 i.kind, .string i.sender, .string i.cpty, .int .i64 i.side, .string i.asset, .int .i64 i.qty, .int .i64 i.amt, .int .i64 i.tday, .int .i64 i.sday, .int .i64 i.prio, .bool i.part, .int .i64 i.minlot, .bool i.hold, .bool i.resv, .slice A i.links.length c] 24 (0, 0))] qw) ?_ ?_
                      ·
                        rcases Bool.eq_false_or_eq_true (!(dayB i.sday)) with hc681 | hc681
                        ·
                          refine kE 5 144 (4, false) (g4 143 hc681) h680 trivial fun q682 h683 => ?_
                          clear h680
                          refine kE 6 145 (4, false) (g4 143 hc681) h683 trivial fun q684 h685 => ?_
                          clear h683
                          refine kE 7 146 (6, true) (g0 145) h685 trivial fun q686 h687 => ?_
                          clear h685
                          refine kE 8 147 (6, true) (g0 145) h687 trivial fun q688 h689 => ?_
                          clear h687
                          refine kE 9 148 (6, true) (g0 145) h689 trivial fun q690 h691 => ?_
                          clear h689
                          refine kE 10 149 (6, true) (g0 145) h691 trivial fun q692 h693 => ?_
                          clear h691
                          refine kE 11 150 (10, false) (g0 149) h693 trivial fun q694 h695 => ?_
                          clear h693
                          refine kE 12 151 (10, false) (g0 149) h695 trivial fun q696 h697 => ?_
                          clear h695
                          refine kE 13 152 (10, false) (g0 149) h697 trivial fun q698 h699 => ?_
                          clear h697
                          refine kE 14 153 (10, false) (g0 149) h699 trivial fun q700 h701 => ?_
                          clear h699
                          refine kE 15 154 (10, false) (g0 149) h701 trivial fun q702 h703 => ?_
                          clear h701
                          refine kE 16 155 (6, true) (g0 145) h703 trivial fun q704 h705 => ?_
                          clear h703
                          refine kE 17 156 (4, false) (g4 143 hc681) h705 trivial fun q706 h707 => ?_
                          clear h705
                          refine eE 18 157 (.pick (.tmp 143) (.const (.bool true)) (.tmp 156)) 4 (.bool ((!(dayB i.sday)) || (((i.kind == (1 : Int)) || (i.kind == (2 : Int))) && ((decide (i.tday < (0 : Int))) || (decide (i.sday < i.tday)))))) h707 (hr := r_or (c := !(dayB i.sday)) (d := (((i.kind == (1 : Int)) || (i.kind == (2 : Int))) && ((decide (i.tday < (0 : Int))) || (decide (i.sday < i.tday))))) (by kernel_rfl) (fun e710 => Bool.noConfusion (e710.symm.trans hc681))) fun q708 h709 => ?_
                          clear h707
                          exact ⟨h709.keep _ ⟨rfl, rfl, rfl, rfl, rfl, trivial⟩, hB676⟩
                        ·
                          refine eG 5 144 (.move (.tmp 4)) 4 (4, false) (.bool ((i.kind == (1 : Int)) || (i.kind == (2 : Int)))) (g2 143 hc681) h680 fun q711 h712 => ?_
                          clear h680
                          refine eG 6 145 (.move (.tmp 144)) 4 (4, false) (.bool ((i.kind == (1 : Int)) || (i.kind == (2 : Int)))) (g2 143 hc681) h712 fun q713 h714 => ?_
                          clear h712
                          refine wpO_cut [(7, false), (8, false), (9, false), (10, false), (11, false), (12, false), (13, false), (14, false), (15, false), (16, false), (17, false)] [(18, false)] (fun qa qw => Fr 291 [(156, .bool (((i.kind == (1 : Int)) || (i.kind == (2 : Int))) && ((decide (i.tday < (0 : Int))) || (decide (i.sday < i.tday))))), (143, .bool (!(dayB i.sday))), (4, .bool ((i.kind == (1 : Int)) || (i.kind == (2 : Int)))), (3, .bool (decide (i.kind < (3 : Int)))), (2, .int .i64 0), (1, .pointer (some ⟨b3, 0, none⟩))] qa ∧ Bx w [(b3, .cells #[.string i.ref, .int .i64 i.kind, .string i.sender, .string i.cpty, .int .i64 i.side, .string i.asset, .int .i64 i.qty, .int .i64 i.amt, .int .i64 i.tday, .int .i64 i.sday, .int .i64 i.prio, .bool i.part, .int .i64 i.minlot, .bool i.hold, .bool i.resv, .slice A i.links.length c] 24 (0, 0))] qw) ?_ ?_
                          ·
                            rcases Bool.eq_false_or_eq_true ((i.kind == (1 : Int)) || (i.kind == (2 : Int))) with hc715 | hc715
                            ·
                              refine eG 7 146 (.fieldAddr 24 (.tmp 1) 8) 0 (6, true) (.pointer (some ⟨b3, 8, none⟩)) (g1 145 hc715) h714 fun q716 h717 => ?_
                              clear h714
                              refine eG 8 147 (.load 3 (.tmp 146)) 3 (6, true) (.int .i64 i.tday) (g1 145 hc715) h717 (hr := r_loadC (b := b3) (v := .int .i64 i.tday) hB676 0 8 (by kernel_rfl) (by kernel_rfl) (by kernel_rfl)) fun q718 h719 => ?_
                              clear h717
                              refine eG 9 148 (.binOp .lss 3 (.tmp 147) (.const (.int .i64 0)) 3) 4 (6, true) (.bool (decide (i.tday < (0 : Int)))) (g1 145 hc715) h719 fun q720 h721 => ?_
                              clear h719
                              refine eG 10 149 (.move (.tmp 148)) 4 (6, true) (.bool (decide (i.tday < (0 : Int)))) (g1 145 hc715) h721 fun q722 h723 => ?_
                              clear h721
                              refine wpO_cut [(11, false), (12, false), (13, false), (14, false), (15, false), (16, false)] [(17, false)] (fun qa qw => Fr 291 [(155, .bool ((decide (i.tday < (0 : Int))) || (decide (i.sday < i.tday)))), (145, .bool ((i.kind == (1 : Int)) || (i.kind == (2 : Int)))), (143, .bool (!(dayB i.sday))), (4, .bool ((i.kind == (1 : Int)) || (i.kind == (2 : Int)))), (3, .bool (decide (i.kind < (3 : Int)))), (2, .int .i64 0), (1, .pointer (some ⟨b3, 0, none⟩))] qa ∧ Bx w [(b3, .cells #[.string i.ref, .int .i64 i.kind, .string i.sender, .string i.cpty, .int .i64 i.side, .string i.asset, .int .i64 i.qty, .int .i64 i.amt, .int .i64 i.tday, .int .i64 i.sday, .int .i64 i.prio, .bool i.part, .int .i64 i.minlot, .bool i.hold, .bool i.resv, .slice A i.links.length c] 24 (0, 0))] qw) ?_ ?_
                              ·
                                rcases Bool.eq_false_or_eq_true (decide (i.tday < (0 : Int))) with hc724 | hc724
                                ·
                                  refine kE 11 150 (10, false) (g4 149 hc724) h723 trivial fun q725 h726 => ?_
                                  clear h723
                                  refine kE 12 151 (10, false) (g4 149 hc724) h726 trivial fun q727 h728 => ?_
                                  clear h726
                                  refine kE 13 152 (10, false) (g4 149 hc724) h728 trivial fun q729 h730 => ?_
                                  clear h728
                                  refine kE 14 153 (10, false) (g4 149 hc724) h730 trivial fun q731 h732 => ?_
                                  clear h730
                                  refine kE 15 154 (10, false) (g4 149 hc724) h732 trivial fun q733 h734 => ?_
                                  clear h732
                                  refine eG 16 155 (.pick (.tmp 149) (.const (.bool true)) (.tmp 154)) 4 (6, true) (.bool ((decide (i.tday < (0 : Int))) || (decide (i.sday < i.tday)))) (g1 145 hc715) h734 (hr := r_or (c := decide (i.tday < (0 : Int))) (d := (decide (i.sday < i.tday))) (by kernel_rfl) (fun e737 => Bool.noConfusion (e737.symm.trans hc724))) fun q735 h736 => ?_
                                  clear h734
                                  exact ⟨h736.keep _ ⟨rfl, rfl, rfl, rfl, rfl, rfl, rfl, trivial⟩, hB676⟩
                                ·
                                  refine eG 11 150 (.fieldAddr 24 (.tmp 1) 8) 0 (10, false) (.pointer (some ⟨b3, 8, none⟩)) (g2 149 hc724) h723 fun q738 h739 => ?_
                                  clear h723
                                  refine eG 12 151 (.load 3 (.tmp 150)) 3 (10, false) (.int .i64 i.tday) (g2 149 hc724) h739 (hr := r_loadC (b := b3) (v := .int .i64 i.tday) hB676 0 8 (by kernel_rfl) (by kernel_rfl) (by kernel_rfl)) fun q740 h741 => ?_
                                  clear h739
                                  refine eG 13 152 (.fieldAddr 24 (.tmp 1) 9) 0 (10, false) (.pointer (some ⟨b3, 9, none⟩)) (g2 149 hc724) h741 fun q742 h743 => ?_
                                  clear h741
                                  refine eG 14 153 (.load 3 (.tmp 152)) 3 (10, false) (.int .i64 i.sday) (g2 149 hc724) h743 (hr := r_loadC (b := b3) (v := .int .i64 i.sday) hB676 0 9 (by kernel_rfl) (by kernel_rfl) (by kernel_rfl)) fun q744 h745 => ?_
                                  clear h743
                                  refine eG 15 154 (.binOp .gtr 3 (.tmp 151) (.tmp 153) 3) 4 (10, false) (.bool (decide (i.sday < i.tday))) (g2 149 hc724) h745 fun q746 h747 => ?_
                                  clear h745
                                  refine eG 16 155 (.pick (.tmp 149) (.const (.bool true)) (.tmp 154)) 4 (6, true) (.bool ((decide (i.tday < (0 : Int))) || (decide (i.sday < i.tday)))) (g1 145 hc715) h747 (hr := r_or (c := decide (i.tday < (0 : Int))) (d := (decide (i.sday < i.tday))) (by kernel_rfl) (fun _ => by kernel_rfl)) fun q748 h749 => ?_
                                  clear h747
                                  exact ⟨h749.keep _ ⟨rfl, rfl, rfl, rfl, rfl, rfl, rfl, trivial⟩, hB676⟩
                              rintro q750 w751 ⟨h752, hB753⟩
                              refine eG 17 156 (.pick (.tmp 145) (.tmp 155) (.const (.bool false))) 4 (4, false) (.bool (((i.kind == (1 : Int)) || (i.kind == (2 : Int))) && ((decide (i.tday < (0 : Int))) || (decide (i.sday < i.tday))))) (g2 143 hc681) h752 (hr := r_and (c := (i.kind == (1 : Int)) || (i.kind == (2 : Int))) (d := ((decide (i.tday < (0 : Int))) || (decide (i.sday < i.tday)))) (by kernel_rfl) (fun _ => by kernel_rfl)) fun q754 h755 => ?_
                              clear h752
                              exact ⟨h755.keep _ ⟨rfl, rfl, rfl, rfl, rfl, rfl, trivial⟩, hB753⟩
                            ·
                              refine kE 7 146 (6, true) (g3 145 hc715) h714 trivial fun q756 h757 => ?_
                              clear h714
                              refine kE 8 147 (6, true) (g3 145 hc715) h757 trivial fun q758 h759 => ?_
                              clear h757
                              refine kE 9 148 (6, true) (g3 145 hc715) h759 trivial fun q760 h761 => ?_
                              clear h759
                              refine kE 10 149 (6, true) (g3 145 hc715) h761 trivial fun q762 h763 => ?_
                              clear h761
                              refine kE 11 150 (10, false) (g0 149) h763 trivial fun q764 h765 => ?_
                              clear h763
                              refine kE 12 151 (10, false) (g0 149) h765 trivial fun q766 h767 => ?_
                              clear h765
                              refine kE 13 152 (10, false) (g0 149) h767 trivial fun q768 h769 => ?_
                              clear h767
                              refine kE 14 153 (10, false) (g0 149) h769 trivial fun q770 h771 => ?_
                              clear h769
                              refine kE 15 154 (10, false) (g0 149) h771 trivial fun q772 h773 => ?_
                              clear h771
                              refine kE 16 155 (6, true) (g3 145 hc715) h773 trivial fun q774 h775 => ?_
                              clear h773
                              refine eG 17 156 (.pick (.tmp 145) (.tmp 155) (.const (.bool false))) 4 (4, false) (.bool (((i.kind == (1 : Int)) || (i.kind == (2 : Int))) && ((decide (i.tday < (0 : Int))) || (decide (i.sday < i.tday))))) (g2 143 hc681) h775 (hr := r_and (c := (i.kind == (1 : Int)) || (i.kind == (2 : Int))) (d := ((decide (i.tday < (0 : Int))) || (decide (i.sday < i.tday)))) (by kernel_rfl) (fun e778 => Bool.noConfusion (e778.symm.trans hc715))) fun q776 h777 => ?_
                              clear h775
                              exact ⟨h777.keep _ ⟨rfl, rfl, rfl, rfl, rfl, rfl, trivial⟩, hB676⟩
                          rintro q779 w780 ⟨h781, hB782⟩
                          refine eE 18 157 (.pick (.tmp 143) (.const (.bool true)) (.tmp 156)) 4 (.bool ((!(dayB i.sday)) || (((i.kind == (1 : Int)) || (i.kind == (2 : Int))) && ((decide (i.tday < (0 : Int))) || (decide (i.sday < i.tday)))))) h781 (hr := r_or (c := !(dayB i.sday)) (d := (((i.kind == (1 : Int)) || (i.kind == (2 : Int))) && ((decide (i.tday < (0 : Int))) || (decide (i.sday < i.tday))))) (by kernel_rfl) (fun _ => by kernel_rfl)) fun q783 h784 => ?_
                          clear h781
                          exact ⟨h784.keep _ ⟨rfl, rfl, rfl, rfl, rfl, trivial⟩, hB782⟩
                      rintro q785 w786 ⟨h787, hB788⟩
                      refine eE 19 158 (.move (.tmp 157)) 4 (.bool ((!(dayB i.sday)) || (((i.kind == (1 : Int)) || (i.kind == (2 : Int))) && ((decide (i.tday < (0 : Int))) || (decide (i.sday < i.tday)))))) h787 fun q789 h790 => ?_
                      clear h787
                      refine wpO_cut [(20, false), (21, false), (22, false), (23, false), (24, false), (25, false), (26, false), (27, false)] [] (fun qa qw => Fr 291 [(166, .bool (((!(dayB i.sday)) || (((i.kind == (1 : Int)) || (i.kind == (2 : Int))) && ((decide (i.tday < (0 : Int))) || (decide (i.sday < i.tday))))) || ((!((i.kind == (1 : Int)) || (i.kind == (2 : Int)))) && (i.tday != (0 : Int))))), (4, .bool ((i.kind == (1 : Int)) || (i.kind == (2 : Int)))), (3, .bool (decide (i.kind < (3 : Int)))), (2, .int .i64 0), (1, .pointer (some ⟨b3, 0, none⟩))] qa ∧ Bx w [(b3, .cells #[.string i.ref, .int .i64 i.kind, .string i.sender, .string i.cpty, .int .i64 i.side, .string i.asset, .int .i64 i.qty, .int .i64 i.amt, .int .i64 i.tday, .int .i64 i.sday, .int .i64 i.prio, .bool i.part, .int .i64 i.minlot, .bool i.hold, .bool i.resv, .slice A i.links.length c] 24 (0, 0))] qw) ?_ ?_
                      ·
                        rcases Bool.eq_false_or_eq_true ((!(dayB i.sday)) || (((i.kind == (1 : Int)) || (i.kind == (2 : Int))) && ((decide (i.tday < (0 : Int))) || (decide (i.sday < i.tday))))) with hc791 | hc791
                        ·
                          refine kE 20 159 (19, false) (g4 158 hc791) h790 trivial fun q792 h793 => ?_
                          clear h790
                          refine kE 21 160 (19, false) (g4 158 hc791) h793 trivial fun q794 h795 => ?_
                          clear h793
                          refine kE 22 161 (19, false) (g4 158 hc791) h795 trivial fun q796 h797 => ?_
                          clear h795
                          refine kE 23 162 (22, true) (g0 161) h797 trivial fun q798 h799 => ?_
                          clear h797
                          refine kE 24 163 (22, true) (g0 161) h799 trivial fun q800 h801 => ?_
                          clear h799
                          refine kE 25 164 (22, true) (g0 161) h801 trivial fun q802 h803 => ?_
                          clear h801
                          refine kE 26 165 (19, false) (g4 158 hc791) h803 trivial fun q804 h805 => ?_
                          clear h803
                          refine eE 27 166 (.pick (.tmp 158) (.const (.bool true)) (.tmp 165)) 4 (.bool (((!(dayB i.sday)) || (((i.kind == (1 : Int)) || (i.kind == (2 : Int))) && ((decide (i.tday < (0 : Int))) || (decide (i.sday < i.tday))))) || ((!((i.kind == (1 : Int)) || (i.kind == (2 : Int)))) && (i.tday != (0 : Int))))) h805 (hr := r_or (c := (!(dayB i.sday)) || (((i.kind == (1 : Int)) || (i.kind == (2 : Int))) && ((decide (i.tday < (0 : Int))) || (decide (i.sday < i.tday))))) (d := ((!((i.kind == (1 : Int)) || (i.kind == (2 : Int)))) && (i.tday != (0 : Int)))) (by kernel_rfl) (fun e808 => Bool.noConfusion (e808.symm.trans hc791))) fun q806 h807 => ?_
                          clear h805
                          exact ⟨h807.keep _ ⟨rfl, rfl, rfl, rfl, rfl, trivial⟩, hB788⟩
                        ·
                          refine eG 20 159 (.move (.tmp 4)) 4 (19, false) (.bool ((i.kind == (1 : Int)) || (i.kind == (2 : Int)))) (g2 158 hc791) h790 fun q809 h810 => ?_
                          clear h790
                          refine eG 21 160 (.unOp .not 4 (.tmp 159)) 4 (19, false) (.bool (!((i.kind == (1 : Int)) || (i.kind == (2 : Int))))) (g2 158 hc791) h810 fun q811 h812 => ?_
                          clear h810
                          refine eG 22 161 (.move (.tmp 160)) 4 (19, false) (.bool (!((i.kind == (1 : Int)) || (i.kind == (2 : Int))))) (g2 158 hc791) h812 fun q813 h814 => ?_
                          clear h812
                          refine wpO_cut [(23, false), (24, false), (25, false), (26, false)] [(27, false)] (fun qa qw => Fr 291 [(165, .bool ((!((i.kind == (1 : Int)) || (i.kind == (2 : Int)))) && (i.tday != (0 : Int)))), (158, .bool ((!(dayB i.sday)) || (((i.kind == (1 : Int)) || (i.kind == (2 : Int))) && ((decide (i.tday < (0 : Int))) || (decide (i.sday < i.tday)))))), (4, .bool ((i.kind == (1 : Int)) || (i.kind == (2 : Int)))), (3, .bool (decide (i.kind < (3 : Int)))), (2, .int .i64 0), (1, .pointer (some ⟨b3, 0, none⟩))] qa ∧ Bx w [(b3, .cells #[.string i.ref, .int .i64 i.kind, .string i.sender, .string i.cpty, .int .i64 i.side, .string i.asset, .int .i64 i.qty, .int .i64 i.amt, .int .i64 i.tday, .int .i64 i.sday, .int .i64 i.prio, .bool i.part, .int .i64 i.minlot, .bool i.hold, .bool i.resv, .slice A i.links.length c] 24 (0, 0))] qw) ?_ ?_
                          ·
                            rcases Bool.eq_false_or_eq_true (!((i.kind == (1 : Int)) || (i.kind == (2 : Int)))) with hc815 | hc815
                            ·
                              refine eG 23 162 (.fieldAddr 24 (.tmp 1) 8) 0 (22, true) (.pointer (some ⟨b3, 8, none⟩)) (g1 161 hc815) h814 fun q816 h817 => ?_
                              clear h814
                              refine eG 24 163 (.load 3 (.tmp 162)) 3 (22, true) (.int .i64 i.tday) (g1 161 hc815) h817 (hr := r_loadC (b := b3) (v := .int .i64 i.tday) hB788 0 8 (by kernel_rfl) (by kernel_rfl) (by kernel_rfl)) fun q818 h819 => ?_
                              clear h817
                              refine eG 25 164 (.binOp .neq 3 (.tmp 163) (.const (.int .i64 0)) 3) 4 (22, true) (.bool (i.tday != (0 : Int))) (g1 161 hc815) h819 fun q820 h821 => ?_
                              clear h819
                              refine eG 26 165 (.pick (.tmp 161) (.tmp 164) (.const (.bool false))) 4 (19, false) (.bool ((!((i.kind == (1 : Int)) || (i.kind == (2 : Int)))) && (i.tday != (0 : Int)))) (g2 158 hc791) h821 (hr := r_and (c := !((i.kind == (1 : Int)) || (i.kind == (2 : Int)))) (d := (i.tday != (0 : Int))) (by kernel_rfl) (fun _ => by kernel_rfl)) fun q822 h823 => ?_
                              clear h821
                              exact ⟨h823.keep _ ⟨rfl, rfl, rfl, rfl, rfl, rfl, trivial⟩, hB788⟩
                            ·
                              refine kE 23 162 (22, true) (g3 161 hc815) h814 trivial fun q824 h825 => ?_
                              clear h814
                              refine kE 24 163 (22, true) (g3 161 hc815) h825 trivial fun q826 h827 => ?_
                              clear h825
                              refine kE 25 164 (22, true) (g3 161 hc815) h827 trivial fun q828 h829 => ?_
                              clear h827
                              refine eG 26 165 (.pick (.tmp 161) (.tmp 164) (.const (.bool false))) 4 (19, false) (.bool ((!((i.kind == (1 : Int)) || (i.kind == (2 : Int)))) && (i.tday != (0 : Int)))) (g2 158 hc791) h829 (hr := r_and (c := !((i.kind == (1 : Int)) || (i.kind == (2 : Int)))) (d := (i.tday != (0 : Int))) (by kernel_rfl) (fun e832 => Bool.noConfusion (e832.symm.trans hc815))) fun q830 h831 => ?_
                              clear h829
                              exact ⟨h831.keep _ ⟨rfl, rfl, rfl, rfl, rfl, rfl, trivial⟩, hB788⟩
                          rintro q833 w834 ⟨h835, hB836⟩
                          refine eE 27 166 (.pick (.tmp 158) (.const (.bool true)) (.tmp 165)) 4 (.bool (((!(dayB i.sday)) || (((i.kind == (1 : Int)) || (i.kind == (2 : Int))) && ((decide (i.tday < (0 : Int))) || (decide (i.sday < i.tday))))) || ((!((i.kind == (1 : Int)) || (i.kind == (2 : Int)))) && (i.tday != (0 : Int))))) h835 (hr := r_or (c := (!(dayB i.sday)) || (((i.kind == (1 : Int)) || (i.kind == (2 : Int))) && ((decide (i.tday < (0 : Int))) || (decide (i.sday < i.tday))))) (d := ((!((i.kind == (1 : Int)) || (i.kind == (2 : Int)))) && (i.tday != (0 : Int)))) (by kernel_rfl) (fun _ => by kernel_rfl)) fun q837 h838 => ?_
                          clear h835
                          exact ⟨h838.keep _ ⟨rfl, rfl, rfl, rfl, rfl, trivial⟩, hB836⟩
                      rintro q839 w840 ⟨h841, hB842⟩
                      refine wpO_end ?_
                      refine then_n ?_
                      refine c_cond (t := 166) (b := ((!(dayB i.sday)) || (((i.kind == (1 : Int)) || (i.kind == (2 : Int))) && ((decide (i.tday < (0 : Int))) || (decide (i.sday < i.tday))))) || ((!((i.kind == (1 : Int)) || (i.kind == (2 : Int)))) && (i.tday != (0 : Int)))) h841 (by kernel_rfl) (by kernel_rfl) (fun hc843 => ?_) (fun hc843 => ?_)
                      ·
                        refine c_seq (by kernel_rfl) ?_
                        refine reg_plain [(0, false)] (by kernel_rfl) (by kernel_rfl) ?_
                        refine eE 0 2 (.assign (.const (.int .i64 28))) 3 (.int .i64 28) h841 fun q844 h845 => ?_
                        clear h841
                        refine wpO_end ?_
                        have h846 := h845.keep [(2, .int .i64 28), (4, .bool ((i.kind == (1 : Int)) || (i.kind == (2 : Int)))), (3, .bool (decide (i.kind < (3 : Int)))), (1, .pointer (some ⟨b3, 0, none⟩))] ⟨rfl, rfl, rfl, rfl, trivial⟩
                        clear h845
                        refine then_n ?_
                        refine c_ret (by kernel_rfl) ?_
                        refine then_r ?_
                        refine ret1 (t := 2) (v := .int .i64 28) h846 (by kernel_rfl) (by kernel_rfl) ?_
                        exact ⟨ret_eq (congrArg (Value.int .i64) (show refI i = 28 from (cF hc39).trans ((cF hc128).trans ((cF hc160).trans ((cF hc197).trans ((cF hc235).trans ((cF hc269).trans ((cF hc301).trans ((cF hc402).trans ((cF hc538).trans ((cF hc664).trans (cT hc843))))))))))).symm), hB842.bel⟩
                      ·
                        refine c_skip (by kernel_rfl) ?_
                        refine then_n ?_
                        refine c_seq (by kernel_rfl) ?_
                        refine c_seq (by kernel_rfl) ?_
                        refine reg_plain [(0, false), (1, false), (2, false), (3, false), (4, false), (5, false), (6, false), (7, false), (8, false), (9, false), (10, false), (11, false), (12, false), (13, false), (14, false), (15, false), (16, false)] (by kernel_rfl) (by kernel_rfl) ?_
                        refine eE 0 167 (.fieldAddr 24 (.tmp 1) 10) 0 (.pointer (some ⟨b3, 10, none⟩)) h841 fun q847 h848 => ?_
                        clear h841
                        refine eE 1 168 (.load 3 (.tmp 167)) 3 (.int .i64 i.prio) h848 (hr := r_loadC (b := b3) (v := .int .i64 i.prio) hB842 0 10 (by kernel_rfl) (by kernel_rfl) (by kernel_rfl)) fun q849 h850 => ?_
                        clear h848
                        refine eE 2 169 (.binOp .lss 3 (.tmp 168) (.const (.int .i64 0)) 3) 4 (.bool (decide (i.prio < (0 : Int)))) h850 fun q851 h852 => ?_
                        clear h850
                        refine eE 3 170 (.move (.tmp 169)) 4 (.bool (decide (i.prio < (0 : Int)))) h852 fun q853 h854 => ?_
                        clear h852
                        refine wpO_cut [(4, false), (5, false), (6, false), (7, false)] [(8, false), (9, false), (10, false), (11, false), (12, false), (13, false), (14, false), (15, false), (16, false)] (fun qa qw => Fr 291 [(174, .bool ((decide (i.prio < (0 : Int))) || (decide ((2 : Int) < i.prio)))), (4, .bool ((i.kind == (1 : Int)) || (i.kind == (2 : Int)))), (3, .bool (decide (i.kind < (3 : Int)))), (2, .int .i64 0), (1, .pointer (some ⟨b3, 0, none⟩))] qa ∧ Bx w [(b3, .cells #[.string i.ref, .int .i64 i.kind, .string i.sender, .string i.cpty, .int .i64 i.side, .string i.asset, .int .i64 i.qty, .int .i64 i.amt, .int .i64 i.tday, .int .i64 i.sday, .int .i64 i.prio, .bool i.part, .int .i64 i.minlot, .bool i.hold, .bool i.resv, .slice A i.links.length c] 24 (0, 0))] qw) ?_ ?_
                        ·
                          rcases Bool.eq_false_or_eq_true (decide (i.prio < (0 : Int))) with hc855 | hc855
                          ·
                            refine kE 4 171 (3, false) (g4 170 hc855) h854 trivial fun q856 h857 => ?_
                            clear h854
                            refine kE 5 172 (3, false) (g4 170 hc855) h857 trivial fun q858 h859 => ?_
                            clear h857
                            refine kE 6 173 (3, false) (g4 170 hc855) h859 trivial fun q860 h861 => ?_
                            clear h859
                            refine eE 7 174 (.pick (.tmp 170) (.const (.bool true)) (.tmp 173)) 4 (.bool ((decide (i.prio < (0 : Int))) || (decide ((2 : Int) < i.prio)))) h861 (hr := r_or (c := decide (i.prio < (0 : Int))) (d := (decide ((2 : Int) < i.prio))) (by kernel_rfl) (fun e864 => Bool.noConfusion (e864.symm.trans hc855))) fun q862 h863 => ?_
                            clear h861
                            exact ⟨h863.keep _ ⟨rfl, rfl, rfl, rfl, rfl, trivial⟩, hB842⟩
                          ·
                            refine eG 4 171 (.fieldAddr 24 (.tmp 1) 10) 0 (3, false) (.pointer (some ⟨b3, 10, none⟩)) (g2 170 hc855) h854 fun q865 h866 => ?_
                            clear h854
                            refine eG 5 172 (.load 3 (.tmp 171)) 3 (3, false) (.int .i64 i.prio) (g2 170 hc855) h866 (hr := r_loadC (b := b3) (v := .int .i64 i.prio) hB842 0 10 (by kernel_rfl) (by kernel_rfl) (by kernel_rfl)) fun q867 h868 => ?_
                            clear h866
                            refine eG 6 173 (.binOp .gtr 3 (.tmp 172) (.const (.int .i64 2)) 3) 4 (3, false) (.bool (decide ((2 : Int) < i.prio))) (g2 170 hc855) h868 fun q869 h870 => ?_
                            clear h868
                            refine eE 7 174 (.pick (.tmp 170) (.const (.bool true)) (.tmp 173)) 4 (.bool ((decide (i.prio < (0 : Int))) || (decide ((2 : Int) < i.prio)))) h870 (hr := r_or (c := decide (i.prio < (0 : Int))) (d := (decide ((2 : Int) < i.prio))) (by kernel_rfl) (fun _ => by kernel_rfl)) fun q871 h872 => ?_
                            clear h870
                            exact ⟨h872.keep _ ⟨rfl, rfl, rfl, rfl, rfl, trivial⟩, hB842⟩
                        rintro q873 w874 ⟨h875, hB876⟩
                        refine eE 8 175 (.move (.tmp 174)) 4 (.bool ((decide (i.prio < (0 : Int))) || (decide ((2 : Int) < i.prio)))) h875 fun q877 h878 => ?_
                        clear h875
                        refine wpO_cut [(9, false), (10, false), (11, false), (12, false), (13, false), (14, false), (15, false), (16, false)] [] (fun qa qw => Fr 291 [(183, .bool (((decide (i.prio < (0 : Int))) || (decide ((2 : Int) < i.prio))) || ((!(decide (i.kind < (3 : Int)))) && (i.prio != (0 : Int))))), (4, .bool ((i.kind == (1 : Int)) || (i.kind == (2 : Int)))), (3, .bool (decide (i.kind < (3 : Int)))), (2, .int .i64 0), (1, .pointer (some ⟨b3, 0, none⟩))] qa ∧ Bx w [(b3, .cells #[.string i.ref, .int .i64 i.kind, .string i.sender, .string i.cpty, .int .i64 i.side, .string i.asset, .int .i64 i.qty, .int .i64 i.amt, .int .i64 i.tday, .int .i64 i.sday, .int .i64 i.prio, .bool i.part, .int .i64 i.minlot, .bool i.hold, .bool i.resv, .slice A i.links.length c] 24 (0, 0))] qw) ?_ ?_
                        ·
                          rcases Bool.eq_false_or_eq_true ((decide (i.prio < (0 : Int))) || (decide ((2 : Int) < i.prio))) with hc879 | hc879
                          ·
                            refine kE 9 176 (8, false) (g4 175 hc879) h878 trivial fun q880 h881 => ?_
                            clear h878
                            refine kE 10 177 (8, false) (g4 175 hc879) h881 trivial fun q882 h883 => ?_
                            clear h881
                            refine kE 11 178 (8, false) (g4 175 hc879) h883 trivial fun q884 h885 => ?_
                            clear h883
                            refine kE 12 179 (11, true) (g0 178) h885 trivial fun q886 h887 => ?_
                            clear h885
                            refine kE 13 180 (11, true) (g0 178) h887 trivial fun q888 h889 => ?_
                            clear h887
                            refine kE 14 181 (11, true) (g0 178) h889 trivial fun q890 h891 => ?_
                            clear h889
                            refine kE 15 182 (8, false) (g4 175 hc879) h891 trivial fun q892 h893 => ?_
                            clear h891
                            refine eE 16 183 (.pick (.tmp 175) (.const (.bool true)) (.tmp 182)) 4 (.bool (((decide (i.prio < (0 : Int))) || (decide ((2 : Int) < i.prio))) || ((!(decide (i.kind < (3 : Int)))) && (i.prio != (0 : Int))))) h893 (hr := r_or (c := (decide (i.prio < (0 : Int))) || (decide ((2 : Int) < i.prio))) (d := ((!(decide (i.kind < (3 : Int)))) && (i.prio != (0 : Int)))) (by kernel_rfl) (fun e896 => Bool.noConfusion (e896.symm.trans hc879))) fun q894 h895 => ?_
                            clear h893
                            exact ⟨h895.keep _ ⟨rfl, rfl, rfl, rfl, rfl, trivial⟩, hB876⟩
                          ·
                            refine eG 9 176 (.move (.tmp 3)) 4 (8, false) (.bool (decide (i.kind < (3 : Int)))) (g2 175 hc879) h878 fun q897 h898 => ?_
                            clear h878
                            refine eG 10 177 (.unOp .not 4 (.tmp 176)) 4 (8, false) (.bool (!(decide (i.kind < (3 : Int))))) (g2 175 hc879) h898 fun q899 h900 => ?_
                            clear h898
                            refine eG 11 178 (.move (.tmp 177)) 4 (8, false) (.bool (!(decide (i.kind < (3 : Int))))) (g2 175 hc879) h900 fun q901 h902 => ?_
                            clear h900
                            refine wpO_cut [(12, false), (13, false), (14, false), (15, false)] [(16, false)] (fun qa qw => Fr 291 [(182, .bool ((!(decide (i.kind < (3 : Int)))) && (i.prio != (0 : Int)))), (175, .bool ((decide (i.prio < (0 : Int))) || (decide ((2 : Int) < i.prio)))), (4, .bool ((i.kind == (1 : Int)) || (i.kind == (2 : Int)))), (3, .bool (decide (i.kind < (3 : Int)))), (2, .int .i64 0), (1, .pointer (some ⟨b3, 0, none⟩))] qa ∧ Bx w [(b3, .cells #[.string i.ref, .int .i64 i.kind, .string i.sender, .string i.cpty, .int .i64 i.side, .string i.asset, .int .i64 i.qty, .int .i64 i.amt, .int .i64 i.tday, .int .i64 i.sday, .int .i64 i.prio, .bool i.part, .int .i64 i.minlot, .bool i.hold, .bool i.resv, .slice A i.links.length c] 24 (0, 0))] qw) ?_ ?_
                            ·
                              rcases Bool.eq_false_or_eq_true (!(decide (i.kind < (3 : Int)))) with hc903 | hc903
                              ·
                                refine eG 12 179 (.fieldAddr 24 (.tmp 1) 10) 0 (11, true) (.pointer (some ⟨b3, 10, none⟩)) (g1 178 hc903) h902 fun q904 h905 => ?_
                                clear h902
                                refine eG 13 180 (.load 3 (.tmp 179)) 3 (11, true) (.int .i64 i.prio) (g1 178 hc903) h905 (hr := r_loadC (b := b3) (v := .int .i64 i.prio) hB876 0 10 (by kernel_rfl) (by kernel_rfl) (by kernel_rfl)) fun q906 h907 => ?_
                                clear h905
                                refine eG 14 181 (.binOp .neq 3 (.tmp 180) (.const (.int .i64 0)) 3) 4 (11, true) (.bool (i.prio != (0 : Int))) (g1 178 hc903) h907 fun q908 h909 => ?_
                                clear h907
                                refine eG 15 182 (.pick (.tmp 178) (.tmp 181) (.const (.bool false))) 4 (8, false) (.bool ((!(decide (i.kind < (3 : Int)))) && (i.prio != (0 : Int)))) (g2 175 hc879) h909 (hr := r_and (c := !(decide (i.kind < (3 : Int)))) (d := (i.prio != (0 : Int))) (by kernel_rfl) (fun _ => by kernel_rfl)) fun q910 h911 => ?_
                                clear h909
                                exact ⟨h911.keep _ ⟨rfl, rfl, rfl, rfl, rfl, rfl, trivial⟩, hB876⟩
                              ·
                                refine kE 12 179 (11, true) (g3 178 hc903) h902 trivial fun q912 h913 => ?_
                                clear h902
                                refine kE 13 180 (11, true) (g3 178 hc903) h913 trivial fun q914 h915 => ?_
                                clear h913
                                refine kE 14 181 (11, true) (g3 178 hc903) h915 trivial fun q916 h917 => ?_
                                clear h915
                                refine eG 15 182 (.pick (.tmp 178) (.tmp 181) (.const (.bool false))) 4 (8, false) (.bool ((!(decide (i.kind < (3 : Int)))) && (i.prio != (0 : Int)))) (g2 175 hc879) h917 (hr := r_and (c := !(decide (i.kind < (3 : Int)))) (d := (i.prio != (0 : Int))) (by kernel_rfl) (fun e920 => Bool.noConfusion (e920.symm.trans hc903))) fun q918 h919 => ?_
                                clear h917
                                exact ⟨h919.keep _ ⟨rfl, rfl, rfl, rfl, rfl, rfl, trivial⟩, hB876⟩
                            rintro q921 w922 ⟨h923, hB924⟩
                            refine eE 16 183 (.pick (.tmp 175) (.const (.bool true)) (.tmp 182)) 4 (.bool (((decide (i.prio < (0 : Int))) || (decide ((2 : Int) < i.prio))) || ((!(decide (i.kind < (3 : Int)))) && (i.prio != (0 : Int))))) h923 (hr := r_or (c := (decide (i.prio < (0 : Int))) || (decide ((2 : Int) < i.prio))) (d := ((!(decide (i.kind < (3 : Int)))) && (i.prio != (0 : Int)))) (by kernel_rfl) (fun _ => by kernel_rfl)) fun q925 h926 => ?_
                            clear h923
                            exact ⟨h926.keep _ ⟨rfl, rfl, rfl, rfl, rfl, trivial⟩, hB924⟩
                        rintro q927 w928 ⟨h929, hB930⟩
                        refine wpO_end ?_
                        refine then_n ?_
                        refine c_cond (t := 183) (b := ((decide (i.prio < (0 : Int))) || (decide ((2 : Int) < i.prio))) || ((!(decide (i.kind < (3 : Int)))) && (i.prio != (0 : Int)))) h929 (by kernel_rfl) (by kernel_rfl) (fun hc931 => ?_) (fun hc931 => ?_)
                        ·
                          refine c_seq (by kernel_rfl) ?_
                          refine reg_plain [(0, false)] (by kernel_rfl) (by kernel_rfl) ?_
                          refine eE 0 2 (.assign (.const (.int .i64 2))) 3 (.int .i64 2) h929 fun q932 h933 => ?_
                          clear h929
                          refine wpO_end ?_
                          have h934 := h933.keep [(2, .int .i64 2), (4, .bool ((i.kind == (1 : Int)) || (i.kind == (2 : Int)))), (3, .bool (decide (i.kind < (3 : Int)))), (1, .pointer (some ⟨b3, 0, none⟩))] ⟨rfl, rfl, rfl, rfl, trivial⟩
                          clear h933
                          refine then_n ?_
                          refine c_ret (by kernel_rfl) ?_
                          refine then_r ?_
                          refine ret1 (t := 2) (v := .int .i64 2) h934 (by kernel_rfl) (by kernel_rfl) ?_
                          exact ⟨ret_eq (congrArg (Value.int .i64) (show refI i = 2 from (cF hc39).trans ((cF hc128).trans ((cF hc160).trans ((cF hc197).trans ((cF hc235).trans ((cF hc269).trans ((cF hc301).trans ((cF hc402).trans ((cF hc538).trans ((cF hc664).trans ((cF hc843).trans (cT hc931)))))))))))).symm), hB930.bel⟩
                        ·
                          refine c_skip (by kernel_rfl) ?_
                          refine then_n ?_
                          refine c_seq (by kernel_rfl) ?_
                          refine c_seq (by kernel_rfl) ?_
                          refine reg_plain [(0, false), (1, false), (2, false), (3, false), (4, false), (5, false)] (by kernel_rfl) (by kernel_rfl) ?_
                          refine eE 0 184 (.fieldAddr 24 (.tmp 1) 11) 0 (.pointer (some ⟨b3, 11, none⟩)) h929 fun q935 h936 => ?_
                          clear h929
                          refine eE 1 185 (.load 4 (.tmp 184)) 4 (.bool i.part) h936 (hr := r_loadC (b := b3) (v := .bool i.part) hB930 0 11 (by kernel_rfl) (by kernel_rfl) (by kernel_rfl)) fun q937 h938 => ?_
                          clear h936
                          refine eE 2 186 (.move (.tmp 185)) 4 (.bool i.part) h938 fun q939 h940 => ?_
                          clear h938
                          refine wpO_cut [(3, false), (4, false), (5, false)] [] (fun qa qw => Fr 291 [(189, .bool (i.part && (!((i.kind == (1 : Int)) || (i.kind == (2 : Int)))))), (3, .bool (decide (i.kind < (3 : Int)))), (2, .int .i64 0), (1, .pointer (some ⟨b3, 0, none⟩))] qa ∧ Bx w [(b3, .cells #[.string i.ref, .int .i64 i.kind, .string i.sender, .string i.cpty, .int .i64 i.side, .string i.asset, .int .i64 i.qty, .int .i64 i.amt, .int .i64 i.tday, .int .i64 i.sday, .int .i64 i.prio, .bool i.part, .int .i64 i.minlot, .bool i.hold, .bool i.resv, .slice A i.links.length c] 24 (0, 0))] qw) ?_ ?_
                          ·
                            rcases Bool.eq_false_or_eq_true i.part with hc941 | hc941
                            ·
                              refine eG 3 187 (.move (.tmp 4)) 4 (2, true) (.bool ((i.kind == (1 : Int)) || (i.kind == (2 : Int)))) (g1 186 hc941) h940 fun q942 h943 => ?_
                              clear h940
                              refine eG 4 188 (.unOp .not 4 (.tmp 187)) 4 (2, true) (.bool (!((i.kind == (1 : Int)) || (i.kind == (2 : Int))))) (g1 186 hc941) h943 fun q944 h945 => ?_
                              clear h943
                              refine eE 5 189 (.pick (.tmp 186) (.tmp 188) (.const (.bool false))) 4 (.bool (i.part && (!((i.kind == (1 : Int)) || (i.kind == (2 : Int)))))) h945 (hr := r_and (c := i.part) (d := (!((i.kind == (1 : Int)) || (i.kind == (2 : Int))))) (by kernel_rfl) (fun _ => by kernel_rfl)) fun q946 h947 => ?_
                              clear h945
                              exact ⟨h947.keep _ ⟨rfl, rfl, rfl, rfl, trivial⟩, hB930⟩
                            ·
                              refine kE 3 187 (2, true) (g3 186 hc941) h940 trivial fun q948 h949 => ?_
                              clear h940
                              refine kE 4 188 (2, true) (g3 186 hc941) h949 trivial fun q950 h951 => ?_
                              clear h949
                              refine eE 5 189 (.pick (.tmp 186) (.tmp 188) (.const (.bool false))) 4 (.bool (i.part && (!((i.kind == (1 : Int)) || (i.kind == (2 : Int)))))) h951 (hr := r_and (c := i.part) (d := (!((i.kind == (1 : Int)) || (i.kind == (2 : Int))))) (by kernel_rfl) (fun e954 => Bool.noConfusion (e954.symm.trans hc941))) fun q952 h953 => ?_
                              clear h951
                              exact ⟨h953.keep _ ⟨rfl, rfl, rfl, rfl, trivial⟩, hB930⟩
                          rintro q955 w956 ⟨h957, hB958⟩
                          refine wpO_end ?_
                          refine then_n ?_
                          refine c_cond (t := 189) (b := i.part && (!((i.kind == (1 : Int)) || (i.kind == (2 : Int))))) h957 (by kernel_rfl) (by kernel_rfl) (fun hc959 => ?_) (fun hc959 => ?_)
                          ·
                            refine c_seq (by kernel_rfl) ?_
                            refine reg_plain [(0, false)] (by kernel_rfl) (by kernel_rfl) ?_
                            refine eE 0 2 (.assign (.const (.int .i64 3))) 3 (.int .i64 3) h957 fun q960 h961 => ?_
                            clear h957
                            refine wpO_end ?_
                            have h962 := h961.keep [(2, .int .i64 3), (3, .bool (decide (i.kind < (3 : Int)))), (1, .pointer (some ⟨b3, 0, none⟩))] ⟨rfl, rfl, rfl, trivial⟩
                            clear h961
                            refine then_n ?_
                            refine c_ret (by kernel_rfl) ?_
                            refine then_r ?_
                            refine ret1 (t := 2) (v := .int .i64 3) h962 (by kernel_rfl) (by kernel_rfl) ?_
                            exact ⟨ret_eq (congrArg (Value.int .i64) (show refI i = 3 from (cF hc39).trans ((cF hc128).trans ((cF hc160).trans ((cF hc197).trans ((cF hc235).trans ((cF hc269).trans ((cF hc301).trans ((cF hc402).trans ((cF hc538).trans ((cF hc664).trans ((cF hc843).trans ((cF hc931).trans (cT hc959))))))))))))).symm), hB958.bel⟩
                          ·
                            refine c_skip (by kernel_rfl) ?_
                            refine then_n ?_
                            refine c_seq (by kernel_rfl) ?_
                            refine c_seq (by kernel_rfl) ?_
                            refine reg_plain [(0, false), (1, false), (2, false), (3, false), (4, false), (5, false), (6, false), (7, false), (8, false), (9, false), (10, false), (11, false), (12, false), (13, false), (14, false), (15, false), (16, false), (17, false), (18, false), (19, false), (20, false), (21, false), (22, false), (23, false)] (by kernel_rfl) (by kernel_rfl) ?_
                            refine eE 0 190 (.fieldAddr 24 (.tmp 1) 11) 0 (.pointer (some ⟨b3, 11, none⟩)) h957 fun q963 h964 => ?_
                            clear h957
                            refine eE 1 191 (.load 4 (.tmp 190)) 4 (.bool i.part) h964 (hr := r_loadC (b := b3) (v := .bool i.part) hB958 0 11 (by kernel_rfl) (by kernel_rfl) (by kernel_rfl)) fun q965 h966 => ?_
                            clear h964
                            refine eE 2 192 (.move (.tmp 191)) 4 (.bool i.part) h966 fun q967 h968 => ?_
                            clear h966
                            refine wpO_cut [(3, false), (4, false), (5, false), (6, false), (7, false), (8, false), (9, false), (10, false), (11, false), (12, false), (13, false)] [(14, false), (15, false), (16, false), (17, false), (18, false), (19, false), (20, false), (21, false), (22, false), (23, false)] (fun qa qw => Fr 291 [(203, .bool (i.part && ((decide (i.minlot < (1 : Int))) || (decide (i.qty < i.minlot))))), (3, .bool (decide (i.kind < (3 : Int)))), (2, .int .i64 0), (1, .pointer (some ⟨b3, 0, none⟩))] qa ∧ Bx w [(b3, .cells #[.string i.ref, .int .i64 i.kind, .string i.sender, .string i.cpty, .int .i64 i.side, .string i.asset, .int .i64 i.qty, .int .i64 i.amt, .int .i64 i.tday, .int .i64 i.sday, .int .i64 i.prio, .bool i.part, .int .i64 i.minlot, .bool i.hold, .bool i.resv, .slice A i.links.length c] 24 (0, 0))] qw) ?_ ?_
                            ·
                              rcases Bool.eq_false_or_eq_true i.part with hc969 | hc969
                              ·
                                refine eG 3 193 (.fieldAddr 24 (.tmp 1) 12) 0 (2, true) (.pointer (some ⟨b3, 12, none⟩)) (g1 192 hc969) h968 fun q970 h971 => ?_
                                clear h968
                                refine eG 4 194 (.load 2 (.tmp 193)) 2 (2, true) (.int .i64 i.minlot) (g1 192 hc969) h971 (hr := r_loadC (b := b3) (v := .int .i64 i.minlot) hB958 0 12 (by kernel_rfl) (by kernel_rfl) (by kernel_rfl)) fun q972 h973 => ?_
                                clear h971
                                refine eG 5 195 (.binOp .lss 2 (.tmp 194) (.const (.int .i64 1)) 2) 4 (2, true) (.bool (decide (i.minlot < (1 : Int)))) (g1 192 hc969) h973 fun q974 h975 => ?_
                                clear h973
                                refine eG 6 196 (.move (.tmp 195)) 4 (2, true) (.bool (decide (i.minlot < (1 : Int)))) (g1 192 hc969) h975 fun q976 h977 => ?_
                                clear h975
                                refine wpO_cut [(7, false), (8, false), (9, false), (10, false), (11, false), (12, false)] [(13, false)] (fun qa qw => Fr 291 [(202, .bool ((decide (i.minlot < (1 : Int))) || (decide (i.qty < i.minlot)))), (192, .bool i.part), (3, .bool (decide (i.kind < (3 : Int)))), (2, .int .i64 0), (1, .pointer (some ⟨b3, 0, none⟩))] qa ∧ Bx w [(b3, .cells #[.string i.ref, .int .i64 i.kind, .string i.sender, .string i.cpty, .int .i64 i.side, .string i.asset, .int .i64 i.qty, .int .i64 i.amt, .int .i64 i.tday, .int .i64 i.sday, .int .i64 i.prio, .bool i.part, .int .i64 i.minlot, .bool i.hold, .bool i.resv, .slice A i.links.length c] 24 (0, 0))] qw) ?_ ?_
                                ·
                                  rcases Bool.eq_false_or_eq_true (decide (i.minlot < (1 : Int))) with hc978 | hc978
                                  ·
                                    refine kE 7 197 (6, false) (g4 196 hc978) h977 trivial fun q979 h980 => ?_
                                    clear h977
                                    refine kE 8 198 (6, false) (g4 196 hc978) h980 trivial fun q981 h982 => ?_
                                    clear h980
                                    refine kE 9 199 (6, false) (g4 196 hc978) h982 trivial fun q983 h984 => ?_
                                    clear h982
                                    refine kE 10 200 (6, false) (g4 196 hc978) h984 trivial fun q985 h986 => ?_
                                    clear h984
                                    refine kE 11 201 (6, false) (g4 196 hc978) h986 trivial fun q987 h988 => ?_
                                    clear h986
                                    refine eG 12 202 (.pick (.tmp 196) (.const (.bool true)) (.tmp 201)) 4 (2, true) (.bool ((decide (i.minlot < (1 : Int))) || (decide (i.qty < i.minlot)))) (g1 192 hc969) h988 (hr := r_or (c := decide (i.minlot < (1 : Int))) (d := (decide (i.qty < i.minlot))) (by kernel_rfl) (fun e991 => Bool.noConfusion (e991.symm.trans hc978))) fun q989 h990 => ?_
                                    clear h988
                                    exact ⟨h990.keep _ ⟨rfl, rfl, rfl, rfl, rfl, trivial⟩, hB958⟩
                                  ·
                                    refine eG 7 197 (.fieldAddr 24 (.tmp 1) 12) 0 (6, false) (.pointer (some ⟨b3, 12, none⟩)) (g2 196 hc978) h977 fun q992 h993 => ?_
                                    clear h977
                                    refine eG 8 198 (.load 2 (.tmp 197)) 2 (6, false) (.int .i64 i.minlot) (g2 196 hc978) h993 (hr := r_loadC (b := b3) (v := .int .i64 i.minlot) hB958 0 12 (by kernel_rfl) (by kernel_rfl) (by kernel_rfl)) fun q994 h995 => ?_
                                    clear h993
                                    refine eG 9 199 (.fieldAddr 24 (.tmp 1) 6) 0 (6, false) (.pointer (some ⟨b3, 6, none⟩)) (g2 196 hc978) h995 fun q996 h997 => ?_
                                    clear h995
                                    refine eG 10 200 (.load 2 (.tmp 199)) 2 (6, false) (.int .i64 i.qty) (g2 196 hc978) h997 (hr := r_loadC (b := b3) (v := .int .i64 i.qty) hB958 0 6 (by kernel_rfl) (by kernel_rfl) (by kernel_rfl)) fun q998 h999 => ?_
                                    clear h997
                                    refine eG 11 201 (.binOp .gtr 2 (.tmp 198) (.tmp 200) 2) 4 (6, false) (.bool (decide (i.qty < i.minlot))) (g2 196 hc978) h999 fun q1000 h1001 => ?_
                                    clear h999
                                    refine eG 12 202 (.pick (.tmp 196) (.const (.bool true)) (.tmp 201)) 4 (2, true) (.bool ((decide (i.minlot < (1 : Int))) || (decide (i.qty < i.minlot)))) (g1 192 hc969) h1001 (hr := r_or (c := decide (i.minlot < (1 : Int))) (d := (decide (i.qty < i.minlot))) (by kernel_rfl) (fun _ => by kernel_rfl)) fun q1002 h1003 => ?_
                                    clear h1001
                                    exact ⟨h1003.keep _ ⟨rfl, rfl, rfl, rfl, rfl, trivial⟩, hB958⟩
                                rintro q1004 w1005 ⟨h1006, hB1007⟩
                                refine eE 13 203 (.pick (.tmp 192) (.tmp 202) (.const (.bool false))) 4 (.bool (i.part && ((decide (i.minlot < (1 : Int))) || (decide (i.qty < i.minlot))))) h1006 (hr := r_and (c := i.part) (d := ((decide (i.minlot < (1 : Int))) || (decide (i.qty < i.minlot)))) (by kernel_rfl) (fun _ => by kernel_rfl)) fun q1008 h1009 => ?_
                                clear h1006
                                exact ⟨h1009.keep _ ⟨rfl, rfl, rfl, rfl, trivial⟩, hB1007⟩
                              ·
                                refine kE 3 193 (2, true) (g3 192 hc969) h968 trivial fun q1010 h1011 => ?_
                                clear h968
                                refine kE 4 194 (2, true) (g3 192 hc969) h1011 trivial fun q1012 h1013 => ?_
                                clear h1011
                                refine kE 5 195 (2, true) (g3 192 hc969) h1013 trivial fun q1014 h1015 => ?_
                                clear h1013
                                refine kE 6 196 (2, true) (g3 192 hc969) h1015 trivial fun q1016 h1017 => ?_
                                clear h1015
                                refine kE 7 197 (6, false) (g0 196) h1017 trivial fun q1018 h1019 => ?_
                                clear h1017
                                refine kE 8 198 (6, false) (g0 196) h1019 trivial fun q1020 h1021 => ?_
                                clear h1019
                                refine kE 9 199 (6, false) (g0 196) h1021 trivial fun q1022 h1023 => ?_
                                clear h1021
                                refine kE 10 200 (6, false) (g0 196) h1023 trivial fun q1024 h1025 => ?_
                                clear h1023
                                refine kE 11 201 (6, false) (g0 196) h1025 trivial fun q1026 h1027 => ?_
                                clear h1025
                                refine kE 12 202 (2, true) (g3 192 hc969) h1027 trivial fun q1028 h1029 => ?_
                                clear h1027
                                refine eE 13 203 (.pick (.tmp 192) (.tmp 202) (.const (.bool false))) 4 (.bool (i.part && ((decide (i.minlot < (1 : Int))) || (decide (i.qty < i.minlot))))) h1029 (hr := r_and (c := i.part) (d := ((decide (i.minlot < (1 : Int))) || (decide (i.qty < i.minlot)))) (by kernel_rfl) (fun e1032 => Bool.noConfusion (e1032.symm.trans hc969))) fun q1030 h1031 => ?_
                                clear h1029
                                exact ⟨h1031.keep _ ⟨rfl, rfl, rfl, rfl, trivial⟩, hB958⟩
                            rintro q1033 w1034 ⟨h1035, hB1036⟩
                            refine eE 14 204 (.move (.tmp 203)) 4 (.bool (i.part && ((decide (i.minlot < (1 : Int))) || (decide (i.qty < i.minlot))))) h1035 fun q1037 h1038 => ?_
                            clear h1035
                            refine wpO_cut [(15, false), (16, false), (17, false), (18, false), (19, false), (20, false), (21, false), (22, false), (23, false)] [] (fun qa qw => Fr 291 [(213, .bool ((i.part && ((decide (i.minlot < (1 : Int))) || (decide (i.qty < i.minlot)))) || ((!i.part) && (i.minlot != (0 : Int))))), (3, .bool (decide (i.kind < (3 : Int)))), (2, .int .i64 0), (1, .pointer (some ⟨b3, 0, none⟩))] qa ∧ Bx w [(b3, .cells #[.string i.ref, .int .i64 i.kind, .string i.sender, .string i.cpty, .int .i64 i.side, .string i.asset, .int .i64 i.qty, .int .i64 i.amt, .int .i64 i.tday, .int .i64 i.sday, .int .i64 i.prio, .bool i.part, .int .i64 i.minlot, .bool i.hold, .bool i.resv, .slice A i.links.length c] 24 (0, 0))] qw) ?_ ?_
                            ·
                              rcases Bool.eq_false_or_eq_true (i.part && ((decide (i.minlot < (1 : Int))) || (decide (i.qty < i.minlot)))) with hc1039 | hc1039
                              ·
                                refine kE 15 205 (14, false) (g4 204 hc1039) h1038 trivial fun q1040 h1041 => ?_
                                clear h1038
                                refine kE 16 206 (14, false) (g4 204 hc1039) h1041 trivial fun q1042 h1043 => ?_
                                clear h1041
                                refine kE 17 207 (14, false) (g4 204 hc1039) h1043 trivial fun q1044 h1045 => ?_
                                clear h1043
                                refine kE 18 208 (14, false) (g4 204 hc1039) h1045 trivial fun q1046 h1047 => ?_
                                clear h1045
                                refine kE 19 209 (18, true) (g0 208) h1047 trivial fun q1048 h1049 => ?_
                                clear h1047
                                refine kE 20 210 (18, true) (g0 208) h1049 trivial fun q1050 h1051 => ?_
                                clear h1049
                                refine kE 21 211 (18, true) (g0 208) h1051 trivial fun q1052 h1053 => ?_
                                clear h1051
                                refine kE 22 212 (14, false) (g4 204 hc1039) h1053 trivial fun q1054 h1055 => ?_
                                clear h1053
                                refine eE 23 213 (.pick (.tmp 204) (.const (.bool true)) (.tmp 212)) 4 (.bool ((i.part && ((decide (i.minlot < (1 : Int))) || (decide (i.qty < i.minlot)))) || ((!i.part) && (i.minlot != (0 : Int))))) h1055 (hr := r_or (c := i.part && ((decide (i.minlot < (1 : Int))) || (decide (i.qty < i.minlot)))) (d := ((!i.part) && (i.minlot != (0 : Int)))) (by kernel_rfl) (fun e1058 => Bool.noConfusion (e1058.symm.trans hc1039))) fun q1056 h1057 => ?_
                                clear h1055
                                exact ⟨h1057.keep _ ⟨rfl, rfl, rfl, rfl, trivial⟩, hB1036⟩
                              ·
                                refine eG 15 205 (.fieldAddr 24 (.tmp 1) 11) 0 (14, false) (.pointer (some ⟨b3, 11, none⟩)) (g2 204 hc1039) h1038 fun q1059 h1060 => ?_
                                clear h1038
                                refine eG 16 206 (.load 4 (.tmp 205)) 4 (14, false) (.bool i.part) (g2 204 hc1039) h1060 (hr := r_loadC (b := b3) (v := .bool i.part) hB1036 0 11 (by kernel_rfl) (by kernel_rfl) (by kernel_rfl)) fun q1061 h1062 => ?_
                                clear h1060
                                refine eG 17 207 (.unOp .not 4 (.tmp 206)) 4 (14, false) (.bool (!i.part)) (g2 204 hc1039) h1062 fun q1063 h1064 => ?_
                                clear h1062
                                refine eG 18 208 (.move (.tmp 207)) 4 (14, false) (.bool (!i.part)) (g2 204 hc1039) h1064 fun q1065 h1066 => ?_
                                clear h1064
                                refine wpO_cut [(19, false), (20, false), (21, false), (22, false)] [(23, false)] (fun qa qw => Fr 291 [(212, .bool ((!i.part) && (i.minlot != (0 : Int)))), (204, .bool (i.part && ((decide (i.minlot < (1 : Int))) || (decide (i.qty < i.minlot))))), (3, .bool (decide (i.kind < (3 : Int)))), (2, .int .i64 0), (1, .pointer (some ⟨b3, 0, none⟩))] qa ∧ Bx w [(b3, .cells #[.string i.ref, .int .i64 i.kind, .string i.sender, .string i.cpty, .int .i64 i.side, .string i.asset, .int .i64 i.qty, .int .i64 i.amt, .int .i64 i.tday, .int .i64 i.sday, .int .i64 i.prio, .bool i.part, .int .i64 i.minlot, .bool i.hold, .bool i.resv, .slice A i.links.length c] 24 (0, 0))] qw) ?_ ?_
                                ·
                                  rcases Bool.eq_false_or_eq_true (!i.part) with hc1067 | hc1067
                                  ·
                                    refine eG 19 209 (.fieldAddr 24 (.tmp 1) 12) 0 (18, true) (.pointer (some ⟨b3, 12, none⟩)) (g1 208 hc1067) h1066 fun q1068 h1069 => ?_
                                    clear h1066
                                    refine eG 20 210 (.load 2 (.tmp 209)) 2 (18, true) (.int .i64 i.minlot) (g1 208 hc1067) h1069 (hr := r_loadC (b := b3) (v := .int .i64 i.minlot) hB1036 0 12 (by kernel_rfl) (by kernel_rfl) (by kernel_rfl)) fun q1070 h1071 => ?_
                                    clear h1069
                                    refine eG 21 211 (.binOp .neq 2 (.tmp 210) (.const (.int .i64 0)) 2) 4 (18, true) (.bool (i.minlot != (0 : Int))) (g1 208 hc1067) h1071 fun q1072 h1073 => ?_
                                    clear h1071
                                    refine eG 22 212 (.pick (.tmp 208) (.tmp 211) (.const (.bool false))) 4 (14, false) (.bool ((!i.part) && (i.minlot != (0 : Int)))) (g2 204 hc1039) h1073 (hr := r_and (c := !i.part) (d := (i.minlot != (0 : Int))) (by kernel_rfl) (fun _ => by kernel_rfl)) fun q1074 h1075 => ?_
                                    clear h1073
                                    exact ⟨h1075.keep _ ⟨rfl, rfl, rfl, rfl, rfl, trivial⟩, hB1036⟩
                                  ·
                                    refine kE 19 209 (18, true) (g3 208 hc1067) h1066 trivial fun q1076 h1077 => ?_
                                    clear h1066
                                    refine kE 20 210 (18, true) (g3 208 hc1067) h1077 trivial fun q1078 h1079 => ?_
                                    clear h1077
                                    refine kE 21 211 (18, true) (g3 208 hc1067) h1079 trivial fun q1080 h1081 => ?_
                                    clear h1079
                                    refine eG 22 212 (.pick (.tmp 208) (.tmp 211) (.const (.bool false))) 4 (14, false) (.bool ((!i.part) && (i.minlot != (0 : Int)))) (g2 204 hc1039) h1081 (hr := r_and (c := !i.part) (d := (i.minlot != (0 : Int))) (by kernel_rfl) (fun e1084 => Bool.noConfusion (e1084.symm.trans hc1067))) fun q1082 h1083 => ?_
                                    clear h1081
                                    exact ⟨h1083.keep _ ⟨rfl, rfl, rfl, rfl, rfl, trivial⟩, hB1036⟩
                                rintro q1085 w1086 ⟨h1087, hB1088⟩
                                refine eE 23 213 (.pick (.tmp 204) (.const (.bool true)) (.tmp 212)) 4 (.bool ((i.part && ((decide (i.minlot < (1 : Int))) || (decide (i.qty < i.minlot)))) || ((!i.part) && (i.minlot != (0 : Int))))) h1087 (hr := r_or (c := i.part && ((decide (i.minlot < (1 : Int))) || (decide (i.qty < i.minlot)))) (d := ((!i.part) && (i.minlot != (0 : Int)))) (by kernel_rfl) (fun _ => by kernel_rfl)) fun q1089 h1090 => ?_
                                clear h1087
                                exact ⟨h1090.keep _ ⟨rfl, rfl, rfl, rfl, trivial⟩, hB1088⟩
                            rintro q1091 w1092 ⟨h1093, hB1094⟩
                            refine wpO_end ?_
                            refine then_n ?_
                            refine c_cond (t := 213) (b := (i.part && ((decide (i.minlot < (1 : Int))) || (decide (i.qty < i.minlot)))) || ((!i.part) && (i.minlot != (0 : Int)))) h1093 (by kernel_rfl) (by kernel_rfl) (fun hc1095 => ?_) (fun hc1095 => ?_)
                            ·
                              refine c_seq (by kernel_rfl) ?_
                              refine reg_plain [(0, false)] (by kernel_rfl) (by kernel_rfl) ?_
                              refine eE 0 2 (.assign (.const (.int .i64 2))) 3 (.int .i64 2) h1093 fun q1096 h1097 => ?_
                              clear h1093
                              refine wpO_end ?_
                              have h1098 := h1097.keep [(2, .int .i64 2), (3, .bool (decide (i.kind < (3 : Int)))), (1, .pointer (some ⟨b3, 0, none⟩))] ⟨rfl, rfl, rfl, trivial⟩
                              clear h1097
                              refine then_n ?_
                              refine c_ret (by kernel_rfl) ?_
                              refine then_r ?_
                              refine ret1 (t := 2) (v := .int .i64 2) h1098 (by kernel_rfl) (by kernel_rfl) ?_
                              exact ⟨ret_eq (congrArg (Value.int .i64) (show refI i = 2 from (cF hc39).trans ((cF hc128).trans ((cF hc160).trans ((cF hc197).trans ((cF hc235).trans ((cF hc269).trans ((cF hc301).trans ((cF hc402).trans ((cF hc538).trans ((cF hc664).trans ((cF hc843).trans ((cF hc931).trans ((cF hc959).trans (cT hc1095)))))))))))))).symm), hB1094.bel⟩
                            ·
                              refine c_skip (by kernel_rfl) ?_
                              refine then_n ?_
                              refine c_seq (by kernel_rfl) ?_
                              refine c_seq (by kernel_rfl) ?_
                              refine reg_plain [(0, false), (1, false), (2, false), (3, false), (4, false), (5, false), (6, false), (7, false), (8, false), (9, false), (10, false), (11, false), (12, false), (13, false), (14, false), (15, false), (16, false), (17, false), (18, false), (19, false), (20, false), (21, false), (22, false), (23, false), (24, false), (25, false), (26, false), (27, false), (28, false), (29, false)] (by kernel_rfl) (by kernel_rfl) ?_
                              refine eE 0 214 (.fieldAddr 24 (.tmp 1) 13) 0 (.pointer (some ⟨b3, 13, none⟩)) h1093 fun q1099 h1100 => ?_
                              clear h1093
                              refine eE 1 215 (.load 4 (.tmp 214)) 4 (.bool i.hold) h1100 (hr := r_loadC (b := b3) (v := .bool i.hold) hB1094 0 13 (by kernel_rfl) (by kernel_rfl) (by kernel_rfl)) fun q1101 h1102 => ?_
                              clear h1100
                              refine eE 2 216 (.move (.tmp 215)) 4 (.bool i.hold) h1102 fun q1103 h1104 => ?_
                              clear h1102
                              refine wpO_cut [(3, false), (4, false), (5, false)] [(6, false), (7, false), (8, false), (9, false), (10, false), (11, false), (12, false), (13, false), (14, false), (15, false), (16, false), (17, false), (18, false), (19, false), (20, false), (21, false), (22, false), (23, false), (24, false), (25, false), (26, false), (27, false), (28, false), (29, false)] (fun qa qw => Fr 291 [(219, .bool (i.hold && (!(decide (i.kind < (3 : Int)))))), (3, .bool (decide (i.kind < (3 : Int)))), (2, .int .i64 0), (1, .pointer (some ⟨b3, 0, none⟩))] qa ∧ Bx w [(b3, .cells #[.string i.ref, .int .i64 i.kind, .string i.sender, .string i.cpty, .int .i64 i.side, .string i.asset, .int .i64 i.qty, .int .i64 i.amt, .int .i64 i.tday, .int .i64 i.sday, .int .i64 i.prio, .bool i.part, .int .i64 i.minlot, .bool i.hold, .bool i.resv, .slice A i.links.length c] 24 (0, 0))] qw) ?_ ?_
                              ·
                                rcases Bool.eq_false_or_eq_true i.hold with hc1105 | hc1105
                                ·
                                  refine eG 3 217 (.move (.tmp 3)) 4 (2, true) (.bool (decide (i.kind < (3 : Int)))) (g1 216 hc1105) h1104 fun q1106 h1107 => ?_
                                  clear h1104
                                  refine eG 4 218 (.unOp .not 4 (.tmp 217)) 4 (2, true) (.bool (!(decide (i.kind < (3 : Int))))) (g1 216 hc1105) h1107 fun q1108 h1109 => ?_
                                  clear h1107
                                  refine eE 5 219 (.pick (.tmp 216) (.tmp 218) (.const (.bool false))) 4 (.bool (i.hold && (!(decide (i.kind < (3 : Int)))))) h1109 (hr := r_and (c := i.hold) (d := (!(decide (i.kind < (3 : Int))))) (by kernel_rfl) (fun _ => by kernel_rfl)) fun q1110 h1111 => ?_
                                  clear h1109
                                  exact ⟨h1111.keep _ ⟨rfl, rfl, rfl, rfl, trivial⟩, hB1094⟩
                                ·
                                  refine kE 3 217 (2, true) (g3 216 hc1105) h1104 trivial fun q1112 h1113 => ?_
                                  clear h1104
                                  refine kE 4 218 (2, true) (g3 216 hc1105) h1113 trivial fun q1114 h1115 => ?_
                                  clear h1113
                                  refine eE 5 219 (.pick (.tmp 216) (.tmp 218) (.const (.bool false))) 4 (.bool (i.hold && (!(decide (i.kind < (3 : Int)))))) h1115 (hr := r_and (c := i.hold) (d := (!(decide (i.kind < (3 : Int))))) (by kernel_rfl) (fun e1118 => Bool.noConfusion (e1118.symm.trans hc1105))) fun q1116 h1117 => ?_
                                  clear h1115
                                  exact ⟨h1117.keep _ ⟨rfl, rfl, rfl, rfl, trivial⟩, hB1094⟩
                              rintro q1119 w1120 ⟨h1121, hB1122⟩
                              refine eE 6 220 (.move (.tmp 219)) 4 (.bool (i.hold && (!(decide (i.kind < (3 : Int)))))) h1121 fun q1123 h1124 => ?_
                              clear h1121
                              refine wpO_cut [(7, false), (8, false), (9, false), (10, false), (11, false), (12, false), (13, false), (14, false), (15, false), (16, false), (17, false), (18, false), (19, false)] [(20, false), (21, false), (22, false), (23, false), (24, false), (25, false), (26, false), (27, false), (28, false), (29, false)] (fun qa qw => Fr 291 [(233, .bool ((i.hold && (!(decide (i.kind < (3 : Int))))) || (i.resv && ((i.kind != (0 : Int)) || (i.prio != (2 : Int)))))), (3, .bool (decide (i.kind < (3 : Int)))), (2, .int .i64 0), (1, .pointer (some ⟨b3, 0, none⟩))] qa ∧ Bx w [(b3, .cells #[.string i.ref, .int .i64 i.kind, .string i.sender, .string i.cpty, .int .i64 i.side, .string i.asset, .int .i64 i.qty, .int .i64 i.amt, .int .i64 i.tday, .int .i64 i.sday, .int .i64 i.prio, .bool i.part, .int .i64 i.minlot, .bool i.hold, .bool i.resv, .slice A i.links.length c] 24 (0, 0))] qw) ?_ ?_
                              ·
                                rcases Bool.eq_false_or_eq_true (i.hold && (!(decide (i.kind < (3 : Int))))) with hc1125 | hc1125
                                ·
                                  refine kE 7 221 (6, false) (g4 220 hc1125) h1124 trivial fun q1126 h1127 => ?_
                                  clear h1124
                                  refine kE 8 222 (6, false) (g4 220 hc1125) h1127 trivial fun q1128 h1129 => ?_
                                  clear h1127
                                  refine kE 9 223 (6, false) (g4 220 hc1125) h1129 trivial fun q1130 h1131 => ?_
                                  clear h1129
                                  refine kE 10 224 (9, true) (g0 223) h1131 trivial fun q1132 h1133 => ?_
                                  clear h1131
                                  refine kE 11 225 (9, true) (g0 223) h1133 trivial fun q1134 h1135 => ?_
                                  clear h1133
                                  refine kE 12 226 (9, true) (g0 223) h1135 trivial fun q1136 h1137 => ?_
                                  clear h1135
                                  refine kE 13 227 (9, true) (g0 223) h1137 trivial fun q1138 h1139 => ?_
                                  clear h1137
                                  refine kE 14 228 (13, false) (g0 227) h1139 trivial fun q1140 h1141 => ?_
                                  clear h1139
                                  refine kE 15 229 (13, false) (g0 227) h1141 trivial fun q1142 h1143 => ?_
                                  clear h1141
                                  refine kE 16 230 (13, false) (g0 227) h1143 trivial fun q1144 h1145 => ?_
                                  clear h1143
                                  refine kE 17 231 (9, true) (g0 223) h1145 trivial fun q1146 h1147 => ?_
                                  clear h1145
                                  refine kE 18 232 (6, false) (g4 220 hc1125) h1147 trivial fun q1148 h1149 => ?_
                                  clear h1147
                                  refine eE 19 233 (.pick (.tmp 220) (.const (.bool true)) (.tmp 232)) 4 (.bool ((i.hold && (!(decide (i.kind < (3 : Int))))) || (i.resv && ((i.kind != (0 : Int)) || (i.prio != (2 : Int)))))) h1149 (hr := r_or (c := i.hold && (!(decide (i.kind < (3 : Int))))) (d := (i.resv && ((i.kind != (0 : Int)) || (i.prio != (2 : Int))))) (by kernel_rfl) (fun e1152 => Bool.noConfusion (e1152.symm.trans hc1125))) fun q1150 h1151 => ?_
                                  clear h1149
                                  exact ⟨h1151.keep _ ⟨rfl, rfl, rfl, rfl, trivial⟩, hB1122⟩
                                ·
                                  refine eG 7 221 (.fieldAddr 24 (.tmp 1) 14) 0 (6, false) (.pointer (some ⟨b3, 14, none⟩)) (g2 220 hc1125) h1124 fun q1153 h1154 => ?_
                                  clear h1124
                                  refine eG 8 222 (.load 4 (.tmp 221)) 4 (6, false) (.bool i.resv) (g2 220 hc1125) h1154 (hr := r_loadC (b := b3) (v := .bool i.resv) hB1122 0 14 (by kernel_rfl) (by kernel_rfl) (by kernel_rfl)) fun q1155 h1156 => ?_
                                  clear h1154
                                  refine eG 9 223 (.move (.tmp 222)) 4 (6, false) (.bool i.resv) (g2 220 hc1125) h1156 fun q1157 h1158 => ?_
                                  clear h1156
                                  refine wpO_cut [(10, false), (11, false), (12, false), (13, false), (14, false), (15, false), (16, false), (17, false), (18, false)] [(19, false)] (fun qa qw => Fr 291 [(232, .bool (i.resv && ((i.kind != (0 : Int)) || (i.prio != (2 : Int))))), (220, .bool (i.hold && (!(decide (i.kind < (3 : Int)))))), (3, .bool (decide (i.kind < (3 : Int)))), (2, .int .i64 0), (1, .pointer (some ⟨b3, 0, none⟩))] qa ∧ Bx w [(b3, .cells #[.string i.ref, .int .i64 i.kind, .string i.sender, .string i.cpty, .int .i64 i.side, .string i.asset, .int .i64 i.qty, .int .i64 i.amt, .int .i64 i.tday, .int .i64 i.sday, .int .i64 i.prio, .bool i.part, .int .i64 i.minlot, .bool i.hold, .bool i.resv, .slice A i.links.length c] 24 (0, 0))] qw) ?_ ?_
                                  ·
                                    rcases Bool.eq_false_or_eq_true i.resv with hc1159 | hc1159
                                    ·
                                      refine eG 10 224 (.fieldAddr 24 (.tmp 1) 1) 0 (9, true) (.pointer (some ⟨b3, 1, none⟩)) (g1 223 hc1159) h1158 fun q1160 h1161 => ?_
                                      clear h1158
                                      refine eG 11 225 (.load 3 (.tmp 224)) 3 (9, true) (.int .i64 i.kind) (g1 223 hc1159) h1161 (hr := r_loadC (b := b3) (v := .int .i64 i.kind) hB1122 0 1 (by kernel_rfl) (by kernel_rfl) (by kernel_rfl)) fun q1162 h1163 => ?_
                                      clear h1161
                                      refine eG 12 226 (.binOp .neq 3 (.tmp 225) (.const (.int .i64 0)) 3) 4 (9, true) (.bool (i.kind != (0 : Int))) (g1 223 hc1159) h1163 fun q1164 h1165 => ?_
                                      clear h1163
                                      refine eG 13 227 (.move (.tmp 226)) 4 (9, true) (.bool (i.kind != (0 : Int))) (g1 223 hc1159) h1165 fun q1166 h1167 => ?_
                                      clear h1165
                                      refine wpO_cut [(14, false), (15, false), (16, false), (17, false)] [(18, false)] (fun qa qw => Fr 291 [(231, .bool ((i.kind != (0 : Int)) || (i.prio != (2 : Int)))), (223, .bool i.resv), (220, .bool (i.hold && (!(decide (i.kind < (3 : Int)))))), (3, .bool (decide (i.kind < (3 : Int)))), (2, .int .i64 0), (1, .pointer (some ⟨b3, 0, none⟩))] qa ∧ Bx w [(b3, .cells #[.string i.ref, .int .i64 i.kind, .string i.sender, .string i.cpty, .int .i64 i.side, .string i.asset, .int .i64 i.qty, .int .i64 i.amt, .int .i64 i.tday, .int .i64 i.sday, .int .i64 i.prio, .bool i.part, .int .i64 i.minlot, .bool i.hold, .bool i.resv, .slice A i.links.length c] 24 (0, 0))] qw) ?_ ?_
                                      ·
                                        rcases Bool.eq_false_or_eq_true (i.kind != (0 : Int)) with hc1168 | hc1168
                                        ·
                                          refine kE 14 228 (13, false) (g4 227 hc1168) h1167 trivial fun q1169 h1170 => ?_
                                          clear h1167
                                          refine kE 15 229 (13, false) (g4 227 hc1168) h1170 trivial fun q1171 h1172 => ?_
                                          clear h1170
                                          refine kE 16 230 (13, false) (g4 227 hc1168) h1172 trivial fun q1173 h1174 => ?_
                                          clear h1172
                                          refine eG 17 231 (.pick (.tmp 227) (.const (.bool true)) (.tmp 230)) 4 (9, true) (.bool ((i.kind != (0 : Int)) || (i.prio != (2 : Int)))) (g1 223 hc1159) h1174 (hr := r_or (c := (i.kind != (0 : Int))) (d := (i.prio != (2 : Int))) (by kernel_rfl) (fun e1177 => Bool.noConfusion (e1177.symm.trans hc1168))) fun q1175 h1176 => ?_
                                          clear h1174
                                          exact ⟨h1176.keep _ ⟨rfl, rfl, rfl, rfl, rfl, rfl, trivial⟩, hB1122⟩
                                        ·
                                          refine eG 14 228 (.fieldAddr 24 (.tmp 1) 10) 0 (13, false) (.pointer (some ⟨b3, 10, none⟩)) (g2 227 hc1168) h1167 fun q1178 h1179 => ?_
                                          clear h1167
                                          refine eG 15 229 (.load 3 (.tmp 228)) 3 (13, false) (.int .i64 i.prio) (g2 227 hc1168) h1179 (hr := r_loadC (b := b3) (v := .int .i64 i.prio) hB1122 0 10 (by kernel_rfl) (by kernel_rfl) (by kernel_rfl)) fun q1180 h1181 => ?_
                                          clear h1179
                                          refine eG 16 230 (.binOp .neq 3 (.tmp 229) (.const (.int .i64 2)) 3) 4 (13, false) (.bool (i.prio != (2 : Int))) (g2 227 hc1168) h1181 fun q1182 h1183 => ?_
                                          clear h1181
                                          refine eG 17 231 (.pick (.tmp 227) (.const (.bool true)) (.tmp 230)) 4 (9, true) (.bool ((i.kind != (0 : Int)) || (i.prio != (2 : Int)))) (g1 223 hc1159) h1183 (hr := r_or (c := (i.kind != (0 : Int))) (d := (i.prio != (2 : Int))) (by kernel_rfl) (fun _ => by kernel_rfl)) fun q1184 h1185 => ?_
                                          clear h1183
                                          exact ⟨h1185.keep _ ⟨rfl, rfl, rfl, rfl, rfl, rfl, trivial⟩, hB1122⟩
                                      rintro q1186 w1187 ⟨h1188, hB1189⟩
                                      refine eG 18 232 (.pick (.tmp 223) (.tmp 231) (.const (.bool false))) 4 (6, false) (.bool (i.resv && ((i.kind != (0 : Int)) || (i.prio != (2 : Int))))) (g2 220 hc1125) h1188 (hr := r_and (c := i.resv) (d := ((i.kind != (0 : Int)) || (i.prio != (2 : Int)))) (by kernel_rfl) (fun _ => by kernel_rfl)) fun q1190 h1191 => ?_
                                      clear h1188
                                      exact ⟨h1191.keep _ ⟨rfl, rfl, rfl, rfl, rfl, trivial⟩, hB1189⟩
                                    ·
                                      refine kE 10 224 (9, true) (g3 223 hc1159) h1158 trivial fun q1192 h1193 => ?_
                                      clear h1158
                                      refine kE 11 225 (9, true) (g3 223 hc1159) h1193 trivial fun q1194 h1195 => ?_
                                      clear h1193
                                      refine kE 12 226 (9, true) (g3 223 hc1159) h1195 trivial fun q1196 h1197 => ?_
                                      clear h1195
                                      refine kE 13 227 (9, true) (g3 223 hc1159) h1197 trivial fun q1198 h1199 => ?_
                                      clear h1197
                                      refine kE 14 228 (13, false) (g0 227) h1199 trivial fun q1200 h1201 => ?_
                                      clear h1199
                                      refine kE 15 229 (13, false) (g0 227) h1201 trivial fun q1202 h1203 => ?_
                                      clear h1201
                                      refine kE 16 230 (13, false) (g0 227) h1203 trivial fun q1204 h1205 => ?_
                                      clear h1203
                                      refine kE 17 231 (9, true) (g3 223 hc1159) h1205 trivial fun q1206 h1207 => ?_
                                      clear h1205
                                      refine eG 18 232 (.pick (.tmp 223) (.tmp 231) (.const (.bool false))) 4 (6, false) (.bool (i.resv && ((i.kind != (0 : Int)) || (i.prio != (2 : Int))))) (g2 220 hc1125) h1207 (hr := r_and (c := i.resv) (d := ((i.kind != (0 : Int)) || (i.prio != (2 : Int)))) (by kernel_rfl) (fun e1210 => Bool.noConfusion (e1210.symm.trans hc1159))) fun q1208 h1209 => ?_
                                      clear h1207
                                      exact ⟨h1209.keep _ ⟨rfl, rfl, rfl, rfl, rfl, trivial⟩, hB1122⟩
                                  rintro q1211 w1212 ⟨h1213, hB1214⟩
                                  refine eE 19 233 (.pick (.tmp 220) (.const (.bool true)) (.tmp 232)) 4 (.bool ((i.hold && (!(decide (i.kind < (3 : Int))))) || (i.resv && ((i.kind != (0 : Int)) || (i.prio != (2 : Int)))))) h1213 (hr := r_or (c := i.hold && (!(decide (i.kind < (3 : Int))))) (d := (i.resv && ((i.kind != (0 : Int)) || (i.prio != (2 : Int))))) (by kernel_rfl) (fun _ => by kernel_rfl)) fun q1215 h1216 => ?_
                                  clear h1213
                                  exact ⟨h1216.keep _ ⟨rfl, rfl, rfl, rfl, trivial⟩, hB1214⟩
                              rintro q1217 w1218 ⟨h1219, hB1220⟩
                              refine eE 20 234 (.move (.tmp 233)) 4 (.bool ((i.hold && (!(decide (i.kind < (3 : Int))))) || (i.resv && ((i.kind != (0 : Int)) || (i.prio != (2 : Int)))))) h1219 fun q1221 h1222 => ?_
                              clear h1219
                              refine wpO_cut [(21, false), (22, false), (23, false), (24, false), (25, false), (26, false), (27, false), (28, false), (29, false)] [] (fun qa qw => Fr 291 [(243, .bool (((i.hold && (!(decide (i.kind < (3 : Int))))) || (i.resv && ((i.kind != (0 : Int)) || (i.prio != (2 : Int))))) || ((!(decide (i.kind < (3 : Int)))) && (decide ((0 : Int) < ((i.links.length : Nat) : Int)))))), (2, .int .i64 0), (1, .pointer (some ⟨b3, 0, none⟩))] qa ∧ Bx w [(b3, .cells #[.string i.ref, .int .i64 i.kind, .string i.sender, .string i.cpty, .int .i64 i.side, .string i.asset, .int .i64 i.qty, .int .i64 i.amt, .int .i64 i.tday, .int .i64 i.sday, .int .i64 i.prio, .bool i.part, .int .i64 i.minlot, .bool i.hold, .bool i.resv, .slice A i.links.length c] 24 (0, 0))] qw) ?_ ?_
                              ·
                                rcases Bool.eq_false_or_eq_true ((i.hold && (!(decide (i.kind < (3 : Int))))) || (i.resv && ((i.kind != (0 : Int)) || (i.prio != (2 : Int))))) with hc1223 | hc1223
                                ·
                                  refine kE 21 235 (20, false) (g4 234 hc1223) h1222 trivial fun q1224 h1225 => ?_
                                  clear h1222
                                  refine kE 22 236 (20, false) (g4 234 hc1223) h1225 trivial fun q1226 h1227 => ?_
                                  clear h1225
                                  refine kE 23 237 (20, false) (g4 234 hc1223) h1227 trivial fun q1228 h1229 => ?_
                                  clear h1227
                                  refine kE 24 238 (23, true) (g0 237) h1229 trivial fun q1230 h1231 => ?_
                                  clear h1229
                                  refine kE 25 239 (23, true) (g0 237) h1231 trivial fun q1232 h1233 => ?_
                                  clear h1231
                                  refine kE 26 240 (23, true) (g0 237) h1233 trivial fun q1234 h1235 => ?_
                                  clear h1233
                                  refine kE 27 241 (23, true) (g0 237) h1235 trivial fun q1236 h1237 => ?_
                                  clear h1235
                                  refine kE 28 242 (20, false) (g4 234 hc1223) h1237 trivial fun q1238 h1239 => ?_
                                  clear h1237
                                  refine eE 29 243 (.pick (.tmp 234) (.const (.bool true)) (.tmp 242)) 4 (.bool (((i.hold && (!(decide (i.kind < (3 : Int))))) || (i.resv && ((i.kind != (0 : Int)) || (i.prio != (2 : Int))))) || ((!(decide (i.kind < (3 : Int)))) && (decide ((0 : Int) < ((i.links.length : Nat) : Int)))))) h1239 (hr := r_or (c := (i.hold && (!(decide (i.kind < (3 : Int))))) || (i.resv && ((i.kind != (0 : Int)) || (i.prio != (2 : Int))))) (d := ((!(decide (i.kind < (3 : Int)))) && (decide ((0 : Int) < ((i.links.length : Nat) : Int))))) (by kernel_rfl) (fun e1242 => Bool.noConfusion (e1242.symm.trans hc1223))) fun q1240 h1241 => ?_
                                  clear h1239
                                  exact ⟨h1241.keep _ ⟨rfl, rfl, rfl, trivial⟩, hB1220⟩
                                ·
                                  refine eG 21 235 (.move (.tmp 3)) 4 (20, false) (.bool (decide (i.kind < (3 : Int)))) (g2 234 hc1223) h1222 fun q1243 h1244 => ?_
                                  clear h1222
                                  refine eG 22 236 (.unOp .not 4 (.tmp 235)) 4 (20, false) (.bool (!(decide (i.kind < (3 : Int))))) (g2 234 hc1223) h1244 fun q1245 h1246 => ?_
                                  clear h1244
                                  refine eG 23 237 (.move (.tmp 236)) 4 (20, false) (.bool (!(decide (i.kind < (3 : Int))))) (g2 234 hc1223) h1246 fun q1247 h1248 => ?_
                                  clear h1246
                                  refine wpO_cut [(24, false), (25, false), (26, false), (27, false), (28, false)] [(29, false)] (fun qa qw => Fr 291 [(242, .bool ((!(decide (i.kind < (3 : Int)))) && (decide ((0 : Int) < ((i.links.length : Nat) : Int))))), (234, .bool ((i.hold && (!(decide (i.kind < (3 : Int))))) || (i.resv && ((i.kind != (0 : Int)) || (i.prio != (2 : Int)))))), (2, .int .i64 0), (1, .pointer (some ⟨b3, 0, none⟩))] qa ∧ Bx w [(b3, .cells #[.string i.ref, .int .i64 i.kind, .string i.sender, .string i.cpty, .int .i64 i.side, .string i.asset, .int .i64 i.qty, .int .i64 i.amt, .int .i64 i.tday, .int .i64 i.sday, .int .i64 i.prio, .bool i.part, .int .i64 i.minlot, .bool i.hold, .bool i.resv, .slice A i.links.length c] 24 (0, 0))] qw) ?_ ?_
                                  ·
                                    rcases Bool.eq_false_or_eq_true (!(decide (i.kind < (3 : Int)))) with hc1249 | hc1249
                                    ·
                                      refine eG 24 238 (.fieldAddr 24 (.tmp 1) 15) 0 (23, true) (.pointer (some ⟨b3, 15, none⟩)) (g1 237 hc1249) h1248 fun q1250 h1251 => ?_
                                      clear h1248
                                      refine eG 25 239 (.load 22 (.tmp 238)) 22 (23, true) (.slice A i.links.length c) (g1 237 hc1249) h1251 (hr := r_loadC (b := b3) (v := .slice A i.links.length c) hB1220 0 15 (by kernel_rfl) (by kernel_rfl) (by kernel_rfl)) fun q1252 h1253 => ?_
                                      clear h1251
                                      refine eG 26 240 (.call { callee := .builtin .len, args := #[.tmp 239], argTypes := #[22] }) 3 (23, true) (.int .i64 ((i.links.length : Nat) : Int)) (g1 237 hc1249) h1253 fun q1254 h1255 => ?_
                                      clear h1253
                                      refine eG 27 241 (.binOp .gtr 3 (.tmp 240) (.const (.int .i64 0)) 3) 4 (23, true) (.bool (decide ((0 : Int) < ((i.links.length : Nat) : Int)))) (g1 237 hc1249) h1255 fun q1256 h1257 => ?_
                                      clear h1255
                                      refine eG 28 242 (.pick (.tmp 237) (.tmp 241) (.const (.bool false))) 4 (20, false) (.bool ((!(decide (i.kind < (3 : Int)))) && (decide ((0 : Int) < ((i.links.length : Nat) : Int))))) (g2 234 hc1223) h1257 (hr := r_and (c := !(decide (i.kind < (3 : Int)))) (d := (decide ((0 : Int) < ((i.links.length : Nat) : Int)))) (by kernel_rfl) (fun _ => by kernel_rfl)) fun q1258 h1259 => ?_
                                      clear h1257
                                      exact ⟨h1259.keep _ ⟨rfl, rfl, rfl, rfl, trivial⟩, hB1220⟩
                                    ·
                                      refine kE 24 238 (23, true) (g3 237 hc1249) h1248 trivial fun q1260 h1261 => ?_
                                      clear h1248
                                      refine kE 25 239 (23, true) (g3 237 hc1249) h1261 trivial fun q1262 h1263 => ?_
                                      clear h1261
                                      refine kE 26 240 (23, true) (g3 237 hc1249) h1263 trivial fun q1264 h1265 => ?_
                                      clear h1263
                                      refine kE 27 241 (23, true) (g3 237 hc1249) h1265 trivial fun q1266 h1267 => ?_
                                      clear h1265
                                      refine eG 28 242 (.pick (.tmp 237) (.tmp 241) (.const (.bool false))) 4 (20, false) (.bool ((!(decide (i.kind < (3 : Int)))) && (decide ((0 : Int) < ((i.links.length : Nat) : Int))))) (g2 234 hc1223) h1267 (hr := r_and (c := !(decide (i.kind < (3 : Int)))) (d := (decide ((0 : Int) < ((i.links.length : Nat) : Int)))) (by kernel_rfl) (fun e1270 => Bool.noConfusion (e1270.symm.trans hc1249))) fun q1268 h1269 => ?_
                                      clear h1267
                                      exact ⟨h1269.keep _ ⟨rfl, rfl, rfl, rfl, trivial⟩, hB1220⟩
                                  rintro q1271 w1272 ⟨h1273, hB1274⟩
                                  refine eE 29 243 (.pick (.tmp 234) (.const (.bool true)) (.tmp 242)) 4 (.bool (((i.hold && (!(decide (i.kind < (3 : Int))))) || (i.resv && ((i.kind != (0 : Int)) || (i.prio != (2 : Int))))) || ((!(decide (i.kind < (3 : Int)))) && (decide ((0 : Int) < ((i.links.length : Nat) : Int)))))) h1273 (hr := r_or (c := (i.hold && (!(decide (i.kind < (3 : Int))))) || (i.resv && ((i.kind != (0 : Int)) || (i.prio != (2 : Int))))) (d := ((!(decide (i.kind < (3 : Int)))) && (decide ((0 : Int) < ((i.links.length : Nat) : Int))))) (by kernel_rfl) (fun _ => by kernel_rfl)) fun q1275 h1276 => ?_
                                  clear h1273
                                  exact ⟨h1276.keep _ ⟨rfl, rfl, rfl, trivial⟩, hB1274⟩
                              rintro q1277 w1278 ⟨h1279, hB1280⟩
                              refine wpO_end ?_
                              refine then_n ?_
                              refine c_cond (t := 243) (b := ((i.hold && (!(decide (i.kind < (3 : Int))))) || (i.resv && ((i.kind != (0 : Int)) || (i.prio != (2 : Int))))) || ((!(decide (i.kind < (3 : Int)))) && (decide ((0 : Int) < ((i.links.length : Nat) : Int))))) h1279 (by kernel_rfl) (by kernel_rfl) (fun hc1281 => ?_) (fun hc1281 => ?_)
                              ·
                                refine c_seq (by kernel_rfl) ?_
                                refine reg_plain [(0, false)] (by kernel_rfl) (by kernel_rfl) ?_
                                refine eE 0 2 (.assign (.const (.int .i64 3))) 3 (.int .i64 3) h1279 fun q1282 h1283 => ?_
                                clear h1279
                                refine wpO_end ?_
                                have h1284 := h1283.keep [(2, .int .i64 3), (1, .pointer (some ⟨b3, 0, none⟩))] ⟨rfl, rfl, trivial⟩
                                clear h1283
                                refine then_n ?_
                                refine c_ret (by kernel_rfl) ?_
                                refine then_r ?_
                                refine ret1 (t := 2) (v := .int .i64 3) h1284 (by kernel_rfl) (by kernel_rfl) ?_
                                exact ⟨ret_eq (congrArg (Value.int .i64) (show refI i = 3 from (cF hc39).trans ((cF hc128).trans ((cF hc160).trans ((cF hc197).trans ((cF hc235).trans ((cF hc269).trans ((cF hc301).trans ((cF hc402).trans ((cF hc538).trans ((cF hc664).trans ((cF hc843).trans ((cF hc931).trans ((cF hc959).trans ((cF hc1095).trans (cT hc1281))))))))))))))).symm), hB1280.bel⟩
                              ·
                                refine c_skip (by kernel_rfl) ?_
                                refine then_n ?_
                                refine c_seq (by kernel_rfl) ?_
                                refine c_seq (by kernel_rfl) ?_
                                refine reg_plain [(0, false), (1, false), (2, false), (3, false)] (by kernel_rfl) (by kernel_rfl) ?_
                                refine eE 0 244 (.fieldAddr 24 (.tmp 1) 15) 0 (.pointer (some ⟨b3, 15, none⟩)) h1279 fun q1285 h1286 => ?_
                                clear h1279
                                refine eE 1 245 (.load 22 (.tmp 244)) 22 (.slice A i.links.length c) h1286 (hr := r_loadC (b := b3) (v := .slice A i.links.length c) hB1280 0 15 (by kernel_rfl) (by kernel_rfl) (by kernel_rfl)) fun q1287 h1288 => ?_
                                clear h1286
                                refine eE 2 246 (.call { callee := .builtin .len, args := #[.tmp 245], argTypes := #[22] }) 3 (.int .i64 ((i.links.length : Nat) : Int)) h1288 fun q1289 h1290 => ?_
                                clear h1288
                                refine eE 3 247 (.binOp .gtr 3 (.tmp 246) (.const (.int .i64 8)) 3) 4 (.bool (decide ((8 : Int) < ((i.links.length : Nat) : Int)))) h1290 fun q1291 h1292 => ?_
                                clear h1290
                                refine wpO_end ?_
                                have h1293 := h1292.keep [(247, .bool (decide ((8 : Int) < ((i.links.length : Nat) : Int)))), (2, .int .i64 0), (1, .pointer (some ⟨b3, 0, none⟩))] ⟨rfl, rfl, rfl, trivial⟩
                                clear h1292
                                refine then_n ?_
                                refine c_cond (t := 247) (b := decide ((8 : Int) < ((i.links.length : Nat) : Int))) h1293 (by kernel_rfl) (by kernel_rfl) (fun hc1294 => ?_) (fun hc1294 => ?_)
                                ·
                                  have hp1295 : ((8 : Int) < ((i.links.length : Nat) : Int)) := of_decide_eq_true hc1294
                                  refine c_seq (by kernel_rfl) ?_
                                  refine reg_plain [(0, false)] (by kernel_rfl) (by kernel_rfl) ?_
                                  refine eE 0 2 (.assign (.const (.int .i64 8))) 3 (.int .i64 8) h1293 fun q1296 h1297 => ?_
                                  clear h1293
                                  refine wpO_end ?_
                                  have h1298 := h1297.keep [(2, .int .i64 8), (1, .pointer (some ⟨b3, 0, none⟩))] ⟨rfl, rfl, trivial⟩
                                  clear h1297
                                  refine then_n ?_
                                  refine c_ret (by kernel_rfl) ?_
                                  refine then_r ?_
                                  refine ret1 (t := 2) (v := .int .i64 8) h1298 (by kernel_rfl) (by kernel_rfl) ?_
                                  exact ⟨ret_eq (congrArg (Value.int .i64) (show refI i = 8 from (cF hc39).trans ((cF hc128).trans ((cF hc160).trans ((cF hc197).trans ((cF hc235).trans ((cF hc269).trans ((cF hc301).trans ((cF hc402).trans ((cF hc538).trans ((cF hc664).trans ((cF hc843).trans ((cF hc931).trans ((cF hc959).trans ((cF hc1095).trans ((cF hc1281).trans (cT hc1294)))))))))))))))).symm), hB1280.bel⟩
                                ·
                                  have hp1299 : ¬ ((8 : Int) < ((i.links.length : Nat) : Int)) := of_decide_eq_false hc1294
                                  refine c_skip (by kernel_rfl) ?_
                                  refine then_n ?_
                                  refine c_seq (by kernel_rfl) ?_
                                  refine c_seq (by kernel_rfl) ?_
                                  refine reg_plain [(0, false)] (by kernel_rfl) (by kernel_rfl) ?_
                                  refine eE 0 5 (.assign (.const (.int .i64 0))) 3 (.int .i64 0) h1293 fun q1300 h1301 => ?_
                                  clear h1293
                                  refine wpO_end ?_
                                  have h1302 := h1301.keep [(5, .int .i64 0), (2, .int .i64 0), (1, .pointer (some ⟨b3, 0, none⟩))] ⟨rfl, rfl, rfl, trivial⟩
                                  clear h1301
                                  refine then_n ?_
                                  refine c_block 0 (by kernel_rfl) ?_
                                  have htop : refI i = refL i 0 i.links := (cF hc39).trans ((cF hc128).trans ((cF hc160).trans ((cF hc197).trans ((cF hc235).trans ((cF hc269).trans ((cF hc301).trans ((cF hc402).trans ((cF hc538).trans ((cF hc664).trans ((cF hc843).trans ((cF hc931).trans ((cF hc959).trans ((cF hc1095).trans ((cF hc1281).trans (cF hc1294)))))))))))))))
                                  refine c_loop (by kernel_rfl) (fun qa qw => ∃ k : Nat, (k ≤ i.links.length) ∧ Fr 291 [(1, .pointer (some ⟨b3, 0, none⟩)), (2, .int .i64 0), (5, .int .i64 ((k : Nat) : Int))] qa ∧ Bx w [(b3, .cells #[.string i.ref, .int .i64 i.kind, .string i.sender, .string i.cpty, .int .i64 i.side, .string i.asset, .int .i64 i.qty, .int .i64 i.amt, .int .i64 i.tday, .int .i64 i.sday, .int .i64 i.prio, .bool i.part, .int .i64 i.minlot, .bool i.hold, .bool i.resv, .slice A i.links.length c] 24 (0, 0))] qw ∧ (refL i 0 i.links = refL i k (i.links.drop k))) (fun qa _ => (((i.links.length : Int)) - intAt qa 5).toNat) ⟨0, Nat.zero_le _, h1302.keep _ ⟨rfl, rfl, rfl, trivial⟩, hB1280, rfl⟩ ?_
                                  rintro q1303 w1304 ⟨k, hk1307, h1305, hB1306, hx1309⟩
                                  have hm1308 := h1305.int (k := 5) (kd := .i64) (z := ((k : Nat) : Int)) rfl
                                  clear h1302 hB1280
                                  refine c_seq (by kernel_rfl) ?_
                                  refine c_seq (by kernel_rfl) ?_
                                  refine reg_plain [(0, false), (1, false), (2, false), (3, false), (4, false)] (by kernel_rfl) (by kernel_rfl) ?_
                                  refine eE 0 248 (.move (.tmp 5)) 3 (.int .i64 ((k : Nat) : Int)) h1305 fun q1310 h1311 => ?_
                                  clear h1305
                                  refine eE 1 249 (.fieldAddr 24 (.tmp 1) 15) 0 (.pointer (some ⟨b3, 15, none⟩)) h1311 fun q1312 h1313 => ?_
                                  clear h1311
                                  refine eE 2 250 (.load 22 (.tmp 249)) 22 (.slice A i.links.length c) h1313 (hr := r_loadC (b := b3) (v := .slice A i.links.length c) hB1306 0 15 (by kernel_rfl) (by kernel_rfl) (by kernel_rfl)) fun q1314 h1315 => ?_
                                  clear h1313
                                  refine eE 3 251 (.call { callee := .builtin .len, args := #[.tmp 250], argTypes := #[22] }) 3 (.int .i64 ((i.links.length : Nat) : Int)) h1315 fun q1316 h1317 => ?_
                                  clear h1315
                                  refine eE 4 252 (.binOp .lss 3 (.tmp 248) (.tmp 251) 3) 4 (.bool (decide (((k : Nat) : Int) < ((i.links.length : Nat) : Int)))) h1317 fun q1318 h1319 => ?_
                                  clear h1317
                                  refine wpO_end ?_
                                  refine then_n ?_
                                  refine c_cond (t := 252) (b := decide (((k : Nat) : Int) < ((i.links.length : Nat) : Int))) h1319 (by kernel_rfl) (by kernel_rfl) (fun hc1320 => ?_) (fun hc1320 => ?_)
                                  ·
                                    have hp1321 : (((k : Nat) : Int) < ((i.links.length : Nat) : Int)) := of_decide_eq_true hc1320
                                    have hlt : k < i.links.length := by omega
                                    obtain ⟨x, hx⟩ : ∃ x, i.links[k]? = some x := ⟨i.links[k], List.getElem?_eq_getElem hlt⟩
                                    obtain ⟨ad, hA, hE0⟩ := hr.el (k * 2) [.int .i64 x.t, .string x.r] (by simp) (lkc_el i.links k x hx)
                                    subst hA
                                    refine c_skip (by kernel_rfl) ?_
                                    refine then_n ?_
                                    refine c_seq (by kernel_rfl) ?_
                                    refine c_block 1 (by kernel_rfl) ?_
                                    refine c_seq (by kernel_rfl) ?_
                                    refine reg_plain [(0, false), (1, false), (2, false), (3, false), (4, false), (5, false), (6, false)] (by kernel_rfl) (by kernel_rfl) ?_
                                    refine eE 0 255 (.fieldAddr 24 (.tmp 1) 15) 0 (.pointer (some ⟨b3, 15, none⟩)) h1319 fun q1322 h1323 => ?_
                                    clear h1319
                                    refine eE 1 256 (.load 22 (.tmp 255)) 22 (.slice (some ad) i.links.length c) h1323 (hr := r_loadC (b := b3) (v := .slice (some ad) i.links.length c) hB1306 0 15 (by kernel_rfl) (by kernel_rfl) (by kernel_rfl)) fun q1324 h1325 => ?_
                                    clear h1323
                                    refine eE 2 257 (.move (.tmp 5)) 3 (.int .i64 ((k : Nat) : Int)) h1325 fun q1326 h1327 => ?_
                                    clear h1325
                                    refine eE 3 258 (.indexAddr 22 (.tmp 256) (.tmp 257)) 0 (.pointer (some ((ad.add (k * 2)).add 0))) h1327 (hr := r_index0 (n := i.links.length) (c := c) (kd := .i64) (by kernel_rfl) (by kernel_rfl) hlt (by kernel_rfl)) fun q1328 h1329 => ?_
                                    clear h1327
                                    refine eE 4 259 (.load 67 (.tmp 258)) 67 (.agg #[.int .i64 x.t, .string x.r]) h1329 (hr := r_loadE (o := 0) (vs := [.int .i64 x.t, .string x.r]) (hE0.below hB1306.bel) (by kernel_rfl) (by kernel_rfl) (by kernel_rfl)) fun q1330 h1331 => ?_
                                    clear h1329
                                    refine stA (i := 5) (d := 6) (op := Op.alloc 67) (ty := 0) (g := none) (mk := fun b => .pointer (some ⟨b, 0, none⟩)) (o := .cells #[.int .i64 0, .string (⟨#[]⟩ : ByteArray)] 67 (0, 0)) h1331 (by kernel_rfl) (by kernel_rfl) (by kernel_rfl) gok_none (fun _ => by kernel_rfl) hB1306 (fun _ _ hq => trivial) (fun b1334 w1335 hB1336 hN q1332 h1333 => ?_)
                                    clear h1331 hB1306 hN
                                    refine stWs (i := 6) (ty := 0) (t := 67) (x := Operand.tmp 6) (y := Operand.tmp 259) (g := none) 0 0 (b := b1334) (T := 67) (cs := [.int .i64 0, .string (⟨#[]⟩ : ByteArray)]) (vs := [.int .i64 x.t, .string x.r]) (cs' := [.int .i64 x.t, .string x.r]) h1333 (by kernel_rfl) (by kernel_rfl) gok_none hB1336 (by kernel_rfl) (by kernel_rfl) (by kernel_rfl) (by kernel_rfl) (by kernel_rfl) (by kernel_rfl) (by kernel_rfl) (.inr fun _ _ => trivial) (fun w1339 hB1340 hT q1337 h1338 => ?_)
                                    replace hB1340 : Bx w [(b1334, .cells #[.int .i64 x.t, .string x.r] 67 (0, 0)), (b3, .cells #[.string i.ref, .int .i64 i.kind, .string i.sender, .string i.cpty, .int .i64 i.side, .string i.asset, .int .i64 i.qty, .int .i64 i.amt, .int .i64 i.tday, .int .i64 i.sday, .int .i64 i.prio, .bool i.part, .int .i64 i.minlot, .bool i.hold, .bool i.resv, .slice (some ad) i.links.length c] 24 (0, 0))] w1339 := hB1340
                                    clear h1333 hB1336
                                    clear hT
                                    refine wpO_end ?_
                                    refine then_n ?_
                                    refine c_seq (by kernel_rfl) ?_
                                    refine c_seq (by kernel_rfl) ?_
                                    refine reg_plain [(0, false), (1, false), (2, false), (3, false), (4, false), (5, false), (6, false), (7, false)] (by kernel_rfl) (by kernel_rfl) ?_
                                    refine eE 0 260 (.fieldAddr 67 (.tmp 6) 0) 0 (.pointer (some ⟨b1334, 0, none⟩)) h1338 fun q1341 h1342 => ?_
                                    clear h1338
                                    refine eE 1 261 (.load 3 (.tmp 260)) 3 (.int .i64 x.t) h1342 (hr := r_loadC (b := b1334) (v := .int .i64 x.t) hB1340 0 0 (by kernel_rfl) (by kernel_rfl) (by kernel_rfl)) fun q1343 h1344 => ?_
                                    clear h1342
                                    refine eE 2 262 (.binOp .neq 3 (.tmp 261) (.const (.int .i64 0)) 3) 4 (.bool (x.t != (0 : Int))) h1344 fun q1345 h1346 => ?_
                                    clear h1344
                                    refine eE 3 263 (.move (.tmp 262)) 4 (.bool (x.t != (0 : Int))) h1346 fun q1347 h1348 => ?_
                                    clear h1346
                                    refine wpO_cut [(4, false), (5, false), (6, false), (7, false)] [] (fun qa qw => Fr 291 [(267, .bool ((x.t != (0 : Int)) && (x.t != (1 : Int)))), (263, .bool (x.t != (0 : Int))), (262, .bool (x.t != (0 : Int))), (261, .int .i64 x.t), (260, .pointer (some ⟨b1334, 0, none⟩)), (6, .pointer (some ⟨b1334, 0, none⟩)), (259, .agg #[.int .i64 x.t, .string x.r]), (258, .pointer (some ((ad.add (k * 2)).add 0))), (257, .int .i64 ((k : Nat) : Int)), (256, .slice (some ad) i.links.length c), (255, .pointer (some ⟨b3, 15, none⟩)), (252, .bool (decide (((k : Nat) : Int) < ((i.links.length : Nat) : Int)))), (251, .int .i64 ((i.links.length : Nat) : Int)), (250, .slice (some ad) i.links.length c), (249, .pointer (some ⟨b3, 15, none⟩)), (248, .int .i64 ((k : Nat) : Int)), (1, .pointer (some ⟨b3, 0, none⟩)), (2, .int .i64 0), (5, .int .i64 ((k : Nat) : Int))] qa ∧ Bx w [(b1334, .cells #[.int .i64 x.t, .string x.r] 67 (0, 0)), (b3, .cells #[.string i.ref, .int .i64 i.kind, .string i.sender, .string i.cpty, .int .i64 i.side, .string i.asset, .int .i64 i.qty, .int .i64 i.amt, .int .i64 i.tday, .int .i64 i.sday, .int .i64 i.prio, .bool i.part, .int .i64 i.minlot, .bool i.hold, .bool i.resv, .slice (some ad) i.links.length c] 24 (0, 0))] qw) ?_ ?_
                                    ·
                                      rcases Bool.eq_false_or_eq_true (x.t != (0 : Int)) with hc1349 | hc1349
                                      ·
                                        refine eG 4 264 (.fieldAddr 67 (.tmp 6) 0) 0 (3, true) (.pointer (some ⟨b1334, 0, none⟩)) (g1 263 hc1349) h1348 fun q1350 h1351 => ?_
                                        clear h1348
                                        refine eG 5 265 (.load 3 (.tmp 264)) 3 (3, true) (.int .i64 x.t) (g1 263 hc1349) h1351 (hr := r_loadC (b := b1334) (v := .int .i64 x.t) hB1340 0 0 (by kernel_rfl) (by kernel_rfl) (by kernel_rfl)) fun q1352 h1353 => ?_
                                        clear h1351
                                        refine eG 6 266 (.binOp .neq 3 (.tmp 265) (.const (.int .i64 1)) 3) 4 (3, true) (.bool (x.t != (1 : Int))) (g1 263 hc1349) h1353 fun q1354 h1355 => ?_
                                        clear h1353
                                        refine eE 7 267 (.pick (.tmp 263) (.tmp 266) (.const (.bool false))) 4 (.bool ((x.t != (0 : Int)) && (x.t != (1 : Int)))) h1355 (hr := r_and (c := (x.t != (0 : Int))) (d := (x.t != (1 : Int))) (by kernel_rfl) (fun _ => by kernel_rfl)) fun q1356 h1357 => ?_
                                        clear h1355
                                        exact ⟨h1357.keep _ ⟨rfl, rfl, rfl, rfl, rfl, rfl, rfl, rfl, rfl, rfl, rfl, rfl, rfl, rfl, rfl, rfl, rfl, rfl, rfl, trivial⟩, hB1340⟩
                                      ·
                                        refine kE 4 264 (3, true) (g3 263 hc1349) h1348 trivial fun q1358 h1359 => ?_
                                        clear h1348
                                        refine kE 5 265 (3, true) (g3 263 hc1349) h1359 trivial fun q1360 h1361 => ?_
                                        clear h1359
                                        refine kE 6 266 (3, true) (g3 263 hc1349) h1361 trivial fun q1362 h1363 => ?_
                                        clear h1361
                                        refine eE 7 267 (.pick (.tmp 263) (.tmp 266) (.const (.bool false))) 4 (.bool ((x.t != (0 : Int)) && (x.t != (1 : Int)))) h1363 (hr := r_and (c := (x.t != (0 : Int))) (d := (x.t != (1 : Int))) (by kernel_rfl) (fun e1366 => Bool.noConfusion (e1366.symm.trans hc1349))) fun q1364 h1365 => ?_
                                        clear h1363
                                        exact ⟨h1365.keep _ ⟨rfl, rfl, rfl, rfl, rfl, rfl, rfl, rfl, rfl, rfl, rfl, rfl, rfl, rfl, rfl, rfl, rfl, rfl, rfl, trivial⟩, hB1340⟩
                                    rintro q1367 w1368 ⟨h1369, hB1370⟩
                                    refine wpO_end ?_
                                    refine then_n ?_
                                    refine c_cond (t := 267) (b := (x.t != (0 : Int)) && (x.t != (1 : Int))) h1369 (by kernel_rfl) (by kernel_rfl) (fun hc1371 => ?_) (fun hc1371 => ?_)
                                    ·
                                      refine c_seq (by kernel_rfl) ?_
                                      refine reg_plain [(0, false)] (by kernel_rfl) (by kernel_rfl) ?_
                                      refine eE 0 2 (.assign (.const (.int .i64 11))) 3 (.int .i64 11) h1369 fun q1372 h1373 => ?_
                                      clear h1369
                                      refine wpO_end ?_
                                      have h1374 := h1373.keep [(2, .int .i64 11), (267, .bool ((x.t != (0 : Int)) && (x.t != (1 : Int)))), (263, .bool (x.t != (0 : Int))), (262, .bool (x.t != (0 : Int))), (261, .int .i64 x.t), (260, .pointer (some ⟨b1334, 0, none⟩)), (6, .pointer (some ⟨b1334, 0, none⟩)), (259, .agg #[.int .i64 x.t, .string x.r]), (258, .pointer (some ((ad.add (k * 2)).add 0))), (257, .int .i64 ((k : Nat) : Int)), (256, .slice (some ad) i.links.length c), (255, .pointer (some ⟨b3, 15, none⟩)), (252, .bool (decide (((k : Nat) : Int) < ((i.links.length : Nat) : Int)))), (251, .int .i64 ((i.links.length : Nat) : Int)), (250, .slice (some ad) i.links.length c), (249, .pointer (some ⟨b3, 15, none⟩)), (248, .int .i64 ((k : Nat) : Int)), (1, .pointer (some ⟨b3, 0, none⟩)), (5, .int .i64 ((k : Nat) : Int))] ⟨rfl, rfl, rfl, rfl, rfl, rfl, rfl, rfl, rfl, rfl, rfl, rfl, rfl, rfl, rfl, rfl, rfl, rfl, rfl, trivial⟩
                                      clear h1373
                                      refine then_n ?_
                                      refine c_ret (by kernel_rfl) ?_
                                      refine then_r (inB_r (then_r (then_r (inB_r (then_r ?_)))))
                                      refine ret1 (t := 2) (v := .int .i64 11) h1374 (by kernel_rfl) (by kernel_rfl) ?_
                                      exact ⟨ret_eq (congrArg (Value.int .i64) (show refI i = 11 from htop.trans (hx1309.trans ((refL_at i k x hx).trans (cT hc1371)))).symm), hB1370.bel⟩
                                    ·
                                      refine c_skip (by kernel_rfl) ?_
                                      refine then_n ?_
                                      refine c_seq (by kernel_rfl) ?_
                                      refine c_seq (by kernel_rfl) ?_
                                      refine reg_plain [(0, false), (1, false), (2, false), (3, false)] (by kernel_rfl) (by kernel_rfl) ?_
                                      refine eE 0 268 (.fieldAddr 67 (.tmp 6) 1) 0 (.pointer (some ⟨b1334, 1, none⟩)) h1369 fun q1375 h1376 => ?_
                                      clear h1369
                                      refine eE 1 269 (.load 9 (.tmp 268)) 9 (.string x.r) h1376 (hr := r_loadC (b := b1334) (v := .string x.r) hB1370 0 1 (by kernel_rfl) (by kernel_rfl) (by kernel_rfl)) fun q1377 h1378 => ?_
                                      clear h1376
                                      refine stC (i := 2) (d := 270) (op := Op.call { callee := Callee.value (Operand.func 50), args := #[Operand.const (Value.int IntKind.i64 2), Operand.tmp 269], argTypes := #[3, 9] }) (ty := 4) (g := none) (f := 50) (args := #[.int .i64 2, .string x.r]) (w1 := w1368) h1378 (by kernel_rfl) (by kernel_rfl) (by kernel_rfl) gok_none (by kernel_rfl) (c50_2 x.r w1368) ?_
                                      rintro _ w1381 ⟨rfl, hb1382⟩
                                      have hB1383 := hB1370.call hb1382
                                      refine ⟨_, rfl, trivial, fun q1379 h1380 => ?_⟩
                                      clear h1378 hB1370 hb1382
                                      refine eE 3 271 (.unOp .not 4 (.tmp 270)) 4 (.bool (!(rfB x.r))) h1380 fun q1384 h1385 => ?_
                                      clear h1380
                                      refine wpO_end ?_
                                      refine then_n ?_
                                      refine c_cond (t := 271) (b := !(rfB x.r)) h1385 (by kernel_rfl) (by kernel_rfl) (fun hc1386 => ?_) (fun hc1386 => ?_)
                                      ·
                                        refine c_seq (by kernel_rfl) ?_
                                        refine reg_plain [(0, false)] (by kernel_rfl) (by kernel_rfl) ?_
                                        refine eE 0 2 (.assign (.const (.int .i64 6))) 3 (.int .i64 6) h1385 fun q1387 h1388 => ?_
                                        clear h1385
                                        refine wpO_end ?_
                                        have h1389 := h1388.keep [(2, .int .i64 6), (271, .bool (!(rfB x.r))), (270, .bool (rfB x.r)), (269, .string x.r), (268, .pointer (some ⟨b1334, 1, none⟩)), (267, .bool ((x.t != (0 : Int)) && (x.t != (1 : Int)))), (263, .bool (x.t != (0 : Int))), (262, .bool (x.t != (0 : Int))), (261, .int .i64 x.t), (260, .pointer (some ⟨b1334, 0, none⟩)), (6, .pointer (some ⟨b1334, 0, none⟩)), (259, .agg #[.int .i64 x.t, .string x.r]), (258, .pointer (some ((ad.add (k * 2)).add 0))), (257, .int .i64 ((k : Nat) : Int)), (256, .slice (some ad) i.links.length c), (255, .pointer (some ⟨b3, 15, none⟩)), (252, .bool (decide (((k : Nat) : Int) < ((i.links.length : Nat) : Int)))), (251, .int .i64 ((i.links.length : Nat) : Int)), (250, .slice (some ad) i.links.length c), (249, .pointer (some ⟨b3, 15, none⟩)), (248, .int .i64 ((k : Nat) : Int)), (1, .pointer (some ⟨b3, 0, none⟩)), (5, .int .i64 ((k : Nat) : Int))] ⟨rfl, rfl, rfl, rfl, rfl, rfl, rfl, rfl, rfl, rfl, rfl, rfl, rfl, rfl, rfl, rfl, rfl, rfl, rfl, rfl, rfl, rfl, rfl, trivial⟩
                                        clear h1388
                                        refine then_n ?_
                                        refine c_ret (by kernel_rfl) ?_
                                        refine then_r (inB_r (then_r (then_r (inB_r (then_r ?_)))))
                                        refine ret1 (t := 2) (v := .int .i64 6) h1389 (by kernel_rfl) (by kernel_rfl) ?_
                                        exact ⟨ret_eq (congrArg (Value.int .i64) (show refI i = 6 from htop.trans (hx1309.trans ((refL_at i k x hx).trans ((cF hc1371).trans (cT hc1386))))).symm), hB1383.bel⟩
                                      ·
                                        refine c_skip (by kernel_rfl) ?_
                                        refine then_n ?_
                                        refine c_seq (by kernel_rfl) ?_
                                        refine c_seq (by kernel_rfl) ?_
                                        refine reg_plain [(0, false), (1, false), (2, false), (3, false), (4, false)] (by kernel_rfl) (by kernel_rfl) ?_
                                        refine eE 0 272 (.fieldAddr 67 (.tmp 6) 1) 0 (.pointer (some ⟨b1334, 1, none⟩)) h1385 fun q1390 h1391 => ?_
                                        clear h1385
                                        refine eE 1 273 (.load 9 (.tmp 272)) 9 (.string x.r) h1391 (hr := r_loadC (b := b1334) (v := .string x.r) hB1383 0 1 (by kernel_rfl) (by kernel_rfl) (by kernel_rfl)) fun q1392 h1393 => ?_
                                        clear h1391
                                        refine eE 2 274 (.fieldAddr 24 (.tmp 1) 0) 0 (.pointer (some ⟨b3, 0, none⟩)) h1393 fun q1394 h1395 => ?_
                                        clear h1393
                                        refine eE 3 275 (.load 9 (.tmp 274)) 9 (.string i.ref) h1395 (hr := r_loadC (b := b3) (v := .string i.ref) hB1383 1 0 (by kernel_rfl) (by kernel_rfl) (by kernel_rfl)) fun q1396 h1397 => ?_
                                        clear h1395
                                        refine eE 4 276 (.binOp .eql 9 (.tmp 273) (.tmp 275) 9) 4 (.bool (x.r.toList == i.ref.toList)) h1397 fun q1398 h1399 => ?_
                                        clear h1397
                                        refine wpO_end ?_
                                        refine then_n ?_
                                        refine c_cond (t := 276) (b := (x.r.toList == i.ref.toList)) h1399 (by kernel_rfl) (by kernel_rfl) (fun hc1400 => ?_) (fun hc1400 => ?_)
                                        ·
                                          refine c_seq (by kernel_rfl) ?_
                                          refine reg_plain [(0, false)] (by kernel_rfl) (by kernel_rfl) ?_
                                          refine eE 0 2 (.assign (.const (.int .i64 26))) 3 (.int .i64 26) h1399 fun q1401 h1402 => ?_
                                          clear h1399
                                          refine wpO_end ?_
                                          have h1403 := h1402.keep [(2, .int .i64 26), (276, .bool (x.r.toList == i.ref.toList)), (275, .string i.ref), (274, .pointer (some ⟨b3, 0, none⟩)), (273, .string x.r), (272, .pointer (some ⟨b1334, 1, none⟩)), (271, .bool (!(rfB x.r))), (270, .bool (rfB x.r)), (269, .string x.r), (268, .pointer (some ⟨b1334, 1, none⟩)), (267, .bool ((x.t != (0 : Int)) && (x.t != (1 : Int)))), (263, .bool (x.t != (0 : Int))), (262, .bool (x.t != (0 : Int))), (261, .int .i64 x.t), (260, .pointer (some ⟨b1334, 0, none⟩)), (6, .pointer (some ⟨b1334, 0, none⟩)), (259, .agg #[.int .i64 x.t, .string x.r]), (258, .pointer (some ((ad.add (k * 2)).add 0))), (257, .int .i64 ((k : Nat) : Int)), (256, .slice (some ad) i.links.length c), (255, .pointer (some ⟨b3, 15, none⟩)), (252, .bool (decide (((k : Nat) : Int) < ((i.links.length : Nat) : Int)))), (251, .int .i64 ((i.links.length : Nat) : Int)), (250, .slice (some ad) i.links.length c), (249, .pointer (some ⟨b3, 15, none⟩)), (248, .int .i64 ((k : Nat) : Int)), (1, .pointer (some ⟨b3, 0, none⟩)), (5, .int .i64 ((k : Nat) : Int))] ⟨rfl, rfl, rfl, rfl, rfl, rfl, rfl, rfl, rfl, rfl, rfl, rfl, rfl, rfl, rfl, rfl, rfl, rfl, rfl, rfl, rfl, rfl, rfl, rfl, rfl, rfl, rfl, rfl, trivial⟩
                                          clear h1402
                                          refine then_n ?_
                                          refine c_ret (by kernel_rfl) ?_
                                          refine then_r (inB_r (then_r (then_r (inB_r (then_r ?_)))))
                                          refine ret1 (t := 2) (v := .int .i64 26) h1403 (by kernel_rfl) (by kernel_rfl) ?_
                                          exact ⟨ret_eq (congrArg (Value.int .i64) (show refI i = 26 from htop.trans (hx1309.trans ((refL_at i k x hx).trans ((cF hc1371).trans ((cF hc1386).trans (cT hc1400)))))).symm), hB1383.bel⟩
                                        ·
                                          refine c_skip (by kernel_rfl) ?_
                                          refine then_n ?_
                                          refine c_seq (by kernel_rfl) ?_
                                          refine reg_plain [(0, false)] (by kernel_rfl) (by kernel_rfl) ?_
                                          refine eE 0 7 (.assign (.const (.int .i64 0))) 3 (.int .i64 0) h1399 fun q1404 h1405 => ?_
                                          clear h1399
                                          refine wpO_end ?_
                                          refine then_n ?_
                                          refine c_block 2 (by kernel_rfl) ?_
                                          refine c_loop (by kernel_rfl) (fun qa qw => ∃ j : Nat, (j ≤ k) ∧ Fr 291 [(1, .pointer (some ⟨b3, 0, none⟩)), (2, .int .i64 0), (5, .int .i64 ((k : Nat) : Int)), (6, .pointer (some ⟨b1334, 0, none⟩)), (7, .int .i64 ((j : Nat) : Int))] qa ∧ Bx w [(b1334, .cells #[.int .i64 x.t, .string x.r] 67 (0, 0)), (b3, .cells #[.string i.ref, .int .i64 i.kind, .string i.sender, .string i.cpty, .int .i64 i.side, .string i.asset, .int .i64 i.qty, .int .i64 i.amt, .int .i64 i.tday, .int .i64 i.sday, .int .i64 i.prio, .bool i.part, .int .i64 i.minlot, .bool i.hold, .bool i.resv, .slice (some ad) i.links.length c] 24 (0, 0))] qw ∧ (∀ (q : Nat) (y : Lk), q < j → i.links[q]? = some y → (y.r.toList == x.r.toList) = false)) (fun qa _ => (((k : Int)) - intAt qa 7).toNat) ⟨0, Nat.zero_le _, h1405.keep _ ⟨rfl, rfl, rfl, rfl, rfl, trivial⟩, hB1383, fun q _ hq => absurd hq (Nat.not_lt_zero _)⟩ ?_
                                          rintro q1406 w1407 ⟨j, hk1410, h1408, hB1409, hx1412⟩
                                          have hm1411 := h1408.int (k := 7) (kd := .i64) (z := ((j : Nat) : Int)) rfl
                                          clear h1405 hB1383
                                          refine c_seq (by kernel_rfl) ?_
                                          refine c_seq (by kernel_rfl) ?_
                                          refine reg_plain [(0, false), (1, false), (2, false)] (by kernel_rfl) (by kernel_rfl) ?_
                                          refine eE 0 277 (.move (.tmp 7)) 3 (.int .i64 ((j : Nat) : Int)) h1408 fun q1413 h1414 => ?_
                                          clear h1408
                                          refine eE 1 278 (.move (.tmp 5)) 3 (.int .i64 ((k : Nat) : Int)) h1414 fun q1415 h1416 => ?_
                                          clear h1414
                                          refine eE 2 279 (.binOp .lss 3 (.tmp 277) (.tmp 278) 3) 4 (.bool (decide (((j : Nat) : Int) < ((k : Nat) : Int)))) h1416 fun q1417 h1418 => ?_
                                          clear h1416
                                          refine wpO_end ?_
                                          refine then_n ?_
                                          refine c_cond (t := 279) (b := decide (((j : Nat) : Int) < ((k : Nat) : Int))) h1418 (by kernel_rfl) (by kernel_rfl) (fun hc1419 => ?_) (fun hc1419 => ?_)
                                          ·
                                            have hp1420 : (((j : Nat) : Int) < ((k : Nat) : Int)) := of_decide_eq_true hc1419
                                            have hjk : j < k := by omega
                                            obtain ⟨y, hy⟩ : ∃ y, i.links[j]? = some y := ⟨i.links[j], List.getElem?_eq_getElem (by omega)⟩
                                            obtain ⟨ad', hA, hE1⟩ := hr.el (j * 2) [.int .i64 y.t, .string y.r] (by simp) (lkc_el i.links j y hy)
                                            cases hA
                                            refine c_skip (by kernel_rfl) ?_
                                            refine then_n ?_
                                            refine c_seq (by kernel_rfl) ?_
                                            refine c_block 3 (by kernel_rfl) ?_
                                            refine c_seq (by kernel_rfl) ?_
                                            have hD1421 := hB1409.drew
                                            refine reg_draw (S := Bx w [(b1334, .cells #[.int .i64 x.t, .string x.r] 67 (0, 0)), (b3, .cells #[.string i.ref, .int .i64 i.kind, .string i.sender, .string i.cpty, .int .i64 i.side, .string i.asset, .int .i64 i.qty, .int .i64 i.amt, .int .i64 i.tday, .int .i64 i.sday, .int .i64 i.prio, .bool i.part, .int .i64 i.minlot, .bool i.hold, .bool i.resv, .slice (some ad) i.links.length c] 24 (0, 0))]) 9 [⟨0, true, 0, 2, 7770675568902916283677847627294075626569627356208558085007249638955617140820833992704⟩, ⟨1, true, 1, 7770675568902916283677847627294075626569627356208558085007249638955617140820833992704, 15541351137805832567355695254588151253139254712417116170014499277911234281641667985408⟩, ⟨2, true, 0, 128, 31082702275611665134711390509176302506278509424834232340028998555822468563283335970816⟩, ⟨3, true, 6, 46624053413417497702067085763764453759417764137251348510043497833733702844925003956224, 62165404551223330269422781018352605012557018849668464680057997111644937126566671941632⟩, ⟨4, true, 8, 62165404551223330269422781018352605012557018849668464680057997111644937126566671941632, 124330809102446660538845562036705210025114037699336929360115994223289874253133343883264⟩, ⟨5, true, 16, 124330809102446660538845562036705210025114037699336929360115994223289874253133343883264, 248661618204893321077691124073410420050228075398673858720231988446579748506266687766528⟩, ⟨6, true, 0, 64, 497323236409786642155382248146820840100456150797347717440463976893159497012533375533056⟩, ⟨7, true, 64, 497323236409786642155382248146820840100456150797347717440463976893159497012533375533056, 994646472819573284310764496293641680200912301594695434880927953786318994025066751066112⟩, ⟨8, true, 160, 1243308091024466605388455620367052100251140376993369293601159942232898742531333438832640, 1989292945639146568621528992587283360401824603189390869761855907572637988050133502132224⟩] [(0, true), (1, true), (2, true), (3, true), (4, true), (5, true), (6, true), (7, true), (8, true)] (by kernel_rfl) (by kernel_rfl) (by kernel_rfl) (by kernel_rfl) (fun _ _ _ _ h => absurd h.2 (by simp)) hD1421 ?_
                                            generalize World.drew w1407 = w1422 at hD1421 ⊢
                                            refine fE 0 282 (.fieldAddr 24 (.tmp 1) 15) 0 (.pointer (some ⟨b3, 15, none⟩)) h1418 fun q1423 h1424 => ?_
                                            clear h1418
                                            refine fE 1 283 (.load 22 (.tmp 282)) 22 (.slice (some ad) i.links.length c) h1424 (hr := fun _ hS => r_loadC (b := b3) (v := .slice (some ad) i.links.length c) hS 1 15 (by kernel_rfl) (by kernel_rfl) (by kernel_rfl)) fun q1425 h1426 => ?_
                                            clear h1424
                                            refine fE 2 284 (.move (.tmp 7)) 3 (.int .i64 ((j : Nat) : Int)) h1426 fun q1427 h1428 => ?_
                                            clear h1426
                                            refine fE 3 285 (.indexAddr 22 (.tmp 283) (.tmp 284)) 0 (.pointer (some ((ad.add (j * 2)).add 0))) h1428 (hr := fun _ hS => r_index0 (n := i.links.length) (c := c) (kd := .i64) (by kernel_rfl) (by kernel_rfl) (by omega) (by kernel_rfl)) fun q1429 h1430 => ?_
                                            clear h1428
                                            refine fE 4 286 (.fieldAddr 67 (.tmp 285) 1) 0 (.pointer (some ((ad.add (j * 2)).add 1))) h1430 (hr := fun _ hS => r_fieldAddr (ad := ad.add (j * 2)) (o := 0) (off := 1) (by kernel_rfl) (by kernel_rfl)) fun q1431 h1432 => ?_
                                            clear h1430
                                            refine fE 5 287 (.load 9 (.tmp 286)) 9 (.string y.r) h1432 (hr := fun _ hS => r_loadF (o := 1) (v := .string y.r) (hE1.below hS.bel) (by kernel_rfl) (by kernel_rfl) (by kernel_rfl)) fun q1433 h1434 => ?_
                                            clear h1432
                                            refine fE 6 288 (.fieldAddr 67 (.tmp 6) 1) 0 (.pointer (some ⟨b1334, 1, none⟩)) h1434 fun q1435 h1436 => ?_
                                            clear h1434
                                            refine fE 7 289 (.load 9 (.tmp 288)) 9 (.string x.r) h1436 (hr := fun _ hS => r_loadC (b := b1334) (v := .string x.r) hS 0 1 (by kernel_rfl) (by kernel_rfl) (by kernel_rfl)) fun q1437 h1438 => ?_
                                            clear h1436
                                            refine fE 8 290 (.binOp .eql 9 (.tmp 287) (.tmp 289) 9) 4 (.bool (y.r.toList == x.r.toList)) h1438 fun q1439 h1440 => ?_
                                            clear h1438
                                            refine wpO_end ?_
                                            refine then_n ?_
                                            refine c_cond (t := 290) (b := (y.r.toList == x.r.toList)) h1440 (by kernel_rfl) (by kernel_rfl) (fun hc1441 => ?_) (fun hc1441 => ?_)
                                            ·
                                              refine c_seq (by kernel_rfl) ?_
                                              refine reg_plain [(0, false)] (by kernel_rfl) (by kernel_rfl) ?_
                                              refine eE 0 2 (.assign (.const (.int .i64 7))) 3 (.int .i64 7) h1440 fun q1442 h1443 => ?_
                                              clear h1440
                                              refine wpO_end ?_
                                              have h1444 := h1443.keep [(2, .int .i64 7), (290, .bool (y.r.toList == x.r.toList)), (289, .string x.r), (288, .pointer (some ⟨b1334, 1, none⟩)), (287, .string y.r), (286, .pointer (some ((ad.add (j * 2)).add 1))), (285, .pointer (some ((ad.add (j * 2)).add 0))), (284, .int .i64 ((j : Nat) : Int)), (283, .slice (some ad) i.links.length c), (282, .pointer (some ⟨b3, 15, none⟩)), (279, .bool (decide (((j : Nat) : Int) < ((k : Nat) : Int)))), (278, .int .i64 ((k : Nat) : Int)), (277, .int .i64 ((j : Nat) : Int)), (1, .pointer (some ⟨b3, 0, none⟩)), (5, .int .i64 ((k : Nat) : Int)), (6, .pointer (some ⟨b1334, 0, none⟩)), (7, .int .i64 ((j : Nat) : Int))] ⟨rfl, rfl, rfl, rfl, rfl, rfl, rfl, rfl, rfl, rfl, rfl, rfl, rfl, rfl, rfl, rfl, rfl, trivial⟩
                                              clear h1443
                                              refine then_n ?_
                                              refine c_ret (by kernel_rfl) ?_
                                              refine inB_r (then_r (then_r (inB_r (inB_r (then_r (then_r (inB_r (then_r ?_))))))))
                                              refine ret1 (t := 2) (v := .int .i64 7) h1444 (by kernel_rfl) (by kernel_rfl) ?_
                                              exact ⟨ret_eq (congrArg (Value.int .i64) (show refI i = 7 from htop.trans (hx1309.trans ((refL_at i k x hx).trans ((cF hc1371).trans ((cF hc1386).trans ((cF hc1400).trans (cT (dup_hit hy hjk hc1441)))))))).symm), hD1421.bel⟩
                                            ·
                                              refine c_skip (by kernel_rfl) ?_
                                              refine inB_n ?_
                                              refine then_n ?_
                                              refine reg_plain [(0, false), (1, false), (2, false)] (by kernel_rfl) (by kernel_rfl) ?_
                                              refine eE 0 280 (.move (.tmp 7)) 3 (.int .i64 ((j : Nat) : Int)) h1440 fun q1445 h1446 => ?_
                                              clear h1440
                                              refine eE 1 281 (.binOp .add 3 (.tmp 280) (.const (.int .i64 1)) 3) 3 (.int .i64 (IntKind.i64.wrap (((j : Nat) : Int) + 1))) h1446 fun q1447 h1448 => ?_
                                              clear h1446
                                              refine eE 2 7 (.assign (.tmp 281)) 3 (.int .i64 (IntKind.i64.wrap (((j : Nat) : Int) + 1))) h1448 fun q1449 h1450 => ?_
                                              clear h1448
                                              refine wpO_end ?_
                                              have h1451 := h1450.keep [(7, .int .i64 (IntKind.i64.wrap (((j : Nat) : Int) + 1))), (281, .int .i64 (IntKind.i64.wrap (((j : Nat) : Int) + 1))), (280, .int .i64 ((j : Nat) : Int)), (290, .bool (y.r.toList == x.r.toList)), (289, .string x.r), (288, .pointer (some ⟨b1334, 1, none⟩)), (287, .string y.r), (286, .pointer (some ((ad.add (j * 2)).add 1))), (285, .pointer (some ((ad.add (j * 2)).add 0))), (284, .int .i64 ((j : Nat) : Int)), (283, .slice (some ad) i.links.length c), (282, .pointer (some ⟨b3, 15, none⟩)), (279, .bool (decide (((j : Nat) : Int) < ((k : Nat) : Int)))), (278, .int .i64 ((k : Nat) : Int)), (277, .int .i64 ((j : Nat) : Int)), (1, .pointer (some ⟨b3, 0, none⟩)), (2, .int .i64 0), (5, .int .i64 ((k : Nat) : Int)), (6, .pointer (some ⟨b1334, 0, none⟩))] ⟨rfl, rfl, rfl, rfl, rfl, rfl, rfl, rfl, rfl, rfl, rfl, rfl, rfl, rfl, rfl, rfl, rfl, rfl, rfl, trivial⟩
                                              clear h1450
                                              have h1452 := h1451.keep [(1, .pointer (some ⟨b3, 0, none⟩)), (2, .int .i64 0), (5, .int .i64 ((k : Nat) : Int)), (6, .pointer (some ⟨b1334, 0, none⟩)), (7, .int .i64 (((j + 1) : Nat) : Int))] ⟨rfl, rfl, rfl, rfl, look_int rfl (wrap_succ (by have := hn; omega)), trivial⟩
                                              have hm1453 := h1452.int (k := 7) (kd := .i64) (z := (((j + 1) : Nat) : Int)) rfl
                                              refine then_n ⟨⟨j + 1, by omega, h1452, hD1421, fun q z hq hz => by rcases Nat.lt_succ_iff_lt_or_eq.1 hq with h' | rfl; exact hx1412 q z h' hz; rw [hy] at hz; cases hz; exact hc1441⟩, ?_⟩
                                              show (((k : Int)) - intAt _ 7).toNat < (((k : Int)) - intAt _ 7).toNat
                                              rw [hm1411, hm1453]; omega
                                          ·
                                            have hp1454 : ¬ (((j : Nat) : Int) < ((k : Nat) : Int)) := of_decide_eq_false hc1419
                                            have hdup := dup_miss hx1412 (by omega : k ≤ j)
                                            refine c_exit 2 (by kernel_rfl) ?_
                                            refine then_e (then_e (inB_hit ?_))
                                            refine inB_n ?_
                                            refine then_n ?_
                                            refine reg_plain [(0, false), (1, false), (2, false)] (by kernel_rfl) (by kernel_rfl) ?_
                                            refine eE 0 253 (.move (.tmp 5)) 3 (.int .i64 ((k : Nat) : Int)) h1418 fun q1455 h1456 => ?_
                                            clear h1418
                                            refine eE 1 254 (.binOp .add 3 (.tmp 253) (.const (.int .i64 1)) 3) 3 (.int .i64 (IntKind.i64.wrap (((k : Nat) : Int) + 1))) h1456 fun q1457 h1458 => ?_
                                            clear h1456
                                            refine eE 2 5 (.assign (.tmp 254)) 3 (.int .i64 (IntKind.i64.wrap (((k : Nat) : Int) + 1))) h1458 fun q1459 h1460 => ?_
                                            clear h1458
                                            refine wpO_end ?_
                                            have h1461 := h1460.keep [(5, .int .i64 (IntKind.i64.wrap (((k : Nat) : Int) + 1))), (254, .int .i64 (IntKind.i64.wrap (((k : Nat) : Int) + 1))), (253, .int .i64 ((k : Nat) : Int)), (279, .bool (decide (((j : Nat) : Int) < ((k : Nat) : Int)))), (278, .int .i64 ((k : Nat) : Int)), (277, .int .i64 ((j : Nat) : Int)), (1, .pointer (some ⟨b3, 0, none⟩)), (2, .int .i64 0), (6, .pointer (some ⟨b1334, 0, none⟩)), (7, .int .i64 ((j : Nat) : Int))] ⟨rfl, rfl, rfl, rfl, rfl, rfl, rfl, rfl, rfl, rfl, trivial⟩
                                            clear h1460
                                            have h1462 := h1461.keep [(1, .pointer (some ⟨b3, 0, none⟩)), (2, .int .i64 0), (5, .int .i64 (((k + 1) : Nat) : Int))] ⟨rfl, rfl, look_int rfl (wrap_succ (by have := hn; omega)), trivial⟩
                                            have hm1463 := h1462.int (k := 5) (kd := .i64) (z := (((k + 1) : Nat) : Int)) rfl
                                            refine then_n ⟨⟨k + 1, by omega, h1462, hB1409.tail, hx1309.trans ((refL_at i k x hx).trans ((cF hc1371).trans ((cF hc1386).trans ((cF hc1400).trans (cF hdup)))))⟩, ?_⟩
                                            show (((i.links.length : Int)) - intAt _ 5).toNat < (((i.links.length : Int)) - intAt _ 5).toNat
                                            rw [hm1308, hm1463]; omega
                                  ·
                                    have hp1464 : ¬ (((k : Nat) : Int) < ((i.links.length : Nat) : Int)) := of_decide_eq_false hc1320
                                    refine c_exit 0 (by kernel_rfl) ?_
                                    refine then_e (then_e (inB_hit ?_))
                                    refine then_n ?_
                                    refine c_seq (by kernel_rfl) ?_
                                    refine reg_plain [(0, false)] (by kernel_rfl) (by kernel_rfl) ?_
                                    refine eE 0 2 (.assign (.const (.int .i64 0))) 3 (.int .i64 0) h1319 fun q1465 h1466 => ?_
                                    clear h1319
                                    refine wpO_end ?_
                                    have h1467 := h1466.keep [(2, .int .i64 0)] ⟨rfl, trivial⟩
                                    clear h1466
                                    refine then_n ?_
                                    refine c_ret (by kernel_rfl) ?_
                                    refine ret1 (t := 2) (v := .int .i64 0) h1467 (by kernel_rfl) (by kernel_rfl) ?_
                                    exact ⟨ret_eq (congrArg (Value.int .i64) (show refI i = 0 from htop.trans (hx1309.trans (refL_end i k (by omega)))).symm), hB1306.bel⟩

end Go.Proofs.YtljegdokbifoiaaDoor.Af
