/- The law of Sides. No condition but the argument's own. -/
import Derived.Test.YtljegdokbifoiaaDoorSdp
namespace Go.Proofs.YtljegdokbifoiaaDoor.Af
open Go.RowKit
set_option maxHeartbeats 4000000 in
set_option maxRecDepth 20000 in
theorem law4 (i : Ins) (A : Option Addr) (c : Nat) (w : World) (hr : Rd w A (lkc i.links)) : Calls Tryd.prog 4 #[.agg #[.string i.ref, .int .i64 i.kind, .string i.sender, .string i.cpty, .int .i64 i.side, .string i.asset, .int .i64 i.qty, .int .i64 i.amt, .int .i64 i.tday, .int .i64 i.sday, .int .i64 i.prio, .bool i.part, .int .i64 i.minlot, .bool i.hold, .bool i.resv, .slice A i.links.length c]] w fun e w' => e = .returned (.bool true) ∧ Below w.heap.size w w' := by
  refine enter Tryd.func4 (by kernel_rfl) ?_ (by kernel_rfl)
  intro q0 h0
  replace h0 := h0.conv (l' := [(0, .agg #[.string i.ref, .int .i64 i.kind, .string i.sender, .string i.cpty, .int .i64 i.side, .string i.asset, .int .i64 i.qty, .int .i64 i.amt, .int .i64 i.tday, .int .i64 i.sday, .int .i64 i.prio, .bool i.part, .int .i64 i.minlot, .bool i.hold, .bool i.resv, .slice A i.links.length c])]) rfl
  have hB := Bx.refl w
  refine c_seq (by kernel_rfl) ?_
  refine reg_plain [(0, false), (1, false)] (by kernel_rfl) (by kernel_rfl) ?_
  refine stA (i := 0) (d := 1) (op := Op.box 24 (Operand.tmp 0)) (ty := 0) (g := none) (mk := fun b => .pointer (some ⟨b, 0, none⟩)) (o := .cells #[.string i.ref, .int .i64 i.kind, .string i.sender, .string i.cpty, .int .i64 i.side, .string i.asset, .int .i64 i.qty, .int .i64 i.amt, .int .i64 i.tday, .int .i64 i.sday, .int .i64 i.prio, .bool i.part, .int .i64 i.minlot, .bool i.hold, .bool i.resv, .slice A i.links.length c] 24 (0, 0)) h0 (by kernel_rfl) (by kernel_rfl) (by kernel_rfl) gok_none (fun _ => by kernel_rfl) hB (fun _ _ hq => trivial) (fun b3 w4 hB5 hN q1 h2 => ?_)
  clear h0 hB hN
  refine eE 1 2 (.assign (.const (.bool false))) 4 (.bool false) h2 fun q6 h7 => ?_
  clear h2
  refine wpO_end ?_
  have h8 := h7.keep [(2, .bool false), (1, .pointer (some ⟨b3, 0, none⟩))] ⟨rfl, rfl, trivial⟩
  clear h7
  refine then_n ?_
  refine c_seq (by kernel_rfl) ?_
  refine c_seq (by kernel_rfl) ?_
  refine reg_plain [(0, false), (1, false), (2, false), (3, false)] (by kernel_rfl) (by kernel_rfl) ?_
  refine eE 0 7 (.fieldAddr 24 (.tmp 1) 15) 0 (.pointer (some ⟨b3, 15, none⟩)) h8 fun q9 h10 => ?_
  clear h8
  refine eE 1 8 (.load 22 (.tmp 7)) 22 (.slice A i.links.length c) h10 (hr := r_loadC (b := b3) (v := .slice A i.links.length c) hB5 0 15 (by kernel_rfl) (by kernel_rfl) (by kernel_rfl)) fun q11 h12 => ?_
  clear h10
  refine eE 2 9 (.call { callee := .builtin .len, args := #[.tmp 8], argTypes := #[22] }) 3 (.int .i64 ((i.links.length : Nat) : Int)) h12 fun q13 h14 => ?_
  clear h12
  refine eE 3 10 (.binOp .gtr 3 (.tmp 9) (.const (.int .i64 40)) 3) 4 (.bool (decide ((40 : Int) < ((i.links.length : Nat) : Int)))) h14 fun q15 h16 => ?_
  clear h14
  refine wpO_end ?_
  have h17 := h16.keep [(10, .bool (decide ((40 : Int) < ((i.links.length : Nat) : Int)))), (2, .bool false), (1, .pointer (some ⟨b3, 0, none⟩))] ⟨rfl, rfl, rfl, trivial⟩
  clear h16
  refine then_n ?_
  refine c_cond (t := 10) (b := decide ((40 : Int) < ((i.links.length : Nat) : Int))) h17 (by kernel_rfl) (by kernel_rfl) (fun hc18 => ?_) (fun hc18 => ?_)
  ·
    have hp19 : ((40 : Int) < ((i.links.length : Nat) : Int)) := of_decide_eq_true hc18
    refine c_seq (by kernel_rfl) ?_
    refine reg_plain [(0, false), (1, false)] (by kernel_rfl) (by kernel_rfl) ?_
    refine stC (i := 0) (d := 11) (op := Op.call { callee := Callee.value (Operand.func 12), args := #[], argTypes := #[] }) (ty := 4) (g := none) (f := 12) (args := #[]) (w1 := w4) h17 (by kernel_rfl) (by kernel_rfl) (by kernel_rfl) gok_none (by kernel_rfl) (c12 w4) ?_
    rintro _ w22 ⟨rfl, hb23⟩
    have hB24 := hB5.call hb23
    refine ⟨_, rfl, trivial, fun q20 h21 => ?_⟩
    clear h17 hB5 hb23
    refine eE 1 2 (.assign (.tmp 11)) 4 (.bool true) h21 fun q25 h26 => ?_
    clear h21
    refine wpO_end ?_
    have h27 := h26.keep [(2, .bool true), (1, .pointer (some ⟨b3, 0, none⟩))] ⟨rfl, rfl, trivial⟩
    clear h26
    refine then_n ?_
    refine c_ret (by kernel_rfl) ?_
    refine then_r ?_
    refine ret1 (t := 2) (v := .bool true) h27 (by kernel_rfl) (by kernel_rfl) ?_
    exact ⟨ret_eq (rfl), hB24.bel⟩
  ·
    have hp28 : ¬ ((40 : Int) < ((i.links.length : Nat) : Int)) := of_decide_eq_false hc18
    refine c_skip (by kernel_rfl) ?_
    refine then_n ?_
    refine c_seq (by kernel_rfl) ?_
    refine reg_plain [(0, false), (1, false), (2, false), (3, false)] (by kernel_rfl) (by kernel_rfl) ?_
    refine eE 0 12 (.load 24 (.tmp 1)) 24 (.agg #[.string i.ref, .int .i64 i.kind, .string i.sender, .string i.cpty, .int .i64 i.side, .string i.asset, .int .i64 i.qty, .int .i64 i.amt, .int .i64 i.tday, .int .i64 i.sday, .int .i64 i.prio, .bool i.part, .int .i64 i.minlot, .bool i.hold, .bool i.resv, .slice A i.links.length c]) h17 (hr := r_loadS (b := b3) (vs := [.string i.ref, .int .i64 i.kind, .string i.sender, .string i.cpty, .int .i64 i.side, .string i.asset, .int .i64 i.qty, .int .i64 i.amt, .int .i64 i.tday, .int .i64 i.sday, .int .i64 i.prio, .bool i.part, .int .i64 i.minlot, .bool i.hold, .bool i.resv, .slice A i.links.length c]) hB5 0 0 (by kernel_rfl) (by kernel_rfl) (by kernel_rfl)) fun q29 h30 => ?_
    clear h17
    refine stC (i := 1) (d := 13) (op := Op.call { callee := Callee.value (Operand.func 13), args := #[Operand.tmp 12], argTypes := #[24] }) (ty := 29) (g := none) (f := 13) (args := #[.agg #[.string i.ref, .int .i64 i.kind, .string i.sender, .string i.cpty, .int .i64 i.side, .string i.asset, .int .i64 i.qty, .int .i64 i.amt, .int .i64 i.tday, .int .i64 i.sday, .int .i64 i.prio, .bool i.part, .int .i64 i.minlot, .bool i.hold, .bool i.resv, .slice A i.links.length c]]) (w1 := w4) h30 (by kernel_rfl) (by kernel_rfl) (by kernel_rfl) gok_none (by kernel_rfl) (c13 i A c w4 (by omega) (hr.below hB5.bel)) ?_
    rintro _ w35 ⟨A33, c34, rfl, ho38, hb36⟩
    have hB37 := hB5.call hb36
    refine ⟨_, rfl, trivial, fun q31 h32 => ?_⟩
    clear h30 hB5 hb36
    refine stA (i := 2) (d := 3) (op := Op.alloc 29) (ty := 0) (g := none) (mk := fun b => .pointer (some ⟨b, 0, none⟩)) (o := .cells #[.string (⟨#[]⟩ : ByteArray), .int .i64 0, .string (⟨#[]⟩ : ByteArray), .string (⟨#[]⟩ : ByteArray), .int .i64 0, .string (⟨#[]⟩ : ByteArray), .int .i64 0, .int .i64 0, .int .i64 0, .int .i64 0, .int .i64 0, .bool false, .int .i64 0, .bool false, .bool false, .slice none 0 0] 29 (0, 0)) h32 (by kernel_rfl) (by kernel_rfl) (by kernel_rfl) gok_none (fun _ => by kernel_rfl) hB37 (fun _ _ hq => trivial) (fun b41 w42 hB43 hN q39 h40 => ?_)
    have ho44 := own_below ho38 hN
    clear h32 hB37 hN
    refine stWs (i := 3) (ty := 0) (t := 29) (x := Operand.tmp 3) (y := Operand.tmp 13) (g := none) 0 0 (b := b41) (T := 29) (cs := [.string (⟨#[]⟩ : ByteArray), .int .i64 0, .string (⟨#[]⟩ : ByteArray), .string (⟨#[]⟩ : ByteArray), .int .i64 0, .string (⟨#[]⟩ : ByteArray), .int .i64 0, .int .i64 0, .int .i64 0, .int .i64 0, .int .i64 0, .bool false, .int .i64 0, .bool false, .bool false, .slice none 0 0]) (vs := [.string i.ref, .int .i64 i.kind, .string i.sender, .string i.cpty, .int .i64 i.side, .string i.asset, .int .i64 i.qty, .int .i64 i.amt, .int .i64 i.tday, .int .i64 i.sday, .int .i64 i.prio, .bool i.part, .int .i64 i.minlot, .bool i.hold, .bool i.resv, .slice A33 i.links.length c34]) (cs' := [.string i.ref, .int .i64 i.kind, .string i.sender, .string i.cpty, .int .i64 i.side, .string i.asset, .int .i64 i.qty, .int .i64 i.amt, .int .i64 i.tday, .int .i64 i.sday, .int .i64 i.prio, .bool i.part, .int .i64 i.minlot, .bool i.hold, .bool i.resv, .slice A33 i.links.length c34]) h40 (by kernel_rfl) (by kernel_rfl) gok_none hB43 (by kernel_rfl) (by kernel_rfl) (by kernel_rfl) (by kernel_rfl) (by kernel_rfl) (by kernel_rfl) (by kernel_rfl) (.inr fun _ _ => trivial) (fun w47 hB48 hT q45 h46 => ?_)
    replace hB48 : Bx w [(b41, .cells #[.string i.ref, .int .i64 i.kind, .string i.sender, .string i.cpty, .int .i64 i.side, .string i.asset, .int .i64 i.qty, .int .i64 i.amt, .int .i64 i.tday, .int .i64 i.sday, .int .i64 i.prio, .bool i.part, .int .i64 i.minlot, .bool i.hold, .bool i.resv, .slice A33 i.links.length c34] 29 (0, 0)), (b3, .cells #[.string i.ref, .int .i64 i.kind, .string i.sender, .string i.cpty, .int .i64 i.side, .string i.asset, .int .i64 i.qty, .int .i64 i.amt, .int .i64 i.tday, .int .i64 i.sday, .int .i64 i.prio, .bool i.part, .int .i64 i.minlot, .bool i.hold, .bool i.resv, .slice A i.links.length c] 24 (0, 0))] w47 := hB48
    clear h40 hB43
    have ho49 := own_turned ho44 hT (by kernel_rfl)
    clear hT
    refine wpO_end ?_
    have h50 := h46.keep [(3, .pointer (some ⟨b41, 0, none⟩)), (2, .bool false), (1, .pointer (some ⟨b3, 0, none⟩))] ⟨rfl, rfl, rfl, trivial⟩
    clear h46
    refine then_n ?_
    refine c_seq (by kernel_rfl) ?_
    have hD51 := hB48.drew
    refine reg_draw (S := Bx w [(b41, .cells #[.string i.ref, .int .i64 i.kind, .string i.sender, .string i.cpty, .int .i64 i.side, .string i.asset, .int .i64 i.qty, .int .i64 i.amt, .int .i64 i.tday, .int .i64 i.sday, .int .i64 i.prio, .bool i.part, .int .i64 i.minlot, .bool i.hold, .bool i.resv, .slice A33 i.links.length c34] 29 (0, 0)), (b3, .cells #[.string i.ref, .int .i64 i.kind, .string i.sender, .string i.cpty, .int .i64 i.side, .string i.asset, .int .i64 i.qty, .int .i64 i.amt, .int .i64 i.tday, .int .i64 i.sday, .int .i64 i.prio, .bool i.part, .int .i64 i.minlot, .bool i.hold, .bool i.resv, .slice A i.links.length c] 24 (0, 0))]) 6 [⟨0, true, 0, 2, 16384⟩, ⟨1, true, 1, 16384, 32768⟩, ⟨2, true, 0, 2, 65536⟩, ⟨3, true, 4, 65536, 131072⟩, ⟨4, true, 3, 32768, 16⟩, ⟨5, true, 31, 131072, 32⟩] [(0, true), (1, true), (2, true), (3, true), (4, true), (5, true)] (by kernel_rfl) (by kernel_rfl) (by kernel_rfl) (by kernel_rfl) (fun _ _ _ _ h => absurd h.2 (by simp)) hD51 ?_
    have ho52 := own_drew ho49
    generalize World.drew w47 = w53 at hD51 ho52 ⊢
    refine fE 0 14 (.fieldAddr 24 (.tmp 1) 2) 0 (.pointer (some ⟨b3, 2, none⟩)) h50 fun q54 h55 => ?_
    clear h50
    refine fE 1 15 (.load 9 (.tmp 14)) 9 (.string i.sender) h55 (hr := fun _ hS => r_loadC (b := b3) (v := .string i.sender) hS 1 2 (by kernel_rfl) (by kernel_rfl) (by kernel_rfl)) fun q56 h57 => ?_
    clear h55
    refine fE 2 16 (.fieldAddr 24 (.tmp 1) 3) 0 (.pointer (some ⟨b3, 3, none⟩)) h57 fun q58 h59 => ?_
    clear h57
    refine fE 3 17 (.load 9 (.tmp 16)) 9 (.string i.cpty) h59 (hr := fun _ hS => r_loadC (b := b3) (v := .string i.cpty) hS 1 3 (by kernel_rfl) (by kernel_rfl) (by kernel_rfl)) fun q60 h61 => ?_
    clear h59
    refine fE 4 4 (.assign (.tmp 15)) 9 (.string i.sender) h61 fun q62 h63 => ?_
    clear h61
    refine fE 5 5 (.assign (.tmp 17)) 9 (.string i.cpty) h63 fun q64 h65 => ?_
    clear h63
    refine wpO_end ?_
    have h66 := h65.keep [(5, .string i.cpty), (4, .string i.sender), (3, .pointer (some ⟨b41, 0, none⟩)), (2, .bool false), (1, .pointer (some ⟨b3, 0, none⟩))] ⟨rfl, rfl, rfl, rfl, rfl, trivial⟩
    clear h65
    refine then_n ?_
    refine c_seq (by kernel_rfl) ?_
    refine c_seq (by kernel_rfl) ?_
    refine reg_plain [(0, false), (1, false), (2, false)] (by kernel_rfl) (by kernel_rfl) ?_
    refine eE 0 18 (.fieldAddr 24 (.tmp 1) 4) 0 (.pointer (some ⟨b3, 4, none⟩)) h66 fun q67 h68 => ?_
    clear h66
    refine eE 1 19 (.load 3 (.tmp 18)) 3 (.int .i64 i.side) h68 (hr := r_loadC (b := b3) (v := .int .i64 i.side) hD51 1 4 (by kernel_rfl) (by kernel_rfl) (by kernel_rfl)) fun q69 h70 => ?_
    clear h68
    refine eE 2 20 (.binOp .neq 3 (.tmp 19) (.const (.int .i64 0)) 3) 4 (.bool (i.side != (0 : Int))) h70 fun q71 h72 => ?_
    clear h70
    refine wpO_end ?_
    have h73 := h72.keep [(20, .bool (i.side != (0 : Int))), (5, .string i.cpty), (4, .string i.sender), (3, .pointer (some ⟨b41, 0, none⟩)), (2, .bool false), (1, .pointer (some ⟨b3, 0, none⟩))] ⟨rfl, rfl, rfl, rfl, rfl, rfl, trivial⟩
    clear h72
    refine then_n ?_
    refine c_cond (t := 20) (b := (i.side != (0 : Int))) h73 (by kernel_rfl) (by kernel_rfl) (fun hc74 => ?_) (fun hc74 => ?_)
    ·
      refine reg_plain [(0, false), (1, false), (2, false), (3, false)] (by kernel_rfl) (by kernel_rfl) ?_
      refine eE 0 21 (.move (.tmp 5)) 9 (.string i.cpty) h73 fun q75 h76 => ?_
      clear h73
      refine eE 1 22 (.move (.tmp 4)) 9 (.string i.sender) h76 fun q77 h78 => ?_
      clear h76
      refine eE 2 4 (.assign (.tmp 21)) 9 (.string i.cpty) h78 fun q79 h80 => ?_
      clear h78
      refine eE 3 5 (.assign (.tmp 22)) 9 (.string i.sender) h80 fun q81 h82 => ?_
      clear h80
      refine wpO_end ?_
      have h83 := h82.keep [(5, .string i.sender), (4, .string i.cpty), (3, .pointer (some ⟨b41, 0, none⟩)), (2, .bool false), (1, .pointer (some ⟨b3, 0, none⟩))] ⟨rfl, rfl, rfl, rfl, rfl, trivial⟩
      clear h82
      refine then_n ?_
      refine c_seq (by kernel_rfl) ?_
      refine c_seq (by kernel_rfl) ?_
      have hD84 := hD51.drew
      refine reg_draw (S := Bx w [(b41, .cells #[.string i.ref, .int .i64 i.kind, .string i.sender, .string i.cpty, .int .i64 i.side, .string i.asset, .int .i64 i.qty, .int .i64 i.amt, .int .i64 i.tday, .int .i64 i.sday, .int .i64 i.prio, .bool i.part, .int .i64 i.minlot, .bool i.hold, .bool i.resv, .slice A33 i.links.length c34] 29 (0, 0)), (b3, .cells #[.string i.ref, .int .i64 i.kind, .string i.sender, .string i.cpty, .int .i64 i.side, .string i.asset, .int .i64 i.qty, .int .i64 i.amt, .int .i64 i.tday, .int .i64 i.sday, .int .i64 i.prio, .bool i.part, .int .i64 i.minlot, .bool i.hold, .bool i.resv, .slice A i.links.length c] 24 (0, 0))]) 23 [⟨0, true, 0, 8, 8388608⟩, ⟨2, true, 0, 16, 33554432⟩, ⟨1, false, 1, 8388608, 16777216⟩, ⟨3, true, 6, 50331648, 67108864⟩, ⟨4, true, 10, 67108864, 134217728⟩, ⟨5, true, 16, 134217736, 268435456⟩, ⟨7, true, 16, 134217760, 1073741824⟩, ⟨6, false, 48, 402653184, 536870912⟩, ⟨8, true, 208, 1744830464, 2147483648⟩, ⟨9, true, 272, 2281701376, 4294967296⟩, ⟨10, true, 576, 4294967296, 8589934592⟩, ⟨11, true, 1024, 8589934600, 17179869184⟩, ⟨13, true, 1024, 8589934594, 68719476736⟩, ⟨14, true, 9216, 77309411328, 137438953472⟩, ⟨15, true, 17408, 146028888064, 274877906944⟩, ⟨12, false, 3072, 25769803776, 34359738368⟩, ⟨16, true, 37888, 283467841536, 549755813888⟩, ⟨17, true, 65536, 549755813890, 1099511627776⟩, ⟨18, true, 196608, 1649267441664, 2199023255552⟩, ⟨19, true, 327680, 2748779069440, 4398046511104⟩, ⟨20, true, 590848, 4956392259584, 8796093022208⟩, ⟨21, true, 1053696, 8839042695168, 17592186044416⟩, ⟨22, true, 2098176, 17600775979008, 35184372088832⟩] [(0, true), (2, true), (1, false), (3, true), (4, true), (5, true), (7, true), (6, false), (8, true), (9, true), (10, true), (11, true), (13, true), (14, true), (15, true), (12, false), (16, true), (17, true), (18, true), (19, true), (20, true), (21, true), (22, true)] (by kernel_rfl) (by kernel_rfl) (by kernel_rfl) (by kernel_rfl) (fun _ _ _ _ h => absurd h.2 (by simp)) hD84 ?_
      have ho85 := own_drew ho52
      generalize World.drew w53 = w86 at hD84 ho85 ⊢
      refine fE 0 23 (.load 29 (.tmp 3)) 29 (.agg #[.string i.ref, .int .i64 i.kind, .string i.sender, .string i.cpty, .int .i64 i.side, .string i.asset, .int .i64 i.qty, .int .i64 i.amt, .int .i64 i.tday, .int .i64 i.sday, .int .i64 i.prio, .bool i.part, .int .i64 i.minlot, .bool i.hold, .bool i.resv, .slice A33 i.links.length c34]) h83 (hr := fun _ hS => r_loadS (b := b41) (vs := [.string i.ref, .int .i64 i.kind, .string i.sender, .string i.cpty, .int .i64 i.side, .string i.asset, .int .i64 i.qty, .int .i64 i.amt, .int .i64 i.tday, .int .i64 i.sday, .int .i64 i.prio, .bool i.part, .int .i64 i.minlot, .bool i.hold, .bool i.resv, .slice A33 i.links.length c34]) hS 0 0 (by kernel_rfl) (by kernel_rfl) (by kernel_rfl)) fun q87 h88 => ?_
      clear h83
      refine fE 2 25 (.move (.tmp 4)) 9 (.string i.cpty) h88 fun q89 h90 => ?_
      clear h88
      refine stC (i := 1) (d := 24) (op := Op.call { callee := Callee.value (Operand.func 16), args := #[Operand.tmp 23], argTypes := #[29] }) (ty := 9) (g := none) (f := 16) (args := #[.agg #[.string i.ref, .int .i64 i.kind, .string i.sender, .string i.cpty, .int .i64 i.side, .string i.asset, .int .i64 i.qty, .int .i64 i.amt, .int .i64 i.tday, .int .i64 i.sday, .int .i64 i.prio, .bool i.part, .int .i64 i.minlot, .bool i.hold, .bool i.resv, .slice A33 i.links.length c34]]) (w1 := w86) h90 (by kernel_rfl) (by kernel_rfl) (by kernel_rfl) gok_none (by kernel_rfl) (c16 i A33 c34 w86) ?_
      rintro _ w93 ⟨rfl, hb94⟩
      have hB95 := hD84.call hb94
      have ho96 := own_below ho85 hb94
      refine ⟨_, rfl, hB95, fun q91 h92 => ?_⟩
      clear h90 hD84 hb94
      refine fE 3 26 (.binOp .neq 9 (.tmp 24) (.tmp 25) 9) 4 (.bool ((delB i).toList != i.cpty.toList)) h92 fun q97 h98 => ?_
      clear h92
      have h99 := h98.keep [(26, .bool false), (24, .string (delB i)), (25, .string i.cpty), (23, .agg #[.string i.ref, .int .i64 i.kind, .string i.sender, .string i.cpty, .int .i64 i.side, .string i.asset, .int .i64 i.qty, .int .i64 i.amt, .int .i64 i.tday, .int .i64 i.sday, .int .i64 i.prio, .bool i.part, .int .i64 i.minlot, .bool i.hold, .bool i.resv, .slice A33 i.links.length c34]), (5, .string i.sender), (4, .string i.cpty), (3, .pointer (some ⟨b41, 0, none⟩)), (2, .bool false), (1, .pointer (some ⟨b3, 0, none⟩))] ⟨look_bool rfl (sdT i hc74), rfl, rfl, rfl, rfl, rfl, rfl, rfl, rfl, trivial⟩
      clear h98
      refine fE 4 27 (.move (.tmp 26)) 4 (.bool false) h99 fun q100 h101 => ?_
      clear h99
      refine fG 5 28 (.load 29 (.tmp 3)) 29 (4, false) (.agg #[.string i.ref, .int .i64 i.kind, .string i.sender, .string i.cpty, .int .i64 i.side, .string i.asset, .int .i64 i.qty, .int .i64 i.amt, .int .i64 i.tday, .int .i64 i.sday, .int .i64 i.prio, .bool i.part, .int .i64 i.minlot, .bool i.hold, .bool i.resv, .slice A33 i.links.length c34]) (g2 27 (rfl : false = false)) h101 (hr := fun _ hS => r_loadS (b := b41) (vs := [.string i.ref, .int .i64 i.kind, .string i.sender, .string i.cpty, .int .i64 i.side, .string i.asset, .int .i64 i.qty, .int .i64 i.amt, .int .i64 i.tday, .int .i64 i.sday, .int .i64 i.prio, .bool i.part, .int .i64 i.minlot, .bool i.hold, .bool i.resv, .slice A33 i.links.length c34]) hS 0 0 (by kernel_rfl) (by kernel_rfl) (by kernel_rfl)) fun q102 h103 => ?_
      clear h101
      refine fG 7 30 (.move (.tmp 5)) 9 (4, false) (.string i.sender) (g2 27 (rfl : false = false)) h103 fun q104 h105 => ?_
      clear h103
      refine stC (i := 6) (d := 29) (op := Op.call { callee := Callee.value (Operand.func 17), args := #[Operand.tmp 28], argTypes := #[29] }) (ty := 9) (g := (some (4, false))) (f := 17) (args := #[.agg #[.string i.ref, .int .i64 i.kind, .string i.sender, .string i.cpty, .int .i64 i.side, .string i.asset, .int .i64 i.qty, .int .i64 i.amt, .int .i64 i.tday, .int .i64 i.sday, .int .i64 i.prio, .bool i.part, .int .i64 i.minlot, .bool i.hold, .bool i.resv, .slice A33 i.links.length c34]]) (w1 := w93) h105 (by kernel_rfl) (by kernel_rfl) (by kernel_rfl) (g2 27 (rfl : false = false)) (by kernel_rfl) (c17 i A33 c34 w93) ?_
      rintro _ w108 ⟨rfl, hb109⟩
      have hB110 := hB95.call hb109
      have ho111 := own_below ho96 hb109
      refine ⟨_, rfl, hB110, fun q106 h107 => ?_⟩
      clear h105 hB95 hb109
      refine fG 8 31 (.binOp .neq 9 (.tmp 29) (.tmp 30) 9) 4 (4, false) (.bool ((recB i).toList != i.sender.toList)) (g2 27 (rfl : false = false)) h107 fun q112 h113 => ?_
      clear h107
      have h114 := h113.keep [(31, .bool false), (29, .string (recB i)), (30, .string i.sender), (28, .agg #[.string i.ref, .int .i64 i.kind, .string i.sender, .string i.cpty, .int .i64 i.side, .string i.asset, .int .i64 i.qty, .int .i64 i.amt, .int .i64 i.tday, .int .i64 i.sday, .int .i64 i.prio, .bool i.part, .int .i64 i.minlot, .bool i.hold, .bool i.resv, .slice A33 i.links.length c34]), (27, .bool false), (26, .bool false), (24, .string (delB i)), (25, .string i.cpty), (23, .agg #[.string i.ref, .int .i64 i.kind, .string i.sender, .string i.cpty, .int .i64 i.side, .string i.asset, .int .i64 i.qty, .int .i64 i.amt, .int .i64 i.tday, .int .i64 i.sday, .int .i64 i.prio, .bool i.part, .int .i64 i.minlot, .bool i.hold, .bool i.resv, .slice A33 i.links.length c34]), (5, .string i.sender), (4, .string i.cpty), (3, .pointer (some ⟨b41, 0, none⟩)), (2, .bool false), (1, .pointer (some ⟨b3, 0, none⟩))] ⟨look_bool rfl (srT i hc74), rfl, rfl, rfl, rfl, rfl, rfl, rfl, rfl, rfl, rfl, rfl, rfl, rfl, trivial⟩
      clear h113
      refine fE 9 32 (.pick (.tmp 27) (.const (.bool true)) (.tmp 31)) 4 (.bool false) h114 fun q115 h116 => ?_
      clear h114
      refine fE 10 33 (.move (.tmp 32)) 4 (.bool false) h116 fun q117 h118 => ?_
      clear h116
      refine fG 11 34 (.load 29 (.tmp 3)) 29 (10, false) (.agg #[.string i.ref, .int .i64 i.kind, .string i.sender, .string i.cpty, .int .i64 i.side, .string i.asset, .int .i64 i.qty, .int .i64 i.amt, .int .i64 i.tday, .int .i64 i.sday, .int .i64 i.prio, .bool i.part, .int .i64 i.minlot, .bool i.hold, .bool i.resv, .slice A33 i.links.length c34]) (g2 33 (rfl : false = false)) h118 (hr := fun _ hS => r_loadS (b := b41) (vs := [.string i.ref, .int .i64 i.kind, .string i.sender, .string i.cpty, .int .i64 i.side, .string i.asset, .int .i64 i.qty, .int .i64 i.amt, .int .i64 i.tday, .int .i64 i.sday, .int .i64 i.prio, .bool i.part, .int .i64 i.minlot, .bool i.hold, .bool i.resv, .slice A33 i.links.length c34]) hS 0 0 (by kernel_rfl) (by kernel_rfl) (by kernel_rfl)) fun q119 h120 => ?_
      clear h118
      refine fG 13 36 (.fieldAddr 24 (.tmp 1) 1) 0 (10, false) (.pointer (some ⟨b3, 1, none⟩)) (g2 33 (rfl : false = false)) h120 fun q121 h122 => ?_
      clear h120
      refine fG 14 37 (.load 3 (.tmp 36)) 3 (10, false) (.int .i64 i.kind) (g2 33 (rfl : false = false)) h122 (hr := fun _ hS => r_loadC (b := b3) (v := .int .i64 i.kind) hS 1 1 (by kernel_rfl) (by kernel_rfl) (by kernel_rfl)) fun q123 h124 => ?_
      clear h122
      refine fG 15 38 (.binOp .eql 3 (.tmp 37) (.const (.int .i64 1)) 3) 4 (10, false) (.bool (i.kind == (1 : Int))) (g2 33 (rfl : false = false)) h124 fun q125 h126 => ?_
      clear h124
      refine stC (i := 12) (d := 35) (op := Op.call { callee := Callee.value (Operand.func 18), args := #[Operand.tmp 34], argTypes := #[29] }) (ty := 4) (g := (some (10, false))) (f := 18) (args := #[.agg #[.string i.ref, .int .i64 i.kind, .string i.sender, .string i.cpty, .int .i64 i.side, .string i.asset, .int .i64 i.qty, .int .i64 i.amt, .int .i64 i.tday, .int .i64 i.sday, .int .i64 i.prio, .bool i.part, .int .i64 i.minlot, .bool i.hold, .bool i.resv, .slice A33 i.links.length c34]]) (w1 := w108) h126 (by kernel_rfl) (by kernel_rfl) (by kernel_rfl) (g2 33 (rfl : false = false)) (by kernel_rfl) (c18 i A33 c34 w108) ?_
      rintro _ w129 ⟨rfl, hb130⟩
      have hB131 := hB110.call hb130
      have ho132 := own_below ho111 hb130
      refine ⟨_, rfl, hB131, fun q127 h128 => ?_⟩
      clear h126 hB110 hb130
      refine fG 16 39 (.move (.tmp 38)) 4 (10, false) (.bool (i.kind == (1 : Int))) (g2 33 (rfl : false = false)) h128 fun q133 h134 => ?_
      clear h128
      refine wpO_cut [(17, true), (18, true), (19, true), (20, true)] [(21, true), (22, true)] (fun qa qw => Fr 91 [(43, .bool ((i.kind == (1 : Int)) || (i.kind == (2 : Int)))), (35, .bool (isSec i)), (33, .bool false), (3, .pointer (some ⟨b41, 0, none⟩)), (2, .bool false), (1, .pointer (some ⟨b3, 0, none⟩))] qa ∧ Bx w [(b41, .cells #[.string i.ref, .int .i64 i.kind, .string i.sender, .string i.cpty, .int .i64 i.side, .string i.asset, .int .i64 i.qty, .int .i64 i.amt, .int .i64 i.tday, .int .i64 i.sday, .int .i64 i.prio, .bool i.part, .int .i64 i.minlot, .bool i.hold, .bool i.resv, .slice A33 i.links.length c34] 29 (0, 0)), (b3, .cells #[.string i.ref, .int .i64 i.kind, .string i.sender, .string i.cpty, .int .i64 i.side, .string i.asset, .int .i64 i.qty, .int .i64 i.amt, .int .i64 i.tday, .int .i64 i.sday, .int .i64 i.prio, .bool i.part, .int .i64 i.minlot, .bool i.hold, .bool i.resv, .slice A i.links.length c] 24 (0, 0))] qw ∧ World.ownsRow qw w4.heap.size 66 2 (.slice A33 i.links.length c34) i.links.length (lkc i.links)) ?_ ?_
      ·
        rcases Bool.eq_false_or_eq_true (i.kind == (1 : Int)) with hc135 | hc135
        ·
          refine kF 17 40 (16, false) (g4 39 hc135) h134 fun q136 h137 => ?_
          clear h134
          refine kF 18 41 (16, false) (g4 39 hc135) h137 fun q138 h139 => ?_
          clear h137
          refine kF 19 42 (16, false) (g4 39 hc135) h139 fun q140 h141 => ?_
          clear h139
          refine fG 20 43 (.pick (.tmp 39) (.const (.bool true)) (.tmp 42)) 4 (10, false) (.bool ((i.kind == (1 : Int)) || (i.kind == (2 : Int)))) (g2 33 (rfl : false = false)) h141 (hr := fun _ hS => r_or (c := (i.kind == (1 : Int))) (d := (i.kind == (2 : Int))) (by kernel_rfl) (fun e144 => Bool.noConfusion (e144.symm.trans hc135))) fun q142 h143 => ?_
          clear h141
          exact ⟨h143.keep _ ⟨rfl, rfl, rfl, rfl, rfl, rfl, trivial⟩, hB131, ho132⟩
        ·
          refine fG 17 40 (.fieldAddr 24 (.tmp 1) 1) 0 (16, false) (.pointer (some ⟨b3, 1, none⟩)) (g2 39 hc135) h134 fun q145 h146 => ?_
          clear h134
          refine fG 18 41 (.load 3 (.tmp 40)) 3 (16, false) (.int .i64 i.kind) (g2 39 hc135) h146 (hr := fun _ hS => r_loadC (b := b3) (v := .int .i64 i.kind) hS 1 1 (by kernel_rfl) (by kernel_rfl) (by kernel_rfl)) fun q147 h148 => ?_
          clear h146
          refine fG 19 42 (.binOp .eql 3 (.tmp 41) (.const (.int .i64 2)) 3) 4 (16, false) (.bool (i.kind == (2 : Int))) (g2 39 hc135) h148 fun q149 h150 => ?_
          clear h148
          refine fG 20 43 (.pick (.tmp 39) (.const (.bool true)) (.tmp 42)) 4 (10, false) (.bool ((i.kind == (1 : Int)) || (i.kind == (2 : Int)))) (g2 33 (rfl : false = false)) h150 (hr := fun _ hS => r_or (c := (i.kind == (1 : Int))) (d := (i.kind == (2 : Int))) (by kernel_rfl) (fun _ => by kernel_rfl)) fun q151 h152 => ?_
          clear h150
          exact ⟨h152.keep _ ⟨rfl, rfl, rfl, rfl, rfl, rfl, trivial⟩, hB131, ho132⟩
      rintro q153 w154 ⟨h155, hB156, ho157⟩
      refine fG 21 44 (.binOp .neq 4 (.tmp 35) (.tmp 43) 4) 4 (10, false) (.bool ((isSec i) != ((i.kind == (1 : Int)) || (i.kind == (2 : Int))))) (g2 33 (rfl : false = false)) h155 fun q158 h159 => ?_
      clear h155
      have h160 := h159.keep [(44, .bool false), (43, .bool ((i.kind == (1 : Int)) || (i.kind == (2 : Int)))), (35, .bool (isSec i)), (33, .bool false), (3, .pointer (some ⟨b41, 0, none⟩)), (2, .bool false), (1, .pointer (some ⟨b3, 0, none⟩))] ⟨look_bool rfl (sec_same i), rfl, rfl, rfl, rfl, rfl, rfl, trivial⟩
      clear h159
      refine fE 22 45 (.pick (.tmp 33) (.const (.bool true)) (.tmp 44)) 4 (.bool false) h160 fun q161 h162 => ?_
      clear h160
      refine wpO_end ?_
      have h163 := h162.keep [(45, .bool false), (3, .pointer (some ⟨b41, 0, none⟩)), (2, .bool false), (1, .pointer (some ⟨b3, 0, none⟩))] ⟨rfl, rfl, rfl, rfl, trivial⟩
      clear h162
      refine then_n ?_
      refine c_cond (t := 45) (b := false) h163 (by kernel_rfl) (by kernel_rfl) (fun e164 => Bool.noConfusion (e164.symm.trans (rfl))) (fun _ => ?_)
      refine c_skip (by kernel_rfl) ?_
      refine then_n ?_
      refine c_seq (by kernel_rfl) ?_
      refine c_seq (by kernel_rfl) ?_
      refine reg_plain [(0, false), (1, false), (2, false), (3, false), (4, false), (5, false), (6, false), (7, false), (8, false), (9, false), (10, false), (11, false), (12, false)] (by kernel_rfl) (by kernel_rfl) ?_
      refine eE 0 46 (.load 24 (.tmp 1)) 24 (.agg #[.string i.ref, .int .i64 i.kind, .string i.sender, .string i.cpty, .int .i64 i.side, .string i.asset, .int .i64 i.qty, .int .i64 i.amt, .int .i64 i.tday, .int .i64 i.sday, .int .i64 i.prio, .bool i.part, .int .i64 i.minlot, .bool i.hold, .bool i.resv, .slice A i.links.length c]) h163 (hr := r_loadS (b := b3) (vs := [.string i.ref, .int .i64 i.kind, .string i.sender, .string i.cpty, .int .i64 i.side, .string i.asset, .int .i64 i.qty, .int .i64 i.amt, .int .i64 i.tday, .int .i64 i.sday, .int .i64 i.prio, .bool i.part, .int .i64 i.minlot, .bool i.hold, .bool i.resv, .slice A i.links.length c]) hB156 1 0 (by kernel_rfl) (by kernel_rfl) (by kernel_rfl)) fun q165 h166 => ?_
      clear h163
      refine stC (i := 1) (d := 47) (op := Op.call { callee := Callee.value (Operand.func 15), args := #[Operand.tmp 46], argTypes := #[24] }) (ty := 3) (g := none) (f := 15) (args := #[.agg #[.string i.ref, .int .i64 i.kind, .string i.sender, .string i.cpty, .int .i64 i.side, .string i.asset, .int .i64 i.qty, .int .i64 i.amt, .int .i64 i.tday, .int .i64 i.sday, .int .i64 i.prio, .bool i.part, .int .i64 i.minlot, .bool i.hold, .bool i.resv, .slice A i.links.length c]]) (w1 := w154) h166 (by kernel_rfl) (by kernel_rfl) (by kernel_rfl) gok_none (by kernel_rfl) (c15 i A c w154 (show i.links.length ≤ 4611686018427387904 by omega) (hr.below hB156.bel)) ?_
      rintro _ w169 ⟨rfl, hb170⟩
      have hB171 := hB156.call hb170
      have ho172 := own_below ho157 hb170
      refine ⟨_, rfl, trivial, fun q167 h168 => ?_⟩
      clear h166 hB156 hb170
      refine eE 2 48 (.binOp .neq 3 (.tmp 47) (.const (.int .i64 0)) 3) 4 (.bool (refI i != (0 : Int))) h168 fun q173 h174 => ?_
      clear h168
      refine eE 3 49 (.move (.tmp 48)) 4 (.bool (refI i != (0 : Int))) h174 fun q175 h176 => ?_
      clear h174
      refine wpO_cut [(4, false), (5, false), (6, false), (7, false), (8, false), (9, false), (10, false), (11, false), (12, false)] [] (fun qa qw => Fr 91 [(58, .bool ((refI i != (0 : Int)) || ((i.kind != (1 : Int)) && (i.kind != (2 : Int))))), (3, .pointer (some ⟨b41, 0, none⟩)), (2, .bool false)] qa ∧ Bx w [(b41, .cells #[.string i.ref, .int .i64 i.kind, .string i.sender, .string i.cpty, .int .i64 i.side, .string i.asset, .int .i64 i.qty, .int .i64 i.amt, .int .i64 i.tday, .int .i64 i.sday, .int .i64 i.prio, .bool i.part, .int .i64 i.minlot, .bool i.hold, .bool i.resv, .slice A33 i.links.length c34] 29 (0, 0)), (b3, .cells #[.string i.ref, .int .i64 i.kind, .string i.sender, .string i.cpty, .int .i64 i.side, .string i.asset, .int .i64 i.qty, .int .i64 i.amt, .int .i64 i.tday, .int .i64 i.sday, .int .i64 i.prio, .bool i.part, .int .i64 i.minlot, .bool i.hold, .bool i.resv, .slice A i.links.length c] 24 (0, 0))] qw ∧ World.ownsRow qw w4.heap.size 66 2 (.slice A33 i.links.length c34) i.links.length (lkc i.links)) ?_ ?_
      ·
        rcases Bool.eq_false_or_eq_true (refI i != (0 : Int)) with hc177 | hc177
        ·
          refine kE 4 50 (3, false) (g4 49 hc177) h176 trivial fun q178 h179 => ?_
          clear h176
          refine kE 5 51 (3, false) (g4 49 hc177) h179 trivial fun q180 h181 => ?_
          clear h179
          refine kE 6 52 (3, false) (g4 49 hc177) h181 trivial fun q182 h183 => ?_
          clear h181
          refine kE 7 53 (3, false) (g4 49 hc177) h183 trivial fun q184 h185 => ?_
          clear h183
          refine kE 8 54 (7, true) (g0 53) h185 trivial fun q186 h187 => ?_
          clear h185
          refine kE 9 55 (7, true) (g0 53) h187 trivial fun q188 h189 => ?_
          clear h187
          refine kE 10 56 (7, true) (g0 53) h189 trivial fun q190 h191 => ?_
          clear h189
          refine kE 11 57 (3, false) (g4 49 hc177) h191 trivial fun q192 h193 => ?_
          clear h191
          refine eE 12 58 (.pick (.tmp 49) (.const (.bool true)) (.tmp 57)) 4 (.bool ((refI i != (0 : Int)) || ((i.kind != (1 : Int)) && (i.kind != (2 : Int))))) h193 (hr := r_or (c := (refI i != (0 : Int))) (d := ((i.kind != (1 : Int)) && (i.kind != (2 : Int)))) (by kernel_rfl) (fun e196 => Bool.noConfusion (e196.symm.trans hc177))) fun q194 h195 => ?_
          clear h193
          exact ⟨h195.keep _ ⟨rfl, rfl, rfl, trivial⟩, hB171, ho172⟩
        ·
          refine eG 4 50 (.fieldAddr 24 (.tmp 1) 1) 0 (3, false) (.pointer (some ⟨b3, 1, none⟩)) (g2 49 hc177) h176 fun q197 h198 => ?_
          clear h176
          refine eG 5 51 (.load 3 (.tmp 50)) 3 (3, false) (.int .i64 i.kind) (g2 49 hc177) h198 (hr := r_loadC (b := b3) (v := .int .i64 i.kind) hB171 1 1 (by kernel_rfl) (by kernel_rfl) (by kernel_rfl)) fun q199 h200 => ?_
          clear h198
          refine eG 6 52 (.binOp .neq 3 (.tmp 51) (.const (.int .i64 1)) 3) 4 (3, false) (.bool (i.kind != (1 : Int))) (g2 49 hc177) h200 fun q201 h202 => ?_
          clear h200
          refine eG 7 53 (.move (.tmp 52)) 4 (3, false) (.bool (i.kind != (1 : Int))) (g2 49 hc177) h202 fun q203 h204 => ?_
          clear h202
          refine wpO_cut [(8, false), (9, false), (10, false), (11, false)] [(12, false)] (fun qa qw => Fr 91 [(57, .bool ((i.kind != (1 : Int)) && (i.kind != (2 : Int)))), (49, .bool (refI i != (0 : Int))), (3, .pointer (some ⟨b41, 0, none⟩)), (2, .bool false)] qa ∧ Bx w [(b41, .cells #[.string i.ref, .int .i64 i.kind, .string i.sender, .string i.cpty, .int .i64 i.side, .string i.asset, .int .i64 i.qty, .int .i64 i.amt, .int .i64 i.tday, .int .i64 i.sday, .int .i64 i.prio, .bool i.part, .int .i64 i.minlot, .bool i.hold, .bool i.resv, .slice A33 i.links.length c34] 29 (0, 0)), (b3, .cells #[.string i.ref, .int .i64 i.kind, .string i.sender, .string i.cpty, .int .i64 i.side, .string i.asset, .int .i64 i.qty, .int .i64 i.amt, .int .i64 i.tday, .int .i64 i.sday, .int .i64 i.prio, .bool i.part, .int .i64 i.minlot, .bool i.hold, .bool i.resv, .slice A i.links.length c] 24 (0, 0))] qw ∧ World.ownsRow qw w4.heap.size 66 2 (.slice A33 i.links.length c34) i.links.length (lkc i.links)) ?_ ?_
          ·
            rcases Bool.eq_false_or_eq_true (i.kind != (1 : Int)) with hc205 | hc205
            ·
              refine eG 8 54 (.fieldAddr 24 (.tmp 1) 1) 0 (7, true) (.pointer (some ⟨b3, 1, none⟩)) (g1 53 hc205) h204 fun q206 h207 => ?_
              clear h204
              refine eG 9 55 (.load 3 (.tmp 54)) 3 (7, true) (.int .i64 i.kind) (g1 53 hc205) h207 (hr := r_loadC (b := b3) (v := .int .i64 i.kind) hB171 1 1 (by kernel_rfl) (by kernel_rfl) (by kernel_rfl)) fun q208 h209 => ?_
              clear h207
              refine eG 10 56 (.binOp .neq 3 (.tmp 55) (.const (.int .i64 2)) 3) 4 (7, true) (.bool (i.kind != (2 : Int))) (g1 53 hc205) h209 fun q210 h211 => ?_
              clear h209
              refine eG 11 57 (.pick (.tmp 53) (.tmp 56) (.const (.bool false))) 4 (3, false) (.bool ((i.kind != (1 : Int)) && (i.kind != (2 : Int)))) (g2 49 hc177) h211 (hr := r_and (c := (i.kind != (1 : Int))) (d := (i.kind != (2 : Int))) (by kernel_rfl) (fun _ => by kernel_rfl)) fun q212 h213 => ?_
              clear h211
              exact ⟨h213.keep _ ⟨rfl, rfl, rfl, rfl, trivial⟩, hB171, ho172⟩
            ·
              refine kE 8 54 (7, true) (g3 53 hc205) h204 trivial fun q214 h215 => ?_
              clear h204
              refine kE 9 55 (7, true) (g3 53 hc205) h215 trivial fun q216 h217 => ?_
              clear h215
              refine kE 10 56 (7, true) (g3 53 hc205) h217 trivial fun q218 h219 => ?_
              clear h217
              refine eG 11 57 (.pick (.tmp 53) (.tmp 56) (.const (.bool false))) 4 (3, false) (.bool ((i.kind != (1 : Int)) && (i.kind != (2 : Int)))) (g2 49 hc177) h219 (hr := r_and (c := (i.kind != (1 : Int))) (d := (i.kind != (2 : Int))) (by kernel_rfl) (fun e222 => Bool.noConfusion (e222.symm.trans hc205))) fun q220 h221 => ?_
              clear h219
              exact ⟨h221.keep _ ⟨rfl, rfl, rfl, rfl, trivial⟩, hB171, ho172⟩
          rintro q223 w224 ⟨h225, hB226, ho227⟩
          refine eE 12 58 (.pick (.tmp 49) (.const (.bool true)) (.tmp 57)) 4 (.bool ((refI i != (0 : Int)) || ((i.kind != (1 : Int)) && (i.kind != (2 : Int))))) h225 (hr := r_or (c := (refI i != (0 : Int))) (d := ((i.kind != (1 : Int)) && (i.kind != (2 : Int)))) (by kernel_rfl) (fun _ => by kernel_rfl)) fun q228 h229 => ?_
          clear h225
          exact ⟨h229.keep _ ⟨rfl, rfl, rfl, trivial⟩, hB226, ho227⟩
      rintro q230 w231 ⟨h232, hB233, ho234⟩
      refine wpO_end ?_
      refine then_n ?_
      refine c_cond (t := 58) (b := (refI i != (0 : Int)) || ((i.kind != (1 : Int)) && (i.kind != (2 : Int)))) h232 (by kernel_rfl) (by kernel_rfl) (fun hc235 => ?_) (fun hc235 => ?_)
      ·
        refine c_seq (by kernel_rfl) ?_
        refine reg_plain [(0, false), (1, false)] (by kernel_rfl) (by kernel_rfl) ?_
        refine stC (i := 0) (d := 59) (op := Op.call { callee := Callee.value (Operand.func 12), args := #[], argTypes := #[] }) (ty := 4) (g := none) (f := 12) (args := #[]) (w1 := w231) h232 (by kernel_rfl) (by kernel_rfl) (by kernel_rfl) gok_none (by kernel_rfl) (c12 w231) ?_
        rintro _ w238 ⟨rfl, hb239⟩
        have hB240 := hB233.call hb239
        have ho241 := own_below ho234 hb239
        refine ⟨_, rfl, trivial, fun q236 h237 => ?_⟩
        clear h232 hB233 hb239
        refine eE 1 2 (.assign (.tmp 59)) 4 (.bool true) h237 fun q242 h243 => ?_
        clear h237
        refine wpO_end ?_
        have h244 := h243.keep [(2, .bool true), (3, .pointer (some ⟨b41, 0, none⟩))] ⟨rfl, rfl, trivial⟩
        clear h243
        refine then_n ?_
        refine c_ret (by kernel_rfl) ?_
        refine then_r ?_
        refine ret1 (t := 2) (v := .bool true) h244 (by kernel_rfl) (by kernel_rfl) ?_
        exact ⟨ret_eq (rfl), hB240.bel⟩
      ·
        refine c_skip (by kernel_rfl) ?_
        refine then_n ?_
        refine c_seq (by kernel_rfl) ?_
        refine reg_plain [(0, false), (1, false), (2, false)] (by kernel_rfl) (by kernel_rfl) ?_
        refine eE 0 60 (.load 29 (.tmp 3)) 29 (.agg #[.string i.ref, .int .i64 i.kind, .string i.sender, .string i.cpty, .int .i64 i.side, .string i.asset, .int .i64 i.qty, .int .i64 i.amt, .int .i64 i.tday, .int .i64 i.sday, .int .i64 i.prio, .bool i.part, .int .i64 i.minlot, .bool i.hold, .bool i.resv, .slice A33 i.links.length c34]) h232 (hr := r_loadS (b := b41) (vs := [.string i.ref, .int .i64 i.kind, .string i.sender, .string i.cpty, .int .i64 i.side, .string i.asset, .int .i64 i.qty, .int .i64 i.amt, .int .i64 i.tday, .int .i64 i.sday, .int .i64 i.prio, .bool i.part, .int .i64 i.minlot, .bool i.hold, .bool i.resv, .slice A33 i.links.length c34]) hB233 0 0 (by kernel_rfl) (by kernel_rfl) (by kernel_rfl)) fun q245 h246 => ?_
        clear h232
        refine stA (i := 1) (d := 6) (op := Op.alloc 29) (ty := 0) (g := none) (mk := fun b => .pointer (some ⟨b, 0, none⟩)) (o := .cells #[.string (⟨#[]⟩ : ByteArray), .int .i64 0, .string (⟨#[]⟩ : ByteArray), .string (⟨#[]⟩ : ByteArray), .int .i64 0, .string (⟨#[]⟩ : ByteArray), .int .i64 0, .int .i64 0, .int .i64 0, .int .i64 0, .int .i64 0, .bool false, .int .i64 0, .bool false, .bool false, .slice none 0 0] 29 (0, 0)) h246 (by kernel_rfl) (by kernel_rfl) (by kernel_rfl) gok_none (fun _ => by kernel_rfl) hB233 (fun _ _ hq => trivial) (fun b249 w250 hB251 hN q247 h248 => ?_)
        have ho252 := own_below ho234 hN
        clear h246 hB233 hN
        refine stWs (i := 2) (ty := 0) (t := 29) (x := Operand.tmp 6) (y := Operand.tmp 60) (g := none) 0 0 (b := b249) (T := 29) (cs := [.string (⟨#[]⟩ : ByteArray), .int .i64 0, .string (⟨#[]⟩ : ByteArray), .string (⟨#[]⟩ : ByteArray), .int .i64 0, .string (⟨#[]⟩ : ByteArray), .int .i64 0, .int .i64 0, .int .i64 0, .int .i64 0, .int .i64 0, .bool false, .int .i64 0, .bool false, .bool false, .slice none 0 0]) (vs := [.string i.ref, .int .i64 i.kind, .string i.sender, .string i.cpty, .int .i64 i.side, .string i.asset, .int .i64 i.qty, .int .i64 i.amt, .int .i64 i.tday, .int .i64 i.sday, .int .i64 i.prio, .bool i.part, .int .i64 i.minlot, .bool i.hold, .bool i.resv, .slice A33 i.links.length c34]) (cs' := [.string i.ref, .int .i64 i.kind, .string i.sender, .string i.cpty, .int .i64 i.side, .string i.asset, .int .i64 i.qty, .int .i64 i.amt, .int .i64 i.tday, .int .i64 i.sday, .int .i64 i.prio, .bool i.part, .int .i64 i.minlot, .bool i.hold, .bool i.resv, .slice A33 i.links.length c34]) h248 (by kernel_rfl) (by kernel_rfl) gok_none hB251 (by kernel_rfl) (by kernel_rfl) (by kernel_rfl) (by kernel_rfl) (by kernel_rfl) (by kernel_rfl) (by kernel_rfl) (.inr fun _ _ => trivial) (fun w255 hB256 hT q253 h254 => ?_)
        replace hB256 : Bx w [(b249, .cells #[.string i.ref, .int .i64 i.kind, .string i.sender, .string i.cpty, .int .i64 i.side, .string i.asset, .int .i64 i.qty, .int .i64 i.amt, .int .i64 i.tday, .int .i64 i.sday, .int .i64 i.prio, .bool i.part, .int .i64 i.minlot, .bool i.hold, .bool i.resv, .slice A33 i.links.length c34] 29 (0, 0)), (b41, .cells #[.string i.ref, .int .i64 i.kind, .string i.sender, .string i.cpty, .int .i64 i.side, .string i.asset, .int .i64 i.qty, .int .i64 i.amt, .int .i64 i.tday, .int .i64 i.sday, .int .i64 i.prio, .bool i.part, .int .i64 i.minlot, .bool i.hold, .bool i.resv, .slice A33 i.links.length c34] 29 (0, 0)), (b3, .cells #[.string i.ref, .int .i64 i.kind, .string i.sender, .string i.cpty, .int .i64 i.side, .string i.asset, .int .i64 i.qty, .int .i64 i.amt, .int .i64 i.tday, .int .i64 i.sday, .int .i64 i.prio, .bool i.part, .int .i64 i.minlot, .bool i.hold, .bool i.resv, .slice A i.links.length c] 24 (0, 0))] w255 := hB256
        clear h248 hB251
        have ho257 := own_turned ho252 hT (by kernel_rfl)
        clear hT
        refine wpO_end ?_
        have h258 := h254.keep [(6, .pointer (some ⟨b249, 0, none⟩)), (3, .pointer (some ⟨b41, 0, none⟩)), (2, .bool false)] ⟨rfl, rfl, rfl, trivial⟩
        clear h254
        refine then_n ?_
        refine c_seq (by kernel_rfl) ?_
        have hD259 := hB256.drew
        refine reg_draw (S := Bx w [(b41, .cells #[.string i.ref, .int .i64 i.kind, .string i.sender, .string i.cpty, .int .i64 i.side, .string i.asset, .int .i64 i.qty, .int .i64 i.amt, .int .i64 i.tday, .int .i64 i.sday, .int .i64 i.prio, .bool i.part, .int .i64 i.minlot, .bool i.hold, .bool i.resv, .slice A33 i.links.length c34] 29 (0, 0)), (b3, .cells #[.string i.ref, .int .i64 i.kind, .string i.sender, .string i.cpty, .int .i64 i.side, .string i.asset, .int .i64 i.qty, .int .i64 i.amt, .int .i64 i.tday, .int .i64 i.sday, .int .i64 i.prio, .bool i.part, .int .i64 i.minlot, .bool i.hold, .bool i.resv, .slice A i.links.length c] 24 (0, 0))]) 13 [⟨0, true, 0, 8, 2305843009213693952⟩, ⟨1, true, 1, 2305843009213693952, 4611686018427387904⟩, ⟨2, true, 0, 8, 9223372036854775808⟩, ⟨3, true, 4, 9223372036854775808, 18446744073709551616⟩, ⟨4, true, 0, 8, 36893488147419103232⟩, ⟨5, true, 16, 36893488147419103232, 73786976294838206464⟩, ⟨6, true, 32, 73786976294838206464, 147573952589676412928⟩, ⟨7, true, 3, 64, 295147905179352825856⟩, ⟨8, false, 131, 299759591197780213760, 0⟩, ⟨9, true, 399, 64, 590295810358705651712⟩, ⟨10, false, 911, 608742554432415203328, 0⟩, ⟨11, true, 2047, 64, 1180591620717411303424⟩, ⟨12, false, 4095, 1328165573307087716352, 0⟩] [(0, true), (1, true), (2, true), (3, true), (4, true), (5, true), (6, true), (7, true), (8, false), (9, true), (10, false), (11, true), (12, false)] (by kernel_rfl) (by kernel_rfl) (by kernel_rfl) (by kernel_rfl) (fun _ _ _ _ h => absurd h.2 (by simp)) hD259.tail ?_
        have ho260 := own_drew ho257
        generalize World.drew w255 = w261 at hD259 ho260 ⊢
        refine fE 0 61 (.fieldAddr 29 (.tmp 3) 3) 0 (.pointer (some ⟨b41, 3, none⟩)) h258 fun q262 h263 => ?_
        clear h258
        refine fE 1 62 (.load 9 (.tmp 61)) 9 (.string i.cpty) h263 (hr := fun _ hS => r_loadC (b := b41) (v := .string i.cpty) hS 0 3 (by kernel_rfl) (by kernel_rfl) (by kernel_rfl)) fun q264 h265 => ?_
        clear h263
        refine fE 2 63 (.fieldAddr 29 (.tmp 3) 2) 0 (.pointer (some ⟨b41, 2, none⟩)) h265 fun q266 h267 => ?_
        clear h265
        refine fE 3 64 (.load 9 (.tmp 63)) 9 (.string i.sender) h267 (hr := fun _ hS => r_loadC (b := b41) (v := .string i.sender) hS 0 2 (by kernel_rfl) (by kernel_rfl) (by kernel_rfl)) fun q268 h269 => ?_
        clear h267
        refine fE 4 65 (.fieldAddr 29 (.tmp 3) 4) 0 (.pointer (some ⟨b41, 4, none⟩)) h269 fun q270 h271 => ?_
        clear h269
        refine fE 5 66 (.load 3 (.tmp 65)) 3 (.int .i64 i.side) h271 (hr := fun _ hS => r_loadC (b := b41) (v := .int .i64 i.side) hS 0 4 (by kernel_rfl) (by kernel_rfl) (by kernel_rfl)) fun q272 h273 => ?_
        clear h271
        refine fE 6 67 (.binOp .sub 3 (.const (.int .i64 1)) (.tmp 66) 3) 3 (.int .i64 (IntKind.i64.wrap (1 - i.side))) h273 fun q274 h275 => ?_
        clear h273
        refine fE 7 68 (.fieldAddr 29 (.tmp 6) 2) 0 (.pointer (some ⟨b249, 2, none⟩)) h275 fun q276 h277 => ?_
        clear h275
        refine stWs (i := 8) (ty := 0) (t := 9) (x := Operand.tmp 68) (y := Operand.tmp 62) (g := none) 0 2 (b := b249) (T := 29) (cs := [.string i.ref, .int .i64 i.kind, .string i.sender, .string i.cpty, .int .i64 i.side, .string i.asset, .int .i64 i.qty, .int .i64 i.amt, .int .i64 i.tday, .int .i64 i.sday, .int .i64 i.prio, .bool i.part, .int .i64 i.minlot, .bool i.hold, .bool i.resv, .slice A33 i.links.length c34]) (vs := [.string i.cpty]) (cs' := [.string i.ref, .int .i64 i.kind, .string i.cpty, .string i.cpty, .int .i64 i.side, .string i.asset, .int .i64 i.qty, .int .i64 i.amt, .int .i64 i.tday, .int .i64 i.sday, .int .i64 i.prio, .bool i.part, .int .i64 i.minlot, .bool i.hold, .bool i.resv, .slice A33 i.links.length c34]) h277 (by kernel_rfl) (by kernel_rfl) gok_none hD259 (by kernel_rfl) (by kernel_rfl) (by kernel_rfl) (by kernel_rfl) (by kernel_rfl) (by kernel_rfl) (by kernel_rfl) (.inr fun _ hq => hq.tail) (fun w280 hB281 hT q278 h279 => ?_)
        replace hB281 : Bx w [(b249, .cells #[.string i.ref, .int .i64 i.kind, .string i.cpty, .string i.cpty, .int .i64 i.side, .string i.asset, .int .i64 i.qty, .int .i64 i.amt, .int .i64 i.tday, .int .i64 i.sday, .int .i64 i.prio, .bool i.part, .int .i64 i.minlot, .bool i.hold, .bool i.resv, .slice A33 i.links.length c34] 29 (0, 0)), (b41, .cells #[.string i.ref, .int .i64 i.kind, .string i.sender, .string i.cpty, .int .i64 i.side, .string i.asset, .int .i64 i.qty, .int .i64 i.amt, .int .i64 i.tday, .int .i64 i.sday, .int .i64 i.prio, .bool i.part, .int .i64 i.minlot, .bool i.hold, .bool i.resv, .slice A33 i.links.length c34] 29 (0, 0)), (b3, .cells #[.string i.ref, .int .i64 i.kind, .string i.sender, .string i.cpty, .int .i64 i.side, .string i.asset, .int .i64 i.qty, .int .i64 i.amt, .int .i64 i.tday, .int .i64 i.sday, .int .i64 i.prio, .bool i.part, .int .i64 i.minlot, .bool i.hold, .bool i.resv, .slice A i.links.length c] 24 (0, 0))] w280 := hB281
        clear h277 hD259
        have ho282 := own_turned ho260 hT (by kernel_rfl)
        clear hT
        refine fE 9 69 (.fieldAddr 29 (.tmp 6) 3) 0 (.pointer (some ⟨b249, 3, none⟩)) h279 fun q283 h284 => ?_
        clear h279
        refine stWs (i := 10) (ty := 0) (t := 9) (x := Operand.tmp 69) (y := Operand.tmp 64) (g := none) 0 3 (b := b249) (T := 29) (cs := [.string i.ref, .int .i64 i.kind, .string i.cpty, .string i.cpty, .int .i64 i.side, .string i.asset, .int .i64 i.qty, .int .i64 i.amt, .int .i64 i.tday, .int .i64 i.sday, .int .i64 i.prio, .bool i.part, .int .i64 i.minlot, .bool i.hold, .bool i.resv, .slice A33 i.links.length c34]) (vs := [.string i.sender]) (cs' := [.string i.ref, .int .i64 i.kind, .string i.cpty, .string i.sender, .int .i64 i.side, .string i.asset, .int .i64 i.qty, .int .i64 i.amt, .int .i64 i.tday, .int .i64 i.sday, .int .i64 i.prio, .bool i.part, .int .i64 i.minlot, .bool i.hold, .bool i.resv, .slice A33 i.links.length c34]) h284 (by kernel_rfl) (by kernel_rfl) gok_none hB281 (by kernel_rfl) (by kernel_rfl) (by kernel_rfl) (by kernel_rfl) (by kernel_rfl) (by kernel_rfl) (by kernel_rfl) (.inr fun _ hq => hq.tail) (fun w287 hB288 hT q285 h286 => ?_)
        replace hB288 : Bx w [(b249, .cells #[.string i.ref, .int .i64 i.kind, .string i.cpty, .string i.sender, .int .i64 i.side, .string i.asset, .int .i64 i.qty, .int .i64 i.amt, .int .i64 i.tday, .int .i64 i.sday, .int .i64 i.prio, .bool i.part, .int .i64 i.minlot, .bool i.hold, .bool i.resv, .slice A33 i.links.length c34] 29 (0, 0)), (b41, .cells #[.string i.ref, .int .i64 i.kind, .string i.sender, .string i.cpty, .int .i64 i.side, .string i.asset, .int .i64 i.qty, .int .i64 i.amt, .int .i64 i.tday, .int .i64 i.sday, .int .i64 i.prio, .bool i.part, .int .i64 i.minlot, .bool i.hold, .bool i.resv, .slice A33 i.links.length c34] 29 (0, 0)), (b3, .cells #[.string i.ref, .int .i64 i.kind, .string i.sender, .string i.cpty, .int .i64 i.side, .string i.asset, .int .i64 i.qty, .int .i64 i.amt, .int .i64 i.tday, .int .i64 i.sday, .int .i64 i.prio, .bool i.part, .int .i64 i.minlot, .bool i.hold, .bool i.resv, .slice A i.links.length c] 24 (0, 0))] w287 := hB288
        clear h284 hB281
        have ho289 := own_turned ho282 hT (by kernel_rfl)
        clear hT
        refine fE 11 70 (.fieldAddr 29 (.tmp 6) 4) 0 (.pointer (some ⟨b249, 4, none⟩)) h286 fun q290 h291 => ?_
        clear h286
        refine stWs (i := 12) (ty := 0) (t := 3) (x := Operand.tmp 70) (y := Operand.tmp 67) (g := none) 0 4 (b := b249) (T := 29) (cs := [.string i.ref, .int .i64 i.kind, .string i.cpty, .string i.sender, .int .i64 i.side, .string i.asset, .int .i64 i.qty, .int .i64 i.amt, .int .i64 i.tday, .int .i64 i.sday, .int .i64 i.prio, .bool i.part, .int .i64 i.minlot, .bool i.hold, .bool i.resv, .slice A33 i.links.length c34]) (vs := [.int .i64 (IntKind.i64.wrap (1 - i.side))]) (cs' := [.string i.ref, .int .i64 i.kind, .string i.cpty, .string i.sender, .int .i64 (IntKind.i64.wrap (1 - i.side)), .string i.asset, .int .i64 i.qty, .int .i64 i.amt, .int .i64 i.tday, .int .i64 i.sday, .int .i64 i.prio, .bool i.part, .int .i64 i.minlot, .bool i.hold, .bool i.resv, .slice A33 i.links.length c34]) h291 (by kernel_rfl) (by kernel_rfl) gok_none hB288 (by kernel_rfl) (by kernel_rfl) (by kernel_rfl) (by kernel_rfl) (by kernel_rfl) (by kernel_rfl) (by kernel_rfl) (.inr fun _ hq => hq.tail) (fun w294 hB295 hT q292 h293 => ?_)
        replace hB295 : Bx w [(b249, .cells #[.string i.ref, .int .i64 i.kind, .string i.cpty, .string i.sender, .int .i64 (IntKind.i64.wrap (1 - i.side)), .string i.asset, .int .i64 i.qty, .int .i64 i.amt, .int .i64 i.tday, .int .i64 i.sday, .int .i64 i.prio, .bool i.part, .int .i64 i.minlot, .bool i.hold, .bool i.resv, .slice A33 i.links.length c34] 29 (0, 0)), (b41, .cells #[.string i.ref, .int .i64 i.kind, .string i.sender, .string i.cpty, .int .i64 i.side, .string i.asset, .int .i64 i.qty, .int .i64 i.amt, .int .i64 i.tday, .int .i64 i.sday, .int .i64 i.prio, .bool i.part, .int .i64 i.minlot, .bool i.hold, .bool i.resv, .slice A33 i.links.length c34] 29 (0, 0)), (b3, .cells #[.string i.ref, .int .i64 i.kind, .string i.sender, .string i.cpty, .int .i64 i.side, .string i.asset, .int .i64 i.qty, .int .i64 i.amt, .int .i64 i.tday, .int .i64 i.sday, .int .i64 i.prio, .bool i.part, .int .i64 i.minlot, .bool i.hold, .bool i.resv, .slice A i.links.length c] 24 (0, 0))] w294 := hB295
        clear h291 hB288
        have ho296 := own_turned ho289 hT (by kernel_rfl)
        clear hT
        refine wpO_end ?_
        have h297 := h293.keep [(6, .pointer (some ⟨b249, 0, none⟩)), (3, .pointer (some ⟨b41, 0, none⟩)), (2, .bool false)] ⟨rfl, rfl, rfl, trivial⟩
        clear h293
        refine then_n ?_
        refine c_seq (by kernel_rfl) ?_
        have hD298 := hB295.drew
        refine reg_draw (S := Bx w [(b249, .cells #[.string i.ref, .int .i64 i.kind, .string i.cpty, .string i.sender, .int .i64 (IntKind.i64.wrap (1 - i.side)), .string i.asset, .int .i64 i.qty, .int .i64 i.amt, .int .i64 i.tday, .int .i64 i.sday, .int .i64 i.prio, .bool i.part, .int .i64 i.minlot, .bool i.hold, .bool i.resv, .slice A33 i.links.length c34] 29 (0, 0)), (b41, .cells #[.string i.ref, .int .i64 i.kind, .string i.sender, .string i.cpty, .int .i64 i.side, .string i.asset, .int .i64 i.qty, .int .i64 i.amt, .int .i64 i.tday, .int .i64 i.sday, .int .i64 i.prio, .bool i.part, .int .i64 i.minlot, .bool i.hold, .bool i.resv, .slice A33 i.links.length c34] 29 (0, 0)), (b3, .cells #[.string i.ref, .int .i64 i.kind, .string i.sender, .string i.cpty, .int .i64 i.side, .string i.asset, .int .i64 i.qty, .int .i64 i.amt, .int .i64 i.tday, .int .i64 i.sday, .int .i64 i.prio, .bool i.part, .int .i64 i.minlot, .bool i.hold, .bool i.resv, .slice A i.links.length c] 24 (0, 0))]) 21 [⟨0, true, 0, 64, 2361183241434822606848⟩, ⟨1, false, 1, 2361183241434822606848, 4722366482869645213696⟩, ⟨2, true, 2, 4722366482869645213696, 9444732965739290427392⟩, ⟨3, true, 6, 9444732965739290427392, 18889465931478580854784⟩, ⟨4, true, 8, 18889465931478580854848, 37778931862957161709568⟩, ⟨6, true, 8, 18889465931478580854792, 151115727451828646838272⟩, ⟨5, false, 24, 56668397794435742564352, 75557863725914323419136⟩, ⟨7, false, 104, 170005193383307227693056, 302231454903657293676544⟩, ⟨8, true, 168, 396678784561050197950464, 604462909807314587353088⟩, ⟨9, true, 264, 623352375738793168207872, 1208925819614629174706176⟩, ⟨10, true, 640, 1208925819614629174706176, 2417851639229258349412352⟩, ⟨11, true, 1024, 2417851639229258349412416, 4835703278458516698824704⟩, ⟨13, true, 1024, 2417851639229258349412360, 19342813113834066795298816⟩, ⟨12, false, 3072, 7253554917687775048237056, 9671406556917033397649408⟩, ⟨14, false, 13312, 21760664753063325144711168, 38685626227668133590597632⟩, ⟨15, true, 21504, 50774884423814425337659392, 77371252455336267181195264⟩, ⟨16, true, 33792, 79789104094565525530607616, 154742504910672534362390528⟩, ⟨17, true, 81920, 154742504910672534362390528, 309485009821345068724781056⟩, ⟨18, false, 131072, 309485009821345068724781056, 618970019642690137449562112⟩, ⟨19, true, 393216, 928455029464035206174343168, 1237940039285380274899124224⟩, ⟨20, true, 1048575, 1237940039285380274899124224, 4⟩] [(0, true), (1, false), (2, true), (3, true), (4, true), (6, true), (5, false), (7, false), (8, true), (9, true), (10, true), (11, true), (13, true), (12, false), (14, false), (15, true), (16, true), (17, true), (18, false), (19, true), (20, true)] (by kernel_rfl) (by kernel_rfl) (by kernel_rfl) (by kernel_rfl) (fun _ _ _ _ h => absurd h.2 (by simp)) hD298 ?_
        have ho299 := own_drew ho296
        generalize World.drew w294 = w300 at hD298 ho299 ⊢
        refine fE 0 71 (.load 29 (.tmp 6)) 29 (.agg #[.string i.ref, .int .i64 i.kind, .string i.cpty, .string i.sender, .int .i64 (IntKind.i64.wrap (1 - i.side)), .string i.asset, .int .i64 i.qty, .int .i64 i.amt, .int .i64 i.tday, .int .i64 i.sday, .int .i64 i.prio, .bool i.part, .int .i64 i.minlot, .bool i.hold, .bool i.resv, .slice A33 i.links.length c34]) h297 (hr := fun _ hS => r_loadS (b := b249) (vs := [.string i.ref, .int .i64 i.kind, .string i.cpty, .string i.sender, .int .i64 (IntKind.i64.wrap (1 - i.side)), .string i.asset, .int .i64 i.qty, .int .i64 i.amt, .int .i64 i.tday, .int .i64 i.sday, .int .i64 i.prio, .bool i.part, .int .i64 i.minlot, .bool i.hold, .bool i.resv, .slice A33 i.links.length c34]) hS 0 0 (by kernel_rfl) (by kernel_rfl) (by kernel_rfl)) fun q301 h302 => ?_
        clear h297
        refine stC (i := 1) (d := 72) (op := Op.call { callee := Callee.value (Operand.func 14), args := #[Operand.tmp 71], argTypes := #[29] }) (ty := 26) (g := none) (f := 14) (args := #[.agg #[.string i.ref, .int .i64 i.kind, .string i.cpty, .string i.sender, .int .i64 (IntKind.i64.wrap (1 - i.side)), .string i.asset, .int .i64 i.qty, .int .i64 i.amt, .int .i64 i.tday, .int .i64 i.sday, .int .i64 i.prio, .bool i.part, .int .i64 i.minlot, .bool i.hold, .bool i.resv, .slice A33 i.links.length c34]]) (w1 := w300) h302 (by kernel_rfl) (by kernel_rfl) (by kernel_rfl) gok_none (by kernel_rfl) (c14 (⟨i.ref, i.kind, i.cpty, i.sender, IntKind.i64.wrap (1 - i.side), i.asset, i.qty, i.amt, i.tday, i.sday, i.prio, i.part, i.minlot, i.hold, i.resv, i.links⟩ : Ins) A33 c34 w300 (show i.links.length ≤ 4611686018427387904 by omega) (own_le ho299) (own_rr ho299)) ?_
        rintro _ w305 ⟨rfl, hb306⟩
        have hB307 := hD298.call hb306
        have ho308 := own_below ho299 hb306
        refine ⟨_, rfl, hB307, fun q303 h304 => ?_⟩
        clear h302 hD298 hb306
        refine fE 2 73 (.binOp .eql 26 (.tmp 72) (.const (.int .i64 0)) 26) 4 (.bool (chkI (⟨i.ref, i.kind, i.cpty, i.sender, IntKind.i64.wrap (1 - i.side), i.asset, i.qty, i.amt, i.tday, i.sday, i.prio, i.part, i.minlot, i.hold, i.resv, i.links⟩ : Ins) == (0 : Int))) h304 fun q309 h310 => ?_
        clear h304
        have h311 := h310.keep [(73, .bool true), (72, .int .i64 (chkI (⟨i.ref, i.kind, i.cpty, i.sender, IntKind.i64.wrap (1 - i.side), i.asset, i.qty, i.amt, i.tday, i.sday, i.prio, i.part, i.minlot, i.hold, i.resv, i.links⟩ : Ins))), (71, .agg #[.string i.ref, .int .i64 i.kind, .string i.cpty, .string i.sender, .int .i64 (IntKind.i64.wrap (1 - i.side)), .string i.asset, .int .i64 i.qty, .int .i64 i.amt, .int .i64 i.tday, .int .i64 i.sday, .int .i64 i.prio, .bool i.part, .int .i64 i.minlot, .bool i.hold, .bool i.resv, .slice A33 i.links.length c34]), (6, .pointer (some ⟨b249, 0, none⟩)), (3, .pointer (some ⟨b41, 0, none⟩)), (2, .bool false)] ⟨look_bool rfl (mir_ok i hc235), rfl, rfl, rfl, rfl, rfl, trivial⟩
        clear h310
        refine fE 3 74 (.move (.tmp 73)) 4 (.bool true) h311 fun q312 h313 => ?_
        clear h311
        refine fG 4 75 (.load 29 (.tmp 6)) 29 (3, true) (.agg #[.string i.ref, .int .i64 i.kind, .string i.cpty, .string i.sender, .int .i64 (IntKind.i64.wrap (1 - i.side)), .string i.asset, .int .i64 i.qty, .int .i64 i.amt, .int .i64 i.tday, .int .i64 i.sday, .int .i64 i.prio, .bool i.part, .int .i64 i.minlot, .bool i.hold, .bool i.resv, .slice A33 i.links.length c34]) (g1 74 (rfl : true = true)) h313 (hr := fun _ hS => r_loadS (b := b249) (vs := [.string i.ref, .int .i64 i.kind, .string i.cpty, .string i.sender, .int .i64 (IntKind.i64.wrap (1 - i.side)), .string i.asset, .int .i64 i.qty, .int .i64 i.amt, .int .i64 i.tday, .int .i64 i.sday, .int .i64 i.prio, .bool i.part, .int .i64 i.minlot, .bool i.hold, .bool i.resv, .slice A33 i.links.length c34]) hS 0 0 (by kernel_rfl) (by kernel_rfl) (by kernel_rfl)) fun q314 h315 => ?_
        clear h313
        refine fG 6 77 (.load 29 (.tmp 3)) 29 (3, true) (.agg #[.string i.ref, .int .i64 i.kind, .string i.sender, .string i.cpty, .int .i64 i.side, .string i.asset, .int .i64 i.qty, .int .i64 i.amt, .int .i64 i.tday, .int .i64 i.sday, .int .i64 i.prio, .bool i.part, .int .i64 i.minlot, .bool i.hold, .bool i.resv, .slice A33 i.links.length c34]) (g1 74 (rfl : true = true)) h315 (hr := fun _ hS => r_loadS (b := b41) (vs := [.string i.ref, .int .i64 i.kind, .string i.sender, .string i.cpty, .int .i64 i.side, .string i.asset, .int .i64 i.qty, .int .i64 i.amt, .int .i64 i.tday, .int .i64 i.sday, .int .i64 i.prio, .bool i.part, .int .i64 i.minlot, .bool i.hold, .bool i.resv, .slice A33 i.links.length c34]) hS 1 0 (by kernel_rfl) (by kernel_rfl) (by kernel_rfl)) fun q316 h317 => ?_
        clear h315
        refine stC (i := 5) (d := 76) (op := Op.call { callee := Callee.value (Operand.func 16), args := #[Operand.tmp 75], argTypes := #[29] }) (ty := 9) (g := (some (3, true))) (f := 16) (args := #[.agg #[.string i.ref, .int .i64 i.kind, .string i.cpty, .string i.sender, .int .i64 (IntKind.i64.wrap (1 - i.side)), .string i.asset, .int .i64 i.qty, .int .i64 i.amt, .int .i64 i.tday, .int .i64 i.sday, .int .i64 i.prio, .bool i.part, .int .i64 i.minlot, .bool i.hold, .bool i.resv, .slice A33 i.links.length c34]]) (w1 := w305) h317 (by kernel_rfl) (by kernel_rfl) (by kernel_rfl) (g1 74 (rfl : true = true)) (by kernel_rfl) (c16 (⟨i.ref, i.kind, i.cpty, i.sender, IntKind.i64.wrap (1 - i.side), i.asset, i.qty, i.amt, i.tday, i.sday, i.prio, i.part, i.minlot, i.hold, i.resv, i.links⟩ : Ins) A33 c34 w305) ?_
        rintro _ w320 ⟨rfl, hb321⟩
        have hB322 := hB307.call hb321
        have ho323 := own_below ho308 hb321
        refine ⟨_, rfl, hB322, fun q318 h319 => ?_⟩
        clear h317 hB307 hb321
        refine stC (i := 7) (d := 78) (op := Op.call { callee := Callee.value (Operand.func 16), args := #[Operand.tmp 77], argTypes := #[29] }) (ty := 9) (g := (some (3, true))) (f := 16) (args := #[.agg #[.string i.ref, .int .i64 i.kind, .string i.sender, .string i.cpty, .int .i64 i.side, .string i.asset, .int .i64 i.qty, .int .i64 i.amt, .int .i64 i.tday, .int .i64 i.sday, .int .i64 i.prio, .bool i.part, .int .i64 i.minlot, .bool i.hold, .bool i.resv, .slice A33 i.links.length c34]]) (w1 := w320) h319 (by kernel_rfl) (by kernel_rfl) (by kernel_rfl) (g1 74 (rfl : true = true)) (by kernel_rfl) (c16 i A33 c34 w320) ?_
        rintro _ w326 ⟨rfl, hb327⟩
        have hB328 := hB322.call hb327
        have ho329 := own_below ho323 hb327
        refine ⟨_, rfl, hB328, fun q324 h325 => ?_⟩
        clear h319 hB322 hb327
        refine fG 8 79 (.binOp .eql 9 (.tmp 76) (.tmp 78) 9) 4 (3, true) (.bool ((delB (⟨i.ref, i.kind, i.cpty, i.sender, IntKind.i64.wrap (1 - i.side), i.asset, i.qty, i.amt, i.tday, i.sday, i.prio, i.part, i.minlot, i.hold, i.resv, i.links⟩ : Ins)).toList == (delB i).toList)) (g1 74 (rfl : true = true)) h325 fun q330 h331 => ?_
        clear h325
        have h332 := h331.keep [(79, .bool true), (78, .string (delB i)), (76, .string (delB (⟨i.ref, i.kind, i.cpty, i.sender, IntKind.i64.wrap (1 - i.side), i.asset, i.qty, i.amt, i.tday, i.sday, i.prio, i.part, i.minlot, i.hold, i.resv, i.links⟩ : Ins))), (77, .agg #[.string i.ref, .int .i64 i.kind, .string i.sender, .string i.cpty, .int .i64 i.side, .string i.asset, .int .i64 i.qty, .int .i64 i.amt, .int .i64 i.tday, .int .i64 i.sday, .int .i64 i.prio, .bool i.part, .int .i64 i.minlot, .bool i.hold, .bool i.resv, .slice A33 i.links.length c34]), (75, .agg #[.string i.ref, .int .i64 i.kind, .string i.cpty, .string i.sender, .int .i64 (IntKind.i64.wrap (1 - i.side)), .string i.asset, .int .i64 i.qty, .int .i64 i.amt, .int .i64 i.tday, .int .i64 i.sday, .int .i64 i.prio, .bool i.part, .int .i64 i.minlot, .bool i.hold, .bool i.resv, .slice A33 i.links.length c34]), (74, .bool true), (73, .bool true), (72, .int .i64 (chkI (⟨i.ref, i.kind, i.cpty, i.sender, IntKind.i64.wrap (1 - i.side), i.asset, i.qty, i.amt, i.tday, i.sday, i.prio, i.part, i.minlot, i.hold, i.resv, i.links⟩ : Ins))), (71, .agg #[.string i.ref, .int .i64 i.kind, .string i.cpty, .string i.sender, .int .i64 (IntKind.i64.wrap (1 - i.side)), .string i.asset, .int .i64 i.qty, .int .i64 i.amt, .int .i64 i.tday, .int .i64 i.sday, .int .i64 i.prio, .bool i.part, .int .i64 i.minlot, .bool i.hold, .bool i.resv, .slice A33 i.links.length c34]), (6, .pointer (some ⟨b249, 0, none⟩)), (3, .pointer (some ⟨b41, 0, none⟩)), (2, .bool false)] ⟨look_bool rfl (mir_del i hc235), rfl, rfl, rfl, rfl, rfl, rfl, rfl, rfl, rfl, rfl, rfl, trivial⟩
        clear h331
        refine fE 9 80 (.pick (.tmp 74) (.tmp 79) (.const (.bool false))) 4 (.bool true) h332 fun q333 h334 => ?_
        clear h332
        refine fE 10 81 (.move (.tmp 80)) 4 (.bool true) h334 fun q335 h336 => ?_
        clear h334
        refine fG 11 82 (.load 29 (.tmp 6)) 29 (10, true) (.agg #[.string i.ref, .int .i64 i.kind, .string i.cpty, .string i.sender, .int .i64 (IntKind.i64.wrap (1 - i.side)), .string i.asset, .int .i64 i.qty, .int .i64 i.amt, .int .i64 i.tday, .int .i64 i.sday, .int .i64 i.prio, .bool i.part, .int .i64 i.minlot, .bool i.hold, .bool i.resv, .slice A33 i.links.length c34]) (g1 81 (rfl : true = true)) h336 (hr := fun _ hS => r_loadS (b := b249) (vs := [.string i.ref, .int .i64 i.kind, .string i.cpty, .string i.sender, .int .i64 (IntKind.i64.wrap (1 - i.side)), .string i.asset, .int .i64 i.qty, .int .i64 i.amt, .int .i64 i.tday, .int .i64 i.sday, .int .i64 i.prio, .bool i.part, .int .i64 i.minlot, .bool i.hold, .bool i.resv, .slice A33 i.links.length c34]) hS 0 0 (by kernel_rfl) (by kernel_rfl) (by kernel_rfl)) fun q337 h338 => ?_
        clear h336
        refine fG 13 84 (.load 29 (.tmp 3)) 29 (10, true) (.agg #[.string i.ref, .int .i64 i.kind, .string i.sender, .string i.cpty, .int .i64 i.side, .string i.asset, .int .i64 i.qty, .int .i64 i.amt, .int .i64 i.tday, .int .i64 i.sday, .int .i64 i.prio, .bool i.part, .int .i64 i.minlot, .bool i.hold, .bool i.resv, .slice A33 i.links.length c34]) (g1 81 (rfl : true = true)) h338 (hr := fun _ hS => r_loadS (b := b41) (vs := [.string i.ref, .int .i64 i.kind, .string i.sender, .string i.cpty, .int .i64 i.side, .string i.asset, .int .i64 i.qty, .int .i64 i.amt, .int .i64 i.tday, .int .i64 i.sday, .int .i64 i.prio, .bool i.part, .int .i64 i.minlot, .bool i.hold, .bool i.resv, .slice A33 i.links.length c34]) hS 1 0 (by kernel_rfl) (by kernel_rfl) (by kernel_rfl)) fun q339 h340 => ?_
        clear h338
        refine stC (i := 12) (d := 83) (op := Op.call { callee := Callee.value (Operand.func 17), args := #[Operand.tmp 82], argTypes := #[29] }) (ty := 9) (g := (some (10, true))) (f := 17) (args := #[.agg #[.string i.ref, .int .i64 i.kind, .string i.cpty, .string i.sender, .int .i64 (IntKind.i64.wrap (1 - i.side)), .string i.asset, .int .i64 i.qty, .int .i64 i.amt, .int .i64 i.tday, .int .i64 i.sday, .int .i64 i.prio, .bool i.part, .int .i64 i.minlot, .bool i.hold, .bool i.resv, .slice A33 i.links.length c34]]) (w1 := w326) h340 (by kernel_rfl) (by kernel_rfl) (by kernel_rfl) (g1 81 (rfl : true = true)) (by kernel_rfl) (c17 (⟨i.ref, i.kind, i.cpty, i.sender, IntKind.i64.wrap (1 - i.side), i.asset, i.qty, i.amt, i.tday, i.sday, i.prio, i.part, i.minlot, i.hold, i.resv, i.links⟩ : Ins) A33 c34 w326) ?_
        rintro _ w343 ⟨rfl, hb344⟩
        have hB345 := hB328.call hb344
        have ho346 := own_below ho329 hb344
        refine ⟨_, rfl, hB345, fun q341 h342 => ?_⟩
        clear h340 hB328 hb344
        refine stC (i := 14) (d := 85) (op := Op.call { callee := Callee.value (Operand.func 17), args := #[Operand.tmp 84], argTypes := #[29] }) (ty := 9) (g := (some (10, true))) (f := 17) (args := #[.agg #[.string i.ref, .int .i64 i.kind, .string i.sender, .string i.cpty, .int .i64 i.side, .string i.asset, .int .i64 i.qty, .int .i64 i.amt, .int .i64 i.tday, .int .i64 i.sday, .int .i64 i.prio, .bool i.part, .int .i64 i.minlot, .bool i.hold, .bool i.resv, .slice A33 i.links.length c34]]) (w1 := w343) h342 (by kernel_rfl) (by kernel_rfl) (by kernel_rfl) (g1 81 (rfl : true = true)) (by kernel_rfl) (c17 i A33 c34 w343) ?_
        rintro _ w349 ⟨rfl, hb350⟩
        have hB351 := hB345.call hb350
        have ho352 := own_below ho346 hb350
        refine ⟨_, rfl, hB351, fun q347 h348 => ?_⟩
        clear h342 hB345 hb350
        refine fG 15 86 (.binOp .eql 9 (.tmp 83) (.tmp 85) 9) 4 (10, true) (.bool ((recB (⟨i.ref, i.kind, i.cpty, i.sender, IntKind.i64.wrap (1 - i.side), i.asset, i.qty, i.amt, i.tday, i.sday, i.prio, i.part, i.minlot, i.hold, i.resv, i.links⟩ : Ins)).toList == (recB i).toList)) (g1 81 (rfl : true = true)) h348 fun q353 h354 => ?_
        clear h348
        have h355 := h354.keep [(86, .bool true), (85, .string (recB i)), (83, .string (recB (⟨i.ref, i.kind, i.cpty, i.sender, IntKind.i64.wrap (1 - i.side), i.asset, i.qty, i.amt, i.tday, i.sday, i.prio, i.part, i.minlot, i.hold, i.resv, i.links⟩ : Ins))), (84, .agg #[.string i.ref, .int .i64 i.kind, .string i.sender, .string i.cpty, .int .i64 i.side, .string i.asset, .int .i64 i.qty, .int .i64 i.amt, .int .i64 i.tday, .int .i64 i.sday, .int .i64 i.prio, .bool i.part, .int .i64 i.minlot, .bool i.hold, .bool i.resv, .slice A33 i.links.length c34]), (82, .agg #[.string i.ref, .int .i64 i.kind, .string i.cpty, .string i.sender, .int .i64 (IntKind.i64.wrap (1 - i.side)), .string i.asset, .int .i64 i.qty, .int .i64 i.amt, .int .i64 i.tday, .int .i64 i.sday, .int .i64 i.prio, .bool i.part, .int .i64 i.minlot, .bool i.hold, .bool i.resv, .slice A33 i.links.length c34]), (81, .bool true), (80, .bool true), (79, .bool true), (78, .string (delB i)), (76, .string (delB (⟨i.ref, i.kind, i.cpty, i.sender, IntKind.i64.wrap (1 - i.side), i.asset, i.qty, i.amt, i.tday, i.sday, i.prio, i.part, i.minlot, i.hold, i.resv, i.links⟩ : Ins))), (77, .agg #[.string i.ref, .int .i64 i.kind, .string i.sender, .string i.cpty, .int .i64 i.side, .string i.asset, .int .i64 i.qty, .int .i64 i.amt, .int .i64 i.tday, .int .i64 i.sday, .int .i64 i.prio, .bool i.part, .int .i64 i.minlot, .bool i.hold, .bool i.resv, .slice A33 i.links.length c34]), (75, .agg #[.string i.ref, .int .i64 i.kind, .string i.cpty, .string i.sender, .int .i64 (IntKind.i64.wrap (1 - i.side)), .string i.asset, .int .i64 i.qty, .int .i64 i.amt, .int .i64 i.tday, .int .i64 i.sday, .int .i64 i.prio, .bool i.part, .int .i64 i.minlot, .bool i.hold, .bool i.resv, .slice A33 i.links.length c34]), (74, .bool true), (73, .bool true), (72, .int .i64 (chkI (⟨i.ref, i.kind, i.cpty, i.sender, IntKind.i64.wrap (1 - i.side), i.asset, i.qty, i.amt, i.tday, i.sday, i.prio, i.part, i.minlot, i.hold, i.resv, i.links⟩ : Ins))), (71, .agg #[.string i.ref, .int .i64 i.kind, .string i.cpty, .string i.sender, .int .i64 (IntKind.i64.wrap (1 - i.side)), .string i.asset, .int .i64 i.qty, .int .i64 i.amt, .int .i64 i.tday, .int .i64 i.sday, .int .i64 i.prio, .bool i.part, .int .i64 i.minlot, .bool i.hold, .bool i.resv, .slice A33 i.links.length c34]), (6, .pointer (some ⟨b249, 0, none⟩)), (3, .pointer (some ⟨b41, 0, none⟩)), (2, .bool false)] ⟨look_bool rfl (mir_rec i hc235), rfl, rfl, rfl, rfl, rfl, rfl, rfl, rfl, rfl, rfl, rfl, rfl, rfl, rfl, rfl, rfl, rfl, rfl, trivial⟩
        clear h354
        refine fE 16 87 (.pick (.tmp 81) (.tmp 86) (.const (.bool false))) 4 (.bool true) h355 fun q356 h357 => ?_
        clear h355
        refine fE 17 88 (.move (.tmp 87)) 4 (.bool true) h357 fun q358 h359 => ?_
        clear h357
        refine stC (i := 18) (d := 89) (op := Op.call { callee := Callee.value (Operand.func 12), args := #[], argTypes := #[] }) (ty := 4) (g := (some (17, true))) (f := 12) (args := #[]) (w1 := w349) h359 (by kernel_rfl) (by kernel_rfl) (by kernel_rfl) (g1 88 (rfl : true = true)) (by kernel_rfl) (c12 w349) ?_
        rintro _ w362 ⟨rfl, hb363⟩
        have hB364 := hB351.call hb363
        have ho365 := own_below ho352 hb363
        refine ⟨_, rfl, hB364, fun q360 h361 => ?_⟩
        clear h359 hB351 hb363
        refine fE 19 90 (.pick (.tmp 88) (.tmp 89) (.const (.bool false))) 4 (.bool true) h361 fun q366 h367 => ?_
        clear h361
        refine fE 20 2 (.assign (.tmp 90)) 4 (.bool true) h367 fun q368 h369 => ?_
        clear h367
        refine wpO_end ?_
        have h370 := h369.keep [(2, .bool true)] ⟨rfl, trivial⟩
        clear h369
        refine then_n ?_
        refine c_ret (by kernel_rfl) ?_
        refine ret1 (t := 2) (v := .bool true) h370 (by kernel_rfl) (by kernel_rfl) ?_
        exact ⟨ret_eq (rfl), hB364.bel⟩
    ·
      refine c_skip (by kernel_rfl) ?_
      refine then_n ?_
      refine c_seq (by kernel_rfl) ?_
      refine c_seq (by kernel_rfl) ?_
      have hD371 := hD51.drew
      refine reg_draw (S := Bx w [(b41, .cells #[.string i.ref, .int .i64 i.kind, .string i.sender, .string i.cpty, .int .i64 i.side, .string i.asset, .int .i64 i.qty, .int .i64 i.amt, .int .i64 i.tday, .int .i64 i.sday, .int .i64 i.prio, .bool i.part, .int .i64 i.minlot, .bool i.hold, .bool i.resv, .slice A33 i.links.length c34] 29 (0, 0)), (b3, .cells #[.string i.ref, .int .i64 i.kind, .string i.sender, .string i.cpty, .int .i64 i.side, .string i.asset, .int .i64 i.qty, .int .i64 i.amt, .int .i64 i.tday, .int .i64 i.sday, .int .i64 i.prio, .bool i.part, .int .i64 i.minlot, .bool i.hold, .bool i.resv, .slice A i.links.length c] 24 (0, 0))]) 23 [⟨0, true, 0, 8, 8388608⟩, ⟨2, true, 0, 16, 33554432⟩, ⟨1, false, 1, 8388608, 16777216⟩, ⟨3, true, 6, 50331648, 67108864⟩, ⟨4, true, 10, 67108864, 134217728⟩, ⟨5, true, 16, 134217736, 268435456⟩, ⟨7, true, 16, 134217760, 1073741824⟩, ⟨6, false, 48, 402653184, 536870912⟩, ⟨8, true, 208, 1744830464, 2147483648⟩, ⟨9, true, 272, 2281701376, 4294967296⟩, ⟨10, true, 576, 4294967296, 8589934592⟩, ⟨11, true, 1024, 8589934600, 17179869184⟩, ⟨13, true, 1024, 8589934594, 68719476736⟩, ⟨14, true, 9216, 77309411328, 137438953472⟩, ⟨15, true, 17408, 146028888064, 274877906944⟩, ⟨12, false, 3072, 25769803776, 34359738368⟩, ⟨16, true, 37888, 283467841536, 549755813888⟩, ⟨17, true, 65536, 549755813890, 1099511627776⟩, ⟨18, true, 196608, 1649267441664, 2199023255552⟩, ⟨19, true, 327680, 2748779069440, 4398046511104⟩, ⟨20, true, 590848, 4956392259584, 8796093022208⟩, ⟨21, true, 1053696, 8839042695168, 17592186044416⟩, ⟨22, true, 2098176, 17600775979008, 35184372088832⟩] [(0, true), (2, true), (1, false), (3, true), (4, true), (5, true), (7, true), (6, false), (8, true), (9, true), (10, true), (11, true), (13, true), (14, true), (15, true), (12, false), (16, true), (17, true), (18, true), (19, true), (20, true), (21, true), (22, true)] (by kernel_rfl) (by kernel_rfl) (by kernel_rfl) (by kernel_rfl) (fun _ _ _ _ h => absurd h.2 (by simp)) hD371 ?_
      have ho372 := own_drew ho52
      generalize World.drew w53 = w373 at hD371 ho372 ⊢
      refine fE 0 23 (.load 29 (.tmp 3)) 29 (.agg #[.string i.ref, .int .i64 i.kind, .string i.sender, .string i.cpty, .int .i64 i.side, .string i.asset, .int .i64 i.qty, .int .i64 i.amt, .int .i64 i.tday, .int .i64 i.sday, .int .i64 i.prio, .bool i.part, .int .i64 i.minlot, .bool i.hold, .bool i.resv, .slice A33 i.links.length c34]) h73 (hr := fun _ hS => r_loadS (b := b41) (vs := [.string i.ref, .int .i64 i.kind, .string i.sender, .string i.cpty, .int .i64 i.side, .string i.asset, .int .i64 i.qty, .int .i64 i.amt, .int .i64 i.tday, .int .i64 i.sday, .int .i64 i.prio, .bool i.part, .int .i64 i.minlot, .bool i.hold, .bool i.resv, .slice A33 i.links.length c34]) hS 0 0 (by kernel_rfl) (by kernel_rfl) (by kernel_rfl)) fun q374 h375 => ?_
      clear h73
      refine fE 2 25 (.move (.tmp 4)) 9 (.string i.sender) h375 fun q376 h377 => ?_
      clear h375
      refine stC (i := 1) (d := 24) (op := Op.call { callee := Callee.value (Operand.func 16), args := #[Operand.tmp 23], argTypes := #[29] }) (ty := 9) (g := none) (f := 16) (args := #[.agg #[.string i.ref, .int .i64 i.kind, .string i.sender, .string i.cpty, .int .i64 i.side, .string i.asset, .int .i64 i.qty, .int .i64 i.amt, .int .i64 i.tday, .int .i64 i.sday, .int .i64 i.prio, .bool i.part, .int .i64 i.minlot, .bool i.hold, .bool i.resv, .slice A33 i.links.length c34]]) (w1 := w373) h377 (by kernel_rfl) (by kernel_rfl) (by kernel_rfl) gok_none (by kernel_rfl) (c16 i A33 c34 w373) ?_
      rintro _ w380 ⟨rfl, hb381⟩
      have hB382 := hD371.call hb381
      have ho383 := own_below ho372 hb381
      refine ⟨_, rfl, hB382, fun q378 h379 => ?_⟩
      clear h377 hD371 hb381
      refine fE 3 26 (.binOp .neq 9 (.tmp 24) (.tmp 25) 9) 4 (.bool ((delB i).toList != i.sender.toList)) h379 fun q384 h385 => ?_
      clear h379
      have h386 := h385.keep [(26, .bool false), (24, .string (delB i)), (25, .string i.sender), (23, .agg #[.string i.ref, .int .i64 i.kind, .string i.sender, .string i.cpty, .int .i64 i.side, .string i.asset, .int .i64 i.qty, .int .i64 i.amt, .int .i64 i.tday, .int .i64 i.sday, .int .i64 i.prio, .bool i.part, .int .i64 i.minlot, .bool i.hold, .bool i.resv, .slice A33 i.links.length c34]), (20, .bool (i.side != (0 : Int))), (5, .string i.cpty), (4, .string i.sender), (3, .pointer (some ⟨b41, 0, none⟩)), (2, .bool false), (1, .pointer (some ⟨b3, 0, none⟩))] ⟨look_bool rfl (sdF i hc74), rfl, rfl, rfl, rfl, rfl, rfl, rfl, rfl, rfl, trivial⟩
      clear h385
      refine fE 4 27 (.move (.tmp 26)) 4 (.bool false) h386 fun q387 h388 => ?_
      clear h386
      refine fG 5 28 (.load 29 (.tmp 3)) 29 (4, false) (.agg #[.string i.ref, .int .i64 i.kind, .string i.sender, .string i.cpty, .int .i64 i.side, .string i.asset, .int .i64 i.qty, .int .i64 i.amt, .int .i64 i.tday, .int .i64 i.sday, .int .i64 i.prio, .bool i.part, .int .i64 i.minlot, .bool i.hold, .bool i.resv, .slice A33 i.links.length c34]) (g2 27 (rfl : false = false)) h388 (hr := fun _ hS => r_loadS (b := b41) (vs := [.string i.ref, .int .i64 i.kind, .string i.sender, .string i.cpty, .int .i64 i.side, .string i.asset, .int .i64 i.qty, .int .i64 i.amt, .int .i64 i.tday, .int .i64 i.sday, .int .i64 i.prio, .bool i.part, .int .i64 i.minlot, .bool i.hold, .bool i.resv, .slice A33 i.links.length c34]) hS 0 0 (by kernel_rfl) (by kernel_rfl) (by kernel_rfl)) fun q389 h390 => ?_
      clear h388
      refine fG 7 30 (.move (.tmp 5)) 9 (4, false) (.string i.cpty) (g2 27 (rfl : false = false)) h390 fun q391 h392 => ?_
      clear h390
      refine stC (i := 6) (d := 29) (op := Op.call { callee := Callee.value (Operand.func 17), args := #[Operand.tmp 28], argTypes := #[29] }) (ty := 9) (g := (some (4, false))) (f := 17) (args := #[.agg #[.string i.ref, .int .i64 i.kind, .string i.sender, .string i.cpty, .int .i64 i.side, .string i.asset, .int .i64 i.qty, .int .i64 i.amt, .int .i64 i.tday, .int .i64 i.sday, .int .i64 i.prio, .bool i.part, .int .i64 i.minlot, .bool i.hold, .bool i.resv, .slice A33 i.links.length c34]]) (w1 := w380) h392 (by kernel_rfl) (by kernel_rfl) (by kernel_rfl) (g2 27 (rfl : false = false)) (by kernel_rfl) (c17 i A33 c34 w380) ?_
      rintro _ w395 ⟨rfl, hb396⟩
      have hB397 := hB382.call hb396
      have ho398 := own_below ho383 hb396
      refine ⟨_, rfl, hB397, fun q393 h394 => ?_⟩
      clear h392 hB382 hb396
      refine fG 8 31 (.binOp .neq 9 (.tmp 29) (.tmp 30) 9) 4 (4, false) (.bool ((recB i).toList != i.cpty.toList)) (g2 27 (rfl : false = false)) h394 fun q399 h400 => ?_
      clear h394
      have h401 := h400.keep [(31, .bool false), (29, .string (recB i)), (30, .string i.cpty), (28, .agg #[.string i.ref, .int .i64 i.kind, .string i.sender, .string i.cpty, .int .i64 i.side, .string i.asset, .int .i64 i.qty, .int .i64 i.amt, .int .i64 i.tday, .int .i64 i.sday, .int .i64 i.prio, .bool i.part, .int .i64 i.minlot, .bool i.hold, .bool i.resv, .slice A33 i.links.length c34]), (27, .bool false), (26, .bool false), (24, .string (delB i)), (25, .string i.sender), (23, .agg #[.string i.ref, .int .i64 i.kind, .string i.sender, .string i.cpty, .int .i64 i.side, .string i.asset, .int .i64 i.qty, .int .i64 i.amt, .int .i64 i.tday, .int .i64 i.sday, .int .i64 i.prio, .bool i.part, .int .i64 i.minlot, .bool i.hold, .bool i.resv, .slice A33 i.links.length c34]), (20, .bool (i.side != (0 : Int))), (5, .string i.cpty), (4, .string i.sender), (3, .pointer (some ⟨b41, 0, none⟩)), (2, .bool false), (1, .pointer (some ⟨b3, 0, none⟩))] ⟨look_bool rfl (srF i hc74), rfl, rfl, rfl, rfl, rfl, rfl, rfl, rfl, rfl, rfl, rfl, rfl, rfl, rfl, trivial⟩
      clear h400
      refine fE 9 32 (.pick (.tmp 27) (.const (.bool true)) (.tmp 31)) 4 (.bool false) h401 fun q402 h403 => ?_
      clear h401
      refine fE 10 33 (.move (.tmp 32)) 4 (.bool false) h403 fun q404 h405 => ?_
      clear h403
      refine fG 11 34 (.load 29 (.tmp 3)) 29 (10, false) (.agg #[.string i.ref, .int .i64 i.kind, .string i.sender, .string i.cpty, .int .i64 i.side, .string i.asset, .int .i64 i.qty, .int .i64 i.amt, .int .i64 i.tday, .int .i64 i.sday, .int .i64 i.prio, .bool i.part, .int .i64 i.minlot, .bool i.hold, .bool i.resv, .slice A33 i.links.length c34]) (g2 33 (rfl : false = false)) h405 (hr := fun _ hS => r_loadS (b := b41) (vs := [.string i.ref, .int .i64 i.kind, .string i.sender, .string i.cpty, .int .i64 i.side, .string i.asset, .int .i64 i.qty, .int .i64 i.amt, .int .i64 i.tday, .int .i64 i.sday, .int .i64 i.prio, .bool i.part, .int .i64 i.minlot, .bool i.hold, .bool i.resv, .slice A33 i.links.length c34]) hS 0 0 (by kernel_rfl) (by kernel_rfl) (by kernel_rfl)) fun q406 h407 => ?_
      clear h405
      refine fG 13 36 (.fieldAddr 24 (.tmp 1) 1) 0 (10, false) (.pointer (some ⟨b3, 1, none⟩)) (g2 33 (rfl : false = false)) h407 fun q408 h409 => ?_
      clear h407
      refine fG 14 37 (.load 3 (.tmp 36)) 3 (10, false) (.int .i64 i.kind) (g2 33 (rfl : false = false)) h409 (hr := fun _ hS => r_loadC (b := b3) (v := .int .i64 i.kind) hS 1 1 (by kernel_rfl) (by kernel_rfl) (by kernel_rfl)) fun q410 h411 => ?_
      clear h409
      refine fG 15 38 (.binOp .eql 3 (.tmp 37) (.const (.int .i64 1)) 3) 4 (10, false) (.bool (i.kind == (1 : Int))) (g2 33 (rfl : false = false)) h411 fun q412 h413 => ?_
      clear h411
      refine stC (i := 12) (d := 35) (op := Op.call { callee := Callee.value (Operand.func 18), args := #[Operand.tmp 34], argTypes := #[29] }) (ty := 4) (g := (some (10, false))) (f := 18) (args := #[.agg #[.string i.ref, .int .i64 i.kind, .string i.sender, .string i.cpty, .int .i64 i.side, .string i.asset, .int .i64 i.qty, .int .i64 i.amt, .int .i64 i.tday, .int .i64 i.sday, .int .i64 i.prio, .bool i.part, .int .i64 i.minlot, .bool i.hold, .bool i.resv, .slice A33 i.links.length c34]]) (w1 := w395) h413 (by kernel_rfl) (by kernel_rfl) (by kernel_rfl) (g2 33 (rfl : false = false)) (by kernel_rfl) (c18 i A33 c34 w395) ?_
      rintro _ w416 ⟨rfl, hb417⟩
      have hB418 := hB397.call hb417
      have ho419 := own_below ho398 hb417
      refine ⟨_, rfl, hB418, fun q414 h415 => ?_⟩
      clear h413 hB397 hb417
      refine fG 16 39 (.move (.tmp 38)) 4 (10, false) (.bool (i.kind == (1 : Int))) (g2 33 (rfl : false = false)) h415 fun q420 h421 => ?_
      clear h415
      refine wpO_cut [(17, true), (18, true), (19, true), (20, true)] [(21, true), (22, true)] (fun qa qw => Fr 91 [(43, .bool ((i.kind == (1 : Int)) || (i.kind == (2 : Int)))), (35, .bool (isSec i)), (33, .bool false), (3, .pointer (some ⟨b41, 0, none⟩)), (2, .bool false), (1, .pointer (some ⟨b3, 0, none⟩))] qa ∧ Bx w [(b41, .cells #[.string i.ref, .int .i64 i.kind, .string i.sender, .string i.cpty, .int .i64 i.side, .string i.asset, .int .i64 i.qty, .int .i64 i.amt, .int .i64 i.tday, .int .i64 i.sday, .int .i64 i.prio, .bool i.part, .int .i64 i.minlot, .bool i.hold, .bool i.resv, .slice A33 i.links.length c34] 29 (0, 0)), (b3, .cells #[.string i.ref, .int .i64 i.kind, .string i.sender, .string i.cpty, .int .i64 i.side, .string i.asset, .int .i64 i.qty, .int .i64 i.amt, .int .i64 i.tday, .int .i64 i.sday, .int .i64 i.prio, .bool i.part, .int .i64 i.minlot, .bool i.hold, .bool i.resv, .slice A i.links.length c] 24 (0, 0))] qw ∧ World.ownsRow qw w4.heap.size 66 2 (.slice A33 i.links.length c34) i.links.length (lkc i.links)) ?_ ?_
      ·
        rcases Bool.eq_false_or_eq_true (i.kind == (1 : Int)) with hc422 | hc422
        ·
          refine kF 17 40 (16, false) (g4 39 hc422) h421 fun q423 h424 => ?_
          clear h421
          refine kF 18 41 (16, false) (g4 39 hc422) h424 fun q425 h426 => ?_
          clear h424
          refine kF 19 42 (16, false) (g4 39 hc422) h426 fun q427 h428 => ?_
          clear h426
          refine fG 20 43 (.pick (.tmp 39) (.const (.bool true)) (.tmp 42)) 4 (10, false) (.bool ((i.kind == (1 : Int)) || (i.kind == (2 : Int)))) (g2 33 (rfl : false = false)) h428 (hr := fun _ hS => r_or (c := (i.kind == (1 : Int))) (d := (i.kind == (2 : Int))) (by kernel_rfl) (fun e431 => Bool.noConfusion (e431.symm.trans hc422))) fun q429 h430 => ?_
          clear h428
          exact ⟨h430.keep _ ⟨rfl, rfl, rfl, rfl, rfl, rfl, trivial⟩, hB418, ho419⟩
        ·
          refine fG 17 40 (.fieldAddr 24 (.tmp 1) 1) 0 (16, false) (.pointer (some ⟨b3, 1, none⟩)) (g2 39 hc422) h421 fun q432 h433 => ?_
          clear h421
          refine fG 18 41 (.load 3 (.tmp 40)) 3 (16, false) (.int .i64 i.kind) (g2 39 hc422) h433 (hr := fun _ hS => r_loadC (b := b3) (v := .int .i64 i.kind) hS 1 1 (by kernel_rfl) (by kernel_rfl) (by kernel_rfl)) fun q434 h435 => ?_
          clear h433
          refine fG 19 42 (.binOp .eql 3 (.tmp 41) (.const (.int .i64 2)) 3) 4 (16, false) (.bool (i.kind == (2 : Int))) (g2 39 hc422) h435 fun q436 h437 => ?_
          clear h435
          refine fG 20 43 (.pick (.tmp 39) (.const (.bool true)) (.tmp 42)) 4 (10, false) (.bool ((i.kind == (1 : Int)) || (i.kind == (2 : Int)))) (g2 33 (rfl : false = false)) h437 (hr := fun _ hS => r_or (c := (i.kind == (1 : Int))) (d := (i.kind == (2 : Int))) (by kernel_rfl) (fun _ => by kernel_rfl)) fun q438 h439 => ?_
          clear h437
          exact ⟨h439.keep _ ⟨rfl, rfl, rfl, rfl, rfl, rfl, trivial⟩, hB418, ho419⟩
      rintro q440 w441 ⟨h442, hB443, ho444⟩
      refine fG 21 44 (.binOp .neq 4 (.tmp 35) (.tmp 43) 4) 4 (10, false) (.bool ((isSec i) != ((i.kind == (1 : Int)) || (i.kind == (2 : Int))))) (g2 33 (rfl : false = false)) h442 fun q445 h446 => ?_
      clear h442
      have h447 := h446.keep [(44, .bool false), (43, .bool ((i.kind == (1 : Int)) || (i.kind == (2 : Int)))), (35, .bool (isSec i)), (33, .bool false), (3, .pointer (some ⟨b41, 0, none⟩)), (2, .bool false), (1, .pointer (some ⟨b3, 0, none⟩))] ⟨look_bool rfl (sec_same i), rfl, rfl, rfl, rfl, rfl, rfl, trivial⟩
      clear h446
      refine fE 22 45 (.pick (.tmp 33) (.const (.bool true)) (.tmp 44)) 4 (.bool false) h447 fun q448 h449 => ?_
      clear h447
      refine wpO_end ?_
      have h450 := h449.keep [(45, .bool false), (3, .pointer (some ⟨b41, 0, none⟩)), (2, .bool false), (1, .pointer (some ⟨b3, 0, none⟩))] ⟨rfl, rfl, rfl, rfl, trivial⟩
      clear h449
      refine then_n ?_
      refine c_cond (t := 45) (b := false) h450 (by kernel_rfl) (by kernel_rfl) (fun e451 => Bool.noConfusion (e451.symm.trans (rfl))) (fun _ => ?_)
      refine c_skip (by kernel_rfl) ?_
      refine then_n ?_
      refine c_seq (by kernel_rfl) ?_
      refine c_seq (by kernel_rfl) ?_
      refine reg_plain [(0, false), (1, false), (2, false), (3, false), (4, false), (5, false), (6, false), (7, false), (8, false), (9, false), (10, false), (11, false), (12, false)] (by kernel_rfl) (by kernel_rfl) ?_
      refine eE 0 46 (.load 24 (.tmp 1)) 24 (.agg #[.string i.ref, .int .i64 i.kind, .string i.sender, .string i.cpty, .int .i64 i.side, .string i.asset, .int .i64 i.qty, .int .i64 i.amt, .int .i64 i.tday, .int .i64 i.sday, .int .i64 i.prio, .bool i.part, .int .i64 i.minlot, .bool i.hold, .bool i.resv, .slice A i.links.length c]) h450 (hr := r_loadS (b := b3) (vs := [.string i.ref, .int .i64 i.kind, .string i.sender, .string i.cpty, .int .i64 i.side, .string i.asset, .int .i64 i.qty, .int .i64 i.amt, .int .i64 i.tday, .int .i64 i.sday, .int .i64 i.prio, .bool i.part, .int .i64 i.minlot, .bool i.hold, .bool i.resv, .slice A i.links.length c]) hB443 1 0 (by kernel_rfl) (by kernel_rfl) (by kernel_rfl)) fun q452 h453 => ?_
      clear h450
      refine stC (i := 1) (d := 47) (op := Op.call { callee := Callee.value (Operand.func 15), args := #[Operand.tmp 46], argTypes := #[24] }) (ty := 3) (g := none) (f := 15) (args := #[.agg #[.string i.ref, .int .i64 i.kind, .string i.sender, .string i.cpty, .int .i64 i.side, .string i.asset, .int .i64 i.qty, .int .i64 i.amt, .int .i64 i.tday, .int .i64 i.sday, .int .i64 i.prio, .bool i.part, .int .i64 i.minlot, .bool i.hold, .bool i.resv, .slice A i.links.length c]]) (w1 := w441) h453 (by kernel_rfl) (by kernel_rfl) (by kernel_rfl) gok_none (by kernel_rfl) (c15 i A c w441 (show i.links.length ≤ 4611686018427387904 by omega) (hr.below hB443.bel)) ?_
      rintro _ w456 ⟨rfl, hb457⟩
      have hB458 := hB443.call hb457
      have ho459 := own_below ho444 hb457
      refine ⟨_, rfl, trivial, fun q454 h455 => ?_⟩
      clear h453 hB443 hb457
      refine eE 2 48 (.binOp .neq 3 (.tmp 47) (.const (.int .i64 0)) 3) 4 (.bool (refI i != (0 : Int))) h455 fun q460 h461 => ?_
      clear h455
      refine eE 3 49 (.move (.tmp 48)) 4 (.bool (refI i != (0 : Int))) h461 fun q462 h463 => ?_
      clear h461
      refine wpO_cut [(4, false), (5, false), (6, false), (7, false), (8, false), (9, false), (10, false), (11, false), (12, false)] [] (fun qa qw => Fr 91 [(58, .bool ((refI i != (0 : Int)) || ((i.kind != (1 : Int)) && (i.kind != (2 : Int))))), (3, .pointer (some ⟨b41, 0, none⟩)), (2, .bool false)] qa ∧ Bx w [(b41, .cells #[.string i.ref, .int .i64 i.kind, .string i.sender, .string i.cpty, .int .i64 i.side, .string i.asset, .int .i64 i.qty, .int .i64 i.amt, .int .i64 i.tday, .int .i64 i.sday, .int .i64 i.prio, .bool i.part, .int .i64 i.minlot, .bool i.hold, .bool i.resv, .slice A33 i.links.length c34] 29 (0, 0)), (b3, .cells #[.string i.ref, .int .i64 i.kind, .string i.sender, .string i.cpty, .int .i64 i.side, .string i.asset, .int .i64 i.qty, .int .i64 i.amt, .int .i64 i.tday, .int .i64 i.sday, .int .i64 i.prio, .bool i.part, .int .i64 i.minlot, .bool i.hold, .bool i.resv, .slice A i.links.length c] 24 (0, 0))] qw ∧ World.ownsRow qw w4.heap.size 66 2 (.slice A33 i.links.length c34) i.links.length (lkc i.links)) ?_ ?_
      ·
        rcases Bool.eq_false_or_eq_true (refI i != (0 : Int)) with hc464 | hc464
        ·
          refine kE 4 50 (3, false) (g4 49 hc464) h463 trivial fun q465 h466 => ?_
          clear h463
          refine kE 5 51 (3, false) (g4 49 hc464) h466 trivial fun q467 h468 => ?_
          clear h466
          refine kE 6 52 (3, false) (g4 49 hc464) h468 trivial fun q469 h470 => ?_
          clear h468
          refine kE 7 53 (3, false) (g4 49 hc464) h470 trivial fun q471 h472 => ?_
          clear h470
          refine kE 8 54 (7, true) (g0 53) h472 trivial fun q473 h474 => ?_
          clear h472
          refine kE 9 55 (7, true) (g0 53) h474 trivial fun q475 h476 => ?_
          clear h474
          refine kE 10 56 (7, true) (g0 53) h476 trivial fun q477 h478 => ?_
          clear h476
          refine kE 11 57 (3, false) (g4 49 hc464) h478 trivial fun q479 h480 => ?_
          clear h478
          refine eE 12 58 (.pick (.tmp 49) (.const (.bool true)) (.tmp 57)) 4 (.bool ((refI i != (0 : Int)) || ((i.kind != (1 : Int)) && (i.kind != (2 : Int))))) h480 (hr := r_or (c := (refI i != (0 : Int))) (d := ((i.kind != (1 : Int)) && (i.kind != (2 : Int)))) (by kernel_rfl) (fun e483 => Bool.noConfusion (e483.symm.trans hc464))) fun q481 h482 => ?_
          clear h480
          exact ⟨h482.keep _ ⟨rfl, rfl, rfl, trivial⟩, hB458, ho459⟩
        ·
          refine eG 4 50 (.fieldAddr 24 (.tmp 1) 1) 0 (3, false) (.pointer (some ⟨b3, 1, none⟩)) (g2 49 hc464) h463 fun q484 h485 => ?_
          clear h463
          refine eG 5 51 (.load 3 (.tmp 50)) 3 (3, false) (.int .i64 i.kind) (g2 49 hc464) h485 (hr := r_loadC (b := b3) (v := .int .i64 i.kind) hB458 1 1 (by kernel_rfl) (by kernel_rfl) (by kernel_rfl)) fun q486 h487 => ?_
          clear h485
          refine eG 6 52 (.binOp .neq 3 (.tmp 51) (.const (.int .i64 1)) 3) 4 (3, false) (.bool (i.kind != (1 : Int))) (g2 49 hc464) h487 fun q488 h489 => ?_
          clear h487
          refine eG 7 53 (.move (.tmp 52)) 4 (3, false) (.bool (i.kind != (1 : Int))) (g2 49 hc464) h489 fun q490 h491 => ?_
          clear h489
          refine wpO_cut [(8, false), (9, false), (10, false), (11, false)] [(12, false)] (fun qa qw => Fr 91 [(57, .bool ((i.kind != (1 : Int)) && (i.kind != (2 : Int)))), (49, .bool (refI i != (0 : Int))), (3, .pointer (some ⟨b41, 0, none⟩)), (2, .bool false)] qa ∧ Bx w [(b41, .cells #[.string i.ref, .int .i64 i.kind, .string i.sender, .string i.cpty, .int .i64 i.side, .string i.asset, .int .i64 i.qty, .int .i64 i.amt, .int .i64 i.tday, .int .i64 i.sday, .int .i64 i.prio, .bool i.part, .int .i64 i.minlot, .bool i.hold, .bool i.resv, .slice A33 i.links.length c34] 29 (0, 0)), (b3, .cells #[.string i.ref, .int .i64 i.kind, .string i.sender, .string i.cpty, .int .i64 i.side, .string i.asset, .int .i64 i.qty, .int .i64 i.amt, .int .i64 i.tday, .int .i64 i.sday, .int .i64 i.prio, .bool i.part, .int .i64 i.minlot, .bool i.hold, .bool i.resv, .slice A i.links.length c] 24 (0, 0))] qw ∧ World.ownsRow qw w4.heap.size 66 2 (.slice A33 i.links.length c34) i.links.length (lkc i.links)) ?_ ?_
          ·
            rcases Bool.eq_false_or_eq_true (i.kind != (1 : Int)) with hc492 | hc492
            ·
              refine eG 8 54 (.fieldAddr 24 (.tmp 1) 1) 0 (7, true) (.pointer (some ⟨b3, 1, none⟩)) (g1 53 hc492) h491 fun q493 h494 => ?_
              clear h491
              refine eG 9 55 (.load 3 (.tmp 54)) 3 (7, true) (.int .i64 i.kind) (g1 53 hc492) h494 (hr := r_loadC (b := b3) (v := .int .i64 i.kind) hB458 1 1 (by kernel_rfl) (by kernel_rfl) (by kernel_rfl)) fun q495 h496 => ?_
              clear h494
              refine eG 10 56 (.binOp .neq 3 (.tmp 55) (.const (.int .i64 2)) 3) 4 (7, true) (.bool (i.kind != (2 : Int))) (g1 53 hc492) h496 fun q497 h498 => ?_
              clear h496
              refine eG 11 57 (.pick (.tmp 53) (.tmp 56) (.const (.bool false))) 4 (3, false) (.bool ((i.kind != (1 : Int)) && (i.kind != (2 : Int)))) (g2 49 hc464) h498 (hr := r_and (c := (i.kind != (1 : Int))) (d := (i.kind != (2 : Int))) (by kernel_rfl) (fun _ => by kernel_rfl)) fun q499 h500 => ?_
              clear h498
              exact ⟨h500.keep _ ⟨rfl, rfl, rfl, rfl, trivial⟩, hB458, ho459⟩
            ·
              refine kE 8 54 (7, true) (g3 53 hc492) h491 trivial fun q501 h502 => ?_
              clear h491
              refine kE 9 55 (7, true) (g3 53 hc492) h502 trivial fun q503 h504 => ?_
              clear h502
              refine kE 10 56 (7, true) (g3 53 hc492) h504 trivial fun q505 h506 => ?_
              clear h504
              refine eG 11 57 (.pick (.tmp 53) (.tmp 56) (.const (.bool false))) 4 (3, false) (.bool ((i.kind != (1 : Int)) && (i.kind != (2 : Int)))) (g2 49 hc464) h506 (hr := r_and (c := (i.kind != (1 : Int))) (d := (i.kind != (2 : Int))) (by kernel_rfl) (fun e509 => Bool.noConfusion (e509.symm.trans hc492))) fun q507 h508 => ?_
              clear h506
              exact ⟨h508.keep _ ⟨rfl, rfl, rfl, rfl, trivial⟩, hB458, ho459⟩
          rintro q510 w511 ⟨h512, hB513, ho514⟩
          refine eE 12 58 (.pick (.tmp 49) (.const (.bool true)) (.tmp 57)) 4 (.bool ((refI i != (0 : Int)) || ((i.kind != (1 : Int)) && (i.kind != (2 : Int))))) h512 (hr := r_or (c := (refI i != (0 : Int))) (d := ((i.kind != (1 : Int)) && (i.kind != (2 : Int)))) (by kernel_rfl) (fun _ => by kernel_rfl)) fun q515 h516 => ?_
          clear h512
          exact ⟨h516.keep _ ⟨rfl, rfl, rfl, trivial⟩, hB513, ho514⟩
      rintro q517 w518 ⟨h519, hB520, ho521⟩
      refine wpO_end ?_
      refine then_n ?_
      refine c_cond (t := 58) (b := (refI i != (0 : Int)) || ((i.kind != (1 : Int)) && (i.kind != (2 : Int)))) h519 (by kernel_rfl) (by kernel_rfl) (fun hc522 => ?_) (fun hc522 => ?_)
      ·
        refine c_seq (by kernel_rfl) ?_
        refine reg_plain [(0, false), (1, false)] (by kernel_rfl) (by kernel_rfl) ?_
        refine stC (i := 0) (d := 59) (op := Op.call { callee := Callee.value (Operand.func 12), args := #[], argTypes := #[] }) (ty := 4) (g := none) (f := 12) (args := #[]) (w1 := w518) h519 (by kernel_rfl) (by kernel_rfl) (by kernel_rfl) gok_none (by kernel_rfl) (c12 w518) ?_
        rintro _ w525 ⟨rfl, hb526⟩
        have hB527 := hB520.call hb526
        have ho528 := own_below ho521 hb526
        refine ⟨_, rfl, trivial, fun q523 h524 => ?_⟩
        clear h519 hB520 hb526
        refine eE 1 2 (.assign (.tmp 59)) 4 (.bool true) h524 fun q529 h530 => ?_
        clear h524
        refine wpO_end ?_
        have h531 := h530.keep [(2, .bool true), (3, .pointer (some ⟨b41, 0, none⟩))] ⟨rfl, rfl, trivial⟩
        clear h530
        refine then_n ?_
        refine c_ret (by kernel_rfl) ?_
        refine then_r ?_
        refine ret1 (t := 2) (v := .bool true) h531 (by kernel_rfl) (by kernel_rfl) ?_
        exact ⟨ret_eq (rfl), hB527.bel⟩
      ·
        refine c_skip (by kernel_rfl) ?_
        refine then_n ?_
        refine c_seq (by kernel_rfl) ?_
        refine reg_plain [(0, false), (1, false), (2, false)] (by kernel_rfl) (by kernel_rfl) ?_
        refine eE 0 60 (.load 29 (.tmp 3)) 29 (.agg #[.string i.ref, .int .i64 i.kind, .string i.sender, .string i.cpty, .int .i64 i.side, .string i.asset, .int .i64 i.qty, .int .i64 i.amt, .int .i64 i.tday, .int .i64 i.sday, .int .i64 i.prio, .bool i.part, .int .i64 i.minlot, .bool i.hold, .bool i.resv, .slice A33 i.links.length c34]) h519 (hr := r_loadS (b := b41) (vs := [.string i.ref, .int .i64 i.kind, .string i.sender, .string i.cpty, .int .i64 i.side, .string i.asset, .int .i64 i.qty, .int .i64 i.amt, .int .i64 i.tday, .int .i64 i.sday, .int .i64 i.prio, .bool i.part, .int .i64 i.minlot, .bool i.hold, .bool i.resv, .slice A33 i.links.length c34]) hB520 0 0 (by kernel_rfl) (by kernel_rfl) (by kernel_rfl)) fun q532 h533 => ?_
        clear h519
        refine stA (i := 1) (d := 6) (op := Op.alloc 29) (ty := 0) (g := none) (mk := fun b => .pointer (some ⟨b, 0, none⟩)) (o := .cells #[.string (⟨#[]⟩ : ByteArray), .int .i64 0, .string (⟨#[]⟩ : ByteArray), .string (⟨#[]⟩ : ByteArray), .int .i64 0, .string (⟨#[]⟩ : ByteArray), .int .i64 0, .int .i64 0, .int .i64 0, .int .i64 0, .int .i64 0, .bool false, .int .i64 0, .bool false, .bool false, .slice none 0 0] 29 (0, 0)) h533 (by kernel_rfl) (by kernel_rfl) (by kernel_rfl) gok_none (fun _ => by kernel_rfl) hB520 (fun _ _ hq => trivial) (fun b536 w537 hB538 hN q534 h535 => ?_)
        have ho539 := own_below ho521 hN
        clear h533 hB520 hN
        refine stWs (i := 2) (ty := 0) (t := 29) (x := Operand.tmp 6) (y := Operand.tmp 60) (g := none) 0 0 (b := b536) (T := 29) (cs := [.string (⟨#[]⟩ : ByteArray), .int .i64 0, .string (⟨#[]⟩ : ByteArray), .string (⟨#[]⟩ : ByteArray), .int .i64 0, .string (⟨#[]⟩ : ByteArray), .int .i64 0, .int .i64 0, .int .i64 0, .int .i64 0, .int .i64 0, .bool false, .int .i64 0, .bool false, .bool false, .slice none 0 0]) (vs := [.string i.ref, .int .i64 i.kind, .string i.sender, .string i.cpty, .int .i64 i.side, .string i.asset, .int .i64 i.qty, .int .i64 i.amt, .int .i64 i.tday, .int .i64 i.sday, .int .i64 i.prio, .bool i.part, .int .i64 i.minlot, .bool i.hold, .bool i.resv, .slice A33 i.links.length c34]) (cs' := [.string i.ref, .int .i64 i.kind, .string i.sender, .string i.cpty, .int .i64 i.side, .string i.asset, .int .i64 i.qty, .int .i64 i.amt, .int .i64 i.tday, .int .i64 i.sday, .int .i64 i.prio, .bool i.part, .int .i64 i.minlot, .bool i.hold, .bool i.resv, .slice A33 i.links.length c34]) h535 (by kernel_rfl) (by kernel_rfl) gok_none hB538 (by kernel_rfl) (by kernel_rfl) (by kernel_rfl) (by kernel_rfl) (by kernel_rfl) (by kernel_rfl) (by kernel_rfl) (.inr fun _ _ => trivial) (fun w542 hB543 hT q540 h541 => ?_)
        replace hB543 : Bx w [(b536, .cells #[.string i.ref, .int .i64 i.kind, .string i.sender, .string i.cpty, .int .i64 i.side, .string i.asset, .int .i64 i.qty, .int .i64 i.amt, .int .i64 i.tday, .int .i64 i.sday, .int .i64 i.prio, .bool i.part, .int .i64 i.minlot, .bool i.hold, .bool i.resv, .slice A33 i.links.length c34] 29 (0, 0)), (b41, .cells #[.string i.ref, .int .i64 i.kind, .string i.sender, .string i.cpty, .int .i64 i.side, .string i.asset, .int .i64 i.qty, .int .i64 i.amt, .int .i64 i.tday, .int .i64 i.sday, .int .i64 i.prio, .bool i.part, .int .i64 i.minlot, .bool i.hold, .bool i.resv, .slice A33 i.links.length c34] 29 (0, 0)), (b3, .cells #[.string i.ref, .int .i64 i.kind, .string i.sender, .string i.cpty, .int .i64 i.side, .string i.asset, .int .i64 i.qty, .int .i64 i.amt, .int .i64 i.tday, .int .i64 i.sday, .int .i64 i.prio, .bool i.part, .int .i64 i.minlot, .bool i.hold, .bool i.resv, .slice A i.links.length c] 24 (0, 0))] w542 := hB543
        clear h535 hB538
        have ho544 := own_turned ho539 hT (by kernel_rfl)
        clear hT
        refine wpO_end ?_
        have h545 := h541.keep [(6, .pointer (some ⟨b536, 0, none⟩)), (3, .pointer (some ⟨b41, 0, none⟩)), (2, .bool false)] ⟨rfl, rfl, rfl, trivial⟩
        clear h541
        refine then_n ?_
        refine c_seq (by kernel_rfl) ?_
        have hD546 := hB543.drew
        refine reg_draw (S := Bx w [(b41, .cells #[.string i.ref, .int .i64 i.kind, .string i.sender, .string i.cpty, .int .i64 i.side, .string i.asset, .int .i64 i.qty, .int .i64 i.amt, .int .i64 i.tday, .int .i64 i.sday, .int .i64 i.prio, .bool i.part, .int .i64 i.minlot, .bool i.hold, .bool i.resv, .slice A33 i.links.length c34] 29 (0, 0)), (b3, .cells #[.string i.ref, .int .i64 i.kind, .string i.sender, .string i.cpty, .int .i64 i.side, .string i.asset, .int .i64 i.qty, .int .i64 i.amt, .int .i64 i.tday, .int .i64 i.sday, .int .i64 i.prio, .bool i.part, .int .i64 i.minlot, .bool i.hold, .bool i.resv, .slice A i.links.length c] 24 (0, 0))]) 13 [⟨0, true, 0, 8, 2305843009213693952⟩, ⟨1, true, 1, 2305843009213693952, 4611686018427387904⟩, ⟨2, true, 0, 8, 9223372036854775808⟩, ⟨3, true, 4, 9223372036854775808, 18446744073709551616⟩, ⟨4, true, 0, 8, 36893488147419103232⟩, ⟨5, true, 16, 36893488147419103232, 73786976294838206464⟩, ⟨6, true, 32, 73786976294838206464, 147573952589676412928⟩, ⟨7, true, 3, 64, 295147905179352825856⟩, ⟨8, false, 131, 299759591197780213760, 0⟩, ⟨9, true, 399, 64, 590295810358705651712⟩, ⟨10, false, 911, 608742554432415203328, 0⟩, ⟨11, true, 2047, 64, 1180591620717411303424⟩, ⟨12, false, 4095, 1328165573307087716352, 0⟩] [(0, true), (1, true), (2, true), (3, true), (4, true), (5, true), (6, true), (7, true), (8, false), (9, true), (10, false), (11, true), (12, false)] (by kernel_rfl) (by kernel_rfl) (by kernel_rfl) (by kernel_rfl) (fun _ _ _ _ h => absurd h.2 (by simp)) hD546.tail ?_
        have ho547 := own_drew ho544
        generalize World.drew w542 = w548 at hD546 ho547 ⊢
        refine fE 0 61 (.fieldAddr 29 (.tmp 3) 3) 0 (.pointer (some ⟨b41, 3, none⟩)) h545 fun q549 h550 => ?_
        clear h545
        refine fE 1 62 (.load 9 (.tmp 61)) 9 (.string i.cpty) h550 (hr := fun _ hS => r_loadC (b := b41) (v := .string i.cpty) hS 0 3 (by kernel_rfl) (by kernel_rfl) (by kernel_rfl)) fun q551 h552 => ?_
        clear h550
        refine fE 2 63 (.fieldAddr 29 (.tmp 3) 2) 0 (.pointer (some ⟨b41, 2, none⟩)) h552 fun q553 h554 => ?_
        clear h552
        refine fE 3 64 (.load 9 (.tmp 63)) 9 (.string i.sender) h554 (hr := fun _ hS => r_loadC (b := b41) (v := .string i.sender) hS 0 2 (by kernel_rfl) (by kernel_rfl) (by kernel_rfl)) fun q555 h556 => ?_
        clear h554
        refine fE 4 65 (.fieldAddr 29 (.tmp 3) 4) 0 (.pointer (some ⟨b41, 4, none⟩)) h556 fun q557 h558 => ?_
        clear h556
        refine fE 5 66 (.load 3 (.tmp 65)) 3 (.int .i64 i.side) h558 (hr := fun _ hS => r_loadC (b := b41) (v := .int .i64 i.side) hS 0 4 (by kernel_rfl) (by kernel_rfl) (by kernel_rfl)) fun q559 h560 => ?_
        clear h558
        refine fE 6 67 (.binOp .sub 3 (.const (.int .i64 1)) (.tmp 66) 3) 3 (.int .i64 (IntKind.i64.wrap (1 - i.side))) h560 fun q561 h562 => ?_
        clear h560
        refine fE 7 68 (.fieldAddr 29 (.tmp 6) 2) 0 (.pointer (some ⟨b536, 2, none⟩)) h562 fun q563 h564 => ?_
        clear h562
        refine stWs (i := 8) (ty := 0) (t := 9) (x := Operand.tmp 68) (y := Operand.tmp 62) (g := none) 0 2 (b := b536) (T := 29) (cs := [.string i.ref, .int .i64 i.kind, .string i.sender, .string i.cpty, .int .i64 i.side, .string i.asset, .int .i64 i.qty, .int .i64 i.amt, .int .i64 i.tday, .int .i64 i.sday, .int .i64 i.prio, .bool i.part, .int .i64 i.minlot, .bool i.hold, .bool i.resv, .slice A33 i.links.length c34]) (vs := [.string i.cpty]) (cs' := [.string i.ref, .int .i64 i.kind, .string i.cpty, .string i.cpty, .int .i64 i.side, .string i.asset, .int .i64 i.qty, .int .i64 i.amt, .int .i64 i.tday, .int .i64 i.sday, .int .i64 i.prio, .bool i.part, .int .i64 i.minlot, .bool i.hold, .bool i.resv, .slice A33 i.links.length c34]) h564 (by kernel_rfl) (by kernel_rfl) gok_none hD546 (by kernel_rfl) (by kernel_rfl) (by kernel_rfl) (by kernel_rfl) (by kernel_rfl) (by kernel_rfl) (by kernel_rfl) (.inr fun _ hq => hq.tail) (fun w567 hB568 hT q565 h566 => ?_)
        replace hB568 : Bx w [(b536, .cells #[.string i.ref, .int .i64 i.kind, .string i.cpty, .string i.cpty, .int .i64 i.side, .string i.asset, .int .i64 i.qty, .int .i64 i.amt, .int .i64 i.tday, .int .i64 i.sday, .int .i64 i.prio, .bool i.part, .int .i64 i.minlot, .bool i.hold, .bool i.resv, .slice A33 i.links.length c34] 29 (0, 0)), (b41, .cells #[.string i.ref, .int .i64 i.kind, .string i.sender, .string i.cpty, .int .i64 i.side, .string i.asset, .int .i64 i.qty, .int .i64 i.amt, .int .i64 i.tday, .int .i64 i.sday, .int .i64 i.prio, .bool i.part, .int .i64 i.minlot, .bool i.hold, .bool i.resv, .slice A33 i.links.length c34] 29 (0, 0)), (b3, .cells #[.string i.ref, .int .i64 i.kind, .string i.sender, .string i.cpty, .int .i64 i.side, .string i.asset, .int .i64 i.qty, .int .i64 i.amt, .int .i64 i.tday, .int .i64 i.sday, .int .i64 i.prio, .bool i.part, .int .i64 i.minlot, .bool i.hold, .bool i.resv, .slice A i.links.length c] 24 (0, 0))] w567 := hB568
        clear h564 hD546
        have ho569 := own_turned ho547 hT (by kernel_rfl)
        clear hT
        refine fE 9 69 (.fieldAddr 29 (.tmp 6) 3) 0 (.pointer (some ⟨b536, 3, none⟩)) h566 fun q570 h571 => ?_
        clear h566
        refine stWs (i := 10) (ty := 0) (t := 9) (x := Operand.tmp 69) (y := Operand.tmp 64) (g := none) 0 3 (b := b536) (T := 29) (cs := [.string i.ref, .int .i64 i.kind, .string i.cpty, .string i.cpty, .int .i64 i.side, .string i.asset, .int .i64 i.qty, .int .i64 i.amt, .int .i64 i.tday, .int .i64 i.sday, .int .i64 i.prio, .bool i.part, .int .i64 i.minlot, .bool i.hold, .bool i.resv, .slice A33 i.links.length c34]) (vs := [.string i.sender]) (cs' := [.string i.ref, .int .i64 i.kind, .string i.cpty, .string i.sender, .int .i64 i.side, .string i.asset, .int .i64 i.qty, .int .i64 i.amt, .int .i64 i.tday, .int .i64 i.sday, .int .i64 i.prio, .bool i.part, .int .i64 i.minlot, .bool i.hold, .bool i.resv, .slice A33 i.links.length c34]) h571 (by kernel_rfl) (by kernel_rfl) gok_none hB568 (by kernel_rfl) (by kernel_rfl) (by kernel_rfl) (by kernel_rfl) (by kernel_rfl) (by kernel_rfl) (by kernel_rfl) (.inr fun _ hq => hq.tail) (fun w574 hB575 hT q572 h573 => ?_)
        replace hB575 : Bx w [(b536, .cells #[.string i.ref, .int .i64 i.kind, .string i.cpty, .string i.sender, .int .i64 i.side, .string i.asset, .int .i64 i.qty, .int .i64 i.amt, .int .i64 i.tday, .int .i64 i.sday, .int .i64 i.prio, .bool i.part, .int .i64 i.minlot, .bool i.hold, .bool i.resv, .slice A33 i.links.length c34] 29 (0, 0)), (b41, .cells #[.string i.ref, .int .i64 i.kind, .string i.sender, .string i.cpty, .int .i64 i.side, .string i.asset, .int .i64 i.qty, .int .i64 i.amt, .int .i64 i.tday, .int .i64 i.sday, .int .i64 i.prio, .bool i.part, .int .i64 i.minlot, .bool i.hold, .bool i.resv, .slice A33 i.links.length c34] 29 (0, 0)), (b3, .cells #[.string i.ref, .int .i64 i.kind, .string i.sender, .string i.cpty, .int .i64 i.side, .string i.asset, .int .i64 i.qty, .int .i64 i.amt, .int .i64 i.tday, .int .i64 i.sday, .int .i64 i.prio, .bool i.part, .int .i64 i.minlot, .bool i.hold, .bool i.resv, .slice A i.links.length c] 24 (0, 0))] w574 := hB575
        clear h571 hB568
        have ho576 := own_turned ho569 hT (by kernel_rfl)
        clear hT
        refine fE 11 70 (.fieldAddr 29 (.tmp 6) 4) 0 (.pointer (some ⟨b536, 4, none⟩)) h573 fun q577 h578 => ?_
        clear h573
        refine stWs (i := 12) (ty := 0) (t := 3) (x := Operand.tmp 70) (y := Operand.tmp 67) (g := none) 0 4 (b := b536) (T := 29) (cs := [.string i.ref, .int .i64 i.kind, .string i.cpty, .string i.sender, .int .i64 i.side, .string i.asset, .int .i64 i.qty, .int .i64 i.amt, .int .i64 i.tday, .int .i64 i.sday, .int .i64 i.prio, .bool i.part, .int .i64 i.minlot, .bool i.hold, .bool i.resv, .slice A33 i.links.length c34]) (vs := [.int .i64 (IntKind.i64.wrap (1 - i.side))]) (cs' := [.string i.ref, .int .i64 i.kind, .string i.cpty, .string i.sender, .int .i64 (IntKind.i64.wrap (1 - i.side)), .string i.asset, .int .i64 i.qty, .int .i64 i.amt, .int .i64 i.tday, .int .i64 i.sday, .int .i64 i.prio, .bool i.part, .int .i64 i.minlot, .bool i.hold, .bool i.resv, .slice A33 i.links.length c34]) h578 (by kernel_rfl) (by kernel_rfl) gok_none hB575 (by kernel_rfl) (by kernel_rfl) (by kernel_rfl) (by kernel_rfl) (by kernel_rfl) (by kernel_rfl) (by kernel_rfl) (.inr fun _ hq => hq.tail) (fun w581 hB582 hT q579 h580 => ?_)
        replace hB582 : Bx w [(b536, .cells #[.string i.ref, .int .i64 i.kind, .string i.cpty, .string i.sender, .int .i64 (IntKind.i64.wrap (1 - i.side)), .string i.asset, .int .i64 i.qty, .int .i64 i.amt, .int .i64 i.tday, .int .i64 i.sday, .int .i64 i.prio, .bool i.part, .int .i64 i.minlot, .bool i.hold, .bool i.resv, .slice A33 i.links.length c34] 29 (0, 0)), (b41, .cells #[.string i.ref, .int .i64 i.kind, .string i.sender, .string i.cpty, .int .i64 i.side, .string i.asset, .int .i64 i.qty, .int .i64 i.amt, .int .i64 i.tday, .int .i64 i.sday, .int .i64 i.prio, .bool i.part, .int .i64 i.minlot, .bool i.hold, .bool i.resv, .slice A33 i.links.length c34] 29 (0, 0)), (b3, .cells #[.string i.ref, .int .i64 i.kind, .string i.sender, .string i.cpty, .int .i64 i.side, .string i.asset, .int .i64 i.qty, .int .i64 i.amt, .int .i64 i.tday, .int .i64 i.sday, .int .i64 i.prio, .bool i.part, .int .i64 i.minlot, .bool i.hold, .bool i.resv, .slice A i.links.length c] 24 (0, 0))] w581 := hB582
        clear h578 hB575
        have ho583 := own_turned ho576 hT (by kernel_rfl)
        clear hT
        refine wpO_end ?_
        have h584 := h580.keep [(6, .pointer (some ⟨b536, 0, none⟩)), (3, .pointer (some ⟨b41, 0, none⟩)), (2, .bool false)] ⟨rfl, rfl, rfl, trivial⟩
        clear h580
        refine then_n ?_
        refine c_seq (by kernel_rfl) ?_
        have hD585 := hB582.drew
        refine reg_draw (S := Bx w [(b536, .cells #[.string i.ref, .int .i64 i.kind, .string i.cpty, .string i.sender, .int .i64 (IntKind.i64.wrap (1 - i.side)), .string i.asset, .int .i64 i.qty, .int .i64 i.amt, .int .i64 i.tday, .int .i64 i.sday, .int .i64 i.prio, .bool i.part, .int .i64 i.minlot, .bool i.hold, .bool i.resv, .slice A33 i.links.length c34] 29 (0, 0)), (b41, .cells #[.string i.ref, .int .i64 i.kind, .string i.sender, .string i.cpty, .int .i64 i.side, .string i.asset, .int .i64 i.qty, .int .i64 i.amt, .int .i64 i.tday, .int .i64 i.sday, .int .i64 i.prio, .bool i.part, .int .i64 i.minlot, .bool i.hold, .bool i.resv, .slice A33 i.links.length c34] 29 (0, 0)), (b3, .cells #[.string i.ref, .int .i64 i.kind, .string i.sender, .string i.cpty, .int .i64 i.side, .string i.asset, .int .i64 i.qty, .int .i64 i.amt, .int .i64 i.tday, .int .i64 i.sday, .int .i64 i.prio, .bool i.part, .int .i64 i.minlot, .bool i.hold, .bool i.resv, .slice A i.links.length c] 24 (0, 0))]) 21 [⟨0, true, 0, 64, 2361183241434822606848⟩, ⟨1, false, 1, 2361183241434822606848, 4722366482869645213696⟩, ⟨2, true, 2, 4722366482869645213696, 9444732965739290427392⟩, ⟨3, true, 6, 9444732965739290427392, 18889465931478580854784⟩, ⟨4, true, 8, 18889465931478580854848, 37778931862957161709568⟩, ⟨6, true, 8, 18889465931478580854792, 151115727451828646838272⟩, ⟨5, false, 24, 56668397794435742564352, 75557863725914323419136⟩, ⟨7, false, 104, 170005193383307227693056, 302231454903657293676544⟩, ⟨8, true, 168, 396678784561050197950464, 604462909807314587353088⟩, ⟨9, true, 264, 623352375738793168207872, 1208925819614629174706176⟩, ⟨10, true, 640, 1208925819614629174706176, 2417851639229258349412352⟩, ⟨11, true, 1024, 2417851639229258349412416, 4835703278458516698824704⟩, ⟨13, true, 1024, 2417851639229258349412360, 19342813113834066795298816⟩, ⟨12, false, 3072, 7253554917687775048237056, 9671406556917033397649408⟩, ⟨14, false, 13312, 21760664753063325144711168, 38685626227668133590597632⟩, ⟨15, true, 21504, 50774884423814425337659392, 77371252455336267181195264⟩, ⟨16, true, 33792, 79789104094565525530607616, 154742504910672534362390528⟩, ⟨17, true, 81920, 154742504910672534362390528, 309485009821345068724781056⟩, ⟨18, false, 131072, 309485009821345068724781056, 618970019642690137449562112⟩, ⟨19, true, 393216, 928455029464035206174343168, 1237940039285380274899124224⟩, ⟨20, true, 1048575, 1237940039285380274899124224, 4⟩] [(0, true), (1, false), (2, true), (3, true), (4, true), (6, true), (5, false), (7, false), (8, true), (9, true), (10, true), (11, true), (13, true), (12, false), (14, false), (15, true), (16, true), (17, true), (18, false), (19, true), (20, true)] (by kernel_rfl) (by kernel_rfl) (by kernel_rfl) (by kernel_rfl) (fun _ _ _ _ h => absurd h.2 (by simp)) hD585 ?_
        have ho586 := own_drew ho583
        generalize World.drew w581 = w587 at hD585 ho586 ⊢
        refine fE 0 71 (.load 29 (.tmp 6)) 29 (.agg #[.string i.ref, .int .i64 i.kind, .string i.cpty, .string i.sender, .int .i64 (IntKind.i64.wrap (1 - i.side)), .string i.asset, .int .i64 i.qty, .int .i64 i.amt, .int .i64 i.tday, .int .i64 i.sday, .int .i64 i.prio, .bool i.part, .int .i64 i.minlot, .bool i.hold, .bool i.resv, .slice A33 i.links.length c34]) h584 (hr := fun _ hS => r_loadS (b := b536) (vs := [.string i.ref, .int .i64 i.kind, .string i.cpty, .string i.sender, .int .i64 (IntKind.i64.wrap (1 - i.side)), .string i.asset, .int .i64 i.qty, .int .i64 i.amt, .int .i64 i.tday, .int .i64 i.sday, .int .i64 i.prio, .bool i.part, .int .i64 i.minlot, .bool i.hold, .bool i.resv, .slice A33 i.links.length c34]) hS 0 0 (by kernel_rfl) (by kernel_rfl) (by kernel_rfl)) fun q588 h589 => ?_
        clear h584
        refine stC (i := 1) (d := 72) (op := Op.call { callee := Callee.value (Operand.func 14), args := #[Operand.tmp 71], argTypes := #[29] }) (ty := 26) (g := none) (f := 14) (args := #[.agg #[.string i.ref, .int .i64 i.kind, .string i.cpty, .string i.sender, .int .i64 (IntKind.i64.wrap (1 - i.side)), .string i.asset, .int .i64 i.qty, .int .i64 i.amt, .int .i64 i.tday, .int .i64 i.sday, .int .i64 i.prio, .bool i.part, .int .i64 i.minlot, .bool i.hold, .bool i.resv, .slice A33 i.links.length c34]]) (w1 := w587) h589 (by kernel_rfl) (by kernel_rfl) (by kernel_rfl) gok_none (by kernel_rfl) (c14 (⟨i.ref, i.kind, i.cpty, i.sender, IntKind.i64.wrap (1 - i.side), i.asset, i.qty, i.amt, i.tday, i.sday, i.prio, i.part, i.minlot, i.hold, i.resv, i.links⟩ : Ins) A33 c34 w587 (show i.links.length ≤ 4611686018427387904 by omega) (own_le ho586) (own_rr ho586)) ?_
        rintro _ w592 ⟨rfl, hb593⟩
        have hB594 := hD585.call hb593
        have ho595 := own_below ho586 hb593
        refine ⟨_, rfl, hB594, fun q590 h591 => ?_⟩
        clear h589 hD585 hb593
        refine fE 2 73 (.binOp .eql 26 (.tmp 72) (.const (.int .i64 0)) 26) 4 (.bool (chkI (⟨i.ref, i.kind, i.cpty, i.sender, IntKind.i64.wrap (1 - i.side), i.asset, i.qty, i.amt, i.tday, i.sday, i.prio, i.part, i.minlot, i.hold, i.resv, i.links⟩ : Ins) == (0 : Int))) h591 fun q596 h597 => ?_
        clear h591
        have h598 := h597.keep [(73, .bool true), (72, .int .i64 (chkI (⟨i.ref, i.kind, i.cpty, i.sender, IntKind.i64.wrap (1 - i.side), i.asset, i.qty, i.amt, i.tday, i.sday, i.prio, i.part, i.minlot, i.hold, i.resv, i.links⟩ : Ins))), (71, .agg #[.string i.ref, .int .i64 i.kind, .string i.cpty, .string i.sender, .int .i64 (IntKind.i64.wrap (1 - i.side)), .string i.asset, .int .i64 i.qty, .int .i64 i.amt, .int .i64 i.tday, .int .i64 i.sday, .int .i64 i.prio, .bool i.part, .int .i64 i.minlot, .bool i.hold, .bool i.resv, .slice A33 i.links.length c34]), (6, .pointer (some ⟨b536, 0, none⟩)), (3, .pointer (some ⟨b41, 0, none⟩)), (2, .bool false)] ⟨look_bool rfl (mir_ok i hc522), rfl, rfl, rfl, rfl, rfl, trivial⟩
        clear h597
        refine fE 3 74 (.move (.tmp 73)) 4 (.bool true) h598 fun q599 h600 => ?_
        clear h598
        refine fG 4 75 (.load 29 (.tmp 6)) 29 (3, true) (.agg #[.string i.ref, .int .i64 i.kind, .string i.cpty, .string i.sender, .int .i64 (IntKind.i64.wrap (1 - i.side)), .string i.asset, .int .i64 i.qty, .int .i64 i.amt, .int .i64 i.tday, .int .i64 i.sday, .int .i64 i.prio, .bool i.part, .int .i64 i.minlot, .bool i.hold, .bool i.resv, .slice A33 i.links.length c34]) (g1 74 (rfl : true = true)) h600 (hr := fun _ hS => r_loadS (b := b536) (vs := [.string i.ref, .int .i64 i.kind, .string i.cpty, .string i.sender, .int .i64 (IntKind.i64.wrap (1 - i.side)), .string i.asset, .int .i64 i.qty, .int .i64 i.amt, .int .i64 i.tday, .int .i64 i.sday, .int .i64 i.prio, .bool i.part, .int .i64 i.minlot, .bool i.hold, .bool i.resv, .slice A33 i.links.length c34]) hS 0 0 (by kernel_rfl) (by kernel_rfl) (by kernel_rfl)) fun q601 h602 => ?_
        clear h600
        refine fG 6 77 (.load 29 (.tmp 3)) 29 (3, true) (.agg #[.string i.ref, .int .i64 i.kind, .string i.sender, .string i.cpty, .int .i64 i.side, .string i.asset, .int .i64 i.qty, .int .i64 i.amt, .int .i64 i.tday, .int .i64 i.sday, .int .i64 i.prio, .bool i.part, .int .i64 i.minlot, .bool i.hold, .bool i.resv, .slice A33 i.links.length c34]) (g1 74 (rfl : true = true)) h602 (hr := fun _ hS => r_loadS (b := b41) (vs := [.string i.ref, .int .i64 i.kind, .string i.sender, .string i.cpty, .int .i64 i.side, .string i.asset, .int .i64 i.qty, .int .i64 i.amt, .int .i64 i.tday, .int .i64 i.sday, .int .i64 i.prio, .bool i.part, .int .i64 i.minlot, .bool i.hold, .bool i.resv, .slice A33 i.links.length c34]) hS 1 0 (by kernel_rfl) (by kernel_rfl) (by kernel_rfl)) fun q603 h604 => ?_
        clear h602
        refine stC (i := 5) (d := 76) (op := Op.call { callee := Callee.value (Operand.func 16), args := #[Operand.tmp 75], argTypes := #[29] }) (ty := 9) (g := (some (3, true))) (f := 16) (args := #[.agg #[.string i.ref, .int .i64 i.kind, .string i.cpty, .string i.sender, .int .i64 (IntKind.i64.wrap (1 - i.side)), .string i.asset, .int .i64 i.qty, .int .i64 i.amt, .int .i64 i.tday, .int .i64 i.sday, .int .i64 i.prio, .bool i.part, .int .i64 i.minlot, .bool i.hold, .bool i.resv, .slice A33 i.links.length c34]]) (w1 := w592) h604 (by kernel_rfl) (by kernel_rfl) (by kernel_rfl) (g1 74 (rfl : true = true)) (by kernel_rfl) (c16 (⟨i.ref, i.kind, i.cpty, i.sender, IntKind.i64.wrap (1 - i.side), i.asset, i.qty, i.amt, i.tday, i.sday, i.prio, i.part, i.minlot, i.hold, i.resv, i.links⟩ : Ins) A33 c34 w592) ?_
        rintro _ w607 ⟨rfl, hb608⟩
        have hB609 := hB594.call hb608
        have ho610 := own_below ho595 hb608
        refine ⟨_, rfl, hB609, fun q605 h606 => ?_⟩
        clear h604 hB594 hb608
        refine stC (i := 7) (d := 78) (op := Op.call { callee := Callee.value (Operand.func 16), args := #[Operand.tmp 77], argTypes := #[29] }) (ty := 9) (g := (some (3, true))) (f := 16) (args := #[.agg #[.string i.ref, .int .i64 i.kind, .string i.sender, .string i.cpty, .int .i64 i.side, .string i.asset, .int .i64 i.qty, .int .i64 i.amt, .int .i64 i.tday, .int .i64 i.sday, .int .i64 i.prio, .bool i.part, .int .i64 i.minlot, .bool i.hold, .bool i.resv, .slice A33 i.links.length c34]]) (w1 := w607) h606 (by kernel_rfl) (by kernel_rfl) (by kernel_rfl) (g1 74 (rfl : true = true)) (by kernel_rfl) (c16 i A33 c34 w607) ?_
        rintro _ w613 ⟨rfl, hb614⟩
        have hB615 := hB609.call hb614
        have ho616 := own_below ho610 hb614
        refine ⟨_, rfl, hB615, fun q611 h612 => ?_⟩
        clear h606 hB609 hb614
        refine fG 8 79 (.binOp .eql 9 (.tmp 76) (.tmp 78) 9) 4 (3, true) (.bool ((delB (⟨i.ref, i.kind, i.cpty, i.sender, IntKind.i64.wrap (1 - i.side), i.asset, i.qty, i.amt, i.tday, i.sday, i.prio, i.part, i.minlot, i.hold, i.resv, i.links⟩ : Ins)).toList == (delB i).toList)) (g1 74 (rfl : true = true)) h612 fun q617 h618 => ?_
        clear h612
        have h619 := h618.keep [(79, .bool true), (78, .string (delB i)), (76, .string (delB (⟨i.ref, i.kind, i.cpty, i.sender, IntKind.i64.wrap (1 - i.side), i.asset, i.qty, i.amt, i.tday, i.sday, i.prio, i.part, i.minlot, i.hold, i.resv, i.links⟩ : Ins))), (77, .agg #[.string i.ref, .int .i64 i.kind, .string i.sender, .string i.cpty, .int .i64 i.side, .string i.asset, .int .i64 i.qty, .int .i64 i.amt, .int .i64 i.tday, .int .i64 i.sday, .int .i64 i.prio, .bool i.part, .int .i64 i.minlot, .bool i.hold, .bool i.resv, .slice A33 i.links.length c34]), (75, .agg #[.string i.ref, .int .i64 i.kind, .string i.cpty, .string i.sender, .int .i64 (IntKind.i64.wrap (1 - i.side)), .string i.asset, .int .i64 i.qty, .int .i64 i.amt, .int .i64 i.tday, .int .i64 i.sday, .int .i64 i.prio, .bool i.part, .int .i64 i.minlot, .bool i.hold, .bool i.resv, .slice A33 i.links.length c34]), (74, .bool true), (73, .bool true), (72, .int .i64 (chkI (⟨i.ref, i.kind, i.cpty, i.sender, IntKind.i64.wrap (1 - i.side), i.asset, i.qty, i.amt, i.tday, i.sday, i.prio, i.part, i.minlot, i.hold, i.resv, i.links⟩ : Ins))), (71, .agg #[.string i.ref, .int .i64 i.kind, .string i.cpty, .string i.sender, .int .i64 (IntKind.i64.wrap (1 - i.side)), .string i.asset, .int .i64 i.qty, .int .i64 i.amt, .int .i64 i.tday, .int .i64 i.sday, .int .i64 i.prio, .bool i.part, .int .i64 i.minlot, .bool i.hold, .bool i.resv, .slice A33 i.links.length c34]), (6, .pointer (some ⟨b536, 0, none⟩)), (3, .pointer (some ⟨b41, 0, none⟩)), (2, .bool false)] ⟨look_bool rfl (mir_del i hc522), rfl, rfl, rfl, rfl, rfl, rfl, rfl, rfl, rfl, rfl, rfl, trivial⟩
        clear h618
        refine fE 9 80 (.pick (.tmp 74) (.tmp 79) (.const (.bool false))) 4 (.bool true) h619 fun q620 h621 => ?_
        clear h619
        refine fE 10 81 (.move (.tmp 80)) 4 (.bool true) h621 fun q622 h623 => ?_
        clear h621
        refine fG 11 82 (.load 29 (.tmp 6)) 29 (10, true) (.agg #[.string i.ref, .int .i64 i.kind, .string i.cpty, .string i.sender, .int .i64 (IntKind.i64.wrap (1 - i.side)), .string i.asset, .int .i64 i.qty, .int .i64 i.amt, .int .i64 i.tday, .int .i64 i.sday, .int .i64 i.prio, .bool i.part, .int .i64 i.minlot, .bool i.hold, .bool i.resv, .slice A33 i.links.length c34]) (g1 81 (rfl : true = true)) h623 (hr := fun _ hS => r_loadS (b := b536) (vs := [.string i.ref, .int .i64 i.kind, .string i.cpty, .string i.sender, .int .i64 (IntKind.i64.wrap (1 - i.side)), .string i.asset, .int .i64 i.qty, .int .i64 i.amt, .int .i64 i.tday, .int .i64 i.sday, .int .i64 i.prio, .bool i.part, .int .i64 i.minlot, .bool i.hold, .bool i.resv, .slice A33 i.links.length c34]) hS 0 0 (by kernel_rfl) (by kernel_rfl) (by kernel_rfl)) fun q624 h625 => ?_
        clear h623
        refine fG 13 84 (.load 29 (.tmp 3)) 29 (10, true) (.agg #[.string i.ref, .int .i64 i.kind, .string i.sender, .string i.cpty, .int .i64 i.side, .string i.asset, .int .i64 i.qty, .int .i64 i.amt, .int .i64 i.tday, .int .i64 i.sday, .int .i64 i.prio, .bool i.part, .int .i64 i.minlot, .bool i.hold, .bool i.resv, .slice A33 i.links.length c34]) (g1 81 (rfl : true = true)) h625 (hr := fun _ hS => r_loadS (b := b41) (vs := [.string i.ref, .int .i64 i.kind, .string i.sender, .string i.cpty, .int .i64 i.side, .string i.asset, .int .i64 i.qty, .int .i64 i.amt, .int .i64 i.tday, .int .i64 i.sday, .int .i64 i.prio, .bool i.part, .int .i64 i.minlot, .bool i.hold, .bool i.resv, .slice A33 i.links.length c34]) hS 1 0 (by kernel_rfl) (by kernel_rfl) (by kernel_rfl)) fun q626 h627 => ?_
        clear h625
        refine stC (i := 12) (d := 83) (op := Op.call { callee := Callee.value (Operand.func 17), args := #[Operand.tmp 82], argTypes := #[29] }) (ty := 9) (g := (some (10, true))) (f := 17) (args := #[.agg #[.string i.ref, .int .i64 i.kind, .string i.cpty, .string i.sender, .int .i64 (IntKind.i64.wrap (1 - i.side)), .string i.asset, .int .i64 i.qty, .int .i64 i.amt, .int .i64 i.tday, .int .i64 i.sday, .int .i64 i.prio, .bool i.part, .int .i64 i.minlot, .bool i.hold, .bool i.resv, .slice A33 i.links.length c34]]) (w1 := w613) h627 (by kernel_rfl) (by kernel_rfl) (by kernel_rfl) (g1 81 (rfl : true = true)) (by kernel_rfl) (c17 (⟨i.ref, i.kind, i.cpty, i.sender, IntKind.i64.wrap (1 - i.side), i.asset, i.qty, i.amt, i.tday, i.sday, i.prio, i.part, i.minlot, i.hold, i.resv, i.links⟩ : Ins) A33 c34 w613) ?_
        rintro _ w630 ⟨rfl, hb631⟩
        have hB632 := hB615.call hb631
        have ho633 := own_below ho616 hb631
        refine ⟨_, rfl, hB632, fun q628 h629 => ?_⟩
        clear h627 hB615 hb631
        refine stC (i := 14) (d := 85) (op := Op.call { callee := Callee.value (Operand.func 17), args := #[Operand.tmp 84], argTypes := #[29] }) (ty := 9) (g := (some (10, true))) (f := 17) (args := #[.agg #[.string i.ref, .int .i64 i.kind, .string i.sender, .string i.cpty, .int .i64 i.side, .string i.asset, .int .i64 i.qty, .int .i64 i.amt, .int .i64 i.tday, .int .i64 i.sday, .int .i64 i.prio, .bool i.part, .int .i64 i.minlot, .bool i.hold, .bool i.resv, .slice A33 i.links.length c34]]) (w1 := w630) h629 (by kernel_rfl) (by kernel_rfl) (by kernel_rfl) (g1 81 (rfl : true = true)) (by kernel_rfl) (c17 i A33 c34 w630) ?_
        rintro _ w636 ⟨rfl, hb637⟩
        have hB638 := hB632.call hb637
        have ho639 := own_below ho633 hb637
        refine ⟨_, rfl, hB638, fun q634 h635 => ?_⟩
        clear h629 hB632 hb637
        refine fG 15 86 (.binOp .eql 9 (.tmp 83) (.tmp 85) 9) 4 (10, true) (.bool ((recB (⟨i.ref, i.kind, i.cpty, i.sender, IntKind.i64.wrap (1 - i.side), i.asset, i.qty, i.amt, i.tday, i.sday, i.prio, i.part, i.minlot, i.hold, i.resv, i.links⟩ : Ins)).toList == (recB i).toList)) (g1 81 (rfl : true = true)) h635 fun q640 h641 => ?_
        clear h635
        have h642 := h641.keep [(86, .bool true), (85, .string (recB i)), (83, .string (recB (⟨i.ref, i.kind, i.cpty, i.sender, IntKind.i64.wrap (1 - i.side), i.asset, i.qty, i.amt, i.tday, i.sday, i.prio, i.part, i.minlot, i.hold, i.resv, i.links⟩ : Ins))), (84, .agg #[.string i.ref, .int .i64 i.kind, .string i.sender, .string i.cpty, .int .i64 i.side, .string i.asset, .int .i64 i.qty, .int .i64 i.amt, .int .i64 i.tday, .int .i64 i.sday, .int .i64 i.prio, .bool i.part, .int .i64 i.minlot, .bool i.hold, .bool i.resv, .slice A33 i.links.length c34]), (82, .agg #[.string i.ref, .int .i64 i.kind, .string i.cpty, .string i.sender, .int .i64 (IntKind.i64.wrap (1 - i.side)), .string i.asset, .int .i64 i.qty, .int .i64 i.amt, .int .i64 i.tday, .int .i64 i.sday, .int .i64 i.prio, .bool i.part, .int .i64 i.minlot, .bool i.hold, .bool i.resv, .slice A33 i.links.length c34]), (81, .bool true), (80, .bool true), (79, .bool true), (78, .string (delB i)), (76, .string (delB (⟨i.ref, i.kind, i.cpty, i.sender, IntKind.i64.wrap (1 - i.side), i.asset, i.qty, i.amt, i.tday, i.sday, i.prio, i.part, i.minlot, i.hold, i.resv, i.links⟩ : Ins))), (77, .agg #[.string i.ref, .int .i64 i.kind, .string i.sender, .string i.cpty, .int .i64 i.side, .string i.asset, .int .i64 i.qty, .int .i64 i.amt, .int .i64 i.tday, .int .i64 i.sday, .int .i64 i.prio, .bool i.part, .int .i64 i.minlot, .bool i.hold, .bool i.resv, .slice A33 i.links.length c34]), (75, .agg #[.string i.ref, .int .i64 i.kind, .string i.cpty, .string i.sender, .int .i64 (IntKind.i64.wrap (1 - i.side)), .string i.asset, .int .i64 i.qty, .int .i64 i.amt, .int .i64 i.tday, .int .i64 i.sday, .int .i64 i.prio, .bool i.part, .int .i64 i.minlot, .bool i.hold, .bool i.resv, .slice A33 i.links.length c34]), (74, .bool true), (73, .bool true), (72, .int .i64 (chkI (⟨i.ref, i.kind, i.cpty, i.sender, IntKind.i64.wrap (1 - i.side), i.asset, i.qty, i.amt, i.tday, i.sday, i.prio, i.part, i.minlot, i.hold, i.resv, i.links⟩ : Ins))), (71, .agg #[.string i.ref, .int .i64 i.kind, .string i.cpty, .string i.sender, .int .i64 (IntKind.i64.wrap (1 - i.side)), .string i.asset, .int .i64 i.qty, .int .i64 i.amt, .int .i64 i.tday, .int .i64 i.sday, .int .i64 i.prio, .bool i.part, .int .i64 i.minlot, .bool i.hold, .bool i.resv, .slice A33 i.links.length c34]), (6, .pointer (some ⟨b536, 0, none⟩)), (3, .pointer (some ⟨b41, 0, none⟩)), (2, .bool false)] ⟨look_bool rfl (mir_rec i hc522), rfl, rfl, rfl, rfl, rfl, rfl, rfl, rfl, rfl, rfl, rfl, rfl, rfl, rfl, rfl, rfl, rfl, rfl, trivial⟩
        clear h641
        refine fE 16 87 (.pick (.tmp 81) (.tmp 86) (.const (.bool false))) 4 (.bool true) h642 fun q643 h644 => ?_
        clear h642
        refine fE 17 88 (.move (.tmp 87)) 4 (.bool true) h644 fun q645 h646 => ?_
        clear h644
        refine stC (i := 18) (d := 89) (op := Op.call { callee := Callee.value (Operand.func 12), args := #[], argTypes := #[] }) (ty := 4) (g := (some (17, true))) (f := 12) (args := #[]) (w1 := w636) h646 (by kernel_rfl) (by kernel_rfl) (by kernel_rfl) (g1 88 (rfl : true = true)) (by kernel_rfl) (c12 w636) ?_
        rintro _ w649 ⟨rfl, hb650⟩
        have hB651 := hB638.call hb650
        have ho652 := own_below ho639 hb650
        refine ⟨_, rfl, hB651, fun q647 h648 => ?_⟩
        clear h646 hB638 hb650
        refine fE 19 90 (.pick (.tmp 88) (.tmp 89) (.const (.bool false))) 4 (.bool true) h648 fun q653 h654 => ?_
        clear h648
        refine fE 20 2 (.assign (.tmp 90)) 4 (.bool true) h654 fun q655 h656 => ?_
        clear h654
        refine wpO_end ?_
        have h657 := h656.keep [(2, .bool true)] ⟨rfl, trivial⟩
        clear h656
        refine then_n ?_
        refine c_ret (by kernel_rfl) ?_
        refine ret1 (t := 2) (v := .bool true) h657 (by kernel_rfl) (by kernel_rfl) ?_
        exact ⟨ret_eq (rfl), hB651.bel⟩

end Go.Proofs.YtljegdokbifoiaaDoor.Af
