/- Valid identifiers. No condition. -/
import Derived.Test.YtljegdokbifoiaaDoorIu
namespace Go.Proofs.YtljegdokbifoiaaDoor.Af
open Go.RowKit
theorem cls_ok0 : ∀ g ∈ clsOf sp0, g = 86 ∨ g = 87 ∨ g = 88 ∨ g = 90 := by rw [clsOf0]; decide
theorem cls_ok1 : ∀ g ∈ clsOf sp1, g = 86 ∨ g = 87 ∨ g = 88 ∨ g = 90 := by rw [clsOf1]; decide
theorem cls_ok2 : ∀ g ∈ clsOf sp2, g = 86 ∨ g = 87 ∨ g = 88 ∨ g = 90 := by rw [clsOf2]; decide
theorem isin_p (s : ByteArray) (h : (pfxE (clsOf sp0) 12 s != 0) = true) : (pfxE (clsOf sp0) 12 s == 0) = isinB s := by
  unfold isinB
  have h' : (pfxE (clsOf sp0) 12 s == 0) = false := by simpa using h
  rw [h', Bool.false_and]
theorem isin_q (s : ByteArray) (b : Bool) (e : Int) (he : (e == 0) = !b) (h : (pfxE (clsOf sp0) 12 s != 0) = false)
    (h2 : ((⟨#[UInt8.ofNat (48 + luhnD (s.extract 0 11).data.toList)]⟩ : ByteArray).toList != (s.extract 11 s.size).toList) = b) : (e == 0) = isinB s := by
  unfold isinB
  have h' : (pfxE (clsOf sp0) 12 s == 0) = true := by simpa using h
  rw [h', Bool.true_and, he, ← h2]
  unfold bne
  rw [Bool.not_not]
theorem none_p (e : Int) (h : (e != 0) = false) : ((0 : Int) == 0) = (e == 0) := by
  have h' : (e == 0) = true := by simpa using h
  rw [h']
  rfl

set_option maxHeartbeats 4000000 in
set_option maxRecDepth 20000 in
theorem c61_0 (s : ByteArray) (w : World) : Calls Tryd.prog 61 #[.int .i64 0, .string s] w (fun e w' => ∃ at' E : Int, e = .returned (.tuple #[.int .i64 at', .int .i64 E]) ∧ (E == 0) = isinB s ∧ Below w.heap.size w w') := by
  refine enter Tryd.func61 (by kernel_rfl) ?_ (by kernel_rfl)
  intro q0 h0
  replace h0 := h0.conv (l' := [(0, .int .i64 0), (1, .string s)]) rfl
  have hB := Bx.refl w
  refine c_seq (by kernel_rfl) ?_
  refine reg_plain [(0, false), (1, false)] (by kernel_rfl) (by kernel_rfl) ?_
  refine eE 0 4 (.assign (.const (.int .i64 0))) 3 (.int .i64 0) h0 fun q1 h2 => ?_
  clear h0
  refine eE 1 5 (.assign (.const (.int .i64 0))) 26 (.int .i64 0) h2 fun q3 h4 => ?_
  clear h2
  refine wpO_end ?_
  refine then_n ?_
  refine c_seq (by kernel_rfl) ?_
  refine c_seq (by kernel_rfl) ?_
  refine reg_plain [(0, false), (1, false), (2, false), (3, false), (4, false), (5, false)] (by kernel_rfl) (by kernel_rfl) ?_
  refine eE 0 9 (.move (.tmp 0)) 3 (.int .i64 0) h4 fun q5 h6 => ?_
  clear h4
  refine eE 1 10 (.binOp .lss 3 (.tmp 9) (.const (.int .i64 0)) 3) 4 (.bool false) h6 fun q7 h8 => ?_
  clear h6
  refine eE 2 11 (.move (.tmp 10)) 4 (.bool false) h8 fun q9 h10 => ?_
  clear h8
  refine eG 3 12 (.move (.tmp 0)) 3 (2, false) (.int .i64 0) (g2 11 (rfl : false = false)) h10 fun q11 h12 => ?_
  clear h10
  refine eG 4 13 (.binOp .geq 3 (.tmp 12) (.const (.int .i64 4)) 3) 4 (2, false) (.bool false) (g2 11 (rfl : false = false)) h12 fun q13 h14 => ?_
  clear h12
  refine eE 5 14 (.pick (.tmp 11) (.const (.bool true)) (.tmp 13)) 4 (.bool false) h14 fun q15 h16 => ?_
  clear h14
  refine wpO_end ?_
  have h17 := h16.keep [(14, .bool false), (5, .int .i64 0), (4, .int .i64 0), (0, .int .i64 0), (1, .string s)] ⟨rfl, rfl, rfl, rfl, rfl, trivial⟩
  clear h16
  refine then_n ?_
  refine c_cond (t := 14) (b := false) h17 (by kernel_rfl) (by kernel_rfl) (fun e18 => Bool.noConfusion (e18.symm.trans (rfl))) (fun _ => ?_)
  refine c_skip (by kernel_rfl) ?_
  refine then_n ?_
  refine c_seq (by kernel_rfl) ?_
  refine reg_plain [(0, false), (1, false), (2, false), (3, false), (4, false)] (by kernel_rfl) (by kernel_rfl) ?_
  refine stC (i := 0) (d := 15) (op := Op.call { callee := Callee.value (Operand.func 67), args := #[], argTypes := #[] }) (ty := 101) (g := none) (f := 67) (args := #[]) (w1 := w) h17 (by kernel_rfl) (by kernel_rfl) (by kernel_rfl) gok_none (by kernel_rfl) (c67 w) ?_
  rintro _ w25 ⟨b21, b22, b23, b24, rfl, hr28, hr29, hr30, hb26⟩
  have hB27 := hB.call hb26
  refine ⟨_, rfl, trivial, fun q19 h20 => ?_⟩
  clear h17 hB hb26
  have hbl31 := hB27.bel
  have hB32 := Bx.refl w25
  clear hB27
  refine eE 1 16 (.move (.tmp 0)) 3 (.int .i64 0) h20 fun q33 h34 => ?_
  clear h20
  refine eE 2 17 (.index 101 (.tmp 15) (.tmp 16)) 100 (.agg #[.int .i64 12, .slice (some ⟨b21, 0, none⟩) 3 3, .int .i64 11, .func (.func 89) #[] #[]]) h34 fun q35 h36 => ?_
  clear h34
  refine stA (i := 3) (d := 6) (op := Op.alloc 100) (ty := 0) (g := none) (mk := fun b => .pointer (some ⟨b, 0, none⟩)) (o := .cells #[.int .i64 0, .slice none 0 0, .int .i64 0, .nilFunc] 100 (0, 0)) h36 (by kernel_rfl) (by kernel_rfl) (by kernel_rfl) gok_none (fun _ => by kernel_rfl) hB32 (fun _ _ hq => trivial) (fun b39 w40 hB41 hN q37 h38 => ?_)
  clear h36 hB32 hN
  refine stWs (i := 4) (ty := 0) (t := 100) (x := Operand.tmp 6) (y := Operand.tmp 17) (g := none) 0 0 (b := b39) (T := 100) (cs := [.int .i64 0, .slice none 0 0, .int .i64 0, .nilFunc]) (vs := [.int .i64 12, .slice (some ⟨b21, 0, none⟩) 3 3, .int .i64 11, .func (.func 89) #[] #[]]) (cs' := [.int .i64 12, .slice (some ⟨b21, 0, none⟩) 3 3, .int .i64 11, .func (.func 89) #[] #[]]) h38 (by kernel_rfl) (by kernel_rfl) gok_none hB41 (by kernel_rfl) (by kernel_rfl) (by kernel_rfl) (by kernel_rfl) (by kernel_rfl) (by kernel_rfl) (by kernel_rfl) (.inr fun _ _ => trivial) (fun w44 hB45 hT q42 h43 => ?_)
  replace hB45 : Bx w25 [(b39, .cells #[.int .i64 12, .slice (some ⟨b21, 0, none⟩) 3 3, .int .i64 11, .func (.func 89) #[] #[]] 100 (0, 0))] w44 := hB45
  clear h38 hB41
  clear hT
  refine wpO_end ?_
  have h46 := h43.keep [(6, .pointer (some ⟨b39, 0, none⟩)), (5, .int .i64 0), (4, .int .i64 0), (1, .string s)] ⟨rfl, rfl, rfl, rfl, trivial⟩
  clear h43
  refine then_n ?_
  refine c_seq (by kernel_rfl) ?_
  refine c_seq (by kernel_rfl) ?_
  have hD47 := hB45.drew
  refine reg_draw (S := Bx w25 [(b39, .cells #[.int .i64 12, .slice (some ⟨b21, 0, none⟩) 3 3, .int .i64 11, .func (.func 89) #[] #[]] 100 (0, 0))]) 11 [⟨0, true, 0, 64, 524288⟩, ⟨2, true, 0, 64, 2097152⟩, ⟨3, true, 4, 2097152, 4194304⟩, ⟨4, true, 0, 2, 8388608⟩, ⟨1, false, 1, 524288, 1048576⟩, ⟨5, false, 26, 13631488, 16777216⟩, ⟨6, true, 32, 16777216, 262144⟩, ⟨7, true, 64, 262144, 33554432⟩, ⟨8, true, 64, 262144, 67108864⟩, ⟨9, true, 255, 33554432, 128⟩, ⟨10, true, 1023, 67108864, 256⟩] [(0, true), (2, true), (3, true), (4, true), (1, false), (5, false), (6, true), (7, true), (8, true), (9, true), (10, true)] (by kernel_rfl) (by kernel_rfl) (by kernel_rfl) (by kernel_rfl) (fun _ _ _ _ h => absurd h.2 (by simp)) hD47 ?_
  generalize World.drew w44 = w48 at hD47 ⊢
  refine fE 0 19 (.load 100 (.tmp 6)) 100 (.agg #[.int .i64 12, .slice (some ⟨b21, 0, none⟩) 3 3, .int .i64 11, .func (.func 89) #[] #[]]) h46 (hr := fun _ hS => r_loadS (b := b39) (vs := [.int .i64 12, .slice (some ⟨b21, 0, none⟩) 3 3, .int .i64 11, .func (.func 89) #[] #[]]) hS 0 0 (by kernel_rfl) (by kernel_rfl) (by kernel_rfl)) fun q49 h50 => ?_
  clear h46
  refine fE 2 21 (.fieldAddr 100 (.tmp 6) 0) 0 (.pointer (some ⟨b39, 0, none⟩)) h50 fun q51 h52 => ?_
  clear h50
  refine fE 3 22 (.load 3 (.tmp 21)) 3 (.int .i64 12) h52 (hr := fun _ hS => r_loadC (b := b39) (v := .int .i64 12) hS 0 0 (by kernel_rfl) (by kernel_rfl) (by kernel_rfl)) fun q53 h54 => ?_
  clear h52
  refine fE 4 23 (.move (.tmp 1)) 9 (.string s) h54 fun q55 h56 => ?_
  clear h54
  refine stC (i := 1) (d := 20) (op := Op.call { callee := Callee.value (Operand.func 69), args := #[Operand.tmp 19], argTypes := #[100] }) (ty := 104) (g := none) (f := 69) (args := #[.agg #[.int .i64 12, .slice (some ⟨b21, 0, none⟩) 3 3, .int .i64 11, .func (.func 89) #[] #[]]]) (w1 := w48) h56 (by kernel_rfl) (by kernel_rfl) (by kernel_rfl) gok_none (by kernel_rfl) (c69 12 11 (.func (.func 89) #[] #[]) sp0 (some ⟨b21, 0, none⟩) 3 w48 (by decide) (by decide) (hr28.below hD47.bel)) ?_
  rintro _ w61 ⟨v66, rfl, ho64, hb62⟩
  obtain ⟨A59, c60, rfl, -, hr65⟩ := own_rd ho64
  have hB63 := hD47.call hb62
  refine ⟨_, rfl, hB63, fun q57 h58 => ?_⟩
  clear h56 hD47 hb62
  refine stC (i := 5) (d := 24) (op := Op.call { callee := Callee.value (Operand.func 68), args := #[Operand.tmp 20, Operand.tmp 22, Operand.tmp 23], argTypes := #[104, 3, 9] }) (ty := 89) (g := none) (f := 68) (args := #[.slice A59 ((clsOf sp0).length) c60, .int .i64 12, .string s]) (w1 := w61) h58 (by kernel_rfl) (by kernel_rfl) (by kernel_rfl) gok_none (by kernel_rfl) (c68 (clsOf sp0) A59 c60 12 s w61 (by decide) cls_ok0 hr65) ?_
  rintro _ w70 ⟨at'69, rfl, hb71⟩
  have hB72 := hB63.call hb71
  refine ⟨_, rfl, hB72, fun q67 h68 => ?_⟩
  clear h58 hB63 hb71
  refine fE 6 18 (.move (.tmp 24)) 89 (.tuple #[.int .i64 at'69, .int .i64 (pfxE (clsOf sp0) 12 s)]) h68 fun q73 h74 => ?_
  clear h68
  refine fE 7 25 (.extract (.tmp 18) 0) 3 (.int .i64 at'69) h74 fun q75 h76 => ?_
  clear h74
  refine fE 8 26 (.extract (.tmp 18) 1) 26 (.int .i64 (pfxE (clsOf sp0) 12 s)) h76 fun q77 h78 => ?_
  clear h76
  refine fE 9 7 (.assign (.tmp 25)) 3 (.int .i64 at'69) h78 fun q79 h80 => ?_
  clear h78
  refine fE 10 8 (.assign (.tmp 26)) 26 (.int .i64 (pfxE (clsOf sp0) 12 s)) h80 fun q81 h82 => ?_
  clear h80
  refine wpO_end ?_
  have h83 := h82.keep [(8, .int .i64 (pfxE (clsOf sp0) 12 s)), (7, .int .i64 at'69), (6, .pointer (some ⟨b39, 0, none⟩)), (5, .int .i64 0), (4, .int .i64 0), (1, .string s)] ⟨rfl, rfl, rfl, rfl, rfl, rfl, trivial⟩
  clear h82
  refine then_n ?_
  refine c_seq (by kernel_rfl) ?_
  refine reg_plain [(0, false), (1, false)] (by kernel_rfl) (by kernel_rfl) ?_
  refine eE 0 27 (.move (.tmp 8)) 26 (.int .i64 (pfxE (clsOf sp0) 12 s)) h83 fun q84 h85 => ?_
  clear h83
  refine eE 1 28 (.binOp .neq 26 (.tmp 27) (.const (.int .i64 0)) 26) 4 (.bool (pfxE (clsOf sp0) 12 s != (0 : Int))) h85 fun q86 h87 => ?_
  clear h85
  refine wpO_end ?_
  have h88 := h87.keep [(28, .bool (pfxE (clsOf sp0) 12 s != (0 : Int))), (8, .int .i64 (pfxE (clsOf sp0) 12 s)), (7, .int .i64 at'69), (6, .pointer (some ⟨b39, 0, none⟩)), (5, .int .i64 0), (4, .int .i64 0), (1, .string s)] ⟨rfl, rfl, rfl, rfl, rfl, rfl, rfl, trivial⟩
  clear h87
  refine then_n ?_
  refine c_cond (t := 28) (b := (pfxE (clsOf sp0) 12 s != (0 : Int))) h88 (by kernel_rfl) (by kernel_rfl) (fun hc89 => ?_) (fun hc89 => ?_)
  ·
    refine c_seq (by kernel_rfl) ?_
    refine reg_plain [(0, false), (1, false), (2, false), (3, false)] (by kernel_rfl) (by kernel_rfl) ?_
    refine eE 0 29 (.move (.tmp 7)) 3 (.int .i64 at'69) h88 fun q90 h91 => ?_
    clear h88
    refine eE 1 30 (.move (.tmp 8)) 26 (.int .i64 (pfxE (clsOf sp0) 12 s)) h91 fun q92 h93 => ?_
    clear h91
    refine eE 2 4 (.assign (.tmp 29)) 3 (.int .i64 at'69) h93 fun q94 h95 => ?_
    clear h93
    refine eE 3 5 (.assign (.tmp 30)) 26 (.int .i64 (pfxE (clsOf sp0) 12 s)) h95 fun q96 h97 => ?_
    clear h95
    refine wpO_end ?_
    have h98 := h97.keep [(5, .int .i64 (pfxE (clsOf sp0) 12 s)), (4, .int .i64 at'69), (6, .pointer (some ⟨b39, 0, none⟩)), (1, .string s)] ⟨rfl, rfl, rfl, rfl, trivial⟩
    clear h97
    refine then_n ?_
    refine c_ret (by kernel_rfl) ?_
    refine then_r ?_
    refine ret2 (t := 4) (u := 5) (v := .int .i64 at'69) (v' := .int .i64 (pfxE (clsOf sp0) 12 s)) h98 (by kernel_rfl) (by kernel_rfl) (by kernel_rfl) ?_
    exact ⟨_, _, rfl, isin_p s hc89, (hbl31.trans (hB72.bel.mono hbl31.size))⟩
  ·
    have hbody := isin_body s (by simpa using hc89)
    have hsz := hbody.1
    refine c_skip (by kernel_rfl) ?_
    refine then_n ?_
    refine c_seq (by kernel_rfl) ?_
    refine c_seq (by kernel_rfl) ?_
    have hD99 := hB72.drew
    refine reg_draw (S := Bx w25 [(b39, .cells #[.int .i64 12, .slice (some ⟨b21, 0, none⟩) 3 3, .int .i64 11, .func (.func 89) #[] #[]] 100 (0, 0))]) 17 [⟨0, true, 0, 64, 2147483648⟩, ⟨1, true, 1, 2147483648, 4294967296⟩, ⟨2, true, 2, 4294967296, 8589934592⟩, ⟨3, true, 4, 8589934592, 17179869184⟩, ⟨4, true, 8, 17179869248, 34359738368⟩, ⟨5, true, 24, 51539607552, 68719476736⟩, ⟨6, true, 8, 17179869186, 137438953472⟩, ⟨7, true, 8, 17179869248, 274877906944⟩, ⟨8, true, 136, 292057776128, 549755813888⟩, ⟨9, true, 328, 704374636544, 1099511627776⟩, ⟨11, true, 8, 17179869186, 4398046511104⟩, ⟨12, true, 8, 17179869248, 8796093022208⟩, ⟨13, true, 4104, 8813272891392, 17592186044416⟩, ⟨14, true, 10248, 22007412424704, 35184372088832⟩, ⟨10, false, 552, 1185410973696, 2199023255552⟩, ⟨15, true, 17416, 37400575213568, 70368744177664⟩, ⟨16, true, 32776, 70385924046848, 140737488355328⟩] [(0, true), (1, true), (2, true), (3, true), (4, true), (5, true), (6, true), (7, true), (8, true), (9, true), (11, true), (12, true), (13, true), (14, true), (10, false), (15, true), (16, true)] (by kernel_rfl) (by kernel_rfl) (by kernel_rfl) (by kernel_rfl) (fun _ _ _ _ h => absurd h.2 (by simp)) hD99 ?_
    generalize World.drew w70 = w100 at hD99 ⊢
    refine fE 0 31 (.fieldAddr 100 (.tmp 6) 3) 0 (.pointer (some ⟨b39, 3, none⟩)) h88 fun q101 h102 => ?_
    clear h88
    refine fE 1 32 (.load 98 (.tmp 31)) 98 (.func (.func 89) #[] #[]) h102 (hr := fun _ hS => r_loadC (b := b39) (v := .func (.func 89) #[] #[]) hS 0 3 (by kernel_rfl) (by kernel_rfl) (by kernel_rfl)) fun q103 h104 => ?_
    clear h102
    refine fE 2 33 (.binOp .neq 98 (.tmp 32) (.const .nilFunc) 98) 4 (.bool true) h104 fun q105 h106 => ?_
    clear h104
    refine fE 3 34 (.move (.tmp 33)) 4 (.bool true) h106 fun q107 h108 => ?_
    clear h106
    refine fG 4 35 (.fieldAddr 100 (.tmp 6) 3) 0 (3, true) (.pointer (some ⟨b39, 3, none⟩)) (g1 34 (rfl : true = true)) h108 fun q109 h110 => ?_
    clear h108
    refine fG 5 36 (.load 98 (.tmp 35)) 98 (3, true) (.func (.func 89) #[] #[]) (g1 34 (rfl : true = true)) h110 (hr := fun _ hS => r_loadC (b := b39) (v := .func (.func 89) #[] #[]) hS 0 3 (by kernel_rfl) (by kernel_rfl) (by kernel_rfl)) fun q111 h112 => ?_
    clear h110
    refine fG 6 37 (.move (.tmp 1)) 9 (3, true) (.string s) (g1 34 (rfl : true = true)) h112 fun q113 h114 => ?_
    clear h112
    refine fG 7 38 (.fieldAddr 100 (.tmp 6) 2) 0 (3, true) (.pointer (some ⟨b39, 2, none⟩)) (g1 34 (rfl : true = true)) h114 fun q115 h116 => ?_
    clear h114
    refine fG 8 39 (.load 3 (.tmp 38)) 3 (3, true) (.int .i64 11) (g1 34 (rfl : true = true)) h116 (hr := fun _ hS => r_loadC (b := b39) (v := .int .i64 11) hS 0 2 (by kernel_rfl) (by kernel_rfl) (by kernel_rfl)) fun q117 h118 => ?_
    clear h116
    refine fG 9 40 (.slice 9 (.tmp 37) none (some (.tmp 39)) none) 9 (3, true) (.string (s.extract 0 11)) (g1 34 (rfl : true = true)) h118 (hr := fun _ hS => r_sliceSHi (kd := .i64) (i := 11) (by kernel_rfl) (by kernel_rfl) (by omega) (by kernel_rfl)) fun q119 h120 => ?_
    clear h118
    refine fG 11 42 (.move (.tmp 1)) 9 (3, true) (.string s) (g1 34 (rfl : true = true)) h120 fun q121 h122 => ?_
    clear h120
    refine fG 12 43 (.fieldAddr 100 (.tmp 6) 2) 0 (3, true) (.pointer (some ⟨b39, 2, none⟩)) (g1 34 (rfl : true = true)) h122 fun q123 h124 => ?_
    clear h122
    refine fG 13 44 (.load 3 (.tmp 43)) 3 (3, true) (.int .i64 11) (g1 34 (rfl : true = true)) h124 (hr := fun _ hS => r_loadC (b := b39) (v := .int .i64 11) hS 0 2 (by kernel_rfl) (by kernel_rfl) (by kernel_rfl)) fun q125 h126 => ?_
    clear h124
    refine fG 14 45 (.slice 9 (.tmp 42) (some (.tmp 44)) none none) 9 (3, true) (.string (s.extract 11 s.size)) (g1 34 (rfl : true = true)) h126 (hr := fun _ hS => r_sliceSLo (kd := .i64) (i := 11) (by kernel_rfl) (by kernel_rfl) (by omega) (by kernel_rfl)) fun q127 h128 => ?_
    clear h126
    refine stC (i := 10) (d := 41) (op := Op.call { callee := Callee.value (Operand.tmp 36), args := #[Operand.tmp 40], argTypes := #[9] }) (ty := 9) (g := (some (3, true))) (f := 89) (args := #[.string (s.extract 0 11)]) (w1 := w100) h128 (by kernel_rfl) (by kernel_rfl) (by kernel_rfl) (g1 34 (rfl : true = true)) (by kernel_rfl) (c89 (s.extract 0 11) w100 (by rw [extract_size _ _ (by omega)]; omega) hbody.2) ?_
    rintro _ w131 ⟨rfl, hb132⟩
    have hB133 := hD99.call hb132
    refine ⟨_, rfl, hB133, fun q129 h130 => ?_⟩
    clear h128 hD99 hb132
    refine fG 15 46 (.binOp .neq 9 (.tmp 41) (.tmp 45) 9) 4 (3, true) (.bool ((⟨#[UInt8.ofNat (48 + luhnD (s.extract 0 11).data.toList)]⟩ : ByteArray).toList != (s.extract 11 s.size).toList)) (g1 34 (rfl : true = true)) h130 fun q134 h135 => ?_
    clear h130
    refine fE 16 47 (.pick (.tmp 34) (.tmp 46) (.const (.bool false))) 4 (.bool ((⟨#[UInt8.ofNat (48 + luhnD (s.extract 0 11).data.toList)]⟩ : ByteArray).toList != (s.extract 11 s.size).toList)) h135 fun q136 h137 => ?_
    clear h135
    refine wpO_end ?_
    have h138 := h137.keep [(47, .bool ((⟨#[UInt8.ofNat (48 + luhnD (s.extract 0 11).data.toList)]⟩ : ByteArray).toList != (s.extract 11 s.size).toList)), (6, .pointer (some ⟨b39, 0, none⟩)), (5, .int .i64 0), (4, .int .i64 0)] ⟨rfl, rfl, rfl, rfl, trivial⟩
    clear h137
    refine then_n ?_
    refine c_cond (t := 47) (b := ((⟨#[UInt8.ofNat (48 + luhnD (s.extract 0 11).data.toList)]⟩ : ByteArray).toList != (s.extract 11 s.size).toList)) h138 (by kernel_rfl) (by kernel_rfl) (fun hc139 => ?_) (fun hc139 => ?_)
    ·
      refine c_seq (by kernel_rfl) ?_
      refine reg_plain [(0, false), (1, false), (2, false), (3, false)] (by kernel_rfl) (by kernel_rfl) ?_
      refine eE 0 48 (.fieldAddr 100 (.tmp 6) 2) 0 (.pointer (some ⟨b39, 2, none⟩)) h138 fun q140 h141 => ?_
      clear h138
      refine eE 1 49 (.load 3 (.tmp 48)) 3 (.int .i64 11) h141 (hr := r_loadC (b := b39) (v := .int .i64 11) hB133 0 2 (by kernel_rfl) (by kernel_rfl) (by kernel_rfl)) fun q142 h143 => ?_
      clear h141
      refine eE 2 4 (.assign (.tmp 49)) 3 (.int .i64 11) h143 fun q144 h145 => ?_
      clear h143
      refine eE 3 5 (.assign (.const (.int .i64 18))) 26 (.int .i64 18) h145 fun q146 h147 => ?_
      clear h145
      refine wpO_end ?_
      have h148 := h147.keep [(5, .int .i64 18), (4, .int .i64 11)] ⟨rfl, rfl, trivial⟩
      clear h147
      refine then_n ?_
      refine c_ret (by kernel_rfl) ?_
      refine then_r ?_
      refine ret2 (t := 4) (u := 5) (v := .int .i64 11) (v' := .int .i64 18) h148 (by kernel_rfl) (by kernel_rfl) (by kernel_rfl) ?_
      exact ⟨_, _, rfl, isin_q s true 18 rfl hc89 hc139, (hbl31.trans (hB133.bel.mono hbl31.size))⟩
    ·
      refine c_skip (by kernel_rfl) ?_
      refine then_n ?_
      refine c_seq (by kernel_rfl) ?_
      refine reg_plain [(0, false), (1, false)] (by kernel_rfl) (by kernel_rfl) ?_
      refine eE 0 4 (.assign (.const (.int .i64 0))) 3 (.int .i64 0) h138 fun q149 h150 => ?_
      clear h138
      refine eE 1 5 (.assign (.const (.int .i64 0))) 26 (.int .i64 0) h150 fun q151 h152 => ?_
      clear h150
      refine wpO_end ?_
      have h153 := h152.keep [(5, .int .i64 0), (4, .int .i64 0)] ⟨rfl, rfl, trivial⟩
      clear h152
      refine then_n ?_
      refine c_ret (by kernel_rfl) ?_
      refine ret2 (t := 4) (u := 5) (v := .int .i64 0) (v' := .int .i64 0) h153 (by kernel_rfl) (by kernel_rfl) (by kernel_rfl) ?_
      exact ⟨_, _, rfl, isin_q s false 0 rfl hc89 hc139, (hbl31.trans (hB133.bel.mono hbl31.size))⟩

set_option maxHeartbeats 4000000 in
set_option maxRecDepth 20000 in
theorem c61_1 (s : ByteArray) (w : World) : Calls Tryd.prog 61 #[.int .i64 1, .string s] w (fun e w' => ∃ at' E : Int, e = .returned (.tuple #[.int .i64 at', .int .i64 E]) ∧ (E == 0) = memB s ∧ Below w.heap.size w w') := by
  refine enter Tryd.func61 (by kernel_rfl) ?_ (by kernel_rfl)
  intro q0 h0
  replace h0 := h0.conv (l' := [(0, .int .i64 1), (1, .string s)]) rfl
  have hB := Bx.refl w
  refine c_seq (by kernel_rfl) ?_
  refine reg_plain [(0, false), (1, false)] (by kernel_rfl) (by kernel_rfl) ?_
  refine eE 0 4 (.assign (.const (.int .i64 0))) 3 (.int .i64 0) h0 fun q1 h2 => ?_
  clear h0
  refine eE 1 5 (.assign (.const (.int .i64 0))) 26 (.int .i64 0) h2 fun q3 h4 => ?_
  clear h2
  refine wpO_end ?_
  refine then_n ?_
  refine c_seq (by kernel_rfl) ?_
  refine c_seq (by kernel_rfl) ?_
  refine reg_plain [(0, false), (1, false), (2, false), (3, false), (4, false), (5, false)] (by kernel_rfl) (by kernel_rfl) ?_
  refine eE 0 9 (.move (.tmp 0)) 3 (.int .i64 1) h4 fun q5 h6 => ?_
  clear h4
  refine eE 1 10 (.binOp .lss 3 (.tmp 9) (.const (.int .i64 0)) 3) 4 (.bool false) h6 fun q7 h8 => ?_
  clear h6
  refine eE 2 11 (.move (.tmp 10)) 4 (.bool false) h8 fun q9 h10 => ?_
  clear h8
  refine eG 3 12 (.move (.tmp 0)) 3 (2, false) (.int .i64 1) (g2 11 (rfl : false = false)) h10 fun q11 h12 => ?_
  clear h10
  refine eG 4 13 (.binOp .geq 3 (.tmp 12) (.const (.int .i64 4)) 3) 4 (2, false) (.bool false) (g2 11 (rfl : false = false)) h12 fun q13 h14 => ?_
  clear h12
  refine eE 5 14 (.pick (.tmp 11) (.const (.bool true)) (.tmp 13)) 4 (.bool false) h14 fun q15 h16 => ?_
  clear h14
  refine wpO_end ?_
  have h17 := h16.keep [(14, .bool false), (5, .int .i64 0), (4, .int .i64 0), (0, .int .i64 1), (1, .string s)] ⟨rfl, rfl, rfl, rfl, rfl, trivial⟩
  clear h16
  refine then_n ?_
  refine c_cond (t := 14) (b := false) h17 (by kernel_rfl) (by kernel_rfl) (fun e18 => Bool.noConfusion (e18.symm.trans (rfl))) (fun _ => ?_)
  refine c_skip (by kernel_rfl) ?_
  refine then_n ?_
  refine c_seq (by kernel_rfl) ?_
  refine reg_plain [(0, false), (1, false), (2, false), (3, false), (4, false)] (by kernel_rfl) (by kernel_rfl) ?_
  refine stC (i := 0) (d := 15) (op := Op.call { callee := Callee.value (Operand.func 67), args := #[], argTypes := #[] }) (ty := 101) (g := none) (f := 67) (args := #[]) (w1 := w) h17 (by kernel_rfl) (by kernel_rfl) (by kernel_rfl) gok_none (by kernel_rfl) (c67 w) ?_
  rintro _ w25 ⟨b21, b22, b23, b24, rfl, hr28, hr29, hr30, hb26⟩
  have hB27 := hB.call hb26
  refine ⟨_, rfl, trivial, fun q19 h20 => ?_⟩
  clear h17 hB hb26
  have hbl31 := hB27.bel
  have hB32 := Bx.refl w25
  clear hB27
  refine eE 1 16 (.move (.tmp 0)) 3 (.int .i64 1) h20 fun q33 h34 => ?_
  clear h20
  refine eE 2 17 (.index 101 (.tmp 15) (.tmp 16)) 100 (.agg #[.int .i64 4, .slice (some ⟨b22, 0, none⟩) 2 2, .int .i64 0, .nilFunc]) h34 fun q35 h36 => ?_
  clear h34
  refine stA (i := 3) (d := 6) (op := Op.alloc 100) (ty := 0) (g := none) (mk := fun b => .pointer (some ⟨b, 0, none⟩)) (o := .cells #[.int .i64 0, .slice none 0 0, .int .i64 0, .nilFunc] 100 (0, 0)) h36 (by kernel_rfl) (by kernel_rfl) (by kernel_rfl) gok_none (fun _ => by kernel_rfl) hB32 (fun _ _ hq => trivial) (fun b39 w40 hB41 hN q37 h38 => ?_)
  clear h36 hB32 hN
  refine stWs (i := 4) (ty := 0) (t := 100) (x := Operand.tmp 6) (y := Operand.tmp 17) (g := none) 0 0 (b := b39) (T := 100) (cs := [.int .i64 0, .slice none 0 0, .int .i64 0, .nilFunc]) (vs := [.int .i64 4, .slice (some ⟨b22, 0, none⟩) 2 2, .int .i64 0, .nilFunc]) (cs' := [.int .i64 4, .slice (some ⟨b22, 0, none⟩) 2 2, .int .i64 0, .nilFunc]) h38 (by kernel_rfl) (by kernel_rfl) gok_none hB41 (by kernel_rfl) (by kernel_rfl) (by kernel_rfl) (by kernel_rfl) (by kernel_rfl) (by kernel_rfl) (by kernel_rfl) (.inr fun _ _ => trivial) (fun w44 hB45 hT q42 h43 => ?_)
  replace hB45 : Bx w25 [(b39, .cells #[.int .i64 4, .slice (some ⟨b22, 0, none⟩) 2 2, .int .i64 0, .nilFunc] 100 (0, 0))] w44 := hB45
  clear h38 hB41
  clear hT
  refine wpO_end ?_
  have h46 := h43.keep [(6, .pointer (some ⟨b39, 0, none⟩)), (5, .int .i64 0), (4, .int .i64 0), (1, .string s)] ⟨rfl, rfl, rfl, rfl, trivial⟩
  clear h43
  refine then_n ?_
  refine c_seq (by kernel_rfl) ?_
  refine c_seq (by kernel_rfl) ?_
  have hD47 := hB45.drew
  refine reg_draw (S := Bx w25 [(b39, .cells #[.int .i64 4, .slice (some ⟨b22, 0, none⟩) 2 2, .int .i64 0, .nilFunc] 100 (0, 0))]) 11 [⟨0, true, 0, 64, 524288⟩, ⟨2, true, 0, 64, 2097152⟩, ⟨3, true, 4, 2097152, 4194304⟩, ⟨4, true, 0, 2, 8388608⟩, ⟨1, false, 1, 524288, 1048576⟩, ⟨5, false, 26, 13631488, 16777216⟩, ⟨6, true, 32, 16777216, 262144⟩, ⟨7, true, 64, 262144, 33554432⟩, ⟨8, true, 64, 262144, 67108864⟩, ⟨9, true, 255, 33554432, 128⟩, ⟨10, true, 1023, 67108864, 256⟩] [(0, true), (2, true), (3, true), (4, true), (1, false), (5, false), (6, true), (7, true), (8, true), (9, true), (10, true)] (by kernel_rfl) (by kernel_rfl) (by kernel_rfl) (by kernel_rfl) (fun _ _ _ _ h => absurd h.2 (by simp)) hD47 ?_
  generalize World.drew w44 = w48 at hD47 ⊢
  refine fE 0 19 (.load 100 (.tmp 6)) 100 (.agg #[.int .i64 4, .slice (some ⟨b22, 0, none⟩) 2 2, .int .i64 0, .nilFunc]) h46 (hr := fun _ hS => r_loadS (b := b39) (vs := [.int .i64 4, .slice (some ⟨b22, 0, none⟩) 2 2, .int .i64 0, .nilFunc]) hS 0 0 (by kernel_rfl) (by kernel_rfl) (by kernel_rfl)) fun q49 h50 => ?_
  clear h46
  refine fE 2 21 (.fieldAddr 100 (.tmp 6) 0) 0 (.pointer (some ⟨b39, 0, none⟩)) h50 fun q51 h52 => ?_
  clear h50
  refine fE 3 22 (.load 3 (.tmp 21)) 3 (.int .i64 4) h52 (hr := fun _ hS => r_loadC (b := b39) (v := .int .i64 4) hS 0 0 (by kernel_rfl) (by kernel_rfl) (by kernel_rfl)) fun q53 h54 => ?_
  clear h52
  refine fE 4 23 (.move (.tmp 1)) 9 (.string s) h54 fun q55 h56 => ?_
  clear h54
  refine stC (i := 1) (d := 20) (op := Op.call { callee := Callee.value (Operand.func 69), args := #[Operand.tmp 19], argTypes := #[100] }) (ty := 104) (g := none) (f := 69) (args := #[.agg #[.int .i64 4, .slice (some ⟨b22, 0, none⟩) 2 2, .int .i64 0, .nilFunc]]) (w1 := w48) h56 (by kernel_rfl) (by kernel_rfl) (by kernel_rfl) gok_none (by kernel_rfl) (c69 4 0 .nilFunc sp1 (some ⟨b22, 0, none⟩) 2 w48 (by decide) (by decide) (hr29.below hD47.bel)) ?_
  rintro _ w61 ⟨v66, rfl, ho64, hb62⟩
  obtain ⟨A59, c60, rfl, -, hr65⟩ := own_rd ho64
  have hB63 := hD47.call hb62
  refine ⟨_, rfl, hB63, fun q57 h58 => ?_⟩
  clear h56 hD47 hb62
  refine stC (i := 5) (d := 24) (op := Op.call { callee := Callee.value (Operand.func 68), args := #[Operand.tmp 20, Operand.tmp 22, Operand.tmp 23], argTypes := #[104, 3, 9] }) (ty := 89) (g := none) (f := 68) (args := #[.slice A59 ((clsOf sp1).length) c60, .int .i64 4, .string s]) (w1 := w61) h58 (by kernel_rfl) (by kernel_rfl) (by kernel_rfl) gok_none (by kernel_rfl) (c68 (clsOf sp1) A59 c60 4 s w61 (by decide) cls_ok1 hr65) ?_
  rintro _ w70 ⟨at'69, rfl, hb71⟩
  have hB72 := hB63.call hb71
  refine ⟨_, rfl, hB72, fun q67 h68 => ?_⟩
  clear h58 hB63 hb71
  refine fE 6 18 (.move (.tmp 24)) 89 (.tuple #[.int .i64 at'69, .int .i64 (pfxE (clsOf sp1) 4 s)]) h68 fun q73 h74 => ?_
  clear h68
  refine fE 7 25 (.extract (.tmp 18) 0) 3 (.int .i64 at'69) h74 fun q75 h76 => ?_
  clear h74
  refine fE 8 26 (.extract (.tmp 18) 1) 26 (.int .i64 (pfxE (clsOf sp1) 4 s)) h76 fun q77 h78 => ?_
  clear h76
  refine fE 9 7 (.assign (.tmp 25)) 3 (.int .i64 at'69) h78 fun q79 h80 => ?_
  clear h78
  refine fE 10 8 (.assign (.tmp 26)) 26 (.int .i64 (pfxE (clsOf sp1) 4 s)) h80 fun q81 h82 => ?_
  clear h80
  refine wpO_end ?_
  have h83 := h82.keep [(8, .int .i64 (pfxE (clsOf sp1) 4 s)), (7, .int .i64 at'69), (6, .pointer (some ⟨b39, 0, none⟩)), (5, .int .i64 0), (4, .int .i64 0), (1, .string s)] ⟨rfl, rfl, rfl, rfl, rfl, rfl, trivial⟩
  clear h82
  refine then_n ?_
  refine c_seq (by kernel_rfl) ?_
  refine reg_plain [(0, false), (1, false)] (by kernel_rfl) (by kernel_rfl) ?_
  refine eE 0 27 (.move (.tmp 8)) 26 (.int .i64 (pfxE (clsOf sp1) 4 s)) h83 fun q84 h85 => ?_
  clear h83
  refine eE 1 28 (.binOp .neq 26 (.tmp 27) (.const (.int .i64 0)) 26) 4 (.bool (pfxE (clsOf sp1) 4 s != (0 : Int))) h85 fun q86 h87 => ?_
  clear h85
  refine wpO_end ?_
  have h88 := h87.keep [(28, .bool (pfxE (clsOf sp1) 4 s != (0 : Int))), (8, .int .i64 (pfxE (clsOf sp1) 4 s)), (7, .int .i64 at'69), (6, .pointer (some ⟨b39, 0, none⟩)), (5, .int .i64 0), (4, .int .i64 0), (1, .string s)] ⟨rfl, rfl, rfl, rfl, rfl, rfl, rfl, trivial⟩
  clear h87
  refine then_n ?_
  refine c_cond (t := 28) (b := (pfxE (clsOf sp1) 4 s != (0 : Int))) h88 (by kernel_rfl) (by kernel_rfl) (fun hc89 => ?_) (fun hc89 => ?_)
  ·
    refine c_seq (by kernel_rfl) ?_
    refine reg_plain [(0, false), (1, false), (2, false), (3, false)] (by kernel_rfl) (by kernel_rfl) ?_
    refine eE 0 29 (.move (.tmp 7)) 3 (.int .i64 at'69) h88 fun q90 h91 => ?_
    clear h88
    refine eE 1 30 (.move (.tmp 8)) 26 (.int .i64 (pfxE (clsOf sp1) 4 s)) h91 fun q92 h93 => ?_
    clear h91
    refine eE 2 4 (.assign (.tmp 29)) 3 (.int .i64 at'69) h93 fun q94 h95 => ?_
    clear h93
    refine eE 3 5 (.assign (.tmp 30)) 26 (.int .i64 (pfxE (clsOf sp1) 4 s)) h95 fun q96 h97 => ?_
    clear h95
    refine wpO_end ?_
    have h98 := h97.keep [(5, .int .i64 (pfxE (clsOf sp1) 4 s)), (4, .int .i64 at'69), (6, .pointer (some ⟨b39, 0, none⟩)), (1, .string s)] ⟨rfl, rfl, rfl, rfl, trivial⟩
    clear h97
    refine then_n ?_
    refine c_ret (by kernel_rfl) ?_
    refine then_r ?_
    refine ret2 (t := 4) (u := 5) (v := .int .i64 at'69) (v' := .int .i64 (pfxE (clsOf sp1) 4 s)) h98 (by kernel_rfl) (by kernel_rfl) (by kernel_rfl) ?_
    exact ⟨_, _, rfl, rfl, (hbl31.trans (hB72.bel.mono hbl31.size))⟩
  ·
    refine c_skip (by kernel_rfl) ?_
    refine then_n ?_
    refine c_seq (by kernel_rfl) ?_
    refine c_seq (by kernel_rfl) ?_
    have hD99 := hB72.drew
    refine reg_draw (S := Bx w25 [(b39, .cells #[.int .i64 4, .slice (some ⟨b22, 0, none⟩) 2 2, .int .i64 0, .nilFunc] 100 (0, 0))]) 17 [⟨0, true, 0, 64, 2147483648⟩, ⟨1, true, 1, 2147483648, 4294967296⟩, ⟨2, true, 2, 4294967296, 8589934592⟩, ⟨3, true, 4, 8589934592, 17179869184⟩, ⟨4, true, 8, 17179869248, 34359738368⟩, ⟨5, true, 24, 51539607552, 68719476736⟩, ⟨6, true, 8, 17179869186, 137438953472⟩, ⟨7, true, 8, 17179869248, 274877906944⟩, ⟨8, true, 136, 292057776128, 549755813888⟩, ⟨9, true, 328, 704374636544, 1099511627776⟩, ⟨11, true, 8, 17179869186, 4398046511104⟩, ⟨12, true, 8, 17179869248, 8796093022208⟩, ⟨13, true, 4104, 8813272891392, 17592186044416⟩, ⟨14, true, 10248, 22007412424704, 35184372088832⟩, ⟨10, false, 552, 1185410973696, 2199023255552⟩, ⟨15, true, 17416, 37400575213568, 70368744177664⟩, ⟨16, true, 32776, 70385924046848, 140737488355328⟩] [(0, true), (1, true), (2, true), (3, true), (4, true), (5, true), (6, true), (7, true), (8, true), (9, true), (11, true), (12, true), (13, true), (14, true), (10, false), (15, true), (16, true)] (by kernel_rfl) (by kernel_rfl) (by kernel_rfl) (by kernel_rfl) (fun _ _ _ _ h => absurd h.2 (by simp)) hD99 ?_
    generalize World.drew w70 = w100 at hD99 ⊢
    refine fE 0 31 (.fieldAddr 100 (.tmp 6) 3) 0 (.pointer (some ⟨b39, 3, none⟩)) h88 fun q101 h102 => ?_
    clear h88
    refine fE 1 32 (.load 98 (.tmp 31)) 98 .nilFunc h102 (hr := fun _ hS => r_loadC (b := b39) (v := .nilFunc) hS 0 3 (by kernel_rfl) (by kernel_rfl) (by kernel_rfl)) fun q103 h104 => ?_
    clear h102
    refine fE 2 33 (.binOp .neq 98 (.tmp 32) (.const .nilFunc) 98) 4 (.bool false) h104 fun q105 h106 => ?_
    clear h104
    refine fE 3 34 (.move (.tmp 33)) 4 (.bool false) h106 fun q107 h108 => ?_
    clear h106
    refine kF 4 35 (3, true) (g3 34 (rfl : false = false)) h108 fun q109 h110 => ?_
    clear h108
    refine kF 5 36 (3, true) (g3 34 (rfl : false = false)) h110 fun q111 h112 => ?_
    clear h110
    refine kF 6 37 (3, true) (g3 34 (rfl : false = false)) h112 fun q113 h114 => ?_
    clear h112
    refine kF 7 38 (3, true) (g3 34 (rfl : false = false)) h114 fun q115 h116 => ?_
    clear h114
    refine kF 8 39 (3, true) (g3 34 (rfl : false = false)) h116 fun q117 h118 => ?_
    clear h116
    refine kF 9 40 (3, true) (g3 34 (rfl : false = false)) h118 fun q119 h120 => ?_
    clear h118
    refine kF 11 42 (3, true) (g3 34 (rfl : false = false)) h120 fun q121 h122 => ?_
    clear h120
    refine kF 12 43 (3, true) (g3 34 (rfl : false = false)) h122 fun q123 h124 => ?_
    clear h122
    refine kF 13 44 (3, true) (g3 34 (rfl : false = false)) h124 fun q125 h126 => ?_
    clear h124
    refine kF 14 45 (3, true) (g3 34 (rfl : false = false)) h126 fun q127 h128 => ?_
    clear h126
    refine kE 10 41 (3, true) (g3 34 (rfl : false = false)) h128 hD99 fun q129 h130 => ?_
    clear h128
    refine kF 15 46 (3, true) (g3 34 (rfl : false = false)) h130 fun q131 h132 => ?_
    clear h130
    refine fE 16 47 (.pick (.tmp 34) (.tmp 46) (.const (.bool false))) 4 (.bool false) h132 fun q133 h134 => ?_
    clear h132
    refine wpO_end ?_
    have h135 := h134.keep [(47, .bool false), (6, .pointer (some ⟨b39, 0, none⟩)), (5, .int .i64 0), (4, .int .i64 0)] ⟨rfl, rfl, rfl, rfl, trivial⟩
    clear h134
    refine then_n ?_
    refine c_cond (t := 47) (b := false) h135 (by kernel_rfl) (by kernel_rfl) (fun e136 => Bool.noConfusion (e136.symm.trans (rfl))) (fun _ => ?_)
    refine c_skip (by kernel_rfl) ?_
    refine then_n ?_
    refine c_seq (by kernel_rfl) ?_
    refine reg_plain [(0, false), (1, false)] (by kernel_rfl) (by kernel_rfl) ?_
    refine eE 0 4 (.assign (.const (.int .i64 0))) 3 (.int .i64 0) h135 fun q137 h138 => ?_
    clear h135
    refine eE 1 5 (.assign (.const (.int .i64 0))) 26 (.int .i64 0) h138 fun q139 h140 => ?_
    clear h138
    refine wpO_end ?_
    have h141 := h140.keep [(5, .int .i64 0), (4, .int .i64 0)] ⟨rfl, rfl, trivial⟩
    clear h140
    refine then_n ?_
    refine c_ret (by kernel_rfl) ?_
    refine ret2 (t := 4) (u := 5) (v := .int .i64 0) (v' := .int .i64 0) h141 (by kernel_rfl) (by kernel_rfl) (by kernel_rfl) ?_
    exact ⟨_, _, rfl, none_p _ hc89, (hbl31.trans (hD99.bel.mono hbl31.size))⟩

set_option maxHeartbeats 4000000 in
set_option maxRecDepth 20000 in
theorem c61_2 (s : ByteArray) (w : World) : Calls Tryd.prog 61 #[.int .i64 2, .string s] w (fun e w' => ∃ at' E : Int, e = .returned (.tuple #[.int .i64 at', .int .i64 E]) ∧ (E == 0) = rfB s ∧ Below w.heap.size w w') := by
  refine enter Tryd.func61 (by kernel_rfl) ?_ (by kernel_rfl)
  intro q0 h0
  replace h0 := h0.conv (l' := [(0, .int .i64 2), (1, .string s)]) rfl
  have hB := Bx.refl w
  refine c_seq (by kernel_rfl) ?_
  refine reg_plain [(0, false), (1, false)] (by kernel_rfl) (by kernel_rfl) ?_
  refine eE 0 4 (.assign (.const (.int .i64 0))) 3 (.int .i64 0) h0 fun q1 h2 => ?_
  clear h0
  refine eE 1 5 (.assign (.const (.int .i64 0))) 26 (.int .i64 0) h2 fun q3 h4 => ?_
  clear h2
  refine wpO_end ?_
  refine then_n ?_
  refine c_seq (by kernel_rfl) ?_
  refine c_seq (by kernel_rfl) ?_
  refine reg_plain [(0, false), (1, false), (2, false), (3, false), (4, false), (5, false)] (by kernel_rfl) (by kernel_rfl) ?_
  refine eE 0 9 (.move (.tmp 0)) 3 (.int .i64 2) h4 fun q5 h6 => ?_
  clear h4
  refine eE 1 10 (.binOp .lss 3 (.tmp 9) (.const (.int .i64 0)) 3) 4 (.bool false) h6 fun q7 h8 => ?_
  clear h6
  refine eE 2 11 (.move (.tmp 10)) 4 (.bool false) h8 fun q9 h10 => ?_
  clear h8
  refine eG 3 12 (.move (.tmp 0)) 3 (2, false) (.int .i64 2) (g2 11 (rfl : false = false)) h10 fun q11 h12 => ?_
  clear h10
  refine eG 4 13 (.binOp .geq 3 (.tmp 12) (.const (.int .i64 4)) 3) 4 (2, false) (.bool false) (g2 11 (rfl : false = false)) h12 fun q13 h14 => ?_
  clear h12
  refine eE 5 14 (.pick (.tmp 11) (.const (.bool true)) (.tmp 13)) 4 (.bool false) h14 fun q15 h16 => ?_
  clear h14
  refine wpO_end ?_
  have h17 := h16.keep [(14, .bool false), (5, .int .i64 0), (4, .int .i64 0), (0, .int .i64 2), (1, .string s)] ⟨rfl, rfl, rfl, rfl, rfl, trivial⟩
  clear h16
  refine then_n ?_
  refine c_cond (t := 14) (b := false) h17 (by kernel_rfl) (by kernel_rfl) (fun e18 => Bool.noConfusion (e18.symm.trans (rfl))) (fun _ => ?_)
  refine c_skip (by kernel_rfl) ?_
  refine then_n ?_
  refine c_seq (by kernel_rfl) ?_
  refine reg_plain [(0, false), (1, false), (2, false), (3, false), (4, false)] (by kernel_rfl) (by kernel_rfl) ?_
  refine stC (i := 0) (d := 15) (op := Op.call { callee := Callee.value (Operand.func 67), args := #[], argTypes := #[] }) (ty := 101) (g := none) (f := 67) (args := #[]) (w1 := w) h17 (by kernel_rfl) (by kernel_rfl) (by kernel_rfl) gok_none (by kernel_rfl) (c67 w) ?_
  rintro _ w25 ⟨b21, b22, b23, b24, rfl, hr28, hr29, hr30, hb26⟩
  have hB27 := hB.call hb26
  refine ⟨_, rfl, trivial, fun q19 h20 => ?_⟩
  clear h17 hB hb26
  have hbl31 := hB27.bel
  have hB32 := Bx.refl w25
  clear hB27
  refine eE 1 16 (.move (.tmp 0)) 3 (.int .i64 2) h20 fun q33 h34 => ?_
  clear h20
  refine eE 2 17 (.index 101 (.tmp 15) (.tmp 16)) 100 (.agg #[.int .i64 1, .slice (some ⟨b23, 0, none⟩) 1 1, .int .i64 0, .nilFunc]) h34 fun q35 h36 => ?_
  clear h34
  refine stA (i := 3) (d := 6) (op := Op.alloc 100) (ty := 0) (g := none) (mk := fun b => .pointer (some ⟨b, 0, none⟩)) (o := .cells #[.int .i64 0, .slice none 0 0, .int .i64 0, .nilFunc] 100 (0, 0)) h36 (by kernel_rfl) (by kernel_rfl) (by kernel_rfl) gok_none (fun _ => by kernel_rfl) hB32 (fun _ _ hq => trivial) (fun b39 w40 hB41 hN q37 h38 => ?_)
  clear h36 hB32 hN
  refine stWs (i := 4) (ty := 0) (t := 100) (x := Operand.tmp 6) (y := Operand.tmp 17) (g := none) 0 0 (b := b39) (T := 100) (cs := [.int .i64 0, .slice none 0 0, .int .i64 0, .nilFunc]) (vs := [.int .i64 1, .slice (some ⟨b23, 0, none⟩) 1 1, .int .i64 0, .nilFunc]) (cs' := [.int .i64 1, .slice (some ⟨b23, 0, none⟩) 1 1, .int .i64 0, .nilFunc]) h38 (by kernel_rfl) (by kernel_rfl) gok_none hB41 (by kernel_rfl) (by kernel_rfl) (by kernel_rfl) (by kernel_rfl) (by kernel_rfl) (by kernel_rfl) (by kernel_rfl) (.inr fun _ _ => trivial) (fun w44 hB45 hT q42 h43 => ?_)
  replace hB45 : Bx w25 [(b39, .cells #[.int .i64 1, .slice (some ⟨b23, 0, none⟩) 1 1, .int .i64 0, .nilFunc] 100 (0, 0))] w44 := hB45
  clear h38 hB41
  clear hT
  refine wpO_end ?_
  have h46 := h43.keep [(6, .pointer (some ⟨b39, 0, none⟩)), (5, .int .i64 0), (4, .int .i64 0), (1, .string s)] ⟨rfl, rfl, rfl, rfl, trivial⟩
  clear h43
  refine then_n ?_
  refine c_seq (by kernel_rfl) ?_
  refine c_seq (by kernel_rfl) ?_
  have hD47 := hB45.drew
  refine reg_draw (S := Bx w25 [(b39, .cells #[.int .i64 1, .slice (some ⟨b23, 0, none⟩) 1 1, .int .i64 0, .nilFunc] 100 (0, 0))]) 11 [⟨0, true, 0, 64, 524288⟩, ⟨2, true, 0, 64, 2097152⟩, ⟨3, true, 4, 2097152, 4194304⟩, ⟨4, true, 0, 2, 8388608⟩, ⟨1, false, 1, 524288, 1048576⟩, ⟨5, false, 26, 13631488, 16777216⟩, ⟨6, true, 32, 16777216, 262144⟩, ⟨7, true, 64, 262144, 33554432⟩, ⟨8, true, 64, 262144, 67108864⟩, ⟨9, true, 255, 33554432, 128⟩, ⟨10, true, 1023, 67108864, 256⟩] [(0, true), (2, true), (3, true), (4, true), (1, false), (5, false), (6, true), (7, true), (8, true), (9, true), (10, true)] (by kernel_rfl) (by kernel_rfl) (by kernel_rfl) (by kernel_rfl) (fun _ _ _ _ h => absurd h.2 (by simp)) hD47 ?_
  generalize World.drew w44 = w48 at hD47 ⊢
  refine fE 0 19 (.load 100 (.tmp 6)) 100 (.agg #[.int .i64 1, .slice (some ⟨b23, 0, none⟩) 1 1, .int .i64 0, .nilFunc]) h46 (hr := fun _ hS => r_loadS (b := b39) (vs := [.int .i64 1, .slice (some ⟨b23, 0, none⟩) 1 1, .int .i64 0, .nilFunc]) hS 0 0 (by kernel_rfl) (by kernel_rfl) (by kernel_rfl)) fun q49 h50 => ?_
  clear h46
  refine fE 2 21 (.fieldAddr 100 (.tmp 6) 0) 0 (.pointer (some ⟨b39, 0, none⟩)) h50 fun q51 h52 => ?_
  clear h50
  refine fE 3 22 (.load 3 (.tmp 21)) 3 (.int .i64 1) h52 (hr := fun _ hS => r_loadC (b := b39) (v := .int .i64 1) hS 0 0 (by kernel_rfl) (by kernel_rfl) (by kernel_rfl)) fun q53 h54 => ?_
  clear h52
  refine fE 4 23 (.move (.tmp 1)) 9 (.string s) h54 fun q55 h56 => ?_
  clear h54
  refine stC (i := 1) (d := 20) (op := Op.call { callee := Callee.value (Operand.func 69), args := #[Operand.tmp 19], argTypes := #[100] }) (ty := 104) (g := none) (f := 69) (args := #[.agg #[.int .i64 1, .slice (some ⟨b23, 0, none⟩) 1 1, .int .i64 0, .nilFunc]]) (w1 := w48) h56 (by kernel_rfl) (by kernel_rfl) (by kernel_rfl) gok_none (by kernel_rfl) (c69 1 0 .nilFunc sp2 (some ⟨b23, 0, none⟩) 1 w48 (by decide) (by decide) (hr30.below hD47.bel)) ?_
  rintro _ w61 ⟨v66, rfl, ho64, hb62⟩
  obtain ⟨A59, c60, rfl, -, hr65⟩ := own_rd ho64
  have hB63 := hD47.call hb62
  refine ⟨_, rfl, hB63, fun q57 h58 => ?_⟩
  clear h56 hD47 hb62
  refine stC (i := 5) (d := 24) (op := Op.call { callee := Callee.value (Operand.func 68), args := #[Operand.tmp 20, Operand.tmp 22, Operand.tmp 23], argTypes := #[104, 3, 9] }) (ty := 89) (g := none) (f := 68) (args := #[.slice A59 ((clsOf sp2).length) c60, .int .i64 1, .string s]) (w1 := w61) h58 (by kernel_rfl) (by kernel_rfl) (by kernel_rfl) gok_none (by kernel_rfl) (c68 (clsOf sp2) A59 c60 1 s w61 (by decide) cls_ok2 hr65) ?_
  rintro _ w70 ⟨at'69, rfl, hb71⟩
  have hB72 := hB63.call hb71
  refine ⟨_, rfl, hB72, fun q67 h68 => ?_⟩
  clear h58 hB63 hb71
  refine fE 6 18 (.move (.tmp 24)) 89 (.tuple #[.int .i64 at'69, .int .i64 (pfxE (clsOf sp2) 1 s)]) h68 fun q73 h74 => ?_
  clear h68
  refine fE 7 25 (.extract (.tmp 18) 0) 3 (.int .i64 at'69) h74 fun q75 h76 => ?_
  clear h74
  refine fE 8 26 (.extract (.tmp 18) 1) 26 (.int .i64 (pfxE (clsOf sp2) 1 s)) h76 fun q77 h78 => ?_
  clear h76
  refine fE 9 7 (.assign (.tmp 25)) 3 (.int .i64 at'69) h78 fun q79 h80 => ?_
  clear h78
  refine fE 10 8 (.assign (.tmp 26)) 26 (.int .i64 (pfxE (clsOf sp2) 1 s)) h80 fun q81 h82 => ?_
  clear h80
  refine wpO_end ?_
  have h83 := h82.keep [(8, .int .i64 (pfxE (clsOf sp2) 1 s)), (7, .int .i64 at'69), (6, .pointer (some ⟨b39, 0, none⟩)), (5, .int .i64 0), (4, .int .i64 0), (1, .string s)] ⟨rfl, rfl, rfl, rfl, rfl, rfl, trivial⟩
  clear h82
  refine then_n ?_
  refine c_seq (by kernel_rfl) ?_
  refine reg_plain [(0, false), (1, false)] (by kernel_rfl) (by kernel_rfl) ?_
  refine eE 0 27 (.move (.tmp 8)) 26 (.int .i64 (pfxE (clsOf sp2) 1 s)) h83 fun q84 h85 => ?_
  clear h83
  refine eE 1 28 (.binOp .neq 26 (.tmp 27) (.const (.int .i64 0)) 26) 4 (.bool (pfxE (clsOf sp2) 1 s != (0 : Int))) h85 fun q86 h87 => ?_
  clear h85
  refine wpO_end ?_
  have h88 := h87.keep [(28, .bool (pfxE (clsOf sp2) 1 s != (0 : Int))), (8, .int .i64 (pfxE (clsOf sp2) 1 s)), (7, .int .i64 at'69), (6, .pointer (some ⟨b39, 0, none⟩)), (5, .int .i64 0), (4, .int .i64 0), (1, .string s)] ⟨rfl, rfl, rfl, rfl, rfl, rfl, rfl, trivial⟩
  clear h87
  refine then_n ?_
  refine c_cond (t := 28) (b := (pfxE (clsOf sp2) 1 s != (0 : Int))) h88 (by kernel_rfl) (by kernel_rfl) (fun hc89 => ?_) (fun hc89 => ?_)
  ·
    refine c_seq (by kernel_rfl) ?_
    refine reg_plain [(0, false), (1, false), (2, false), (3, false)] (by kernel_rfl) (by kernel_rfl) ?_
    refine eE 0 29 (.move (.tmp 7)) 3 (.int .i64 at'69) h88 fun q90 h91 => ?_
    clear h88
    refine eE 1 30 (.move (.tmp 8)) 26 (.int .i64 (pfxE (clsOf sp2) 1 s)) h91 fun q92 h93 => ?_
    clear h91
    refine eE 2 4 (.assign (.tmp 29)) 3 (.int .i64 at'69) h93 fun q94 h95 => ?_
    clear h93
    refine eE 3 5 (.assign (.tmp 30)) 26 (.int .i64 (pfxE (clsOf sp2) 1 s)) h95 fun q96 h97 => ?_
    clear h95
    refine wpO_end ?_
    have h98 := h97.keep [(5, .int .i64 (pfxE (clsOf sp2) 1 s)), (4, .int .i64 at'69), (6, .pointer (some ⟨b39, 0, none⟩)), (1, .string s)] ⟨rfl, rfl, rfl, rfl, trivial⟩
    clear h97
    refine then_n ?_
    refine c_ret (by kernel_rfl) ?_
    refine then_r ?_
    refine ret2 (t := 4) (u := 5) (v := .int .i64 at'69) (v' := .int .i64 (pfxE (clsOf sp2) 1 s)) h98 (by kernel_rfl) (by kernel_rfl) (by kernel_rfl) ?_
    exact ⟨_, _, rfl, rfl, (hbl31.trans (hB72.bel.mono hbl31.size))⟩
  ·
    refine c_skip (by kernel_rfl) ?_
    refine then_n ?_
    refine c_seq (by kernel_rfl) ?_
    refine c_seq (by kernel_rfl) ?_
    have hD99 := hB72.drew
    refine reg_draw (S := Bx w25 [(b39, .cells #[.int .i64 1, .slice (some ⟨b23, 0, none⟩) 1 1, .int .i64 0, .nilFunc] 100 (0, 0))]) 17 [⟨0, true, 0, 64, 2147483648⟩, ⟨1, true, 1, 2147483648, 4294967296⟩, ⟨2, true, 2, 4294967296, 8589934592⟩, ⟨3, true, 4, 8589934592, 17179869184⟩, ⟨4, true, 8, 17179869248, 34359738368⟩, ⟨5, true, 24, 51539607552, 68719476736⟩, ⟨6, true, 8, 17179869186, 137438953472⟩, ⟨7, true, 8, 17179869248, 274877906944⟩, ⟨8, true, 136, 292057776128, 549755813888⟩, ⟨9, true, 328, 704374636544, 1099511627776⟩, ⟨11, true, 8, 17179869186, 4398046511104⟩, ⟨12, true, 8, 17179869248, 8796093022208⟩, ⟨13, true, 4104, 8813272891392, 17592186044416⟩, ⟨14, true, 10248, 22007412424704, 35184372088832⟩, ⟨10, false, 552, 1185410973696, 2199023255552⟩, ⟨15, true, 17416, 37400575213568, 70368744177664⟩, ⟨16, true, 32776, 70385924046848, 140737488355328⟩] [(0, true), (1, true), (2, true), (3, true), (4, true), (5, true), (6, true), (7, true), (8, true), (9, true), (11, true), (12, true), (13, true), (14, true), (10, false), (15, true), (16, true)] (by kernel_rfl) (by kernel_rfl) (by kernel_rfl) (by kernel_rfl) (fun _ _ _ _ h => absurd h.2 (by simp)) hD99 ?_
    generalize World.drew w70 = w100 at hD99 ⊢
    refine fE 0 31 (.fieldAddr 100 (.tmp 6) 3) 0 (.pointer (some ⟨b39, 3, none⟩)) h88 fun q101 h102 => ?_
    clear h88
    refine fE 1 32 (.load 98 (.tmp 31)) 98 .nilFunc h102 (hr := fun _ hS => r_loadC (b := b39) (v := .nilFunc) hS 0 3 (by kernel_rfl) (by kernel_rfl) (by kernel_rfl)) fun q103 h104 => ?_
    clear h102
    refine fE 2 33 (.binOp .neq 98 (.tmp 32) (.const .nilFunc) 98) 4 (.bool false) h104 fun q105 h106 => ?_
    clear h104
    refine fE 3 34 (.move (.tmp 33)) 4 (.bool false) h106 fun q107 h108 => ?_
    clear h106
    refine kF 4 35 (3, true) (g3 34 (rfl : false = false)) h108 fun q109 h110 => ?_
    clear h108
    refine kF 5 36 (3, true) (g3 34 (rfl : false = false)) h110 fun q111 h112 => ?_
    clear h110
    refine kF 6 37 (3, true) (g3 34 (rfl : false = false)) h112 fun q113 h114 => ?_
    clear h112
    refine kF 7 38 (3, true) (g3 34 (rfl : false = false)) h114 fun q115 h116 => ?_
    clear h114
    refine kF 8 39 (3, true) (g3 34 (rfl : false = false)) h116 fun q117 h118 => ?_
    clear h116
    refine kF 9 40 (3, true) (g3 34 (rfl : false = false)) h118 fun q119 h120 => ?_
    clear h118
    refine kF 11 42 (3, true) (g3 34 (rfl : false = false)) h120 fun q121 h122 => ?_
    clear h120
    refine kF 12 43 (3, true) (g3 34 (rfl : false = false)) h122 fun q123 h124 => ?_
    clear h122
    refine kF 13 44 (3, true) (g3 34 (rfl : false = false)) h124 fun q125 h126 => ?_
    clear h124
    refine kF 14 45 (3, true) (g3 34 (rfl : false = false)) h126 fun q127 h128 => ?_
    clear h126
    refine kE 10 41 (3, true) (g3 34 (rfl : false = false)) h128 hD99 fun q129 h130 => ?_
    clear h128
    refine kF 15 46 (3, true) (g3 34 (rfl : false = false)) h130 fun q131 h132 => ?_
    clear h130
    refine fE 16 47 (.pick (.tmp 34) (.tmp 46) (.const (.bool false))) 4 (.bool false) h132 fun q133 h134 => ?_
    clear h132
    refine wpO_end ?_
    have h135 := h134.keep [(47, .bool false), (6, .pointer (some ⟨b39, 0, none⟩)), (5, .int .i64 0), (4, .int .i64 0)] ⟨rfl, rfl, rfl, rfl, trivial⟩
    clear h134
    refine then_n ?_
    refine c_cond (t := 47) (b := false) h135 (by kernel_rfl) (by kernel_rfl) (fun e136 => Bool.noConfusion (e136.symm.trans (rfl))) (fun _ => ?_)
    refine c_skip (by kernel_rfl) ?_
    refine then_n ?_
    refine c_seq (by kernel_rfl) ?_
    refine reg_plain [(0, false), (1, false)] (by kernel_rfl) (by kernel_rfl) ?_
    refine eE 0 4 (.assign (.const (.int .i64 0))) 3 (.int .i64 0) h135 fun q137 h138 => ?_
    clear h135
    refine eE 1 5 (.assign (.const (.int .i64 0))) 26 (.int .i64 0) h138 fun q139 h140 => ?_
    clear h138
    refine wpO_end ?_
    have h141 := h140.keep [(5, .int .i64 0), (4, .int .i64 0)] ⟨rfl, rfl, trivial⟩
    clear h140
    refine then_n ?_
    refine c_ret (by kernel_rfl) ?_
    refine ret2 (t := 4) (u := 5) (v := .int .i64 0) (v' := .int .i64 0) h141 (by kernel_rfl) (by kernel_rfl) (by kernel_rfl) ?_
    exact ⟨_, _, rfl, none_p _ hc89, (hbl31.trans (hD99.bel.mono hbl31.size))⟩

set_option maxHeartbeats 4000000 in
set_option maxRecDepth 20000 in
theorem c41_0 (s : ByteArray) (w : World) : Calls Tryd.prog 41 #[.int .i64 0, .string s] w fun e w' => e = .returned (.bool (isinB s)) ∧ Below w.heap.size w w' := by
  refine enter Tryd.func41 (by kernel_rfl) ?_ (by kernel_rfl)
  intro q0 h0
  replace h0 := h0.conv (l' := [(0, .int .i64 0), (1, .string s)]) rfl
  have hB := Bx.refl w
  refine c_seq (by kernel_rfl) ?_
  refine reg_plain [(0, false)] (by kernel_rfl) (by kernel_rfl) ?_
  refine eE 0 4 (.assign (.const (.bool false))) 4 (.bool false) h0 fun q1 h2 => ?_
  clear h0
  refine wpO_end ?_
  refine then_n ?_
  refine c_seq (by kernel_rfl) ?_
  refine reg_plain [(0, false), (1, false), (2, false), (3, false), (4, false), (5, false), (6, false), (7, false)] (by kernel_rfl) (by kernel_rfl) ?_
  refine eE 0 8 (.move (.tmp 0)) 3 (.int .i64 0) h2 fun q3 h4 => ?_
  clear h2
  refine eE 1 9 (.move (.tmp 1)) 9 (.string s) h4 fun q5 h6 => ?_
  clear h4
  refine stC (i := 2) (d := 10) (op := Op.call { callee := Callee.value (Operand.func 61), args := #[Operand.tmp 8, Operand.tmp 9], argTypes := #[3, 9] }) (ty := 89) (g := none) (f := 61) (args := #[.int .i64 0, .string s]) (w1 := w) h6 (by kernel_rfl) (by kernel_rfl) (by kernel_rfl) gok_none (by kernel_rfl) (c61_0 s w) ?_
  rintro _ w11 ⟨at'9, E10, rfl, hE14, hb12⟩
  have hB13 := hB.call hb12
  refine ⟨_, rfl, trivial, fun q7 h8 => ?_⟩
  clear h6 hB hb12
  refine eE 3 7 (.move (.tmp 10)) 89 (.tuple #[.int .i64 at'9, .int .i64 E10]) h8 fun q15 h16 => ?_
  clear h8
  refine eE 4 11 (.extract (.tmp 7) 0) 3 (.int .i64 at'9) h16 fun q17 h18 => ?_
  clear h16
  refine eE 5 12 (.extract (.tmp 7) 1) 26 (.int .i64 E10) h18 fun q19 h20 => ?_
  clear h18
  refine eE 6 5 (.assign (.tmp 11)) 3 (.int .i64 at'9) h20 fun q21 h22 => ?_
  clear h20
  refine eE 7 6 (.assign (.tmp 12)) 26 (.int .i64 E10) h22 fun q23 h24 => ?_
  clear h22
  refine wpO_end ?_
  have h25 := h24.keep [(6, .int .i64 E10), (4, .bool false)] ⟨rfl, rfl, trivial⟩
  clear h24
  refine then_n ?_
  refine c_seq (by kernel_rfl) ?_
  refine reg_plain [(0, false), (1, false), (2, false)] (by kernel_rfl) (by kernel_rfl) ?_
  refine eE 0 13 (.move (.tmp 6)) 26 (.int .i64 E10) h25 fun q26 h27 => ?_
  clear h25
  refine eE 1 14 (.binOp .eql 26 (.tmp 13) (.const (.int .i64 0)) 26) 4 (.bool (E10 == (0 : Int))) h27 fun q28 h29 => ?_
  clear h27
  refine eE 2 4 (.assign (.tmp 14)) 4 (.bool (E10 == (0 : Int))) h29 fun q30 h31 => ?_
  clear h29
  refine wpO_end ?_
  have h32 := h31.keep [(4, .bool (E10 == (0 : Int)))] ⟨rfl, trivial⟩
  clear h31
  refine then_n ?_
  refine c_ret (by kernel_rfl) ?_
  refine ret1 (t := 4) (v := .bool (E10 == (0 : Int))) h32 (by kernel_rfl) (by kernel_rfl) ?_
  exact ⟨ret_eq (congrArg Value.bool hE14), hB13.bel⟩

set_option maxHeartbeats 4000000 in
set_option maxRecDepth 20000 in
theorem c41_1 (s : ByteArray) (w : World) : Calls Tryd.prog 41 #[.int .i64 1, .string s] w fun e w' => e = .returned (.bool (memB s)) ∧ Below w.heap.size w w' := by
  refine enter Tryd.func41 (by kernel_rfl) ?_ (by kernel_rfl)
  intro q0 h0
  replace h0 := h0.conv (l' := [(0, .int .i64 1), (1, .string s)]) rfl
  have hB := Bx.refl w
  refine c_seq (by kernel_rfl) ?_
  refine reg_plain [(0, false)] (by kernel_rfl) (by kernel_rfl) ?_
  refine eE 0 4 (.assign (.const (.bool false))) 4 (.bool false) h0 fun q1 h2 => ?_
  clear h0
  refine wpO_end ?_
  refine then_n ?_
  refine c_seq (by kernel_rfl) ?_
  refine reg_plain [(0, false), (1, false), (2, false), (3, false), (4, false), (5, false), (6, false), (7, false)] (by kernel_rfl) (by kernel_rfl) ?_
  refine eE 0 8 (.move (.tmp 0)) 3 (.int .i64 1) h2 fun q3 h4 => ?_
  clear h2
  refine eE 1 9 (.move (.tmp 1)) 9 (.string s) h4 fun q5 h6 => ?_
  clear h4
  refine stC (i := 2) (d := 10) (op := Op.call { callee := Callee.value (Operand.func 61), args := #[Operand.tmp 8, Operand.tmp 9], argTypes := #[3, 9] }) (ty := 89) (g := none) (f := 61) (args := #[.int .i64 1, .string s]) (w1 := w) h6 (by kernel_rfl) (by kernel_rfl) (by kernel_rfl) gok_none (by kernel_rfl) (c61_1 s w) ?_
  rintro _ w11 ⟨at'9, E10, rfl, hE14, hb12⟩
  have hB13 := hB.call hb12
  refine ⟨_, rfl, trivial, fun q7 h8 => ?_⟩
  clear h6 hB hb12
  refine eE 3 7 (.move (.tmp 10)) 89 (.tuple #[.int .i64 at'9, .int .i64 E10]) h8 fun q15 h16 => ?_
  clear h8
  refine eE 4 11 (.extract (.tmp 7) 0) 3 (.int .i64 at'9) h16 fun q17 h18 => ?_
  clear h16
  refine eE 5 12 (.extract (.tmp 7) 1) 26 (.int .i64 E10) h18 fun q19 h20 => ?_
  clear h18
  refine eE 6 5 (.assign (.tmp 11)) 3 (.int .i64 at'9) h20 fun q21 h22 => ?_
  clear h20
  refine eE 7 6 (.assign (.tmp 12)) 26 (.int .i64 E10) h22 fun q23 h24 => ?_
  clear h22
  refine wpO_end ?_
  have h25 := h24.keep [(6, .int .i64 E10), (4, .bool false)] ⟨rfl, rfl, trivial⟩
  clear h24
  refine then_n ?_
  refine c_seq (by kernel_rfl) ?_
  refine reg_plain [(0, false), (1, false), (2, false)] (by kernel_rfl) (by kernel_rfl) ?_
  refine eE 0 13 (.move (.tmp 6)) 26 (.int .i64 E10) h25 fun q26 h27 => ?_
  clear h25
  refine eE 1 14 (.binOp .eql 26 (.tmp 13) (.const (.int .i64 0)) 26) 4 (.bool (E10 == (0 : Int))) h27 fun q28 h29 => ?_
  clear h27
  refine eE 2 4 (.assign (.tmp 14)) 4 (.bool (E10 == (0 : Int))) h29 fun q30 h31 => ?_
  clear h29
  refine wpO_end ?_
  have h32 := h31.keep [(4, .bool (E10 == (0 : Int)))] ⟨rfl, trivial⟩
  clear h31
  refine then_n ?_
  refine c_ret (by kernel_rfl) ?_
  refine ret1 (t := 4) (v := .bool (E10 == (0 : Int))) h32 (by kernel_rfl) (by kernel_rfl) ?_
  exact ⟨ret_eq (congrArg Value.bool hE14), hB13.bel⟩

set_option maxHeartbeats 4000000 in
set_option maxRecDepth 20000 in
theorem c41_2 (s : ByteArray) (w : World) : Calls Tryd.prog 41 #[.int .i64 2, .string s] w fun e w' => e = .returned (.bool (rfB s)) ∧ Below w.heap.size w w' := by
  refine enter Tryd.func41 (by kernel_rfl) ?_ (by kernel_rfl)
  intro q0 h0
  replace h0 := h0.conv (l' := [(0, .int .i64 2), (1, .string s)]) rfl
  have hB := Bx.refl w
  refine c_seq (by kernel_rfl) ?_
  refine reg_plain [(0, false)] (by kernel_rfl) (by kernel_rfl) ?_
  refine eE 0 4 (.assign (.const (.bool false))) 4 (.bool false) h0 fun q1 h2 => ?_
  clear h0
  refine wpO_end ?_
  refine then_n ?_
  refine c_seq (by kernel_rfl) ?_
  refine reg_plain [(0, false), (1, false), (2, false), (3, false), (4, false), (5, false), (6, false), (7, false)] (by kernel_rfl) (by kernel_rfl) ?_
  refine eE 0 8 (.move (.tmp 0)) 3 (.int .i64 2) h2 fun q3 h4 => ?_
  clear h2
  refine eE 1 9 (.move (.tmp 1)) 9 (.string s) h4 fun q5 h6 => ?_
  clear h4
  refine stC (i := 2) (d := 10) (op := Op.call { callee := Callee.value (Operand.func 61), args := #[Operand.tmp 8, Operand.tmp 9], argTypes := #[3, 9] }) (ty := 89) (g := none) (f := 61) (args := #[.int .i64 2, .string s]) (w1 := w) h6 (by kernel_rfl) (by kernel_rfl) (by kernel_rfl) gok_none (by kernel_rfl) (c61_2 s w) ?_
  rintro _ w11 ⟨at'9, E10, rfl, hE14, hb12⟩
  have hB13 := hB.call hb12
  refine ⟨_, rfl, trivial, fun q7 h8 => ?_⟩
  clear h6 hB hb12
  refine eE 3 7 (.move (.tmp 10)) 89 (.tuple #[.int .i64 at'9, .int .i64 E10]) h8 fun q15 h16 => ?_
  clear h8
  refine eE 4 11 (.extract (.tmp 7) 0) 3 (.int .i64 at'9) h16 fun q17 h18 => ?_
  clear h16
  refine eE 5 12 (.extract (.tmp 7) 1) 26 (.int .i64 E10) h18 fun q19 h20 => ?_
  clear h18
  refine eE 6 5 (.assign (.tmp 11)) 3 (.int .i64 at'9) h20 fun q21 h22 => ?_
  clear h20
  refine eE 7 6 (.assign (.tmp 12)) 26 (.int .i64 E10) h22 fun q23 h24 => ?_
  clear h22
  refine wpO_end ?_
  have h25 := h24.keep [(6, .int .i64 E10), (4, .bool false)] ⟨rfl, rfl, trivial⟩
  clear h24
  refine then_n ?_
  refine c_seq (by kernel_rfl) ?_
  refine reg_plain [(0, false), (1, false), (2, false)] (by kernel_rfl) (by kernel_rfl) ?_
  refine eE 0 13 (.move (.tmp 6)) 26 (.int .i64 E10) h25 fun q26 h27 => ?_
  clear h25
  refine eE 1 14 (.binOp .eql 26 (.tmp 13) (.const (.int .i64 0)) 26) 4 (.bool (E10 == (0 : Int))) h27 fun q28 h29 => ?_
  clear h27
  refine eE 2 4 (.assign (.tmp 14)) 4 (.bool (E10 == (0 : Int))) h29 fun q30 h31 => ?_
  clear h29
  refine wpO_end ?_
  have h32 := h31.keep [(4, .bool (E10 == (0 : Int)))] ⟨rfl, trivial⟩
  clear h31
  refine then_n ?_
  refine c_ret (by kernel_rfl) ?_
  refine ret1 (t := 4) (v := .bool (E10 == (0 : Int))) h32 (by kernel_rfl) (by kernel_rfl) ?_
  exact ⟨ret_eq (congrArg Value.bool hE14), hB13.bel⟩

end Go.Proofs.YtljegdokbifoiaaDoor.Af
