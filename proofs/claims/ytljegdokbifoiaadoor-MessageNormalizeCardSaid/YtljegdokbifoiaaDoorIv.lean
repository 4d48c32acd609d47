/- Valid identifiers. No condition. -/
import Derived.Test.YtljegdokbifoiaaDoorIu
namespace Go.Proofs.YtljegdokbifoiaaDoor.Af
open Go.RowKit
theorem cls_ok0 : ∀ g ∈ clsOf sp0, g = 86 ∨ g = 87 ∨ g = 88 ∨ g = 90 := by rw [clsOf0]; decide
theorem cls_ok1 : ∀ g ∈ clsOf sp1, g = 86 ∨ g = 87 ∨ g = 88 ∨ g = 90 := by rw [clsOf1]; decide
theorem cls_ok2 : ∀ g ∈ clsOf sp2, g = 86 ∨ g = 87 ∨ g = 88 ∨ g = 90 := by rw [clsOf2]; decide
theorem isin_p (s : ByteArray) (h : (pfxE (clsOf sp0) 12 s != 0) = true) : (pfxE (clsOf sp0) 12 s == 0) = isinB s := by
  unfold isinB
  have h' : (pfxE (clsOf sp0) 12 s == 0) = false := by simpa using h
  rw [h', Bool.false_and]
theorem isin_q (s : ByteArray) (b : Bool) (e : Int) (he : (e == 0) = !b) (h : (pfxE (clsOf sp0) 12 s != 0) = false)
    (h2 : ((⟨#[UInt8.ofNat (48 + luhnD (s.extract 0 11).data.toList)]⟩ : ByteArray).toList != (s.extract 11 s.size).toList) = b) : (e == 0) = isinB s := by
  unfold isinB
  have h' : (pfxE (clsOf sp0) 12 s == 0) = true := by simpa using h
  rw [h', Bool.true_and, he, ← h2]
  unfold bne
  rw [Bool.not_not]
theorem none_p (e : Int) (h : (e != 0) = false) : ((0 : Int) == 0) = (e == 0) := by
  have h' : (e == 0) = true := by simpa using h
  rw [h']
  rfl

set_option maxHeartbeats 4000000 in
set_option maxRecDepth 20000 in
theorem c61_0 (s : ByteArray) (w : World) : Calls Tryd.prog 61 #[.int .i64 0, .string s] w (fun e w' => ∃ at' E : Int, e = .returned (.tuple #[.int .i64 at', .int .i64 E]) ∧ (E == 0) = isinB s ∧ Below w.heap.size w w') := by
  refine enter Tryd.func61 (by kernel_rfl) ?_ (by kernel_rfl)
  intro q0 h0
  replace h0 := h0.conv (l' := [(0, .int .i64 0), (1, .string s)]) rfl
  have hB := Bx.refl w
  refine kS ?_
  refine rp 2 ?_
  refine b0 (.C 0 4 <| .C 1 5 <| .nil) [(5, .int .i64 0), (4, .int .i64 0), (0, .int .i64 0), (1, .string s)] h0 (Kw.nil hB) fun q1 h2 => ?_
  clear h0
  refine wpO_end ?_
  refine then_n ?_
  refine kS ?_
  refine kS ?_
  refine rp 6 ?_
  refine b1 11 (rfl : false = false) (.C 0 9 <| .E 1 10 (.bool false) <| .C 2 11 <| .C 3 12 <| .E 4 13 (.bool false) <| .E 5 14 (.bool false) <| .nil) [(14, .bool false), (5, .int .i64 0), (4, .int .i64 0), (0, .int .i64 0), (1, .string s)] h2 (Kw.nil hB) fun q3 h4 => ?_
  clear h2
  refine wpO_end ?_
  refine then_n ?_
  refine kC 14 false h4 (fun e5 => Bool.noConfusion (e5.symm.trans (rfl))) (fun _ => ?_)
  refine c_skip (by kernel_rfl) ?_
  refine then_n ?_
  refine kS ?_
  refine rp 5 ?_
  refine sC 0 15 h4 gok_none (c67 w) ?_
  rintro _ w12 ⟨b8, b9, b10, b11, rfl, hr15, hr16, hr17, hb13⟩
  have hB14 := hB.call hb13
  refine ⟨_, rfl, trivial, fun q6 h7 => ?_⟩
  clear h4 hB hb13
  have hbl18 := hB14.bel
  have hB19 := Bx.refl w12
  clear hB14
  refine b0 (.C 1 16 <| .E 2 17 (.agg #[.int .i64 12, .slice (some ⟨b8, 0, none⟩) 3 3, .int .i64 11, .func (.func 89) #[] #[]]) <| .nil) [(17, .agg #[.int .i64 12, .slice (some ⟨b8, 0, none⟩) 3 3, .int .i64 11, .func (.func 89) #[] #[]]), (5, .int .i64 0), (4, .int .i64 0), (1, .string s)] h7 (Kw.nil hB19) fun q20 h21 => ?_
  clear h7
  refine sA 3 6 (fun b => .pointer (some ⟨b, 0, none⟩)) (.cells #[.int .i64 0, .slice none 0 0, .int .i64 0, .nilFunc] 100 (0, 0)) h21 gok_none hB19 (fun _ _ hq => trivial) (fun b24 w25 hB26 hN q22 h23 => ?_)
  clear h21 hB19 hN
  refine sW 4 0 0 [(b24, .cells #[.int .i64 12, .slice (some ⟨b8, 0, none⟩) 3 3, .int .i64 11, .func (.func 89) #[] #[]] 100 (0, 0))] h23 gok_none hB26 (.inr fun _ _ => trivial) (fun w29 hB30 hT q27 h28 => ?_)
  clear h23 hB26
  clear hT
  refine wpO_end ?_
  have h31 := h28.keep [(6, .pointer (some ⟨b24, 0, none⟩)), (5, .int .i64 0), (4, .int .i64 0), (1, .string s)] ⟨rfl, rfl, rfl, rfl, trivial⟩
  clear h28
  refine then_n ?_
  refine kS ?_
  refine kS ?_
  have hD32 := hB30.drew
  refine rd (Bx w12 [(b24, .cells #[.int .i64 12, .slice (some ⟨b8, 0, none⟩) 3 3, .int .i64 11, .func (.func 89) #[] #[]] 100 (0, 0))]) 11 [⟨0, true, 0, 64, 524288⟩, ⟨2, true, 0, 64, 2097152⟩, ⟨3, true, 4, 2097152, 4194304⟩, ⟨4, true, 0, 2, 8388608⟩, ⟨1, false, 1, 524288, 1048576⟩, ⟨5, false, 26, 13631488, 16777216⟩, ⟨6, true, 32, 16777216, 262144⟩, ⟨7, true, 64, 262144, 33554432⟩, ⟨8, true, 64, 262144, 67108864⟩, ⟨9, true, 255, 33554432, 128⟩, ⟨10, true, 1023, 67108864, 256⟩] hD32 ?_
  generalize World.drew w29 = w33 at hD32 ⊢
  refine d0 (.S 0 19 0 0 4 <| .C 2 21 <| .L 3 22 0 0 <| .C 4 23 <| .nil) [(23, .string s), (22, .int .i64 12), (19, .agg #[.int .i64 12, .slice (some ⟨b8, 0, none⟩) 3 3, .int .i64 11, .func (.func 89) #[] #[]]), (6, .pointer (some ⟨b24, 0, none⟩)), (5, .int .i64 0), (4, .int .i64 0), (1, .string s)] h31 (fun _ hS => Kw.nil hS) fun q34 h35 => ?_
  clear h31
  refine sC 1 20 h35 gok_none (c69 12 11 (.func (.func 89) #[] #[]) sp0 (some ⟨b8, 0, none⟩) 3 w33 (by decide) (by decide) (hr15.below hD32.bel)) ?_
  rintro _ w40 ⟨v45, rfl, ho43, hb41⟩
  obtain ⟨A38, cp39, rfl, -, hr44⟩ := own_rd ho43
  have hB42 := hD32.call hb41
  refine ⟨_, rfl, hB42, fun q36 h37 => ?_⟩
  clear h35 hD32 hb41
  refine sC 5 24 h37 gok_none (c68 (clsOf sp0) A38 cp39 12 s w40 (by decide) cls_ok0 hr44) ?_
  rintro _ w49 ⟨at'48, rfl, hb50⟩
  have hB51 := hB42.call hb50
  refine ⟨_, rfl, hB51, fun q46 h47 => ?_⟩
  clear h37 hB42 hb50
  refine d0 (.C 6 18 <| .E 7 25 (.int .i64 at'48) <| .E 8 26 (.int .i64 (pfxE (clsOf sp0) 12 s)) <| .C 9 7 <| .C 10 8 <| .nil) [(8, .int .i64 (pfxE (clsOf sp0) 12 s)), (7, .int .i64 at'48), (6, .pointer (some ⟨b24, 0, none⟩)), (5, .int .i64 0), (4, .int .i64 0), (1, .string s)] h47 (fun _ hS => Kw.nil hS) fun q52 h53 => ?_
  clear h47
  refine wpO_end ?_
  refine then_n ?_
  refine kS ?_
  refine rp 2 ?_
  refine b0 (.C 0 27 <| .E 1 28 (.bool (pfxE (clsOf sp0) 12 s != (0 : Int))) <| .nil) [(28, .bool (pfxE (clsOf sp0) 12 s != (0 : Int))), (8, .int .i64 (pfxE (clsOf sp0) 12 s)), (7, .int .i64 at'48), (6, .pointer (some ⟨b24, 0, none⟩)), (5, .int .i64 0), (4, .int .i64 0), (1, .string s)] h53 (Kw.nil hB51) fun q54 h55 => ?_
  clear h53
  refine wpO_end ?_
  refine then_n ?_
  refine kC 28 (pfxE (clsOf sp0) 12 s != (0 : Int)) h55 (fun hc56 => ?_) (fun hc56 => ?_)
  ·
    refine kS ?_
    refine rp 4 ?_
    refine b0 (.C 0 29 <| .C 1 30 <| .C 2 4 <| .C 3 5 <| .nil) [(5, .int .i64 (pfxE (clsOf sp0) 12 s)), (4, .int .i64 at'48), (6, .pointer (some ⟨b24, 0, none⟩)), (1, .string s)] h55 (Kw.nil hB51) fun q57 h58 => ?_
    clear h55
    refine wpO_end ?_
    refine then_n ?_
    refine c_ret (by kernel_rfl) ?_
    refine then_r ?_
    refine ret2 (t := 4) (u := 5) (v := .int .i64 at'48) (v' := .int .i64 (pfxE (clsOf sp0) 12 s)) h58 (by kernel_rfl) (by kernel_rfl) (by kernel_rfl) ?_
    exact ⟨_, _, rfl, isin_p s hc56, (hbl18.trans (hB51.bel.mono hbl18.size))⟩
  have hbody := isin_body s (by simpa using hc56)
  have hsz := hbody.1
  refine c_skip (by kernel_rfl) ?_
  refine then_n ?_
  refine kS ?_
  refine kS ?_
  have hD59 := hB51.drew
  refine rd (Bx w12 [(b24, .cells #[.int .i64 12, .slice (some ⟨b8, 0, none⟩) 3 3, .int .i64 11, .func (.func 89) #[] #[]] 100 (0, 0))]) 17 [⟨0, true, 0, 64, 2147483648⟩, ⟨1, true, 1, 2147483648, 4294967296⟩, ⟨2, true, 2, 4294967296, 8589934592⟩, ⟨3, true, 4, 8589934592, 17179869184⟩, ⟨4, true, 8, 17179869248, 34359738368⟩, ⟨5, true, 24, 51539607552, 68719476736⟩, ⟨6, true, 8, 17179869186, 137438953472⟩, ⟨7, true, 8, 17179869248, 274877906944⟩, ⟨8, true, 136, 292057776128, 549755813888⟩, ⟨9, true, 328, 704374636544, 1099511627776⟩, ⟨11, true, 8, 17179869186, 4398046511104⟩, ⟨12, true, 8, 17179869248, 8796093022208⟩, ⟨13, true, 4104, 8813272891392, 17592186044416⟩, ⟨14, true, 10248, 22007412424704, 35184372088832⟩, ⟨10, false, 552, 1185410973696, 2199023255552⟩, ⟨15, true, 17416, 37400575213568, 70368744177664⟩, ⟨16, true, 32776, 70385924046848, 140737488355328⟩] hD59 ?_
  generalize World.drew w49 = w60 at hD59 ⊢
  refine d1 34 (rfl : true = true) (.C 0 31 <| .L 1 32 0 3 <| .E 2 33 (.bool true) <| .C 3 34 <| .C 4 35 <| .L 5 36 0 3 <| .C 6 37 <| .C 7 38 <| .L 8 39 0 2 <| .nil) [(39, .int .i64 11), (37, .string s), (36, .func (.func 89) #[] #[]), (34, .bool true), (6, .pointer (some ⟨b24, 0, none⟩)), (5, .int .i64 0), (4, .int .i64 0), (1, .string s)] h55 (fun _ hS => Kw.nil hS) fun q61 h62 => ?_
  clear h55
  refine fG 9 40 (.slice 9 (.tmp 37) none (some (.tmp 39)) none) 9 (3, true) (.string (s.extract 0 11)) (g1 34 (rfl : true = true)) h62 (hr := fun _ hS => r_sliceSHi (kd := .i64) (i := 11) (by kernel_rfl) (by kernel_rfl) (by omega) (by kernel_rfl)) fun q63 h64 => ?_
  clear h62
  refine d1 34 (rfl : true = true) (.C 11 42 <| .C 12 43 <| .L 13 44 0 2 <| .nil) [(44, .int .i64 11), (42, .string s), (40, .string (s.extract 0 11)), (36, .func (.func 89) #[] #[]), (34, .bool true), (6, .pointer (some ⟨b24, 0, none⟩)), (5, .int .i64 0), (4, .int .i64 0)] h64 (fun _ hS => Kw.nil hS) fun q65 h66 => ?_
  clear h64
  refine fG 14 45 (.slice 9 (.tmp 42) (some (.tmp 44)) none none) 9 (3, true) (.string (s.extract 11 s.size)) (g1 34 (rfl : true = true)) h66 (hr := fun _ hS => r_sliceSLo (kd := .i64) (i := 11) (by kernel_rfl) (by kernel_rfl) (by omega) (by kernel_rfl)) fun q67 h68 => ?_
  clear h66
  refine sC 10 41 (g := (some (3, true))) h68 (g1 34 (rfl : true = true)) (c89 (s.extract 0 11) w60 (by rw [extract_size _ _ (by omega)]; omega) hbody.2) ?_
  rintro _ w71 ⟨rfl, hb72⟩
  have hB73 := hD59.call hb72
  refine ⟨_, rfl, hB73, fun q69 h70 => ?_⟩
  clear h68 hD59 hb72
  refine d1 34 (rfl : true = true) (.E 15 46 (.bool ((⟨#[UInt8.ofNat (48 + luhnD (s.extract 0 11).data.toList)]⟩ : ByteArray).toList != (s.extract 11 s.size).toList)) <| .E 16 47 (.bool ((⟨#[UInt8.ofNat (48 + luhnD (s.extract 0 11).data.toList)]⟩ : ByteArray).toList != (s.extract 11 s.size).toList)) <| .nil) [(47, .bool ((⟨#[UInt8.ofNat (48 + luhnD (s.extract 0 11).data.toList)]⟩ : ByteArray).toList != (s.extract 11 s.size).toList)), (6, .pointer (some ⟨b24, 0, none⟩)), (5, .int .i64 0), (4, .int .i64 0)] h70 (fun _ hS => Kw.nil hS) fun q74 h75 => ?_
  clear h70
  refine wpO_end ?_
  refine then_n ?_
  refine kC 47 ((⟨#[UInt8.ofNat (48 + luhnD (s.extract 0 11).data.toList)]⟩ : ByteArray).toList != (s.extract 11 s.size).toList) h75 (fun hc76 => ?_) (fun hc76 => ?_)
  ·
    refine kS ?_
    refine rp 4 ?_
    refine b0 (.C 0 48 <| .L 1 49 0 2 <| .C 2 4 <| .C 3 5 <| .nil) [(5, .int .i64 18), (4, .int .i64 11)] h75 (Kw.nil hB73) fun q77 h78 => ?_
    clear h75
    refine wpO_end ?_
    refine then_n ?_
    refine c_ret (by kernel_rfl) ?_
    refine then_r ?_
    refine ret2 (t := 4) (u := 5) (v := .int .i64 11) (v' := .int .i64 18) h78 (by kernel_rfl) (by kernel_rfl) (by kernel_rfl) ?_
    exact ⟨_, _, rfl, isin_q s true 18 rfl hc56 hc76, (hbl18.trans (hB73.bel.mono hbl18.size))⟩
  refine c_skip (by kernel_rfl) ?_
  refine then_n ?_
  refine kS ?_
  refine rp 2 ?_
  refine b0 (.C 0 4 <| .C 1 5 <| .nil) [(5, .int .i64 0), (4, .int .i64 0)] h75 (Kw.nil hB73) fun q79 h80 => ?_
  clear h75
  refine wpO_end ?_
  refine then_n ?_
  refine c_ret (by kernel_rfl) ?_
  refine ret2 (t := 4) (u := 5) (v := .int .i64 0) (v' := .int .i64 0) h80 (by kernel_rfl) (by kernel_rfl) (by kernel_rfl) ?_
  exact ⟨_, _, rfl, isin_q s false 0 rfl hc56 hc76, (hbl18.trans (hB73.bel.mono hbl18.size))⟩

set_option maxHeartbeats 4000000 in
set_option maxRecDepth 20000 in
theorem c61_1 (s : ByteArray) (w : World) : Calls Tryd.prog 61 #[.int .i64 1, .string s] w (fun e w' => ∃ at' E : Int, e = .returned (.tuple #[.int .i64 at', .int .i64 E]) ∧ (E == 0) = memB s ∧ Below w.heap.size w w') := by
  refine enter Tryd.func61 (by kernel_rfl) ?_ (by kernel_rfl)
  intro q0 h0
  replace h0 := h0.conv (l' := [(0, .int .i64 1), (1, .string s)]) rfl
  have hB := Bx.refl w
  refine kS ?_
  refine rp 2 ?_
  refine b0 (.C 0 4 <| .C 1 5 <| .nil) [(5, .int .i64 0), (4, .int .i64 0), (0, .int .i64 1), (1, .string s)] h0 (Kw.nil hB) fun q1 h2 => ?_
  clear h0
  refine wpO_end ?_
  refine then_n ?_
  refine kS ?_
  refine kS ?_
  refine rp 6 ?_
  refine b1 11 (rfl : false = false) (.C 0 9 <| .E 1 10 (.bool false) <| .C 2 11 <| .C 3 12 <| .E 4 13 (.bool false) <| .E 5 14 (.bool false) <| .nil) [(14, .bool false), (5, .int .i64 0), (4, .int .i64 0), (0, .int .i64 1), (1, .string s)] h2 (Kw.nil hB) fun q3 h4 => ?_
  clear h2
  refine wpO_end ?_
  refine then_n ?_
  refine kC 14 false h4 (fun e5 => Bool.noConfusion (e5.symm.trans (rfl))) (fun _ => ?_)
  refine c_skip (by kernel_rfl) ?_
  refine then_n ?_
  refine kS ?_
  refine rp 5 ?_
  refine sC 0 15 h4 gok_none (c67 w) ?_
  rintro _ w12 ⟨b8, b9, b10, b11, rfl, hr15, hr16, hr17, hb13⟩
  have hB14 := hB.call hb13
  refine ⟨_, rfl, trivial, fun q6 h7 => ?_⟩
  clear h4 hB hb13
  have hbl18 := hB14.bel
  have hB19 := Bx.refl w12
  clear hB14
  refine b0 (.C 1 16 <| .E 2 17 (.agg #[.int .i64 4, .slice (some ⟨b9, 0, none⟩) 2 2, .int .i64 0, .nilFunc]) <| .nil) [(17, .agg #[.int .i64 4, .slice (some ⟨b9, 0, none⟩) 2 2, .int .i64 0, .nilFunc]), (5, .int .i64 0), (4, .int .i64 0), (1, .string s)] h7 (Kw.nil hB19) fun q20 h21 => ?_
  clear h7
  refine sA 3 6 (fun b => .pointer (some ⟨b, 0, none⟩)) (.cells #[.int .i64 0, .slice none 0 0, .int .i64 0, .nilFunc] 100 (0, 0)) h21 gok_none hB19 (fun _ _ hq => trivial) (fun b24 w25 hB26 hN q22 h23 => ?_)
  clear h21 hB19 hN
  refine sW 4 0 0 [(b24, .cells #[.int .i64 4, .slice (some ⟨b9, 0, none⟩) 2 2, .int .i64 0, .nilFunc] 100 (0, 0))] h23 gok_none hB26 (.inr fun _ _ => trivial) (fun w29 hB30 hT q27 h28 => ?_)
  clear h23 hB26
  clear hT
  refine wpO_end ?_
  have h31 := h28.keep [(6, .pointer (some ⟨b24, 0, none⟩)), (5, .int .i64 0), (4, .int .i64 0), (1, .string s)] ⟨rfl, rfl, rfl, rfl, trivial⟩
  clear h28
  refine then_n ?_
  refine kS ?_
  refine kS ?_
  have hD32 := hB30.drew
  refine rd (Bx w12 [(b24, .cells #[.int .i64 4, .slice (some ⟨b9, 0, none⟩) 2 2, .int .i64 0, .nilFunc] 100 (0, 0))]) 11 [⟨0, true, 0, 64, 524288⟩, ⟨2, true, 0, 64, 2097152⟩, ⟨3, true, 4, 2097152, 4194304⟩, ⟨4, true, 0, 2, 8388608⟩, ⟨1, false, 1, 524288, 1048576⟩, ⟨5, false, 26, 13631488, 16777216⟩, ⟨6, true, 32, 16777216, 262144⟩, ⟨7, true, 64, 262144, 33554432⟩, ⟨8, true, 64, 262144, 67108864⟩, ⟨9, true, 255, 33554432, 128⟩, ⟨10, true, 1023, 67108864, 256⟩] hD32 ?_
  generalize World.drew w29 = w33 at hD32 ⊢
  refine d0 (.S 0 19 0 0 4 <| .C 2 21 <| .L 3 22 0 0 <| .C 4 23 <| .nil) [(23, .string s), (22, .int .i64 4), (19, .agg #[.int .i64 4, .slice (some ⟨b9, 0, none⟩) 2 2, .int .i64 0, .nilFunc]), (6, .pointer (some ⟨b24, 0, none⟩)), (5, .int .i64 0), (4, .int .i64 0), (1, .string s)] h31 (fun _ hS => Kw.nil hS) fun q34 h35 => ?_
  clear h31
  refine sC 1 20 h35 gok_none (c69 4 0 .nilFunc sp1 (some ⟨b9, 0, none⟩) 2 w33 (by decide) (by decide) (hr16.below hD32.bel)) ?_
  rintro _ w40 ⟨v45, rfl, ho43, hb41⟩
  obtain ⟨A38, cp39, rfl, -, hr44⟩ := own_rd ho43
  have hB42 := hD32.call hb41
  refine ⟨_, rfl, hB42, fun q36 h37 => ?_⟩
  clear h35 hD32 hb41
  refine sC 5 24 h37 gok_none (c68 (clsOf sp1) A38 cp39 4 s w40 (by decide) cls_ok1 hr44) ?_
  rintro _ w49 ⟨at'48, rfl, hb50⟩
  have hB51 := hB42.call hb50
  refine ⟨_, rfl, hB51, fun q46 h47 => ?_⟩
  clear h37 hB42 hb50
  refine d0 (.C 6 18 <| .E 7 25 (.int .i64 at'48) <| .E 8 26 (.int .i64 (pfxE (clsOf sp1) 4 s)) <| .C 9 7 <| .C 10 8 <| .nil) [(8, .int .i64 (pfxE (clsOf sp1) 4 s)), (7, .int .i64 at'48), (6, .pointer (some ⟨b24, 0, none⟩)), (5, .int .i64 0), (4, .int .i64 0), (1, .string s)] h47 (fun _ hS => Kw.nil hS) fun q52 h53 => ?_
  clear h47
  refine wpO_end ?_
  refine then_n ?_
  refine kS ?_
  refine rp 2 ?_
  refine b0 (.C 0 27 <| .E 1 28 (.bool (pfxE (clsOf sp1) 4 s != (0 : Int))) <| .nil) [(28, .bool (pfxE (clsOf sp1) 4 s != (0 : Int))), (8, .int .i64 (pfxE (clsOf sp1) 4 s)), (7, .int .i64 at'48), (6, .pointer (some ⟨b24, 0, none⟩)), (5, .int .i64 0), (4, .int .i64 0), (1, .string s)] h53 (Kw.nil hB51) fun q54 h55 => ?_
  clear h53
  refine wpO_end ?_
  refine then_n ?_
  refine kC 28 (pfxE (clsOf sp1) 4 s != (0 : Int)) h55 (fun hc56 => ?_) (fun hc56 => ?_)
  ·
    refine kS ?_
    refine rp 4 ?_
    refine b0 (.C 0 29 <| .C 1 30 <| .C 2 4 <| .C 3 5 <| .nil) [(5, .int .i64 (pfxE (clsOf sp1) 4 s)), (4, .int .i64 at'48), (6, .pointer (some ⟨b24, 0, none⟩)), (1, .string s)] h55 (Kw.nil hB51) fun q57 h58 => ?_
    clear h55
    refine wpO_end ?_
    refine then_n ?_
    refine c_ret (by kernel_rfl) ?_
    refine then_r ?_
    refine ret2 (t := 4) (u := 5) (v := .int .i64 at'48) (v' := .int .i64 (pfxE (clsOf sp1) 4 s)) h58 (by kernel_rfl) (by kernel_rfl) (by kernel_rfl) ?_
    exact ⟨_, _, rfl, rfl, (hbl18.trans (hB51.bel.mono hbl18.size))⟩
  refine c_skip (by kernel_rfl) ?_
  refine then_n ?_
  refine kS ?_
  refine kS ?_
  have hD59 := hB51.drew
  refine rd (Bx w12 [(b24, .cells #[.int .i64 4, .slice (some ⟨b9, 0, none⟩) 2 2, .int .i64 0, .nilFunc] 100 (0, 0))]) 17 [⟨0, true, 0, 64, 2147483648⟩, ⟨1, true, 1, 2147483648, 4294967296⟩, ⟨2, true, 2, 4294967296, 8589934592⟩, ⟨3, true, 4, 8589934592, 17179869184⟩, ⟨4, true, 8, 17179869248, 34359738368⟩, ⟨5, true, 24, 51539607552, 68719476736⟩, ⟨6, true, 8, 17179869186, 137438953472⟩, ⟨7, true, 8, 17179869248, 274877906944⟩, ⟨8, true, 136, 292057776128, 549755813888⟩, ⟨9, true, 328, 704374636544, 1099511627776⟩, ⟨11, true, 8, 17179869186, 4398046511104⟩, ⟨12, true, 8, 17179869248, 8796093022208⟩, ⟨13, true, 4104, 8813272891392, 17592186044416⟩, ⟨14, true, 10248, 22007412424704, 35184372088832⟩, ⟨10, false, 552, 1185410973696, 2199023255552⟩, ⟨15, true, 17416, 37400575213568, 70368744177664⟩, ⟨16, true, 32776, 70385924046848, 140737488355328⟩] hD59 ?_
  generalize World.drew w49 = w60 at hD59 ⊢
  refine d1 34 (rfl : false = false) (.C 0 31 <| .L 1 32 0 3 <| .E 2 33 (.bool false) <| .C 3 34 <| .K 4 35 <| .K 5 36 <| .K 6 37 <| .K 7 38 <| .K 8 39 <| .K 9 40 <| .K 11 42 <| .K 12 43 <| .K 13 44 <| .K 14 45 <| .nil) [(45, undef), (40, undef), (36, undef), (34, .bool false), (6, .pointer (some ⟨b24, 0, none⟩)), (5, .int .i64 0), (4, .int .i64 0)] h55 (fun _ hS => Kw.nil hS) fun q61 h62 => ?_
  clear h55
  refine kE 10 41 (3, true) (g3 34 (rfl : false = false)) h62 hD59 fun q63 h64 => ?_
  clear h62
  refine d1 34 (rfl : false = false) (.K 15 46 <| .E 16 47 (.bool false) <| .nil) [(47, .bool false), (6, .pointer (some ⟨b24, 0, none⟩)), (5, .int .i64 0), (4, .int .i64 0)] h64 (fun _ hS => Kw.nil hS) fun q65 h66 => ?_
  clear h64
  refine wpO_end ?_
  refine then_n ?_
  refine kC 47 false h66 (fun e67 => Bool.noConfusion (e67.symm.trans (rfl))) (fun _ => ?_)
  refine c_skip (by kernel_rfl) ?_
  refine then_n ?_
  refine kS ?_
  refine rp 2 ?_
  refine b0 (.C 0 4 <| .C 1 5 <| .nil) [(5, .int .i64 0), (4, .int .i64 0)] h66 (Kw.nil hD59) fun q68 h69 => ?_
  clear h66
  refine wpO_end ?_
  refine then_n ?_
  refine c_ret (by kernel_rfl) ?_
  refine ret2 (t := 4) (u := 5) (v := .int .i64 0) (v' := .int .i64 0) h69 (by kernel_rfl) (by kernel_rfl) (by kernel_rfl) ?_
  exact ⟨_, _, rfl, none_p _ hc56, (hbl18.trans (hD59.bel.mono hbl18.size))⟩

set_option maxHeartbeats 4000000 in
set_option maxRecDepth 20000 in
theorem c61_2 (s : ByteArray) (w : World) : Calls Tryd.prog 61 #[.int .i64 2, .string s] w (fun e w' => ∃ at' E : Int, e = .returned (.tuple #[.int .i64 at', .int .i64 E]) ∧ (E == 0) = rfB s ∧ Below w.heap.size w w') := by
  refine enter Tryd.func61 (by kernel_rfl) ?_ (by kernel_rfl)
  intro q0 h0
  replace h0 := h0.conv (l' := [(0, .int .i64 2), (1, .string s)]) rfl
  have hB := Bx.refl w
  refine kS ?_
  refine rp 2 ?_
  refine b0 (.C 0 4 <| .C 1 5 <| .nil) [(5, .int .i64 0), (4, .int .i64 0), (0, .int .i64 2), (1, .string s)] h0 (Kw.nil hB) fun q1 h2 => ?_
  clear h0
  refine wpO_end ?_
  refine then_n ?_
  refine kS ?_
  refine kS ?_
  refine rp 6 ?_
  refine b1 11 (rfl : false = false) (.C 0 9 <| .E 1 10 (.bool false) <| .C 2 11 <| .C 3 12 <| .E 4 13 (.bool false) <| .E 5 14 (.bool false) <| .nil) [(14, .bool false), (5, .int .i64 0), (4, .int .i64 0), (0, .int .i64 2), (1, .string s)] h2 (Kw.nil hB) fun q3 h4 => ?_
  clear h2
  refine wpO_end ?_
  refine then_n ?_
  refine kC 14 false h4 (fun e5 => Bool.noConfusion (e5.symm.trans (rfl))) (fun _ => ?_)
  refine c_skip (by kernel_rfl) ?_
  refine then_n ?_
  refine kS ?_
  refine rp 5 ?_
  refine sC 0 15 h4 gok_none (c67 w) ?_
  rintro _ w12 ⟨b8, b9, b10, b11, rfl, hr15, hr16, hr17, hb13⟩
  have hB14 := hB.call hb13
  refine ⟨_, rfl, trivial, fun q6 h7 => ?_⟩
  clear h4 hB hb13
  have hbl18 := hB14.bel
  have hB19 := Bx.refl w12
  clear hB14
  refine b0 (.C 1 16 <| .E 2 17 (.agg #[.int .i64 1, .slice (some ⟨b10, 0, none⟩) 1 1, .int .i64 0, .nilFunc]) <| .nil) [(17, .agg #[.int .i64 1, .slice (some ⟨b10, 0, none⟩) 1 1, .int .i64 0, .nilFunc]), (5, .int .i64 0), (4, .int .i64 0), (1, .string s)] h7 (Kw.nil hB19) fun q20 h21 => ?_
  clear h7
  refine sA 3 6 (fun b => .pointer (some ⟨b, 0, none⟩)) (.cells #[.int .i64 0, .slice none 0 0, .int .i64 0, .nilFunc] 100 (0, 0)) h21 gok_none hB19 (fun _ _ hq => trivial) (fun b24 w25 hB26 hN q22 h23 => ?_)
  clear h21 hB19 hN
  refine sW 4 0 0 [(b24, .cells #[.int .i64 1, .slice (some ⟨b10, 0, none⟩) 1 1, .int .i64 0, .nilFunc] 100 (0, 0))] h23 gok_none hB26 (.inr fun _ _ => trivial) (fun w29 hB30 hT q27 h28 => ?_)
  clear h23 hB26
  clear hT
  refine wpO_end ?_
  have h31 := h28.keep [(6, .pointer (some ⟨b24, 0, none⟩)), (5, .int .i64 0), (4, .int .i64 0), (1, .string s)] ⟨rfl, rfl, rfl, rfl, trivial⟩
  clear h28
  refine then_n ?_
  refine kS ?_
  refine kS ?_
  have hD32 := hB30.drew
  refine rd (Bx w12 [(b24, .cells #[.int .i64 1, .slice (some ⟨b10, 0, none⟩) 1 1, .int .i64 0, .nilFunc] 100 (0, 0))]) 11 [⟨0, true, 0, 64, 524288⟩, ⟨2, true, 0, 64, 2097152⟩, ⟨3, true, 4, 2097152, 4194304⟩, ⟨4, true, 0, 2, 8388608⟩, ⟨1, false, 1, 524288, 1048576⟩, ⟨5, false, 26, 13631488, 16777216⟩, ⟨6, true, 32, 16777216, 262144⟩, ⟨7, true, 64, 262144, 33554432⟩, ⟨8, true, 64, 262144, 67108864⟩, ⟨9, true, 255, 33554432, 128⟩, ⟨10, true, 1023, 67108864, 256⟩] hD32 ?_
  generalize World.drew w29 = w33 at hD32 ⊢
  refine d0 (.S 0 19 0 0 4 <| .C 2 21 <| .L 3 22 0 0 <| .C 4 23 <| .nil) [(23, .string s), (22, .int .i64 1), (19, .agg #[.int .i64 1, .slice (some ⟨b10, 0, none⟩) 1 1, .int .i64 0, .nilFunc]), (6, .pointer (some ⟨b24, 0, none⟩)), (5, .int .i64 0), (4, .int .i64 0), (1, .string s)] h31 (fun _ hS => Kw.nil hS) fun q34 h35 => ?_
  clear h31
  refine sC 1 20 h35 gok_none (c69 1 0 .nilFunc sp2 (some ⟨b10, 0, none⟩) 1 w33 (by decide) (by decide) (hr17.below hD32.bel)) ?_
  rintro _ w40 ⟨v45, rfl, ho43, hb41⟩
  obtain ⟨A38, cp39, rfl, -, hr44⟩ := own_rd ho43
  have hB42 := hD32.call hb41
  refine ⟨_, rfl, hB42, fun q36 h37 => ?_⟩
  clear h35 hD32 hb41
  refine sC 5 24 h37 gok_none (c68 (clsOf sp2) A38 cp39 1 s w40 (by decide) cls_ok2 hr44) ?_
  rintro _ w49 ⟨at'48, rfl, hb50⟩
  have hB51 := hB42.call hb50
  refine ⟨_, rfl, hB51, fun q46 h47 => ?_⟩
  clear h37 hB42 hb50
  refine d0 (.C 6 18 <| .E 7 25 (.int .i64 at'48) <| .E 8 26 (.int .i64 (pfxE (clsOf sp2) 1 s)) <| .C 9 7 <| .C 10 8 <| .nil) [(8, .int .i64 (pfxE (clsOf sp2) 1 s)), (7, .int .i64 at'48), (6, .pointer (some ⟨b24, 0, none⟩)), (5, .int .i64 0), (4, .int .i64 0), (1, .string s)] h47 (fun _ hS => Kw.nil hS) fun q52 h53 => ?_
  clear h47
  refine wpO_end ?_
  refine then_n ?_
  refine kS ?_
  refine rp 2 ?_
  refine b0 (.C 0 27 <| .E 1 28 (.bool (pfxE (clsOf sp2) 1 s != (0 : Int))) <| .nil) [(28, .bool (pfxE (clsOf sp2) 1 s != (0 : Int))), (8, .int .i64 (pfxE (clsOf sp2) 1 s)), (7, .int .i64 at'48), (6, .pointer (some ⟨b24, 0, none⟩)), (5, .int .i64 0), (4, .int .i64 0), (1, .string s)] h53 (Kw.nil hB51) fun q54 h55 => ?_
  clear h53
  refine wpO_end ?_
  refine then_n ?_
  refine kC 28 (pfxE (clsOf sp2) 1 s != (0 : Int)) h55 (fun hc56 => ?_) (fun hc56 => ?_)
  ·
    refine kS ?_
    refine rp 4 ?_
    refine b0 (.C 0 29 <| .C 1 30 <| .C 2 4 <| .C 3 5 <| .nil) [(5, .int .i64 (pfxE (clsOf sp2) 1 s)), (4, .int .i64 at'48), (6, .pointer (some ⟨b24, 0, none⟩)), (1, .string s)] h55 (Kw.nil hB51) fun q57 h58 => ?_
    clear h55
    refine wpO_end ?_
    refine then_n ?_
    refine c_ret (by kernel_rfl) ?_
    refine then_r ?_
    refine ret2 (t := 4) (u := 5) (v := .int .i64 at'48) (v' := .int .i64 (pfxE (clsOf sp2) 1 s)) h58 (by kernel_rfl) (by kernel_rfl) (by kernel_rfl) ?_
    exact ⟨_, _, rfl, rfl, (hbl18.trans (hB51.bel.mono hbl18.size))⟩
  refine c_skip (by kernel_rfl) ?_
  refine then_n ?_
  refine kS ?_
  refine kS ?_
  have hD59 := hB51.drew
  refine rd (Bx w12 [(b24, .cells #[.int .i64 1, .slice (some ⟨b10, 0, none⟩) 1 1, .int .i64 0, .nilFunc] 100 (0, 0))]) 17 [⟨0, true, 0, 64, 2147483648⟩, ⟨1, true, 1, 2147483648, 4294967296⟩, ⟨2, true, 2, 4294967296, 8589934592⟩, ⟨3, true, 4, 8589934592, 17179869184⟩, ⟨4, true, 8, 17179869248, 34359738368⟩, ⟨5, true, 24, 51539607552, 68719476736⟩, ⟨6, true, 8, 17179869186, 137438953472⟩, ⟨7, true, 8, 17179869248, 274877906944⟩, ⟨8, true, 136, 292057776128, 549755813888⟩, ⟨9, true, 328, 704374636544, 1099511627776⟩, ⟨11, true, 8, 17179869186, 4398046511104⟩, ⟨12, true, 8, 17179869248, 8796093022208⟩, ⟨13, true, 4104, 8813272891392, 17592186044416⟩, ⟨14, true, 10248, 22007412424704, 35184372088832⟩, ⟨10, false, 552, 1185410973696, 2199023255552⟩, ⟨15, true, 17416, 37400575213568, 70368744177664⟩, ⟨16, true, 32776, 70385924046848, 140737488355328⟩] hD59 ?_
  generalize World.drew w49 = w60 at hD59 ⊢
  refine d1 34 (rfl : false = false) (.C 0 31 <| .L 1 32 0 3 <| .E 2 33 (.bool false) <| .C 3 34 <| .K 4 35 <| .K 5 36 <| .K 6 37 <| .K 7 38 <| .K 8 39 <| .K 9 40 <| .K 11 42 <| .K 12 43 <| .K 13 44 <| .K 14 45 <| .nil) [(45, undef), (40, undef), (36, undef), (34, .bool false), (6, .pointer (some ⟨b24, 0, none⟩)), (5, .int .i64 0), (4, .int .i64 0)] h55 (fun _ hS => Kw.nil hS) fun q61 h62 => ?_
  clear h55
  refine kE 10 41 (3, true) (g3 34 (rfl : false = false)) h62 hD59 fun q63 h64 => ?_
  clear h62
  refine d1 34 (rfl : false = false) (.K 15 46 <| .E 16 47 (.bool false) <| .nil) [(47, .bool false), (6, .pointer (some ⟨b24, 0, none⟩)), (5, .int .i64 0), (4, .int .i64 0)] h64 (fun _ hS => Kw.nil hS) fun q65 h66 => ?_
  clear h64
  refine wpO_end ?_
  refine then_n ?_
  refine kC 47 false h66 (fun e67 => Bool.noConfusion (e67.symm.trans (rfl))) (fun _ => ?_)
  refine c_skip (by kernel_rfl) ?_
  refine then_n ?_
  refine kS ?_
  refine rp 2 ?_
  refine b0 (.C 0 4 <| .C 1 5 <| .nil) [(5, .int .i64 0), (4, .int .i64 0)] h66 (Kw.nil hD59) fun q68 h69 => ?_
  clear h66
  refine wpO_end ?_
  refine then_n ?_
  refine c_ret (by kernel_rfl) ?_
  refine ret2 (t := 4) (u := 5) (v := .int .i64 0) (v' := .int .i64 0) h69 (by kernel_rfl) (by kernel_rfl) (by kernel_rfl) ?_
  exact ⟨_, _, rfl, none_p _ hc56, (hbl18.trans (hD59.bel.mono hbl18.size))⟩

set_option maxHeartbeats 4000000 in
set_option maxRecDepth 20000 in
theorem c41_0 (s : ByteArray) (w : World) : Calls Tryd.prog 41 #[.int .i64 0, .string s] w fun e w' => e = .returned (.bool (isinB s)) ∧ Below w.heap.size w w' := by
  refine enter Tryd.func41 (by kernel_rfl) ?_ (by kernel_rfl)
  intro q0 h0
  replace h0 := h0.conv (l' := [(0, .int .i64 0), (1, .string s)]) rfl
  have hB := Bx.refl w
  refine kS ?_
  refine rp 1 ?_
  refine b0 (.C 0 4 <| .nil) [(4, .bool false), (0, .int .i64 0), (1, .string s)] h0 (Kw.nil hB) fun q1 h2 => ?_
  clear h0
  refine wpO_end ?_
  refine then_n ?_
  refine kS ?_
  refine rp 8 ?_
  refine b0 (.C 0 8 <| .C 1 9 <| .nil) [(9, .string s), (8, .int .i64 0), (4, .bool false)] h2 (Kw.nil hB) fun q3 h4 => ?_
  clear h2
  refine sC 2 10 h4 gok_none (c61_0 s w) ?_
  rintro _ w9 ⟨at'7, E8, rfl, hE12, hb10⟩
  have hB11 := hB.call hb10
  refine ⟨_, rfl, trivial, fun q5 h6 => ?_⟩
  clear h4 hB hb10
  refine b0 (.C 3 7 <| .E 4 11 (.int .i64 at'7) <| .E 5 12 (.int .i64 E8) <| .C 6 5 <| .C 7 6 <| .nil) [(6, .int .i64 E8), (4, .bool false)] h6 (Kw.nil hB11) fun q13 h14 => ?_
  clear h6
  refine wpO_end ?_
  refine then_n ?_
  refine kS ?_
  refine rp 3 ?_
  refine b0 (.C 0 13 <| .E 1 14 (.bool (E8 == (0 : Int))) <| .C 2 4 <| .nil) [(4, .bool (E8 == (0 : Int)))] h14 (Kw.nil hB11) fun q15 h16 => ?_
  clear h14
  refine wpO_end ?_
  refine then_n ?_
  refine c_ret (by kernel_rfl) ?_
  refine ret1 (t := 4) (v := .bool (E8 == (0 : Int))) h16 (by kernel_rfl) (by kernel_rfl) ?_
  exact ⟨ret_eq (congrArg Value.bool hE12), hB11.bel⟩

set_option maxHeartbeats 4000000 in
set_option maxRecDepth 20000 in
theorem c41_1 (s : ByteArray) (w : World) : Calls Tryd.prog 41 #[.int .i64 1, .string s] w fun e w' => e = .returned (.bool (memB s)) ∧ Below w.heap.size w w' := by
  refine enter Tryd.func41 (by kernel_rfl) ?_ (by kernel_rfl)
  intro q0 h0
  replace h0 := h0.conv (l' := [(0, .int .i64 1), (1, .string s)]) rfl
  have hB := Bx.refl w
  refine kS ?_
  refine rp 1 ?_
  refine b0 (.C 0 4 <| .nil) [(4, .bool false), (0, .int .i64 1), (1, .string s)] h0 (Kw.nil hB) fun q1 h2 => ?_
  clear h0
  refine wpO_end ?_
  refine then_n ?_
  refine kS ?_
  refine rp 8 ?_
  refine b0 (.C 0 8 <| .C 1 9 <| .nil) [(9, .string s), (8, .int .i64 1), (4, .bool false)] h2 (Kw.nil hB) fun q3 h4 => ?_
  clear h2
  refine sC 2 10 h4 gok_none (c61_1 s w) ?_
  rintro _ w9 ⟨at'7, E8, rfl, hE12, hb10⟩
  have hB11 := hB.call hb10
  refine ⟨_, rfl, trivial, fun q5 h6 => ?_⟩
  clear h4 hB hb10
  refine b0 (.C 3 7 <| .E 4 11 (.int .i64 at'7) <| .E 5 12 (.int .i64 E8) <| .C 6 5 <| .C 7 6 <| .nil) [(6, .int .i64 E8), (4, .bool false)] h6 (Kw.nil hB11) fun q13 h14 => ?_
  clear h6
  refine wpO_end ?_
  refine then_n ?_
  refine kS ?_
  refine rp 3 ?_
  refine b0 (.C 0 13 <| .E 1 14 (.bool (E8 == (0 : Int))) <| .C 2 4 <| .nil) [(4, .bool (E8 == (0 : Int)))] h14 (Kw.nil hB11) fun q15 h16 => ?_
  clear h14
  refine wpO_end ?_
  refine then_n ?_
  refine c_ret (by kernel_rfl) ?_
  refine ret1 (t := 4) (v := .bool (E8 == (0 : Int))) h16 (by kernel_rfl) (by kernel_rfl) ?_
  exact ⟨ret_eq (congrArg Value.bool hE12), hB11.bel⟩

set_option maxHeartbeats 4000000 in
set_option maxRecDepth 20000 in
theorem c41_2 (s : ByteArray) (w : World) : Calls Tryd.prog 41 #[.int .i64 2, .string s] w fun e w' => e = .returned (.bool (rfB s)) ∧ Below w.heap.size w w' := by
  refine enter Tryd.func41 (by kernel_rfl) ?_ (by kernel_rfl)
  intro q0 h0
  replace h0 := h0.conv (l' := [(0, .int .i64 2), (1, .string s)]) rfl
  have hB := Bx.refl w
  refine kS ?_
  refine rp 1 ?_
  refine b0 (.C 0 4 <| .nil) [(4, .bool false), (0, .int .i64 2), (1, .string s)] h0 (Kw.nil hB) fun q1 h2 => ?_
  clear h0
  refine wpO_end ?_
  refine then_n ?_
  refine kS ?_
  refine rp 8 ?_
  refine b0 (.C 0 8 <| .C 1 9 <| .nil) [(9, .string s), (8, .int .i64 2), (4, .bool false)] h2 (Kw.nil hB) fun q3 h4 => ?_
  clear h2
  refine sC 2 10 h4 gok_none (c61_2 s w) ?_
  rintro _ w9 ⟨at'7, E8, rfl, hE12, hb10⟩
  have hB11 := hB.call hb10
  refine ⟨_, rfl, trivial, fun q5 h6 => ?_⟩
  clear h4 hB hb10
  refine b0 (.C 3 7 <| .E 4 11 (.int .i64 at'7) <| .E 5 12 (.int .i64 E8) <| .C 6 5 <| .C 7 6 <| .nil) [(6, .int .i64 E8), (4, .bool false)] h6 (Kw.nil hB11) fun q13 h14 => ?_
  clear h6
  refine wpO_end ?_
  refine then_n ?_
  refine kS ?_
  refine rp 3 ?_
  refine b0 (.C 0 13 <| .E 1 14 (.bool (E8 == (0 : Int))) <| .C 2 4 <| .nil) [(4, .bool (E8 == (0 : Int)))] h14 (Kw.nil hB11) fun q15 h16 => ?_
  clear h14
  refine wpO_end ?_
  refine then_n ?_
  refine c_ret (by kernel_rfl) ?_
  refine ret1 (t := 4) (v := .bool (E8 == (0 : Int))) h16 (by kernel_rfl) (by kernel_rfl) ?_
  exact ⟨ret_eq (congrArg Value.bool hE12), hB11.bel⟩

end Go.Proofs.YtljegdokbifoiaaDoor.Af
