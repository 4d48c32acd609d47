/- The checks of requests and amendments, in both packages. Short lists of links. -/
import Derived.Test.YtljegdokbifoiaaDoorRq
import Derived.Test.YtljegdokbifoiaaDoorLc
namespace Go.Proofs.YtljegdokbifoiaaDoor.Af
open Go.RowKit
def rulesA (m : Am) : List (Bool × Int) := [((((!m.hasAmt) && (!m.hasDay)) && (!m.hasPrio)) && (!m.hasPart), 3), (((((!m.hasAmt) && (m.amt != (0 : Int))) || ((!m.hasDay) && (m.sday != (0 : Int)))) || ((!m.hasPrio) && (m.prio != (0 : Int)))) || ((!m.hasPart) && (m.part || (m.minlot != (0 : Int)))), 3), (!(bndB m.amt m.hasAmt), 2), (!(winB m.sday 0 73048), 28), (!(winB m.prio 0 2), 2), (!(bndB m.minlot m.part), 2)]
def chkA (m : Am) : Int := firstE (rulesA m)

set_option maxHeartbeats 4000000 in
set_option maxRecDepth 20000 in
theorem c31 (m : Am) (w : World) : Calls Tryd.prog 31 #[amV m] w fun e w' => e = .returned (.int .i64 (chkA m)) ∧ Below w.heap.size w w' := by
  refine enter Tryd.func31 (by kernel_rfl) ?_ (by kernel_rfl)
  intro q0 h0
  replace h0 := h0.conv (l' := [(0, amV m)]) rfl
  have hB := Bx.refl w
  refine kS ?_
  refine rp 2 ?_
  refine sA 0 1 (fun b => .pointer (some ⟨b, 0, none⟩)) (.cells (amV m).cells 43 (0, 0)) h0 gok_none hB (fun _ _ hq => trivial) (fun b3 w4 hB5 hN q1 h2 => ?_)
  clear h0 hB hN
  refine b0 (.C 1 2 <| .nil) [(2, .int .i64 0), (1, .pointer (some ⟨b3, 0, none⟩))] h2 (Kw.nil hB5) fun q6 h7 => ?_
  clear h2
  refine wpO_end ?_
  refine then_n ?_
  refine kS ?_
  have hD8 := hB5.drew
  refine rd (Bx w [(b3, .cells (amV m).cells 43 (0, 0))]) 89 [⟨0, true, 0, 2, 8⟩, ⟨1, true, 1, 8, 16⟩, ⟨2, true, 2, 16, 32⟩, ⟨3, true, 4, 32, 64⟩, ⟨4, true, 8, 66, 128⟩, ⟨5, true, 24, 192, 256⟩, ⟨6, true, 40, 320, 512⟩, ⟨7, true, 72, 576, 1024⟩, ⟨8, true, 136, 1024, 2048⟩, ⟨9, true, 256, 2050, 4096⟩, ⟨10, true, 768, 6144, 8192⟩, ⟨11, true, 1280, 10240, 16384⟩, ⟨12, true, 2304, 18432, 32768⟩, ⟨13, true, 4352, 32768, 65536⟩, ⟨14, true, 8192, 65538, 131072⟩, ⟨15, true, 24576, 196608, 262144⟩, ⟨16, true, 40960, 327680, 524288⟩, ⟨17, true, 73728, 589824, 1048576⟩, ⟨18, true, 131072, 1048576, 2097152⟩, ⟨19, true, 0, 2, 4194304⟩, ⟨20, true, 524288, 4194304, 8388608⟩, ⟨21, true, 1048576, 8388608, 16777216⟩, ⟨22, true, 2105344, 16777216, 33554432⟩, ⟨23, true, 4194304, 33554434, 67108864⟩, ⟨24, true, 12582912, 100663296, 134217728⟩, ⟨25, true, 20971520, 167772160, 268435456⟩, ⟨26, true, 37748736, 301989888, 536870912⟩, ⟨27, true, 71303168, 536870912, 1073741824⟩, ⟨28, true, 134217728, 1073741826, 2147483648⟩, ⟨29, true, 402653184, 3221225472, 4294967296⟩, ⟨30, true, 671088640, 5368709120, 8589934592⟩, ⟨31, true, 1207959552, 9663676416, 17179869184⟩, ⟨32, true, 2147483648, 17179869186, 34359738368⟩, ⟨33, true, 6442450944, 51539607552, 68719476736⟩, ⟨34, true, 10737418240, 85899345920, 137438953472⟩, ⟨35, true, 19461570560, 155692564480, 274877906944⟩, ⟨36, true, 34493956096, 275951648768, 549755813888⟩, ⟨37, true, 70866960384, 549755813888, 1099511627776⟩, ⟨38, true, 137438953472, 1099511627778, 2199023255552⟩, ⟨39, true, 412316860416, 3298534883328, 4398046511104⟩, ⟨40, true, 687194767360, 5497558138880, 8796093022208⟩, ⟨41, true, 1236950581248, 9895604649984, 17592186044416⟩, ⟨42, true, 2199023255552, 17592186044418, 35184372088832⟩, ⟨43, true, 6597069766656, 52776558133248, 70368744177664⟩, ⟨44, true, 10995116277760, 87960930222080, 140737488355328⟩, ⟨45, true, 19928648253440, 159429186027520, 281474976710656⟩, ⟨46, true, 35321811042304, 282574488338432, 562949953421312⟩, ⟨47, true, 72567767433216, 562949953421312, 1125899906842624⟩, ⟨48, true, 140737488355328, 1125899906842626, 2251799813685248⟩, ⟨49, true, 422212465065984, 3377699720527872, 4503599627370496⟩, ⟨50, true, 703687441776640, 5629499534213120, 9007199254740992⟩, ⟨51, true, 1266637395197952, 10133099161583616, 18014398509481984⟩, ⟨52, true, 2251799813685248, 18014398509481986, 36028797018963968⟩, ⟨53, true, 6755399441055744, 54043195528445952, 72057594037927936⟩, ⟨54, true, 11258999068426240, 90071992547409920, 144115188075855872⟩, ⟨55, true, 18014398509481984, 144115188075855874, 288230376151711744⟩, ⟨56, true, 54043195528445952, 432345564227567616, 576460752303423488⟩, ⟨57, true, 90071992547409920, 720575940379279360, 1152921504606846976⟩, ⟨58, true, 164381386399023104, 1315051091192184832, 2305843009213693952⟩, ⟨59, true, 290622913453752320, 2324983307630018560, 4611686018427387904⟩, ⟨60, true, 576601489791778816, 4612811918334230528, 9223372036854775808⟩, ⟨61, true, 1152921504606846976, 9223372036854775808, 18446744073709551616⟩, ⟨62, true, 0, 2, 36893488147419103232⟩, ⟨63, true, 4611686018427387904, 36893488147419103232, 73786976294838206464⟩, ⟨64, true, 0, 2, 147573952589676412928⟩, ⟨65, true, 18446744073709551616, 147573952589676412928, 295147905179352825856⟩, ⟨69, true, 0, 2, 4722366482869645213696⟩, ⟨70, true, 590295810358705651712, 4722366482869645213696, 9444732965739290427392⟩, ⟨74, true, 0, 2, 151115727451828646838272⟩, ⟨75, true, 18889465931478580854784, 151115727451828646838272, 302231454903657293676544⟩, ⟨79, true, 0, 2, 4835703278458516698824704⟩, ⟨80, true, 604462909807314587353088, 4835703278458516698824704, 9671406556917033397649408⟩, ⟨81, true, 0, 2, 19342813113834066795298816⟩, ⟨82, true, 2417851639229258349412352, 19342813113834066795298816, 38685626227668133590597632⟩, ⟨66, false, 46134874582783361024, 368934881474191032320, 590295810358705651712⟩, ⟨67, true, 73786976294838206464, 590295810358705651712, 1180591620717411303424⟩, ⟨68, true, 147573952589676412928, 1180591620717411303424, 2361183241434822606848⟩, ⟨71, false, 1254378597012249509888, 9444732965739290427392, 18889465931478580854784⟩, ⟨72, true, 2361183241434822606848, 18889465931478580854784, 37778931862957161709568⟩, ⟨73, true, 4722366482869645213696, 37778931862957161709568, 75557863725914323419136⟩, ⟨76, false, 40140115104391984316416, 302231454903657293676544, 604462909807314587353088⟩, ⟨77, true, 75557863725914323419136, 604462909807314587353088, 1208925819614629174706176⟩, ⟨78, true, 151115727451828646838272, 1208925819614629174706176, 2417851639229258349412352⟩, ⟨83, false, 6120186961799060196950016, 48357032784585166988247040, 77371252455336267181195264⟩, ⟨84, true, 9671406556917033397649408, 77371252455336267181195264, 154742504910672534362390528⟩, ⟨85, true, 19342813113834066795298816, 154742504910672534362390528, 309485009821345068724781056⟩, ⟨86, false, 38997599869285718741483520, 311980798954285749931868160, 618970019642690137449562112⟩, ⟨87, false, 87042659012253300578844672, 618970019642690137449562112, 1237940039285380274899124224⟩, ⟨88, true, 309485009821345068724781055, 1237940039285380274899124224, 4⟩] hD8 ?_
  generalize World.drew w4 = w9 at hD8 ⊢
  refine d0 (.C 0 3 <| .L 1 4 0 0 <| .E 2 5 (.bool (!m.hasAmt)) <| .C 3 6 <| .J 7 10 6 9 true (!m.hasAmt) (!m.hasDay) (.C 4 7 <| .L 5 8 0 1 <| .E 6 9 (.bool (!m.hasDay)) <| .nil) <| .C 8 11 <| .J 12 15 11 14 true ((!m.hasAmt) && (!m.hasDay)) (!m.hasPrio) (.C 9 12 <| .L 10 13 0 2 <| .E 11 14 (.bool (!m.hasPrio)) <| .nil) <| .C 13 16 <| .J 17 20 16 19 true (((!m.hasAmt) && (!m.hasDay)) && (!m.hasPrio)) (!m.hasPart) (.C 14 17 <| .L 15 18 0 3 <| .E 16 19 (.bool (!m.hasPart)) <| .nil) <| .E 18 21 (.agg #[.bool ((((!m.hasAmt) && (!m.hasDay)) && (!m.hasPrio)) && (!m.hasPart)), .int .i64 3]) <| .C 19 22 <| .L 20 23 0 0 <| .E 21 24 (.bool (!m.hasAmt)) <| .C 22 25 <| .J 26 29 25 28 true (!m.hasAmt) (m.amt != (0 : Int)) (.C 23 26 <| .L 24 27 0 4 <| .E 25 28 (.bool (m.amt != (0 : Int))) <| .nil) <| .C 27 30 <| .J 36 39 30 38 false ((!m.hasAmt) && (m.amt != (0 : Int))) ((!m.hasDay) && (m.sday != (0 : Int))) (.C 28 31 <| .L 29 32 0 1 <| .E 30 33 (.bool (!m.hasDay)) <| .C 31 34 <| .J 35 38 34 37 true (!m.hasDay) (m.sday != (0 : Int)) (.C 32 35 <| .L 33 36 0 5 <| .E 34 37 (.bool (m.sday != (0 : Int))) <| .nil) <| .nil) <| .C 37 40 <| .J 46 49 40 48 false (((!m.hasAmt) && (m.amt != (0 : Int))) || ((!m.hasDay) && (m.sday != (0 : Int)))) ((!m.hasPrio) && (m.prio != (0 : Int))) (.C 38 41 <| .L 39 42 0 2 <| .E 40 43 (.bool (!m.hasPrio)) <| .C 41 44 <| .J 45 48 44 47 true (!m.hasPrio) (m.prio != (0 : Int)) (.C 42 45 <| .L 43 46 0 6 <| .E 44 47 (.bool (m.prio != (0 : Int))) <| .nil) <| .nil) <| .C 47 50 <| .J 60 63 50 62 false ((((!m.hasAmt) && (m.amt != (0 : Int))) || ((!m.hasDay) && (m.sday != (0 : Int)))) || ((!m.hasPrio) && (m.prio != (0 : Int)))) ((!m.hasPart) && (m.part || (m.minlot != (0 : Int)))) (.C 48 51 <| .L 49 52 0 3 <| .E 50 53 (.bool (!m.hasPart)) <| .C 51 54 <| .J 59 62 54 61 true (!m.hasPart) (m.part || (m.minlot != (0 : Int))) (.C 52 55 <| .L 53 56 0 7 <| .C 54 57 <| .J 58 61 57 60 false m.part (m.minlot != (0 : Int)) (.C 55 58 <| .L 56 59 0 8 <| .E 57 60 (.bool (m.minlot != (0 : Int))) <| .nil) <| .nil) <| .nil) <| .E 61 64 (.agg #[.bool (((((!m.hasAmt) && (m.amt != (0 : Int))) || ((!m.hasDay) && (m.sday != (0 : Int)))) || ((!m.hasPrio) && (m.prio != (0 : Int)))) || ((!m.hasPart) && (m.part || (m.minlot != (0 : Int))))), .int .i64 3]) <| .C 62 65 <| .L 63 66 0 4 <| .C 64 67 <| .L 65 68 0 0 <| .C 69 72 <| .L 70 73 0 5 <| .C 74 77 <| .L 75 78 0 6 <| .C 79 82 <| .L 80 83 0 8 <| .C 81 84 <| .L 82 85 0 7 <| .nil) [(85, .bool m.part), (83, .int .i64 m.minlot), (78, .int .i64 m.prio), (73, .int .i64 m.sday), (68, .bool m.hasAmt), (66, .int .i64 m.amt), (64, .agg #[.bool (((((!m.hasAmt) && (m.amt != (0 : Int))) || ((!m.hasDay) && (m.sday != (0 : Int)))) || ((!m.hasPrio) && (m.prio != (0 : Int)))) || ((!m.hasPart) && (m.part || (m.minlot != (0 : Int))))), .int .i64 3]), (21, .agg #[.bool ((((!m.hasAmt) && (!m.hasDay)) && (!m.hasPrio)) && (!m.hasPart)), .int .i64 3]), (2, .int .i64 0)] h7 (fun _ hS => Kw.nil hS) fun q10 h11 => ?_
  clear h7
  refine sC 66 69 h11 gok_none (c45 m.amt m.hasAmt w9) ?_
  rintro _ w14 ⟨rfl, hb15⟩
  have hB16 := hD8.call hb15
  refine ⟨_, rfl, hB16, fun q12 h13 => ?_⟩
  clear h11 hD8 hb15
  refine d0 (.E 67 70 (.bool (!(bndB m.amt m.hasAmt))) <| .E 68 71 (.agg #[.bool (!(bndB m.amt m.hasAmt)), .int .i64 2]) <| .nil) [(71, .agg #[.bool (!(bndB m.amt m.hasAmt)), .int .i64 2]), (85, .bool m.part), (83, .int .i64 m.minlot), (78, .int .i64 m.prio), (73, .int .i64 m.sday), (64, .agg #[.bool (((((!m.hasAmt) && (m.amt != (0 : Int))) || ((!m.hasDay) && (m.sday != (0 : Int)))) || ((!m.hasPrio) && (m.prio != (0 : Int)))) || ((!m.hasPart) && (m.part || (m.minlot != (0 : Int))))), .int .i64 3]), (21, .agg #[.bool ((((!m.hasAmt) && (!m.hasDay)) && (!m.hasPrio)) && (!m.hasPart)), .int .i64 3]), (2, .int .i64 0)] h13 (fun _ hS => Kw.nil hS) fun q17 h18 => ?_
  clear h13
  refine sC 71 74 h18 gok_none (c40 m.sday 0 73048 w14) ?_
  rintro _ w21 ⟨rfl, hb22⟩
  have hB23 := hB16.call hb22
  refine ⟨_, rfl, hB23, fun q19 h20 => ?_⟩
  clear h18 hB16 hb22
  refine d0 (.E 72 75 (.bool (!(winB m.sday 0 73048))) <| .E 73 76 (.agg #[.bool (!(winB m.sday 0 73048)), .int .i64 28]) <| .nil) [(76, .agg #[.bool (!(winB m.sday 0 73048)), .int .i64 28]), (71, .agg #[.bool (!(bndB m.amt m.hasAmt)), .int .i64 2]), (85, .bool m.part), (83, .int .i64 m.minlot), (78, .int .i64 m.prio), (64, .agg #[.bool (((((!m.hasAmt) && (m.amt != (0 : Int))) || ((!m.hasDay) && (m.sday != (0 : Int)))) || ((!m.hasPrio) && (m.prio != (0 : Int)))) || ((!m.hasPart) && (m.part || (m.minlot != (0 : Int))))), .int .i64 3]), (21, .agg #[.bool ((((!m.hasAmt) && (!m.hasDay)) && (!m.hasPrio)) && (!m.hasPart)), .int .i64 3]), (2, .int .i64 0)] h20 (fun _ hS => Kw.nil hS) fun q24 h25 => ?_
  clear h20
  refine sC 76 79 h25 gok_none (c40 m.prio 0 2 w21) ?_
  rintro _ w28 ⟨rfl, hb29⟩
  have hB30 := hB23.call hb29
  refine ⟨_, rfl, hB30, fun q26 h27 => ?_⟩
  clear h25 hB23 hb29
  refine d0 (.E 77 80 (.bool (!(winB m.prio 0 2))) <| .E 78 81 (.agg #[.bool (!(winB m.prio 0 2)), .int .i64 2]) <| .nil) [(81, .agg #[.bool (!(winB m.prio 0 2)), .int .i64 2]), (76, .agg #[.bool (!(winB m.sday 0 73048)), .int .i64 28]), (71, .agg #[.bool (!(bndB m.amt m.hasAmt)), .int .i64 2]), (85, .bool m.part), (83, .int .i64 m.minlot), (64, .agg #[.bool (((((!m.hasAmt) && (m.amt != (0 : Int))) || ((!m.hasDay) && (m.sday != (0 : Int)))) || ((!m.hasPrio) && (m.prio != (0 : Int)))) || ((!m.hasPart) && (m.part || (m.minlot != (0 : Int))))), .int .i64 3]), (21, .agg #[.bool ((((!m.hasAmt) && (!m.hasDay)) && (!m.hasPrio)) && (!m.hasPart)), .int .i64 3]), (2, .int .i64 0)] h27 (fun _ hS => Kw.nil hS) fun q31 h32 => ?_
  clear h27
  refine sC 83 86 h32 gok_none (c45 m.minlot m.part w28) ?_
  rintro _ w35 ⟨rfl, hb36⟩
  have hB37 := hB30.call hb36
  refine ⟨_, rfl, hB37, fun q33 h34 => ?_⟩
  clear h32 hB30 hb36
  refine d0 (.E 84 87 (.bool (!(bndB m.minlot m.part))) <| .E 85 88 (.agg #[.bool (!(bndB m.minlot m.part)), .int .i64 2]) <| .nil) [(88, .agg #[.bool (!(bndB m.minlot m.part)), .int .i64 2]), (81, .agg #[.bool (!(winB m.prio 0 2)), .int .i64 2]), (76, .agg #[.bool (!(winB m.sday 0 73048)), .int .i64 28]), (71, .agg #[.bool (!(bndB m.amt m.hasAmt)), .int .i64 2]), (64, .agg #[.bool (((((!m.hasAmt) && (m.amt != (0 : Int))) || ((!m.hasDay) && (m.sday != (0 : Int)))) || ((!m.hasPrio) && (m.prio != (0 : Int)))) || ((!m.hasPart) && (m.part || (m.minlot != (0 : Int))))), .int .i64 3]), (21, .agg #[.bool ((((!m.hasAmt) && (!m.hasDay)) && (!m.hasPrio)) && (!m.hasPart)), .int .i64 3]), (2, .int .i64 0)] h34 (fun _ hS => Kw.nil hS) fun q38 h39 => ?_
  clear h34
  refine sA 86 89 (fun b => .slice (some ⟨b, 0, none⟩) 6 6) (.cells #[.bool ((((!m.hasAmt) && (!m.hasDay)) && (!m.hasPrio)) && (!m.hasPart)), .int .i64 3, .bool (((((!m.hasAmt) && (m.amt != (0 : Int))) || ((!m.hasDay) && (m.sday != (0 : Int)))) || ((!m.hasPrio) && (m.prio != (0 : Int)))) || ((!m.hasPart) && (m.part || (m.minlot != (0 : Int))))), .int .i64 3, .bool (!(bndB m.amt m.hasAmt)), .int .i64 2, .bool (!(winB m.sday 0 73048)), .int .i64 28, .bool (!(winB m.prio 0 2)), .int .i64 2, .bool (!(bndB m.minlot m.part)), .int .i64 2] 71 (0, 0)) h39 gok_none hB37 (fun _ _ hq => hq.tail) (fun b42 w43 hB44 hN q40 h41 => ?_)
  clear h39 hB37 hN
  refine sC 87 90 h41 gok_none (c39 ([((((!m.hasAmt) && (!m.hasDay)) && (!m.hasPrio)) && (!m.hasPart), 3), (((((!m.hasAmt) && (m.amt != (0 : Int))) || ((!m.hasDay) && (m.sday != (0 : Int)))) || ((!m.hasPrio) && (m.prio != (0 : Int)))) || ((!m.hasPart) && (m.part || (m.minlot != (0 : Int)))), 3), (!(bndB m.amt m.hasAmt), 2), (!(winB m.sday 0 73048), 28), (!(winB m.prio 0 2), 2), (!(bndB m.minlot m.part), 2)] : List (Bool × Int)) (some ⟨b42, 0, none⟩) 6 w43 (Nat.le_of_ble_eq_true rfl) (show Rd _ _ (rulec ([((((!m.hasAmt) && (!m.hasDay)) && (!m.hasPrio)) && (!m.hasPart), 3), (((((!m.hasAmt) && (m.amt != (0 : Int))) || ((!m.hasDay) && (m.sday != (0 : Int)))) || ((!m.hasPrio) && (m.prio != (0 : Int)))) || ((!m.hasPart) && (m.part || (m.minlot != (0 : Int)))), 3), (!(bndB m.amt m.hasAmt), 2), (!(winB m.sday 0 73048), 28), (!(winB m.prio 0 2), 2), (!(bndB m.minlot m.part), 2)] : List (Bool × Int))) from Rd.of_blk (hB44.at 0 rfl))) ?_
  rintro _ w47 ⟨rfl, hb48⟩
  have hB49 := hB44.call hb48
  refine ⟨_, rfl, hB49.tail, fun q45 h46 => ?_⟩
  clear h41 hB44 hb48
  refine d0 (.C 88 2 <| .nil) [(2, .int .i64 (firstE ([((((!m.hasAmt) && (!m.hasDay)) && (!m.hasPrio)) && (!m.hasPart), 3), (((((!m.hasAmt) && (m.amt != (0 : Int))) || ((!m.hasDay) && (m.sday != (0 : Int)))) || ((!m.hasPrio) && (m.prio != (0 : Int)))) || ((!m.hasPart) && (m.part || (m.minlot != (0 : Int)))), 3), (!(bndB m.amt m.hasAmt), 2), (!(winB m.sday 0 73048), 28), (!(winB m.prio 0 2), 2), (!(bndB m.minlot m.part), 2)] : List (Bool × Int))))] h46 (fun _ hS => Kw.nil hS) fun q50 h51 => ?_
  clear h46
  refine wpO_end ?_
  refine then_n ?_
  refine c_ret (by kernel_rfl) ?_
  refine ret1 (t := 2) (v := .int .i64 (firstE ([((((!m.hasAmt) && (!m.hasDay)) && (!m.hasPrio)) && (!m.hasPart), 3), (((((!m.hasAmt) && (m.amt != (0 : Int))) || ((!m.hasDay) && (m.sday != (0 : Int)))) || ((!m.hasPrio) && (m.prio != (0 : Int)))) || ((!m.hasPart) && (m.part || (m.minlot != (0 : Int)))), 3), (!(bndB m.amt m.hasAmt), 2), (!(winB m.sday 0 73048), 28), (!(winB m.prio 0 2), 2), (!(bndB m.minlot m.part), 2)] : List (Bool × Int)))) h51 (by kernel_rfl) (by kernel_rfl) ?_
  exact ⟨ret_eq (rfl), hB49.bel⟩

def rulesAR (m : Am) : List (Bool × Int) := [((((!m.hasAmt) && (!m.hasDay)) && (!m.hasPrio)) && (!m.hasPart), 3), (((((!m.hasAmt) && (m.amt != (0 : Int))) || ((!m.hasDay) && (m.sday != (0 : Int)))) || ((!m.hasPrio) && (m.prio != (0 : Int)))) || ((!m.hasPart) && (m.part || (m.minlot != (0 : Int)))), 3), (m.hasAmt && ((decide (m.amt < (1 : Int))) || (decide ((1000000000000000 : Int) < m.amt))), 2), (m.hasDay && (!(dayB m.sday)), 28), (m.hasPrio && ((decide (m.prio < (0 : Int))) || (decide ((2 : Int) < m.prio))), 2), (m.hasPart && ((m.part && ((decide (m.minlot < (1 : Int))) || (decide ((1000000000000000 : Int) < m.minlot)))) || ((!m.part) && (m.minlot != (0 : Int)))), 2)]
def refA (m : Am) : Int := refTop (rulesAR m) 0

set_option maxHeartbeats 4000000 in
set_option maxRecDepth 20000 in
theorem c32 (m : Am) (w : World) : Calls Tryd.prog 32 #[amV m] w fun e w' => e = .returned (.int .i64 (refA m)) ∧ Below w.heap.size w w' := by
  refine enter Tryd.func32 (by kernel_rfl) ?_ (by kernel_rfl)
  intro q0 h0
  replace h0 := h0.conv (l' := [(0, amV m)]) rfl
  have hB := Bx.refl w
  refine kS ?_
  refine rp 2 ?_
  refine sA 0 1 (fun b => .pointer (some ⟨b, 0, none⟩)) (.cells (amV m).cells 40 (0, 0)) h0 gok_none hB (fun _ _ hq => trivial) (fun b3 w4 hB5 hN q1 h2 => ?_)
  clear h0 hB hN
  refine b0 (.C 1 2 <| .nil) [(2, .int .i64 0), (1, .pointer (some ⟨b3, 0, none⟩))] h2 (Kw.nil hB5) fun q6 h7 => ?_
  clear h2
  refine wpO_end ?_
  refine then_n ?_
  refine kS ?_
  refine kS ?_
  refine rp 18 ?_
  refine b0 (.C 0 3 <| .L 1 4 0 0 <| .E 2 5 (.bool (!m.hasAmt)) <| .C 3 6 <| .J 7 10 6 9 true (!m.hasAmt) (!m.hasDay) (.C 4 7 <| .L 5 8 0 1 <| .E 6 9 (.bool (!m.hasDay)) <| .nil) <| .C 8 11 <| .J 12 15 11 14 true ((!m.hasAmt) && (!m.hasDay)) (!m.hasPrio) (.C 9 12 <| .L 10 13 0 2 <| .E 11 14 (.bool (!m.hasPrio)) <| .nil) <| .C 13 16 <| .J 17 20 16 19 true (((!m.hasAmt) && (!m.hasDay)) && (!m.hasPrio)) (!m.hasPart) (.C 14 17 <| .L 15 18 0 3 <| .E 16 19 (.bool (!m.hasPart)) <| .nil) <| .nil) [(20, .bool ((((!m.hasAmt) && (!m.hasDay)) && (!m.hasPrio)) && (!m.hasPart))), (2, .int .i64 0), (1, .pointer (some ⟨b3, 0, none⟩))] h7 (Kw.nil hB5) fun q8 h9 => ?_
  clear h7
  refine wpO_end ?_
  refine then_n ?_
  refine kC 20 ((((!m.hasAmt) && (!m.hasDay)) && (!m.hasPrio)) && (!m.hasPart)) h9 (fun hc10 => ?_) (fun hc10 => ?_)
  ·
    refine kS ?_
    refine rp 1 ?_
    refine b0 (.C 0 2 <| .nil) [(2, .int .i64 3), (1, .pointer (some ⟨b3, 0, none⟩))] h9 (Kw.nil hB5) fun q11 h12 => ?_
    clear h9
    refine wpO_end ?_
    refine then_n ?_
    refine c_ret (by kernel_rfl) ?_
    refine then_r ?_
    refine ret1 (t := 2) (v := .int .i64 3) h12 (by kernel_rfl) (by kernel_rfl) ?_
    exact ⟨ret_eq (congrArg (Value.int .i64) (show refA m = 3 from cT hc10).symm), hB5.bel⟩
  refine c_skip (by kernel_rfl) ?_
  refine then_n ?_
  refine kS ?_
  refine kS ?_
  refine rp 42 ?_
  refine b0 (.C 0 21 <| .L 1 22 0 0 <| .E 2 23 (.bool (!m.hasAmt)) <| .C 3 24 <| .J 7 28 24 27 true (!m.hasAmt) (m.amt != (0 : Int)) (.C 4 25 <| .L 5 26 0 4 <| .E 6 27 (.bool (m.amt != (0 : Int))) <| .nil) <| .C 8 29 <| .J 17 38 29 37 false ((!m.hasAmt) && (m.amt != (0 : Int))) ((!m.hasDay) && (m.sday != (0 : Int))) (.C 9 30 <| .L 10 31 0 1 <| .E 11 32 (.bool (!m.hasDay)) <| .C 12 33 <| .J 16 37 33 36 true (!m.hasDay) (m.sday != (0 : Int)) (.C 13 34 <| .L 14 35 0 5 <| .E 15 36 (.bool (m.sday != (0 : Int))) <| .nil) <| .nil) <| .C 18 39 <| .J 27 48 39 47 false (((!m.hasAmt) && (m.amt != (0 : Int))) || ((!m.hasDay) && (m.sday != (0 : Int)))) ((!m.hasPrio) && (m.prio != (0 : Int))) (.C 19 40 <| .L 20 41 0 2 <| .E 21 42 (.bool (!m.hasPrio)) <| .C 22 43 <| .J 26 47 43 46 true (!m.hasPrio) (m.prio != (0 : Int)) (.C 23 44 <| .L 24 45 0 6 <| .E 25 46 (.bool (m.prio != (0 : Int))) <| .nil) <| .nil) <| .C 28 49 <| .J 41 62 49 61 false ((((!m.hasAmt) && (m.amt != (0 : Int))) || ((!m.hasDay) && (m.sday != (0 : Int)))) || ((!m.hasPrio) && (m.prio != (0 : Int)))) ((!m.hasPart) && (m.part || (m.minlot != (0 : Int)))) (.C 29 50 <| .L 30 51 0 3 <| .E 31 52 (.bool (!m.hasPart)) <| .C 32 53 <| .J 40 61 53 60 true (!m.hasPart) (m.part || (m.minlot != (0 : Int))) (.C 33 54 <| .L 34 55 0 7 <| .C 35 56 <| .J 39 60 56 59 false m.part (m.minlot != (0 : Int)) (.C 36 57 <| .L 37 58 0 8 <| .E 38 59 (.bool (m.minlot != (0 : Int))) <| .nil) <| .nil) <| .nil) <| .nil) [(62, .bool (((((!m.hasAmt) && (m.amt != (0 : Int))) || ((!m.hasDay) && (m.sday != (0 : Int)))) || ((!m.hasPrio) && (m.prio != (0 : Int)))) || ((!m.hasPart) && (m.part || (m.minlot != (0 : Int)))))), (2, .int .i64 0), (1, .pointer (some ⟨b3, 0, none⟩))] h9 (Kw.nil hB5) fun q13 h14 => ?_
  clear h9
  refine wpO_end ?_
  refine then_n ?_
  refine kC 62 (((((!m.hasAmt) && (m.amt != (0 : Int))) || ((!m.hasDay) && (m.sday != (0 : Int)))) || ((!m.hasPrio) && (m.prio != (0 : Int)))) || ((!m.hasPart) && (m.part || (m.minlot != (0 : Int))))) h14 (fun hc15 => ?_) (fun hc15 => ?_)
  ·
    refine kS ?_
    refine rp 1 ?_
    refine b0 (.C 0 2 <| .nil) [(2, .int .i64 3), (1, .pointer (some ⟨b3, 0, none⟩))] h14 (Kw.nil hB5) fun q16 h17 => ?_
    clear h14
    refine wpO_end ?_
    refine then_n ?_
    refine c_ret (by kernel_rfl) ?_
    refine then_r ?_
    refine ret1 (t := 2) (v := .int .i64 3) h17 (by kernel_rfl) (by kernel_rfl) ?_
    exact ⟨ret_eq (congrArg (Value.int .i64) (show refA m = 3 from (cF hc10).trans (cT hc15)).symm), hB5.bel⟩
  refine c_skip (by kernel_rfl) ?_
  refine then_n ?_
  refine kS ?_
  refine kS ?_
  refine rp 12 ?_
  refine b0 (.C 0 63 <| .L 1 64 0 0 <| .C 2 65 <| .J 11 74 65 73 true m.hasAmt ((decide (m.amt < (1 : Int))) || (decide ((1000000000000000 : Int) < m.amt))) (.C 3 66 <| .L 4 67 0 4 <| .E 5 68 (.bool (decide (m.amt < (1 : Int)))) <| .C 6 69 <| .J 10 73 69 72 false (decide (m.amt < (1 : Int))) (decide ((1000000000000000 : Int) < m.amt)) (.C 7 70 <| .L 8 71 0 4 <| .E 9 72 (.bool (decide ((1000000000000000 : Int) < m.amt))) <| .nil) <| .nil) <| .nil) [(74, .bool (m.hasAmt && ((decide (m.amt < (1 : Int))) || (decide ((1000000000000000 : Int) < m.amt))))), (2, .int .i64 0), (1, .pointer (some ⟨b3, 0, none⟩))] h14 (Kw.nil hB5) fun q18 h19 => ?_
  clear h14
  refine wpO_end ?_
  refine then_n ?_
  refine kC 74 (m.hasAmt && ((decide (m.amt < (1 : Int))) || (decide ((1000000000000000 : Int) < m.amt)))) h19 (fun hc20 => ?_) (fun hc20 => ?_)
  ·
    refine kS ?_
    refine rp 1 ?_
    refine b0 (.C 0 2 <| .nil) [(2, .int .i64 2), (1, .pointer (some ⟨b3, 0, none⟩))] h19 (Kw.nil hB5) fun q21 h22 => ?_
    clear h19
    refine wpO_end ?_
    refine then_n ?_
    refine c_ret (by kernel_rfl) ?_
    refine then_r ?_
    refine ret1 (t := 2) (v := .int .i64 2) h22 (by kernel_rfl) (by kernel_rfl) ?_
    exact ⟨ret_eq (congrArg (Value.int .i64) (show refA m = 2 from (cF hc10).trans ((cF hc15).trans (cT hc20))).symm), hB5.bel⟩
  refine c_skip (by kernel_rfl) ?_
  refine then_n ?_
  refine kS ?_
  refine kS ?_
  refine rp 8 ?_
  refine b0 (.C 0 75 <| .L 1 76 0 1 <| .C 2 77 <| .nil) [(77, .bool m.hasDay), (2, .int .i64 0), (1, .pointer (some ⟨b3, 0, none⟩))] h19 (Kw.nil hB5) fun q23 h24 => ?_
  clear h19
  refine wpO_cut [(3, false), (4, false), (5, false), (6, false), (7, false)] [] (fun qa qw => Fr 121 [(82, .bool (m.hasDay && (!(dayB m.sday)))), (2, .int .i64 0), (1, .pointer (some ⟨b3, 0, none⟩))] qa ∧ Bx w [(b3, .cells (amV m).cells 40 (0, 0))] qw) ?_ ?_
  ·
    rcases Bool.eq_false_or_eq_true m.hasDay with hc25 | hc25
    ·
      refine b1 77 hc25 (.C 3 78 <| .L 4 79 0 5 <| .nil) [(79, .int .i64 m.sday), (77, .bool m.hasDay), (2, .int .i64 0), (1, .pointer (some ⟨b3, 0, none⟩))] h24 (Kw.nil hB5) fun q26 h27 => ?_
      clear h24
      refine sC 5 80 (g := (some (2, true))) h27 (g1 77 hc25) (c51 m.sday w4) ?_
      rintro _ w30 ⟨rfl, hb31⟩
      have hB32 := hB5.call hb31
      refine ⟨_, rfl, trivial, fun q28 h29 => ?_⟩
      clear h27 hB5 hb31
      refine b1 77 hc25 (.E 6 81 (.bool (!(dayB m.sday))) <| .nil) [(81, .bool (!(dayB m.sday))), (77, .bool m.hasDay), (2, .int .i64 0), (1, .pointer (some ⟨b3, 0, none⟩))] h29 (Kw.nil hB32) fun q33 h34 => ?_
      clear h29
      refine eE 7 82 (.pick (.tmp 77) (.tmp 81) (.const (.bool false))) 4 (.bool (m.hasDay && (!(dayB m.sday)))) h34 (hr := r_and (c := m.hasDay) (d := (!(dayB m.sday))) (by kernel_rfl) (fun _ => by kernel_rfl)) fun q35 h36 => ?_
      clear h34
      exact ⟨h36.keep _ ⟨rfl, rfl, rfl, trivial⟩, hB32⟩
    ·
      refine b1 77 hc25 (.K 3 78 <| .K 4 79 <| .K 5 80 <| .K 6 81 <| .nil) [(81, undef), (77, .bool m.hasDay), (2, .int .i64 0), (1, .pointer (some ⟨b3, 0, none⟩))] h24 (Kw.nil hB5) fun q37 h38 => ?_
      clear h24
      refine eE 7 82 (.pick (.tmp 77) (.tmp 81) (.const (.bool false))) 4 (.bool (m.hasDay && (!(dayB m.sday)))) h38 (hr := r_and (c := m.hasDay) (d := (!(dayB m.sday))) (by kernel_rfl) (fun e41 => Bool.noConfusion (e41.symm.trans hc25))) fun q39 h40 => ?_
      clear h38
      exact ⟨h40.keep _ ⟨rfl, rfl, rfl, trivial⟩, hB5⟩
  rintro q42 w43 ⟨h44, hB45⟩
  refine wpO_end ?_
  refine then_n ?_
  refine kC 82 (m.hasDay && (!(dayB m.sday))) h44 (fun hc46 => ?_) (fun hc46 => ?_)
  ·
    refine kS ?_
    refine rp 1 ?_
    refine b0 (.C 0 2 <| .nil) [(2, .int .i64 28), (1, .pointer (some ⟨b3, 0, none⟩))] h44 (Kw.nil hB45) fun q47 h48 => ?_
    clear h44
    refine wpO_end ?_
    refine then_n ?_
    refine c_ret (by kernel_rfl) ?_
    refine then_r ?_
    refine ret1 (t := 2) (v := .int .i64 28) h48 (by kernel_rfl) (by kernel_rfl) ?_
    exact ⟨ret_eq (congrArg (Value.int .i64) (show refA m = 28 from (cF hc10).trans ((cF hc15).trans ((cF hc20).trans (cT hc46)))).symm), hB45.bel⟩
  refine c_skip (by kernel_rfl) ?_
  refine then_n ?_
  refine kS ?_
  refine kS ?_
  refine rp 12 ?_
  refine b0 (.C 0 83 <| .L 1 84 0 2 <| .C 2 85 <| .J 11 94 85 93 true m.hasPrio ((decide (m.prio < (0 : Int))) || (decide ((2 : Int) < m.prio))) (.C 3 86 <| .L 4 87 0 6 <| .E 5 88 (.bool (decide (m.prio < (0 : Int)))) <| .C 6 89 <| .J 10 93 89 92 false (decide (m.prio < (0 : Int))) (decide ((2 : Int) < m.prio)) (.C 7 90 <| .L 8 91 0 6 <| .E 9 92 (.bool (decide ((2 : Int) < m.prio))) <| .nil) <| .nil) <| .nil) [(94, .bool (m.hasPrio && ((decide (m.prio < (0 : Int))) || (decide ((2 : Int) < m.prio))))), (2, .int .i64 0), (1, .pointer (some ⟨b3, 0, none⟩))] h44 (Kw.nil hB45) fun q49 h50 => ?_
  clear h44
  refine wpO_end ?_
  refine then_n ?_
  refine kC 94 (m.hasPrio && ((decide (m.prio < (0 : Int))) || (decide ((2 : Int) < m.prio)))) h50 (fun hc51 => ?_) (fun hc51 => ?_)
  ·
    refine kS ?_
    refine rp 1 ?_
    refine b0 (.C 0 2 <| .nil) [(2, .int .i64 2), (1, .pointer (some ⟨b3, 0, none⟩))] h50 (Kw.nil hB45) fun q52 h53 => ?_
    clear h50
    refine wpO_end ?_
    refine then_n ?_
    refine c_ret (by kernel_rfl) ?_
    refine then_r ?_
    refine ret1 (t := 2) (v := .int .i64 2) h53 (by kernel_rfl) (by kernel_rfl) ?_
    exact ⟨ret_eq (congrArg (Value.int .i64) (show refA m = 2 from (cF hc10).trans ((cF hc15).trans ((cF hc20).trans ((cF hc46).trans (cT hc51))))).symm), hB45.bel⟩
  refine c_skip (by kernel_rfl) ?_
  refine then_n ?_
  refine kS ?_
  refine kS ?_
  refine rp 26 ?_
  refine b0 (.C 0 95 <| .L 1 96 0 3 <| .C 2 97 <| .J 25 120 97 119 true m.hasPart ((m.part && ((decide (m.minlot < (1 : Int))) || (decide ((1000000000000000 : Int) < m.minlot)))) || ((!m.part) && (m.minlot != (0 : Int)))) (.C 3 98 <| .L 4 99 0 7 <| .C 5 100 <| .J 14 109 100 108 true m.part ((decide (m.minlot < (1 : Int))) || (decide ((1000000000000000 : Int) < m.minlot))) (.C 6 101 <| .L 7 102 0 8 <| .E 8 103 (.bool (decide (m.minlot < (1 : Int)))) <| .C 9 104 <| .J 13 108 104 107 false (decide (m.minlot < (1 : Int))) (decide ((1000000000000000 : Int) < m.minlot)) (.C 10 105 <| .L 11 106 0 8 <| .E 12 107 (.bool (decide ((1000000000000000 : Int) < m.minlot))) <| .nil) <| .nil) <| .C 15 110 <| .J 24 119 110 118 false (m.part && ((decide (m.minlot < (1 : Int))) || (decide ((1000000000000000 : Int) < m.minlot)))) ((!m.part) && (m.minlot != (0 : Int))) (.C 16 111 <| .L 17 112 0 7 <| .E 18 113 (.bool (!m.part)) <| .C 19 114 <| .J 23 118 114 117 true (!m.part) (m.minlot != (0 : Int)) (.C 20 115 <| .L 21 116 0 8 <| .E 22 117 (.bool (m.minlot != (0 : Int))) <| .nil) <| .nil) <| .nil) <| .nil) [(120, .bool (m.hasPart && ((m.part && ((decide (m.minlot < (1 : Int))) || (decide ((1000000000000000 : Int) < m.minlot)))) || ((!m.part) && (m.minlot != (0 : Int)))))), (2, .int .i64 0)] h50 (Kw.nil hB45) fun q54 h55 => ?_
  clear h50
  refine wpO_end ?_
  refine then_n ?_
  refine kC 120 (m.hasPart && ((m.part && ((decide (m.minlot < (1 : Int))) || (decide ((1000000000000000 : Int) < m.minlot)))) || ((!m.part) && (m.minlot != (0 : Int))))) h55 (fun hc56 => ?_) (fun hc56 => ?_)
  ·
    refine kS ?_
    refine rp 1 ?_
    refine b0 (.C 0 2 <| .nil) [(2, .int .i64 2)] h55 (Kw.nil hB45) fun q57 h58 => ?_
    clear h55
    refine wpO_end ?_
    refine then_n ?_
    refine c_ret (by kernel_rfl) ?_
    refine then_r ?_
    refine ret1 (t := 2) (v := .int .i64 2) h58 (by kernel_rfl) (by kernel_rfl) ?_
    exact ⟨ret_eq (congrArg (Value.int .i64) (show refA m = 2 from (cF hc10).trans ((cF hc15).trans ((cF hc20).trans ((cF hc46).trans ((cF hc51).trans (cT hc56)))))).symm), hB45.bel⟩
  refine c_skip (by kernel_rfl) ?_
  refine then_n ?_
  refine kS ?_
  refine rp 1 ?_
  refine b0 (.C 0 2 <| .nil) [(2, .int .i64 0)] h55 (Kw.nil hB45) fun q59 h60 => ?_
  clear h55
  refine wpO_end ?_
  refine then_n ?_
  refine c_ret (by kernel_rfl) ?_
  refine ret1 (t := 2) (v := .int .i64 0) h60 (by kernel_rfl) (by kernel_rfl) ?_
  exact ⟨ret_eq (congrArg (Value.int .i64) (show refA m = 0 from (cF hc10).trans ((cF hc15).trans ((cF hc20).trans ((cF hc46).trans ((cF hc51).trans (cF hc56)))))).symm), hB45.bel⟩

def rQ1 (q : Rq) : List (Bool × Int) := [(!(winB q.op 0 4), 11), (!(memB q.sender), 6), (!(rfB q.ref), 6)]
def rQ2 (q : Rq) : List (Bool × Int) := [((q.ins.ref.toList != q.ref.toList) || (q.ins.sender.toList != q.sender.toList), 17)]
def rQ3 (q : Rq) : List (Bool × Int) := [(!(insEq q.ins (⟨(⟨#[]⟩ : ByteArray), 0, (⟨#[]⟩ : ByteArray), (⟨#[]⟩ : ByteArray), 0, (⟨#[]⟩ : ByteArray), 0, 0, 0, 0, 0, false, 0, false, false, []⟩ : Ins)), 3)]
def rQ4 (q : Rq) : List (Bool × Int) := [(!(amEq q.am (⟨false, false, false, false, 0, 0, 0, false, 0⟩ : Am)), 3)]
def tailQ (q : Rq) (e : Int) : Int := bif e != 0 then e else bif q.op == 1 then chkA q.am else firstE (rQ4 q)
def chkQ (q : Rq) : Int := bif firstE (rQ1 q) != 0 then firstE (rQ1 q) else bif q.op == 0 then (bif chkI q.ins != 0 then chkI q.ins else tailQ q (firstE (rQ2 q))) else tailQ q (firstE (rQ3 q))

set_option maxHeartbeats 4000000 in
set_option maxRecDepth 20000 in
theorem c28 (q : Rq) (A : Option Addr) (c : Nat) (w : World) (hn : q.ins.links.length ≤ 4611686018427387904) (hc : q.ins.links.length ≤ c) (hr : Rd w A (lkc q.ins.links)) : Calls Tryd.prog 28 #[rqV q A c] w fun e w' => e = .returned (.int .i64 (chkQ q)) ∧ Below w.heap.size w w' := by
  refine enter Tryd.func28 (by kernel_rfl) ?_ (by kernel_rfl)
  intro q0 h0
  replace h0 := h0.conv (l' := [(0, rqV q A c)]) rfl
  have hB := Bx.refl w
  refine kS ?_
  refine rp 2 ?_
  refine sA 0 1 (fun b => .pointer (some ⟨b, 0, none⟩)) (.cells (rqV q A c).cells 45 (0, 0)) h0 gok_none hB (fun _ _ hq => trivial) (fun b3 w4 hB5 hN q1 h2 => ?_)
  clear h0 hB hN
  refine b0 (.C 1 2 <| .nil) [(2, .int .i64 0), (1, .pointer (some ⟨b3, 0, none⟩))] h2 (Kw.nil hB5) fun q6 h7 => ?_
  clear h2
  refine wpO_end ?_
  refine then_n ?_
  refine kS ?_
  have hD8 := hB5.drew
  refine rd (Bx w [(b3, .cells (rqV q A c).cells 45 (0, 0))]) 18 [⟨0, true, 0, 2, 32⟩, ⟨1, true, 1, 32, 64⟩, ⟨5, true, 0, 2, 1024⟩, ⟨6, true, 32, 1024, 2048⟩, ⟨10, true, 0, 2, 32768⟩, ⟨11, true, 1024, 32768, 65536⟩, ⟨2, false, 2, 64, 128⟩, ⟨3, true, 4, 128, 256⟩, ⟨4, true, 8, 256, 512⟩, ⟨7, false, 68, 2048, 4096⟩, ⟨8, true, 128, 4096, 8192⟩, ⟨9, true, 256, 8192, 16384⟩, ⟨12, false, 2176, 65536, 131072⟩, ⟨13, true, 4096, 131072, 262144⟩, ⟨14, true, 8192, 262144, 524288⟩, ⟨15, false, 16912, 541184, 1048576⟩, ⟨16, false, 36864, 1048576, 2097152⟩, ⟨17, true, 131071, 2097152, 8⟩] hD8 ?_
  generalize World.drew w4 = w9 at hD8 ⊢
  refine d0 (.C 0 5 <| .L 1 6 0 0 <| .C 5 10 <| .L 6 11 0 1 <| .C 10 15 <| .L 11 16 0 2 <| .nil) [(16, .string q.ref), (11, .string q.sender), (6, .int .i64 q.op), (2, .int .i64 0), (1, .pointer (some ⟨b3, 0, none⟩))] h7 (fun _ hS => Kw.nil hS) fun q10 h11 => ?_
  clear h7
  refine sC 2 7 h11 gok_none (c40 q.op 0 4 w9) ?_
  rintro _ w14 ⟨rfl, hb15⟩
  have hB16 := hD8.call hb15
  refine ⟨_, rfl, hB16, fun q12 h13 => ?_⟩
  clear h11 hD8 hb15
  refine d0 (.E 3 8 (.bool (!(winB q.op 0 4))) <| .E 4 9 (.agg #[.bool (!(winB q.op 0 4)), .int .i64 11]) <| .nil) [(9, .agg #[.bool (!(winB q.op 0 4)), .int .i64 11]), (16, .string q.ref), (11, .string q.sender), (2, .int .i64 0), (1, .pointer (some ⟨b3, 0, none⟩))] h13 (fun _ hS => Kw.nil hS) fun q17 h18 => ?_
  clear h13
  refine sC 7 12 h18 gok_none (c41_1 q.sender w14) ?_
  rintro _ w21 ⟨rfl, hb22⟩
  have hB23 := hB16.call hb22
  refine ⟨_, rfl, hB23, fun q19 h20 => ?_⟩
  clear h18 hB16 hb22
  refine d0 (.E 8 13 (.bool (!(memB q.sender))) <| .E 9 14 (.agg #[.bool (!(memB q.sender)), .int .i64 6]) <| .nil) [(14, .agg #[.bool (!(memB q.sender)), .int .i64 6]), (9, .agg #[.bool (!(winB q.op 0 4)), .int .i64 11]), (16, .string q.ref), (2, .int .i64 0), (1, .pointer (some ⟨b3, 0, none⟩))] h20 (fun _ hS => Kw.nil hS) fun q24 h25 => ?_
  clear h20
  refine sC 12 17 h25 gok_none (c41_2 q.ref w21) ?_
  rintro _ w28 ⟨rfl, hb29⟩
  have hB30 := hB23.call hb29
  refine ⟨_, rfl, hB30, fun q26 h27 => ?_⟩
  clear h25 hB23 hb29
  refine d0 (.E 13 18 (.bool (!(rfB q.ref))) <| .E 14 19 (.agg #[.bool (!(rfB q.ref)), .int .i64 6]) <| .nil) [(19, .agg #[.bool (!(rfB q.ref)), .int .i64 6]), (14, .agg #[.bool (!(memB q.sender)), .int .i64 6]), (9, .agg #[.bool (!(winB q.op 0 4)), .int .i64 11]), (2, .int .i64 0), (1, .pointer (some ⟨b3, 0, none⟩))] h27 (fun _ hS => Kw.nil hS) fun q31 h32 => ?_
  clear h27
  refine sA 15 20 (fun b => .slice (some ⟨b, 0, none⟩) 3 3) (.cells #[.bool (!(winB q.op 0 4)), .int .i64 11, .bool (!(memB q.sender)), .int .i64 6, .bool (!(rfB q.ref)), .int .i64 6] 71 (0, 0)) h32 gok_none hB30 (fun _ _ hq => hq.tail) (fun b35 w36 hB37 hN q33 h34 => ?_)
  clear h32 hB30 hN
  refine sC 16 21 h34 gok_none (c39 ([(!(winB q.op 0 4), 11), (!(memB q.sender), 6), (!(rfB q.ref), 6)] : List (Bool × Int)) (some ⟨b35, 0, none⟩) 3 w36 (Nat.le_of_ble_eq_true rfl) (show Rd _ _ (rulec ([(!(winB q.op 0 4), 11), (!(memB q.sender), 6), (!(rfB q.ref), 6)] : List (Bool × Int))) from Rd.of_blk (hB37.at 0 rfl))) ?_
  rintro _ w40 ⟨rfl, hb41⟩
  have hB42 := hB37.call hb41
  refine ⟨_, rfl, hB42.tail, fun q38 h39 => ?_⟩
  clear h34 hB37 hb41
  refine d0 (.C 17 3 <| .nil) [(3, .int .i64 (firstE ([(!(winB q.op 0 4), 11), (!(memB q.sender), 6), (!(rfB q.ref), 6)] : List (Bool × Int)))), (2, .int .i64 0), (1, .pointer (some ⟨b3, 0, none⟩))] h39 (fun _ hS => Kw.nil hS) fun q43 h44 => ?_
  clear h39
  refine wpO_end ?_
  refine then_n ?_
  refine kS ?_
  refine kS ?_
  refine rp 2 ?_
  refine b0 (.C 0 22 <| .E 1 23 (.bool (firstE ([(!(winB q.op 0 4), 11), (!(memB q.sender), 6), (!(rfB q.ref), 6)] : List (Bool × Int)) != (0 : Int))) <| .nil) [(23, .bool (firstE ([(!(winB q.op 0 4), 11), (!(memB q.sender), 6), (!(rfB q.ref), 6)] : List (Bool × Int)) != (0 : Int))), (3, .int .i64 (firstE ([(!(winB q.op 0 4), 11), (!(memB q.sender), 6), (!(rfB q.ref), 6)] : List (Bool × Int)))), (2, .int .i64 0), (1, .pointer (some ⟨b3, 0, none⟩))] h44 (Kw.nil hB42) fun q45 h46 => ?_
  clear h44
  refine wpO_end ?_
  refine then_n ?_
  refine kC 23 (firstE ([(!(winB q.op 0 4), 11), (!(memB q.sender), 6), (!(rfB q.ref), 6)] : List (Bool × Int)) != (0 : Int)) h46 (fun hc47 => ?_) (fun hc47 => ?_)
  ·
    refine kS ?_
    refine rp 2 ?_
    refine b0 (.C 0 24 <| .C 1 2 <| .nil) [(2, .int .i64 (firstE ([(!(winB q.op 0 4), 11), (!(memB q.sender), 6), (!(rfB q.ref), 6)] : List (Bool × Int)))), (3, .int .i64 (firstE ([(!(winB q.op 0 4), 11), (!(memB q.sender), 6), (!(rfB q.ref), 6)] : List (Bool × Int)))), (1, .pointer (some ⟨b3, 0, none⟩))] h46 (Kw.nil hB42) fun q48 h49 => ?_
    clear h46
    refine wpO_end ?_
    refine then_n ?_
    refine c_ret (by kernel_rfl) ?_
    refine then_r ?_
    refine ret1 (t := 2) (v := .int .i64 (firstE ([(!(winB q.op 0 4), 11), (!(memB q.sender), 6), (!(rfB q.ref), 6)] : List (Bool × Int)))) h49 (by kernel_rfl) (by kernel_rfl) ?_
    exact ⟨ret_eq (congrArg (Value.int .i64) (show chkQ q = firstE ([(!(winB q.op 0 4), 11), (!(memB q.sender), 6), (!(rfB q.ref), 6)] : List (Bool × Int)) from cT hc47).symm), hB42.bel⟩
  refine c_skip (by kernel_rfl) ?_
  refine then_n ?_
  refine kS ?_
  refine kS ?_
  refine rp 3 ?_
  refine b0 (.C 0 25 <| .L 1 26 1 0 <| .E 2 27 (.bool (q.op == (0 : Int))) <| .nil) [(27, .bool (q.op == (0 : Int))), (3, .int .i64 (firstE ([(!(winB q.op 0 4), 11), (!(memB q.sender), 6), (!(rfB q.ref), 6)] : List (Bool × Int)))), (2, .int .i64 0), (1, .pointer (some ⟨b3, 0, none⟩))] h46 (Kw.nil hB42) fun q50 h51 => ?_
  clear h46
  refine wpO_end ?_
  refine then_n ?_
  refine kC 27 (q.op == (0 : Int)) h51 (fun hc52 => ?_) (fun hc52 => ?_)
  ·
    refine kS ?_
    refine kS ?_
    refine rp 4 ?_
    refine b0 (.C 0 28 <| .S 1 29 1 3 16 <| .nil) [(29, insV q.ins A c), (3, .int .i64 (firstE ([(!(winB q.op 0 4), 11), (!(memB q.sender), 6), (!(rfB q.ref), 6)] : List (Bool × Int)))), (2, .int .i64 0), (1, .pointer (some ⟨b3, 0, none⟩))] h51 (Kw.nil hB42) fun q53 h54 => ?_
    clear h51
    refine sC 2 30 h54 gok_none (c14 q.ins A c w40 (show q.ins.links.length ≤ 4611686018427387904 by omega) (by omega) (hr.below hB42.bel)) ?_
    rintro _ w57 ⟨rfl, hb58⟩
    have hB59 := hB42.call hb58
    refine ⟨_, rfl, trivial, fun q55 h56 => ?_⟩
    clear h54 hB42 hb58
    refine b0 (.C 3 4 <| .nil) [(4, .int .i64 (chkI q.ins)), (3, .int .i64 (firstE ([(!(winB q.op 0 4), 11), (!(memB q.sender), 6), (!(rfB q.ref), 6)] : List (Bool × Int)))), (2, .int .i64 0), (1, .pointer (some ⟨b3, 0, none⟩))] h56 (Kw.nil hB59) fun q60 h61 => ?_
    clear h56
    refine wpO_end ?_
    refine then_n ?_
    refine kS ?_
    refine rp 2 ?_
    refine b0 (.C 0 31 <| .E 1 32 (.bool (chkI q.ins != (0 : Int))) <| .nil) [(32, .bool (chkI q.ins != (0 : Int))), (4, .int .i64 (chkI q.ins)), (3, .int .i64 (firstE ([(!(winB q.op 0 4), 11), (!(memB q.sender), 6), (!(rfB q.ref), 6)] : List (Bool × Int)))), (2, .int .i64 0), (1, .pointer (some ⟨b3, 0, none⟩))] h61 (Kw.nil hB59) fun q62 h63 => ?_
    clear h61
    refine wpO_end ?_
    refine then_n ?_
    refine kC 32 (chkI q.ins != (0 : Int)) h63 (fun hc64 => ?_) (fun hc64 => ?_)
    ·
      refine kS ?_
      refine rp 2 ?_
      refine b0 (.C 0 33 <| .C 1 2 <| .nil) [(2, .int .i64 (chkI q.ins)), (3, .int .i64 (firstE ([(!(winB q.op 0 4), 11), (!(memB q.sender), 6), (!(rfB q.ref), 6)] : List (Bool × Int)))), (1, .pointer (some ⟨b3, 0, none⟩))] h63 (Kw.nil hB59) fun q65 h66 => ?_
      clear h63
      refine wpO_end ?_
      refine then_n ?_
      refine c_ret (by kernel_rfl) ?_
      refine then_r (then_r ?_)
      refine ret1 (t := 2) (v := .int .i64 (chkI q.ins)) h66 (by kernel_rfl) (by kernel_rfl) ?_
      exact ⟨ret_eq (congrArg (Value.int .i64) (show chkQ q = chkI q.ins from (cF hc47).trans ((cT hc52).trans (cT hc64))).symm), hB59.bel⟩
    refine c_skip (by kernel_rfl) ?_
    refine then_n ?_
    refine rp 18 ?_
    refine b0 (.C 0 34 <| .C 1 35 <| .L 2 36 1 3 <| .C 3 37 <| .L 4 38 1 2 <| .E 5 39 (.bool (q.ins.ref.toList != q.ref.toList)) <| .C 6 40 <| .J 13 47 40 46 false (q.ins.ref.toList != q.ref.toList) (q.ins.sender.toList != q.sender.toList) (.C 7 41 <| .C 8 42 <| .L 9 43 1 5 <| .C 10 44 <| .L 11 45 1 1 <| .E 12 46 (.bool (q.ins.sender.toList != q.sender.toList)) <| .nil) <| .E 14 48 (.agg #[.bool ((q.ins.ref.toList != q.ref.toList) || (q.ins.sender.toList != q.sender.toList)), .int .i64 17]) <| .nil) [(48, .agg #[.bool ((q.ins.ref.toList != q.ref.toList) || (q.ins.sender.toList != q.sender.toList)), .int .i64 17]), (3, .int .i64 (firstE ([(!(winB q.op 0 4), 11), (!(memB q.sender), 6), (!(rfB q.ref), 6)] : List (Bool × Int)))), (2, .int .i64 0), (1, .pointer (some ⟨b3, 0, none⟩))] h63 (Kw.nil hB59) fun q67 h68 => ?_
    clear h63
    refine sA 15 49 (fun b => .slice (some ⟨b, 0, none⟩) 1 1) (.cells #[.bool ((q.ins.ref.toList != q.ref.toList) || (q.ins.sender.toList != q.sender.toList)), .int .i64 17] 71 (0, 0)) h68 gok_none hB59 (fun _ _ hq => trivial) (fun b71 w72 hB73 hN q69 h70 => ?_)
    clear h68 hB59 hN
    refine sC 16 50 h70 gok_none (c39 ([((q.ins.ref.toList != q.ref.toList) || (q.ins.sender.toList != q.sender.toList), 17)] : List (Bool × Int)) (some ⟨b71, 0, none⟩) 1 w72 (Nat.le_of_ble_eq_true rfl) (show Rd _ _ (rulec ([((q.ins.ref.toList != q.ref.toList) || (q.ins.sender.toList != q.sender.toList), 17)] : List (Bool × Int))) from Rd.of_blk (hB73.at 0 rfl))) ?_
    rintro _ w76 ⟨rfl, hb77⟩
    have hB78 := hB73.call hb77
    refine ⟨_, rfl, trivial, fun q74 h75 => ?_⟩
    clear h70 hB73 hb77
    refine b0 (.C 17 3 <| .nil) [(3, .int .i64 (firstE ([((q.ins.ref.toList != q.ref.toList) || (q.ins.sender.toList != q.sender.toList), 17)] : List (Bool × Int)))), (2, .int .i64 0), (1, .pointer (some ⟨b3, 0, none⟩))] h75 (Kw.nil hB78) fun q79 h80 => ?_
    clear h75
    refine wpO_end ?_
    refine then_n ?_
    refine kS ?_
    refine c_block 0 (by kernel_rfl) ?_
    refine kS ?_
    refine rp 3 ?_
    refine b0 (.C 0 60 <| .E 1 61 (.bool (firstE ([((q.ins.ref.toList != q.ref.toList) || (q.ins.sender.toList != q.sender.toList), 17)] : List (Bool × Int)) != (0 : Int))) <| .C 2 59 <| .nil) [(59, .bool (firstE ([((q.ins.ref.toList != q.ref.toList) || (q.ins.sender.toList != q.sender.toList), 17)] : List (Bool × Int)) != (0 : Int))), (3, .int .i64 (firstE ([((q.ins.ref.toList != q.ref.toList) || (q.ins.sender.toList != q.sender.toList), 17)] : List (Bool × Int)))), (2, .int .i64 0), (1, .pointer (some ⟨b3, 0, none⟩))] h80 (Kw.nil hB78) fun q81 h82 => ?_
    clear h80
    refine wpO_end ?_
    refine then_n ?_
    refine kC 59 (firstE ([((q.ins.ref.toList != q.ref.toList) || (q.ins.sender.toList != q.sender.toList), 17)] : List (Bool × Int)) != (0 : Int)) h82 (fun hc83 => ?_) (fun hc83 => ?_)
    ·
      refine kS ?_
      refine rp 2 ?_
      refine b0 (.C 0 62 <| .C 1 2 <| .nil) [(2, .int .i64 (firstE ([((q.ins.ref.toList != q.ref.toList) || (q.ins.sender.toList != q.sender.toList), 17)] : List (Bool × Int)))), (1, .pointer (some ⟨b3, 0, none⟩))] h82 (Kw.nil hB78) fun q84 h85 => ?_
      clear h82
      refine wpO_end ?_
      refine then_n ?_
      refine c_ret (by kernel_rfl) ?_
      refine inB_r (then_r ?_)
      refine ret1 (t := 2) (v := .int .i64 (firstE ([((q.ins.ref.toList != q.ref.toList) || (q.ins.sender.toList != q.sender.toList), 17)] : List (Bool × Int)))) h85 (by kernel_rfl) (by kernel_rfl) ?_
      exact ⟨ret_eq (congrArg (Value.int .i64) (show chkQ q = firstE ([((q.ins.ref.toList != q.ref.toList) || (q.ins.sender.toList != q.sender.toList), 17)] : List (Bool × Int)) from (cF hc47).trans ((cT hc52).trans ((cF hc64).trans (cT hc83)))).symm), hB78.bel⟩
    refine kS ?_
    refine rp 4 ?_
    refine b0 (.C 0 64 <| .L 1 65 2 0 <| .E 2 66 (.bool (q.op == (1 : Int))) <| .C 3 63 <| .nil) [(63, .bool (q.op == (1 : Int))), (2, .int .i64 0), (1, .pointer (some ⟨b3, 0, none⟩))] h82 (Kw.nil hB78) fun q86 h87 => ?_
    clear h82
    refine wpO_end ?_
    refine then_n ?_
    refine kC 63 (q.op == (1 : Int)) h87 (fun hc88 => ?_) (fun hc88 => ?_)
    ·
      refine kS ?_
      refine rp 4 ?_
      refine b0 (.C 0 67 <| .S 1 68 2 19 9 <| .nil) [(68, amV q.am), (2, .int .i64 0), (1, .pointer (some ⟨b3, 0, none⟩))] h87 (Kw.nil hB78) fun q89 h90 => ?_
      clear h87
      refine sC 2 69 h90 gok_none (c31 q.am w76) ?_
      rintro _ w93 ⟨rfl, hb94⟩
      have hB95 := hB78.call hb94
      refine ⟨_, rfl, trivial, fun q91 h92 => ?_⟩
      clear h90 hB78 hb94
      refine b0 (.C 3 2 <| .nil) [(2, .int .i64 (chkA q.am)), (1, .pointer (some ⟨b3, 0, none⟩))] h92 (Kw.nil hB95) fun q96 h97 => ?_
      clear h92
      refine wpO_end ?_
      refine then_n ?_
      refine c_ret (by kernel_rfl) ?_
      refine inB_r (then_r ?_)
      refine ret1 (t := 2) (v := .int .i64 (chkA q.am)) h97 (by kernel_rfl) (by kernel_rfl) ?_
      exact ⟨ret_eq (congrArg (Value.int .i64) (show chkQ q = chkA q.am from (cF hc47).trans ((cT hc52).trans ((cF hc64).trans ((cF hc83).trans (cT hc88))))).symm), hB95.bel⟩
    refine c_skip (by kernel_rfl) ?_
    refine inB_n ?_
    refine then_n ?_
    refine kS ?_
    refine rp 8 ?_
    refine b0 (.C 0 70 <| .S 1 71 2 19 9 <| .E 2 72 (.agg #[.bool false, .bool false, .bool false, .bool false, .int .i64 0, .int .i64 0, .int .i64 0, .bool false, .int .i64 0]) <| .nil) [(72, .agg #[.bool false, .bool false, .bool false, .bool false, .int .i64 0, .int .i64 0, .int .i64 0, .bool false, .int .i64 0]), (71, amV q.am), (2, .int .i64 0)] h87 (Kw.nil hB78) fun q98 h99 => ?_
    clear h87
    refine eE 3 73 (.binOp .neq 43 (.tmp 71) (.tmp 72) 43) 4 (.bool (!(amEq q.am (⟨false, false, false, false, 0, 0, 0, false, 0⟩ : Am)))) h99 (hr := r_neqA _ (by kernel_rfl) (by kernel_rfl) (by kernel_rfl) (eq43 q.am (⟨false, false, false, false, 0, 0, 0, false, 0⟩ : Am) _)) fun q100 h101 => ?_
    clear h99
    refine b0 (.E 4 74 (.agg #[.bool (!(amEq q.am (⟨false, false, false, false, 0, 0, 0, false, 0⟩ : Am))), .int .i64 3]) <| .nil) [(74, .agg #[.bool (!(amEq q.am (⟨false, false, false, false, 0, 0, 0, false, 0⟩ : Am))), .int .i64 3]), (2, .int .i64 0)] h101 (Kw.nil hB78) fun q102 h103 => ?_
    clear h101
    refine sA 5 75 (fun b => .slice (some ⟨b, 0, none⟩) 1 1) (.cells #[.bool (!(amEq q.am (⟨false, false, false, false, 0, 0, 0, false, 0⟩ : Am))), .int .i64 3] 71 (0, 0)) h103 gok_none hB78 (fun _ _ hq => trivial) (fun b106 w107 hB108 hN q104 h105 => ?_)
    clear h103 hB78 hN
    refine sC 6 76 h105 gok_none (c39 ([(!(amEq q.am (⟨false, false, false, false, 0, 0, 0, false, 0⟩ : Am)), 3)] : List (Bool × Int)) (some ⟨b106, 0, none⟩) 1 w107 (Nat.le_of_ble_eq_true rfl) (show Rd _ _ (rulec ([(!(amEq q.am (⟨false, false, false, false, 0, 0, 0, false, 0⟩ : Am)), 3)] : List (Bool × Int))) from Rd.of_blk (hB108.at 0 rfl))) ?_
    rintro _ w111 ⟨rfl, hb112⟩
    have hB113 := hB108.call hb112
    refine ⟨_, rfl, trivial, fun q109 h110 => ?_⟩
    clear h105 hB108 hb112
    refine b0 (.C 7 2 <| .nil) [(2, .int .i64 (firstE ([(!(amEq q.am (⟨false, false, false, false, 0, 0, 0, false, 0⟩ : Am)), 3)] : List (Bool × Int))))] h110 (Kw.nil hB113) fun q114 h115 => ?_
    clear h110
    refine wpO_end ?_
    refine then_n ?_
    refine c_ret (by kernel_rfl) ?_
    refine ret1 (t := 2) (v := .int .i64 (firstE ([(!(amEq q.am (⟨false, false, false, false, 0, 0, 0, false, 0⟩ : Am)), 3)] : List (Bool × Int)))) h115 (by kernel_rfl) (by kernel_rfl) ?_
    exact ⟨ret_eq (congrArg (Value.int .i64) (show chkQ q = firstE ([(!(amEq q.am (⟨false, false, false, false, 0, 0, 0, false, 0⟩ : Am)), 3)] : List (Bool × Int)) from (cF hc47).trans ((cT hc52).trans ((cF hc64).trans ((cF hc83).trans (cF hc88))))).symm), hB113.bel⟩
  refine rp 9 ?_
  refine b0 (.C 0 51 <| .S 1 52 1 3 16 <| .E 2 53 (.agg #[.string (⟨#[]⟩ : ByteArray), .int .i64 0, .string (⟨#[]⟩ : ByteArray), .string (⟨#[]⟩ : ByteArray), .int .i64 0, .string (⟨#[]⟩ : ByteArray), .int .i64 0, .int .i64 0, .int .i64 0, .int .i64 0, .int .i64 0, .bool false, .int .i64 0, .bool false, .bool false, .slice none 0 0]) <| .nil) [(53, .agg #[.string (⟨#[]⟩ : ByteArray), .int .i64 0, .string (⟨#[]⟩ : ByteArray), .string (⟨#[]⟩ : ByteArray), .int .i64 0, .string (⟨#[]⟩ : ByteArray), .int .i64 0, .int .i64 0, .int .i64 0, .int .i64 0, .int .i64 0, .bool false, .int .i64 0, .bool false, .bool false, .slice none 0 0]), (52, insV q.ins A c), (3, .int .i64 (firstE ([(!(winB q.op 0 4), 11), (!(memB q.sender), 6), (!(rfB q.ref), 6)] : List (Bool × Int)))), (2, .int .i64 0), (1, .pointer (some ⟨b3, 0, none⟩))] h51 (Kw.nil hB42) fun q116 h117 => ?_
  clear h51
  refine sC 3 54 h117 gok_none (c24 q.ins (⟨(⟨#[]⟩ : ByteArray), 0, (⟨#[]⟩ : ByteArray), (⟨#[]⟩ : ByteArray), 0, (⟨#[]⟩ : ByteArray), 0, 0, 0, 0, 0, false, 0, false, false, []⟩ : Ins) A none c 0 w40 (show q.ins.links.length ≤ 4611686018427387904 by omega) (hr.below hB42.bel) (Rd.nil _ _)) ?_
  rintro _ w120 ⟨rfl, hb121⟩
  have hB122 := hB42.call hb121
  refine ⟨_, rfl, trivial, fun q118 h119 => ?_⟩
  clear h117 hB42 hb121
  refine b0 (.E 4 55 (.bool (!(insEq q.ins (⟨(⟨#[]⟩ : ByteArray), 0, (⟨#[]⟩ : ByteArray), (⟨#[]⟩ : ByteArray), 0, (⟨#[]⟩ : ByteArray), 0, 0, 0, 0, 0, false, 0, false, false, []⟩ : Ins)))) <| .E 5 56 (.agg #[.bool (!(insEq q.ins (⟨(⟨#[]⟩ : ByteArray), 0, (⟨#[]⟩ : ByteArray), (⟨#[]⟩ : ByteArray), 0, (⟨#[]⟩ : ByteArray), 0, 0, 0, 0, 0, false, 0, false, false, []⟩ : Ins))), .int .i64 3]) <| .nil) [(56, .agg #[.bool (!(insEq q.ins (⟨(⟨#[]⟩ : ByteArray), 0, (⟨#[]⟩ : ByteArray), (⟨#[]⟩ : ByteArray), 0, (⟨#[]⟩ : ByteArray), 0, 0, 0, 0, 0, false, 0, false, false, []⟩ : Ins))), .int .i64 3]), (3, .int .i64 (firstE ([(!(winB q.op 0 4), 11), (!(memB q.sender), 6), (!(rfB q.ref), 6)] : List (Bool × Int)))), (2, .int .i64 0), (1, .pointer (some ⟨b3, 0, none⟩))] h119 (Kw.nil hB122) fun q123 h124 => ?_
  clear h119
  refine sA 6 57 (fun b => .slice (some ⟨b, 0, none⟩) 1 1) (.cells #[.bool (!(insEq q.ins (⟨(⟨#[]⟩ : ByteArray), 0, (⟨#[]⟩ : ByteArray), (⟨#[]⟩ : ByteArray), 0, (⟨#[]⟩ : ByteArray), 0, 0, 0, 0, 0, false, 0, false, false, []⟩ : Ins))), .int .i64 3] 71 (0, 0)) h124 gok_none hB122 (fun _ _ hq => trivial) (fun b127 w128 hB129 hN q125 h126 => ?_)
  clear h124 hB122 hN
  refine sC 7 58 h126 gok_none (c39 ([(!(insEq q.ins (⟨(⟨#[]⟩ : ByteArray), 0, (⟨#[]⟩ : ByteArray), (⟨#[]⟩ : ByteArray), 0, (⟨#[]⟩ : ByteArray), 0, 0, 0, 0, 0, false, 0, false, false, []⟩ : Ins)), 3)] : List (Bool × Int)) (some ⟨b127, 0, none⟩) 1 w128 (Nat.le_of_ble_eq_true rfl) (show Rd _ _ (rulec ([(!(insEq q.ins (⟨(⟨#[]⟩ : ByteArray), 0, (⟨#[]⟩ : ByteArray), (⟨#[]⟩ : ByteArray), 0, (⟨#[]⟩ : ByteArray), 0, 0, 0, 0, 0, false, 0, false, false, []⟩ : Ins)), 3)] : List (Bool × Int))) from Rd.of_blk (hB129.at 0 rfl))) ?_
  rintro _ w132 ⟨rfl, hb133⟩
  have hB134 := hB129.call hb133
  refine ⟨_, rfl, trivial, fun q130 h131 => ?_⟩
  clear h126 hB129 hb133
  refine b0 (.C 8 3 <| .nil) [(3, .int .i64 (firstE ([(!(insEq q.ins (⟨(⟨#[]⟩ : ByteArray), 0, (⟨#[]⟩ : ByteArray), (⟨#[]⟩ : ByteArray), 0, (⟨#[]⟩ : ByteArray), 0, 0, 0, 0, 0, false, 0, false, false, []⟩ : Ins)), 3)] : List (Bool × Int)))), (2, .int .i64 0), (1, .pointer (some ⟨b3, 0, none⟩))] h131 (Kw.nil hB134) fun q135 h136 => ?_
  clear h131
  refine wpO_end ?_
  refine then_n ?_
  refine kS ?_
  refine c_block 0 (by kernel_rfl) ?_
  refine kS ?_
  refine rp 3 ?_
  refine b0 (.C 0 60 <| .E 1 61 (.bool (firstE ([(!(insEq q.ins (⟨(⟨#[]⟩ : ByteArray), 0, (⟨#[]⟩ : ByteArray), (⟨#[]⟩ : ByteArray), 0, (⟨#[]⟩ : ByteArray), 0, 0, 0, 0, 0, false, 0, false, false, []⟩ : Ins)), 3)] : List (Bool × Int)) != (0 : Int))) <| .C 2 59 <| .nil) [(59, .bool (firstE ([(!(insEq q.ins (⟨(⟨#[]⟩ : ByteArray), 0, (⟨#[]⟩ : ByteArray), (⟨#[]⟩ : ByteArray), 0, (⟨#[]⟩ : ByteArray), 0, 0, 0, 0, 0, false, 0, false, false, []⟩ : Ins)), 3)] : List (Bool × Int)) != (0 : Int))), (3, .int .i64 (firstE ([(!(insEq q.ins (⟨(⟨#[]⟩ : ByteArray), 0, (⟨#[]⟩ : ByteArray), (⟨#[]⟩ : ByteArray), 0, (⟨#[]⟩ : ByteArray), 0, 0, 0, 0, 0, false, 0, false, false, []⟩ : Ins)), 3)] : List (Bool × Int)))), (2, .int .i64 0), (1, .pointer (some ⟨b3, 0, none⟩))] h136 (Kw.nil hB134) fun q137 h138 => ?_
  clear h136
  refine wpO_end ?_
  refine then_n ?_
  refine kC 59 (firstE ([(!(insEq q.ins (⟨(⟨#[]⟩ : ByteArray), 0, (⟨#[]⟩ : ByteArray), (⟨#[]⟩ : ByteArray), 0, (⟨#[]⟩ : ByteArray), 0, 0, 0, 0, 0, false, 0, false, false, []⟩ : Ins)), 3)] : List (Bool × Int)) != (0 : Int)) h138 (fun hc139 => ?_) (fun hc139 => ?_)
  ·
    refine kS ?_
    refine rp 2 ?_
    refine b0 (.C 0 62 <| .C 1 2 <| .nil) [(2, .int .i64 (firstE ([(!(insEq q.ins (⟨(⟨#[]⟩ : ByteArray), 0, (⟨#[]⟩ : ByteArray), (⟨#[]⟩ : ByteArray), 0, (⟨#[]⟩ : ByteArray), 0, 0, 0, 0, 0, false, 0, false, false, []⟩ : Ins)), 3)] : List (Bool × Int)))), (1, .pointer (some ⟨b3, 0, none⟩))] h138 (Kw.nil hB134) fun q140 h141 => ?_
    clear h138
    refine wpO_end ?_
    refine then_n ?_
    refine c_ret (by kernel_rfl) ?_
    refine inB_r (then_r ?_)
    refine ret1 (t := 2) (v := .int .i64 (firstE ([(!(insEq q.ins (⟨(⟨#[]⟩ : ByteArray), 0, (⟨#[]⟩ : ByteArray), (⟨#[]⟩ : ByteArray), 0, (⟨#[]⟩ : ByteArray), 0, 0, 0, 0, 0, false, 0, false, false, []⟩ : Ins)), 3)] : List (Bool × Int)))) h141 (by kernel_rfl) (by kernel_rfl) ?_
    exact ⟨ret_eq (congrArg (Value.int .i64) (show chkQ q = firstE ([(!(insEq q.ins (⟨(⟨#[]⟩ : ByteArray), 0, (⟨#[]⟩ : ByteArray), (⟨#[]⟩ : ByteArray), 0, (⟨#[]⟩ : ByteArray), 0, 0, 0, 0, 0, false, 0, false, false, []⟩ : Ins)), 3)] : List (Bool × Int)) from (cF hc47).trans ((cF hc52).trans (cT hc139))).symm), hB134.bel⟩
  refine kS ?_
  refine rp 4 ?_
  refine b0 (.C 0 64 <| .L 1 65 2 0 <| .E 2 66 (.bool (q.op == (1 : Int))) <| .C 3 63 <| .nil) [(63, .bool (q.op == (1 : Int))), (2, .int .i64 0), (1, .pointer (some ⟨b3, 0, none⟩))] h138 (Kw.nil hB134) fun q142 h143 => ?_
  clear h138
  refine wpO_end ?_
  refine then_n ?_
  refine kC 63 (q.op == (1 : Int)) h143 (fun hc144 => ?_) (fun hc144 => ?_)
  ·
    refine kS ?_
    refine rp 4 ?_
    refine b0 (.C 0 67 <| .S 1 68 2 19 9 <| .nil) [(68, amV q.am), (2, .int .i64 0), (1, .pointer (some ⟨b3, 0, none⟩))] h143 (Kw.nil hB134) fun q145 h146 => ?_
    clear h143
    refine sC 2 69 h146 gok_none (c31 q.am w132) ?_
    rintro _ w149 ⟨rfl, hb150⟩
    have hB151 := hB134.call hb150
    refine ⟨_, rfl, trivial, fun q147 h148 => ?_⟩
    clear h146 hB134 hb150
    refine b0 (.C 3 2 <| .nil) [(2, .int .i64 (chkA q.am)), (1, .pointer (some ⟨b3, 0, none⟩))] h148 (Kw.nil hB151) fun q152 h153 => ?_
    clear h148
    refine wpO_end ?_
    refine then_n ?_
    refine c_ret (by kernel_rfl) ?_
    refine inB_r (then_r ?_)
    refine ret1 (t := 2) (v := .int .i64 (chkA q.am)) h153 (by kernel_rfl) (by kernel_rfl) ?_
    exact ⟨ret_eq (congrArg (Value.int .i64) (show chkQ q = chkA q.am from (cF hc47).trans ((cF hc52).trans ((cF hc139).trans (cT hc144)))).symm), hB151.bel⟩
  refine c_skip (by kernel_rfl) ?_
  refine inB_n ?_
  refine then_n ?_
  refine kS ?_
  refine rp 8 ?_
  refine b0 (.C 0 70 <| .S 1 71 2 19 9 <| .E 2 72 (.agg #[.bool false, .bool false, .bool false, .bool false, .int .i64 0, .int .i64 0, .int .i64 0, .bool false, .int .i64 0]) <| .nil) [(72, .agg #[.bool false, .bool false, .bool false, .bool false, .int .i64 0, .int .i64 0, .int .i64 0, .bool false, .int .i64 0]), (71, amV q.am), (2, .int .i64 0)] h143 (Kw.nil hB134) fun q154 h155 => ?_
  clear h143
  refine eE 3 73 (.binOp .neq 43 (.tmp 71) (.tmp 72) 43) 4 (.bool (!(amEq q.am (⟨false, false, false, false, 0, 0, 0, false, 0⟩ : Am)))) h155 (hr := r_neqA _ (by kernel_rfl) (by kernel_rfl) (by kernel_rfl) (eq43 q.am (⟨false, false, false, false, 0, 0, 0, false, 0⟩ : Am) _)) fun q156 h157 => ?_
  clear h155
  refine b0 (.E 4 74 (.agg #[.bool (!(amEq q.am (⟨false, false, false, false, 0, 0, 0, false, 0⟩ : Am))), .int .i64 3]) <| .nil) [(74, .agg #[.bool (!(amEq q.am (⟨false, false, false, false, 0, 0, 0, false, 0⟩ : Am))), .int .i64 3]), (2, .int .i64 0)] h157 (Kw.nil hB134) fun q158 h159 => ?_
  clear h157
  refine sA 5 75 (fun b => .slice (some ⟨b, 0, none⟩) 1 1) (.cells #[.bool (!(amEq q.am (⟨false, false, false, false, 0, 0, 0, false, 0⟩ : Am))), .int .i64 3] 71 (0, 0)) h159 gok_none hB134 (fun _ _ hq => trivial) (fun b162 w163 hB164 hN q160 h161 => ?_)
  clear h159 hB134 hN
  refine sC 6 76 h161 gok_none (c39 ([(!(amEq q.am (⟨false, false, false, false, 0, 0, 0, false, 0⟩ : Am)), 3)] : List (Bool × Int)) (some ⟨b162, 0, none⟩) 1 w163 (Nat.le_of_ble_eq_true rfl) (show Rd _ _ (rulec ([(!(amEq q.am (⟨false, false, false, false, 0, 0, 0, false, 0⟩ : Am)), 3)] : List (Bool × Int))) from Rd.of_blk (hB164.at 0 rfl))) ?_
  rintro _ w167 ⟨rfl, hb168⟩
  have hB169 := hB164.call hb168
  refine ⟨_, rfl, trivial, fun q165 h166 => ?_⟩
  clear h161 hB164 hb168
  refine b0 (.C 7 2 <| .nil) [(2, .int .i64 (firstE ([(!(amEq q.am (⟨false, false, false, false, 0, 0, 0, false, 0⟩ : Am)), 3)] : List (Bool × Int))))] h166 (Kw.nil hB169) fun q170 h171 => ?_
  clear h166
  refine wpO_end ?_
  refine then_n ?_
  refine c_ret (by kernel_rfl) ?_
  refine ret1 (t := 2) (v := .int .i64 (firstE ([(!(amEq q.am (⟨false, false, false, false, 0, 0, 0, false, 0⟩ : Am)), 3)] : List (Bool × Int)))) h171 (by kernel_rfl) (by kernel_rfl) ?_
  exact ⟨ret_eq (congrArg (Value.int .i64) (show chkQ q = firstE ([(!(amEq q.am (⟨false, false, false, false, 0, 0, 0, false, 0⟩ : Am)), 3)] : List (Bool × Int)) from (cF hc47).trans ((cF hc52).trans ((cF hc139).trans (cF hc144)))).symm), hB169.bel⟩

def tailR (q : Rq) : Int := bif q.op == 1 then refA q.am else bif !(amEq q.am (⟨false, false, false, false, 0, 0, 0, false, 0⟩ : Am)) then 3 else 0
def refQ (q : Rq) : Int := bif (decide (q.op < (0 : Int))) || (decide ((4 : Int) < q.op)) then 11 else bif (!(memB q.sender)) || (!(rfB q.ref)) then 6 else bif q.op == 0 then (bif refI q.ins != 0 then refI q.ins else bif (q.ins.ref.toList != q.ref.toList) || (q.ins.sender.toList != q.sender.toList) then 17 else tailR q) else bif !(sameI q.ins (⟨(⟨#[]⟩ : ByteArray), 0, (⟨#[]⟩ : ByteArray), (⟨#[]⟩ : ByteArray), 0, (⟨#[]⟩ : ByteArray), 0, 0, 0, 0, 0, false, 0, false, false, []⟩ : Ins)) then 3 else tailR q

set_option maxHeartbeats 4000000 in
set_option maxRecDepth 20000 in
theorem c29 (q : Rq) (A : Option Addr) (c : Nat) (w : World) (hn : q.ins.links.length ≤ 4611686018427387904) (hr : Rd w A (lkc q.ins.links)) : Calls Tryd.prog 29 #[rqV q A c] w fun e w' => e = .returned (.int .i64 (refQ q)) ∧ Below w.heap.size w w' := by
  refine enter Tryd.func29 (by kernel_rfl) ?_ (by kernel_rfl)
  intro q0 h0
  replace h0 := h0.conv (l' := [(0, rqV q A c)]) rfl
  have hB := Bx.refl w
  refine kS ?_
  refine rp 2 ?_
  refine sA 0 1 (fun b => .pointer (some ⟨b, 0, none⟩)) (.cells (rqV q A c).cells 42 (0, 0)) h0 gok_none hB (fun _ _ hq => trivial) (fun b3 w4 hB5 hN q1 h2 => ?_)
  clear h0 hB hN
  refine b0 (.C 1 2 <| .nil) [(2, .int .i64 0), (1, .pointer (some ⟨b3, 0, none⟩))] h2 (Kw.nil hB5) fun q6 h7 => ?_
  clear h2
  refine wpO_end ?_
  refine then_n ?_
  refine kS ?_
  refine kS ?_
  refine rp 8 ?_
  refine b0 (.C 0 4 <| .L 1 5 0 0 <| .E 2 6 (.bool (decide (q.op < (0 : Int)))) <| .C 3 7 <| .J 7 11 7 10 false (decide (q.op < (0 : Int))) (decide ((4 : Int) < q.op)) (.C 4 8 <| .L 5 9 0 0 <| .E 6 10 (.bool (decide ((4 : Int) < q.op))) <| .nil) <| .nil) [(11, .bool ((decide (q.op < (0 : Int))) || (decide ((4 : Int) < q.op)))), (2, .int .i64 0), (1, .pointer (some ⟨b3, 0, none⟩))] h7 (Kw.nil hB5) fun q8 h9 => ?_
  clear h7
  refine wpO_end ?_
  refine then_n ?_
  refine kC 11 ((decide (q.op < (0 : Int))) || (decide ((4 : Int) < q.op))) h9 (fun hc10 => ?_) (fun hc10 => ?_)
  ·
    refine kS ?_
    refine rp 1 ?_
    refine b0 (.C 0 2 <| .nil) [(2, .int .i64 11), (1, .pointer (some ⟨b3, 0, none⟩))] h9 (Kw.nil hB5) fun q11 h12 => ?_
    clear h9
    refine wpO_end ?_
    refine then_n ?_
    refine c_ret (by kernel_rfl) ?_
    refine then_r ?_
    refine ret1 (t := 2) (v := .int .i64 11) h12 (by kernel_rfl) (by kernel_rfl) ?_
    exact ⟨ret_eq (congrArg (Value.int .i64) (show refQ q = 11 from cT hc10).symm), hB5.bel⟩
  refine c_skip (by kernel_rfl) ?_
  refine then_n ?_
  refine kS ?_
  refine kS ?_
  refine rp 10 ?_
  refine b0 (.C 0 12 <| .L 1 13 0 1 <| .nil) [(13, .string q.sender), (2, .int .i64 0), (1, .pointer (some ⟨b3, 0, none⟩))] h9 (Kw.nil hB5) fun q13 h14 => ?_
  clear h9
  refine sC 2 14 h14 gok_none (c50_1 q.sender w4) ?_
  rintro _ w17 ⟨rfl, hb18⟩
  have hB19 := hB5.call hb18
  refine ⟨_, rfl, trivial, fun q15 h16 => ?_⟩
  clear h14 hB5 hb18
  refine b0 (.E 3 15 (.bool (!(memB q.sender))) <| .C 4 16 <| .nil) [(16, .bool (!(memB q.sender))), (2, .int .i64 0), (1, .pointer (some ⟨b3, 0, none⟩))] h16 (Kw.nil hB19) fun q20 h21 => ?_
  clear h16
  refine wpO_cut [(5, false), (6, false), (7, false), (8, false), (9, false)] [] (fun qa qw => Fr 60 [(21, .bool ((!(memB q.sender)) || (!(rfB q.ref)))), (2, .int .i64 0), (1, .pointer (some ⟨b3, 0, none⟩))] qa ∧ Bx w [(b3, .cells (rqV q A c).cells 42 (0, 0))] qw) ?_ ?_
  ·
    rcases Bool.eq_false_or_eq_true (!(memB q.sender)) with hc22 | hc22
    ·
      refine b1 16 hc22 (.K 5 17 <| .K 6 18 <| .K 7 19 <| .K 8 20 <| .nil) [(20, undef), (16, .bool (!(memB q.sender))), (2, .int .i64 0), (1, .pointer (some ⟨b3, 0, none⟩))] h21 (Kw.nil hB19) fun q23 h24 => ?_
      clear h21
      refine eE 9 21 (.pick (.tmp 16) (.const (.bool true)) (.tmp 20)) 4 (.bool ((!(memB q.sender)) || (!(rfB q.ref)))) h24 (hr := r_or (c := !(memB q.sender)) (d := (!(rfB q.ref))) (by kernel_rfl) (fun e27 => Bool.noConfusion (e27.symm.trans hc22))) fun q25 h26 => ?_
      clear h24
      exact ⟨h26.keep _ ⟨rfl, rfl, rfl, trivial⟩, hB19⟩
    ·
      refine b1 16 hc22 (.C 5 17 <| .L 6 18 0 2 <| .nil) [(18, .string q.ref), (16, .bool (!(memB q.sender))), (2, .int .i64 0), (1, .pointer (some ⟨b3, 0, none⟩))] h21 (Kw.nil hB19) fun q28 h29 => ?_
      clear h21
      refine sC 7 19 (g := (some (4, false))) h29 (g2 16 hc22) (c50_2 q.ref w17) ?_
      rintro _ w32 ⟨rfl, hb33⟩
      have hB34 := hB19.call hb33
      refine ⟨_, rfl, trivial, fun q30 h31 => ?_⟩
      clear h29 hB19 hb33
      refine b1 16 hc22 (.E 8 20 (.bool (!(rfB q.ref))) <| .nil) [(20, .bool (!(rfB q.ref))), (16, .bool (!(memB q.sender))), (2, .int .i64 0), (1, .pointer (some ⟨b3, 0, none⟩))] h31 (Kw.nil hB34) fun q35 h36 => ?_
      clear h31
      refine eE 9 21 (.pick (.tmp 16) (.const (.bool true)) (.tmp 20)) 4 (.bool ((!(memB q.sender)) || (!(rfB q.ref)))) h36 (hr := r_or (c := !(memB q.sender)) (d := (!(rfB q.ref))) (by kernel_rfl) (fun _ => by kernel_rfl)) fun q37 h38 => ?_
      clear h36
      exact ⟨h38.keep _ ⟨rfl, rfl, rfl, trivial⟩, hB34⟩
  rintro q39 w40 ⟨h41, hB42⟩
  refine wpO_end ?_
  refine then_n ?_
  refine kC 21 ((!(memB q.sender)) || (!(rfB q.ref))) h41 (fun hc43 => ?_) (fun hc43 => ?_)
  ·
    refine kS ?_
    refine rp 1 ?_
    refine b0 (.C 0 2 <| .nil) [(2, .int .i64 6), (1, .pointer (some ⟨b3, 0, none⟩))] h41 (Kw.nil hB42) fun q44 h45 => ?_
    clear h41
    refine wpO_end ?_
    refine then_n ?_
    refine c_ret (by kernel_rfl) ?_
    refine then_r ?_
    refine ret1 (t := 2) (v := .int .i64 6) h45 (by kernel_rfl) (by kernel_rfl) ?_
    exact ⟨ret_eq (congrArg (Value.int .i64) (show refQ q = 6 from (cF hc10).trans (cT hc43)).symm), hB42.bel⟩
  refine c_skip (by kernel_rfl) ?_
  refine then_n ?_
  refine kS ?_
  refine kS ?_
  refine rp 3 ?_
  refine b0 (.C 0 22 <| .L 1 23 0 0 <| .E 2 24 (.bool (q.op == (0 : Int))) <| .nil) [(24, .bool (q.op == (0 : Int))), (2, .int .i64 0), (1, .pointer (some ⟨b3, 0, none⟩))] h41 (Kw.nil hB42) fun q46 h47 => ?_
  clear h41
  refine wpO_end ?_
  refine then_n ?_
  refine kC 24 (q.op == (0 : Int)) h47 (fun hc48 => ?_) (fun hc48 => ?_)
  ·
    refine kS ?_
    refine kS ?_
    refine rp 4 ?_
    refine b0 (.C 0 25 <| .S 1 26 0 3 16 <| .nil) [(26, insV q.ins A c), (2, .int .i64 0), (1, .pointer (some ⟨b3, 0, none⟩))] h47 (Kw.nil hB42) fun q49 h50 => ?_
    clear h47
    refine sC 2 27 h50 gok_none (c15 q.ins A c w40 (show q.ins.links.length ≤ 4611686018427387904 by omega) (hr.below hB42.bel)) ?_
    rintro _ w53 ⟨rfl, hb54⟩
    have hB55 := hB42.call hb54
    refine ⟨_, rfl, trivial, fun q51 h52 => ?_⟩
    clear h50 hB42 hb54
    refine b0 (.C 3 3 <| .nil) [(3, .int .i64 (refI q.ins)), (2, .int .i64 0), (1, .pointer (some ⟨b3, 0, none⟩))] h52 (Kw.nil hB55) fun q56 h57 => ?_
    clear h52
    refine wpO_end ?_
    refine then_n ?_
    refine kS ?_
    refine rp 2 ?_
    refine b0 (.C 0 28 <| .E 1 29 (.bool (refI q.ins != (0 : Int))) <| .nil) [(29, .bool (refI q.ins != (0 : Int))), (3, .int .i64 (refI q.ins)), (2, .int .i64 0), (1, .pointer (some ⟨b3, 0, none⟩))] h57 (Kw.nil hB55) fun q58 h59 => ?_
    clear h57
    refine wpO_end ?_
    refine then_n ?_
    refine kC 29 (refI q.ins != (0 : Int)) h59 (fun hc60 => ?_) (fun hc60 => ?_)
    ·
      refine kS ?_
      refine rp 2 ?_
      refine b0 (.C 0 30 <| .C 1 2 <| .nil) [(2, .int .i64 (refI q.ins)), (1, .pointer (some ⟨b3, 0, none⟩))] h59 (Kw.nil hB55) fun q61 h62 => ?_
      clear h59
      refine wpO_end ?_
      refine then_n ?_
      refine c_ret (by kernel_rfl) ?_
      refine then_r (then_r ?_)
      refine ret1 (t := 2) (v := .int .i64 (refI q.ins)) h62 (by kernel_rfl) (by kernel_rfl) ?_
      exact ⟨ret_eq (congrArg (Value.int .i64) (show refQ q = refI q.ins from (cF hc10).trans ((cF hc43).trans ((cT hc48).trans (cT hc60)))).symm), hB55.bel⟩
    refine c_skip (by kernel_rfl) ?_
    refine then_n ?_
    refine kS ?_
    refine rp 14 ?_
    refine b0 (.C 0 31 <| .C 1 32 <| .L 2 33 0 3 <| .C 3 34 <| .L 4 35 0 2 <| .E 5 36 (.bool (q.ins.ref.toList != q.ref.toList)) <| .C 6 37 <| .J 13 44 37 43 false (q.ins.ref.toList != q.ref.toList) (q.ins.sender.toList != q.sender.toList) (.C 7 38 <| .C 8 39 <| .L 9 40 0 5 <| .C 10 41 <| .L 11 42 0 1 <| .E 12 43 (.bool (q.ins.sender.toList != q.sender.toList)) <| .nil) <| .nil) [(44, .bool ((q.ins.ref.toList != q.ref.toList) || (q.ins.sender.toList != q.sender.toList))), (2, .int .i64 0), (1, .pointer (some ⟨b3, 0, none⟩))] h59 (Kw.nil hB55) fun q63 h64 => ?_
    clear h59
    refine wpO_end ?_
    refine then_n ?_
    refine kC 44 ((q.ins.ref.toList != q.ref.toList) || (q.ins.sender.toList != q.sender.toList)) h64 (fun hc65 => ?_) (fun hc65 => ?_)
    ·
      refine kS ?_
      refine rp 1 ?_
      refine b0 (.C 0 2 <| .nil) [(2, .int .i64 17), (1, .pointer (some ⟨b3, 0, none⟩))] h64 (Kw.nil hB55) fun q66 h67 => ?_
      clear h64
      refine wpO_end ?_
      refine then_n ?_
      refine c_ret (by kernel_rfl) ?_
      refine then_r ?_
      refine ret1 (t := 2) (v := .int .i64 17) h67 (by kernel_rfl) (by kernel_rfl) ?_
      exact ⟨ret_eq (congrArg (Value.int .i64) (show refQ q = 17 from (cF hc10).trans ((cF hc43).trans ((cT hc48).trans ((cF hc60).trans (cT hc65))))).symm), hB55.bel⟩
    refine c_skip (by kernel_rfl) ?_
    refine then_n ?_
    refine kS ?_
    refine kS ?_
    refine rp 3 ?_
    refine b0 (.C 0 50 <| .L 1 51 0 0 <| .E 2 52 (.bool (q.op == (1 : Int))) <| .nil) [(52, .bool (q.op == (1 : Int))), (2, .int .i64 0), (1, .pointer (some ⟨b3, 0, none⟩))] h64 (Kw.nil hB55) fun q68 h69 => ?_
    clear h64
    refine wpO_end ?_
    refine then_n ?_
    refine kC 52 (q.op == (1 : Int)) h69 (fun hc70 => ?_) (fun hc70 => ?_)
    ·
      refine kS ?_
      refine rp 4 ?_
      refine b0 (.C 0 53 <| .S 1 54 0 19 9 <| .nil) [(54, amV q.am), (2, .int .i64 0), (1, .pointer (some ⟨b3, 0, none⟩))] h69 (Kw.nil hB55) fun q71 h72 => ?_
      clear h69
      refine sC 2 55 h72 gok_none (c32 q.am w53) ?_
      rintro _ w75 ⟨rfl, hb76⟩
      have hB77 := hB55.call hb76
      refine ⟨_, rfl, trivial, fun q73 h74 => ?_⟩
      clear h72 hB55 hb76
      refine b0 (.C 3 2 <| .nil) [(2, .int .i64 (refA q.am)), (1, .pointer (some ⟨b3, 0, none⟩))] h74 (Kw.nil hB77) fun q78 h79 => ?_
      clear h74
      refine wpO_end ?_
      refine then_n ?_
      refine c_ret (by kernel_rfl) ?_
      refine then_r ?_
      refine ret1 (t := 2) (v := .int .i64 (refA q.am)) h79 (by kernel_rfl) (by kernel_rfl) ?_
      exact ⟨ret_eq (congrArg (Value.int .i64) (show refQ q = refA q.am from (cF hc10).trans ((cF hc43).trans ((cT hc48).trans ((cF hc60).trans ((cF hc65).trans (cT hc70)))))).symm), hB77.bel⟩
    refine c_skip (by kernel_rfl) ?_
    refine then_n ?_
    refine kS ?_
    refine kS ?_
    refine rp 4 ?_
    refine b0 (.C 0 56 <| .S 1 57 0 19 9 <| .E 2 58 (.agg #[.bool false, .bool false, .bool false, .bool false, .int .i64 0, .int .i64 0, .int .i64 0, .bool false, .int .i64 0]) <| .nil) [(58, .agg #[.bool false, .bool false, .bool false, .bool false, .int .i64 0, .int .i64 0, .int .i64 0, .bool false, .int .i64 0]), (57, amV q.am), (2, .int .i64 0)] h69 (Kw.nil hB55) fun q80 h81 => ?_
    clear h69
    refine eE 3 59 (.binOp .neq 40 (.tmp 57) (.tmp 58) 40) 4 (.bool (!(amEq q.am (⟨false, false, false, false, 0, 0, 0, false, 0⟩ : Am)))) h81 (hr := r_neqA _ (by kernel_rfl) (by kernel_rfl) (by kernel_rfl) (eq40 q.am (⟨false, false, false, false, 0, 0, 0, false, 0⟩ : Am) _)) fun q82 h83 => ?_
    clear h81
    refine wpO_end ?_
    have h84 := h83.keep [(59, .bool (!(amEq q.am (⟨false, false, false, false, 0, 0, 0, false, 0⟩ : Am)))), (2, .int .i64 0)] ⟨rfl, rfl, trivial⟩
    clear h83
    refine then_n ?_
    refine kC 59 (!(amEq q.am (⟨false, false, false, false, 0, 0, 0, false, 0⟩ : Am))) h84 (fun hc85 => ?_) (fun hc85 => ?_)
    ·
      refine kS ?_
      refine rp 1 ?_
      refine b0 (.C 0 2 <| .nil) [(2, .int .i64 3)] h84 (Kw.nil hB55) fun q86 h87 => ?_
      clear h84
      refine wpO_end ?_
      refine then_n ?_
      refine c_ret (by kernel_rfl) ?_
      refine then_r ?_
      refine ret1 (t := 2) (v := .int .i64 3) h87 (by kernel_rfl) (by kernel_rfl) ?_
      exact ⟨ret_eq (congrArg (Value.int .i64) (show refQ q = 3 from (cF hc10).trans ((cF hc43).trans ((cT hc48).trans ((cF hc60).trans ((cF hc65).trans ((cF hc70).trans (cT hc85))))))).symm), hB55.bel⟩
    refine c_skip (by kernel_rfl) ?_
    refine then_n ?_
    refine kS ?_
    refine rp 1 ?_
    refine b0 (.C 0 2 <| .nil) [(2, .int .i64 0)] h84 (Kw.nil hB55) fun q88 h89 => ?_
    clear h84
    refine wpO_end ?_
    refine then_n ?_
    refine c_ret (by kernel_rfl) ?_
    refine ret1 (t := 2) (v := .int .i64 0) h89 (by kernel_rfl) (by kernel_rfl) ?_
    exact ⟨ret_eq (congrArg (Value.int .i64) (show refQ q = 0 from (cF hc10).trans ((cF hc43).trans ((cT hc48).trans ((cF hc60).trans ((cF hc65).trans ((cF hc70).trans (cF hc85))))))).symm), hB55.bel⟩
  refine kS ?_
  refine rp 5 ?_
  refine b0 (.C 0 45 <| .S 1 46 0 3 16 <| .E 2 47 (.agg #[.string (⟨#[]⟩ : ByteArray), .int .i64 0, .string (⟨#[]⟩ : ByteArray), .string (⟨#[]⟩ : ByteArray), .int .i64 0, .string (⟨#[]⟩ : ByteArray), .int .i64 0, .int .i64 0, .int .i64 0, .int .i64 0, .int .i64 0, .bool false, .int .i64 0, .bool false, .bool false, .slice none 0 0]) <| .nil) [(47, .agg #[.string (⟨#[]⟩ : ByteArray), .int .i64 0, .string (⟨#[]⟩ : ByteArray), .string (⟨#[]⟩ : ByteArray), .int .i64 0, .string (⟨#[]⟩ : ByteArray), .int .i64 0, .int .i64 0, .int .i64 0, .int .i64 0, .int .i64 0, .bool false, .int .i64 0, .bool false, .bool false, .slice none 0 0]), (46, insV q.ins A c), (2, .int .i64 0), (1, .pointer (some ⟨b3, 0, none⟩))] h47 (Kw.nil hB42) fun q90 h91 => ?_
  clear h47
  refine sC 3 48 h91 gok_none (c25 q.ins (⟨(⟨#[]⟩ : ByteArray), 0, (⟨#[]⟩ : ByteArray), (⟨#[]⟩ : ByteArray), 0, (⟨#[]⟩ : ByteArray), 0, 0, 0, 0, 0, false, 0, false, false, []⟩ : Ins) A none c 0 w40 (show q.ins.links.length ≤ 4611686018427387904 by omega) (hr.below hB42.bel) (Rd.nil _ _)) ?_
  rintro _ w94 ⟨rfl, hb95⟩
  have hB96 := hB42.call hb95
  refine ⟨_, rfl, trivial, fun q92 h93 => ?_⟩
  clear h91 hB42 hb95
  refine b0 (.E 4 49 (.bool (!(sameI q.ins (⟨(⟨#[]⟩ : ByteArray), 0, (⟨#[]⟩ : ByteArray), (⟨#[]⟩ : ByteArray), 0, (⟨#[]⟩ : ByteArray), 0, 0, 0, 0, 0, false, 0, false, false, []⟩ : Ins)))) <| .nil) [(49, .bool (!(sameI q.ins (⟨(⟨#[]⟩ : ByteArray), 0, (⟨#[]⟩ : ByteArray), (⟨#[]⟩ : ByteArray), 0, (⟨#[]⟩ : ByteArray), 0, 0, 0, 0, 0, false, 0, false, false, []⟩ : Ins)))), (2, .int .i64 0), (1, .pointer (some ⟨b3, 0, none⟩))] h93 (Kw.nil hB96) fun q97 h98 => ?_
  clear h93
  refine wpO_end ?_
  refine then_n ?_
  refine kC 49 (!(sameI q.ins (⟨(⟨#[]⟩ : ByteArray), 0, (⟨#[]⟩ : ByteArray), (⟨#[]⟩ : ByteArray), 0, (⟨#[]⟩ : ByteArray), 0, 0, 0, 0, 0, false, 0, false, false, []⟩ : Ins))) h98 (fun hc99 => ?_) (fun hc99 => ?_)
  ·
    refine kS ?_
    refine rp 1 ?_
    refine b0 (.C 0 2 <| .nil) [(2, .int .i64 3), (1, .pointer (some ⟨b3, 0, none⟩))] h98 (Kw.nil hB96) fun q100 h101 => ?_
    clear h98
    refine wpO_end ?_
    refine then_n ?_
    refine c_ret (by kernel_rfl) ?_
    refine then_r ?_
    refine ret1 (t := 2) (v := .int .i64 3) h101 (by kernel_rfl) (by kernel_rfl) ?_
    exact ⟨ret_eq (congrArg (Value.int .i64) (show refQ q = 3 from (cF hc10).trans ((cF hc43).trans ((cF hc48).trans (cT hc99)))).symm), hB96.bel⟩
  refine c_skip (by kernel_rfl) ?_
  refine then_n ?_
  refine kS ?_
  refine kS ?_
  refine rp 3 ?_
  refine b0 (.C 0 50 <| .L 1 51 0 0 <| .E 2 52 (.bool (q.op == (1 : Int))) <| .nil) [(52, .bool (q.op == (1 : Int))), (2, .int .i64 0), (1, .pointer (some ⟨b3, 0, none⟩))] h98 (Kw.nil hB96) fun q102 h103 => ?_
  clear h98
  refine wpO_end ?_
  refine then_n ?_
  refine kC 52 (q.op == (1 : Int)) h103 (fun hc104 => ?_) (fun hc104 => ?_)
  ·
    refine kS ?_
    refine rp 4 ?_
    refine b0 (.C 0 53 <| .S 1 54 0 19 9 <| .nil) [(54, amV q.am), (2, .int .i64 0), (1, .pointer (some ⟨b3, 0, none⟩))] h103 (Kw.nil hB96) fun q105 h106 => ?_
    clear h103
    refine sC 2 55 h106 gok_none (c32 q.am w94) ?_
    rintro _ w109 ⟨rfl, hb110⟩
    have hB111 := hB96.call hb110
    refine ⟨_, rfl, trivial, fun q107 h108 => ?_⟩
    clear h106 hB96 hb110
    refine b0 (.C 3 2 <| .nil) [(2, .int .i64 (refA q.am)), (1, .pointer (some ⟨b3, 0, none⟩))] h108 (Kw.nil hB111) fun q112 h113 => ?_
    clear h108
    refine wpO_end ?_
    refine then_n ?_
    refine c_ret (by kernel_rfl) ?_
    refine then_r ?_
    refine ret1 (t := 2) (v := .int .i64 (refA q.am)) h113 (by kernel_rfl) (by kernel_rfl) ?_
    exact ⟨ret_eq (congrArg (Value.int .i64) (show refQ q = refA q.am from (cF hc10).trans ((cF hc43).trans ((cF hc48).trans ((cF hc99).trans (cT hc104))))).symm), hB111.bel⟩
  refine c_skip (by kernel_rfl) ?_
  refine then_n ?_
  refine kS ?_
  refine kS ?_
  refine rp 4 ?_
  refine b0 (.C 0 56 <| .S 1 57 0 19 9 <| .E 2 58 (.agg #[.bool false, .bool false, .bool false, .bool false, .int .i64 0, .int .i64 0, .int .i64 0, .bool false, .int .i64 0]) <| .nil) [(58, .agg #[.bool false, .bool false, .bool false, .bool false, .int .i64 0, .int .i64 0, .int .i64 0, .bool false, .int .i64 0]), (57, amV q.am), (2, .int .i64 0)] h103 (Kw.nil hB96) fun q114 h115 => ?_
  clear h103
  refine eE 3 59 (.binOp .neq 40 (.tmp 57) (.tmp 58) 40) 4 (.bool (!(amEq q.am (⟨false, false, false, false, 0, 0, 0, false, 0⟩ : Am)))) h115 (hr := r_neqA _ (by kernel_rfl) (by kernel_rfl) (by kernel_rfl) (eq40 q.am (⟨false, false, false, false, 0, 0, 0, false, 0⟩ : Am) _)) fun q116 h117 => ?_
  clear h115
  refine wpO_end ?_
  have h118 := h117.keep [(59, .bool (!(amEq q.am (⟨false, false, false, false, 0, 0, 0, false, 0⟩ : Am)))), (2, .int .i64 0)] ⟨rfl, rfl, trivial⟩
  clear h117
  refine then_n ?_
  refine kC 59 (!(amEq q.am (⟨false, false, false, false, 0, 0, 0, false, 0⟩ : Am))) h118 (fun hc119 => ?_) (fun hc119 => ?_)
  ·
    refine kS ?_
    refine rp 1 ?_
    refine b0 (.C 0 2 <| .nil) [(2, .int .i64 3)] h118 (Kw.nil hB96) fun q120 h121 => ?_
    clear h118
    refine wpO_end ?_
    refine then_n ?_
    refine c_ret (by kernel_rfl) ?_
    refine then_r ?_
    refine ret1 (t := 2) (v := .int .i64 3) h121 (by kernel_rfl) (by kernel_rfl) ?_
    exact ⟨ret_eq (congrArg (Value.int .i64) (show refQ q = 3 from (cF hc10).trans ((cF hc43).trans ((cF hc48).trans ((cF hc99).trans ((cF hc104).trans (cT hc119)))))).symm), hB96.bel⟩
  refine c_skip (by kernel_rfl) ?_
  refine then_n ?_
  refine kS ?_
  refine rp 1 ?_
  refine b0 (.C 0 2 <| .nil) [(2, .int .i64 0)] h118 (Kw.nil hB96) fun q122 h123 => ?_
  clear h118
  refine wpO_end ?_
  refine then_n ?_
  refine c_ret (by kernel_rfl) ?_
  refine ret1 (t := 2) (v := .int .i64 0) h123 (by kernel_rfl) (by kernel_rfl) ?_
  exact ⟨ret_eq (congrArg (Value.int .i64) (show refQ q = 0 from (cF hc10).trans ((cF hc43).trans ((cF hc48).trans ((cF hc99).trans ((cF hc104).trans (cF hc119)))))).symm), hB96.bel⟩

end Go.Proofs.YtljegdokbifoiaaDoor.Af
