/- An instruction's check. Short lists of links. -/
import Derived.Test.YtljegdokbifoiaaDoorCk
namespace Go.Proofs.YtljegdokbifoiaaDoor.Af
open Go.RowKit
/-- The rules of an instruction but for its links. -/
def rules14 (i : Ins) : List (Bool × Int) := [(!(winB i.kind 0 4), 11), (!(rfB i.ref), 6), (!(memB i.sender), 6), ((isCol i) && (i.cpty.toList != (⟨#[]⟩ : ByteArray).toList), 3), ((!(isCol i)) && (!(memB i.cpty)), 6), ((i.cpty.toList == i.sender.toList), 1), (!(winB i.side 0 1), 11), ((!(isSec i)) && (i.side != (0 : Int)), 3), (!(assetB i), 6), (!(bndB i.qty (i.kind != (0 : Int))), 2), (!(bndB i.amt ((i.kind == (0 : Int)) || (i.kind == (1 : Int)))), 2), (!(winB i.sday 0 73048), 28), (((isSec i) && (!(winB i.tday 0 i.sday))) || ((!(isSec i)) && (i.tday != (0 : Int))), 28), ((!(winB i.prio 0 2)) || ((isCol i) && (i.prio != (0 : Int))), 2), (i.part && (!(isSec i)), 3), ((i.part && (decide (i.minlot < (1 : Int)))) || (!(winB i.minlot 0 (maxLotI i))), 2), (i.hold && (isCol i), 3), (i.resv && ((i.kind != (0 : Int)) || (i.prio != (2 : Int))), 3), ((isCol i) && (decide ((0 : Int) < ((i.links.length : Nat) : Int))), 3), (decide ((8 : Int) < ((i.links.length : Nat) : Int)), 8)]
def chkI (i : Ins) : Int := bif firstE (rules14 i) != 0 then firstE (rules14 i) else chkL i 0 i.links

set_option maxHeartbeats 4000000 in
set_option maxRecDepth 20000 in
theorem c14 (i : Ins) (A : Option Addr) (c : Nat) (w : World) (hn : i.links.length ≤ 4611686018427387904) (hc : i.links.length ≤ c) (hr : Rd w A (lkc i.links)) : Calls Tryd.prog 14 #[.agg #[.string i.ref, .int .i64 i.kind, .string i.sender, .string i.cpty, .int .i64 i.side, .string i.asset, .int .i64 i.qty, .int .i64 i.amt, .int .i64 i.tday, .int .i64 i.sday, .int .i64 i.prio, .bool i.part, .int .i64 i.minlot, .bool i.hold, .bool i.resv, .slice A i.links.length c]] w fun e w' => e = .returned (.int .i64 (chkI i)) ∧ Below w.heap.size w w' := by
  refine enter Tryd.func14 (by kernel_rfl) ?_ (by kernel_rfl)
  intro q0 h0
  replace h0 := h0.conv (l' := [(0, .agg #[.string i.ref, .int .i64 i.kind, .string i.sender, .string i.cpty, .int .i64 i.side, .string i.asset, .int .i64 i.qty, .int .i64 i.amt, .int .i64 i.tday, .int .i64 i.sday, .int .i64 i.prio, .bool i.part, .int .i64 i.minlot, .bool i.hold, .bool i.resv, .slice A i.links.length c])]) rfl
  have hB := Bx.refl w
  refine c_seq (by kernel_rfl) ?_
  refine reg_plain [(0, false), (1, false)] (by kernel_rfl) (by kernel_rfl) ?_
  refine stA (i := 0) (d := 1) (op := Op.box 29 (Operand.tmp 0)) (ty := 0) (g := none) (mk := fun b => .pointer (some ⟨b, 0, none⟩)) (o := .cells #[.string i.ref, .int .i64 i.kind, .string i.sender, .string i.cpty, .int .i64 i.side, .string i.asset, .int .i64 i.qty, .int .i64 i.amt, .int .i64 i.tday, .int .i64 i.sday, .int .i64 i.prio, .bool i.part, .int .i64 i.minlot, .bool i.hold, .bool i.resv, .slice A i.links.length c] 29 (0, 0)) h0 (by kernel_rfl) (by kernel_rfl) (by kernel_rfl) gok_none (fun _ => by kernel_rfl) hB (fun _ _ hq => trivial) (fun b3 w4 hB5 hN q1 h2 => ?_)
  clear h0 hB hN
  refine eE 1 2 (.assign (.const (.int .i64 0))) 26 (.int .i64 0) h2 fun q6 h7 => ?_
  clear h2
  refine wpO_end ?_
  have h8 := h7.keep [(2, .int .i64 0), (1, .pointer (some ⟨b3, 0, none⟩))] ⟨rfl, rfl, trivial⟩
  clear h7
  refine then_n ?_
  refine c_seq (by kernel_rfl) ?_
  have hD9 := hB5.drew
  refine reg_draw (S := Bx w [(b3, .cells #[.string i.ref, .int .i64 i.kind, .string i.sender, .string i.cpty, .int .i64 i.side, .string i.asset, .int .i64 i.qty, .int .i64 i.amt, .int .i64 i.tday, .int .i64 i.sday, .int .i64 i.prio, .bool i.part, .int .i64 i.minlot, .bool i.hold, .bool i.resv, .slice A i.links.length c] 29 (0, 0))]) 179 [⟨0, true, 0, 2, 128⟩, ⟨1, true, 1, 128, 256⟩, ⟨5, true, 0, 2, 4096⟩, ⟨6, true, 32, 4096, 8192⟩, ⟨10, true, 0, 2, 131072⟩, ⟨11, true, 1024, 131072, 262144⟩, ⟨15, true, 0, 2, 4194304⟩, ⟨23, true, 0, 2, 1073741824⟩, ⟨33, true, 0, 2, 1099511627776⟩, ⟨34, true, 8589934592, 1099511627776, 2199023255552⟩, ⟨35, true, 0, 2, 4398046511104⟩, ⟨36, true, 34359738368, 4398046511104, 8796093022208⟩, ⟨37, true, 85899345920, 10995116277760, 17592186044416⟩, ⟨38, true, 137438953472, 17592186044416, 35184372088832⟩, ⟨39, true, 0, 2, 70368744177664⟩, ⟨40, true, 549755813888, 70368744177664, 140737488355328⟩, ⟨44, true, 0, 2, 2251799813685248⟩, ⟨53, true, 0, 2, 1152921504606846976⟩, ⟨57, true, 0, 2, 18446744073709551616⟩, ⟨58, true, 144115188075855872, 18446744073709551616, 36893488147419103232⟩, ⟨59, true, 0, 2, 73786976294838206464⟩, ⟨60, true, 576460752303423488, 73786976294838206464, 147573952589676412928⟩, ⟨61, true, 1152921504606846976, 147573952589676412928, 295147905179352825856⟩, ⟨65, true, 0, 2, 4722366482869645213696⟩, ⟨66, true, 36893488147419103232, 4722366482869645213696, 9444732965739290427392⟩, ⟨67, true, 0, 2, 18889465931478580854784⟩, ⟨68, true, 147573952589676412928, 18889465931478580854784, 37778931862957161709568⟩, ⟨69, true, 295147905179352825856, 37778931862957161709568, 75557863725914323419136⟩, ⟨78, true, 0, 2, 38685626227668133590597632⟩, ⟨79, true, 302231454903657293676544, 38685626227668133590597632, 77371252455336267181195264⟩, ⟨83, true, 0, 2, 1237940039285380274899124224⟩, ⟨104, true, 0, 2, 2596148429267413814265248164610048⟩, ⟨105, true, 20282409603651670423947251286016, 2596148429267413814265248164610048, 5192296858534827628530496329220096⟩, ⟨118, true, 0, 2, 42535295865117307932921825928971026432⟩, ⟨119, true, 332306998946228968225951765070086144, 42535295865117307932921825928971026432, 85070591730234615865843651857942052864⟩, ⟨126, true, 0, 2, 10889035741470030830827987437816582766592⟩, ⟨127, true, 85070591730234615865843651857942052864, 10889035741470030830827987437816582766592, 21778071482940061661655974875633165533184⟩, ⟨142, true, 0, 2, 713623846352979940529142984724747568191373312⟩, ⟨143, true, 5575186299632655785383929568162090376495104, 713623846352979940529142984724747568191373312, 1427247692705959881058285969449495136382746624⟩, ⟨149, true, 0, 2, 91343852333181432387730302044767688728495783936⟩, ⟨150, true, 713623846352979940529142984724747568191373312, 91343852333181432387730302044767688728495783936, 182687704666362864775460604089535377456991567872⟩, ⟨162, true, 0, 2, 748288838313422294120286634350736906063837462003712⟩, ⟨171, true, 0, 2, 383123885216472214589586756787577295904684780545900544⟩, ⟨172, true, 2993155353253689176481146537402947624255349848014848, 383123885216472214589586756787577295904684780545900544, 766247770432944429179173513575154591809369561091801088⟩, ⟨173, true, 5986310706507378352962293074805895248510699696029696, 766247770432944429179173513575154591809369561091801088, 1532495540865888858358347027150309183618739122183602176⟩, ⟨174, true, 11972621413014756705924586149611790497021399392059392, 1532495540865888858358347027150309183618739122183602176, 3064991081731777716716694054300618367237478244367204352⟩, ⟨175, true, 23945242826029513411849172299223580994042798784118784, 3064991081731777716716694054300618367237478244367204352, 6129982163463555433433388108601236734474956488734408704⟩, ⟨2, false, 2, 256, 512⟩, ⟨3, true, 4, 512, 1024⟩, ⟨4, true, 8, 1024, 2048⟩, ⟨7, false, 68, 8192, 16384⟩, ⟨8, true, 128, 16384, 32768⟩, ⟨9, true, 256, 32768, 65536⟩, ⟨12, false, 2176, 262144, 524288⟩, ⟨13, true, 4096, 524288, 1048576⟩, ⟨14, true, 8192, 1048576, 2097152⟩, ⟨16, false, 36864, 4194304, 8388608⟩, ⟨17, true, 65536, 8388608, 16777216⟩, ⟨18, true, 131072, 16777218, 33554432⟩, ⟨19, true, 393216, 50331648, 67108864⟩, ⟨20, true, 655360, 83886080, 134217728⟩, ⟨21, true, 1179648, 150994944, 268435456⟩, ⟨22, true, 2097152, 268435456, 536870912⟩, ⟨24, false, 8519680, 1073741824, 2147483648⟩, ⟨25, true, 16777216, 2147483648, 4294967296⟩, ⟨26, true, 50331648, 4294967296, 8589934592⟩, ⟨27, true, 67108864, 8589934594, 17179869184⟩, ⟨28, true, 201326592, 25769803776, 34359738368⟩, ⟨29, false, 335544320, 42949672960, 68719476736⟩, ⟨30, true, 603979776, 77309411328, 137438953472⟩, ⟨31, true, 1140850688, 146028888064, 274877906944⟩, ⟨32, true, 2147483648, 274877906944, 549755813888⟩, ⟨41, false, 1100048498688, 140737488355328, 281474976710656⟩, ⟨42, true, 2199023255552, 281474976710656, 562949953421312⟩, ⟨43, true, 4398046511104, 562949953421312, 1125899906842624⟩, ⟨45, false, 19791209299968, 2251799813685248, 4503599627370496⟩, ⟨46, true, 35184372088832, 4503599627370496, 9007199254740992⟩, ⟨47, true, 105553116266496, 9007199254740992, 18014398509481984⟩, ⟨48, true, 140737488355328, 18014398509481986, 36028797018963968⟩, ⟨49, true, 422212465065984, 54043195528445952, 72057594037927936⟩, ⟨50, true, 703687441776640, 90071992547409920, 144115188075855872⟩, ⟨51, true, 1266637395197952, 162129586585337856, 288230376151711744⟩, ⟨52, true, 2251799813685248, 288230376151711744, 576460752303423488⟩, ⟨54, false, 9147936743096320, 1152921504606846976, 2305843009213693952⟩, ⟨55, true, 18014398509481984, 2305843009213693952, 4611686018427387904⟩, ⟨56, true, 36028797018963968, 4611686018427387904, 9223372036854775808⟩, ⟨62, false, 2612087783874887680, 332041393326771929088, 590295810358705651712⟩, ⟨63, true, 4611686018427387904, 590295810358705651712, 1180591620717411303424⟩, ⟨64, true, 9223372036854775808, 1180591620717411303424, 2361183241434822606848⟩, ⟨70, true, 594907496377133039616, 75557863725914323419136, 151115727451828646838272⟩, ⟨71, true, 1180591620717411303424, 151115727451828646838274, 302231454903657293676544⟩, ⟨72, true, 3541774862152233910272, 453347182355485940514816, 604462909807314587353088⟩, ⟨73, true, 5902958103587056517120, 755578637259143234191360, 1208925819614629174706176⟩, ⟨74, true, 10625324586456701730816, 1360041547066457821544448, 2417851639229258349412352⟩, ⟨75, false, 20143844528490830364672, 2427296372194997639839744, 4835703278458516698824704⟩, ⟨76, true, 37778931862957161709568, 4835703278458516698824704, 9671406556917033397649408⟩, ⟨77, true, 75557863725914323419136, 9671406556917033397649408, 19342813113834066795298816⟩, ⟨80, false, 642241841670271749062656, 77371252455336267181195264, 154742504910672534362390528⟩, ⟨81, true, 1208925819614629174706176, 154742504910672534362390528, 309485009821345068724781056⟩, ⟨82, true, 2417851639229258349412352, 309485009821345068724781056, 618970019642690137449562112⟩, ⟨84, false, 10880332376531662572355584, 1237940039285380274899124224, 2475880078570760549798248448⟩, ⟨85, true, 19342813113834066795298816, 2475880078570760549798248448, 4951760157141521099596496896⟩, ⟨86, true, 38685626227668133590597632, 4951760157141521099596496898, 9903520314283042199192993792⟩, ⟨87, true, 116056878683004400771792896, 14855280471424563298789490688, 19807040628566084398385987584⟩, ⟨88, true, 38685626227668133590597632, 4951760157141521099596496898, 39614081257132168796771975168⟩, ⟨89, true, 348170636049013202315378688, 44565841414273689896368472064, 79228162514264337593543950336⟩, ⟨90, false, 812398150781030805402550272, 103986963299971943091526434816, 158456325028528675187087900672⟩, ⟨91, true, 1276625665513048408489721856, 163408085185670196286684397568, 316912650057057350374175801344⟩, ⟨92, true, 2514565704798428683388846080, 321864410214198871473772298240, 633825300114114700748351602688⟩, ⟨93, true, 6189700196426901374495621120, 633825300114114700748351602688, 1267650600228229401496703205376⟩, ⟨94, true, 9903520314283042199192993792, 1267650600228229401496703205378, 2535301200456458802993406410752⟩, ⟨95, false, 29710560942849126597578981376, 3802951800684688204490109616128, 5070602400912917605986812821504⟩, ⟨96, true, 49517601571415210995964968960, 6338253001141147007483516026880, 10141204801825835211973625643008⟩, ⟨97, true, 128745764085679548589508919296, 11408855402054064613470328848384, 20282409603651670423947251286016⟩, ⟨98, true, 158456325028528675187087900672, 20282409603651670423947251286018, 40564819207303340847894502572032⟩, ⟨99, true, 475368975085586025561263702016, 60847228810955011271841753858048, 81129638414606681695789005144064⟩, ⟨100, true, 792281625142643375935439503360, 101412048018258352119736256430080, 162259276829213363391578010288128⟩, ⟨101, true, 1436010445571041118882984099840, 183809337033093263217021964779520, 324518553658426726783156020576256⟩, ⟨102, true, 2545204720770741845192599404544, 325786204258654956184652723781632, 649037107316853453566312041152512⟩, ⟨103, true, 5070602400912917605986812821504, 649037107316853453566312041152512, 1298074214633706907132624082305024⟩, ⟨106, false, 40723275532331869523081590472704, 5192296858534827628530496329220096, 10384593717069655257060992658440192⟩, ⟨107, true, 81129638414606681695789005144064, 10384593717069655257060992658440192, 20769187434139310514121985316880384⟩, ⟨108, true, 243388915243820045087367015432192, 20769187434139310514121985316880384, 41538374868278621028243970633760768⟩, ⟨109, true, 324518553658426726783156020576256, 41538374868278621028243970633760770, 83076749736557242056487941267521536⟩, ⟨110, false, 973555660975280180349468061728768, 124615124604835863084731911901282304, 166153499473114484112975882535043072⟩, ⟨111, true, 1622592768292133633915780102881280, 207691874341393105141219853168803840, 332306998946228968225951765070086144⟩, ⟨112, true, 2596148429267413814265248164610048, 332306998946228968225951765070086146, 664613997892457936451903530140172288⟩, ⟨113, true, 7788445287802241442795744493830144, 996920996838686904677855295210258432, 1329227995784915872903807060280344576⟩, ⟨114, true, 12980742146337069071326240823050240, 1661534994731144841129758825350430720, 2658455991569831745807614120560689152⟩, ⟨115, true, 23689854417065151055170389502066688, 3032301365384339335061809856264536064, 5316911983139663491615228241121378304⟩, ⟨116, true, 41862893421937047755027126654337024, 5358450358007942112643472211755139072, 10633823966279326983230456482242756608⟩, ⟨117, true, 83076749736557242056487941267521536, 10633823966279326983230456482242756608, 21267647932558653966460912964485513216⟩, ⟨120, true, 667210146321725350266168778304782336, 85070591730234615865843651857942052864, 170141183460469231731687303715884105728⟩, ⟨121, true, 1329227995784915872903807060280344576, 170141183460469231731687303715884105730, 340282366920938463463374607431768211456⟩, ⟨122, false, 3987683987354747618711421180841033728, 510423550381407695195061911147652317184, 680564733841876926926749214863536422912⟩, ⟨123, true, 6646139978924579364519035301401722880, 850705917302346158658436518579420528640, 1361129467683753853853498429727072845824⟩, ⟨124, true, 11963051962064242856134263542523101184, 1531270651144223085585185733442956951552, 2722258935367507707706996859454145691648⟩, ⟨125, true, 21267647932558653966460912964485513216, 2722258935367507707706996859454145691648, 5444517870735015415413993718908291383296⟩, ⟨128, true, 175458095443608895223302531957005484032, 21778071482940061661655974875633165533184, 43556142965880123323311949751266331066368⟩, ⟨129, true, 340282366920938463463374607431768211456, 43556142965880123323311949751266331066370, 87112285931760246646623899502532662132736⟩, ⟨130, true, 1020847100762815390390123822295304634368, 130668428897640369969935849253798993199104, 174224571863520493293247799005065324265472⟩, ⟨131, true, 1701411834604692317316873037158841057280, 217780714829400616616559748756331655331840, 348449143727040986586495598010130648530944⟩, ⟨132, true, 3062541302288446171170371466885913903104, 392005286692921109909807547761396979597312, 696898287454081973172991196020261297061888⟩, ⟨133, true, 5784800237655953878877368326340059594752, 696898287454081973172991196020261297061888, 1393796574908163946345982392040522594123776⟩, ⟨134, true, 10889035741470030830827987437816582766592, 1393796574908163946345982392040522594123778, 2787593149816327892691964784081045188247552⟩, ⟨135, true, 32667107224410092492483962313449748299776, 4181389724724491839037947176121567782371328, 5575186299632655785383929568162090376495104⟩, ⟨136, true, 10889035741470030830827987437816582766592, 1393796574908163946345982392040522594123778, 11150372599265311570767859136324180752990208⟩, ⟨137, false, 98001321673230277477451886940349244899328, 12544169174173475517113841528364703347113984, 22300745198530623141535718272648361505980416⟩, ⟨138, false, 228669750570870647447387736194148238098432, 29269728073071442873265630232850974476599296, 44601490397061246283071436545296723011960832⟩, ⟨139, true, 359338179468511017417323585447947231297536, 45995286971969410229417418937337245606084608, 89202980794122492566142873090593446023921664⟩, ⟨140, true, 707787323195552004003819183458077879828480, 90596777369030656512488855482633968618045440, 178405961588244985132285746181186892047843328⟩, ⟨141, true, 1393796574908163946345982392040522594123776, 178405961588244985132285746181186892047843328, 356811923176489970264571492362373784095686656⟩, ⟨144, true, 11498821742992352557354354734334311401521152, 1427247692705959881058285969449495136382746624, 2854495385411919762116571938898990272765493248⟩, ⟨145, true, 22300745198530623141535718272648361505980416, 2854495385411919762116571938898990272765493250, 5708990770823839524233143877797980545530986496⟩, ⟨146, false, 66902235595591869424607154817945084517941248, 8563486156235759286349715816696970818296479744, 11417981541647679048466287755595961091061972992⟩, ⟨147, true, 111503725992653115707678591363241807529902080, 14272476927059598810582859694494951363827466240, 22835963083295358096932575511191922182123945984⟩, ⟨148, true, 178405961588244985132285746181186892047843328, 22835963083295358096932575511191922182123945984, 45671926166590716193865151022383844364247891968⟩, ⟨151, true, 1516450673500082373624428842540088582406668288, 182687704666362864775460604089535377456991567872, 365375409332725729550921208179070754913983135744⟩, ⟨152, true, 2854495385411919762116571938898990272765493248, 365375409332725729550921208179070754913983135746, 730750818665451459101842416358141509827966271488⟩, ⟨153, true, 8563486156235759286349715816696970818296479744, 1096126227998177188652763624537212264741949407232, 1461501637330902918203684832716283019655932542976⟩, ⟨154, true, 14272476927059598810582859694494951363827466240, 1826877046663628647754606040895353774569915678720, 2923003274661805836407369665432566039311865085952⟩, ⟨155, true, 25690458468707277859049147450090912454889439232, 3288378683994531565958290873611636794225848221696, 5846006549323611672814739330865132078623730171904⟩, ⟨156, true, 45671926166590716193865151022383844364247891968, 5846006549323611672814739330865132078623730171906, 11692013098647223345629478661730264157247460343808⟩, ⟨157, true, 137015778499772148581595453067151533092743675904, 17538019647970835018444217992595396235871190515712, 23384026197294446691258957323460528314494920687616⟩, ⟨158, true, 228359630832953580969325755111919221821239459840, 29230032746618058364073696654325660393118650859520, 46768052394588893382517914646921056628989841375232⟩, ⟨159, true, 413901830884728365506902931140353589550996520960, 52979434353245230784883575185965259462527554682880, 93536104789177786765035829293842113257979682750464⟩, ⟨160, true, 733605314050863378863958988297040500100731764736, 93901480198510512494586750502021184012893665886208, 187072209578355573530071658587684226515959365500928⟩, ⟨161, true, 1461501637330902918203684832716283019655932542976, 187072209578355573530071658587684226515959365500928, 374144419156711147060143317175368453031918731001856⟩, ⟨163, false, 5891678475490202389008604481887515922987978063872, 748288838313422294120286634350736906063837462003712, 1496577676626844588240573268701473812127674924007424⟩, ⟨164, true, 11692013098647223345629478661730264157247460343808, 1496577676626844588240573268701473812127674924007424, 2993155353253689176481146537402947624255349848014848⟩, ⟨165, true, 23384026197294446691258957323460528314494920687616, 2993155353253689176481146537402947624255349848014850, 5986310706507378352962293074805895248510699696029696⟩, ⟨166, true, 70152078591883340073776871970381584943484762062848, 8979466059761067529443439612208842872766049544044544, 11972621413014756705924586149611790497021399392059392⟩, ⟨167, true, 116920130986472233456294786617302641572474603438080, 14965776766268445882405732687014738121276749240074240, 23945242826029513411849172299223580994042798784118784⟩, ⟨168, true, 210456235775650020221330615911144754830454286188544, 26938398179283202588330318836626528618298148632133632, 47890485652059026823698344598447161988085597568237568⟩, ⟨169, true, 397528445354005593751402274498828981346413651689472, 50883641005312716000179491135850109612340947416252416, 95780971304118053647396689196894323976171195136475136⟩, ⟨170, true, 748288838313422294120286634350736906063837462003712, 95780971304118053647396689196894323976171195136475136, 191561942608236107294793378393788647952342390272950272⟩, ⟨176, false, 49389986691560092245541129194288605911945886763598352, 6321918296519691807429264536868941556729073505740589056, 12259964326927110866866776217202473468949912977468817408⟩, ⟨177, false, 95804355330315348094087948154217784504485690057162752, 12259964326927110866866776217202473468949912977468817408, 24519928653854221733733552434404946937899825954937634816⟩, ⟨178, true, 383123885216472214589586756787577295904684780545900543, 24519928653854221733733552434404946937899825954937634816, 8⟩] [(0, true), (1, true), (5, true), (6, true), (10, true), (11, true), (15, true), (23, true), (33, true), (34, true), (35, true), (36, true), (37, true), (38, true), (39, true), (40, true), (44, true), (53, true), (57, true), (58, true), (59, true), (60, true), (61, true), (65, true), (66, true), (67, true), (68, true), (69, true), (78, true), (79, true), (83, true), (104, true), (105, true), (118, true), (119, true), (126, true), (127, true), (142, true), (143, true), (149, true), (150, true), (162, true), (171, true), (172, true), (173, true), (174, true), (175, true), (2, false), (3, true), (4, true), (7, false), (8, true), (9, true), (12, false), (13, true), (14, true), (16, false), (17, true), (18, true), (19, true), (20, true), (21, true), (22, true), (24, false), (25, true), (26, true), (27, true), (28, true), (29, false), (30, true), (31, true), (32, true), (41, false), (42, true), (43, true), (45, false), (46, true), (47, true), (48, true), (49, true), (50, true), (51, true), (52, true), (54, false), (55, true), (56, true), (62, false), (63, true), (64, true), (70, true), (71, true), (72, true), (73, true), (74, true), (75, false), (76, true), (77, true), (80, false), (81, true), (82, true), (84, false), (85, true), (86, true), (87, true), (88, true), (89, true), (90, false), (91, true), (92, true), (93, true), (94, true), (95, false), (96, true), (97, true), (98, true), (99, true), (100, true), (101, true), (102, true), (103, true), (106, false), (107, true), (108, true), (109, true), (110, false), (111, true), (112, true), (113, true), (114, true), (115, true), (116, true), (117, true), (120, true), (121, true), (122, false), (123, true), (124, true), (125, true), (128, true), (129, true), (130, true), (131, true), (132, true), (133, true), (134, true), (135, true), (136, true), (137, false), (138, false), (139, true), (140, true), (141, true), (144, true), (145, true), (146, false), (147, true), (148, true), (151, true), (152, true), (153, true), (154, true), (155, true), (156, true), (157, true), (158, true), (159, true), (160, true), (161, true), (163, false), (164, true), (165, true), (166, true), (167, true), (168, true), (169, true), (170, true), (176, false), (177, false), (178, true)] (by kernel_rfl) (by kernel_rfl) (by kernel_rfl) (by kernel_rfl) (fun _ _ _ _ h => absurd h.2 (by simp)) hD9 ?_
  generalize World.drew w4 = w10 at hD9 ⊢
  refine fE 0 7 (.fieldAddr 29 (.tmp 1) 1) 0 (.pointer (some ⟨b3, 1, none⟩)) h8 fun q11 h12 => ?_
  clear h8
  refine fE 1 8 (.load 3 (.tmp 7)) 3 (.int .i64 i.kind) h12 (hr := fun _ hS => r_loadC (b := b3) (v := .int .i64 i.kind) hS 0 1 (by kernel_rfl) (by kernel_rfl) (by kernel_rfl)) fun q13 h14 => ?_
  clear h12
  refine fE 5 12 (.fieldAddr 29 (.tmp 1) 0) 0 (.pointer (some ⟨b3, 0, none⟩)) h14 fun q15 h16 => ?_
  clear h14
  refine fE 6 13 (.load 9 (.tmp 12)) 9 (.string i.ref) h16 (hr := fun _ hS => r_loadC (b := b3) (v := .string i.ref) hS 0 0 (by kernel_rfl) (by kernel_rfl) (by kernel_rfl)) fun q17 h18 => ?_
  clear h16
  refine fE 10 17 (.fieldAddr 29 (.tmp 1) 2) 0 (.pointer (some ⟨b3, 2, none⟩)) h18 fun q19 h20 => ?_
  clear h18
  refine fE 11 18 (.load 9 (.tmp 17)) 9 (.string i.sender) h20 (hr := fun _ hS => r_loadC (b := b3) (v := .string i.sender) hS 0 2 (by kernel_rfl) (by kernel_rfl) (by kernel_rfl)) fun q21 h22 => ?_
  clear h20
  refine fE 15 22 (.load 29 (.tmp 1)) 29 (.agg #[.string i.ref, .int .i64 i.kind, .string i.sender, .string i.cpty, .int .i64 i.side, .string i.asset, .int .i64 i.qty, .int .i64 i.amt, .int .i64 i.tday, .int .i64 i.sday, .int .i64 i.prio, .bool i.part, .int .i64 i.minlot, .bool i.hold, .bool i.resv, .slice A i.links.length c]) h22 (hr := fun _ hS => r_loadS (b := b3) (vs := [.string i.ref, .int .i64 i.kind, .string i.sender, .string i.cpty, .int .i64 i.side, .string i.asset, .int .i64 i.qty, .int .i64 i.amt, .int .i64 i.tday, .int .i64 i.sday, .int .i64 i.prio, .bool i.part, .int .i64 i.minlot, .bool i.hold, .bool i.resv, .slice A i.links.length c]) hS 0 0 (by kernel_rfl) (by kernel_rfl) (by kernel_rfl)) fun q23 h24 => ?_
  clear h22
  refine fE 23 30 (.load 29 (.tmp 1)) 29 (.agg #[.string i.ref, .int .i64 i.kind, .string i.sender, .string i.cpty, .int .i64 i.side, .string i.asset, .int .i64 i.qty, .int .i64 i.amt, .int .i64 i.tday, .int .i64 i.sday, .int .i64 i.prio, .bool i.part, .int .i64 i.minlot, .bool i.hold, .bool i.resv, .slice A i.links.length c]) h24 (hr := fun _ hS => r_loadS (b := b3) (vs := [.string i.ref, .int .i64 i.kind, .string i.sender, .string i.cpty, .int .i64 i.side, .string i.asset, .int .i64 i.qty, .int .i64 i.amt, .int .i64 i.tday, .int .i64 i.sday, .int .i64 i.prio, .bool i.part, .int .i64 i.minlot, .bool i.hold, .bool i.resv, .slice A i.links.length c]) hS 0 0 (by kernel_rfl) (by kernel_rfl) (by kernel_rfl)) fun q25 h26 => ?_
  clear h24
  refine fE 33 40 (.fieldAddr 29 (.tmp 1) 3) 0 (.pointer (some ⟨b3, 3, none⟩)) h26 fun q27 h28 => ?_
  clear h26
  refine fE 34 41 (.load 9 (.tmp 40)) 9 (.string i.cpty) h28 (hr := fun _ hS => r_loadC (b := b3) (v := .string i.cpty) hS 0 3 (by kernel_rfl) (by kernel_rfl) (by kernel_rfl)) fun q29 h30 => ?_
  clear h28
  refine fE 35 42 (.fieldAddr 29 (.tmp 1) 2) 0 (.pointer (some ⟨b3, 2, none⟩)) h30 fun q31 h32 => ?_
  clear h30
  refine fE 36 43 (.load 9 (.tmp 42)) 9 (.string i.sender) h32 (hr := fun _ hS => r_loadC (b := b3) (v := .string i.sender) hS 0 2 (by kernel_rfl) (by kernel_rfl) (by kernel_rfl)) fun q33 h34 => ?_
  clear h32
  refine fE 37 44 (.binOp .eql 9 (.tmp 41) (.tmp 43) 9) 4 (.bool (i.cpty.toList == i.sender.toList)) h34 fun q35 h36 => ?_
  clear h34
  refine fE 38 45 (.build 71 #[(0, .tmp 44), (1, .const (.int .i64 1))]) 71 (.agg #[.bool (i.cpty.toList == i.sender.toList), .int .i64 1]) h36 fun q37 h38 => ?_
  clear h36
  refine fE 39 46 (.fieldAddr 29 (.tmp 1) 4) 0 (.pointer (some ⟨b3, 4, none⟩)) h38 fun q39 h40 => ?_
  clear h38
  refine fE 40 47 (.load 3 (.tmp 46)) 3 (.int .i64 i.side) h40 (hr := fun _ hS => r_loadC (b := b3) (v := .int .i64 i.side) hS 0 4 (by kernel_rfl) (by kernel_rfl) (by kernel_rfl)) fun q41 h42 => ?_
  clear h40
  refine fE 44 51 (.load 29 (.tmp 1)) 29 (.agg #[.string i.ref, .int .i64 i.kind, .string i.sender, .string i.cpty, .int .i64 i.side, .string i.asset, .int .i64 i.qty, .int .i64 i.amt, .int .i64 i.tday, .int .i64 i.sday, .int .i64 i.prio, .bool i.part, .int .i64 i.minlot, .bool i.hold, .bool i.resv, .slice A i.links.length c]) h42 (hr := fun _ hS => r_loadS (b := b3) (vs := [.string i.ref, .int .i64 i.kind, .string i.sender, .string i.cpty, .int .i64 i.side, .string i.asset, .int .i64 i.qty, .int .i64 i.amt, .int .i64 i.tday, .int .i64 i.sday, .int .i64 i.prio, .bool i.part, .int .i64 i.minlot, .bool i.hold, .bool i.resv, .slice A i.links.length c]) hS 0 0 (by kernel_rfl) (by kernel_rfl) (by kernel_rfl)) fun q43 h44 => ?_
  clear h42
  refine fE 53 60 (.load 29 (.tmp 1)) 29 (.agg #[.string i.ref, .int .i64 i.kind, .string i.sender, .string i.cpty, .int .i64 i.side, .string i.asset, .int .i64 i.qty, .int .i64 i.amt, .int .i64 i.tday, .int .i64 i.sday, .int .i64 i.prio, .bool i.part, .int .i64 i.minlot, .bool i.hold, .bool i.resv, .slice A i.links.length c]) h44 (hr := fun _ hS => r_loadS (b := b3) (vs := [.string i.ref, .int .i64 i.kind, .string i.sender, .string i.cpty, .int .i64 i.side, .string i.asset, .int .i64 i.qty, .int .i64 i.amt, .int .i64 i.tday, .int .i64 i.sday, .int .i64 i.prio, .bool i.part, .int .i64 i.minlot, .bool i.hold, .bool i.resv, .slice A i.links.length c]) hS 0 0 (by kernel_rfl) (by kernel_rfl) (by kernel_rfl)) fun q45 h46 => ?_
  clear h44
  refine fE 57 64 (.fieldAddr 29 (.tmp 1) 6) 0 (.pointer (some ⟨b3, 6, none⟩)) h46 fun q47 h48 => ?_
  clear h46
  refine fE 58 65 (.load 2 (.tmp 64)) 2 (.int .i64 i.qty) h48 (hr := fun _ hS => r_loadC (b := b3) (v := .int .i64 i.qty) hS 0 6 (by kernel_rfl) (by kernel_rfl) (by kernel_rfl)) fun q49 h50 => ?_
  clear h48
  refine fE 59 66 (.fieldAddr 29 (.tmp 1) 1) 0 (.pointer (some ⟨b3, 1, none⟩)) h50 fun q51 h52 => ?_
  clear h50
  refine fE 60 67 (.load 3 (.tmp 66)) 3 (.int .i64 i.kind) h52 (hr := fun _ hS => r_loadC (b := b3) (v := .int .i64 i.kind) hS 0 1 (by kernel_rfl) (by kernel_rfl) (by kernel_rfl)) fun q53 h54 => ?_
  clear h52
  refine fE 61 68 (.binOp .neq 3 (.tmp 67) (.const (.int .i64 0)) 3) 4 (.bool (i.kind != (0 : Int))) h54 fun q55 h56 => ?_
  clear h54
  refine fE 65 72 (.fieldAddr 29 (.tmp 1) 7) 0 (.pointer (some ⟨b3, 7, none⟩)) h56 fun q57 h58 => ?_
  clear h56
  refine fE 66 73 (.load 2 (.tmp 72)) 2 (.int .i64 i.amt) h58 (hr := fun _ hS => r_loadC (b := b3) (v := .int .i64 i.amt) hS 0 7 (by kernel_rfl) (by kernel_rfl) (by kernel_rfl)) fun q59 h60 => ?_
  clear h58
  refine fE 67 74 (.fieldAddr 29 (.tmp 1) 1) 0 (.pointer (some ⟨b3, 1, none⟩)) h60 fun q61 h62 => ?_
  clear h60
  refine fE 68 75 (.load 3 (.tmp 74)) 3 (.int .i64 i.kind) h62 (hr := fun _ hS => r_loadC (b := b3) (v := .int .i64 i.kind) hS 0 1 (by kernel_rfl) (by kernel_rfl) (by kernel_rfl)) fun q63 h64 => ?_
  clear h62
  refine fE 69 76 (.binOp .eql 3 (.tmp 75) (.const (.int .i64 0)) 3) 4 (.bool (i.kind == (0 : Int))) h64 fun q65 h66 => ?_
  clear h64
  refine fE 78 85 (.fieldAddr 29 (.tmp 1) 9) 0 (.pointer (some ⟨b3, 9, none⟩)) h66 fun q67 h68 => ?_
  clear h66
  refine fE 79 86 (.load 3 (.tmp 85)) 3 (.int .i64 i.sday) h68 (hr := fun _ hS => r_loadC (b := b3) (v := .int .i64 i.sday) hS 0 9 (by kernel_rfl) (by kernel_rfl) (by kernel_rfl)) fun q69 h70 => ?_
  clear h68
  refine fE 83 90 (.load 29 (.tmp 1)) 29 (.agg #[.string i.ref, .int .i64 i.kind, .string i.sender, .string i.cpty, .int .i64 i.side, .string i.asset, .int .i64 i.qty, .int .i64 i.amt, .int .i64 i.tday, .int .i64 i.sday, .int .i64 i.prio, .bool i.part, .int .i64 i.minlot, .bool i.hold, .bool i.resv, .slice A i.links.length c]) h70 (hr := fun _ hS => r_loadS (b := b3) (vs := [.string i.ref, .int .i64 i.kind, .string i.sender, .string i.cpty, .int .i64 i.side, .string i.asset, .int .i64 i.qty, .int .i64 i.amt, .int .i64 i.tday, .int .i64 i.sday, .int .i64 i.prio, .bool i.part, .int .i64 i.minlot, .bool i.hold, .bool i.resv, .slice A i.links.length c]) hS 0 0 (by kernel_rfl) (by kernel_rfl) (by kernel_rfl)) fun q71 h72 => ?_
  clear h70
  refine fE 104 111 (.fieldAddr 29 (.tmp 1) 10) 0 (.pointer (some ⟨b3, 10, none⟩)) h72 fun q73 h74 => ?_
  clear h72
  refine fE 105 112 (.load 3 (.tmp 111)) 3 (.int .i64 i.prio) h74 (hr := fun _ hS => r_loadC (b := b3) (v := .int .i64 i.prio) hS 0 10 (by kernel_rfl) (by kernel_rfl) (by kernel_rfl)) fun q75 h76 => ?_
  clear h74
  refine fE 118 125 (.fieldAddr 29 (.tmp 1) 11) 0 (.pointer (some ⟨b3, 11, none⟩)) h76 fun q77 h78 => ?_
  clear h76
  refine fE 119 126 (.load 4 (.tmp 125)) 4 (.bool i.part) h78 (hr := fun _ hS => r_loadC (b := b3) (v := .bool i.part) hS 0 11 (by kernel_rfl) (by kernel_rfl) (by kernel_rfl)) fun q79 h80 => ?_
  clear h78
  refine fE 126 133 (.fieldAddr 29 (.tmp 1) 11) 0 (.pointer (some ⟨b3, 11, none⟩)) h80 fun q81 h82 => ?_
  clear h80
  refine fE 127 134 (.load 4 (.tmp 133)) 4 (.bool i.part) h82 (hr := fun _ hS => r_loadC (b := b3) (v := .bool i.part) hS 0 11 (by kernel_rfl) (by kernel_rfl) (by kernel_rfl)) fun q83 h84 => ?_
  clear h82
  refine fE 142 149 (.fieldAddr 29 (.tmp 1) 13) 0 (.pointer (some ⟨b3, 13, none⟩)) h84 fun q85 h86 => ?_
  clear h84
  refine fE 143 150 (.load 4 (.tmp 149)) 4 (.bool i.hold) h86 (hr := fun _ hS => r_loadC (b := b3) (v := .bool i.hold) hS 0 13 (by kernel_rfl) (by kernel_rfl) (by kernel_rfl)) fun q87 h88 => ?_
  clear h86
  refine fE 149 156 (.fieldAddr 29 (.tmp 1) 14) 0 (.pointer (some ⟨b3, 14, none⟩)) h88 fun q89 h90 => ?_
  clear h88
  refine fE 150 157 (.load 4 (.tmp 156)) 4 (.bool i.resv) h90 (hr := fun _ hS => r_loadC (b := b3) (v := .bool i.resv) hS 0 14 (by kernel_rfl) (by kernel_rfl) (by kernel_rfl)) fun q91 h92 => ?_
  clear h90
  refine fE 162 169 (.load 29 (.tmp 1)) 29 (.agg #[.string i.ref, .int .i64 i.kind, .string i.sender, .string i.cpty, .int .i64 i.side, .string i.asset, .int .i64 i.qty, .int .i64 i.amt, .int .i64 i.tday, .int .i64 i.sday, .int .i64 i.prio, .bool i.part, .int .i64 i.minlot, .bool i.hold, .bool i.resv, .slice A i.links.length c]) h92 (hr := fun _ hS => r_loadS (b := b3) (vs := [.string i.ref, .int .i64 i.kind, .string i.sender, .string i.cpty, .int .i64 i.side, .string i.asset, .int .i64 i.qty, .int .i64 i.amt, .int .i64 i.tday, .int .i64 i.sday, .int .i64 i.prio, .bool i.part, .int .i64 i.minlot, .bool i.hold, .bool i.resv, .slice A i.links.length c]) hS 0 0 (by kernel_rfl) (by kernel_rfl) (by kernel_rfl)) fun q93 h94 => ?_
  clear h92
  refine fE 171 178 (.fieldAddr 29 (.tmp 1) 15) 0 (.pointer (some ⟨b3, 15, none⟩)) h94 fun q95 h96 => ?_
  clear h94
  refine fE 172 179 (.load 27 (.tmp 178)) 27 (.slice A i.links.length c) h96 (hr := fun _ hS => r_loadC (b := b3) (v := .slice A i.links.length c) hS 0 15 (by kernel_rfl) (by kernel_rfl) (by kernel_rfl)) fun q97 h98 => ?_
  clear h96
  refine fE 173 180 (.call { callee := .builtin .len, args := #[.tmp 179], argTypes := #[27] }) 3 (.int .i64 ((i.links.length : Nat) : Int)) h98 fun q99 h100 => ?_
  clear h98
  refine fE 174 181 (.binOp .gtr 3 (.tmp 180) (.const (.int .i64 8)) 3) 4 (.bool (decide ((8 : Int) < ((i.links.length : Nat) : Int)))) h100 fun q101 h102 => ?_
  clear h100
  refine fE 175 182 (.build 71 #[(0, .tmp 181), (1, .const (.int .i64 8))]) 71 (.agg #[.bool (decide ((8 : Int) < ((i.links.length : Nat) : Int))), .int .i64 8]) h102 fun q103 h104 => ?_
  clear h102
  refine stC (i := 2) (d := 9) (op := Op.call { callee := Callee.value (Operand.func 40), args := #[Operand.tmp 8, Operand.const (Value.int IntKind.i64 0), Operand.const (Value.int IntKind.i64 4)], argTypes := #[3, 3, 3] }) (ty := 4) (g := none) (f := 40) (args := #[.int .i64 i.kind, .int .i64 0, .int .i64 4]) (w1 := w10) h104 (by kernel_rfl) (by kernel_rfl) (by kernel_rfl) gok_none (by kernel_rfl) (c40 i.kind 0 4 w10) ?_
  rintro _ w107 ⟨rfl, hb108⟩
  have hB109 := hD9.call hb108
  refine ⟨_, rfl, hB109, fun q105 h106 => ?_⟩
  clear h104 hD9 hb108
  refine fE 3 10 (.unOp .not 4 (.tmp 9)) 4 (.bool (!(winB i.kind 0 4))) h106 fun q110 h111 => ?_
  clear h106
  refine fE 4 11 (.build 71 #[(0, .tmp 10), (1, .const (.int .i64 11))]) 71 (.agg #[.bool (!(winB i.kind 0 4)), .int .i64 11]) h111 fun q112 h113 => ?_
  clear h111
  refine stC (i := 7) (d := 14) (op := Op.call { callee := Callee.value (Operand.func 41), args := #[Operand.const (Value.int IntKind.i64 2), Operand.tmp 13], argTypes := #[3, 9] }) (ty := 4) (g := none) (f := 41) (args := #[.int .i64 2, .string i.ref]) (w1 := w107) h113 (by kernel_rfl) (by kernel_rfl) (by kernel_rfl) gok_none (by kernel_rfl) (c41_2 i.ref w107) ?_
  rintro _ w116 ⟨rfl, hb117⟩
  have hB118 := hB109.call hb117
  refine ⟨_, rfl, hB118, fun q114 h115 => ?_⟩
  clear h113 hB109 hb117
  refine fE 8 15 (.unOp .not 4 (.tmp 14)) 4 (.bool (!(rfB i.ref))) h115 fun q119 h120 => ?_
  clear h115
  refine fE 9 16 (.build 71 #[(0, .tmp 15), (1, .const (.int .i64 6))]) 71 (.agg #[.bool (!(rfB i.ref)), .int .i64 6]) h120 fun q121 h122 => ?_
  clear h120
  refine stC (i := 12) (d := 19) (op := Op.call { callee := Callee.value (Operand.func 41), args := #[Operand.const (Value.int IntKind.i64 1), Operand.tmp 18], argTypes := #[3, 9] }) (ty := 4) (g := none) (f := 41) (args := #[.int .i64 1, .string i.sender]) (w1 := w116) h122 (by kernel_rfl) (by kernel_rfl) (by kernel_rfl) gok_none (by kernel_rfl) (c41_1 i.sender w116) ?_
  rintro _ w125 ⟨rfl, hb126⟩
  have hB127 := hB118.call hb126
  refine ⟨_, rfl, hB127, fun q123 h124 => ?_⟩
  clear h122 hB118 hb126
  refine fE 13 20 (.unOp .not 4 (.tmp 19)) 4 (.bool (!(memB i.sender))) h124 fun q128 h129 => ?_
  clear h124
  refine fE 14 21 (.build 71 #[(0, .tmp 20), (1, .const (.int .i64 6))]) 71 (.agg #[.bool (!(memB i.sender)), .int .i64 6]) h129 fun q130 h131 => ?_
  clear h129
  refine stC (i := 16) (d := 23) (op := Op.call { callee := Callee.value (Operand.func 42), args := #[Operand.tmp 22], argTypes := #[29] }) (ty := 4) (g := none) (f := 42) (args := #[.agg #[.string i.ref, .int .i64 i.kind, .string i.sender, .string i.cpty, .int .i64 i.side, .string i.asset, .int .i64 i.qty, .int .i64 i.amt, .int .i64 i.tday, .int .i64 i.sday, .int .i64 i.prio, .bool i.part, .int .i64 i.minlot, .bool i.hold, .bool i.resv, .slice A i.links.length c]]) (w1 := w125) h131 (by kernel_rfl) (by kernel_rfl) (by kernel_rfl) gok_none (by kernel_rfl) (c42 i A c w125) ?_
  rintro _ w134 ⟨rfl, hb135⟩
  have hB136 := hB127.call hb135
  refine ⟨_, rfl, hB136, fun q132 h133 => ?_⟩
  clear h131 hB127 hb135
  refine fE 17 24 (.move (.tmp 23)) 4 (.bool (isCol i)) h133 fun q137 h138 => ?_
  clear h133
  refine wpO_cut [(18, true), (19, true), (20, true), (21, true)] [(22, true), (24, false), (25, true), (26, true), (27, true), (28, true), (29, false), (30, true), (31, true), (32, true), (41, false), (42, true), (43, true), (45, false), (46, true), (47, true), (48, true), (49, true), (50, true), (51, true), (52, true), (54, false), (55, true), (56, true), (62, false), (63, true), (64, true), (70, true), (71, true), (72, true), (73, true), (74, true), (75, false), (76, true), (77, true), (80, false), (81, true), (82, true), (84, false), (85, true), (86, true), (87, true), (88, true), (89, true), (90, false), (91, true), (92, true), (93, true), (94, true), (95, false), (96, true), (97, true), (98, true), (99, true), (100, true), (101, true), (102, true), (103, true), (106, false), (107, true), (108, true), (109, true), (110, false), (111, true), (112, true), (113, true), (114, true), (115, true), (116, true), (117, true), (120, true), (121, true), (122, false), (123, true), (124, true), (125, true), (128, true), (129, true), (130, true), (131, true), (132, true), (133, true), (134, true), (135, true), (136, true), (137, false), (138, false), (139, true), (140, true), (141, true), (144, true), (145, true), (146, false), (147, true), (148, true), (151, true), (152, true), (153, true), (154, true), (155, true), (156, true), (157, true), (158, true), (159, true), (160, true), (161, true), (163, false), (164, true), (165, true), (166, true), (167, true), (168, true), (169, true), (170, true), (176, false), (177, false), (178, true)] (fun qa qw => Fr 225 [(28, .bool ((isCol i) && (i.cpty.toList != (⟨#[]⟩ : ByteArray).toList))), (21, .agg #[.bool (!(memB i.sender)), .int .i64 6]), (16, .agg #[.bool (!(rfB i.ref)), .int .i64 6]), (11, .agg #[.bool (!(winB i.kind 0 4)), .int .i64 11]), (182, .agg #[.bool (decide ((8 : Int) < ((i.links.length : Nat) : Int))), .int .i64 8]), (169, .agg #[.string i.ref, .int .i64 i.kind, .string i.sender, .string i.cpty, .int .i64 i.side, .string i.asset, .int .i64 i.qty, .int .i64 i.amt, .int .i64 i.tday, .int .i64 i.sday, .int .i64 i.prio, .bool i.part, .int .i64 i.minlot, .bool i.hold, .bool i.resv, .slice A i.links.length c]), (157, .bool i.resv), (150, .bool i.hold), (134, .bool i.part), (126, .bool i.part), (112, .int .i64 i.prio), (90, .agg #[.string i.ref, .int .i64 i.kind, .string i.sender, .string i.cpty, .int .i64 i.side, .string i.asset, .int .i64 i.qty, .int .i64 i.amt, .int .i64 i.tday, .int .i64 i.sday, .int .i64 i.prio, .bool i.part, .int .i64 i.minlot, .bool i.hold, .bool i.resv, .slice A i.links.length c]), (86, .int .i64 i.sday), (76, .bool (i.kind == (0 : Int))), (73, .int .i64 i.amt), (68, .bool (i.kind != (0 : Int))), (65, .int .i64 i.qty), (60, .agg #[.string i.ref, .int .i64 i.kind, .string i.sender, .string i.cpty, .int .i64 i.side, .string i.asset, .int .i64 i.qty, .int .i64 i.amt, .int .i64 i.tday, .int .i64 i.sday, .int .i64 i.prio, .bool i.part, .int .i64 i.minlot, .bool i.hold, .bool i.resv, .slice A i.links.length c]), (51, .agg #[.string i.ref, .int .i64 i.kind, .string i.sender, .string i.cpty, .int .i64 i.side, .string i.asset, .int .i64 i.qty, .int .i64 i.amt, .int .i64 i.tday, .int .i64 i.sday, .int .i64 i.prio, .bool i.part, .int .i64 i.minlot, .bool i.hold, .bool i.resv, .slice A i.links.length c]), (47, .int .i64 i.side), (45, .agg #[.bool (i.cpty.toList == i.sender.toList), .int .i64 1]), (30, .agg #[.string i.ref, .int .i64 i.kind, .string i.sender, .string i.cpty, .int .i64 i.side, .string i.asset, .int .i64 i.qty, .int .i64 i.amt, .int .i64 i.tday, .int .i64 i.sday, .int .i64 i.prio, .bool i.part, .int .i64 i.minlot, .bool i.hold, .bool i.resv, .slice A i.links.length c]), (2, .int .i64 0), (1, .pointer (some ⟨b3, 0, none⟩))] qa ∧ Bx w [(b3, .cells #[.string i.ref, .int .i64 i.kind, .string i.sender, .string i.cpty, .int .i64 i.side, .string i.asset, .int .i64 i.qty, .int .i64 i.amt, .int .i64 i.tday, .int .i64 i.sday, .int .i64 i.prio, .bool i.part, .int .i64 i.minlot, .bool i.hold, .bool i.resv, .slice A i.links.length c] 29 (0, 0))] qw) ?_ ?_
  ·
    rcases Bool.eq_false_or_eq_true (isCol i) with hc139 | hc139
    ·
      refine fG 18 25 (.fieldAddr 29 (.tmp 1) 3) 0 (17, true) (.pointer (some ⟨b3, 3, none⟩)) (g1 24 hc139) h138 fun q140 h141 => ?_
      clear h138
      refine fG 19 26 (.load 9 (.tmp 25)) 9 (17, true) (.string i.cpty) (g1 24 hc139) h141 (hr := fun _ hS => r_loadC (b := b3) (v := .string i.cpty) hS 0 3 (by kernel_rfl) (by kernel_rfl) (by kernel_rfl)) fun q142 h143 => ?_
      clear h141
      refine fG 20 27 (.binOp .neq 9 (.tmp 26) (.const (.string { data := #[] })) 9) 4 (17, true) (.bool (i.cpty.toList != (⟨#[]⟩ : ByteArray).toList)) (g1 24 hc139) h143 fun q144 h145 => ?_
      clear h143
      refine fE 21 28 (.pick (.tmp 24) (.tmp 27) (.const (.bool false))) 4 (.bool ((isCol i) && (i.cpty.toList != (⟨#[]⟩ : ByteArray).toList))) h145 (hr := fun _ hS => r_and (c := isCol i) (d := (i.cpty.toList != (⟨#[]⟩ : ByteArray).toList)) (by kernel_rfl) (fun _ => by kernel_rfl)) fun q146 h147 => ?_
      clear h145
      exact ⟨h147.keep _ ⟨rfl, rfl, rfl, rfl, rfl, rfl, rfl, rfl, rfl, rfl, rfl, rfl, rfl, rfl, rfl, rfl, rfl, rfl, rfl, rfl, rfl, rfl, rfl, rfl, trivial⟩, hB136⟩
    ·
      refine kF 18 25 (17, true) (g3 24 hc139) h138 fun q148 h149 => ?_
      clear h138
      refine kF 19 26 (17, true) (g3 24 hc139) h149 fun q150 h151 => ?_
      clear h149
      refine kF 20 27 (17, true) (g3 24 hc139) h151 fun q152 h153 => ?_
      clear h151
      refine fE 21 28 (.pick (.tmp 24) (.tmp 27) (.const (.bool false))) 4 (.bool ((isCol i) && (i.cpty.toList != (⟨#[]⟩ : ByteArray).toList))) h153 (hr := fun _ hS => r_and (c := isCol i) (d := (i.cpty.toList != (⟨#[]⟩ : ByteArray).toList)) (by kernel_rfl) (fun e156 => Bool.noConfusion (e156.symm.trans hc139))) fun q154 h155 => ?_
      clear h153
      exact ⟨h155.keep _ ⟨rfl, rfl, rfl, rfl, rfl, rfl, rfl, rfl, rfl, rfl, rfl, rfl, rfl, rfl, rfl, rfl, rfl, rfl, rfl, rfl, rfl, rfl, rfl, rfl, trivial⟩, hB136⟩
  rintro q157 w158 ⟨h159, hB160⟩
  refine fE 22 29 (.build 71 #[(0, .tmp 28), (1, .const (.int .i64 3))]) 71 (.agg #[.bool ((isCol i) && (i.cpty.toList != (⟨#[]⟩ : ByteArray).toList)), .int .i64 3]) h159 fun q161 h162 => ?_
  clear h159
  refine stC (i := 24) (d := 31) (op := Op.call { callee := Callee.value (Operand.func 42), args := #[Operand.tmp 30], argTypes := #[29] }) (ty := 4) (g := none) (f := 42) (args := #[.agg #[.string i.ref, .int .i64 i.kind, .string i.sender, .string i.cpty, .int .i64 i.side, .string i.asset, .int .i64 i.qty, .int .i64 i.amt, .int .i64 i.tday, .int .i64 i.sday, .int .i64 i.prio, .bool i.part, .int .i64 i.minlot, .bool i.hold, .bool i.resv, .slice A i.links.length c]]) (w1 := w158) h162 (by kernel_rfl) (by kernel_rfl) (by kernel_rfl) gok_none (by kernel_rfl) (c42 i A c w158) ?_
  rintro _ w165 ⟨rfl, hb166⟩
  have hB167 := hB160.call hb166
  refine ⟨_, rfl, hB167, fun q163 h164 => ?_⟩
  clear h162 hB160 hb166
  refine fE 25 32 (.unOp .not 4 (.tmp 31)) 4 (.bool (!(isCol i))) h164 fun q168 h169 => ?_
  clear h164
  refine fE 26 33 (.move (.tmp 32)) 4 (.bool (!(isCol i))) h169 fun q170 h171 => ?_
  clear h169
  refine wpO_cut [(27, true), (28, true), (29, false), (30, true), (31, true)] [(32, true), (41, false), (42, true), (43, true), (45, false), (46, true), (47, true), (48, true), (49, true), (50, true), (51, true), (52, true), (54, false), (55, true), (56, true), (62, false), (63, true), (64, true), (70, true), (71, true), (72, true), (73, true), (74, true), (75, false), (76, true), (77, true), (80, false), (81, true), (82, true), (84, false), (85, true), (86, true), (87, true), (88, true), (89, true), (90, false), (91, true), (92, true), (93, true), (94, true), (95, false), (96, true), (97, true), (98, true), (99, true), (100, true), (101, true), (102, true), (103, true), (106, false), (107, true), (108, true), (109, true), (110, false), (111, true), (112, true), (113, true), (114, true), (115, true), (116, true), (117, true), (120, true), (121, true), (122, false), (123, true), (124, true), (125, true), (128, true), (129, true), (130, true), (131, true), (132, true), (133, true), (134, true), (135, true), (136, true), (137, false), (138, false), (139, true), (140, true), (141, true), (144, true), (145, true), (146, false), (147, true), (148, true), (151, true), (152, true), (153, true), (154, true), (155, true), (156, true), (157, true), (158, true), (159, true), (160, true), (161, true), (163, false), (164, true), (165, true), (166, true), (167, true), (168, true), (169, true), (170, true), (176, false), (177, false), (178, true)] (fun qa qw => Fr 225 [(38, .bool ((!(isCol i)) && (!(memB i.cpty)))), (29, .agg #[.bool ((isCol i) && (i.cpty.toList != (⟨#[]⟩ : ByteArray).toList)), .int .i64 3]), (21, .agg #[.bool (!(memB i.sender)), .int .i64 6]), (16, .agg #[.bool (!(rfB i.ref)), .int .i64 6]), (11, .agg #[.bool (!(winB i.kind 0 4)), .int .i64 11]), (182, .agg #[.bool (decide ((8 : Int) < ((i.links.length : Nat) : Int))), .int .i64 8]), (169, .agg #[.string i.ref, .int .i64 i.kind, .string i.sender, .string i.cpty, .int .i64 i.side, .string i.asset, .int .i64 i.qty, .int .i64 i.amt, .int .i64 i.tday, .int .i64 i.sday, .int .i64 i.prio, .bool i.part, .int .i64 i.minlot, .bool i.hold, .bool i.resv, .slice A i.links.length c]), (157, .bool i.resv), (150, .bool i.hold), (134, .bool i.part), (126, .bool i.part), (112, .int .i64 i.prio), (90, .agg #[.string i.ref, .int .i64 i.kind, .string i.sender, .string i.cpty, .int .i64 i.side, .string i.asset, .int .i64 i.qty, .int .i64 i.amt, .int .i64 i.tday, .int .i64 i.sday, .int .i64 i.prio, .bool i.part, .int .i64 i.minlot, .bool i.hold, .bool i.resv, .slice A i.links.length c]), (86, .int .i64 i.sday), (76, .bool (i.kind == (0 : Int))), (73, .int .i64 i.amt), (68, .bool (i.kind != (0 : Int))), (65, .int .i64 i.qty), (60, .agg #[.string i.ref, .int .i64 i.kind, .string i.sender, .string i.cpty, .int .i64 i.side, .string i.asset, .int .i64 i.qty, .int .i64 i.amt, .int .i64 i.tday, .int .i64 i.sday, .int .i64 i.prio, .bool i.part, .int .i64 i.minlot, .bool i.hold, .bool i.resv, .slice A i.links.length c]), (51, .agg #[.string i.ref, .int .i64 i.kind, .string i.sender, .string i.cpty, .int .i64 i.side, .string i.asset, .int .i64 i.qty, .int .i64 i.amt, .int .i64 i.tday, .int .i64 i.sday, .int .i64 i.prio, .bool i.part, .int .i64 i.minlot, .bool i.hold, .bool i.resv, .slice A i.links.length c]), (47, .int .i64 i.side), (45, .agg #[.bool (i.cpty.toList == i.sender.toList), .int .i64 1]), (2, .int .i64 0), (1, .pointer (some ⟨b3, 0, none⟩))] qa ∧ Bx w [(b3, .cells #[.string i.ref, .int .i64 i.kind, .string i.sender, .string i.cpty, .int .i64 i.side, .string i.asset, .int .i64 i.qty, .int .i64 i.amt, .int .i64 i.tday, .int .i64 i.sday, .int .i64 i.prio, .bool i.part, .int .i64 i.minlot, .bool i.hold, .bool i.resv, .slice A i.links.length c] 29 (0, 0))] qw) ?_ ?_
  ·
    rcases Bool.eq_false_or_eq_true (!(isCol i)) with hc172 | hc172
    ·
      refine fG 27 34 (.fieldAddr 29 (.tmp 1) 3) 0 (26, true) (.pointer (some ⟨b3, 3, none⟩)) (g1 33 hc172) h171 fun q173 h174 => ?_
      clear h171
      refine fG 28 35 (.load 9 (.tmp 34)) 9 (26, true) (.string i.cpty) (g1 33 hc172) h174 (hr := fun _ hS => r_loadC (b := b3) (v := .string i.cpty) hS 0 3 (by kernel_rfl) (by kernel_rfl) (by kernel_rfl)) fun q175 h176 => ?_
      clear h174
      refine stC (i := 29) (d := 36) (op := Op.call { callee := Callee.value (Operand.func 41), args := #[Operand.const (Value.int IntKind.i64 1), Operand.tmp 35], argTypes := #[3, 9] }) (ty := 4) (g := (some (26, true))) (f := 41) (args := #[.int .i64 1, .string i.cpty]) (w1 := w165) h176 (by kernel_rfl) (by kernel_rfl) (by kernel_rfl) (g1 33 hc172) (by kernel_rfl) (c41_1 i.cpty w165) ?_
      rintro _ w179 ⟨rfl, hb180⟩
      have hB181 := hB167.call hb180
      refine ⟨_, rfl, hB181, fun q177 h178 => ?_⟩
      clear h176 hB167 hb180
      refine fG 30 37 (.unOp .not 4 (.tmp 36)) 4 (26, true) (.bool (!(memB i.cpty))) (g1 33 hc172) h178 fun q182 h183 => ?_
      clear h178
      refine fE 31 38 (.pick (.tmp 33) (.tmp 37) (.const (.bool false))) 4 (.bool ((!(isCol i)) && (!(memB i.cpty)))) h183 (hr := fun _ hS => r_and (c := !(isCol i)) (d := (!(memB i.cpty))) (by kernel_rfl) (fun _ => by kernel_rfl)) fun q184 h185 => ?_
      clear h183
      exact ⟨h185.keep _ ⟨rfl, rfl, rfl, rfl, rfl, rfl, rfl, rfl, rfl, rfl, rfl, rfl, rfl, rfl, rfl, rfl, rfl, rfl, rfl, rfl, rfl, rfl, rfl, rfl, trivial⟩, hB181⟩
    ·
      refine kF 27 34 (26, true) (g3 33 hc172) h171 fun q186 h187 => ?_
      clear h171
      refine kF 28 35 (26, true) (g3 33 hc172) h187 fun q188 h189 => ?_
      clear h187
      refine kE 29 36 (26, true) (g3 33 hc172) h189 hB167 fun q190 h191 => ?_
      clear h189
      refine kF 30 37 (26, true) (g3 33 hc172) h191 fun q192 h193 => ?_
      clear h191
      refine fE 31 38 (.pick (.tmp 33) (.tmp 37) (.const (.bool false))) 4 (.bool ((!(isCol i)) && (!(memB i.cpty)))) h193 (hr := fun _ hS => r_and (c := !(isCol i)) (d := (!(memB i.cpty))) (by kernel_rfl) (fun e196 => Bool.noConfusion (e196.symm.trans hc172))) fun q194 h195 => ?_
      clear h193
      exact ⟨h195.keep _ ⟨rfl, rfl, rfl, rfl, rfl, rfl, rfl, rfl, rfl, rfl, rfl, rfl, rfl, rfl, rfl, rfl, rfl, rfl, rfl, rfl, rfl, rfl, rfl, rfl, trivial⟩, hB167⟩
  rintro q197 w198 ⟨h199, hB200⟩
  refine fE 32 39 (.build 71 #[(0, .tmp 38), (1, .const (.int .i64 6))]) 71 (.agg #[.bool ((!(isCol i)) && (!(memB i.cpty))), .int .i64 6]) h199 fun q201 h202 => ?_
  clear h199
  refine stC (i := 41) (d := 48) (op := Op.call { callee := Callee.value (Operand.func 40), args := #[Operand.tmp 47, Operand.const (Value.int IntKind.i64 0), Operand.const (Value.int IntKind.i64 1)], argTypes := #[3, 3, 3] }) (ty := 4) (g := none) (f := 40) (args := #[.int .i64 i.side, .int .i64 0, .int .i64 1]) (w1 := w198) h202 (by kernel_rfl) (by kernel_rfl) (by kernel_rfl) gok_none (by kernel_rfl) (c40 i.side 0 1 w198) ?_
  rintro _ w205 ⟨rfl, hb206⟩
  have hB207 := hB200.call hb206
  refine ⟨_, rfl, hB207, fun q203 h204 => ?_⟩
  clear h202 hB200 hb206
  refine fE 42 49 (.unOp .not 4 (.tmp 48)) 4 (.bool (!(winB i.side 0 1))) h204 fun q208 h209 => ?_
  clear h204
  refine fE 43 50 (.build 71 #[(0, .tmp 49), (1, .const (.int .i64 11))]) 71 (.agg #[.bool (!(winB i.side 0 1)), .int .i64 11]) h209 fun q210 h211 => ?_
  clear h209
  refine stC (i := 45) (d := 52) (op := Op.call { callee := Callee.value (Operand.func 43), args := #[Operand.tmp 51], argTypes := #[29] }) (ty := 4) (g := none) (f := 43) (args := #[.agg #[.string i.ref, .int .i64 i.kind, .string i.sender, .string i.cpty, .int .i64 i.side, .string i.asset, .int .i64 i.qty, .int .i64 i.amt, .int .i64 i.tday, .int .i64 i.sday, .int .i64 i.prio, .bool i.part, .int .i64 i.minlot, .bool i.hold, .bool i.resv, .slice A i.links.length c]]) (w1 := w205) h211 (by kernel_rfl) (by kernel_rfl) (by kernel_rfl) gok_none (by kernel_rfl) (c43 i A c w205) ?_
  rintro _ w214 ⟨rfl, hb215⟩
  have hB216 := hB207.call hb215
  refine ⟨_, rfl, hB216, fun q212 h213 => ?_⟩
  clear h211 hB207 hb215
  refine fE 46 53 (.unOp .not 4 (.tmp 52)) 4 (.bool (!(isSec i))) h213 fun q217 h218 => ?_
  clear h213
  refine fE 47 54 (.move (.tmp 53)) 4 (.bool (!(isSec i))) h218 fun q219 h220 => ?_
  clear h218
  refine wpO_cut [(48, true), (49, true), (50, true), (51, true)] [(52, true), (54, false), (55, true), (56, true), (62, false), (63, true), (64, true), (70, true), (71, true), (72, true), (73, true), (74, true), (75, false), (76, true), (77, true), (80, false), (81, true), (82, true), (84, false), (85, true), (86, true), (87, true), (88, true), (89, true), (90, false), (91, true), (92, true), (93, true), (94, true), (95, false), (96, true), (97, true), (98, true), (99, true), (100, true), (101, true), (102, true), (103, true), (106, false), (107, true), (108, true), (109, true), (110, false), (111, true), (112, true), (113, true), (114, true), (115, true), (116, true), (117, true), (120, true), (121, true), (122, false), (123, true), (124, true), (125, true), (128, true), (129, true), (130, true), (131, true), (132, true), (133, true), (134, true), (135, true), (136, true), (137, false), (138, false), (139, true), (140, true), (141, true), (144, true), (145, true), (146, false), (147, true), (148, true), (151, true), (152, true), (153, true), (154, true), (155, true), (156, true), (157, true), (158, true), (159, true), (160, true), (161, true), (163, false), (164, true), (165, true), (166, true), (167, true), (168, true), (169, true), (170, true), (176, false), (177, false), (178, true)] (fun qa qw => Fr 225 [(58, .bool ((!(isSec i)) && (i.side != (0 : Int)))), (50, .agg #[.bool (!(winB i.side 0 1)), .int .i64 11]), (39, .agg #[.bool ((!(isCol i)) && (!(memB i.cpty))), .int .i64 6]), (29, .agg #[.bool ((isCol i) && (i.cpty.toList != (⟨#[]⟩ : ByteArray).toList)), .int .i64 3]), (21, .agg #[.bool (!(memB i.sender)), .int .i64 6]), (16, .agg #[.bool (!(rfB i.ref)), .int .i64 6]), (11, .agg #[.bool (!(winB i.kind 0 4)), .int .i64 11]), (182, .agg #[.bool (decide ((8 : Int) < ((i.links.length : Nat) : Int))), .int .i64 8]), (169, .agg #[.string i.ref, .int .i64 i.kind, .string i.sender, .string i.cpty, .int .i64 i.side, .string i.asset, .int .i64 i.qty, .int .i64 i.amt, .int .i64 i.tday, .int .i64 i.sday, .int .i64 i.prio, .bool i.part, .int .i64 i.minlot, .bool i.hold, .bool i.resv, .slice A i.links.length c]), (157, .bool i.resv), (150, .bool i.hold), (134, .bool i.part), (126, .bool i.part), (112, .int .i64 i.prio), (90, .agg #[.string i.ref, .int .i64 i.kind, .string i.sender, .string i.cpty, .int .i64 i.side, .string i.asset, .int .i64 i.qty, .int .i64 i.amt, .int .i64 i.tday, .int .i64 i.sday, .int .i64 i.prio, .bool i.part, .int .i64 i.minlot, .bool i.hold, .bool i.resv, .slice A i.links.length c]), (86, .int .i64 i.sday), (76, .bool (i.kind == (0 : Int))), (73, .int .i64 i.amt), (68, .bool (i.kind != (0 : Int))), (65, .int .i64 i.qty), (60, .agg #[.string i.ref, .int .i64 i.kind, .string i.sender, .string i.cpty, .int .i64 i.side, .string i.asset, .int .i64 i.qty, .int .i64 i.amt, .int .i64 i.tday, .int .i64 i.sday, .int .i64 i.prio, .bool i.part, .int .i64 i.minlot, .bool i.hold, .bool i.resv, .slice A i.links.length c]), (45, .agg #[.bool (i.cpty.toList == i.sender.toList), .int .i64 1]), (2, .int .i64 0), (1, .pointer (some ⟨b3, 0, none⟩))] qa ∧ Bx w [(b3, .cells #[.string i.ref, .int .i64 i.kind, .string i.sender, .string i.cpty, .int .i64 i.side, .string i.asset, .int .i64 i.qty, .int .i64 i.amt, .int .i64 i.tday, .int .i64 i.sday, .int .i64 i.prio, .bool i.part, .int .i64 i.minlot, .bool i.hold, .bool i.resv, .slice A i.links.length c] 29 (0, 0))] qw) ?_ ?_
  ·
    rcases Bool.eq_false_or_eq_true (!(isSec i)) with hc221 | hc221
    ·
      refine fG 48 55 (.fieldAddr 29 (.tmp 1) 4) 0 (47, true) (.pointer (some ⟨b3, 4, none⟩)) (g1 54 hc221) h220 fun q222 h223 => ?_
      clear h220
      refine fG 49 56 (.load 3 (.tmp 55)) 3 (47, true) (.int .i64 i.side) (g1 54 hc221) h223 (hr := fun _ hS => r_loadC (b := b3) (v := .int .i64 i.side) hS 0 4 (by kernel_rfl) (by kernel_rfl) (by kernel_rfl)) fun q224 h225 => ?_
      clear h223
      refine fG 50 57 (.binOp .neq 3 (.tmp 56) (.const (.int .i64 0)) 3) 4 (47, true) (.bool (i.side != (0 : Int))) (g1 54 hc221) h225 fun q226 h227 => ?_
      clear h225
      refine fE 51 58 (.pick (.tmp 54) (.tmp 57) (.const (.bool false))) 4 (.bool ((!(isSec i)) && (i.side != (0 : Int)))) h227 (hr := fun _ hS => r_and (c := !(isSec i)) (d := (i.side != (0 : Int))) (by kernel_rfl) (fun _ => by kernel_rfl)) fun q228 h229 => ?_
      clear h227
      exact ⟨h229.keep _ ⟨rfl, rfl, rfl, rfl, rfl, rfl, rfl, rfl, rfl, rfl, rfl, rfl, rfl, rfl, rfl, rfl, rfl, rfl, rfl, rfl, rfl, rfl, rfl, rfl, trivial⟩, hB216⟩
    ·
      refine kF 48 55 (47, true) (g3 54 hc221) h220 fun q230 h231 => ?_
      clear h220
      refine kF 49 56 (47, true) (g3 54 hc221) h231 fun q232 h233 => ?_
      clear h231
      refine kF 50 57 (47, true) (g3 54 hc221) h233 fun q234 h235 => ?_
      clear h233
      refine fE 51 58 (.pick (.tmp 54) (.tmp 57) (.const (.bool false))) 4 (.bool ((!(isSec i)) && (i.side != (0 : Int)))) h235 (hr := fun _ hS => r_and (c := !(isSec i)) (d := (i.side != (0 : Int))) (by kernel_rfl) (fun e238 => Bool.noConfusion (e238.symm.trans hc221))) fun q236 h237 => ?_
      clear h235
      exact ⟨h237.keep _ ⟨rfl, rfl, rfl, rfl, rfl, rfl, rfl, rfl, rfl, rfl, rfl, rfl, rfl, rfl, rfl, rfl, rfl, rfl, rfl, rfl, rfl, rfl, rfl, rfl, trivial⟩, hB216⟩
  rintro q239 w240 ⟨h241, hB242⟩
  refine fE 52 59 (.build 71 #[(0, .tmp 58), (1, .const (.int .i64 3))]) 71 (.agg #[.bool ((!(isSec i)) && (i.side != (0 : Int))), .int .i64 3]) h241 fun q243 h244 => ?_
  clear h241
  refine stC (i := 54) (d := 61) (op := Op.call { callee := Callee.value (Operand.func 44), args := #[Operand.tmp 60], argTypes := #[29] }) (ty := 4) (g := none) (f := 44) (args := #[.agg #[.string i.ref, .int .i64 i.kind, .string i.sender, .string i.cpty, .int .i64 i.side, .string i.asset, .int .i64 i.qty, .int .i64 i.amt, .int .i64 i.tday, .int .i64 i.sday, .int .i64 i.prio, .bool i.part, .int .i64 i.minlot, .bool i.hold, .bool i.resv, .slice A i.links.length c]]) (w1 := w240) h244 (by kernel_rfl) (by kernel_rfl) (by kernel_rfl) gok_none (by kernel_rfl) (c44 i A c w240) ?_
  rintro _ w247 ⟨rfl, hb248⟩
  have hB249 := hB242.call hb248
  refine ⟨_, rfl, hB249, fun q245 h246 => ?_⟩
  clear h244 hB242 hb248
  refine fE 55 62 (.unOp .not 4 (.tmp 61)) 4 (.bool (!(assetB i))) h246 fun q250 h251 => ?_
  clear h246
  refine fE 56 63 (.build 71 #[(0, .tmp 62), (1, .const (.int .i64 6))]) 71 (.agg #[.bool (!(assetB i)), .int .i64 6]) h251 fun q252 h253 => ?_
  clear h251
  refine stC (i := 62) (d := 69) (op := Op.call { callee := Callee.value (Operand.func 45), args := #[Operand.tmp 65, Operand.tmp 68], argTypes := #[2, 4] }) (ty := 4) (g := none) (f := 45) (args := #[.int .i64 i.qty, .bool (i.kind != (0 : Int))]) (w1 := w247) h253 (by kernel_rfl) (by kernel_rfl) (by kernel_rfl) gok_none (by kernel_rfl) (c45 i.qty (i.kind != (0 : Int)) w247) ?_
  rintro _ w256 ⟨rfl, hb257⟩
  have hB258 := hB249.call hb257
  refine ⟨_, rfl, hB258, fun q254 h255 => ?_⟩
  clear h253 hB249 hb257
  refine fE 63 70 (.unOp .not 4 (.tmp 69)) 4 (.bool (!(bndB i.qty (i.kind != (0 : Int))))) h255 fun q259 h260 => ?_
  clear h255
  refine fE 64 71 (.build 71 #[(0, .tmp 70), (1, .const (.int .i64 2))]) 71 (.agg #[.bool (!(bndB i.qty (i.kind != (0 : Int)))), .int .i64 2]) h260 fun q261 h262 => ?_
  clear h260
  refine fE 70 77 (.move (.tmp 76)) 4 (.bool (i.kind == (0 : Int))) h262 fun q263 h264 => ?_
  clear h262
  refine wpO_cut [(71, true), (72, true), (73, true), (74, true)] [(75, false), (76, true), (77, true), (80, false), (81, true), (82, true), (84, false), (85, true), (86, true), (87, true), (88, true), (89, true), (90, false), (91, true), (92, true), (93, true), (94, true), (95, false), (96, true), (97, true), (98, true), (99, true), (100, true), (101, true), (102, true), (103, true), (106, false), (107, true), (108, true), (109, true), (110, false), (111, true), (112, true), (113, true), (114, true), (115, true), (116, true), (117, true), (120, true), (121, true), (122, false), (123, true), (124, true), (125, true), (128, true), (129, true), (130, true), (131, true), (132, true), (133, true), (134, true), (135, true), (136, true), (137, false), (138, false), (139, true), (140, true), (141, true), (144, true), (145, true), (146, false), (147, true), (148, true), (151, true), (152, true), (153, true), (154, true), (155, true), (156, true), (157, true), (158, true), (159, true), (160, true), (161, true), (163, false), (164, true), (165, true), (166, true), (167, true), (168, true), (169, true), (170, true), (176, false), (177, false), (178, true)] (fun qa qw => Fr 225 [(81, .bool ((i.kind == (0 : Int)) || (i.kind == (1 : Int)))), (71, .agg #[.bool (!(bndB i.qty (i.kind != (0 : Int)))), .int .i64 2]), (63, .agg #[.bool (!(assetB i)), .int .i64 6]), (59, .agg #[.bool ((!(isSec i)) && (i.side != (0 : Int))), .int .i64 3]), (50, .agg #[.bool (!(winB i.side 0 1)), .int .i64 11]), (39, .agg #[.bool ((!(isCol i)) && (!(memB i.cpty))), .int .i64 6]), (29, .agg #[.bool ((isCol i) && (i.cpty.toList != (⟨#[]⟩ : ByteArray).toList)), .int .i64 3]), (21, .agg #[.bool (!(memB i.sender)), .int .i64 6]), (16, .agg #[.bool (!(rfB i.ref)), .int .i64 6]), (11, .agg #[.bool (!(winB i.kind 0 4)), .int .i64 11]), (182, .agg #[.bool (decide ((8 : Int) < ((i.links.length : Nat) : Int))), .int .i64 8]), (169, .agg #[.string i.ref, .int .i64 i.kind, .string i.sender, .string i.cpty, .int .i64 i.side, .string i.asset, .int .i64 i.qty, .int .i64 i.amt, .int .i64 i.tday, .int .i64 i.sday, .int .i64 i.prio, .bool i.part, .int .i64 i.minlot, .bool i.hold, .bool i.resv, .slice A i.links.length c]), (157, .bool i.resv), (150, .bool i.hold), (134, .bool i.part), (126, .bool i.part), (112, .int .i64 i.prio), (90, .agg #[.string i.ref, .int .i64 i.kind, .string i.sender, .string i.cpty, .int .i64 i.side, .string i.asset, .int .i64 i.qty, .int .i64 i.amt, .int .i64 i.tday, .int .i64 i.sday, .int .i64 i.prio, .bool i.part, .int .i64 i.minlot, .bool i.hold, .bool i.resv, .slice A i.links.length c]), (86, .int .i64 i.sday), (73, .int .i64 i.amt), (45, .agg #[.bool (i.cpty.toList == i.sender.toList), .int .i64 1]), (2, .int .i64 0), (1, .pointer (some ⟨b3, 0, none⟩))] qa ∧ Bx w [(b3, .cells #[.string i.ref, .int .i64 i.kind, .string i.sender, .string i.cpty, .int .i64 i.side, .string i.asset, .int .i64 i.qty, .int .i64 i.amt, .int .i64 i.tday, .int .i64 i.sday, .int .i64 i.prio, .bool i.part, .int .i64 i.minlot, .bool i.hold, .bool i.resv, .slice A i.links.length c] 29 (0, 0))] qw) ?_ ?_
  ·
    rcases Bool.eq_false_or_eq_true (i.kind == (0 : Int)) with hc265 | hc265
    ·
      refine kF 71 78 (70, false) (g4 77 hc265) h264 fun q266 h267 => ?_
      clear h264
      refine kF 72 79 (70, false) (g4 77 hc265) h267 fun q268 h269 => ?_
      clear h267
      refine kF 73 80 (70, false) (g4 77 hc265) h269 fun q270 h271 => ?_
      clear h269
      refine fE 74 81 (.pick (.tmp 77) (.const (.bool true)) (.tmp 80)) 4 (.bool ((i.kind == (0 : Int)) || (i.kind == (1 : Int)))) h271 (hr := fun _ hS => r_or (c := (i.kind == (0 : Int))) (d := (i.kind == (1 : Int))) (by kernel_rfl) (fun e274 => Bool.noConfusion (e274.symm.trans hc265))) fun q272 h273 => ?_
      clear h271
      exact ⟨h273.keep _ ⟨rfl, rfl, rfl, rfl, rfl, rfl, rfl, rfl, rfl, rfl, rfl, rfl, rfl, rfl, rfl, rfl, rfl, rfl, rfl, rfl, rfl, rfl, rfl, trivial⟩, hB258⟩
    ·
      refine fG 71 78 (.fieldAddr 29 (.tmp 1) 1) 0 (70, false) (.pointer (some ⟨b3, 1, none⟩)) (g2 77 hc265) h264 fun q275 h276 => ?_
      clear h264
      refine fG 72 79 (.load 3 (.tmp 78)) 3 (70, false) (.int .i64 i.kind) (g2 77 hc265) h276 (hr := fun _ hS => r_loadC (b := b3) (v := .int .i64 i.kind) hS 0 1 (by kernel_rfl) (by kernel_rfl) (by kernel_rfl)) fun q277 h278 => ?_
      clear h276
      refine fG 73 80 (.binOp .eql 3 (.tmp 79) (.const (.int .i64 1)) 3) 4 (70, false) (.bool (i.kind == (1 : Int))) (g2 77 hc265) h278 fun q279 h280 => ?_
      clear h278
      refine fE 74 81 (.pick (.tmp 77) (.const (.bool true)) (.tmp 80)) 4 (.bool ((i.kind == (0 : Int)) || (i.kind == (1 : Int)))) h280 (hr := fun _ hS => r_or (c := (i.kind == (0 : Int))) (d := (i.kind == (1 : Int))) (by kernel_rfl) (fun _ => by kernel_rfl)) fun q281 h282 => ?_
      clear h280
      exact ⟨h282.keep _ ⟨rfl, rfl, rfl, rfl, rfl, rfl, rfl, rfl, rfl, rfl, rfl, rfl, rfl, rfl, rfl, rfl, rfl, rfl, rfl, rfl, rfl, rfl, rfl, trivial⟩, hB258⟩
  rintro q283 w284 ⟨h285, hB286⟩
  refine stC (i := 75) (d := 82) (op := Op.call { callee := Callee.value (Operand.func 45), args := #[Operand.tmp 73, Operand.tmp 81], argTypes := #[2, 4] }) (ty := 4) (g := none) (f := 45) (args := #[.int .i64 i.amt, .bool ((i.kind == (0 : Int)) || (i.kind == (1 : Int)))]) (w1 := w284) h285 (by kernel_rfl) (by kernel_rfl) (by kernel_rfl) gok_none (by kernel_rfl) (c45 i.amt ((i.kind == (0 : Int)) || (i.kind == (1 : Int))) w284) ?_
  rintro _ w289 ⟨rfl, hb290⟩
  have hB291 := hB286.call hb290
  refine ⟨_, rfl, hB291, fun q287 h288 => ?_⟩
  clear h285 hB286 hb290
  refine fE 76 83 (.unOp .not 4 (.tmp 82)) 4 (.bool (!(bndB i.amt ((i.kind == (0 : Int)) || (i.kind == (1 : Int)))))) h288 fun q292 h293 => ?_
  clear h288
  refine fE 77 84 (.build 71 #[(0, .tmp 83), (1, .const (.int .i64 2))]) 71 (.agg #[.bool (!(bndB i.amt ((i.kind == (0 : Int)) || (i.kind == (1 : Int))))), .int .i64 2]) h293 fun q294 h295 => ?_
  clear h293
  refine stC (i := 80) (d := 87) (op := Op.call { callee := Callee.value (Operand.func 40), args := #[Operand.tmp 86, Operand.const (Value.int IntKind.i64 0), Operand.const (Value.int IntKind.i64 73048)], argTypes := #[3, 3, 3] }) (ty := 4) (g := none) (f := 40) (args := #[.int .i64 i.sday, .int .i64 0, .int .i64 73048]) (w1 := w289) h295 (by kernel_rfl) (by kernel_rfl) (by kernel_rfl) gok_none (by kernel_rfl) (c40 i.sday 0 73048 w289) ?_
  rintro _ w298 ⟨rfl, hb299⟩
  have hB300 := hB291.call hb299
  refine ⟨_, rfl, hB300, fun q296 h297 => ?_⟩
  clear h295 hB291 hb299
  refine fE 81 88 (.unOp .not 4 (.tmp 87)) 4 (.bool (!(winB i.sday 0 73048))) h297 fun q301 h302 => ?_
  clear h297
  refine fE 82 89 (.build 71 #[(0, .tmp 88), (1, .const (.int .i64 28))]) 71 (.agg #[.bool (!(winB i.sday 0 73048)), .int .i64 28]) h302 fun q303 h304 => ?_
  clear h302
  refine stC (i := 84) (d := 91) (op := Op.call { callee := Callee.value (Operand.func 43), args := #[Operand.tmp 90], argTypes := #[29] }) (ty := 4) (g := none) (f := 43) (args := #[.agg #[.string i.ref, .int .i64 i.kind, .string i.sender, .string i.cpty, .int .i64 i.side, .string i.asset, .int .i64 i.qty, .int .i64 i.amt, .int .i64 i.tday, .int .i64 i.sday, .int .i64 i.prio, .bool i.part, .int .i64 i.minlot, .bool i.hold, .bool i.resv, .slice A i.links.length c]]) (w1 := w298) h304 (by kernel_rfl) (by kernel_rfl) (by kernel_rfl) gok_none (by kernel_rfl) (c43 i A c w298) ?_
  rintro _ w307 ⟨rfl, hb308⟩
  have hB309 := hB300.call hb308
  refine ⟨_, rfl, hB309, fun q305 h306 => ?_⟩
  clear h304 hB300 hb308
  refine fE 85 92 (.move (.tmp 91)) 4 (.bool (isSec i)) h306 fun q310 h311 => ?_
  clear h306
  refine wpO_cut [(86, true), (87, true), (88, true), (89, true), (90, false), (91, true), (92, true)] [(93, true), (94, true), (95, false), (96, true), (97, true), (98, true), (99, true), (100, true), (101, true), (102, true), (103, true), (106, false), (107, true), (108, true), (109, true), (110, false), (111, true), (112, true), (113, true), (114, true), (115, true), (116, true), (117, true), (120, true), (121, true), (122, false), (123, true), (124, true), (125, true), (128, true), (129, true), (130, true), (131, true), (132, true), (133, true), (134, true), (135, true), (136, true), (137, false), (138, false), (139, true), (140, true), (141, true), (144, true), (145, true), (146, false), (147, true), (148, true), (151, true), (152, true), (153, true), (154, true), (155, true), (156, true), (157, true), (158, true), (159, true), (160, true), (161, true), (163, false), (164, true), (165, true), (166, true), (167, true), (168, true), (169, true), (170, true), (176, false), (177, false), (178, true)] (fun qa qw => Fr 225 [(99, .bool ((isSec i) && (!(winB i.tday 0 i.sday)))), (89, .agg #[.bool (!(winB i.sday 0 73048)), .int .i64 28]), (84, .agg #[.bool (!(bndB i.amt ((i.kind == (0 : Int)) || (i.kind == (1 : Int))))), .int .i64 2]), (71, .agg #[.bool (!(bndB i.qty (i.kind != (0 : Int)))), .int .i64 2]), (63, .agg #[.bool (!(assetB i)), .int .i64 6]), (59, .agg #[.bool ((!(isSec i)) && (i.side != (0 : Int))), .int .i64 3]), (50, .agg #[.bool (!(winB i.side 0 1)), .int .i64 11]), (39, .agg #[.bool ((!(isCol i)) && (!(memB i.cpty))), .int .i64 6]), (29, .agg #[.bool ((isCol i) && (i.cpty.toList != (⟨#[]⟩ : ByteArray).toList)), .int .i64 3]), (21, .agg #[.bool (!(memB i.sender)), .int .i64 6]), (16, .agg #[.bool (!(rfB i.ref)), .int .i64 6]), (11, .agg #[.bool (!(winB i.kind 0 4)), .int .i64 11]), (182, .agg #[.bool (decide ((8 : Int) < ((i.links.length : Nat) : Int))), .int .i64 8]), (169, .agg #[.string i.ref, .int .i64 i.kind, .string i.sender, .string i.cpty, .int .i64 i.side, .string i.asset, .int .i64 i.qty, .int .i64 i.amt, .int .i64 i.tday, .int .i64 i.sday, .int .i64 i.prio, .bool i.part, .int .i64 i.minlot, .bool i.hold, .bool i.resv, .slice A i.links.length c]), (157, .bool i.resv), (150, .bool i.hold), (134, .bool i.part), (126, .bool i.part), (112, .int .i64 i.prio), (45, .agg #[.bool (i.cpty.toList == i.sender.toList), .int .i64 1]), (2, .int .i64 0), (1, .pointer (some ⟨b3, 0, none⟩))] qa ∧ Bx w [(b3, .cells #[.string i.ref, .int .i64 i.kind, .string i.sender, .string i.cpty, .int .i64 i.side, .string i.asset, .int .i64 i.qty, .int .i64 i.amt, .int .i64 i.tday, .int .i64 i.sday, .int .i64 i.prio, .bool i.part, .int .i64 i.minlot, .bool i.hold, .bool i.resv, .slice A i.links.length c] 29 (0, 0))] qw) ?_ ?_
  ·
    rcases Bool.eq_false_or_eq_true (isSec i) with hc312 | hc312
    ·
      refine fG 86 93 (.fieldAddr 29 (.tmp 1) 8) 0 (85, true) (.pointer (some ⟨b3, 8, none⟩)) (g1 92 hc312) h311 fun q313 h314 => ?_
      clear h311
      refine fG 87 94 (.load 3 (.tmp 93)) 3 (85, true) (.int .i64 i.tday) (g1 92 hc312) h314 (hr := fun _ hS => r_loadC (b := b3) (v := .int .i64 i.tday) hS 0 8 (by kernel_rfl) (by kernel_rfl) (by kernel_rfl)) fun q315 h316 => ?_
      clear h314
      refine fG 88 95 (.fieldAddr 29 (.tmp 1) 9) 0 (85, true) (.pointer (some ⟨b3, 9, none⟩)) (g1 92 hc312) h316 fun q317 h318 => ?_
      clear h316
      refine fG 89 96 (.load 3 (.tmp 95)) 3 (85, true) (.int .i64 i.sday) (g1 92 hc312) h318 (hr := fun _ hS => r_loadC (b := b3) (v := .int .i64 i.sday) hS 0 9 (by kernel_rfl) (by kernel_rfl) (by kernel_rfl)) fun q319 h320 => ?_
      clear h318
      refine stC (i := 90) (d := 97) (op := Op.call { callee := Callee.value (Operand.func 40), args := #[Operand.tmp 94, Operand.const (Value.int IntKind.i64 0), Operand.tmp 96], argTypes := #[3, 3, 3] }) (ty := 4) (g := (some (85, true))) (f := 40) (args := #[.int .i64 i.tday, .int .i64 0, .int .i64 i.sday]) (w1 := w307) h320 (by kernel_rfl) (by kernel_rfl) (by kernel_rfl) (g1 92 hc312) (by kernel_rfl) (c40 i.tday 0 i.sday w307) ?_
      rintro _ w323 ⟨rfl, hb324⟩
      have hB325 := hB309.call hb324
      refine ⟨_, rfl, hB325, fun q321 h322 => ?_⟩
      clear h320 hB309 hb324
      refine fG 91 98 (.unOp .not 4 (.tmp 97)) 4 (85, true) (.bool (!(winB i.tday 0 i.sday))) (g1 92 hc312) h322 fun q326 h327 => ?_
      clear h322
      refine fE 92 99 (.pick (.tmp 92) (.tmp 98) (.const (.bool false))) 4 (.bool ((isSec i) && (!(winB i.tday 0 i.sday)))) h327 (hr := fun _ hS => r_and (c := isSec i) (d := (!(winB i.tday 0 i.sday))) (by kernel_rfl) (fun _ => by kernel_rfl)) fun q328 h329 => ?_
      clear h327
      exact ⟨h329.keep _ ⟨rfl, rfl, rfl, rfl, rfl, rfl, rfl, rfl, rfl, rfl, rfl, rfl, rfl, rfl, rfl, rfl, rfl, rfl, rfl, rfl, rfl, rfl, trivial⟩, hB325⟩
    ·
      refine kF 86 93 (85, true) (g3 92 hc312) h311 fun q330 h331 => ?_
      clear h311
      refine kF 87 94 (85, true) (g3 92 hc312) h331 fun q332 h333 => ?_
      clear h331
      refine kF 88 95 (85, true) (g3 92 hc312) h333 fun q334 h335 => ?_
      clear h333
      refine kF 89 96 (85, true) (g3 92 hc312) h335 fun q336 h337 => ?_
      clear h335
      refine kE 90 97 (85, true) (g3 92 hc312) h337 hB309 fun q338 h339 => ?_
      clear h337
      refine kF 91 98 (85, true) (g3 92 hc312) h339 fun q340 h341 => ?_
      clear h339
      refine fE 92 99 (.pick (.tmp 92) (.tmp 98) (.const (.bool false))) 4 (.bool ((isSec i) && (!(winB i.tday 0 i.sday)))) h341 (hr := fun _ hS => r_and (c := isSec i) (d := (!(winB i.tday 0 i.sday))) (by kernel_rfl) (fun e344 => Bool.noConfusion (e344.symm.trans hc312))) fun q342 h343 => ?_
      clear h341
      exact ⟨h343.keep _ ⟨rfl, rfl, rfl, rfl, rfl, rfl, rfl, rfl, rfl, rfl, rfl, rfl, rfl, rfl, rfl, rfl, rfl, rfl, rfl, rfl, rfl, rfl, trivial⟩, hB309⟩
  rintro q345 w346 ⟨h347, hB348⟩
  refine fE 93 100 (.move (.tmp 99)) 4 (.bool ((isSec i) && (!(winB i.tday 0 i.sday)))) h347 fun q349 h350 => ?_
  clear h347
  refine wpO_cut [(94, true), (95, false), (96, true), (97, true), (98, true), (99, true), (100, true), (101, true), (102, true)] [(103, true), (106, false), (107, true), (108, true), (109, true), (110, false), (111, true), (112, true), (113, true), (114, true), (115, true), (116, true), (117, true), (120, true), (121, true), (122, false), (123, true), (124, true), (125, true), (128, true), (129, true), (130, true), (131, true), (132, true), (133, true), (134, true), (135, true), (136, true), (137, false), (138, false), (139, true), (140, true), (141, true), (144, true), (145, true), (146, false), (147, true), (148, true), (151, true), (152, true), (153, true), (154, true), (155, true), (156, true), (157, true), (158, true), (159, true), (160, true), (161, true), (163, false), (164, true), (165, true), (166, true), (167, true), (168, true), (169, true), (170, true), (176, false), (177, false), (178, true)] (fun qa qw => Fr 225 [(109, .bool (((isSec i) && (!(winB i.tday 0 i.sday))) || ((!(isSec i)) && (i.tday != (0 : Int))))), (89, .agg #[.bool (!(winB i.sday 0 73048)), .int .i64 28]), (84, .agg #[.bool (!(bndB i.amt ((i.kind == (0 : Int)) || (i.kind == (1 : Int))))), .int .i64 2]), (71, .agg #[.bool (!(bndB i.qty (i.kind != (0 : Int)))), .int .i64 2]), (63, .agg #[.bool (!(assetB i)), .int .i64 6]), (59, .agg #[.bool ((!(isSec i)) && (i.side != (0 : Int))), .int .i64 3]), (50, .agg #[.bool (!(winB i.side 0 1)), .int .i64 11]), (39, .agg #[.bool ((!(isCol i)) && (!(memB i.cpty))), .int .i64 6]), (29, .agg #[.bool ((isCol i) && (i.cpty.toList != (⟨#[]⟩ : ByteArray).toList)), .int .i64 3]), (21, .agg #[.bool (!(memB i.sender)), .int .i64 6]), (16, .agg #[.bool (!(rfB i.ref)), .int .i64 6]), (11, .agg #[.bool (!(winB i.kind 0 4)), .int .i64 11]), (182, .agg #[.bool (decide ((8 : Int) < ((i.links.length : Nat) : Int))), .int .i64 8]), (169, .agg #[.string i.ref, .int .i64 i.kind, .string i.sender, .string i.cpty, .int .i64 i.side, .string i.asset, .int .i64 i.qty, .int .i64 i.amt, .int .i64 i.tday, .int .i64 i.sday, .int .i64 i.prio, .bool i.part, .int .i64 i.minlot, .bool i.hold, .bool i.resv, .slice A i.links.length c]), (157, .bool i.resv), (150, .bool i.hold), (134, .bool i.part), (126, .bool i.part), (112, .int .i64 i.prio), (45, .agg #[.bool (i.cpty.toList == i.sender.toList), .int .i64 1]), (2, .int .i64 0), (1, .pointer (some ⟨b3, 0, none⟩))] qa ∧ Bx w [(b3, .cells #[.string i.ref, .int .i64 i.kind, .string i.sender, .string i.cpty, .int .i64 i.side, .string i.asset, .int .i64 i.qty, .int .i64 i.amt, .int .i64 i.tday, .int .i64 i.sday, .int .i64 i.prio, .bool i.part, .int .i64 i.minlot, .bool i.hold, .bool i.resv, .slice A i.links.length c] 29 (0, 0))] qw) ?_ ?_
  ·
    rcases Bool.eq_false_or_eq_true ((isSec i) && (!(winB i.tday 0 i.sday))) with hc351 | hc351
    ·
      refine kF 94 101 (93, false) (g4 100 hc351) h350 fun q352 h353 => ?_
      clear h350
      refine kE 95 102 (93, false) (g4 100 hc351) h353 hB348 fun q354 h355 => ?_
      clear h353
      refine kF 96 103 (93, false) (g4 100 hc351) h355 fun q356 h357 => ?_
      clear h355
      refine kF 97 104 (93, false) (g4 100 hc351) h357 fun q358 h359 => ?_
      clear h357
      refine kF 98 105 (97, true) (g0 104) h359 fun q360 h361 => ?_
      clear h359
      refine kF 99 106 (97, true) (g0 104) h361 fun q362 h363 => ?_
      clear h361
      refine kF 100 107 (97, true) (g0 104) h363 fun q364 h365 => ?_
      clear h363
      refine kF 101 108 (93, false) (g4 100 hc351) h365 fun q366 h367 => ?_
      clear h365
      refine fE 102 109 (.pick (.tmp 100) (.const (.bool true)) (.tmp 108)) 4 (.bool (((isSec i) && (!(winB i.tday 0 i.sday))) || ((!(isSec i)) && (i.tday != (0 : Int))))) h367 (hr := fun _ hS => r_or (c := (isSec i) && (!(winB i.tday 0 i.sday))) (d := ((!(isSec i)) && (i.tday != (0 : Int)))) (by kernel_rfl) (fun e370 => Bool.noConfusion (e370.symm.trans hc351))) fun q368 h369 => ?_
      clear h367
      exact ⟨h369.keep _ ⟨rfl, rfl, rfl, rfl, rfl, rfl, rfl, rfl, rfl, rfl, rfl, rfl, rfl, rfl, rfl, rfl, rfl, rfl, rfl, rfl, rfl, rfl, trivial⟩, hB348⟩
    ·
      refine fG 94 101 (.load 29 (.tmp 1)) 29 (93, false) (.agg #[.string i.ref, .int .i64 i.kind, .string i.sender, .string i.cpty, .int .i64 i.side, .string i.asset, .int .i64 i.qty, .int .i64 i.amt, .int .i64 i.tday, .int .i64 i.sday, .int .i64 i.prio, .bool i.part, .int .i64 i.minlot, .bool i.hold, .bool i.resv, .slice A i.links.length c]) (g2 100 hc351) h350 (hr := fun _ hS => r_loadS (b := b3) (vs := [.string i.ref, .int .i64 i.kind, .string i.sender, .string i.cpty, .int .i64 i.side, .string i.asset, .int .i64 i.qty, .int .i64 i.amt, .int .i64 i.tday, .int .i64 i.sday, .int .i64 i.prio, .bool i.part, .int .i64 i.minlot, .bool i.hold, .bool i.resv, .slice A i.links.length c]) hS 0 0 (by kernel_rfl) (by kernel_rfl) (by kernel_rfl)) fun q371 h372 => ?_
      clear h350
      refine stC (i := 95) (d := 102) (op := Op.call { callee := Callee.value (Operand.func 43), args := #[Operand.tmp 101], argTypes := #[29] }) (ty := 4) (g := (some (93, false))) (f := 43) (args := #[.agg #[.string i.ref, .int .i64 i.kind, .string i.sender, .string i.cpty, .int .i64 i.side, .string i.asset, .int .i64 i.qty, .int .i64 i.amt, .int .i64 i.tday, .int .i64 i.sday, .int .i64 i.prio, .bool i.part, .int .i64 i.minlot, .bool i.hold, .bool i.resv, .slice A i.links.length c]]) (w1 := w346) h372 (by kernel_rfl) (by kernel_rfl) (by kernel_rfl) (g2 100 hc351) (by kernel_rfl) (c43 i A c w346) ?_
      rintro _ w375 ⟨rfl, hb376⟩
      have hB377 := hB348.call hb376
      refine ⟨_, rfl, hB377, fun q373 h374 => ?_⟩
      clear h372 hB348 hb376
      refine fG 96 103 (.unOp .not 4 (.tmp 102)) 4 (93, false) (.bool (!(isSec i))) (g2 100 hc351) h374 fun q378 h379 => ?_
      clear h374
      refine fG 97 104 (.move (.tmp 103)) 4 (93, false) (.bool (!(isSec i))) (g2 100 hc351) h379 fun q380 h381 => ?_
      clear h379
      refine wpO_cut [(98, true), (99, true), (100, true), (101, true)] [(102, true)] (fun qa qw => Fr 225 [(108, .bool ((!(isSec i)) && (i.tday != (0 : Int)))), (100, .bool ((isSec i) && (!(winB i.tday 0 i.sday)))), (89, .agg #[.bool (!(winB i.sday 0 73048)), .int .i64 28]), (84, .agg #[.bool (!(bndB i.amt ((i.kind == (0 : Int)) || (i.kind == (1 : Int))))), .int .i64 2]), (71, .agg #[.bool (!(bndB i.qty (i.kind != (0 : Int)))), .int .i64 2]), (63, .agg #[.bool (!(assetB i)), .int .i64 6]), (59, .agg #[.bool ((!(isSec i)) && (i.side != (0 : Int))), .int .i64 3]), (50, .agg #[.bool (!(winB i.side 0 1)), .int .i64 11]), (39, .agg #[.bool ((!(isCol i)) && (!(memB i.cpty))), .int .i64 6]), (29, .agg #[.bool ((isCol i) && (i.cpty.toList != (⟨#[]⟩ : ByteArray).toList)), .int .i64 3]), (21, .agg #[.bool (!(memB i.sender)), .int .i64 6]), (16, .agg #[.bool (!(rfB i.ref)), .int .i64 6]), (11, .agg #[.bool (!(winB i.kind 0 4)), .int .i64 11]), (182, .agg #[.bool (decide ((8 : Int) < ((i.links.length : Nat) : Int))), .int .i64 8]), (169, .agg #[.string i.ref, .int .i64 i.kind, .string i.sender, .string i.cpty, .int .i64 i.side, .string i.asset, .int .i64 i.qty, .int .i64 i.amt, .int .i64 i.tday, .int .i64 i.sday, .int .i64 i.prio, .bool i.part, .int .i64 i.minlot, .bool i.hold, .bool i.resv, .slice A i.links.length c]), (157, .bool i.resv), (150, .bool i.hold), (134, .bool i.part), (126, .bool i.part), (112, .int .i64 i.prio), (45, .agg #[.bool (i.cpty.toList == i.sender.toList), .int .i64 1]), (2, .int .i64 0), (1, .pointer (some ⟨b3, 0, none⟩))] qa ∧ Bx w [(b3, .cells #[.string i.ref, .int .i64 i.kind, .string i.sender, .string i.cpty, .int .i64 i.side, .string i.asset, .int .i64 i.qty, .int .i64 i.amt, .int .i64 i.tday, .int .i64 i.sday, .int .i64 i.prio, .bool i.part, .int .i64 i.minlot, .bool i.hold, .bool i.resv, .slice A i.links.length c] 29 (0, 0))] qw) ?_ ?_
      ·
        rcases Bool.eq_false_or_eq_true (!(isSec i)) with hc382 | hc382
        ·
          refine fG 98 105 (.fieldAddr 29 (.tmp 1) 8) 0 (97, true) (.pointer (some ⟨b3, 8, none⟩)) (g1 104 hc382) h381 fun q383 h384 => ?_
          clear h381
          refine fG 99 106 (.load 3 (.tmp 105)) 3 (97, true) (.int .i64 i.tday) (g1 104 hc382) h384 (hr := fun _ hS => r_loadC (b := b3) (v := .int .i64 i.tday) hS 0 8 (by kernel_rfl) (by kernel_rfl) (by kernel_rfl)) fun q385 h386 => ?_
          clear h384
          refine fG 100 107 (.binOp .neq 3 (.tmp 106) (.const (.int .i64 0)) 3) 4 (97, true) (.bool (i.tday != (0 : Int))) (g1 104 hc382) h386 fun q387 h388 => ?_
          clear h386
          refine fG 101 108 (.pick (.tmp 104) (.tmp 107) (.const (.bool false))) 4 (93, false) (.bool ((!(isSec i)) && (i.tday != (0 : Int)))) (g2 100 hc351) h388 (hr := fun _ hS => r_and (c := !(isSec i)) (d := (i.tday != (0 : Int))) (by kernel_rfl) (fun _ => by kernel_rfl)) fun q389 h390 => ?_
          clear h388
          exact ⟨h390.keep _ ⟨rfl, rfl, rfl, rfl, rfl, rfl, rfl, rfl, rfl, rfl, rfl, rfl, rfl, rfl, rfl, rfl, rfl, rfl, rfl, rfl, rfl, rfl, rfl, trivial⟩, hB377⟩
        ·
          refine kF 98 105 (97, true) (g3 104 hc382) h381 fun q391 h392 => ?_
          clear h381
          refine kF 99 106 (97, true) (g3 104 hc382) h392 fun q393 h394 => ?_
          clear h392
          refine kF 100 107 (97, true) (g3 104 hc382) h394 fun q395 h396 => ?_
          clear h394
          refine fG 101 108 (.pick (.tmp 104) (.tmp 107) (.const (.bool false))) 4 (93, false) (.bool ((!(isSec i)) && (i.tday != (0 : Int)))) (g2 100 hc351) h396 (hr := fun _ hS => r_and (c := !(isSec i)) (d := (i.tday != (0 : Int))) (by kernel_rfl) (fun e399 => Bool.noConfusion (e399.symm.trans hc382))) fun q397 h398 => ?_
          clear h396
          exact ⟨h398.keep _ ⟨rfl, rfl, rfl, rfl, rfl, rfl, rfl, rfl, rfl, rfl, rfl, rfl, rfl, rfl, rfl, rfl, rfl, rfl, rfl, rfl, rfl, rfl, rfl, trivial⟩, hB377⟩
      rintro q400 w401 ⟨h402, hB403⟩
      refine fE 102 109 (.pick (.tmp 100) (.const (.bool true)) (.tmp 108)) 4 (.bool (((isSec i) && (!(winB i.tday 0 i.sday))) || ((!(isSec i)) && (i.tday != (0 : Int))))) h402 (hr := fun _ hS => r_or (c := (isSec i) && (!(winB i.tday 0 i.sday))) (d := ((!(isSec i)) && (i.tday != (0 : Int)))) (by kernel_rfl) (fun _ => by kernel_rfl)) fun q404 h405 => ?_
      clear h402
      exact ⟨h405.keep _ ⟨rfl, rfl, rfl, rfl, rfl, rfl, rfl, rfl, rfl, rfl, rfl, rfl, rfl, rfl, rfl, rfl, rfl, rfl, rfl, rfl, rfl, rfl, trivial⟩, hB403⟩
  rintro q406 w407 ⟨h408, hB409⟩
  refine fE 103 110 (.build 71 #[(0, .tmp 109), (1, .const (.int .i64 28))]) 71 (.agg #[.bool (((isSec i) && (!(winB i.tday 0 i.sday))) || ((!(isSec i)) && (i.tday != (0 : Int)))), .int .i64 28]) h408 fun q410 h411 => ?_
  clear h408
  refine stC (i := 106) (d := 113) (op := Op.call { callee := Callee.value (Operand.func 40), args := #[Operand.tmp 112, Operand.const (Value.int IntKind.i64 0), Operand.const (Value.int IntKind.i64 2)], argTypes := #[3, 3, 3] }) (ty := 4) (g := none) (f := 40) (args := #[.int .i64 i.prio, .int .i64 0, .int .i64 2]) (w1 := w407) h411 (by kernel_rfl) (by kernel_rfl) (by kernel_rfl) gok_none (by kernel_rfl) (c40 i.prio 0 2 w407) ?_
  rintro _ w414 ⟨rfl, hb415⟩
  have hB416 := hB409.call hb415
  refine ⟨_, rfl, hB416, fun q412 h413 => ?_⟩
  clear h411 hB409 hb415
  refine fE 107 114 (.unOp .not 4 (.tmp 113)) 4 (.bool (!(winB i.prio 0 2))) h413 fun q417 h418 => ?_
  clear h413
  refine fE 108 115 (.move (.tmp 114)) 4 (.bool (!(winB i.prio 0 2))) h418 fun q419 h420 => ?_
  clear h418
  refine wpO_cut [(109, true), (110, false), (111, true), (112, true), (113, true), (114, true), (115, true), (116, true)] [(117, true), (120, true), (121, true), (122, false), (123, true), (124, true), (125, true), (128, true), (129, true), (130, true), (131, true), (132, true), (133, true), (134, true), (135, true), (136, true), (137, false), (138, false), (139, true), (140, true), (141, true), (144, true), (145, true), (146, false), (147, true), (148, true), (151, true), (152, true), (153, true), (154, true), (155, true), (156, true), (157, true), (158, true), (159, true), (160, true), (161, true), (163, false), (164, true), (165, true), (166, true), (167, true), (168, true), (169, true), (170, true), (176, false), (177, false), (178, true)] (fun qa qw => Fr 225 [(123, .bool ((!(winB i.prio 0 2)) || ((isCol i) && (i.prio != (0 : Int))))), (110, .agg #[.bool (((isSec i) && (!(winB i.tday 0 i.sday))) || ((!(isSec i)) && (i.tday != (0 : Int)))), .int .i64 28]), (89, .agg #[.bool (!(winB i.sday 0 73048)), .int .i64 28]), (84, .agg #[.bool (!(bndB i.amt ((i.kind == (0 : Int)) || (i.kind == (1 : Int))))), .int .i64 2]), (71, .agg #[.bool (!(bndB i.qty (i.kind != (0 : Int)))), .int .i64 2]), (63, .agg #[.bool (!(assetB i)), .int .i64 6]), (59, .agg #[.bool ((!(isSec i)) && (i.side != (0 : Int))), .int .i64 3]), (50, .agg #[.bool (!(winB i.side 0 1)), .int .i64 11]), (39, .agg #[.bool ((!(isCol i)) && (!(memB i.cpty))), .int .i64 6]), (29, .agg #[.bool ((isCol i) && (i.cpty.toList != (⟨#[]⟩ : ByteArray).toList)), .int .i64 3]), (21, .agg #[.bool (!(memB i.sender)), .int .i64 6]), (16, .agg #[.bool (!(rfB i.ref)), .int .i64 6]), (11, .agg #[.bool (!(winB i.kind 0 4)), .int .i64 11]), (182, .agg #[.bool (decide ((8 : Int) < ((i.links.length : Nat) : Int))), .int .i64 8]), (169, .agg #[.string i.ref, .int .i64 i.kind, .string i.sender, .string i.cpty, .int .i64 i.side, .string i.asset, .int .i64 i.qty, .int .i64 i.amt, .int .i64 i.tday, .int .i64 i.sday, .int .i64 i.prio, .bool i.part, .int .i64 i.minlot, .bool i.hold, .bool i.resv, .slice A i.links.length c]), (157, .bool i.resv), (150, .bool i.hold), (134, .bool i.part), (126, .bool i.part), (45, .agg #[.bool (i.cpty.toList == i.sender.toList), .int .i64 1]), (2, .int .i64 0), (1, .pointer (some ⟨b3, 0, none⟩))] qa ∧ Bx w [(b3, .cells #[.string i.ref, .int .i64 i.kind, .string i.sender, .string i.cpty, .int .i64 i.side, .string i.asset, .int .i64 i.qty, .int .i64 i.amt, .int .i64 i.tday, .int .i64 i.sday, .int .i64 i.prio, .bool i.part, .int .i64 i.minlot, .bool i.hold, .bool i.resv, .slice A i.links.length c] 29 (0, 0))] qw) ?_ ?_
  ·
    rcases Bool.eq_false_or_eq_true (!(winB i.prio 0 2)) with hc421 | hc421
    ·
      refine kF 109 116 (108, false) (g4 115 hc421) h420 fun q422 h423 => ?_
      clear h420
      refine kE 110 117 (108, false) (g4 115 hc421) h423 hB416 fun q424 h425 => ?_
      clear h423
      refine kF 111 118 (108, false) (g4 115 hc421) h425 fun q426 h427 => ?_
      clear h425
      refine kF 112 119 (111, true) (g0 118) h427 fun q428 h429 => ?_
      clear h427
      refine kF 113 120 (111, true) (g0 118) h429 fun q430 h431 => ?_
      clear h429
      refine kF 114 121 (111, true) (g0 118) h431 fun q432 h433 => ?_
      clear h431
      refine kF 115 122 (108, false) (g4 115 hc421) h433 fun q434 h435 => ?_
      clear h433
      refine fE 116 123 (.pick (.tmp 115) (.const (.bool true)) (.tmp 122)) 4 (.bool ((!(winB i.prio 0 2)) || ((isCol i) && (i.prio != (0 : Int))))) h435 (hr := fun _ hS => r_or (c := !(winB i.prio 0 2)) (d := ((isCol i) && (i.prio != (0 : Int)))) (by kernel_rfl) (fun e438 => Bool.noConfusion (e438.symm.trans hc421))) fun q436 h437 => ?_
      clear h435
      exact ⟨h437.keep _ ⟨rfl, rfl, rfl, rfl, rfl, rfl, rfl, rfl, rfl, rfl, rfl, rfl, rfl, rfl, rfl, rfl, rfl, rfl, rfl, rfl, rfl, rfl, trivial⟩, hB416⟩
    ·
      refine fG 109 116 (.load 29 (.tmp 1)) 29 (108, false) (.agg #[.string i.ref, .int .i64 i.kind, .string i.sender, .string i.cpty, .int .i64 i.side, .string i.asset, .int .i64 i.qty, .int .i64 i.amt, .int .i64 i.tday, .int .i64 i.sday, .int .i64 i.prio, .bool i.part, .int .i64 i.minlot, .bool i.hold, .bool i.resv, .slice A i.links.length c]) (g2 115 hc421) h420 (hr := fun _ hS => r_loadS (b := b3) (vs := [.string i.ref, .int .i64 i.kind, .string i.sender, .string i.cpty, .int .i64 i.side, .string i.asset, .int .i64 i.qty, .int .i64 i.amt, .int .i64 i.tday, .int .i64 i.sday, .int .i64 i.prio, .bool i.part, .int .i64 i.minlot, .bool i.hold, .bool i.resv, .slice A i.links.length c]) hS 0 0 (by kernel_rfl) (by kernel_rfl) (by kernel_rfl)) fun q439 h440 => ?_
      clear h420
      refine stC (i := 110) (d := 117) (op := Op.call { callee := Callee.value (Operand.func 42), args := #[Operand.tmp 116], argTypes := #[29] }) (ty := 4) (g := (some (108, false))) (f := 42) (args := #[.agg #[.string i.ref, .int .i64 i.kind, .string i.sender, .string i.cpty, .int .i64 i.side, .string i.asset, .int .i64 i.qty, .int .i64 i.amt, .int .i64 i.tday, .int .i64 i.sday, .int .i64 i.prio, .bool i.part, .int .i64 i.minlot, .bool i.hold, .bool i.resv, .slice A i.links.length c]]) (w1 := w414) h440 (by kernel_rfl) (by kernel_rfl) (by kernel_rfl) (g2 115 hc421) (by kernel_rfl) (c42 i A c w414) ?_
      rintro _ w443 ⟨rfl, hb444⟩
      have hB445 := hB416.call hb444
      refine ⟨_, rfl, hB445, fun q441 h442 => ?_⟩
      clear h440 hB416 hb444
      refine fG 111 118 (.move (.tmp 117)) 4 (108, false) (.bool (isCol i)) (g2 115 hc421) h442 fun q446 h447 => ?_
      clear h442
      refine wpO_cut [(112, true), (113, true), (114, true), (115, true)] [(116, true)] (fun qa qw => Fr 225 [(122, .bool ((isCol i) && (i.prio != (0 : Int)))), (115, .bool (!(winB i.prio 0 2))), (110, .agg #[.bool (((isSec i) && (!(winB i.tday 0 i.sday))) || ((!(isSec i)) && (i.tday != (0 : Int)))), .int .i64 28]), (89, .agg #[.bool (!(winB i.sday 0 73048)), .int .i64 28]), (84, .agg #[.bool (!(bndB i.amt ((i.kind == (0 : Int)) || (i.kind == (1 : Int))))), .int .i64 2]), (71, .agg #[.bool (!(bndB i.qty (i.kind != (0 : Int)))), .int .i64 2]), (63, .agg #[.bool (!(assetB i)), .int .i64 6]), (59, .agg #[.bool ((!(isSec i)) && (i.side != (0 : Int))), .int .i64 3]), (50, .agg #[.bool (!(winB i.side 0 1)), .int .i64 11]), (39, .agg #[.bool ((!(isCol i)) && (!(memB i.cpty))), .int .i64 6]), (29, .agg #[.bool ((isCol i) && (i.cpty.toList != (⟨#[]⟩ : ByteArray).toList)), .int .i64 3]), (21, .agg #[.bool (!(memB i.sender)), .int .i64 6]), (16, .agg #[.bool (!(rfB i.ref)), .int .i64 6]), (11, .agg #[.bool (!(winB i.kind 0 4)), .int .i64 11]), (182, .agg #[.bool (decide ((8 : Int) < ((i.links.length : Nat) : Int))), .int .i64 8]), (169, .agg #[.string i.ref, .int .i64 i.kind, .string i.sender, .string i.cpty, .int .i64 i.side, .string i.asset, .int .i64 i.qty, .int .i64 i.amt, .int .i64 i.tday, .int .i64 i.sday, .int .i64 i.prio, .bool i.part, .int .i64 i.minlot, .bool i.hold, .bool i.resv, .slice A i.links.length c]), (157, .bool i.resv), (150, .bool i.hold), (134, .bool i.part), (126, .bool i.part), (45, .agg #[.bool (i.cpty.toList == i.sender.toList), .int .i64 1]), (2, .int .i64 0), (1, .pointer (some ⟨b3, 0, none⟩))] qa ∧ Bx w [(b3, .cells #[.string i.ref, .int .i64 i.kind, .string i.sender, .string i.cpty, .int .i64 i.side, .string i.asset, .int .i64 i.qty, .int .i64 i.amt, .int .i64 i.tday, .int .i64 i.sday, .int .i64 i.prio, .bool i.part, .int .i64 i.minlot, .bool i.hold, .bool i.resv, .slice A i.links.length c] 29 (0, 0))] qw) ?_ ?_
      ·
        rcases Bool.eq_false_or_eq_true (isCol i) with hc448 | hc448
        ·
          refine fG 112 119 (.fieldAddr 29 (.tmp 1) 10) 0 (111, true) (.pointer (some ⟨b3, 10, none⟩)) (g1 118 hc448) h447 fun q449 h450 => ?_
          clear h447
          refine fG 113 120 (.load 3 (.tmp 119)) 3 (111, true) (.int .i64 i.prio) (g1 118 hc448) h450 (hr := fun _ hS => r_loadC (b := b3) (v := .int .i64 i.prio) hS 0 10 (by kernel_rfl) (by kernel_rfl) (by kernel_rfl)) fun q451 h452 => ?_
          clear h450
          refine fG 114 121 (.binOp .neq 3 (.tmp 120) (.const (.int .i64 0)) 3) 4 (111, true) (.bool (i.prio != (0 : Int))) (g1 118 hc448) h452 fun q453 h454 => ?_
          clear h452
          refine fG 115 122 (.pick (.tmp 118) (.tmp 121) (.const (.bool false))) 4 (108, false) (.bool ((isCol i) && (i.prio != (0 : Int)))) (g2 115 hc421) h454 (hr := fun _ hS => r_and (c := isCol i) (d := (i.prio != (0 : Int))) (by kernel_rfl) (fun _ => by kernel_rfl)) fun q455 h456 => ?_
          clear h454
          exact ⟨h456.keep _ ⟨rfl, rfl, rfl, rfl, rfl, rfl, rfl, rfl, rfl, rfl, rfl, rfl, rfl, rfl, rfl, rfl, rfl, rfl, rfl, rfl, rfl, rfl, rfl, trivial⟩, hB445⟩
        ·
          refine kF 112 119 (111, true) (g3 118 hc448) h447 fun q457 h458 => ?_
          clear h447
          refine kF 113 120 (111, true) (g3 118 hc448) h458 fun q459 h460 => ?_
          clear h458
          refine kF 114 121 (111, true) (g3 118 hc448) h460 fun q461 h462 => ?_
          clear h460
          refine fG 115 122 (.pick (.tmp 118) (.tmp 121) (.const (.bool false))) 4 (108, false) (.bool ((isCol i) && (i.prio != (0 : Int)))) (g2 115 hc421) h462 (hr := fun _ hS => r_and (c := isCol i) (d := (i.prio != (0 : Int))) (by kernel_rfl) (fun e465 => Bool.noConfusion (e465.symm.trans hc448))) fun q463 h464 => ?_
          clear h462
          exact ⟨h464.keep _ ⟨rfl, rfl, rfl, rfl, rfl, rfl, rfl, rfl, rfl, rfl, rfl, rfl, rfl, rfl, rfl, rfl, rfl, rfl, rfl, rfl, rfl, rfl, rfl, trivial⟩, hB445⟩
      rintro q466 w467 ⟨h468, hB469⟩
      refine fE 116 123 (.pick (.tmp 115) (.const (.bool true)) (.tmp 122)) 4 (.bool ((!(winB i.prio 0 2)) || ((isCol i) && (i.prio != (0 : Int))))) h468 (hr := fun _ hS => r_or (c := !(winB i.prio 0 2)) (d := ((isCol i) && (i.prio != (0 : Int)))) (by kernel_rfl) (fun _ => by kernel_rfl)) fun q470 h471 => ?_
      clear h468
      exact ⟨h471.keep _ ⟨rfl, rfl, rfl, rfl, rfl, rfl, rfl, rfl, rfl, rfl, rfl, rfl, rfl, rfl, rfl, rfl, rfl, rfl, rfl, rfl, rfl, rfl, trivial⟩, hB469⟩
  rintro q472 w473 ⟨h474, hB475⟩
  refine fE 117 124 (.build 71 #[(0, .tmp 123), (1, .const (.int .i64 2))]) 71 (.agg #[.bool ((!(winB i.prio 0 2)) || ((isCol i) && (i.prio != (0 : Int)))), .int .i64 2]) h474 fun q476 h477 => ?_
  clear h474
  refine fE 120 127 (.move (.tmp 126)) 4 (.bool i.part) h477 fun q478 h479 => ?_
  clear h477
  refine wpO_cut [(121, true), (122, false), (123, true), (124, true)] [(125, true), (128, true), (129, true), (130, true), (131, true), (132, true), (133, true), (134, true), (135, true), (136, true), (137, false), (138, false), (139, true), (140, true), (141, true), (144, true), (145, true), (146, false), (147, true), (148, true), (151, true), (152, true), (153, true), (154, true), (155, true), (156, true), (157, true), (158, true), (159, true), (160, true), (161, true), (163, false), (164, true), (165, true), (166, true), (167, true), (168, true), (169, true), (170, true), (176, false), (177, false), (178, true)] (fun qa qw => Fr 225 [(131, .bool (i.part && (!(isSec i)))), (124, .agg #[.bool ((!(winB i.prio 0 2)) || ((isCol i) && (i.prio != (0 : Int)))), .int .i64 2]), (110, .agg #[.bool (((isSec i) && (!(winB i.tday 0 i.sday))) || ((!(isSec i)) && (i.tday != (0 : Int)))), .int .i64 28]), (89, .agg #[.bool (!(winB i.sday 0 73048)), .int .i64 28]), (84, .agg #[.bool (!(bndB i.amt ((i.kind == (0 : Int)) || (i.kind == (1 : Int))))), .int .i64 2]), (71, .agg #[.bool (!(bndB i.qty (i.kind != (0 : Int)))), .int .i64 2]), (63, .agg #[.bool (!(assetB i)), .int .i64 6]), (59, .agg #[.bool ((!(isSec i)) && (i.side != (0 : Int))), .int .i64 3]), (50, .agg #[.bool (!(winB i.side 0 1)), .int .i64 11]), (39, .agg #[.bool ((!(isCol i)) && (!(memB i.cpty))), .int .i64 6]), (29, .agg #[.bool ((isCol i) && (i.cpty.toList != (⟨#[]⟩ : ByteArray).toList)), .int .i64 3]), (21, .agg #[.bool (!(memB i.sender)), .int .i64 6]), (16, .agg #[.bool (!(rfB i.ref)), .int .i64 6]), (11, .agg #[.bool (!(winB i.kind 0 4)), .int .i64 11]), (182, .agg #[.bool (decide ((8 : Int) < ((i.links.length : Nat) : Int))), .int .i64 8]), (169, .agg #[.string i.ref, .int .i64 i.kind, .string i.sender, .string i.cpty, .int .i64 i.side, .string i.asset, .int .i64 i.qty, .int .i64 i.amt, .int .i64 i.tday, .int .i64 i.sday, .int .i64 i.prio, .bool i.part, .int .i64 i.minlot, .bool i.hold, .bool i.resv, .slice A i.links.length c]), (157, .bool i.resv), (150, .bool i.hold), (134, .bool i.part), (45, .agg #[.bool (i.cpty.toList == i.sender.toList), .int .i64 1]), (2, .int .i64 0), (1, .pointer (some ⟨b3, 0, none⟩))] qa ∧ Bx w [(b3, .cells #[.string i.ref, .int .i64 i.kind, .string i.sender, .string i.cpty, .int .i64 i.side, .string i.asset, .int .i64 i.qty, .int .i64 i.amt, .int .i64 i.tday, .int .i64 i.sday, .int .i64 i.prio, .bool i.part, .int .i64 i.minlot, .bool i.hold, .bool i.resv, .slice A i.links.length c] 29 (0, 0))] qw) ?_ ?_
  ·
    rcases Bool.eq_false_or_eq_true i.part with hc480 | hc480
    ·
      refine fG 121 128 (.load 29 (.tmp 1)) 29 (120, true) (.agg #[.string i.ref, .int .i64 i.kind, .string i.sender, .string i.cpty, .int .i64 i.side, .string i.asset, .int .i64 i.qty, .int .i64 i.amt, .int .i64 i.tday, .int .i64 i.sday, .int .i64 i.prio, .bool i.part, .int .i64 i.minlot, .bool i.hold, .bool i.resv, .slice A i.links.length c]) (g1 127 hc480) h479 (hr := fun _ hS => r_loadS (b := b3) (vs := [.string i.ref, .int .i64 i.kind, .string i.sender, .string i.cpty, .int .i64 i.side, .string i.asset, .int .i64 i.qty, .int .i64 i.amt, .int .i64 i.tday, .int .i64 i.sday, .int .i64 i.prio, .bool i.part, .int .i64 i.minlot, .bool i.hold, .bool i.resv, .slice A i.links.length c]) hS 0 0 (by kernel_rfl) (by kernel_rfl) (by kernel_rfl)) fun q481 h482 => ?_
      clear h479
      refine stC (i := 122) (d := 129) (op := Op.call { callee := Callee.value (Operand.func 43), args := #[Operand.tmp 128], argTypes := #[29] }) (ty := 4) (g := (some (120, true))) (f := 43) (args := #[.agg #[.string i.ref, .int .i64 i.kind, .string i.sender, .string i.cpty, .int .i64 i.side, .string i.asset, .int .i64 i.qty, .int .i64 i.amt, .int .i64 i.tday, .int .i64 i.sday, .int .i64 i.prio, .bool i.part, .int .i64 i.minlot, .bool i.hold, .bool i.resv, .slice A i.links.length c]]) (w1 := w473) h482 (by kernel_rfl) (by kernel_rfl) (by kernel_rfl) (g1 127 hc480) (by kernel_rfl) (c43 i A c w473) ?_
      rintro _ w485 ⟨rfl, hb486⟩
      have hB487 := hB475.call hb486
      refine ⟨_, rfl, hB487, fun q483 h484 => ?_⟩
      clear h482 hB475 hb486
      refine fG 123 130 (.unOp .not 4 (.tmp 129)) 4 (120, true) (.bool (!(isSec i))) (g1 127 hc480) h484 fun q488 h489 => ?_
      clear h484
      refine fE 124 131 (.pick (.tmp 127) (.tmp 130) (.const (.bool false))) 4 (.bool (i.part && (!(isSec i)))) h489 (hr := fun _ hS => r_and (c := i.part) (d := (!(isSec i))) (by kernel_rfl) (fun _ => by kernel_rfl)) fun q490 h491 => ?_
      clear h489
      exact ⟨h491.keep _ ⟨rfl, rfl, rfl, rfl, rfl, rfl, rfl, rfl, rfl, rfl, rfl, rfl, rfl, rfl, rfl, rfl, rfl, rfl, rfl, rfl, rfl, rfl, trivial⟩, hB487⟩
    ·
      refine kF 121 128 (120, true) (g3 127 hc480) h479 fun q492 h493 => ?_
      clear h479
      refine kE 122 129 (120, true) (g3 127 hc480) h493 hB475 fun q494 h495 => ?_
      clear h493
      refine kF 123 130 (120, true) (g3 127 hc480) h495 fun q496 h497 => ?_
      clear h495
      refine fE 124 131 (.pick (.tmp 127) (.tmp 130) (.const (.bool false))) 4 (.bool (i.part && (!(isSec i)))) h497 (hr := fun _ hS => r_and (c := i.part) (d := (!(isSec i))) (by kernel_rfl) (fun e500 => Bool.noConfusion (e500.symm.trans hc480))) fun q498 h499 => ?_
      clear h497
      exact ⟨h499.keep _ ⟨rfl, rfl, rfl, rfl, rfl, rfl, rfl, rfl, rfl, rfl, rfl, rfl, rfl, rfl, rfl, rfl, rfl, rfl, rfl, rfl, rfl, rfl, trivial⟩, hB475⟩
  rintro q501 w502 ⟨h503, hB504⟩
  refine fE 125 132 (.build 71 #[(0, .tmp 131), (1, .const (.int .i64 3))]) 71 (.agg #[.bool (i.part && (!(isSec i))), .int .i64 3]) h503 fun q505 h506 => ?_
  clear h503
  refine fE 128 135 (.move (.tmp 134)) 4 (.bool i.part) h506 fun q507 h508 => ?_
  clear h506
  refine wpO_cut [(129, true), (130, true), (131, true), (132, true)] [(133, true), (134, true), (135, true), (136, true), (137, false), (138, false), (139, true), (140, true), (141, true), (144, true), (145, true), (146, false), (147, true), (148, true), (151, true), (152, true), (153, true), (154, true), (155, true), (156, true), (157, true), (158, true), (159, true), (160, true), (161, true), (163, false), (164, true), (165, true), (166, true), (167, true), (168, true), (169, true), (170, true), (176, false), (177, false), (178, true)] (fun qa qw => Fr 225 [(139, .bool (i.part && (decide (i.minlot < (1 : Int))))), (132, .agg #[.bool (i.part && (!(isSec i))), .int .i64 3]), (124, .agg #[.bool ((!(winB i.prio 0 2)) || ((isCol i) && (i.prio != (0 : Int)))), .int .i64 2]), (110, .agg #[.bool (((isSec i) && (!(winB i.tday 0 i.sday))) || ((!(isSec i)) && (i.tday != (0 : Int)))), .int .i64 28]), (89, .agg #[.bool (!(winB i.sday 0 73048)), .int .i64 28]), (84, .agg #[.bool (!(bndB i.amt ((i.kind == (0 : Int)) || (i.kind == (1 : Int))))), .int .i64 2]), (71, .agg #[.bool (!(bndB i.qty (i.kind != (0 : Int)))), .int .i64 2]), (63, .agg #[.bool (!(assetB i)), .int .i64 6]), (59, .agg #[.bool ((!(isSec i)) && (i.side != (0 : Int))), .int .i64 3]), (50, .agg #[.bool (!(winB i.side 0 1)), .int .i64 11]), (39, .agg #[.bool ((!(isCol i)) && (!(memB i.cpty))), .int .i64 6]), (29, .agg #[.bool ((isCol i) && (i.cpty.toList != (⟨#[]⟩ : ByteArray).toList)), .int .i64 3]), (21, .agg #[.bool (!(memB i.sender)), .int .i64 6]), (16, .agg #[.bool (!(rfB i.ref)), .int .i64 6]), (11, .agg #[.bool (!(winB i.kind 0 4)), .int .i64 11]), (182, .agg #[.bool (decide ((8 : Int) < ((i.links.length : Nat) : Int))), .int .i64 8]), (169, .agg #[.string i.ref, .int .i64 i.kind, .string i.sender, .string i.cpty, .int .i64 i.side, .string i.asset, .int .i64 i.qty, .int .i64 i.amt, .int .i64 i.tday, .int .i64 i.sday, .int .i64 i.prio, .bool i.part, .int .i64 i.minlot, .bool i.hold, .bool i.resv, .slice A i.links.length c]), (157, .bool i.resv), (150, .bool i.hold), (45, .agg #[.bool (i.cpty.toList == i.sender.toList), .int .i64 1]), (2, .int .i64 0), (1, .pointer (some ⟨b3, 0, none⟩))] qa ∧ Bx w [(b3, .cells #[.string i.ref, .int .i64 i.kind, .string i.sender, .string i.cpty, .int .i64 i.side, .string i.asset, .int .i64 i.qty, .int .i64 i.amt, .int .i64 i.tday, .int .i64 i.sday, .int .i64 i.prio, .bool i.part, .int .i64 i.minlot, .bool i.hold, .bool i.resv, .slice A i.links.length c] 29 (0, 0))] qw) ?_ ?_
  ·
    rcases Bool.eq_false_or_eq_true i.part with hc509 | hc509
    ·
      refine fG 129 136 (.fieldAddr 29 (.tmp 1) 12) 0 (128, true) (.pointer (some ⟨b3, 12, none⟩)) (g1 135 hc509) h508 fun q510 h511 => ?_
      clear h508
      refine fG 130 137 (.load 2 (.tmp 136)) 2 (128, true) (.int .i64 i.minlot) (g1 135 hc509) h511 (hr := fun _ hS => r_loadC (b := b3) (v := .int .i64 i.minlot) hS 0 12 (by kernel_rfl) (by kernel_rfl) (by kernel_rfl)) fun q512 h513 => ?_
      clear h511
      refine fG 131 138 (.binOp .lss 2 (.tmp 137) (.const (.int .i64 1)) 2) 4 (128, true) (.bool (decide (i.minlot < (1 : Int)))) (g1 135 hc509) h513 fun q514 h515 => ?_
      clear h513
      refine fE 132 139 (.pick (.tmp 135) (.tmp 138) (.const (.bool false))) 4 (.bool (i.part && (decide (i.minlot < (1 : Int))))) h515 (hr := fun _ hS => r_and (c := i.part) (d := (decide (i.minlot < (1 : Int)))) (by kernel_rfl) (fun _ => by kernel_rfl)) fun q516 h517 => ?_
      clear h515
      exact ⟨h517.keep _ ⟨rfl, rfl, rfl, rfl, rfl, rfl, rfl, rfl, rfl, rfl, rfl, rfl, rfl, rfl, rfl, rfl, rfl, rfl, rfl, rfl, rfl, rfl, trivial⟩, hB504⟩
    ·
      refine kF 129 136 (128, true) (g3 135 hc509) h508 fun q518 h519 => ?_
      clear h508
      refine kF 130 137 (128, true) (g3 135 hc509) h519 fun q520 h521 => ?_
      clear h519
      refine kF 131 138 (128, true) (g3 135 hc509) h521 fun q522 h523 => ?_
      clear h521
      refine fE 132 139 (.pick (.tmp 135) (.tmp 138) (.const (.bool false))) 4 (.bool (i.part && (decide (i.minlot < (1 : Int))))) h523 (hr := fun _ hS => r_and (c := i.part) (d := (decide (i.minlot < (1 : Int)))) (by kernel_rfl) (fun e526 => Bool.noConfusion (e526.symm.trans hc509))) fun q524 h525 => ?_
      clear h523
      exact ⟨h525.keep _ ⟨rfl, rfl, rfl, rfl, rfl, rfl, rfl, rfl, rfl, rfl, rfl, rfl, rfl, rfl, rfl, rfl, rfl, rfl, rfl, rfl, rfl, rfl, trivial⟩, hB504⟩
  rintro q527 w528 ⟨h529, hB530⟩
  refine fE 133 140 (.move (.tmp 139)) 4 (.bool (i.part && (decide (i.minlot < (1 : Int))))) h529 fun q531 h532 => ?_
  clear h529
  refine wpO_cut [(134, true), (135, true), (136, true), (137, false), (138, false), (139, true), (140, true)] [(141, true), (144, true), (145, true), (146, false), (147, true), (148, true), (151, true), (152, true), (153, true), (154, true), (155, true), (156, true), (157, true), (158, true), (159, true), (160, true), (161, true), (163, false), (164, true), (165, true), (166, true), (167, true), (168, true), (169, true), (170, true), (176, false), (177, false), (178, true)] (fun qa qw => Fr 225 [(147, .bool ((i.part && (decide (i.minlot < (1 : Int)))) || (!(winB i.minlot 0 (maxLotI i))))), (132, .agg #[.bool (i.part && (!(isSec i))), .int .i64 3]), (124, .agg #[.bool ((!(winB i.prio 0 2)) || ((isCol i) && (i.prio != (0 : Int)))), .int .i64 2]), (110, .agg #[.bool (((isSec i) && (!(winB i.tday 0 i.sday))) || ((!(isSec i)) && (i.tday != (0 : Int)))), .int .i64 28]), (89, .agg #[.bool (!(winB i.sday 0 73048)), .int .i64 28]), (84, .agg #[.bool (!(bndB i.amt ((i.kind == (0 : Int)) || (i.kind == (1 : Int))))), .int .i64 2]), (71, .agg #[.bool (!(bndB i.qty (i.kind != (0 : Int)))), .int .i64 2]), (63, .agg #[.bool (!(assetB i)), .int .i64 6]), (59, .agg #[.bool ((!(isSec i)) && (i.side != (0 : Int))), .int .i64 3]), (50, .agg #[.bool (!(winB i.side 0 1)), .int .i64 11]), (39, .agg #[.bool ((!(isCol i)) && (!(memB i.cpty))), .int .i64 6]), (29, .agg #[.bool ((isCol i) && (i.cpty.toList != (⟨#[]⟩ : ByteArray).toList)), .int .i64 3]), (21, .agg #[.bool (!(memB i.sender)), .int .i64 6]), (16, .agg #[.bool (!(rfB i.ref)), .int .i64 6]), (11, .agg #[.bool (!(winB i.kind 0 4)), .int .i64 11]), (182, .agg #[.bool (decide ((8 : Int) < ((i.links.length : Nat) : Int))), .int .i64 8]), (169, .agg #[.string i.ref, .int .i64 i.kind, .string i.sender, .string i.cpty, .int .i64 i.side, .string i.asset, .int .i64 i.qty, .int .i64 i.amt, .int .i64 i.tday, .int .i64 i.sday, .int .i64 i.prio, .bool i.part, .int .i64 i.minlot, .bool i.hold, .bool i.resv, .slice A i.links.length c]), (157, .bool i.resv), (150, .bool i.hold), (45, .agg #[.bool (i.cpty.toList == i.sender.toList), .int .i64 1]), (2, .int .i64 0), (1, .pointer (some ⟨b3, 0, none⟩))] qa ∧ Bx w [(b3, .cells #[.string i.ref, .int .i64 i.kind, .string i.sender, .string i.cpty, .int .i64 i.side, .string i.asset, .int .i64 i.qty, .int .i64 i.amt, .int .i64 i.tday, .int .i64 i.sday, .int .i64 i.prio, .bool i.part, .int .i64 i.minlot, .bool i.hold, .bool i.resv, .slice A i.links.length c] 29 (0, 0))] qw) ?_ ?_
  ·
    rcases Bool.eq_false_or_eq_true (i.part && (decide (i.minlot < (1 : Int)))) with hc533 | hc533
    ·
      refine kF 134 141 (133, false) (g4 140 hc533) h532 fun q534 h535 => ?_
      clear h532
      refine kF 135 142 (133, false) (g4 140 hc533) h535 fun q536 h537 => ?_
      clear h535
      refine kF 136 143 (133, false) (g4 140 hc533) h537 fun q538 h539 => ?_
      clear h537
      refine kE 137 144 (133, false) (g4 140 hc533) h539 hB530 fun q540 h541 => ?_
      clear h539
      refine kE 138 145 (133, false) (g4 140 hc533) h541 hB530 fun q542 h543 => ?_
      clear h541
      refine kF 139 146 (133, false) (g4 140 hc533) h543 fun q544 h545 => ?_
      clear h543
      refine fE 140 147 (.pick (.tmp 140) (.const (.bool true)) (.tmp 146)) 4 (.bool ((i.part && (decide (i.minlot < (1 : Int)))) || (!(winB i.minlot 0 (maxLotI i))))) h545 (hr := fun _ hS => r_or (c := i.part && (decide (i.minlot < (1 : Int)))) (d := (!(winB i.minlot 0 (maxLotI i)))) (by kernel_rfl) (fun e548 => Bool.noConfusion (e548.symm.trans hc533))) fun q546 h547 => ?_
      clear h545
      exact ⟨h547.keep _ ⟨rfl, rfl, rfl, rfl, rfl, rfl, rfl, rfl, rfl, rfl, rfl, rfl, rfl, rfl, rfl, rfl, rfl, rfl, rfl, rfl, rfl, rfl, trivial⟩, hB530⟩
    ·
      refine fG 134 141 (.fieldAddr 29 (.tmp 1) 12) 0 (133, false) (.pointer (some ⟨b3, 12, none⟩)) (g2 140 hc533) h532 fun q549 h550 => ?_
      clear h532
      refine fG 135 142 (.load 2 (.tmp 141)) 2 (133, false) (.int .i64 i.minlot) (g2 140 hc533) h550 (hr := fun _ hS => r_loadC (b := b3) (v := .int .i64 i.minlot) hS 0 12 (by kernel_rfl) (by kernel_rfl) (by kernel_rfl)) fun q551 h552 => ?_
      clear h550
      refine fG 136 143 (.load 29 (.tmp 1)) 29 (133, false) (.agg #[.string i.ref, .int .i64 i.kind, .string i.sender, .string i.cpty, .int .i64 i.side, .string i.asset, .int .i64 i.qty, .int .i64 i.amt, .int .i64 i.tday, .int .i64 i.sday, .int .i64 i.prio, .bool i.part, .int .i64 i.minlot, .bool i.hold, .bool i.resv, .slice A i.links.length c]) (g2 140 hc533) h552 (hr := fun _ hS => r_loadS (b := b3) (vs := [.string i.ref, .int .i64 i.kind, .string i.sender, .string i.cpty, .int .i64 i.side, .string i.asset, .int .i64 i.qty, .int .i64 i.amt, .int .i64 i.tday, .int .i64 i.sday, .int .i64 i.prio, .bool i.part, .int .i64 i.minlot, .bool i.hold, .bool i.resv, .slice A i.links.length c]) hS 0 0 (by kernel_rfl) (by kernel_rfl) (by kernel_rfl)) fun q553 h554 => ?_
      clear h552
      refine stC (i := 137) (d := 144) (op := Op.call { callee := Callee.value (Operand.func 47), args := #[Operand.tmp 143], argTypes := #[29] }) (ty := 2) (g := (some (133, false))) (f := 47) (args := #[.agg #[.string i.ref, .int .i64 i.kind, .string i.sender, .string i.cpty, .int .i64 i.side, .string i.asset, .int .i64 i.qty, .int .i64 i.amt, .int .i64 i.tday, .int .i64 i.sday, .int .i64 i.prio, .bool i.part, .int .i64 i.minlot, .bool i.hold, .bool i.resv, .slice A i.links.length c]]) (w1 := w528) h554 (by kernel_rfl) (by kernel_rfl) (by kernel_rfl) (g2 140 hc533) (by kernel_rfl) (c47 i A c w528) ?_
      rintro _ w557 ⟨rfl, hb558⟩
      have hB559 := hB530.call hb558
      refine ⟨_, rfl, hB559, fun q555 h556 => ?_⟩
      clear h554 hB530 hb558
      refine stC (i := 138) (d := 145) (op := Op.call { callee := Callee.value (Operand.func 46), args := #[Operand.tmp 142, Operand.const (Value.int IntKind.i64 0), Operand.tmp 144], argTypes := #[2, 2, 2] }) (ty := 4) (g := (some (133, false))) (f := 46) (args := #[.int .i64 i.minlot, .int .i64 0, .int .i64 (maxLotI i)]) (w1 := w557) h556 (by kernel_rfl) (by kernel_rfl) (by kernel_rfl) (g2 140 hc533) (by kernel_rfl) (c46 i.minlot 0 (maxLotI i) w557) ?_
      rintro _ w562 ⟨rfl, hb563⟩
      have hB564 := hB559.call hb563
      refine ⟨_, rfl, hB564, fun q560 h561 => ?_⟩
      clear h556 hB559 hb563
      refine fG 139 146 (.unOp .not 4 (.tmp 145)) 4 (133, false) (.bool (!(winB i.minlot 0 (maxLotI i)))) (g2 140 hc533) h561 fun q565 h566 => ?_
      clear h561
      refine fE 140 147 (.pick (.tmp 140) (.const (.bool true)) (.tmp 146)) 4 (.bool ((i.part && (decide (i.minlot < (1 : Int)))) || (!(winB i.minlot 0 (maxLotI i))))) h566 (hr := fun _ hS => r_or (c := i.part && (decide (i.minlot < (1 : Int)))) (d := (!(winB i.minlot 0 (maxLotI i)))) (by kernel_rfl) (fun _ => by kernel_rfl)) fun q567 h568 => ?_
      clear h566
      exact ⟨h568.keep _ ⟨rfl, rfl, rfl, rfl, rfl, rfl, rfl, rfl, rfl, rfl, rfl, rfl, rfl, rfl, rfl, rfl, rfl, rfl, rfl, rfl, rfl, rfl, trivial⟩, hB564⟩
  rintro q569 w570 ⟨h571, hB572⟩
  refine fE 141 148 (.build 71 #[(0, .tmp 147), (1, .const (.int .i64 2))]) 71 (.agg #[.bool ((i.part && (decide (i.minlot < (1 : Int)))) || (!(winB i.minlot 0 (maxLotI i)))), .int .i64 2]) h571 fun q573 h574 => ?_
  clear h571
  refine fE 144 151 (.move (.tmp 150)) 4 (.bool i.hold) h574 fun q575 h576 => ?_
  clear h574
  refine wpO_cut [(145, true), (146, false), (147, true)] [(148, true), (151, true), (152, true), (153, true), (154, true), (155, true), (156, true), (157, true), (158, true), (159, true), (160, true), (161, true), (163, false), (164, true), (165, true), (166, true), (167, true), (168, true), (169, true), (170, true), (176, false), (177, false), (178, true)] (fun qa qw => Fr 225 [(154, .bool (i.hold && (isCol i))), (148, .agg #[.bool ((i.part && (decide (i.minlot < (1 : Int)))) || (!(winB i.minlot 0 (maxLotI i)))), .int .i64 2]), (132, .agg #[.bool (i.part && (!(isSec i))), .int .i64 3]), (124, .agg #[.bool ((!(winB i.prio 0 2)) || ((isCol i) && (i.prio != (0 : Int)))), .int .i64 2]), (110, .agg #[.bool (((isSec i) && (!(winB i.tday 0 i.sday))) || ((!(isSec i)) && (i.tday != (0 : Int)))), .int .i64 28]), (89, .agg #[.bool (!(winB i.sday 0 73048)), .int .i64 28]), (84, .agg #[.bool (!(bndB i.amt ((i.kind == (0 : Int)) || (i.kind == (1 : Int))))), .int .i64 2]), (71, .agg #[.bool (!(bndB i.qty (i.kind != (0 : Int)))), .int .i64 2]), (63, .agg #[.bool (!(assetB i)), .int .i64 6]), (59, .agg #[.bool ((!(isSec i)) && (i.side != (0 : Int))), .int .i64 3]), (50, .agg #[.bool (!(winB i.side 0 1)), .int .i64 11]), (39, .agg #[.bool ((!(isCol i)) && (!(memB i.cpty))), .int .i64 6]), (29, .agg #[.bool ((isCol i) && (i.cpty.toList != (⟨#[]⟩ : ByteArray).toList)), .int .i64 3]), (21, .agg #[.bool (!(memB i.sender)), .int .i64 6]), (16, .agg #[.bool (!(rfB i.ref)), .int .i64 6]), (11, .agg #[.bool (!(winB i.kind 0 4)), .int .i64 11]), (182, .agg #[.bool (decide ((8 : Int) < ((i.links.length : Nat) : Int))), .int .i64 8]), (169, .agg #[.string i.ref, .int .i64 i.kind, .string i.sender, .string i.cpty, .int .i64 i.side, .string i.asset, .int .i64 i.qty, .int .i64 i.amt, .int .i64 i.tday, .int .i64 i.sday, .int .i64 i.prio, .bool i.part, .int .i64 i.minlot, .bool i.hold, .bool i.resv, .slice A i.links.length c]), (157, .bool i.resv), (45, .agg #[.bool (i.cpty.toList == i.sender.toList), .int .i64 1]), (2, .int .i64 0), (1, .pointer (some ⟨b3, 0, none⟩))] qa ∧ Bx w [(b3, .cells #[.string i.ref, .int .i64 i.kind, .string i.sender, .string i.cpty, .int .i64 i.side, .string i.asset, .int .i64 i.qty, .int .i64 i.amt, .int .i64 i.tday, .int .i64 i.sday, .int .i64 i.prio, .bool i.part, .int .i64 i.minlot, .bool i.hold, .bool i.resv, .slice A i.links.length c] 29 (0, 0))] qw) ?_ ?_
  ·
    rcases Bool.eq_false_or_eq_true i.hold with hc577 | hc577
    ·
      refine fG 145 152 (.load 29 (.tmp 1)) 29 (144, true) (.agg #[.string i.ref, .int .i64 i.kind, .string i.sender, .string i.cpty, .int .i64 i.side, .string i.asset, .int .i64 i.qty, .int .i64 i.amt, .int .i64 i.tday, .int .i64 i.sday, .int .i64 i.prio, .bool i.part, .int .i64 i.minlot, .bool i.hold, .bool i.resv, .slice A i.links.length c]) (g1 151 hc577) h576 (hr := fun _ hS => r_loadS (b := b3) (vs := [.string i.ref, .int .i64 i.kind, .string i.sender, .string i.cpty, .int .i64 i.side, .string i.asset, .int .i64 i.qty, .int .i64 i.amt, .int .i64 i.tday, .int .i64 i.sday, .int .i64 i.prio, .bool i.part, .int .i64 i.minlot, .bool i.hold, .bool i.resv, .slice A i.links.length c]) hS 0 0 (by kernel_rfl) (by kernel_rfl) (by kernel_rfl)) fun q578 h579 => ?_
      clear h576
      refine stC (i := 146) (d := 153) (op := Op.call { callee := Callee.value (Operand.func 42), args := #[Operand.tmp 152], argTypes := #[29] }) (ty := 4) (g := (some (144, true))) (f := 42) (args := #[.agg #[.string i.ref, .int .i64 i.kind, .string i.sender, .string i.cpty, .int .i64 i.side, .string i.asset, .int .i64 i.qty, .int .i64 i.amt, .int .i64 i.tday, .int .i64 i.sday, .int .i64 i.prio, .bool i.part, .int .i64 i.minlot, .bool i.hold, .bool i.resv, .slice A i.links.length c]]) (w1 := w570) h579 (by kernel_rfl) (by kernel_rfl) (by kernel_rfl) (g1 151 hc577) (by kernel_rfl) (c42 i A c w570) ?_
      rintro _ w582 ⟨rfl, hb583⟩
      have hB584 := hB572.call hb583
      refine ⟨_, rfl, hB584, fun q580 h581 => ?_⟩
      clear h579 hB572 hb583
      refine fE 147 154 (.pick (.tmp 151) (.tmp 153) (.const (.bool false))) 4 (.bool (i.hold && (isCol i))) h581 (hr := fun _ hS => r_and (c := i.hold) (d := (isCol i)) (by kernel_rfl) (fun _ => by kernel_rfl)) fun q585 h586 => ?_
      clear h581
      exact ⟨h586.keep _ ⟨rfl, rfl, rfl, rfl, rfl, rfl, rfl, rfl, rfl, rfl, rfl, rfl, rfl, rfl, rfl, rfl, rfl, rfl, rfl, rfl, rfl, rfl, trivial⟩, hB584⟩
    ·
      refine kF 145 152 (144, true) (g3 151 hc577) h576 fun q587 h588 => ?_
      clear h576
      refine kE 146 153 (144, true) (g3 151 hc577) h588 hB572 fun q589 h590 => ?_
      clear h588
      refine fE 147 154 (.pick (.tmp 151) (.tmp 153) (.const (.bool false))) 4 (.bool (i.hold && (isCol i))) h590 (hr := fun _ hS => r_and (c := i.hold) (d := (isCol i)) (by kernel_rfl) (fun e593 => Bool.noConfusion (e593.symm.trans hc577))) fun q591 h592 => ?_
      clear h590
      exact ⟨h592.keep _ ⟨rfl, rfl, rfl, rfl, rfl, rfl, rfl, rfl, rfl, rfl, rfl, rfl, rfl, rfl, rfl, rfl, rfl, rfl, rfl, rfl, rfl, rfl, trivial⟩, hB572⟩
  rintro q594 w595 ⟨h596, hB597⟩
  refine fE 148 155 (.build 71 #[(0, .tmp 154), (1, .const (.int .i64 3))]) 71 (.agg #[.bool (i.hold && (isCol i)), .int .i64 3]) h596 fun q598 h599 => ?_
  clear h596
  refine fE 151 158 (.move (.tmp 157)) 4 (.bool i.resv) h599 fun q600 h601 => ?_
  clear h599
  refine wpO_cut [(152, true), (153, true), (154, true), (155, true), (156, true), (157, true), (158, true), (159, true), (160, true)] [(161, true), (163, false), (164, true), (165, true), (166, true), (167, true), (168, true), (169, true), (170, true), (176, false), (177, false), (178, true)] (fun qa qw => Fr 225 [(167, .bool (i.resv && ((i.kind != (0 : Int)) || (i.prio != (2 : Int))))), (155, .agg #[.bool (i.hold && (isCol i)), .int .i64 3]), (148, .agg #[.bool ((i.part && (decide (i.minlot < (1 : Int)))) || (!(winB i.minlot 0 (maxLotI i)))), .int .i64 2]), (132, .agg #[.bool (i.part && (!(isSec i))), .int .i64 3]), (124, .agg #[.bool ((!(winB i.prio 0 2)) || ((isCol i) && (i.prio != (0 : Int)))), .int .i64 2]), (110, .agg #[.bool (((isSec i) && (!(winB i.tday 0 i.sday))) || ((!(isSec i)) && (i.tday != (0 : Int)))), .int .i64 28]), (89, .agg #[.bool (!(winB i.sday 0 73048)), .int .i64 28]), (84, .agg #[.bool (!(bndB i.amt ((i.kind == (0 : Int)) || (i.kind == (1 : Int))))), .int .i64 2]), (71, .agg #[.bool (!(bndB i.qty (i.kind != (0 : Int)))), .int .i64 2]), (63, .agg #[.bool (!(assetB i)), .int .i64 6]), (59, .agg #[.bool ((!(isSec i)) && (i.side != (0 : Int))), .int .i64 3]), (50, .agg #[.bool (!(winB i.side 0 1)), .int .i64 11]), (39, .agg #[.bool ((!(isCol i)) && (!(memB i.cpty))), .int .i64 6]), (29, .agg #[.bool ((isCol i) && (i.cpty.toList != (⟨#[]⟩ : ByteArray).toList)), .int .i64 3]), (21, .agg #[.bool (!(memB i.sender)), .int .i64 6]), (16, .agg #[.bool (!(rfB i.ref)), .int .i64 6]), (11, .agg #[.bool (!(winB i.kind 0 4)), .int .i64 11]), (182, .agg #[.bool (decide ((8 : Int) < ((i.links.length : Nat) : Int))), .int .i64 8]), (169, .agg #[.string i.ref, .int .i64 i.kind, .string i.sender, .string i.cpty, .int .i64 i.side, .string i.asset, .int .i64 i.qty, .int .i64 i.amt, .int .i64 i.tday, .int .i64 i.sday, .int .i64 i.prio, .bool i.part, .int .i64 i.minlot, .bool i.hold, .bool i.resv, .slice A i.links.length c]), (45, .agg #[.bool (i.cpty.toList == i.sender.toList), .int .i64 1]), (2, .int .i64 0), (1, .pointer (some ⟨b3, 0, none⟩))] qa ∧ Bx w [(b3, .cells #[.string i.ref, .int .i64 i.kind, .string i.sender, .string i.cpty, .int .i64 i.side, .string i.asset, .int .i64 i.qty, .int .i64 i.amt, .int .i64 i.tday, .int .i64 i.sday, .int .i64 i.prio, .bool i.part, .int .i64 i.minlot, .bool i.hold, .bool i.resv, .slice A i.links.length c] 29 (0, 0))] qw) ?_ ?_
  ·
    rcases Bool.eq_false_or_eq_true i.resv with hc602 | hc602
    ·
      refine fG 152 159 (.fieldAddr 29 (.tmp 1) 1) 0 (151, true) (.pointer (some ⟨b3, 1, none⟩)) (g1 158 hc602) h601 fun q603 h604 => ?_
      clear h601
      refine fG 153 160 (.load 3 (.tmp 159)) 3 (151, true) (.int .i64 i.kind) (g1 158 hc602) h604 (hr := fun _ hS => r_loadC (b := b3) (v := .int .i64 i.kind) hS 0 1 (by kernel_rfl) (by kernel_rfl) (by kernel_rfl)) fun q605 h606 => ?_
      clear h604
      refine fG 154 161 (.binOp .neq 3 (.tmp 160) (.const (.int .i64 0)) 3) 4 (151, true) (.bool (i.kind != (0 : Int))) (g1 158 hc602) h606 fun q607 h608 => ?_
      clear h606
      refine fG 155 162 (.move (.tmp 161)) 4 (151, true) (.bool (i.kind != (0 : Int))) (g1 158 hc602) h608 fun q609 h610 => ?_
      clear h608
      refine wpO_cut [(156, true), (157, true), (158, true), (159, true)] [(160, true)] (fun qa qw => Fr 225 [(166, .bool ((i.kind != (0 : Int)) || (i.prio != (2 : Int)))), (158, .bool i.resv), (155, .agg #[.bool (i.hold && (isCol i)), .int .i64 3]), (148, .agg #[.bool ((i.part && (decide (i.minlot < (1 : Int)))) || (!(winB i.minlot 0 (maxLotI i)))), .int .i64 2]), (132, .agg #[.bool (i.part && (!(isSec i))), .int .i64 3]), (124, .agg #[.bool ((!(winB i.prio 0 2)) || ((isCol i) && (i.prio != (0 : Int)))), .int .i64 2]), (110, .agg #[.bool (((isSec i) && (!(winB i.tday 0 i.sday))) || ((!(isSec i)) && (i.tday != (0 : Int)))), .int .i64 28]), (89, .agg #[.bool (!(winB i.sday 0 73048)), .int .i64 28]), (84, .agg #[.bool (!(bndB i.amt ((i.kind == (0 : Int)) || (i.kind == (1 : Int))))), .int .i64 2]), (71, .agg #[.bool (!(bndB i.qty (i.kind != (0 : Int)))), .int .i64 2]), (63, .agg #[.bool (!(assetB i)), .int .i64 6]), (59, .agg #[.bool ((!(isSec i)) && (i.side != (0 : Int))), .int .i64 3]), (50, .agg #[.bool (!(winB i.side 0 1)), .int .i64 11]), (39, .agg #[.bool ((!(isCol i)) && (!(memB i.cpty))), .int .i64 6]), (29, .agg #[.bool ((isCol i) && (i.cpty.toList != (⟨#[]⟩ : ByteArray).toList)), .int .i64 3]), (21, .agg #[.bool (!(memB i.sender)), .int .i64 6]), (16, .agg #[.bool (!(rfB i.ref)), .int .i64 6]), (11, .agg #[.bool (!(winB i.kind 0 4)), .int .i64 11]), (182, .agg #[.bool (decide ((8 : Int) < ((i.links.length : Nat) : Int))), .int .i64 8]), (169, .agg #[.string i.ref, .int .i64 i.kind, .string i.sender, .string i.cpty, .int .i64 i.side, .string i.asset, .int .i64 i.qty, .int .i64 i.amt, .int .i64 i.tday, .int .i64 i.sday, .int .i64 i.prio, .bool i.part, .int .i64 i.minlot, .bool i.hold, .bool i.resv, .slice A i.links.length c]), (45, .agg #[.bool (i.cpty.toList == i.sender.toList), .int .i64 1]), (2, .int .i64 0), (1, .pointer (some ⟨b3, 0, none⟩))] qa ∧ Bx w [(b3, .cells #[.string i.ref, .int .i64 i.kind, .string i.sender, .string i.cpty, .int .i64 i.side, .string i.asset, .int .i64 i.qty, .int .i64 i.amt, .int .i64 i.tday, .int .i64 i.sday, .int .i64 i.prio, .bool i.part, .int .i64 i.minlot, .bool i.hold, .bool i.resv, .slice A i.links.length c] 29 (0, 0))] qw) ?_ ?_
      ·
        rcases Bool.eq_false_or_eq_true (i.kind != (0 : Int)) with hc611 | hc611
        ·
          refine kF 156 163 (155, false) (g4 162 hc611) h610 fun q612 h613 => ?_
          clear h610
          refine kF 157 164 (155, false) (g4 162 hc611) h613 fun q614 h615 => ?_
          clear h613
          refine kF 158 165 (155, false) (g4 162 hc611) h615 fun q616 h617 => ?_
          clear h615
          refine fG 159 166 (.pick (.tmp 162) (.const (.bool true)) (.tmp 165)) 4 (151, true) (.bool ((i.kind != (0 : Int)) || (i.prio != (2 : Int)))) (g1 158 hc602) h617 (hr := fun _ hS => r_or (c := (i.kind != (0 : Int))) (d := (i.prio != (2 : Int))) (by kernel_rfl) (fun e620 => Bool.noConfusion (e620.symm.trans hc611))) fun q618 h619 => ?_
          clear h617
          exact ⟨h619.keep _ ⟨rfl, rfl, rfl, rfl, rfl, rfl, rfl, rfl, rfl, rfl, rfl, rfl, rfl, rfl, rfl, rfl, rfl, rfl, rfl, rfl, rfl, rfl, rfl, trivial⟩, hB597⟩
        ·
          refine fG 156 163 (.fieldAddr 29 (.tmp 1) 10) 0 (155, false) (.pointer (some ⟨b3, 10, none⟩)) (g2 162 hc611) h610 fun q621 h622 => ?_
          clear h610
          refine fG 157 164 (.load 3 (.tmp 163)) 3 (155, false) (.int .i64 i.prio) (g2 162 hc611) h622 (hr := fun _ hS => r_loadC (b := b3) (v := .int .i64 i.prio) hS 0 10 (by kernel_rfl) (by kernel_rfl) (by kernel_rfl)) fun q623 h624 => ?_
          clear h622
          refine fG 158 165 (.binOp .neq 3 (.tmp 164) (.const (.int .i64 2)) 3) 4 (155, false) (.bool (i.prio != (2 : Int))) (g2 162 hc611) h624 fun q625 h626 => ?_
          clear h624
          refine fG 159 166 (.pick (.tmp 162) (.const (.bool true)) (.tmp 165)) 4 (151, true) (.bool ((i.kind != (0 : Int)) || (i.prio != (2 : Int)))) (g1 158 hc602) h626 (hr := fun _ hS => r_or (c := (i.kind != (0 : Int))) (d := (i.prio != (2 : Int))) (by kernel_rfl) (fun _ => by kernel_rfl)) fun q627 h628 => ?_
          clear h626
          exact ⟨h628.keep _ ⟨rfl, rfl, rfl, rfl, rfl, rfl, rfl, rfl, rfl, rfl, rfl, rfl, rfl, rfl, rfl, rfl, rfl, rfl, rfl, rfl, rfl, rfl, rfl, trivial⟩, hB597⟩
      rintro q629 w630 ⟨h631, hB632⟩
      refine fE 160 167 (.pick (.tmp 158) (.tmp 166) (.const (.bool false))) 4 (.bool (i.resv && ((i.kind != (0 : Int)) || (i.prio != (2 : Int))))) h631 (hr := fun _ hS => r_and (c := i.resv) (d := ((i.kind != (0 : Int)) || (i.prio != (2 : Int)))) (by kernel_rfl) (fun _ => by kernel_rfl)) fun q633 h634 => ?_
      clear h631
      exact ⟨h634.keep _ ⟨rfl, rfl, rfl, rfl, rfl, rfl, rfl, rfl, rfl, rfl, rfl, rfl, rfl, rfl, rfl, rfl, rfl, rfl, rfl, rfl, rfl, rfl, trivial⟩, hB632⟩
    ·
      refine kF 152 159 (151, true) (g3 158 hc602) h601 fun q635 h636 => ?_
      clear h601
      refine kF 153 160 (151, true) (g3 158 hc602) h636 fun q637 h638 => ?_
      clear h636
      refine kF 154 161 (151, true) (g3 158 hc602) h638 fun q639 h640 => ?_
      clear h638
      refine kF 155 162 (151, true) (g3 158 hc602) h640 fun q641 h642 => ?_
      clear h640
      refine kF 156 163 (155, false) (g0 162) h642 fun q643 h644 => ?_
      clear h642
      refine kF 157 164 (155, false) (g0 162) h644 fun q645 h646 => ?_
      clear h644
      refine kF 158 165 (155, false) (g0 162) h646 fun q647 h648 => ?_
      clear h646
      refine kF 159 166 (151, true) (g3 158 hc602) h648 fun q649 h650 => ?_
      clear h648
      refine fE 160 167 (.pick (.tmp 158) (.tmp 166) (.const (.bool false))) 4 (.bool (i.resv && ((i.kind != (0 : Int)) || (i.prio != (2 : Int))))) h650 (hr := fun _ hS => r_and (c := i.resv) (d := ((i.kind != (0 : Int)) || (i.prio != (2 : Int)))) (by kernel_rfl) (fun e653 => Bool.noConfusion (e653.symm.trans hc602))) fun q651 h652 => ?_
      clear h650
      exact ⟨h652.keep _ ⟨rfl, rfl, rfl, rfl, rfl, rfl, rfl, rfl, rfl, rfl, rfl, rfl, rfl, rfl, rfl, rfl, rfl, rfl, rfl, rfl, rfl, rfl, trivial⟩, hB597⟩
  rintro q654 w655 ⟨h656, hB657⟩
  refine fE 161 168 (.build 71 #[(0, .tmp 167), (1, .const (.int .i64 3))]) 71 (.agg #[.bool (i.resv && ((i.kind != (0 : Int)) || (i.prio != (2 : Int)))), .int .i64 3]) h656 fun q658 h659 => ?_
  clear h656
  refine stC (i := 163) (d := 170) (op := Op.call { callee := Callee.value (Operand.func 42), args := #[Operand.tmp 169], argTypes := #[29] }) (ty := 4) (g := none) (f := 42) (args := #[.agg #[.string i.ref, .int .i64 i.kind, .string i.sender, .string i.cpty, .int .i64 i.side, .string i.asset, .int .i64 i.qty, .int .i64 i.amt, .int .i64 i.tday, .int .i64 i.sday, .int .i64 i.prio, .bool i.part, .int .i64 i.minlot, .bool i.hold, .bool i.resv, .slice A i.links.length c]]) (w1 := w655) h659 (by kernel_rfl) (by kernel_rfl) (by kernel_rfl) gok_none (by kernel_rfl) (c42 i A c w655) ?_
  rintro _ w662 ⟨rfl, hb663⟩
  have hB664 := hB657.call hb663
  refine ⟨_, rfl, hB664, fun q660 h661 => ?_⟩
  clear h659 hB657 hb663
  refine fE 164 171 (.move (.tmp 170)) 4 (.bool (isCol i)) h661 fun q665 h666 => ?_
  clear h661
  refine wpO_cut [(165, true), (166, true), (167, true), (168, true), (169, true)] [(170, true), (176, false), (177, false), (178, true)] (fun qa qw => Fr 225 [(176, .bool ((isCol i) && (decide ((0 : Int) < ((i.links.length : Nat) : Int))))), (168, .agg #[.bool (i.resv && ((i.kind != (0 : Int)) || (i.prio != (2 : Int)))), .int .i64 3]), (155, .agg #[.bool (i.hold && (isCol i)), .int .i64 3]), (148, .agg #[.bool ((i.part && (decide (i.minlot < (1 : Int)))) || (!(winB i.minlot 0 (maxLotI i)))), .int .i64 2]), (132, .agg #[.bool (i.part && (!(isSec i))), .int .i64 3]), (124, .agg #[.bool ((!(winB i.prio 0 2)) || ((isCol i) && (i.prio != (0 : Int)))), .int .i64 2]), (110, .agg #[.bool (((isSec i) && (!(winB i.tday 0 i.sday))) || ((!(isSec i)) && (i.tday != (0 : Int)))), .int .i64 28]), (89, .agg #[.bool (!(winB i.sday 0 73048)), .int .i64 28]), (84, .agg #[.bool (!(bndB i.amt ((i.kind == (0 : Int)) || (i.kind == (1 : Int))))), .int .i64 2]), (71, .agg #[.bool (!(bndB i.qty (i.kind != (0 : Int)))), .int .i64 2]), (63, .agg #[.bool (!(assetB i)), .int .i64 6]), (59, .agg #[.bool ((!(isSec i)) && (i.side != (0 : Int))), .int .i64 3]), (50, .agg #[.bool (!(winB i.side 0 1)), .int .i64 11]), (39, .agg #[.bool ((!(isCol i)) && (!(memB i.cpty))), .int .i64 6]), (29, .agg #[.bool ((isCol i) && (i.cpty.toList != (⟨#[]⟩ : ByteArray).toList)), .int .i64 3]), (21, .agg #[.bool (!(memB i.sender)), .int .i64 6]), (16, .agg #[.bool (!(rfB i.ref)), .int .i64 6]), (11, .agg #[.bool (!(winB i.kind 0 4)), .int .i64 11]), (182, .agg #[.bool (decide ((8 : Int) < ((i.links.length : Nat) : Int))), .int .i64 8]), (45, .agg #[.bool (i.cpty.toList == i.sender.toList), .int .i64 1]), (2, .int .i64 0), (1, .pointer (some ⟨b3, 0, none⟩))] qa ∧ Bx w [(b3, .cells #[.string i.ref, .int .i64 i.kind, .string i.sender, .string i.cpty, .int .i64 i.side, .string i.asset, .int .i64 i.qty, .int .i64 i.amt, .int .i64 i.tday, .int .i64 i.sday, .int .i64 i.prio, .bool i.part, .int .i64 i.minlot, .bool i.hold, .bool i.resv, .slice A i.links.length c] 29 (0, 0))] qw) ?_ ?_
  ·
    rcases Bool.eq_false_or_eq_true (isCol i) with hc667 | hc667
    ·
      refine fG 165 172 (.fieldAddr 29 (.tmp 1) 15) 0 (164, true) (.pointer (some ⟨b3, 15, none⟩)) (g1 171 hc667) h666 fun q668 h669 => ?_
      clear h666
      refine fG 166 173 (.load 27 (.tmp 172)) 27 (164, true) (.slice A i.links.length c) (g1 171 hc667) h669 (hr := fun _ hS => r_loadC (b := b3) (v := .slice A i.links.length c) hS 0 15 (by kernel_rfl) (by kernel_rfl) (by kernel_rfl)) fun q670 h671 => ?_
      clear h669
      refine fG 167 174 (.call { callee := .builtin .len, args := #[.tmp 173], argTypes := #[27] }) 3 (164, true) (.int .i64 ((i.links.length : Nat) : Int)) (g1 171 hc667) h671 fun q672 h673 => ?_
      clear h671
      refine fG 168 175 (.binOp .gtr 3 (.tmp 174) (.const (.int .i64 0)) 3) 4 (164, true) (.bool (decide ((0 : Int) < ((i.links.length : Nat) : Int)))) (g1 171 hc667) h673 fun q674 h675 => ?_
      clear h673
      refine fE 169 176 (.pick (.tmp 171) (.tmp 175) (.const (.bool false))) 4 (.bool ((isCol i) && (decide ((0 : Int) < ((i.links.length : Nat) : Int))))) h675 (hr := fun _ hS => r_and (c := isCol i) (d := (decide ((0 : Int) < ((i.links.length : Nat) : Int)))) (by kernel_rfl) (fun _ => by kernel_rfl)) fun q676 h677 => ?_
      clear h675
      exact ⟨h677.keep _ ⟨rfl, rfl, rfl, rfl, rfl, rfl, rfl, rfl, rfl, rfl, rfl, rfl, rfl, rfl, rfl, rfl, rfl, rfl, rfl, rfl, rfl, rfl, trivial⟩, hB664⟩
    ·
      refine kF 165 172 (164, true) (g3 171 hc667) h666 fun q678 h679 => ?_
      clear h666
      refine kF 166 173 (164, true) (g3 171 hc667) h679 fun q680 h681 => ?_
      clear h679
      refine kF 167 174 (164, true) (g3 171 hc667) h681 fun q682 h683 => ?_
      clear h681
      refine kF 168 175 (164, true) (g3 171 hc667) h683 fun q684 h685 => ?_
      clear h683
      refine fE 169 176 (.pick (.tmp 171) (.tmp 175) (.const (.bool false))) 4 (.bool ((isCol i) && (decide ((0 : Int) < ((i.links.length : Nat) : Int))))) h685 (hr := fun _ hS => r_and (c := isCol i) (d := (decide ((0 : Int) < ((i.links.length : Nat) : Int)))) (by kernel_rfl) (fun e688 => Bool.noConfusion (e688.symm.trans hc667))) fun q686 h687 => ?_
      clear h685
      exact ⟨h687.keep _ ⟨rfl, rfl, rfl, rfl, rfl, rfl, rfl, rfl, rfl, rfl, rfl, rfl, rfl, rfl, rfl, rfl, rfl, rfl, rfl, rfl, rfl, rfl, trivial⟩, hB664⟩
  rintro q689 w690 ⟨h691, hB692⟩
  refine fE 170 177 (.build 71 #[(0, .tmp 176), (1, .const (.int .i64 3))]) 71 (.agg #[.bool ((isCol i) && (decide ((0 : Int) < ((i.links.length : Nat) : Int)))), .int .i64 3]) h691 fun q693 h694 => ?_
  clear h691
  refine stA (i := 176) (d := 183) (op := Op.buildSlice 86 20 #[(0, Operand.tmp 11), (1, Operand.tmp 16), (2, Operand.tmp 21), (3, Operand.tmp 29), (4, Operand.tmp 39), (5, Operand.tmp 45), (6, Operand.tmp 50), (7, Operand.tmp 59), (8, Operand.tmp 63), (9, Operand.tmp 71), (10, Operand.tmp 84), (11, Operand.tmp 89), (12, Operand.tmp 110), (13, Operand.tmp 124), (14, Operand.tmp 132), (15, Operand.tmp 148), (16, Operand.tmp 155), (17, Operand.tmp 168), (18, Operand.tmp 177), (19, Operand.tmp 182)]) (ty := 86) (g := none) (mk := fun b => .slice (some ⟨b, 0, none⟩) 20 20) (o := .cells #[.bool (!(winB i.kind 0 4)), .int .i64 11, .bool (!(rfB i.ref)), .int .i64 6, .bool (!(memB i.sender)), .int .i64 6, .bool ((isCol i) && (i.cpty.toList != (⟨#[]⟩ : ByteArray).toList)), .int .i64 3, .bool ((!(isCol i)) && (!(memB i.cpty))), .int .i64 6, .bool (i.cpty.toList == i.sender.toList), .int .i64 1, .bool (!(winB i.side 0 1)), .int .i64 11, .bool ((!(isSec i)) && (i.side != (0 : Int))), .int .i64 3, .bool (!(assetB i)), .int .i64 6, .bool (!(bndB i.qty (i.kind != (0 : Int)))), .int .i64 2, .bool (!(bndB i.amt ((i.kind == (0 : Int)) || (i.kind == (1 : Int))))), .int .i64 2, .bool (!(winB i.sday 0 73048)), .int .i64 28, .bool (((isSec i) && (!(winB i.tday 0 i.sday))) || ((!(isSec i)) && (i.tday != (0 : Int)))), .int .i64 28, .bool ((!(winB i.prio 0 2)) || ((isCol i) && (i.prio != (0 : Int)))), .int .i64 2, .bool (i.part && (!(isSec i))), .int .i64 3, .bool ((i.part && (decide (i.minlot < (1 : Int)))) || (!(winB i.minlot 0 (maxLotI i)))), .int .i64 2, .bool (i.hold && (isCol i)), .int .i64 3, .bool (i.resv && ((i.kind != (0 : Int)) || (i.prio != (2 : Int)))), .int .i64 3, .bool ((isCol i) && (decide ((0 : Int) < ((i.links.length : Nat) : Int)))), .int .i64 3, .bool (decide ((8 : Int) < ((i.links.length : Nat) : Int))), .int .i64 8] 71 (0, 0)) h694 (by kernel_rfl) (by kernel_rfl) (by kernel_rfl) gok_none (fun _ => by kernel_rfl) hB692 (fun _ _ hq => hq.tail) (fun b697 w698 hB699 hN q695 h696 => ?_)
  clear h694 hB692 hN
  refine stC (i := 177) (d := 184) (op := Op.call { callee := Callee.value (Operand.func 39), args := #[Operand.tmp 183], argTypes := #[86] }) (ty := 26) (g := none) (f := 39) (args := #[.slice (some ⟨b697, 0, none⟩) 20 20]) (w1 := w698) h696 (by kernel_rfl) (by kernel_rfl) (by kernel_rfl) gok_none (by kernel_rfl) (c39 (rules14 i) (some ⟨b697, 0, none⟩) 20 w698 (Nat.le_of_ble_eq_true rfl) (show Rd _ _ (rulec (rules14 i)) from Rd.of_blk (hB699.at 0 rfl))) ?_
  rintro _ w702 ⟨rfl, hb703⟩
  have hB704 := hB699.call hb703
  refine ⟨_, rfl, hB704.tail, fun q700 h701 => ?_⟩
  clear h696 hB699 hb703
  refine fE 178 3 (.assign (.tmp 184)) 26 (.int .i64 (firstE (rules14 i))) h701 fun q705 h706 => ?_
  clear h701
  refine wpO_end ?_
  have h707 := h706.keep [(3, .int .i64 (firstE (rules14 i))), (2, .int .i64 0), (1, .pointer (some ⟨b3, 0, none⟩))] ⟨rfl, rfl, rfl, trivial⟩
  clear h706
  refine then_n ?_
  refine c_seq (by kernel_rfl) ?_
  refine c_seq (by kernel_rfl) ?_
  refine reg_plain [(0, false), (1, false)] (by kernel_rfl) (by kernel_rfl) ?_
  refine eE 0 185 (.move (.tmp 3)) 26 (.int .i64 (firstE (rules14 i))) h707 fun q708 h709 => ?_
  clear h707
  refine eE 1 186 (.binOp .neq 26 (.tmp 185) (.const (.int .i64 0)) 26) 4 (.bool (firstE (rules14 i) != (0 : Int))) h709 fun q710 h711 => ?_
  clear h709
  refine wpO_end ?_
  have h712 := h711.keep [(186, .bool (firstE (rules14 i) != (0 : Int))), (3, .int .i64 (firstE (rules14 i))), (2, .int .i64 0), (1, .pointer (some ⟨b3, 0, none⟩))] ⟨rfl, rfl, rfl, rfl, trivial⟩
  clear h711
  refine then_n ?_
  refine c_cond (t := 186) (b := (firstE (rules14 i) != (0 : Int))) h712 (by kernel_rfl) (by kernel_rfl) (fun hc713 => ?_) (fun hc713 => ?_)
  ·
    refine c_seq (by kernel_rfl) ?_
    refine reg_plain [(0, false), (1, false)] (by kernel_rfl) (by kernel_rfl) ?_
    refine eE 0 187 (.move (.tmp 3)) 26 (.int .i64 (firstE (rules14 i))) h712 fun q714 h715 => ?_
    clear h712
    refine eE 1 2 (.assign (.tmp 187)) 26 (.int .i64 (firstE (rules14 i))) h715 fun q716 h717 => ?_
    clear h715
    refine wpO_end ?_
    have h718 := h717.keep [(2, .int .i64 (firstE (rules14 i))), (1, .pointer (some ⟨b3, 0, none⟩))] ⟨rfl, rfl, trivial⟩
    clear h717
    refine then_n ?_
    refine c_ret (by kernel_rfl) ?_
    refine then_r ?_
    refine ret1 (t := 2) (v := .int .i64 (firstE (rules14 i))) h718 (by kernel_rfl) (by kernel_rfl) ?_
    exact ⟨ret_eq (congrArg (Value.int .i64) (cT (p := firstE (rules14 i)) (q := chkL i 0 i.links) hc713).symm), hB704.bel⟩
  ·
    refine c_skip (by kernel_rfl) ?_
    refine then_n ?_
    refine c_seq (by kernel_rfl) ?_
    refine c_seq (by kernel_rfl) ?_
    refine reg_plain [(0, false), (1, false), (2, false), (3, false)] (by kernel_rfl) (by kernel_rfl) ?_
    refine eE 0 188 (.fieldAddr 29 (.tmp 1) 15) 0 (.pointer (some ⟨b3, 15, none⟩)) h712 fun q719 h720 => ?_
    clear h712
    refine eE 1 189 (.load 27 (.tmp 188)) 27 (.slice A i.links.length c) h720 (hr := r_loadC (b := b3) (v := .slice A i.links.length c) hB704 1 15 (by kernel_rfl) (by kernel_rfl) (by kernel_rfl)) fun q721 h722 => ?_
    clear h720
    refine eE 2 190 (.call { callee := .builtin .len, args := #[.tmp 189], argTypes := #[27] }) 3 (.int .i64 ((i.links.length : Nat) : Int)) h722 fun q723 h724 => ?_
    clear h722
    refine eE 3 191 (.move (.const (.int .i64 0))) 3 (.int .i64 0) h724 fun q725 h726 => ?_
    clear h724
    refine wpO_end ?_
    have h727 := h726.keep [(191, .int .i64 0), (190, .int .i64 ((i.links.length : Nat) : Int)), (189, .slice A i.links.length c), (2, .int .i64 0), (1, .pointer (some ⟨b3, 0, none⟩))] ⟨rfl, rfl, rfl, rfl, rfl, trivial⟩
    clear h726
    refine then_n ?_
    refine c_block 0 (by kernel_rfl) ?_
    refine c_loop (by kernel_rfl) (fun qa qw => ∃ k : Nat, (k ≤ i.links.length) ∧ Fr 225 [(1, .pointer (some ⟨b3, 0, none⟩)), (189, .slice A i.links.length c), (190, .int .i64 ((i.links.length : Nat) : Int)), (191, .int .i64 ((k : Nat) : Int)), (2, .int .i64 0)] qa ∧ Bx w [(b697, .cells #[.bool (!(winB i.kind 0 4)), .int .i64 11, .bool (!(rfB i.ref)), .int .i64 6, .bool (!(memB i.sender)), .int .i64 6, .bool ((isCol i) && (i.cpty.toList != (⟨#[]⟩ : ByteArray).toList)), .int .i64 3, .bool ((!(isCol i)) && (!(memB i.cpty))), .int .i64 6, .bool (i.cpty.toList == i.sender.toList), .int .i64 1, .bool (!(winB i.side 0 1)), .int .i64 11, .bool ((!(isSec i)) && (i.side != (0 : Int))), .int .i64 3, .bool (!(assetB i)), .int .i64 6, .bool (!(bndB i.qty (i.kind != (0 : Int)))), .int .i64 2, .bool (!(bndB i.amt ((i.kind == (0 : Int)) || (i.kind == (1 : Int))))), .int .i64 2, .bool (!(winB i.sday 0 73048)), .int .i64 28, .bool (((isSec i) && (!(winB i.tday 0 i.sday))) || ((!(isSec i)) && (i.tday != (0 : Int)))), .int .i64 28, .bool ((!(winB i.prio 0 2)) || ((isCol i) && (i.prio != (0 : Int)))), .int .i64 2, .bool (i.part && (!(isSec i))), .int .i64 3, .bool ((i.part && (decide (i.minlot < (1 : Int)))) || (!(winB i.minlot 0 (maxLotI i)))), .int .i64 2, .bool (i.hold && (isCol i)), .int .i64 3, .bool (i.resv && ((i.kind != (0 : Int)) || (i.prio != (2 : Int)))), .int .i64 3, .bool ((isCol i) && (decide ((0 : Int) < ((i.links.length : Nat) : Int)))), .int .i64 3, .bool (decide ((8 : Int) < ((i.links.length : Nat) : Int))), .int .i64 8] 71 (0, 0)), (b3, .cells #[.string i.ref, .int .i64 i.kind, .string i.sender, .string i.cpty, .int .i64 i.side, .string i.asset, .int .i64 i.qty, .int .i64 i.amt, .int .i64 i.tday, .int .i64 i.sday, .int .i64 i.prio, .bool i.part, .int .i64 i.minlot, .bool i.hold, .bool i.resv, .slice A i.links.length c] 29 (0, 0))] qw ∧ (chkL i 0 i.links = chkL i k (i.links.drop k))) (fun qa _ => (((i.links.length : Int)) - intAt qa 191).toNat) ⟨0, Nat.zero_le _, h727.keep _ ⟨rfl, rfl, rfl, rfl, rfl, trivial⟩, hB704, rfl⟩ ?_
    rintro q728 w729 ⟨k, hk732, h730, hB731, hx734⟩
    have hm733 := h730.int (k := 191) (kd := .i64) (z := ((k : Nat) : Int)) rfl
    clear h727 hB704
    refine c_seq (by kernel_rfl) ?_
    refine reg_plain [(0, false)] (by kernel_rfl) (by kernel_rfl) ?_
    refine eE 0 192 (.binOp .lss 3 (.tmp 191) (.tmp 190) 3) 0 (.bool (decide (((k : Nat) : Int) < ((i.links.length : Nat) : Int)))) h730 fun q735 h736 => ?_
    clear h730
    refine wpO_end ?_
    refine then_n ?_
    refine c_seq (by kernel_rfl) ?_
    refine c_cond (t := 192) (b := decide (((k : Nat) : Int) < ((i.links.length : Nat) : Int))) h736 (by kernel_rfl) (by kernel_rfl) (fun hc737 => ?_) (fun hc737 => ?_)
    ·
      have hp738 : (((k : Nat) : Int) < ((i.links.length : Nat) : Int)) := of_decide_eq_true hc737
      have hlt : k < i.links.length := by omega
      obtain ⟨x, hx⟩ : ∃ x, i.links[k]? = some x := ⟨i.links[k], List.getElem?_eq_getElem hlt⟩
      obtain ⟨ad, hA, hE0⟩ := hr.el (k * 2) [.int .i64 x.t, .string x.r] (by simp) (lkc_el i.links k x hx)
      subst hA
      refine c_skip (by kernel_rfl) ?_
      refine then_n ?_
      refine c_seq (by kernel_rfl) ?_
      refine c_block 1 (by kernel_rfl) ?_
      refine c_seq (by kernel_rfl) ?_
      refine reg_plain [(0, false), (1, false), (2, false), (3, false), (4, false), (5, false)] (by kernel_rfl) (by kernel_rfl) ?_
      refine eE 0 193 (.move (.tmp 191)) 3 (.int .i64 ((k : Nat) : Int)) h736 fun q739 h740 => ?_
      clear h736
      refine eE 1 194 (.indexAddr 27 (.tmp 189) (.tmp 191)) 0 (.pointer (some ((ad.add (k * 2)).add 0))) h740 (hr := r_index0 (n := i.links.length) (c := c) (kd := .i64) (by kernel_rfl) (by kernel_rfl) hlt (by kernel_rfl)) fun q741 h742 => ?_
      clear h740
      refine eE 2 195 (.load 66 (.tmp 194)) 66 (.agg #[.int .i64 x.t, .string x.r]) h742 (hr := r_loadE (o := 0) (vs := [.int .i64 x.t, .string x.r]) (hE0.below hB731.bel) (by kernel_rfl) (by kernel_rfl) (by kernel_rfl)) fun q743 h744 => ?_
      clear h742
      refine stA (i := 3) (d := 5) (op := Op.alloc 66) (ty := 0) (g := none) (mk := fun b => .pointer (some ⟨b, 0, none⟩)) (o := .cells #[.int .i64 0, .string (⟨#[]⟩ : ByteArray)] 66 (0, 0)) h744 (by kernel_rfl) (by kernel_rfl) (by kernel_rfl) gok_none (fun _ => by kernel_rfl) hB731 (fun _ _ hq => trivial) (fun b747 w748 hB749 hN q745 h746 => ?_)
      clear h744 hB731 hN
      refine eE 4 4 (.assign (.tmp 193)) 3 (.int .i64 ((k : Nat) : Int)) h746 fun q750 h751 => ?_
      clear h746
      refine stWs (i := 5) (ty := 0) (t := 66) (x := Operand.tmp 5) (y := Operand.tmp 195) (g := none) 0 0 (b := b747) (T := 66) (cs := [.int .i64 0, .string (⟨#[]⟩ : ByteArray)]) (vs := [.int .i64 x.t, .string x.r]) (cs' := [.int .i64 x.t, .string x.r]) h751 (by kernel_rfl) (by kernel_rfl) gok_none hB749 (by kernel_rfl) (by kernel_rfl) (by kernel_rfl) (by kernel_rfl) (by kernel_rfl) (by kernel_rfl) (by kernel_rfl) (.inr fun _ _ => trivial) (fun w754 hB755 hT q752 h753 => ?_)
      replace hB755 : Bx w [(b747, .cells #[.int .i64 x.t, .string x.r] 66 (0, 0)), (b697, .cells #[.bool (!(winB i.kind 0 4)), .int .i64 11, .bool (!(rfB i.ref)), .int .i64 6, .bool (!(memB i.sender)), .int .i64 6, .bool ((isCol i) && (i.cpty.toList != (⟨#[]⟩ : ByteArray).toList)), .int .i64 3, .bool ((!(isCol i)) && (!(memB i.cpty))), .int .i64 6, .bool (i.cpty.toList == i.sender.toList), .int .i64 1, .bool (!(winB i.side 0 1)), .int .i64 11, .bool ((!(isSec i)) && (i.side != (0 : Int))), .int .i64 3, .bool (!(assetB i)), .int .i64 6, .bool (!(bndB i.qty (i.kind != (0 : Int)))), .int .i64 2, .bool (!(bndB i.amt ((i.kind == (0 : Int)) || (i.kind == (1 : Int))))), .int .i64 2, .bool (!(winB i.sday 0 73048)), .int .i64 28, .bool (((isSec i) && (!(winB i.tday 0 i.sday))) || ((!(isSec i)) && (i.tday != (0 : Int)))), .int .i64 28, .bool ((!(winB i.prio 0 2)) || ((isCol i) && (i.prio != (0 : Int)))), .int .i64 2, .bool (i.part && (!(isSec i))), .int .i64 3, .bool ((i.part && (decide (i.minlot < (1 : Int)))) || (!(winB i.minlot 0 (maxLotI i)))), .int .i64 2, .bool (i.hold && (isCol i)), .int .i64 3, .bool (i.resv && ((i.kind != (0 : Int)) || (i.prio != (2 : Int)))), .int .i64 3, .bool ((isCol i) && (decide ((0 : Int) < ((i.links.length : Nat) : Int)))), .int .i64 3, .bool (decide ((8 : Int) < ((i.links.length : Nat) : Int))), .int .i64 8] 71 (0, 0)), (b3, .cells #[.string i.ref, .int .i64 i.kind, .string i.sender, .string i.cpty, .int .i64 i.side, .string i.asset, .int .i64 i.qty, .int .i64 i.amt, .int .i64 i.tday, .int .i64 i.sday, .int .i64 i.prio, .bool i.part, .int .i64 i.minlot, .bool i.hold, .bool i.resv, .slice (some ad) i.links.length c] 29 (0, 0))] w754 := hB755
      clear h751 hB749
      clear hT
      refine wpO_end ?_
      refine then_n ?_
      refine c_seq (by kernel_rfl) ?_
      have hD756 := hB755.drew
      refine reg_draw (S := Bx w [(b747, .cells #[.int .i64 x.t, .string x.r] 66 (0, 0)), (b697, .cells #[.bool (!(winB i.kind 0 4)), .int .i64 11, .bool (!(rfB i.ref)), .int .i64 6, .bool (!(memB i.sender)), .int .i64 6, .bool ((isCol i) && (i.cpty.toList != (⟨#[]⟩ : ByteArray).toList)), .int .i64 3, .bool ((!(isCol i)) && (!(memB i.cpty))), .int .i64 6, .bool (i.cpty.toList == i.sender.toList), .int .i64 1, .bool (!(winB i.side 0 1)), .int .i64 11, .bool ((!(isSec i)) && (i.side != (0 : Int))), .int .i64 3, .bool (!(assetB i)), .int .i64 6, .bool (!(bndB i.qty (i.kind != (0 : Int)))), .int .i64 2, .bool (!(bndB i.amt ((i.kind == (0 : Int)) || (i.kind == (1 : Int))))), .int .i64 2, .bool (!(winB i.sday 0 73048)), .int .i64 28, .bool (((isSec i) && (!(winB i.tday 0 i.sday))) || ((!(isSec i)) && (i.tday != (0 : Int)))), .int .i64 28, .bool ((!(winB i.prio 0 2)) || ((isCol i) && (i.prio != (0 : Int)))), .int .i64 2, .bool (i.part && (!(isSec i))), .int .i64 3, .bool ((i.part && (decide (i.minlot < (1 : Int)))) || (!(winB i.minlot 0 (maxLotI i)))), .int .i64 2, .bool (i.hold && (isCol i)), .int .i64 3, .bool (i.resv && ((i.kind != (0 : Int)) || (i.prio != (2 : Int)))), .int .i64 3, .bool ((isCol i) && (decide ((0 : Int) < ((i.links.length : Nat) : Int)))), .int .i64 3, .bool (decide ((8 : Int) < ((i.links.length : Nat) : Int))), .int .i64 8] 71 (0, 0)), (b3, .cells #[.string i.ref, .int .i64 i.kind, .string i.sender, .string i.cpty, .int .i64 i.side, .string i.asset, .int .i64 i.qty, .int .i64 i.amt, .int .i64 i.tday, .int .i64 i.sday, .int .i64 i.prio, .bool i.part, .int .i64 i.minlot, .bool i.hold, .bool i.resv, .slice (some ad) i.links.length c] 29 (0, 0))]) 26 [⟨0, true, 0, 32, 100433627766186892221372630771322662657637687111424552206336⟩, ⟨1, true, 1, 100433627766186892221372630771322662657637687111424552206336, 200867255532373784442745261542645325315275374222849104412672⟩, ⟨5, true, 0, 32, 3213876088517980551083924184682325205044405987565585670602752⟩, ⟨6, true, 32, 3213876088517980551083924184682325205044405987565585670602752, 6427752177035961102167848369364650410088811975131171341205504⟩, ⟨10, true, 0, 32, 102844034832575377634685573909834406561420991602098741459288064⟩, ⟨11, true, 1024, 102844034832575377634685573909834406561420991602098741459288064, 205688069665150755269371147819668813122841983204197482918576128⟩, ⟨12, true, 0, 2, 411376139330301510538742295639337626245683966408394965837152256⟩, ⟨13, true, 4096, 411376139330301510538742295639337626245683966408394965837152256, 822752278660603021077484591278675252491367932816789931674304512⟩, ⟨14, true, 10240, 1028440348325753776346855739098344065614209916020987414592880640, 1645504557321206042154969182557350504982735865633579863348609024⟩, ⟨15, true, 16384, 1645504557321206042154969182557350504982735865633579863348609024, 3291009114642412084309938365114701009965471731267159726697218048⟩, ⟨16, true, 0, 2, 6582018229284824168619876730229402019930943462534319453394436096⟩, ⟨17, true, 65536, 6582018229284824168619876730229402019930943462534319453394436096, 13164036458569648337239753460458804039861886925068638906788872192⟩, ⟨18, true, 0, 16, 26328072917139296674479506920917608079723773850137277813577744384⟩, ⟨19, true, 393216, 39492109375708945011719260381376412119585660775205916720366616576, 52656145834278593348959013841835216159447547700274555627155488768⟩, ⟨20, true, 0, 32, 105312291668557186697918027683670432318895095400549111254310977536⟩, ⟨2, false, 2, 200867255532373784442745261542645325315275374222849104412672, 401734511064747568885490523085290650630550748445698208825344⟩, ⟨3, true, 4, 401734511064747568885490523085290650630550748445698208825344, 803469022129495137770981046170581301261101496891396417650688⟩, ⟨4, true, 8, 803469022129495137770981046170581301261101496891396417650688, 1606938044258990275541962092341162602522202993782792835301376⟩, ⟨7, false, 68, 6427752177035961102167848369364650410088811975131171341205504, 12855504354071922204335696738729300820177623950262342682411008⟩, ⟨8, true, 128, 12855504354071922204335696738729300820177623950262342682411008, 25711008708143844408671393477458601640355247900524685364822016⟩, ⟨9, true, 256, 25711008708143844408671393477458601640355247900524685364822016, 51422017416287688817342786954917203280710495801049370729644032⟩, ⟨21, false, 1572992, 157968437502835780046877041525505648478342643100823666881466466304, 210624583337114373395836055367340864637790190801098222508621955072⟩, ⟨22, true, 2097152, 210624583337114373395836055367340864637790190801098222508621955072, 421249166674228746791672110734681729275580381602196445017243910144⟩, ⟨23, false, 4227600, 424593204744331705555074933848843688651429086032258436907506073600, 842498333348457493583344221469363458551160763204392890034487820288⟩, ⟨24, false, 10485760, 842498333348457493583344221469363458551160763204392890034487820288, 1684996666696914987166688442938726917102321526408785780068975640576⟩, ⟨25, true, 33554431, 1684996666696914987166688442938726917102321526408785780068975640576, 64⟩] [(0, true), (1, true), (5, true), (6, true), (10, true), (11, true), (12, true), (13, true), (14, true), (15, true), (16, true), (17, true), (18, true), (19, true), (20, true), (2, false), (3, true), (4, true), (7, false), (8, true), (9, true), (21, false), (22, true), (23, false), (24, false), (25, true)] (by kernel_rfl) (by kernel_rfl) (by kernel_rfl) (by kernel_rfl) (fun _ _ _ _ h => absurd h.2 (by simp)) hD756 ?_
      generalize World.drew w754 = w757 at hD756 ⊢
      refine fE 0 196 (.fieldAddr 66 (.tmp 5) 0) 0 (.pointer (some ⟨b747, 0, none⟩)) h753 fun q758 h759 => ?_
      clear h753
      refine fE 1 197 (.load 3 (.tmp 196)) 3 (.int .i64 x.t) h759 (hr := fun _ hS => r_loadC (b := b747) (v := .int .i64 x.t) hS 0 0 (by kernel_rfl) (by kernel_rfl) (by kernel_rfl)) fun q760 h761 => ?_
      clear h759
      refine fE 5 201 (.fieldAddr 66 (.tmp 5) 1) 0 (.pointer (some ⟨b747, 1, none⟩)) h761 fun q762 h763 => ?_
      clear h761
      refine fE 6 202 (.load 9 (.tmp 201)) 9 (.string x.r) h763 (hr := fun _ hS => r_loadC (b := b747) (v := .string x.r) hS 0 1 (by kernel_rfl) (by kernel_rfl) (by kernel_rfl)) fun q764 h765 => ?_
      clear h763
      refine fE 10 206 (.fieldAddr 66 (.tmp 5) 1) 0 (.pointer (some ⟨b747, 1, none⟩)) h765 fun q766 h767 => ?_
      clear h765
      refine fE 11 207 (.load 9 (.tmp 206)) 9 (.string x.r) h767 (hr := fun _ hS => r_loadC (b := b747) (v := .string x.r) hS 0 1 (by kernel_rfl) (by kernel_rfl) (by kernel_rfl)) fun q768 h769 => ?_
      clear h767
      refine fE 12 208 (.fieldAddr 29 (.tmp 1) 0) 0 (.pointer (some ⟨b3, 0, none⟩)) h769 fun q770 h771 => ?_
      clear h769
      refine fE 13 209 (.load 9 (.tmp 208)) 9 (.string i.ref) h771 (hr := fun _ hS => r_loadC (b := b3) (v := .string i.ref) hS 2 0 (by kernel_rfl) (by kernel_rfl) (by kernel_rfl)) fun q772 h773 => ?_
      clear h771
      refine fE 14 210 (.binOp .eql 9 (.tmp 207) (.tmp 209) 9) 4 (.bool (x.r.toList == i.ref.toList)) h773 fun q774 h775 => ?_
      clear h773
      refine fE 15 211 (.build 71 #[(0, .tmp 210), (1, .const (.int .i64 26))]) 71 (.agg #[.bool (x.r.toList == i.ref.toList), .int .i64 26]) h775 fun q776 h777 => ?_
      clear h775
      refine fE 16 212 (.fieldAddr 29 (.tmp 1) 15) 0 (.pointer (some ⟨b3, 15, none⟩)) h777 fun q778 h779 => ?_
      clear h777
      refine fE 17 213 (.load 27 (.tmp 212)) 27 (.slice (some ad) i.links.length c) h779 (hr := fun _ hS => r_loadC (b := b3) (v := .slice (some ad) i.links.length c) hS 2 15 (by kernel_rfl) (by kernel_rfl) (by kernel_rfl)) fun q780 h781 => ?_
      clear h779
      refine fE 18 214 (.move (.tmp 4)) 3 (.int .i64 ((k : Nat) : Int)) h781 fun q782 h783 => ?_
      clear h781
      refine fE 19 215 (.slice 27 (.tmp 213) none (some (.tmp 214)) none) 27 (.slice (some ad) k c) h783 (hr := fun _ hS => r_sliceHi (n := i.links.length) (m := 2) (kd := .i64) (i := k) (by kernel_rfl) (by kernel_rfl) (by omega) (by kernel_rfl)) fun q784 h785 => ?_
      clear h783
      refine fE 20 216 (.makeFunc (.func 49) #[] #[.tmp 5]) 77 (.func (.func 49) #[] #[.pointer (some ⟨b747, 0, none⟩)]) h785 fun q786 h787 => ?_
      clear h785
      refine stC (i := 2) (d := 198) (op := Op.call { callee := Callee.value (Operand.func 40), args := #[Operand.tmp 197, Operand.const (Value.int IntKind.i64 0), Operand.const (Value.int IntKind.i64 1)], argTypes := #[3, 3, 3] }) (ty := 4) (g := none) (f := 40) (args := #[.int .i64 x.t, .int .i64 0, .int .i64 1]) (w1 := w757) h787 (by kernel_rfl) (by kernel_rfl) (by kernel_rfl) gok_none (by kernel_rfl) (c40 x.t 0 1 w757) ?_
      rintro _ w790 ⟨rfl, hb791⟩
      have hB792 := hD756.call hb791
      refine ⟨_, rfl, hB792, fun q788 h789 => ?_⟩
      clear h787 hD756 hb791
      refine fE 3 199 (.unOp .not 4 (.tmp 198)) 4 (.bool (!(winB x.t 0 1))) h789 fun q793 h794 => ?_
      clear h789
      refine fE 4 200 (.build 71 #[(0, .tmp 199), (1, .const (.int .i64 11))]) 71 (.agg #[.bool (!(winB x.t 0 1)), .int .i64 11]) h794 fun q795 h796 => ?_
      clear h794
      refine stC (i := 7) (d := 203) (op := Op.call { callee := Callee.value (Operand.func 41), args := #[Operand.const (Value.int IntKind.i64 2), Operand.tmp 202], argTypes := #[3, 9] }) (ty := 4) (g := none) (f := 41) (args := #[.int .i64 2, .string x.r]) (w1 := w790) h796 (by kernel_rfl) (by kernel_rfl) (by kernel_rfl) gok_none (by kernel_rfl) (c41_2 x.r w790) ?_
      rintro _ w799 ⟨rfl, hb800⟩
      have hB801 := hB792.call hb800
      refine ⟨_, rfl, hB801, fun q797 h798 => ?_⟩
      clear h796 hB792 hb800
      refine fE 8 204 (.unOp .not 4 (.tmp 203)) 4 (.bool (!(rfB x.r))) h798 fun q802 h803 => ?_
      clear h798
      refine fE 9 205 (.build 71 #[(0, .tmp 204), (1, .const (.int .i64 6))]) 71 (.agg #[.bool (!(rfB x.r)), .int .i64 6]) h803 fun q804 h805 => ?_
      clear h803
      refine stC (i := 21) (d := 217) (op := Op.call { callee := Callee.value (Operand.func 48), args := #[Operand.tmp 215, Operand.tmp 216], argTypes := #[27, 77] }) (ty := 4) (g := none) (f := 48) (args := #[.slice (some ad) k c, .func (.func 49) #[] #[.pointer (some ⟨b747, 0, none⟩)]]) (w1 := w799) h805 (by kernel_rfl) (by kernel_rfl) (by kernel_rfl) gok_none (by kernel_rfl) (c48 (i.links.take k) (some ad) k c x.t x.r b747 w799 (by rw [List.length_take]; omega) (by omega) (by rw [lkc_take]; exact (hr.take _).below hB801.bel) (El.of_blk (hB801.at 0 rfl))) ?_
      rintro _ w808 ⟨rfl, hb809⟩
      have hB810 := hB801.call hb809
      refine ⟨_, rfl, hB810, fun q806 h807 => ?_⟩
      clear h805 hB801 hb809
      refine fE 22 218 (.build 71 #[(0, .tmp 217), (1, .const (.int .i64 7))]) 71 (.agg #[.bool (dupB (i.links.take k) x.r), .int .i64 7]) h807 fun q811 h812 => ?_
      clear h807
      refine stA (i := 23) (d := 219) (op := Op.buildSlice 86 4 #[(0, Operand.tmp 200), (1, Operand.tmp 205), (2, Operand.tmp 211), (3, Operand.tmp 218)]) (ty := 86) (g := none) (mk := fun b => .slice (some ⟨b, 0, none⟩) 4 4) (o := .cells #[.bool (!(winB x.t 0 1)), .int .i64 11, .bool (!(rfB x.r)), .int .i64 6, .bool (x.r.toList == i.ref.toList), .int .i64 26, .bool (dupB (i.links.take k) x.r), .int .i64 7] 71 (0, 0)) h812 (by kernel_rfl) (by kernel_rfl) (by kernel_rfl) gok_none (fun _ => by kernel_rfl) hB810 (fun _ _ hq => hq.tail) (fun b815 w816 hB817 hN q813 h814 => ?_)
      clear h812 hB810 hN
      refine stC (i := 24) (d := 220) (op := Op.call { callee := Callee.value (Operand.func 39), args := #[Operand.tmp 219], argTypes := #[86] }) (ty := 26) (g := none) (f := 39) (args := #[.slice (some ⟨b815, 0, none⟩) 4 4]) (w1 := w816) h814 (by kernel_rfl) (by kernel_rfl) (by kernel_rfl) gok_none (by kernel_rfl) (c39 (rulesL i k x) (some ⟨b815, 0, none⟩) 4 w816 (Nat.le_of_ble_eq_true rfl) (show Rd _ _ (rulec (rulesL i k x)) from Rd.of_blk (hB817.at 0 rfl))) ?_
      rintro _ w820 ⟨rfl, hb821⟩
      have hB822 := hB817.call hb821
      refine ⟨_, rfl, hB822.tail, fun q818 h819 => ?_⟩
      clear h814 hB817 hb821
      refine fE 25 6 (.assign (.tmp 220)) 26 (.int .i64 (firstE (rulesL i k x))) h819 fun q823 h824 => ?_
      clear h819
      refine wpO_end ?_
      refine then_n ?_
      refine c_seq (by kernel_rfl) ?_
      refine reg_plain [(0, false), (1, false)] (by kernel_rfl) (by kernel_rfl) ?_
      refine eE 0 221 (.move (.tmp 6)) 26 (.int .i64 (firstE (rulesL i k x))) h824 fun q825 h826 => ?_
      clear h824
      refine eE 1 222 (.binOp .neq 26 (.tmp 221) (.const (.int .i64 0)) 26) 4 (.bool (firstE (rulesL i k x) != (0 : Int))) h826 fun q827 h828 => ?_
      clear h826
      refine wpO_end ?_
      refine then_n ?_
      refine c_cond (t := 222) (b := (firstE (rulesL i k x) != (0 : Int))) h828 (by kernel_rfl) (by kernel_rfl) (fun hc829 => ?_) (fun hc829 => ?_)
      ·
        refine c_seq (by kernel_rfl) ?_
        refine reg_plain [(0, false), (1, false)] (by kernel_rfl) (by kernel_rfl) ?_
        refine eE 0 223 (.move (.tmp 6)) 26 (.int .i64 (firstE (rulesL i k x))) h828 fun q830 h831 => ?_
        clear h828
        refine eE 1 2 (.assign (.tmp 223)) 26 (.int .i64 (firstE (rulesL i k x))) h831 fun q832 h833 => ?_
        clear h831
        refine wpO_end ?_
        have h834 := h833.keep [(2, .int .i64 (firstE (rulesL i k x))), (223, .int .i64 (firstE (rulesL i k x))), (222, .bool (firstE (rulesL i k x) != (0 : Int))), (221, .int .i64 (firstE (rulesL i k x))), (6, .int .i64 (firstE (rulesL i k x))), (220, .int .i64 (firstE (rulesL i k x))), (219, .slice (some ⟨b815, 0, none⟩) 4 4), (218, .agg #[.bool (dupB (i.links.take k) x.r), .int .i64 7]), (217, .bool (dupB (i.links.take k) x.r)), (205, .agg #[.bool (!(rfB x.r)), .int .i64 6]), (204, .bool (!(rfB x.r))), (203, .bool (rfB x.r)), (200, .agg #[.bool (!(winB x.t 0 1)), .int .i64 11]), (199, .bool (!(winB x.t 0 1))), (198, .bool (winB x.t 0 1)), (216, .func (.func 49) #[] #[.pointer (some ⟨b747, 0, none⟩)]), (215, .slice (some ad) k c), (214, .int .i64 ((k : Nat) : Int)), (213, .slice (some ad) i.links.length c), (212, .pointer (some ⟨b3, 15, none⟩)), (211, .agg #[.bool (x.r.toList == i.ref.toList), .int .i64 26]), (210, .bool (x.r.toList == i.ref.toList)), (209, .string i.ref), (208, .pointer (some ⟨b3, 0, none⟩)), (207, .string x.r), (206, .pointer (some ⟨b747, 1, none⟩)), (202, .string x.r), (201, .pointer (some ⟨b747, 1, none⟩)), (197, .int .i64 x.t), (196, .pointer (some ⟨b747, 0, none⟩)), (4, .int .i64 ((k : Nat) : Int)), (5, .pointer (some ⟨b747, 0, none⟩)), (195, .agg #[.int .i64 x.t, .string x.r]), (194, .pointer (some ((ad.add (k * 2)).add 0))), (193, .int .i64 ((k : Nat) : Int)), (192, .bool (decide (((k : Nat) : Int) < ((i.links.length : Nat) : Int)))), (1, .pointer (some ⟨b3, 0, none⟩)), (189, .slice (some ad) i.links.length c), (190, .int .i64 ((i.links.length : Nat) : Int)), (191, .int .i64 ((k : Nat) : Int))] ⟨rfl, rfl, rfl, rfl, rfl, rfl, rfl, rfl, rfl, rfl, rfl, rfl, rfl, rfl, rfl, rfl, rfl, rfl, rfl, rfl, rfl, rfl, rfl, rfl, rfl, rfl, rfl, rfl, rfl, rfl, rfl, rfl, rfl, rfl, rfl, rfl, rfl, rfl, rfl, rfl, trivial⟩
        clear h833
        refine then_n ?_
        refine c_ret (by kernel_rfl) ?_
        refine inB_r (then_r (then_r (inB_r (then_r ?_))))
        refine ret1 (t := 2) (v := .int .i64 (firstE (rulesL i k x))) h834 (by kernel_rfl) (by kernel_rfl) ?_
        exact ⟨ret_eq (congrArg (Value.int .i64) ((cF (p := firstE (rules14 i)) (q := chkL i 0 i.links) hc713).trans (hx734.trans ((chkL_at i k x hx).trans (cT hc829)))).symm), hB822.bel⟩
      ·
        refine c_skip (by kernel_rfl) ?_
        refine inB_n ?_
        refine then_n ?_
        refine reg_plain [(0, false), (1, false)] (by kernel_rfl) (by kernel_rfl) ?_
        refine eE 0 224 (.binOp .add 3 (.tmp 191) (.const (.int .i64 1)) 3) 3 (.int .i64 (IntKind.i64.wrap (((k : Nat) : Int) + 1))) h828 fun q835 h836 => ?_
        clear h828
        refine eE 1 191 (.move (.tmp 224)) 3 (.int .i64 (IntKind.i64.wrap (((k : Nat) : Int) + 1))) h836 fun q837 h838 => ?_
        clear h836
        refine wpO_end ?_
        have h839 := h838.keep [(191, .int .i64 (IntKind.i64.wrap (((k : Nat) : Int) + 1))), (224, .int .i64 (IntKind.i64.wrap (((k : Nat) : Int) + 1))), (222, .bool (firstE (rulesL i k x) != (0 : Int))), (221, .int .i64 (firstE (rulesL i k x))), (6, .int .i64 (firstE (rulesL i k x))), (220, .int .i64 (firstE (rulesL i k x))), (219, .slice (some ⟨b815, 0, none⟩) 4 4), (218, .agg #[.bool (dupB (i.links.take k) x.r), .int .i64 7]), (217, .bool (dupB (i.links.take k) x.r)), (205, .agg #[.bool (!(rfB x.r)), .int .i64 6]), (204, .bool (!(rfB x.r))), (203, .bool (rfB x.r)), (200, .agg #[.bool (!(winB x.t 0 1)), .int .i64 11]), (199, .bool (!(winB x.t 0 1))), (198, .bool (winB x.t 0 1)), (216, .func (.func 49) #[] #[.pointer (some ⟨b747, 0, none⟩)]), (215, .slice (some ad) k c), (214, .int .i64 ((k : Nat) : Int)), (213, .slice (some ad) i.links.length c), (212, .pointer (some ⟨b3, 15, none⟩)), (211, .agg #[.bool (x.r.toList == i.ref.toList), .int .i64 26]), (210, .bool (x.r.toList == i.ref.toList)), (209, .string i.ref), (208, .pointer (some ⟨b3, 0, none⟩)), (207, .string x.r), (206, .pointer (some ⟨b747, 1, none⟩)), (202, .string x.r), (201, .pointer (some ⟨b747, 1, none⟩)), (197, .int .i64 x.t), (196, .pointer (some ⟨b747, 0, none⟩)), (4, .int .i64 ((k : Nat) : Int)), (5, .pointer (some ⟨b747, 0, none⟩)), (195, .agg #[.int .i64 x.t, .string x.r]), (194, .pointer (some ((ad.add (k * 2)).add 0))), (193, .int .i64 ((k : Nat) : Int)), (192, .bool (decide (((k : Nat) : Int) < ((i.links.length : Nat) : Int)))), (1, .pointer (some ⟨b3, 0, none⟩)), (189, .slice (some ad) i.links.length c), (190, .int .i64 ((i.links.length : Nat) : Int)), (2, .int .i64 0)] ⟨rfl, rfl, rfl, rfl, rfl, rfl, rfl, rfl, rfl, rfl, rfl, rfl, rfl, rfl, rfl, rfl, rfl, rfl, rfl, rfl, rfl, rfl, rfl, rfl, rfl, rfl, rfl, rfl, rfl, rfl, rfl, rfl, rfl, rfl, rfl, rfl, rfl, rfl, rfl, rfl, trivial⟩
        clear h838
        have h840 := h839.keep [(1, .pointer (some ⟨b3, 0, none⟩)), (189, .slice (some ad) i.links.length c), (190, .int .i64 ((i.links.length : Nat) : Int)), (191, .int .i64 (((k + 1) : Nat) : Int)), (2, .int .i64 0)] ⟨rfl, rfl, rfl, look_int rfl (wrap_succ (by have := hn; omega)), rfl, trivial⟩
        have hm841 := h840.int (k := 191) (kd := .i64) (z := (((k + 1) : Nat) : Int)) rfl
        refine then_n ⟨⟨k + 1, by omega, h840, hB822.tail.tail, hx734.trans ((chkL_at i k x hx).trans (cF hc829))⟩, ?_⟩
        show (((i.links.length : Int)) - intAt _ 191).toNat < (((i.links.length : Int)) - intAt _ 191).toNat
        rw [hm733, hm841]; omega
    ·
      have hp842 : ¬ (((k : Nat) : Int) < ((i.links.length : Nat) : Int)) := of_decide_eq_false hc737
      refine c_exit 0 (by kernel_rfl) ?_
      refine then_e (then_e (inB_hit ?_))
      refine then_n ?_
      refine c_seq (by kernel_rfl) ?_
      refine reg_plain [(0, false)] (by kernel_rfl) (by kernel_rfl) ?_
      refine eE 0 2 (.assign (.const (.int .i64 0))) 26 (.int .i64 0) h736 fun q843 h844 => ?_
      clear h736
      refine wpO_end ?_
      have h845 := h844.keep [(2, .int .i64 0)] ⟨rfl, trivial⟩
      clear h844
      refine then_n ?_
      refine c_ret (by kernel_rfl) ?_
      refine ret1 (t := 2) (v := .int .i64 0) h845 (by kernel_rfl) (by kernel_rfl) ?_
      exact ⟨ret_eq (congrArg (Value.int .i64) ((cF (p := firstE (rules14 i)) (q := chkL i 0 i.links) hc713).trans (hx734.trans (chkL_end i k (by omega)))).symm), hB731.bel⟩

end Go.Proofs.YtljegdokbifoiaaDoor.Af
