/- What the functions that the law reaches return, for every program that has their code; the conditions stand in each statement. -/
import Derived.Lib.ItoaLen
import Derived.Test.YtpfhdmbamkdnpaaGreatDoorLinesNamesL1
set_option linter.unusedSectionVars false
set_option linter.unusedSimpArgs false
set_option linter.unusedVariables false
namespace Go.Am
open Go.RowKit
set_option maxHeartbeats 1000000 in
theorem QgT {P : Prg} {f fC fT fP fS fE fA g t0 t1 t2 t3 t4 ti : Nat} (b : Qee P f 45 [.cell 4 t1, .cell 5 t2] (ZU fC fT fP fS fE t0 t1 t2 t3 t4)) {c x r : Int} {l : List Int} {p : List UInt8} {T : List Int} {E : List Int → List UInt8} (h : QmA c x r l = 0) (hC' : VC P fC [clA c x r l] (.int .i64 0)) (hTl : T.length = 16)
  (hT' : VC P fT [.str p] (.tup [.agg (ks .i32 T), .int .i64 0])) (hP : QbL g P fP) (hI : QbK ti P g) (bG : Body P g 43 [] (Ze fA)) (hS : QbJ P fS) (hE : ∀ q ∈ Xi c r l, VC P fE [shA c x, .agg (ks .i32 T), il q] (.tup [bs (E q), .int .i64 0])) (hEl : ∀ q ∈ Xi c r l, (E q).length ≤ 100000)
  (ht1 : Z2 P t1 = some none) (ht2 : Z2 P t2 = some none) (h0 : t0 ≠ ti) (h1 : t1 ≠ ti) (h2 : t2 ≠ ti) (h3 : t3 ≠ ti) (h4 : t4 ≠ ti) : VC P f [clA c x r l, .str p] (.tup [bss ((Xi c r l).map E), .int .i64 0]) := by
 refine QD 2 (by simp [isDL, isD, Qcg, clA]) (by simp [isD, isDL, QnC]) (ACall.of_rangeC b (by simp) ?_)
 rw [clA, il] at hC'
 have tl := QN .i32 l
 have z : (z3L : List AV) = ks .i32 QcZ := rfl
 unfold ZU
 rw [z]
 have ol := QkN .i32 QcZ
 have kl0 : (ks .i32 QcZ).length = 16 := rfl
 simp (maxSteps := 4000000) (disch := omega) only [rq, simprocAttr, clA, il, QeM, Qhu, Qdk, QkS, Qgu, Qop]
 refine Qa hC' ?_
 simp (maxSteps := 4000000) (disch := omega) only [rq, simprocAttr, Qdk, QkS, QeM, Qhu]
 refine Qa hT' ?_
 have oT := QkN .i32 T
 have kT : (ks .i32 T).length = 16 := by rw [QU, hTl]
 have tT : (ks .i32 T).take 16 = ks .i32 T := qO (by omega)
 have zl : QcZ.length = 16 := rfl
 have zd : (ks .i32 QcZ).drop 16 = [] := rfl
 obtain ⟨k, n, rfl, k1, k2, hlen, hok, h4'⟩ := Qmz h
 have hP' := hP k x r l
 have hI' := hI k n x r l k1 k2 hlen hok
 rw [clA] at hP'
 rw [il] at hP' hI'
 have hS' := hS k x r l
 rw [shA, il] at hS'
 simp (maxSteps := 4000000) (disch := omega) only [rq, simprocAttr, Qdk, QkS, QeM, Qhu, ol, kl0, oT, kT, zl, zd, yN]
 refine Qa hP' ?_
 simp (maxSteps := 4000000) (disch := omega) only [rq, simprocAttr, Qgu]
 obtain ⟨Lc, hLc⟩ : ∃ Lc, (QG r).toNat * k = Lc := ⟨_, rfl⟩
 rw [hLc] at hI'
 have hcnt : (QY (QG r).toNat n).length ≤ 1000 := by have := hok.2.2.2.2; rwa [qv] at this
 obtain ⟨cnt, hcn⟩ : ∃ cnt, (QY (QG r).toNat n).length = cnt := ⟨_, rfl⟩
 have hpo : Xi k r l = (List.finRange cnt).map (fun j => JG Lc l j.1) := by
  unfold Xi
  rw [qv, hlen, Nat.mul_div_cancel _ (by omega), hcn, hLc]
  apply List.ext_getElem <;> simp
 rw [hcn] at hI' hcnt
 refine ⟨cnt, g, _, [ti], _, [(27, .fn (.func g) [] [.cell [.int .i64 k, .int .i64 x, .int .i64 r, .list l.length (ks .i32 l)]]), (2, .ref 0 1 0), (4, .ref 1 1 0), (5, .ref 2 1 0), (7, .ref 3 1 0), (9, .ref 4 1 0)],
  fun pre => [⟨t0, 4, 1, [.int .i64 k, .int .i64 x, .int .i64 r, .list l.length (ks .i32 l)], 0⟩, ⟨t1, 1, 1, [.list 0 []], 0⟩, ⟨t2, 1, 1, [.int .i64 0], 0⟩, ⟨t3, 16, 1, ks .i32 T, 0⟩, ⟨t1, 1, 1, [.own 5 pre.length], 0⟩, ⟨t4, 1, pre.length, pre.map (fun j => bs (E (JG Lc l j.1))), 0⟩], ?_, rfl, bG.ent, by simp [isDL, isD, XC], hI', by omega, by omega, rfl, ?_, ?_, ?_⟩
 ·refine Le.trans (Le.virtF (p := 4) (ty := t4) (sz := 1) (by omega) rfl rfl) (Le.drop 6 2 (by omega) rfl (by simp [Am.look, Q5, frzL, QQ, frzL_T _ tl]) ?_)
  intro i z hz
  match i, hz with
  | 0, hz => cases hz; exact ⟨_, rfl, by simp [Q5, frzL, QQ, frzL_T _ tl]⟩
  | 1, hz => cases hz; exact ⟨_, rfl, by simp [Q5, frzL, QQ]⟩
  | 2, hz => cases hz; exact ⟨_, rfl, by simp [Q5, frzL, QQ]⟩
  | 3, hz => cases hz; exact ⟨_, rfl, by simp [Q5, frzL_T _ (QN .i32 T)]⟩
  | 4, hz => cases hz; exact ⟨_, rfl, by simp [Q5, frzL, QQ]⟩
  | 5, hz => cases hz; exact ⟨_, rfl, by simp [Q5, frzL, QQ]⟩
  | i + 6, hz => simp at hz
 ·intro pre x hx
  simp only [qm, qM, or_false] at hx ⊢
  rcases hx with rfl | rfl | rfl | rfl | rfl | rfl
  ·exact h0
  ·exact h1
  ·exact h2
  ·exact h3
  ·exact h1
  ·exact h4
 ·intro pre y hpl
  have hmem : JG Lc l y.1 ∈ Xi k r l := by rw [hpo]; exact qS.2 ⟨y, List.mem_finRange _, rfl⟩
  have hE' := hE _ hmem
  have w1 := hEl _ hmem
  have hpm : (pre.map (fun j => bs (E (JG Lc l j.1)))).length = pre.length := by simp
  obtain ⟨Y, hYe⟩ : ∃ Y, E (JG Lc l y.1) = Y := ⟨_, rfl⟩
  rw [hYe] at hE' w1
  obtain ⟨Z, hZ⟩ : ∃ Z, JG Lc l y.1 = Z := ⟨_, rfl⟩
  rw [hZ] at hE' hYe ⊢
  rw [shA, il, bs] at hE'
  have tZ := QN .i32 Z
  have tT2 := QN .i32 T
  rw [il]
  simp (maxSteps := 4000000) (disch := omega) only [rq, simprocAttr, tT, kT]
  refine QiX hS' ?_
  simp (maxSteps := 4000000) (disch := omega) only [rq, simprocAttr, tT, kT]
  refine QiX hE' ?_
  simp (maxSteps := 4000000) (disch := omega) only [rq, simprocAttr, hpm]
  refine Le.drop 6 2 (by omega) rfl (by simp) ?_
  intro i z hz
  match i, hz with
  | 0, hz => cases hz; exact ⟨_, rfl, by simp [Q5, frzL, QQ, frzL_T _ tl]⟩
  | 1, hz => cases hz; exact ⟨_, rfl, by simp [Q5, frzL, QQ]⟩
  | 2, hz => cases hz; exact ⟨_, rfl, by simp [Q5, frzL, QQ]⟩
  | 3, hz => cases hz; exact ⟨_, rfl, by simp [Q5, frzL_T _ tT2]⟩
  | 4, hz => cases hz; exact ⟨_, rfl, by simp [Q5, frzL, QQ]⟩
  | 5, hz =>
   cases hz
   have e : (pre ++ [y]).map (fun j => bs (E (JG Lc l j.1))) = pre.map (fun j => bs (E (JG Lc l j.1))) ++ [.list Y.length (u8 Y)] := by
    simp only [yn, qz, yM, hZ, hYe]
    rfl
   rw [e]
   refine ⟨_, rfl, frzL_T _ ?_⟩
   rw [← e]
   have := Qfb ((pre ++ [y]).map (fun j => E (JG Lc l j.1)))
   rwa [yW] at this
  | i + 6, hz => simp at hz
 ·have hfl : (List.finRange cnt).length = cnt := by simp
  have hpi : (List.finRange cnt).map (fun j => bs (E (JG Lc l j.1))) = ((Xi k r l).map E).map bs := by
   rw [hpo, yW, yW]
   rfl
  dsimp only
  rw [hpi, hfl]
  have hpl : ((Xi k r l).map E).length = cnt := by rw [hpo]; simp
  have tp := Qfb ((Xi k r l).map E)
  generalize hPP : ((Xi k r l).map E).map bs = PP at *
  simp (maxSteps := 4000000) (disch := omega) only [rq, simprocAttr, ZP, ht1, ht2]
  simp [ZO, Q5, frzL, QQ, isDL, isD, bss, hpl, hPP, frzL_T _ tp]
def Qoa : List Int := [0, 1996959894, 3993919788, 2567524794, 124634137, 1886057615, 3915621685, 2657392035, 249268274, 2044508324, 3772115230, 2547177864, 162941995, 2125561021, 3887607047, 2428444049, 498536548, 1789927666, 4089016648, 2227061214, 450548861, 1843258603, 4107580753, 2211677639, 325883990, 1684777152, 4251122042, 2321926636, 335633487, 1661365465, 4195302755, 2366115317, 997073096, 1281953886, 3579855332, 2724688242, 1006888145, 1258607687, 3524101629, 2768942443, 901097722, 1119000684, 3686517206, 2898065728, 853044451, 1172266101, 3705015759, 2882616665, 651767980, 1373503546, 3369554304, 3218104598, 565507253, 1454621731, 3485111705, 3099436303, 671266974, 1594198024, 3322730930, 2970347812, 795835527, 1483230225, 3244367275, 3060149565, 1994146192, 31158534, 2563907772, 4023717930, 1907459465, 112637215, 2680153253, 3904427059, 2013776290, 251722036, 2517215374, 3775830040, 2137656763, 141376813, 2439277719, 3865271297, 1802195444, 476864866, 2238001368, 4066508878, 1812370925, 453092731, 2181625025, 4111451223, 1706088902, 314042704, 2344532202, 4240017532, 1658658271, 366619977, 2362670323, 4224994405, 1303535960, 984961486, 2747007092, 3569037538, 1256170817, 1037604311, 2765210733, 3554079995, 1131014506, 879679996, 2909243462, 3663771856, 1141124467, 855842277, 2852801631, 3708648649, 1342533948, 654459306, 3188396048, 3373015174, 1466479909, 544179635, 3110523913, 3462522015, 1591671054, 702138776, 2966460450, 3352799412, 1504918807, 783551873, 3082640443, 3233442989, 3988292384, 2596254646, 62317068, 1957810842, 3939845945, 2647816111, 81470997, 1943803523, 3814918930, 2489596804, 225274430, 2053790376, 3826175755, 2466906013, 167816743, 2097651377, 4027552580, 2265490386, 503444072, 1762050814, 4150417245, 2154129355, 426522225, 1852507879, 4275313526, 2312317920, 282753626, 1742555852, 4189708143, 2394877945, 397917763, 1622183637, 3604390888, 2714866558, 953729732, 1340076626, 3518719985, 2797360999, 1068828381, 1219638859, 3624741850, 2936675148, 906185462, 1090812512, 3747672003, 2825379669, 829329135, 1181335161, 3412177804, 3160834842, 628085408, 1382605366, 3423369109, 3138078467, 570562233, 1426400815, 3317316542, 2998733608, 733239954, 1555261956, 3268935591, 3050360625, 752459403, 1541320221, 2607071920, 3965973030, 1969922972, 40735498, 2617837225, 3943577151, 1913087877, 83908371, 2512341634, 3803740692, 2075208622, 213261112, 2463272603, 3855990285, 2094854071, 198958881, 2262029012, 4057260610, 1759359992, 534414190, 2176718541, 4139329115, 1873836001, 414664567, 2282248934, 4279200368, 1711684554, 285281116, 2405801727, 4167216745, 1634467795, 376229701, 2685067896, 3608007406, 1308918612, 956543938, 2808555105, 3495958263, 1231636301, 1047427035, 2932959818, 3654703836, 1088359270, 936918000, 2847714899, 3736837829, 1202900863, 817233897, 3183342108, 3401237130, 1404277552, 615818150, 3134207493, 3453421203, 1423857449, 601450431, 3009837614, 3294710456, 1567103746, 711928724, 3020668471, 3272380065, 1510334235, 755167117]
def Qn9 : List Int := [0, 4823603603198064275, 9647207206396128550, 14344283933443513269, 5274672035359026399, 847670339082705484, 14759040976900489721, 10241823793177474922, 10549344070718052798, 15030250704074698541, 1695340678165410968, 6158653484774949387, 15804726273676621153, 11071337880091427826, 6824194888265062471, 2036903512645398228, 7367177604490692079, 2651944067726553980, 16419204125234161865, 11613757334439845466, 3390681356330821936, 7926053118503640995, 12317306969549898774, 16726154088988619397, 17607865585094646865, 13162708473643690690, 8194994013375312247, 3695931686473304036, 13648389776530124942, 18417527692557321757, 4073807025290796456, 8825348881154370363, 14734355208981384158, 10271039580541631821, 5303888135453107960, 822984195088142443, 9604374506261047041, 14391664176758772114, 47380625301539367, 4780770595170139316, 6781362712661643872, 2084283301222999283, 15852106237007281990, 11028505464239851989, 1670654249350217407, 6187869865390245932, 10578560694269006745, 15005564104267687178, 12269926345859042865, 16768987096479742114, 3433514057002836759, 7878672873577829764, 16389988026750624494, 11638443477897467005, 7391863372946608072, 2622728278751721819, 4044590402276644751, 8850035479350698268, 13673076206955870889, 18388311311405091898, 8147614050581592912, 3738764100714335683, 17650697762308740726, 13115328684529279205, 15709965168302367023, 11021966344253216700, 6909860770376862729, 2095335087373712026, 10607776270906215920, 15115916238825782115, 1645968390176284886, 6063892853452478021, 5216239979862816913, 762004938812542466, 14808413130408695223, 10336584279807992612, 94761250603078734, 4872975272980325085, 9561541190340278632, 14285852213486374907, 13562725425323287744, 18359094313119879763, 4168566602445998566, 8874722219015798645, 17657238303940757535, 13257468400305012364, 8136561383943382329, 3610266854770152362, 3341308498700434814, 7831293060043656173, 12375739730780491864, 16811819059476047563, 7452841817450123681, 2710377314828461874, 16324444680414493831, 11564384134825822740, 1621282580641819377, 6093108618008534114, 10636992411005044695, 15091230119249932612, 6867028114005673518, 2142715359940571325, 15757345747155659528, 10979133309658045851, 9518708972583580495, 14333231979791697372, 142141253402664553, 4830142882085382394, 14783726745893216144, 10365800689136969987, 5245456557503443638, 737318311902463013, 8089180804553289502, 3653099890976004493, 17700070958701396536, 13210088128275084459, 4139350461810230209, 8899408340202190162, 13587411233247080167, 18329878549100632180, 16295228101163185824, 11589070762272702515, 7477528201428671366, 2681160907110034709, 12328359726370364031, 16854651450907929836, 3384140715920324441, 7783913295349006794, 17796789492404876493, 12973186262895182430, 8294265019745835499, 3597188614796881784, 13819721540753725458, 18246723593521770113, 4190670174747424052, 8707887697765516199, 7249714899603402099, 2768808468102880224, 16248400991498780757, 11785088403942012614, 3291936780352569772, 8025325358597240639, 12127785706904956042, 16915077318774037017, 10432479959725633826, 15147713122803500977, 1524009877625084932, 6329456346323069591, 15705454305770282493, 11170082187107838830, 6635271944638132443, 2226424485906433608, 189522501206157468, 4634679410803088911, 9745950545960650170, 14245012653811987241, 5445476407655580739, 676338306971005648, 14876502445374089573, 10124960353263198198, 4215391513593610003, 8678706776937023872, 13790540925671641653, 18271444552530207910, 8337133204891997132, 3549843186494580063, 17749444438031597290, 13016054137459951737, 12170653315997410989, 16867732534171963454, 3244592164593781643, 8068192726900473112, 16273122767886764658, 11755906975779290337, 7220533709540304724, 2793530071884239303, 6682616997400869628, 2183556611878603887, 15662586120087312346, 11217427617020813641, 1553190491096487459, 6304735387851432112, 10407758620342516485, 15176894045242543510, 14905683634900247362, 10100238751092381137, 5420754629656923748, 705519735670536439, 9793295161182637981, 14202145287119436046, 146654890503152315, 4682024195942093864, 3242565161283638754, 7930564333232481137, 12186217236017068228, 17000743249723264599, 7335380351123765565, 2827240748300537774, 16153640314560107547, 11735716164790313608, 13734056228011347036, 18188291445129067215, 4285430719881142650, 8757259798139230185, 17846161249714921603, 13067947420601767440, 8235833358291897765, 3511522545606540086, 5387043107155988493, 590673871457609374, 14925875833148783915, 10219719885873843128, 284282506805329106, 4684052045342640705, 9660285764170764788, 14186579979835500391, 15610694155489642931, 11120709418076880672, 6720936860919424149, 2284857304564388358, 10490913115006887276, 15233377424362361855, 1474636623804926026, 6234696958930763481, 16178361609106579004, 11706535215248140463, 7306199781952008986, 2851961734412043657, 12229085463316509411, 16953397843693241456, 3195220067441434565, 7973432182840617302, 8278700923620460418, 3464177731752866065, 17798816680404380324, 13110814815472245815, 4310152537884486493, 8728078392784608718, 13704874997943502459, 18213013024491712744, 9707630858549910483, 14143712128616820032, 241414281116563189, 4731397450835853414, 14955056402857342732, 10194998898151653791, 5362321814220069418, 619854820462849209, 1503817855483314797, 6209975379031176446, 10466191297540353867, 15262558828106308056, 6768281431840648882, 2241989909157107745, 15567826590698013588, 11168054230320002311]
def QeW : List Int := [1, 2]
def Qk7 (q : List Int) : List UInt8 := if q = [1] then [4, 0, 251, 215, 181, 37] else [8, 0, 247, 152, 0, 137]
def Qff : List UInt8 := [84, 84, 65, 49, 1, 0, 1, 0, 8, 0, 1, 0, 0, 0, 2, 0, 0, 0, 223, 215, 22, 71, 6, 0, 0, 0, 6, 0, 0, 0, 50, 137, 38, 134, 4, 0, 251, 215, 181, 37, 8, 0, 247, 152, 0, 137]
theorem QhO : Xi 1 1 QeW = [[1], [2]] := by decide
theorem QoJ : QmA 1 8 1 QeW = 0 := by decide
theorem Qfo {P : Prg} {f fC fT fP fS fE fA g t0 t1 t2 t3 t4 ti : Nat} (b : Qee P f 45 [.cell 4 t1, .cell 5 t2] (ZU fC fT fP fS fE t0 t1 t2 t3 t4)) (hC : VC P fC [clA 1 8 1 QeW] (.int .i64 0)) (hT : VC P fT [.str []] (.tup [.agg (ks .i32 QcZ), .int .i64 0])) (hP : QbL g P fP) (hI : QbK ti P g) (bG : Body P g 43 [] (Ze fA)) (hS : QbJ P fS)
  (hE1 : VC P fE [shA 1 8, .agg (ks .i32 QcZ), il [1]] (.tup [bs (Qk7 [1]), .int .i64 0])) (hE2 : VC P fE [shA 1 8, .agg (ks .i32 QcZ), il [2]] (.tup [bs (Qk7 [2]), .int .i64 0])) (ht1 : Z2 P t1 = some none) (ht2 : Z2 P t2 = some none) (h0 : t0 ≠ ti) (h1 : t1 ≠ ti) (h2 : t2 ≠ ti) (h3 : t3 ≠ ti) (h4 : t4 ≠ ti) :
  VC P f [clA 1 8 1 QeW, .str []] (.tup [bss [Qk7 [1], Qk7 [2]], .int .i64 0]) := by
 have := QgT (E := Qk7) b QoJ hC rfl hT hP hI bG hS (by rw [QhO]; exact List.forall_mem_cons.2 ⟨hE1, List.forall_mem_cons.2 ⟨hE2, fun _ h => by cases h⟩⟩) (by rw [QhO]; decide) ht1 ht2 h0 h1 h2 h3 h4
 rwa [QhO] at this
def Qhs : Rp := ⟨1, 1, 8, 1, 2, 34, [6, 6], 0, 0, 0, 2⟩
def Qjv : List UInt8 := [102, 111, 114, 109, 97, 116, 32, 49, 32, 99, 104, 97, 110, 110, 101, 108, 115, 32, 49, 32, 98, 105, 116, 115, 32, 56, 32, 114, 97, 116, 101, 32, 49, 32, 99, 111, 117, 110, 116, 32, 50, 10, 102, 114, 97, 109, 101, 115, 32, 51, 52, 58, 32, 54, 32, 54, 10, 102, 111, 117, 110, 100, 32, 48, 32, 48, 32, 48, 32, 50, 10]
theorem QpL : QiE Qhs := by decide +kernel
theorem Qn8 : txt Qhs = Qjv := by decide +kernel
theorem Qqd : rpB Qhs := by
 refine ⟨by decide, ?_, by decide, by decide⟩
 intro v hv
 simp only [Qhs, qm, qM, or_false] at hv
 omega
theorem Qm6 {P : Prg} {f : Nat} (h : QfS P f) : VC P f [Qhs.av] (.tup [.str Qjv, .int .i64 0]) := by
 have := h Qhs Qqd
 rwa [Qja, qG QpL, Qn8] at this
theorem Qnm {P : Prg} {f : Nat} (h : QaU P f) : VC P f [.str Qjv] (.tup [Qhs.av, .int .i64 0]) := (h Qjv (by decide)).1 Qhs QpL Qn8
theorem Qng {P : Prg} {f : Nat} (h : QcV P f) : VC P f [Qhs.av, Qhs.av] (.bool true) := h Qhs Qhs (by decide) (by decide)
theorem Qmn {P : Prg} {f : Nat} (h : QcY P f) : VC P f [bs Qff] (.tup [.int .i64 0, .int .i64 0]) := h Qff ⟨by decide, by decide, by decide⟩
def Qgz : List AV → Option (List Int)
 | [] => some []
 | .int .i64 n :: r => match Qgz r with | some l => some (n :: l) | none => none
 | _ => none
theorem Qch : ∀ {cs : List AV} {l : List Int}, Qgz cs = some l → cs = ks .i64 l
 | [], l, h => by simp only [Qgz, qc] at h; subst h; rfl
 | c :: r, l, h => by
  unfold Qgz at h
  split at h
  ·rename_i e; cases e
  ·rename_i n r' e
   cases e
   split at h
   ·rename_i l' hl
    cases h
    rw [Qch hl]
    rfl
   ·cases h
  ·cases h
def Qoe : AV → Option Rp
 | .agg [.int .i64 f, .int .i64 c, .int .i64 b, .int .i64 r, .int .i64 n, .int .i64 m, .list k cs, .int .i64 e, .int .u8 p, .int .i64 q, .int .i64 g] =>
  match Qgz cs with
  | some l => if k = l.length then some ⟨f, c, b, r, n, m, l, e, p, q, g⟩ else none
  | none => none
 | _ => none
theorem QbT {a : AV} {x : Rp} (h : Qoe a = some x) : a = x.av := by
 unfold Qoe at h
 split at h
 ·split at h
  ·rename_i l hl
   split at h
   ·rename_i hk
    cases h
    rw [Qch hl, hk]
    rfl
   ·cases h
  ·cases h
 ·cases h
def Qph (x : Rp) : Bool := decide (x.l.length ≤ 1000000) && x.l.all (fun v => decide (-9223372036854775808 ≤ v ∧ v ≤ 9223372036854775807)) && decide (0 ≤ x.p) && decide (x.p ≤ 255)
theorem Qek {x : Rp} (h : Qph x = true) : rpB x := by
 simp only [Qph, qf, ql, qI] at h
 exact ⟨h.1.1.1, h.1.1.2, h.1.2, h.2⟩
def Qpt (s : List UInt8) : AV :=
 match rdO s with
 | some x => if QiE x then .tup [x.av, .int .i64 0] else .tup [Rp.zero.av, .int .i64 12]
 | none => .tup [Rp.zero.av, .int .i64 12]
theorem Qnl {P : Prg} {f : Nat} (h : QaU P f) {s : List UInt8} (hs : s.length ≤ 999999) : VC P f [.str s] (Qpt s) := by
 obtain ⟨h1, h2⟩ := h s hs
 have no : ∀ y, QiE y → txt y = s → rdO s = some y := fun y hy e => by rw [← e]; exact Qj7 hy
 unfold Qpt
 split
 ·rename_i x hx
  split
  ·rename_i hk; exact h1 x hk (QmO hx)
  ·rename_i hk
   refine h2 ?_
   rintro ⟨y, hy, e⟩
   rw [no y hy e] at hx
   cases hx
   exact hk hy
 ·rename_i hx
  refine h2 ?_
  rintro ⟨y, hy, e⟩
  rw [no y hy e] at hx
  cases hx
theorem ACall.em {P : Prg} {f : FuncId} {avs : List AV} {ob : List Ob} {K : AV → List Ob → Prop} (h : ACall P f (emA avs) ob K) : ACall P f avs ob K := ⟨h.1, fun B w be C vs g hG hr => h.2 B w be C vs g hG (RepL.em _ _ hr)⟩
def Qnr (fT fC fR fS : FuncId) : Ev := fun f avs ob =>
 match emA avs with
 | [.str s] => if f = fR ∧ s.length ≤ 999999 then some (Qpt s, ob) else none
 | [a] =>
  match Qoe a with
  | some x => if Qph x = true then (if f = fT then some (Qja x, ob) else if f = fC then some (.int .i64 (rpN x), ob) else none) else none
  | none => none
 | [a, b] =>
  match Qoe a, Qoe b with
  | some x, some y => if f = fS ∧ x.l.length ≤ 1000000 ∧ y.l.length ≤ 1000000 then some (.bool (Qor x y && QoA x y), ob) else none
  | _, _ => none
 | _ => none
theorem Ql8 {P : Prg} {fT fC fR fS : FuncId} (hT : QfS P fT) (hC : QbM P fC) (hR : QaU P fR) (hS : QcV P fS) : XI P (Qnr fT fC fR fS) := fun f avs ob r ob' h K hK => by
 refine ACall.em ?_
 unfold Qnr at h
 split at h
 ·rename_i s e
  rw [e]
  split at h
  case isFalse => cases h
  rename_i hk
  cases h
  rw [hk.1]
  exact ACall.of_vc (Qnl hR hk.2) hK
 ·rename_i a _ e
  rw [e]
  split at h
  case h_2 => cases h
  rename_i x hx
  split at h
  case isFalse => cases h
  rename_i hb
  rw [QbT hx]
  split at h
  ·rename_i hf
   cases h
   rw [hf]
   exact ACall.of_vc (hT x (Qek hb)) hK
  ·split at h
   ·rename_i hf
    cases h
    rw [hf]
    exact ACall.of_vc (hC x (Qek hb)) hK
   ·cases h
 ·rename_i a b e
  rw [e]
  split at h
  ·rename_i x y hx hy
   split at h
   case isFalse => cases h
   rename_i hk
   cases h
   rw [QbT hx, QbT hy, hk.1]
   exact ACall.of_vc (hS x y hk.2.1 hk.2.2) hK
  ·cases h
 ·cases h
def evS (G : List (Nat × List AV)) (ow : List FuncId) (call : Ev) : Nat → AC → St → Option St
 | 0, _, st => some st
 | n + 1, .seq a b, st =>
  match evC G ow call a st with
  | some (.normal, s) => evS G ow call n b s
  | _ => none
 | _, _, _ => none
def Qkq : Nat → AC → AC
 | 0, ac => ac
 | n + 1, .seq _ b => Qkq n b
 | _, ac => ac
theorem QgG {P : Prg} {N M : Nat} {ow : List FuncId} {call : Ev} (hc : XI P call) {Q : Exit → St → Prop} : ∀ (n : Nat) (ac : AC) (st st' : St), evS P.G ow call n ac st = some st' → QmI P N M (Qkq n ac) Q st' → QmI P N M ac Q st
 | 0, ac, st, st', h, hr => by
  simp only [evS, qc] at h
  subst h
  exact hr
 | n + 1, .seq a b, st, st', h, hr => by
  simp only [evS] at h
  split at h
  case h_2 => cases h
  rename_i s h1
  intro c hcc
  obtain ⟨x, y, rfl, hx, hy⟩ := Qs hcc
  intro Γ ac w h2 h3 hs
  refine wp_seq (wp_mono (Zc hc a _ _ _ (fun e s' => e = .normal ∧ s' = s) h1 ⟨rfl, rfl⟩ x hx Γ ac w h2 h3 hs) ?_)
  rintro e' a' w' ⟨s3, ⟨rfl, rfl⟩, hs'⟩
  exact QgG hc n b _ _ h hr y hy Γ a' w' h2 h3 hs'
 | n + 1, .skip, st, st', h, _ => by simp [evS] at h
 | n + 1, .reg _, st, st', h, _ => by simp [evS] at h
 | n + 1, .draw _ _, st, st', h, _ => by simp [evS] at h
 | n + 1, .cond _ _ _, st, st', h, _ => by simp [evS] at h
 | n + 1, .block _ _, st, st', h, _ => by simp [evS] at h
 | n + 1, .loop _, st, st', h, _ => by simp [evS] at h
 | n + 1, .exit _, st, st', h, _ => by simp [evS] at h
 | n + 1, .ret, st, st', h, _ => by simp [evS] at h
 | n + 1, .bad, st, st', h, _ => by simp [evS] at h
theorem ACall.of_run {P : Prg} {f : FuncId} {ac : AC} {N : Nat} {rl : List ResultVar} (bd : Body P f N rl ac) {avs : List AV} {ob : List Ob} {K : AV → List Ob → Prop} (hlen : avs.length ≤ N) {ow : List FuncId} {call : Ev} (hc : XI P call) (n : Nat) {st st2 : St}
  (hev : evS P.G ow call n ac ⟨Qv 0 avs, ob⟩ = some st) (hle : Le ob.length st st2) (h : wpC P N ob.length (Qkq n ac) (J9 P rl K) st2) : ACall P f avs ob K :=
 ACall.of_awp bd hlen (QgG hc n ac _ _ hev (Qeg hle fun c hcc => Qm c _ _ _ hcc h))
theorem QkH {P : Prg} {f fF fH fD fR fS t0 t1 : Nat} (bd : Body P f 108 [.cell 4 t0, .tmp 5] (ZR fF fH fD fR fS t0 t1)) (ht : Z2 P t0 = some (some 7)) {b : List UInt8} (h1 : 100000 < b.length) (h2 : b.length ≤ 1000000) : VC P f [bs b, .str []] (.tup [.agg [.int .i64 0, .int .i64 0, .int .i64 0, .int .i64 0, .int .i64 0, .int .i64 0, .list 0 []], .int .i64 4]) := by
 refine QD 1 (by simp [isDL, Jr, isD]) rfl (Qj bd (by simp) ?_)
 rw [bs]
 simp (maxSteps := 4000000) (disch := omega) only [rq, simprocAttr, ZR, ZP, ht]
 simp [ZO, Q5, frzL, QQ, isDL, isD]
theorem Qns {P : Prg} {f fO fT t0 t1 t2 : Nat} (bd : Body P f 32 [.cell 4 t0, .tmp 5] (Jn fO fT t0 t1 t2)) (ht : Z2 P t0 = some (some 11)) {b : List UInt8} {e : Int} (he : e ≠ 0) (h : VC P fO [bs b, .str []] (.tup [.agg [.int .i64 0, .int .i64 0, .int .i64 0, .int .i64 0, .int .i64 0, .int .i64 0, .list 0 []], .int .i64 e])) : VC P f [bs b, .str []] (.tup [Rp.zero.av, .int .i64 e]) := by
 refine QD 1 (by simp [isDL, Jr, isD]) (by simp [isD, isDL, Qdl]) (Qj bd (by simp) ?_)
 rw [bs] at h ⊢
 simp (maxSteps := 4000000) (disch := omega) only [rq, simprocAttr, Jn, Rp.av, Q1]
 refine Qa h ?_
 simp (maxSteps := 4000000) (disch := omega) only [rq, simprocAttr, ZP, ht]
 simp [ZO, Q5, frzL, QQ, isDL, isD, Rp.zero, Rp.av, Q1, ks]
def Qew : List UInt8 := [102, 111, 114, 109, 97, 116, 32, 49, 32, 99, 104, 97, 110, 110, 101, 108, 115, 32, 49, 32, 98, 105, 116, 115, 32, 56, 32, 114, 97, 116, 101, 32, 49, 32, 99, 111, 117, 110, 116, 32, 50, 10, 102, 114, 97, 109, 101, 115, 32, 49, 48, 48, 48, 48, 48, 58, 32, 54, 32, 54, 10, 102, 111, 117, 110, 100, 32, 57, 57, 32, 54, 32, 49, 32, 49, 50, 48, 48, 48, 10]
theorem Qku {P : Prg} {f : Nat} (h : QaU P f) {s : List UInt8} (hs : s.length ≤ 999999) (h0 : s.count 10 = 0) : VC P f [.str s] (.tup [Rp.zero.av, .int .i64 12]) := by
 refine (h s hs).2 ?_
 rintro ⟨x, hx, rfl⟩
 have := (Qj8 hx).1
 omega
theorem QlM (n : Nat) : (List.replicate n (0 : UInt8)).count 10 = 0 := by simp [List.count_replicate]
theorem QhJ : ∀ n : Nat, Qi [.int .u8 0] n = u8 (List.replicate n 0)
 | 0 => rfl
 | n + 1 => by rw [Qi, QhJ n, List.replicate_succ]; rfl
def QhQ (o : Option St) : Option (List AV) := o.map fun s => [look s.fr 7, look s.fr 8, look s.fr 14, look s.fr 16]
theorem Qjn {P : Prg} {fR fB fT fS fO fA t0 t1 t2 t3 : Nat} {A B : List UInt8} (lA : A.length = 100001) (zA : Qi [.int .u8 0] 100001 = u8 A) (lB : B.length = 13000) (zB : Qi [.int .u8 0] 13000 = u8 B)
  (hO : VC P fO [.list 100001 (u8 A), .str []] (.tup [Rp.zero.av, .int .i64 4])) (hR' : VC P fR [.str B] (.tup [Rp.zero.av, .int .i64 12])) (hA : VC P fA [] (.bool true)) :
  wpC P 191 ([] : List Ob).length (Qkq 26 (Qn fR fB fT fS fO fA t0 t1 t2 t3)) (J9 P [.tmp 0] fun r' _ => r' = .bool true) ⟨[(7, .str Qew), (8, .int .i64 0), (14, .int .i64 24), (16, .int .i64 2)], []⟩ := by
 have hse : Qga .eql Qew Qew = some (.bool true) := by simp [Qga]
 have zA' : Qi [.int .u8 0] (Int.toNat 100001) = u8 A := zA
 have zB' : Qi [.int .u8 0] (Int.toNat 13000) = u8 B := zB
 have tA := Qgx A
 have tB := Qgx B
 simp (maxSteps := 4000000) (disch := omega) only [rq, simprocAttr, Qn, Qkq, ↓zA, ↓zA', ↓zB, ↓zB']
 rw [Rp.av, Q1] at hO hR'
 refine Zt 1 [0] hO (by simp [ZO, Q5, frzL, QQ, isDL, isD, frzL_T _ tA, QhX]) ?_
 simp (maxSteps := 4000000) (disch := omega) only [rq, simprocAttr, Qe, ↓zB, ↓zB', lA, lB, Qfm]
 refine Qa hR' ?_
 simp (maxSteps := 4000000) (disch := omega) only [rq, simprocAttr, Rp.zero, hse]
 refine Qa hA ?_
 simp (maxSteps := 4000000) (disch := omega) only [rq, simprocAttr, hse]
def QlD (P : Prg) (f : Nat) : Prop := VC P f [] (.bool true)
theorem Qk0 {P : Prg} {f : Nat} (h : QcY P f) : VC P f [.emp true] (.tup [.int .i64 0, .int .i64 0]) := VC.em [.emp true] (h [] ⟨by decide, by decide, by decide⟩) rfl
theorem QcD {P : Prg} {f fR fB fT fS fO fA t0 t1 t2 t3 : Nat} (bd : Body P f 191 [.tmp 0] (Qn fR fB fT fS fO fA t0 t1 t2 t3)) {ow : List FuncId} {call : Ev} (hc : XI P call)
  (hrun : QhQ (evS P.G ow call 26 (Qn fR fB fT fS fO fA t0 t1 t2 t3) ⟨[], []⟩) = some [.str Qew, .int .i64 0, .int .i64 24, .int .i64 2])
  (hO : VC P fO [bs (List.replicate 100001 0), .str []] (.tup [Rp.zero.av, .int .i64 4])) (hR : QaU P fR) (hA : VC P fA [] (.bool true)) : QlD P f := by
 unfold QhQ at hrun
 obtain ⟨st, hev, hl⟩ := qa.1 hrun
 simp only [List.cons.injEq, and_true] at hl
 obtain ⟨l7, l8, l14, l16⟩ := hl
 refine Jp rfl rfl (ACall.of_run bd (by simp) hc 26 hev (st2 := ⟨[(7, .str Qew), (8, .int .i64 0), (14, .int .i64 24), (16, .int .i64 2)], []⟩) ?_ ?_)
 ·obtain ⟨fr, ob⟩ := st
  refine Le.drop 0 2 (qg _) rfl ?_ (fun i y hy => by cases hy)
  simp only at l7 l8 l14 l16
  intro p hp
  simp only [qm, qM, or_false] at hp
  rcases hp with rfl | rfl | rfl | rfl
  ·right; simp [l7, Q5, frzL, QQ, isDL, isD]
  ·right; simp [l8, Q5, frzL, QQ, isDL, isD]
  ·right; simp [l14, Q5, frzL, QQ, isDL, isD]
  ·right; simp [l16, Q5, frzL, QQ, isDL, isD]
 clear hev l7 l8 l14 l16 hrun
 have hO' := hO
 rw [bs, qT] at hO'
 exact Qjn qT (QhJ _) qT (QhJ _) hO' (Qku hR (by rw [qT]; decide) (QlM _)) hA
end Go.Am
