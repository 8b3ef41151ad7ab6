/- What the functions that the law reaches return, for every program that has their code; the conditions stand in each statement. -/
import Derived.Test.YtdbcblibhbhckaaDoorVerdictBurstsL2
set_option linter.unusedSectionVars false
set_option linter.unusedSimpArgs false
set_option linter.unusedVariables false
namespace Go.Am
open Go.RowKit

/-! ### law23: judged, alive, VerdictSays -/

def S_Judged (P : Prg) (f : Nat) : Prop := ∀ (n : Int) (b : List UInt8) (e g : Int), b.length ≤ 1000000 → judA 1 16 z16 n b = .tup [.agg [.int .i64 e, .int .i64 g], .int .i64 0] → VC P f [.int .i64 n, bs b, .int .i64 e, .int .i64 g] (.bool true)
theorem law23_judged {P : Prg} {f fJ t0 : Nat} (bd : Body P f 28 [.tmp 8] (ac_cadenzalaw23_judged fJ t0)) (hJ : S_Judge P fJ) : S_Judged P f := by
  intro n b e g hb h
  refine VC.of_acall (by simp [isDL, isD_bs, isD]) rfl (ACall.of_body bd (by simp) ?_)
  have hJ' := hJ 1 16 n z16 b rfl I32_z16 hb
  rw [h] at hJ'
  have hj : VC P fJ [.agg [.int .i64 1, .int .i64 16], .agg [.int .i32 0, .int .i32 0, .int .i32 0, .int .i32 0, .int .i32 0, .int .i32 0, .int .i32 0, .int .i32 0, .int .i32 0, .int .i32 0, .int .i32 0, .int .i32 0, .int .i32 0, .int .i32 0, .int .i32 0, .int .i32 0], .int .i64 n, .list b.length (u8 b)] (.tup [.agg [.int .i64 e, .int .i64 g], .int .i64 0]) := hJ'
  simp (maxSteps := 4000000) (disch := omega) only [step, stepv, ev, wl, wn, wp, wz, aop, cV, cV1, AV.one, partCells, okW, onlyFr, app, sliceCells, cellsAt, srcA, subA, eqFs, Int.cast_ofNat_Int, simprocAttr, ac_cadenzalaw23_judged, bs]
  refine callQ.vc hj ?_
  simp (maxSteps := 4000000) (disch := omega) only [step, stepv, ev, wl, wn, wp, wz, aop, cV, cV1, AV.one, partCells, okW, onlyFr, app, sliceCells, cellsAt, srcA, subA, eqFs, Int.cast_ofNat_Int, simprocAttr]

def fr1 : List UInt8 := [0, 0, 0, 18, 217, 65, 0]
theorem fr0_eq : fr0 = [0, 0, 0, 18, 217, 65, 255] := by decide +kernel
theorem jud_fr (n : Int) (b : List UInt8) (e g : Int) (h0 : ask21 1 16 n = 0) (h1 : errD 1 16 z16 n b = e) (h2 : judG 1 16 z16 n b = g) : judA 1 16 z16 n b = .tup [.agg [.int .i64 e, .int .i64 g], .int .i64 0] := by
  rw [judA, if_neg (by omega), h1, h2]
theorem law23_alive {P : Prg} {f fZ fJ t0 : Nat} (bd : Body P f 27 [.tmp 0] (ac_cadenzalaw23_alive fZ fJ t0)) (hZ : S_Sealed P fZ) (hJ : S_Judged P fJ) : S_alive21 P f := by
  refine VC.of_acall rfl rfl (ACall.of_body bd (by simp) ?_)
  have hZ' := hZ [0, 0, 0] (by decide)
  rw [show [0, 0, 0] ++ leB (sumM [0, 0, 0]) 4 = fr0 from rfl, fr0_eq] at hZ'
  have j1 := hJ 2 fr0 0 2 (by decide +kernel) (jud_fr _ _ _ _ (by decide +kernel) (by decide +kernel) (by decide +kernel))
  have j2 := hJ 3 fr0 24 2 (by decide +kernel) (jud_fr _ _ _ _ (by decide +kernel) (by decide +kernel) (by decide +kernel))
  have j3 := hJ 1 fr0 12 1 (by decide +kernel) (jud_fr _ _ _ _ (by decide +kernel) (by decide +kernel) (by decide +kernel))
  have j4 := hJ 2 fr1 22 0 (by decide +kernel) (jud_fr _ _ _ _ (by decide +kernel) (by decide +kernel) (by decide +kernel))
  rw [fr0_eq] at j1 j2 j3
  have hz : VC P fZ [.list 3 [.int .u8 0, .int .u8 0, .int .u8 0]] (.list 7 [.int .u8 0, .int .u8 0, .int .u8 0, .int .u8 18, .int .u8 217, .int .u8 65, .int .u8 255]) := hZ'
  have k1 : VC P fJ [.int .i64 2, .list 7 [.int .u8 0, .int .u8 0, .int .u8 0, .int .u8 18, .int .u8 217, .int .u8 65, .int .u8 255], .int .i64 0, .int .i64 2] (.bool true) := j1
  have k2 : VC P fJ [.int .i64 3, .list 7 [.int .u8 0, .int .u8 0, .int .u8 0, .int .u8 18, .int .u8 217, .int .u8 65, .int .u8 255], .int .i64 24, .int .i64 2] (.bool true) := j2
  have k3 : VC P fJ [.int .i64 1, .list 7 [.int .u8 0, .int .u8 0, .int .u8 0, .int .u8 18, .int .u8 217, .int .u8 65, .int .u8 255], .int .i64 12, .int .i64 1] (.bool true) := j3
  have k4 : VC P fJ [.int .i64 2, .list 7 [.int .u8 0, .int .u8 0, .int .u8 0, .int .u8 18, .int .u8 217, .int .u8 65, .int .u8 0], .int .i64 22, .int .i64 0] (.bool true) := j4
  have wr : IntKind.u8.wrap 256 = 0 := by decide
  clear hZ hJ hZ' j1 j2 j3 j4
  simp (maxSteps := 4000000) (disch := omega) only [step, stepv, ev, wl, wn, wp, wz, aop, cV, cV1, AV.one, partCells, okW, onlyFr, app, sliceCells, cellsAt, srcA, subA, eqFs, Int.cast_ofNat_Int, simprocAttr, ac_cadenzalaw23_alive]
  refine callQ.still 1 [0] hz (by simp [frzN, frzK, frzL, frzV]) ?_
  simp (maxSteps := 4000000) (disch := omega) only [step, stepv, ev, wl, wn, wp, wz, aop, cV, cV1, AV.one, partCells, okW, onlyFr, app, sliceCells, cellsAt, srcA, subA, eqFs, Int.cast_ofNat_Int, simprocAttr, stillAt]
  refine callQ.vc k1 ?_
  simp (maxSteps := 4000000) (disch := omega) only [step, stepv, ev, wl, wn, wp, wz, aop, cV, cV1, AV.one, partCells, okW, onlyFr, app, sliceCells, cellsAt, srcA, subA, eqFs, Int.cast_ofNat_Int, simprocAttr]
  refine callQ.vc k2 ?_
  simp (maxSteps := 4000000) (disch := omega) only [step, stepv, ev, wl, wn, wp, wz, aop, cV, cV1, AV.one, partCells, okW, onlyFr, app, sliceCells, cellsAt, srcA, subA, eqFs, Int.cast_ofNat_Int, simprocAttr]
  refine callQ.vc k3 ?_
  simp (maxSteps := 4000000) (disch := omega) only [step, stepv, ev, wl, wn, wp, wz, aop, cV, cV1, AV.one, partCells, okW, onlyFr, app, sliceCells, cellsAt, srcA, subA, eqFs, Int.cast_ofNat_Int, simprocAttr]
  refine callQ.still 1 [1] k4 (by simp [frzN, frzK, frzL, frzV, wr]) ?_
  simp (maxSteps := 4000000) (disch := omega) only [step, stepv, ev, wl, wn, wp, wz, aop, cV, cV1, AV.one, partCells, okW, onlyFr, app, sliceCells, cellsAt, srcA, subA, eqFs, Int.cast_ofNat_Int, simprocAttr, stillAt]

/-! What a verdict says (plain). -/
end Go.Am

namespace Go.Am
open Go.RowKit

/-! ### Bits that are flipped (plain) -/

theorem byte_flip {V q r j : Nat} (hr : r < 8) : (V ^^^ 2 ^ (8 * q + r)) / 256 ^ j % 256 = if j = q then V / 256 ^ q % 256 ^^^ 2 ^ r else V / 256 ^ j % 256 := by
  rw [pow256, pow256, show (256 : Nat) = 2 ^ 8 from rfl]
  by_cases h : j = q
  · subst h
    rw [if_pos rfl]
    apply Nat.eq_of_testBit_eq
    intro i
    simp only [Nat.testBit_mod_two_pow, Nat.testBit_div_two_pow, Nat.testBit_xor, Nat.testBit_two_pow]
    by_cases hi : i < 8
    · simp only [hi, decide_true, Bool.true_and]
      congr 1
      by_cases e : r = i
      · simp [e, Nat.add_comm]
      · have : 8 * j + r ≠ i + 8 * j := by omega
        simp [e, this]
    · have : r ≠ i := by omega
      simp [hi, this]
  · rw [if_neg h]
    apply Nat.eq_of_testBit_eq
    intro i
    simp only [Nat.testBit_mod_two_pow, Nat.testBit_div_two_pow, Nat.testBit_xor, Nat.testBit_two_pow]
    by_cases hi : i < 8
    · have : 8 * q + r ≠ i + 8 * j := by omega
      simp [this]
    · simp [hi]
theorem leB_flip {V q r n : Nat} (hq : q < n) (hr : r < 8) : (leB V n).set q (UInt8.ofNat (V / 256 ^ q % 256 ^^^ 2 ^ r)) = leB (V ^^^ 2 ^ (8 * q + r)) n := by
  apply List.ext_getElem?
  intro j
  rw [List.getElem?_set]
  by_cases hj : j < n
  · rw [leB_get n (V ^^^ 2 ^ (8 * q + r)) j hj, byte_flip hr]
    by_cases e : q = j
    · subst e
      simp [leB_length, hj]
    · rw [if_neg e, leB_get n V j hj, if_neg (by omega)]
  · rw [List.getElem?_eq_none (by rw [leB_length]; omega), List.getElem?_eq_none (by rw [leB_length]; omega)]
    split
    · split
      · rename_i h1 h2; rw [leB_length] at h2; omega
      · rfl
    · rfl
theorem u8_flip {V q r n : Nat} (hq : q < n) (hr : r < 8) : (u8 (leB V n)).take q ++ .int .u8 ((V / 256 ^ q % 256 ^^^ 2 ^ r : Nat) : Int) :: (u8 (leB V n)).drop (q + 1) = u8 (leB (V ^^^ 2 ^ (8 * q + r)) n) := by
  have h2 : V / 256 ^ q % 256 ^^^ 2 ^ r < 2 ^ 8 := Nat.xor_lt_two_pow (Nat.mod_lt _ (by decide)) (Nat.pow_lt_pow_right (by decide) hr)
  rw [← leB_flip hq hr, List.set_eq_take_append_cons_drop, if_pos (by rw [leB_length]; exact hq), u8_take, u8_drop]
  simp only [u8, List.map_append, List.map_cons]
  congr 2
  have : (UInt8.ofNat (V / 256 ^ q % 256 ^^^ 2 ^ r)).toNat = V / 256 ^ q % 256 ^^^ 2 ^ r := UInt8.toNat_ofNat_of_lt h2
  rw [this]

def flV (V a B i : Nat) : Nat := V ^^^ 2 ^ a * (B % 2 ^ i)
theorem flV_zero (V a B : Nat) : flV V a B 0 = V := by simp [flV, Nat.mod_one]
theorem bit_one {B i : Nat} (h : B / 2 ^ i % 2 = 1) : B % 2 ^ (i + 1) = B % 2 ^ i ^^^ 2 ^ i := by
  apply Nat.eq_of_testBit_eq
  intro j
  simp only [Nat.testBit_mod_two_pow, Nat.testBit_xor, Nat.testBit_two_pow]
  have hb : B.testBit i = true := by
    rw [Nat.testBit_eq_decide_div_mod_eq]
    simp [h]
  by_cases e : i = j
  · subst e; simp [hb]
  · by_cases h1 : j < i
    · simp [h1, e, show j < i + 1 by omega]
    · simp [h1, e, show ¬ j < i + 1 by omega]
theorem bit_none {B i : Nat} (h : B / 2 ^ i % 2 = 0) : B % 2 ^ (i + 1) = B % 2 ^ i := by
  rw [Nat.pow_succ, Nat.mod_mul, h, Nat.mul_zero, Nat.add_zero]
theorem two_mul_xor (a x y : Nat) : 2 ^ a * (x ^^^ y) = 2 ^ a * x ^^^ 2 ^ a * y := by
  apply Nat.eq_of_testBit_eq
  intro j
  simp only [Nat.testBit_two_pow_mul, Nat.testBit_xor]
  cases decide (j ≥ a) <;> simp
theorem flV_one {V a B i : Nat} (h : B / 2 ^ i % 2 = 1) : flV V a B (i + 1) = flV V a B i ^^^ 2 ^ (a + i) := by
  unfold flV
  rw [bit_one h, two_mul_xor, ← Nat.pow_add, Nat.xor_assoc]
theorem flV_none {V a B i : Nat} (h : B / 2 ^ i % 2 = 0) : flV V a B (i + 1) = flV V a B i := by
  unfold flV
  rw [bit_none h]
theorem bit_pos {B i : Nat} (h : B / 2 ^ i % 2 = 1) : B % 2 ^ (i + 1) ≠ 0 := by
  rw [Nat.pow_succ, Nat.mod_mul, h]
  have := Nat.pow_pos (n := i) (show 0 < 2 by decide)
  omega
theorem flV_lt {V a B i n : Nat} (hV : V < 2 ^ n) (hi : a + i ≤ n) : flV V a B i < 2 ^ n := by
  refine Nat.xor_lt_two_pow hV ?_
  have h1 : B % 2 ^ i < 2 ^ i := Nat.mod_lt _ (Nat.pow_pos (by decide))
  have h2 : 2 ^ a * (B % 2 ^ i) < 2 ^ a * 2 ^ i := Nat.mul_lt_mul_of_pos_left h1 (Nat.pow_pos (by decide))
  rw [← Nat.pow_add] at h2
  exact Nat.lt_of_lt_of_le h2 (Nat.pow_le_pow_right (by decide) hi)
theorem open_fl {b : List UInt8} {a B i : Nat} (h : openM b = 0) (hi : i ≤ 32) (ha : a + i ≤ 8 * b.length) (h0 : B % 2 ^ i ≠ 0) : openM (leB (flV (leN b) a B i) b.length) = 22 := by
  have hl : (leB (flV (leN b) a B i) b.length).length = b.length := leB_length _ _
  have hlt := flV_lt (B := B) (leN_lt b) ha
  rw [Nat.pow_mul] at hlt
  have h2 : B % 2 ^ i < 4294967296 := by
    have h3 : B % 2 ^ i < 2 ^ i := Nat.mod_lt _ (Nat.pow_pos (by decide))
    have h4 : 2 ^ i ≤ 2 ^ 32 := Nat.pow_le_pow_right (by decide) hi
    omega
  refine open_burst h hl ?_ h0 h2 (a := a) (by omega)
  rw [leN_leB _ _ hlt, flV, ← Nat.xor_assoc, Nat.xor_self, Nat.zero_xor]
theorem errD_open {c x n : Int} {t : List Int} {b : List UInt8} (h : ask21 c x n = 0) (ho : openM b ≠ 0) : errD c x t n b = (openM b : Nat) := by
  unfold errD
  rw [if_neg (by omega), if_pos ho]
theorem judA_open {c x n : Int} {t : List Int} {b : List UInt8} (h : ask21 c x n = 0) (ho : openM b = 22) : judA c x t n b = .tup [.agg [.int .i64 22, .int .i64 0], .int .i64 0] := by
  have he := errD_open (t := t) h (b := b) (by omega)
  rw [ho] at he
  rw [judA, if_neg (by omega), judG, if_neg (by omega), if_neg (by omega), he]
  rfl
theorem heaA_open {c x n : Int} {t : List Int} {b : List UInt8} (h : ask21 c x n = 0) (ho : openM b = 22) : heaA c x t n b = .tup [il (silL c n), .bool false, .int .i64 0] := by
  have he := errD_open (t := t) h (b := b) (by omega)
  rw [heaA, if_neg (by omega), if_neg (by omega)]

end Go.Am

namespace Go.Am
open Go.RowKit

/-! ### The law VerdictBursts -/

def S_LawBursts (P : Prg) (f : Nat) : Prop := ∀ (c x : Int) (t l : List Int) (a B : Int), t.length = 16 → I32 t → I32 l → 0 ≤ B → B ≤ 4294967295 → VC P f [shA c x, .agg (ks .i32 t), il l, .int .i64 a, .int .u32 B] (.bool true)
set_option maxHeartbeats 2000000 in
set_option maxRecDepth 20000 in
theorem law23_VerdictBursts {P : Prg} {f fA fQ fE fJ fH fI t0 t1 t2 t3 t4 : Nat} (bd : Body P f 152 [.tmp 10] (ac_cadenzalaw23_VerdictBursts fA fQ fE fJ fH fI t0 t1 t2 t3 t4)) (hA : S_alive21 P fA) (hQ : S_EAsk P fQ) (hE : S_Enc P fE) (hJ : S_Judge P fJ) (hH : S_Heal P fH) (hI0 : S_ISame P fI) : S_LawBursts P f := by
  intro c x t l a B ht hI hL hB0 hB1
  obtain ⟨B, rfl⟩ : ∃ b : Nat, B = b := ⟨B.toNat, by omega⟩
  have hk : (ks .i32 t).length = 16 := by simp [ks_length, ht]
  have tt : (ks .i32 t).take 16 = ks .i32 t := take_all (by omega)
  have ot := ks_one .i32 t
  have tl := isTL_ks .i32 l
  refine VC.of_acall (by simp [isDL, isD, isD_il, isDL_ks, shA]) rfl (ACall.of_cut 10 bd (by simp) ?_)
  have hA' : VC P fA [] (.bool true) := hA
  have hQ' := hQ c x l hL
  have hE' := hE c x t l ht hI hL
  simp only [shA, il] at hQ' hE' ⊢
  have hll : (ks .i32 l).length = l.length := ks_length _ _
  by_cases h1 : 300 < l.length
  · simp (maxSteps := 4000000) (disch := omega) only [step, stepv, ev, wl, wn, wp, wz, aop, cV, cV1, AV.one, partCells, okW, onlyFr, app, sliceCells, cellsAt, srcA, subA, eqFs, Int.cast_ofNat_Int, simprocAttr, ac_cadenzalaw23_VerdictBursts, cuts, hk, ot, tt]
    refine callQ.vc hA' ?_
    simp (maxSteps := 4000000) (disch := omega) only [step, stepv, ev, wl, wn, wp, wz, aop, cV, cV1, AV.one, partCells, okW, onlyFr, app, sliceCells, cellsAt, srcA, subA, eqFs, Int.cast_ofNat_Int, simprocAttr, cuts]
  by_cases h0 : askN c x l = 0
  case neg =>
    simp (maxSteps := 4000000) (disch := omega) only [step, stepv, ev, wl, wn, wp, wz, aop, cV, cV1, AV.one, partCells, okW, onlyFr, app, sliceCells, cellsAt, srcA, subA, eqFs, Int.cast_ofNat_Int, simprocAttr, ac_cadenzalaw23_VerdictBursts, cuts, hk, ot, tt]
    refine callQ.vc hA' ?_
    simp (maxSteps := 4000000) (disch := omega) only [step, stepv, ev, wl, wn, wp, wz, aop, cV, cV1, AV.one, partCells, okW, onlyFr, app, sliceCells, cellsAt, srcA, subA, eqFs, Int.cast_ofNat_Int, simprocAttr, cuts, h1]
    refine callQ.vc hQ' ?_
    simp (maxSteps := 4000000) (disch := omega) only [step, stepv, ev, wl, wn, wp, wz, aop, cV, cV1, AV.one, partCells, okW, onlyFr, app, sliceCells, cellsAt, srcA, subA, eqFs, Int.cast_ofNat_Int, simprocAttr, cuts, h0]
  rw [h0] at hQ'
  by_cases h2 : a < 0
  · simp (maxSteps := 4000000) (disch := omega) only [step, stepv, ev, wl, wn, wp, wz, aop, cV, cV1, AV.one, partCells, okW, onlyFr, app, sliceCells, cellsAt, srcA, subA, eqFs, Int.cast_ofNat_Int, simprocAttr, ac_cadenzalaw23_VerdictBursts, cuts, hk, ot, tt]
    refine callQ.vc hA' ?_
    simp (maxSteps := 4000000) (disch := omega) only [step, stepv, ev, wl, wn, wp, wz, aop, cV, cV1, AV.one, partCells, okW, onlyFr, app, sliceCells, cellsAt, srcA, subA, eqFs, Int.cast_ofNat_Int, simprocAttr, cuts, h1]
    refine callQ.vc hQ' ?_
    simp (maxSteps := 4000000) (disch := omega) only [step, stepv, ev, wl, wn, wp, wz, aop, cV, cV1, AV.one, partCells, okW, onlyFr, app, sliceCells, cellsAt, srcA, subA, eqFs, Int.cast_ofNat_Int, simprocAttr, cuts, h2]
  obtain ⟨a, rfl⟩ : ∃ n : Nat, a = n := ⟨a.toNat, by omega⟩
  by_cases h3 : B = 0
  · subst h3
    simp (maxSteps := 4000000) (disch := omega) only [step, stepv, ev, wl, wn, wp, wz, aop, cV, cV1, AV.one, partCells, okW, onlyFr, app, sliceCells, cellsAt, srcA, subA, eqFs, Int.cast_ofNat_Int, simprocAttr, ac_cadenzalaw23_VerdictBursts, cuts, hk, ot, tt]
    refine callQ.vc hA' ?_
    simp (maxSteps := 4000000) (disch := omega) only [step, stepv, ev, wl, wn, wp, wz, aop, cV, cV1, AV.one, partCells, okW, onlyFr, app, sliceCells, cellsAt, srcA, subA, eqFs, Int.cast_ofNat_Int, simprocAttr, cuts, h1]
    refine callQ.vc hQ' ?_
    simp (maxSteps := 4000000) (disch := omega) only [step, stepv, ev, wl, wn, wp, wz, aop, cV, cV1, AV.one, partCells, okW, onlyFr, app, sliceCells, cellsAt, srcA, subA, eqFs, Int.cast_ofNat_Int, simprocAttr, cuts, h2]
  obtain ⟨hle1, hle2⟩ := enc_le (t := t) hL h0
  obtain ⟨k, m, rfl, hkM, hx, e1, e2, e3, e4, e5, e6⟩ := ask_all hL h0
  obtain ⟨c1, c6, l0, l4, lm, _⟩ := hkM
  have hc0 : (k : Int) ≠ 0 := by omega
  have hmle : m ≤ l.length := by rw [e3]; exact Nat.le_mul_of_pos_right m c1
  have e5' : ((l.length : Int)).tdiv (k : Int) = (m : Int) := by rw [Int.tdiv_eq_ediv_of_nonneg (by omega)]; exact e5
  have h21 : ask21 k x m = 0 := by rw [← e5]; exact e6
  rw [enfA_ok h0] at hE'
  rw [Int.toNat_natCast] at hle1 hle2
  have hJ0 := fun b (hb : b.length ≤ 1000000) => hJ k x m t b ht hI hb
  have hH0 := fun b (hb : b.length ≤ 1000000) => hH k x m t b ht hI hb
  have ho : openM (encB k x t l) = 0 := by
    have hvl := valE_len k x t l
    obtain ⟨b1, b2⟩ := frmB_bounds (c := k) (valE_ok k x t l) (by omega) (by omega)
    exact open_seal b1 (by omega)
  have hfl := fun A i => open_fl (a := A) (B := B) (i := i) ho
  simp only [shA, bs] at hE'
  generalize hb : encB k x t l = b at *
  have hbl : (u8 b).length = b.length := u8_length b
  obtain ⟨A, hAdef⟩ : ∃ A, A = a % (8 * b.length) := ⟨_, rfl⟩
  have hA1 : A < 8 * b.length := by rw [hAdef]; exact Nat.mod_lt _ (by omega)
  have r1 : (a : Int) % (8 * (b.length : Int)) = (A : Int) := by rw [hAdef]; simp
  have r1' : ((a : Int)).tmod (8 * (b.length : Int)) = (A : Int) := by rw [Int.tmod_eq_emod_of_nonneg (by omega)]; exact r1
  have r2 : 8 * (b.length : Int) ≠ 0 := by omega
  simp (maxSteps := 4000000) (disch := omega) only [step, stepv, ev, wl, wn, wp, wz, aop, cV, cV1, AV.one, partCells, okW, onlyFr, app, sliceCells, cellsAt, srcA, subA, eqFs, Int.cast_ofNat_Int, simprocAttr, ac_cadenzalaw23_VerdictBursts, cuts, hk, ot, tt]
  refine callQ.vc hA' ?_
  simp (maxSteps := 4000000) (disch := omega) only [step, stepv, ev, wl, wn, wp, wz, aop, cV, cV1, AV.one, partCells, okW, onlyFr, app, sliceCells, cellsAt, srcA, subA, eqFs, Int.cast_ofNat_Int, simprocAttr, cuts, h1]
  refine callQ.vc hQ' ?_
  simp (maxSteps := 4000000) (disch := omega) only [step, stepv, ev, wl, wn, wp, wz, aop, cV, cV1, AV.one, partCells, okW, onlyFr, app, sliceCells, cellsAt, srcA, subA, eqFs, Int.cast_ofNat_Int, simprocAttr, cuts, h2, hk, ot, tt]
  refine callQ.vc hE' ?_
  simp (maxSteps := 4000000) (disch := omega) only [step, stepv, ev, wl, wn, wp, wz, aop, cV, cV1, AV.one, partCells, okW, onlyFr, app, sliceCells, cellsAt, srcA, subA, eqFs, Int.cast_ofNat_Int, simprocAttr, cuts, hbl, r1, r1', r2]
  have hlV := fun i (hi : A + i ≤ 8 * b.length) => flV_lt (B := B) (leN_lt b) hi
  have hV0 : leB (flV (leN b) A B 0) b.length = b := by rw [flV_zero, leB_leN]
  have hdT : ∀ V, isTL (u8 (leB V b.length)) = true := fun V => isT_u8 _
  have hln : ∀ V, (u8 (leB V b.length)).length = b.length := fun V => by rw [u8_length, leB_length]
  refine ALoop.by (ι := Nat) (fun i => ⟨[(16, .int .i64 i), (15, .bool (decide (B % 2 ^ i ≠ 0))), (14, .own 2 b.length), (12, .list b.length (u8 b)), (11, .bool true), (6, .ref 1 1 0), (5, .ref 0 1 0), (4, .int .u32 B), (3, .int .i64 A), (2, .list l.length (ks .i32 l))],
      [⟨t0, 2, 1, [.int .i64 k, .int .i64 x], 0⟩, ⟨t1, 16, 1, ks .i32 t, 0⟩, ⟨t2, 1, b.length, u8 (leB (flV (leN b) A B i) b.length), 0⟩]⟩) (fun i => i ≤ 32 ∧ A + i ≤ 8 * b.length) (fun i => 32 - i) 0 ?_ (by omega) ?_
  · rw [hV0, show decide (B % 2 ^ 0 ≠ 0) = false by simp [Nat.mod_one]]
    exact Le.slots (by simp [Am.look])
  intro i hi
  obtain ⟨hi1, hi2⟩ := hi
  by_cases hlt : i < 32 ∧ A + i < 8 * b.length
  · obtain ⟨q1, q2⟩ := hlt
    obtain ⟨M, hM⟩ : ∃ M, M = A + i := ⟨_, rfl⟩
    obtain ⟨q, hq⟩ : ∃ q, q = M / 8 := ⟨_, rfl⟩
    obtain ⟨r, hr⟩ : ∃ r, r = M % 8 := ⟨_, rfl⟩
    obtain ⟨d, hd⟩ : ∃ d, d = B / 2 ^ i % 2 := ⟨_, rfl⟩
    have hM8 : 8 * q + r = M := by omega
    have hMi : (A : Int) + (i : Int) = (M : Int) := by omega
    have s1 : shiftA false .u32 (B : Int) (i : Int) = some (.int .u32 ((B / 2 ^ i : Nat) : Int)) := shrK (K := .u32) (by show i ≤ 32; omega)
    have hBi : B / 2 ^ i ≤ B := Nat.div_le_self _ _
    have s2 : IntKind.u32.wrap (BitVec.ofInt IntKind.u32.bits ((B / 2 ^ i : Nat) : Int) &&& BitVec.ofInt IntKind.u32.bits 1).toNat = (d : Int) := by
      have := andK (K := .u32) rfl (a := B / 2 ^ i) (b := 1) (by show B / 2 ^ i < 4294967296; omega) (by decide)
      rw [Nat.and_one_is_mod, ← hd] at this
      exact this
    generalize B / 2 ^ i = Bi at s1 s2 hBi
    by_cases hd1 : d = 1
    · have hd' : B / 2 ^ i % 2 = 1 := by omega
      have f1 := flV_one (V := leN b) (a := A) hd'
      have f2 : decide (B % 2 ^ (i + 1) ≠ 0) = true := by simpa using bit_pos hd'
      rw [← hM, ← hM8] at f1
      have hqb : q < b.length := by omega
      have hr8 : r < 8 := by omega
      have hat := leB_at (V := flV (leN b) A B i) (k := b.length) (i := q) hqb
      have hst := u8_flip (V := flV (leN b) A B i) hqb hr8
      rw [← f1] at hst
      have hy : flV (leN b) A B i / 256 ^ q % 256 < 256 := Nat.mod_lt _ (by decide)
      have hp : 2 ^ r < 2 ^ 8 := Nat.pow_lt_pow_right (by decide) hr8
      have s3 : shiftA true .u8 1 (r : Int) = some (.int .u8 ((2 ^ r : Nat) : Int)) := by
        have := shlK (K := .u8) rfl (c := 1) (s := r) (by show r ≤ 8; omega) (by rw [Nat.one_mul]; exact hp)
        rw [Nat.one_mul] at this
        exact this
      have s4 := xorK (K := .u8) rfl (a := flV (leN b) A B i / 256 ^ q % 256) (b := 2 ^ r) hy hp
      have s5 : (u8 (leB (flV (leN b) A B i) b.length)).take q ++ [.int .u8 ((flV (leN b) A B i / 256 ^ q % 256 ^^^ 2 ^ r : Nat) : Int)] ++ (u8 (leB (flV (leN b) A B i) b.length)).drop (q + 1) = u8 (leB (flV (leN b) A B (i + 1)) b.length) := by
        rw [← hst]; simp
      generalize flV (leN b) A B i / 256 ^ q % 256 ^^^ 2 ^ r = z at *
      generalize flV (leN b) A B i / 256 ^ q % 256 = y at *
      generalize 2 ^ r = p at *
      have j1 : (M : Int) / 8 = (q : Int) := by omega
      have j2 : ((M : Int)).tdiv 8 = (q : Int) := by rw [Int.tdiv_eq_ediv_of_nonneg (by omega)]; exact j1
      have j3 : (M : Int) % 8 = (r : Int) := by omega
      have j4 : ((M : Int)).tmod 8 = (r : Int) := by rw [Int.tmod_eq_emod_of_nonneg (by omega)]; exact j3
      subst hd1
      generalize hVV : leB (flV (leN b) A B i) b.length = V at *
      generalize hWW : leB (flV (leN b) A B (i + 1)) b.length = W at *
      have hln' : (u8 V).length = b.length := by rw [← hVV]; exact hln _
      simp (maxSteps := 4000000) (disch := omega) only [step, stepv, ev, wl, wn, wp, wz, aop, cV, cV1, AV.one, partCells, okW, onlyFr, app, sliceCells, cellsAt, srcA, subA, eqFs, Int.cast_ofNat_Int, simprocAttr, cuts, hbl, hMi, s1, s2, j1, j2, j3, j4, hln', hat, s3, s4, s5, hst]
      refine ⟨i + 1, by omega, by omega, ?_⟩
      simp only [hWW, f2]
      exact Le.slots (by simp [Am.look])
    · have hd0 : d = 0 := by omega
      have hd' : B / 2 ^ i % 2 = 0 := by omega
      have f1 := flV_none (V := leN b) (a := A) hd'
      have f2 := bit_none hd'
      subst hd0
      simp (maxSteps := 4000000) (disch := omega) only [step, stepv, ev, wl, wn, wp, wz, aop, cV, cV1, AV.one, partCells, okW, onlyFr, app, sliceCells, cellsAt, srcA, subA, eqFs, Int.cast_ofNat_Int, simprocAttr, cuts, hbl, hMi, s1, s2]
      refine ⟨i + 1, by omega, by omega, ?_⟩
      simp only [f1, f2]
      exact Le.slots (by simp [Am.look])
  · by_cases hz : B % 2 ^ i = 0
    · have hz' : decide (B % 2 ^ i ≠ 0) = false := by simp [hz]
      by_cases q1 : i < 32
      · have q2 : ¬ A + i < 8 * b.length := by omega
        have q2' : ¬ ((A : Int) + (i : Int) < 8 * (b.length : Int)) := by omega
        simp (maxSteps := 4000000) (disch := omega) only [step, stepv, ev, wl, wn, wp, wz, aop, cV, cV1, AV.one, partCells, okW, onlyFr, app, sliceCells, cellsAt, srcA, subA, eqFs, Int.cast_ofNat_Int, simprocAttr, cuts, hbl, hz', q2']
      · simp (maxSteps := 4000000) (disch := omega) only [step, stepv, ev, wl, wn, wp, wz, aop, cV, cV1, AV.one, partCells, okW, onlyFr, app, sliceCells, cellsAt, srcA, subA, eqFs, Int.cast_ofNat_Int, simprocAttr, cuts, hbl, hz']
    · have hz' : decide (B % 2 ^ i ≠ 0) = true := by simp [hz]
      have hf := hfl A i hi1 hi2 hz
      have hbl2 : (leB (flV (leN b) A B i) b.length).length = b.length := leB_length _ _
      have hJ' := hJ0 (leB (flV (leN b) A B i) b.length) (by omega)
      have hH' := hH0 (leB (flV (leN b) A B i) b.length) (by omega)
      rw [judA_open h21 hf] at hJ'
      rw [heaA_open h21 hf] at hH'
      have hsl : silL k m = List.replicate l.length 0 := by unfold silL; simp only [Int.toNat_natCast]; rw [e3]
      rw [hsl] at hH'
      have hIs := hI0 (List.replicate l.length 0) (by simp; omega)
      have er := sil_ks l.length
      have hzl : (ks .i32 (List.replicate l.length 0)).length = l.length := by rw [ks_length]; simp
      have tz : isTL (ks .i32 (List.replicate l.length 0)) = true := isTL_ks _ _
      have tV := hdT (flV (leN b) A B i)
      simp only [shA, il, bs, List.length_replicate, hbl2] at hJ' hH' hIs
      generalize u8 (leB (flV (leN b) A B i) b.length) = V at *
      generalize ks .i32 (List.replicate l.length 0) = Z at *
      by_cases q1 : i < 32
      · have q2' : ¬ ((A : Int) + (i : Int) < 8 * (b.length : Int)) := by omega
        simp (maxSteps := 4000000) (disch := omega) only [step, stepv, ev, wl, wn, wp, wz, aop, cV, cV1, AV.one, partCells, okW, onlyFr, app, sliceCells, cellsAt, srcA, subA, eqFs, Int.cast_ofNat_Int, simprocAttr, cuts, hbl, hz', q2']
        refine ⟨⟨[(14, .list b.length V), (12, .list b.length (u8 b)), (11, .bool true), (6, .ref 1 1 0), (5, .ref 0 1 0), (2, .list l.length (ks .i32 l))], [⟨t0, 2, 1, [.int .i64 k, .int .i64 x], 0⟩, ⟨t1, 16, 1, ks .i32 t, 0⟩]⟩, Le.dropT [_, _] (by simp [isTL_ks, isTL, isT]) (by simp [Am.look, frzK, frzL, frzV, frzL_T _ tl, frzL_T _ tV, frzL_T _ (isT_u8 b)]), ?_⟩
        simp (maxSteps := 4000000) (disch := omega) only [step, stepv, ev, wl, wn, wp, wz, aop, cV, cV1, AV.one, partCells, okW, onlyFr, app, sliceCells, cellsAt, srcA, subA, eqFs, Int.cast_ofNat_Int, simprocAttr, cuts, hk, ot, tt, hll, e5, e5', hc0]
        refine callQ.vc hJ' ?_
        simp (maxSteps := 4000000) (disch := omega) only [step, stepv, ev, wl, wn, wp, wz, aop, cV, cV1, AV.one, partCells, okW, onlyFr, app, sliceCells, cellsAt, srcA, subA, eqFs, Int.cast_ofNat_Int, simprocAttr, cuts, hk, ot, tt]
        refine callQ.vc hH' ?_
        simp (maxSteps := 4000000) (disch := omega) only [step, stepv, ev, wl, wn, wp, wz, aop, cV, cV1, AV.one, partCells, okW, onlyFr, app, sliceCells, cellsAt, srcA, subA, eqFs, Int.cast_ofNat_Int, simprocAttr, cuts, hll, er, hzl]
        refine callQ.still 1 [3] hIs (by simp [frzN, frzK, frzL, frzV, frzL_T _ tz]) ?_
        simp (maxSteps := 4000000) (disch := omega) only [step, stepv, ev, wl, wn, wp, wz, aop, cV, cV1, AV.one, partCells, okW, onlyFr, app, sliceCells, cellsAt, srcA, subA, eqFs, Int.cast_ofNat_Int, simprocAttr, cuts]
      · simp (maxSteps := 4000000) (disch := omega) only [step, stepv, ev, wl, wn, wp, wz, aop, cV, cV1, AV.one, partCells, okW, onlyFr, app, sliceCells, cellsAt, srcA, subA, eqFs, Int.cast_ofNat_Int, simprocAttr, cuts, hbl, hz']
        refine ⟨⟨[(14, .list b.length V), (12, .list b.length (u8 b)), (11, .bool true), (6, .ref 1 1 0), (5, .ref 0 1 0), (2, .list l.length (ks .i32 l))], [⟨t0, 2, 1, [.int .i64 k, .int .i64 x], 0⟩, ⟨t1, 16, 1, ks .i32 t, 0⟩]⟩, Le.dropT [_, _] (by simp [isTL_ks, isTL, isT]) (by simp [Am.look, frzK, frzL, frzV, frzL_T _ tl, frzL_T _ tV, frzL_T _ (isT_u8 b)]), ?_⟩
        simp (maxSteps := 4000000) (disch := omega) only [step, stepv, ev, wl, wn, wp, wz, aop, cV, cV1, AV.one, partCells, okW, onlyFr, app, sliceCells, cellsAt, srcA, subA, eqFs, Int.cast_ofNat_Int, simprocAttr, cuts, hk, ot, tt, hll, e5, e5', hc0]
        refine callQ.vc hJ' ?_
        simp (maxSteps := 4000000) (disch := omega) only [step, stepv, ev, wl, wn, wp, wz, aop, cV, cV1, AV.one, partCells, okW, onlyFr, app, sliceCells, cellsAt, srcA, subA, eqFs, Int.cast_ofNat_Int, simprocAttr, cuts, hk, ot, tt]
        refine callQ.vc hH' ?_
        simp (maxSteps := 4000000) (disch := omega) only [step, stepv, ev, wl, wn, wp, wz, aop, cV, cV1, AV.one, partCells, okW, onlyFr, app, sliceCells, cellsAt, srcA, subA, eqFs, Int.cast_ofNat_Int, simprocAttr, cuts, hll, er, hzl]
        refine callQ.still 1 [3] hIs (by simp [frzN, frzK, frzL, frzV, frzL_T _ tz]) ?_
        simp (maxSteps := 4000000) (disch := omega) only [step, stepv, ev, wl, wn, wp, wz, aop, cV, cV1, AV.one, partCells, okW, onlyFr, app, sliceCells, cellsAt, srcA, subA, eqFs, Int.cast_ofNat_Int, simprocAttr, cuts]

end Go.Am

namespace Go.Am
open Go.RowKit

theorem wf_u32 {n : Int} (h : (Lit.int .u32 n).wf = true) : 0 ≤ n ∧ n ≤ 4294967295 := by
  simpa [Lit.wf, IntKind.min, IntKind.max, IntKind.signed, IntKind.bits] using h
end Go.Am
