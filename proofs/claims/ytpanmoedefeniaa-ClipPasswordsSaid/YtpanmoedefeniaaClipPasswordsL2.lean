/- What the functions that the law reaches return, for every program that has their code; the conditions stand in each statement. -/
import Derived.Test.YtpanmoedefeniaaClipPasswordsL1
set_option linter.unusedSectionVars false
set_option linter.unusedSimpArgs false
set_option linter.unusedVariables false
namespace Go.Am
open Go.RowKit

/-! ### Codes are written: unary, rice, dual -/

def uN (n : Nat) : Nat := min (n + 1) 48
def S_uLen (P : Prg) (f : Nat) : Prop := ∀ n : Nat, n ≤ 48 → VC P f [.int .i64 n] (.tup [.int .i64 (uN n), .int .i64 0])
theorem unary_Length {P : Prg} {f : Nat} (bd : Body P f 13 [.tmp 2, .tmp 3] ac_unary_Length) : S_uLen P f := by
  intro n hn
  refine VC.of_acall rfl rfl (ACall.of_body bd (by simp) ?_)
  have e1 : (if (48 : Int) < (n : Int) + 1 then (48 : Int) else (n : Int) + 1) = (uN n : Nat) := by unfold uN; split <;> omega
  simp (maxSteps := 4000000) (disch := omega) only [abv, step, stepv, ev, wl, wn, wp, wz, aop, cV, cV1, AV.one, partCells, okW, onlyFr, app, sliceCells, cellsAt, srcA, subA, eqFs, Int.cast_ofNat_Int, simprocAttr, ac_unary_Length, e1]

theorem pow_lt_64 {n : Nat} (h : n ≤ 48) : 2 ^ n ≤ 281474976710656 := Nat.pow_le_pow_right (by omega) h
def S_uWrite (P : Prg) (f : Nat) : Prop := ∀ N V n : Nat, V < 2 ^ N → n ≤ 48 → N + uN n ≤ 330000 → VC P f [bA N V, .int .i64 n] (.tup [bA (N + uN n) (V + 2 ^ N * (2 ^ n - 1)), .int .i64 0])
theorem unary_Write {P : Prg} {f fC fL fP t0 : Nat} (bd : Body P f 32 [.cell 4 t0, .tmp 5] (ac_unary_Write fC fL fP t0)) (hC : S_bCheck P fC) (hL : S_uLen P fL) (hP : S_bPut P fP) (ht : aggO P t0 = some (some 2)) : S_uWrite P f := by
  intro N V n hV hn hN
  refine VC.of_walk 1 (by simp [isDL, isD_bA, isD]) (by simp [isD, isDL, isD_bA]) (ACall.of_body bd (by simp) ?_)
  have hC' := hC N V hV (by omega)
  have hL' := hL n hn
  have hp := pow_lt_64 hn
  have hpos : 0 < 2 ^ n := Nat.pow_pos (by omega)
  have hlt : 2 ^ n - 1 < 2 ^ uN n := by
    unfold uN
    rcases Nat.lt_or_ge n 48 with h | h
    · rw [Nat.min_eq_left (by omega), Nat.pow_succ]; omega
    · obtain rfl : n = 48 := by omega
      decide
  have hP' := hP N V (2 ^ n - 1) (uN n) hV hlt (by unfold uN; omega) hN
  have e3 : shiftA true .u64 1 (n : Int) = some (.int .u64 ((2 ^ n : Nat) : Int)) := by
    have := shlK (K := .u64) rfl (c := 1) (s := n) (by show n ≤ 64; omega) (by show 1 * 2 ^ n < 18446744073709551616; omega)
    rw [Nat.one_mul] at this
    exact this
  have e4 : IntKind.u64.wrap (((2 ^ n : Nat) : Int) - 1) = ((2 ^ n - 1 : Nat) : Int) := by rw [wrap_u64_mod]; omega
  generalize V + 2 ^ N * (2 ^ n - 1) = W at *
  generalize 2 ^ n - 1 = x at *
  generalize 2 ^ n = p at *
  generalize uN n = u at *
  have tl : isTL (u8 (leB W (nB (N + u)))) = true := isT_u8 _
  simp only [bA] at hC' hP' ⊢
  simp (maxSteps := 4000000) (disch := omega) only [abv, step, stepv, ev, wl, wn, wp, wz, aop, cV, cV1, AV.one, partCells, okW, onlyFr, app, sliceCells, cellsAt, srcA, subA, eqFs, Int.cast_ofNat_Int, simprocAttr, ac_unary_Write]
  refine callQ.vc hC' ?_
  simp (maxSteps := 4000000) (disch := omega) only [abv, step, stepv, ev, wl, wn, wp, wz, aop, cV, cV1, AV.one, partCells, okW, onlyFr, app, sliceCells, cellsAt, srcA, subA, eqFs, Int.cast_ofNat_Int, simprocAttr]
  refine callQ.vc hL' ?_
  simp (maxSteps := 4000000) (disch := omega) only [abv, step, stepv, ev, wl, wn, wp, wz, aop, cV, cV1, AV.one, partCells, okW, onlyFr, app, sliceCells, cellsAt, srcA, subA, eqFs, Int.cast_ofNat_Int, simprocAttr, e3, e4]
  refine callD.vc hP' ?_
  simp (maxSteps := 4000000) (disch := omega) only [abv, step, stepv, ev, wl, wn, wp, wz, aop, cV, cV1, AV.one, partCells, okW, onlyFr, app, sliceCells, cellsAt, srcA, subA, eqFs, Int.cast_ofNat_Int, simprocAttr, resA, ht, oneOf]
  simp [frzN, frzK, frzL, frzV, frzL_T _ tl]

def S_rWrite (P : Prg) (f : Nat) : Prop := ∀ N V v k : Nat, V < 2 ^ N → v < 4294967296 → k ≤ 24 → N + 80 ≤ 330000 → VC P f [bA N V, .int .u32 v, .int .i64 k] (.tup [bA (N + riceN v k) (V + 2 ^ N * riceC v k), .int .i64 0])
theorem rice_Write {P : Prg} {f fC fE fU fP t0 : Nat} (bd : Body P f 57 [.cell 6 t0, .tmp 7] (ac_rice_Write fC fE fU fP t0)) (hC : S_bCheck P fC) (hE : S_esc P fE) (hU : S_uWrite P fU) (hP : S_bPut P fP) (ht : aggO P t0 = some (some 2)) : S_rWrite P f := by
  intro N V v k hV hv hk hN
  refine VC.of_walk 1 (by simp [isDL, isD_bA, isD]) (by simp [isD, isDL, isD_bA]) (ACall.of_body bd (by simp) ?_)
  have hC' := hC N V hV (by omega)
  have hE' := hE v k hk hv
  obtain ⟨q1, _⟩ := p24 hk
  have hpk : 0 < 2 ^ k := Nat.pow_pos (by omega)
  have e1 : shiftA false .u32 (v : Int) (k : Int) = some (.int .u32 ((v / 2 ^ k : Nat) : Int)) := shrK (K := .u32) (by show k ≤ 32; omega)
  have e2 : shiftA true .u32 1 (k : Int) = some (.int .u32 ((2 ^ k : Nat) : Int)) := by
    have := shlK (K := .u32) rfl (c := 1) (s := k) (by show k ≤ 32; omega) (by show 1 * 2 ^ k < 4294967296; omega)
    rw [Nat.one_mul] at this
    exact this
  have e3 : IntKind.u32.wrap (((2 ^ k : Nat) : Int) - 1) = ((2 ^ k - 1 : Nat) : Int) := by rw [wrap_u32_mod]; omega
  have e4 : IntKind.u32.wrap (BitVec.ofInt IntKind.u32.bits (v : Int) &&& BitVec.ofInt IntKind.u32.bits ((2 ^ k - 1 : Nat) : Int)).toNat = ((v % 2 ^ k : Nat) : Int) := by
    rw [andK (K := .u32) rfl hv (by show 2 ^ k - 1 < 4294967296; omega), Nat.and_two_pow_sub_one_eq_mod]
  have hqv : v / 2 ^ k ≤ v := Nat.div_le_self _ _
  have hrv : v % 2 ^ k < 2 ^ k := Nat.mod_lt _ hpk
  unfold riceN riceC
  by_cases hq : 48 ≤ v / 2 ^ k
  · rw [if_pos hq, if_pos hq]
    simp only [hq, decide_true] at hE'
    have hU' := hU N V 48 hV (Nat.le_refl _) (by unfold uN; omega)
    have hu : uN 48 = 48 := rfl
    rw [hu] at hU'
    have hV1 : V + 2 ^ N * (2 ^ 48 - 1) < 2 ^ (N + 48) := lt_append hV (by decide)
    have hP' := hP (N + 48) (V + 2 ^ N * (2 ^ 48 - 1)) v 32 hV1 hv (by omega) (by omega)
    have hW : V + 2 ^ N * (2 ^ 48 - 1) + 2 ^ (N + 48) * v = V + 2 ^ N * (2 ^ 48 - 1 + 2 ^ 48 * v) := by rw [Nat.pow_add, Nat.mul_add, Nat.mul_assoc, Nat.add_assoc]
    rw [hW] at hP'
    generalize V + 2 ^ N * (2 ^ 48 - 1 + 2 ^ 48 * v) = W at *
    generalize V + 2 ^ N * (2 ^ 48 - 1) = W1 at *
    have hNN : N + 48 + 32 = N + 80 := by omega
    rw [hNN] at hP'
    have tl : isTL (u8 (leB W (nB (N + 80)))) = true := isT_u8 _
    simp only [bA] at hC' hP' hU' ⊢
    have hU'' : VC P fU [.agg [.list (nB N) (u8 (leB V (nB N))), .int .i64 N], .int .i64 48] (.tup [.agg [.list (nB (N + 48)) (u8 (leB W1 (nB (N + 48)))), .int .i64 ((N + 48 : Nat) : Int)], .int .i64 0]) := hU'
    have hP'' : VC P fP [.agg [.list (nB (N + 48)) (u8 (leB W1 (nB (N + 48)))), .int .i64 ((N + 48 : Nat) : Int)], .int .u64 v, .int .i64 32] (.tup [.agg [.list (nB (N + 80)) (u8 (leB W (nB (N + 80)))), .int .i64 ((N + 80 : Nat) : Int)], .int .i64 0]) := hP'
    generalize v / 2 ^ k = q at *
    generalize v % 2 ^ k = r at *
    generalize 2 ^ k - 1 = mk at *
    generalize 2 ^ k = pk at *
    simp (maxSteps := 4000000) (disch := omega) only [abv, step, stepv, ev, wl, wn, wp, wz, aop, cV, cV1, AV.one, partCells, okW, onlyFr, app, sliceCells, cellsAt, srcA, subA, eqFs, Int.cast_ofNat_Int, simprocAttr, ac_rice_Write]
    refine callQ.vc hC' ?_
    simp (maxSteps := 4000000) (disch := omega) only [abv, step, stepv, ev, wl, wn, wp, wz, aop, cV, cV1, AV.one, partCells, okW, onlyFr, app, sliceCells, cellsAt, srcA, subA, eqFs, Int.cast_ofNat_Int, simprocAttr, e1, e2, e3, e4]
    refine callQ.vc hE' ?_
    simp (maxSteps := 4000000) (disch := omega) only [abv, step, stepv, ev, wl, wn, wp, wz, aop, cV, cV1, AV.one, partCells, okW, onlyFr, app, sliceCells, cellsAt, srcA, subA, eqFs, Int.cast_ofNat_Int, simprocAttr]
    refine callQ.vc hU'' ?_
    simp (maxSteps := 4000000) (disch := omega) only [abv, step, stepv, ev, wl, wn, wp, wz, aop, cV, cV1, AV.one, partCells, okW, onlyFr, app, sliceCells, cellsAt, srcA, subA, eqFs, Int.cast_ofNat_Int, simprocAttr]
    refine callQ.vc hP'' ?_
    simp (maxSteps := 4000000) (disch := omega) only [abv, step, stepv, ev, wl, wn, wp, wz, aop, cV, cV1, AV.one, partCells, okW, onlyFr, app, sliceCells, cellsAt, srcA, subA, eqFs, Int.cast_ofNat_Int, simprocAttr, resA, ht, oneOf]
    simp [frzN, frzK, frzL, frzV, frzL_T _ tl]
  · rw [if_neg hq, if_neg hq]
    simp only [hq, decide_false] at hE'
    have hu : uN (v / 2 ^ k) = v / 2 ^ k + 1 := by unfold uN; omega
    have hU' := hU N V (v / 2 ^ k) hV (by omega) (by rw [hu]; omega)
    rw [hu] at hU'
    have hlt : 2 ^ (v / 2 ^ k) - 1 < 2 ^ (v / 2 ^ k + 1) := by
      have : 0 < 2 ^ (v / 2 ^ k) := Nat.pow_pos (by omega)
      rw [Nat.pow_succ]; omega
    have hV1 : V + 2 ^ N * (2 ^ (v / 2 ^ k) - 1) < 2 ^ (N + (v / 2 ^ k + 1)) := lt_append hV hlt
    have hP' := hP (N + (v / 2 ^ k + 1)) (V + 2 ^ N * (2 ^ (v / 2 ^ k) - 1)) (v % 2 ^ k) k hV1 hrv (by omega) (by omega)
    have hW : V + 2 ^ N * (2 ^ (v / 2 ^ k) - 1) + 2 ^ (N + (v / 2 ^ k + 1)) * (v % 2 ^ k) = V + 2 ^ N * (2 ^ (v / 2 ^ k) - 1 + 2 ^ (v / 2 ^ k + 1) * (v % 2 ^ k)) := by rw [Nat.pow_add 2 N, Nat.mul_add, Nat.mul_assoc, Nat.add_assoc]
    rw [hW] at hP'
    generalize V + 2 ^ N * (2 ^ (v / 2 ^ k) - 1 + 2 ^ (v / 2 ^ k + 1) * (v % 2 ^ k)) = W at *
    generalize V + 2 ^ N * (2 ^ (v / 2 ^ k) - 1) = W1 at *
    have hNN : N + (v / 2 ^ k + 1) + k = N + (v / 2 ^ k + 1 + k) := by omega
    rw [hNN] at hP'
    have tl : isTL (u8 (leB W (nB (N + (v / 2 ^ k + 1 + k))))) = true := isT_u8 _
    simp only [bA] at hC' hP' hU' ⊢
    generalize v / 2 ^ k = q at *
    generalize v % 2 ^ k = r at *
    generalize 2 ^ k - 1 = mk at *
    generalize 2 ^ k = pk at *
    generalize hM : N + (q + 1 + k) = M at *
    generalize hM1 : N + (q + 1) = M1 at *
    simp (maxSteps := 4000000) (disch := omega) only [abv, step, stepv, ev, wl, wn, wp, wz, aop, cV, cV1, AV.one, partCells, okW, onlyFr, app, sliceCells, cellsAt, srcA, subA, eqFs, Int.cast_ofNat_Int, simprocAttr, ac_rice_Write]
    refine callQ.vc hC' ?_
    simp (maxSteps := 4000000) (disch := omega) only [abv, step, stepv, ev, wl, wn, wp, wz, aop, cV, cV1, AV.one, partCells, okW, onlyFr, app, sliceCells, cellsAt, srcA, subA, eqFs, Int.cast_ofNat_Int, simprocAttr, e1, e2, e3, e4]
    refine callQ.vc hE' ?_
    simp (maxSteps := 4000000) (disch := omega) only [abv, step, stepv, ev, wl, wn, wp, wz, aop, cV, cV1, AV.one, partCells, okW, onlyFr, app, sliceCells, cellsAt, srcA, subA, eqFs, Int.cast_ofNat_Int, simprocAttr]
    refine callQ.vc hU' ?_
    simp (maxSteps := 4000000) (disch := omega) only [abv, step, stepv, ev, wl, wn, wp, wz, aop, cV, cV1, AV.one, partCells, okW, onlyFr, app, sliceCells, cellsAt, srcA, subA, eqFs, Int.cast_ofNat_Int, simprocAttr]
    refine callQ.vc hP' ?_
    simp (maxSteps := 4000000) (disch := omega) only [abv, step, stepv, ev, wl, wn, wp, wz, aop, cV, cV1, AV.one, partCells, okW, onlyFr, app, sliceCells, cellsAt, srcA, subA, eqFs, Int.cast_ofNat_Int, simprocAttr, resA, ht, oneOf]
    simp [frzN, frzK, frzL, frzV, frzL_T _ tl]

def S_dWrite (P : Prg) (f : Nat) : Prop := ∀ (N V v : Nat) (d : Dl), V < 2 ^ N → v < 4294967296 → okD d → N + 81 ≤ 330000 → VC P f [bA N V, dlA d, .int .u32 v] (.tup [bA (N + codeN d v) (V + 2 ^ N * codeC d v), dlA (learnM d v), .int .i64 0])
theorem dual_Write {P : Prg} {f fC fD fV fP fR fL fl1 fll t0 t1 : Nat} (bd : Body P f 69 [.cell 6 t0, .cell 7 t1, .tmp 8] (ac_dual_Write fC fD fV fP fR fL t0 t1)) (hC : S_bCheck P fC) (hD : S_DCheck P fD) (hLv : S_Level P fV) (hP : S_bPut P fP) (hR : S_rWrite P fR)
    (bL : Body P fL 36 [] (ac_dual_learn fl1 fll)) (b1 : Body P fl1 58 [] ac_dual_learn_1) (hL : S_Level P fll) (ht0 : aggO P t0 = some (some 2)) (ht : aggO P t1 = some (some 4)) : S_dWrite P f := by
  intro N V v d hV hv hd hN
  refine VC.of_walk 1 (by simp [isDL, isD_bA, isD_dlA, isD]) (by simp [isD, isDL, isD_bA, isD_dlA]) (ACall.of_cut 7 bd (by simp) ?_)
  have hd' := hd
  have hC' := hC N V hV (by omega)
  have hD' := hD d hd
  have hLv' := hLv d v hd hv
  have hL1 : ∀ {ob : List Ob} {p : Nat} {v : Nat} {K : AV → List Ob → Prop}, ob[p]? = some ⟨t1, 4, 1, dlC d, 0⟩ → v < 4294967296 → K (.tup []) (ob.set p ⟨t1, 4, 1, dlC (learnM d v), 0⟩) → ACall P fL [.ref p 1 0, .int .u32 v] ob K :=
    fun hp hv hK => dual_learn bL b1 hL hp hd hv hK
  obtain ⟨k0, k1, s0, s1⟩ := d
  obtain ⟨h1, h2, h3, h4⟩ := hd'
  simp only at h1 h2 h3 h4
  obtain ⟨pk, _⟩ := p24 h1
  simp only [bA] at hC'
  simp only [dlA, dlC] at hD' hLv'
  unfold codeN codeC
  by_cases c : v < 2 ^ k0
  · simp only [c, if_true] at hLv' ⊢
    have hP1 := hP N V 0 1 hV (by decide) (by omega) (by omega)
    rw [Nat.mul_zero, Nat.add_zero] at hP1
    have hV1 : V < 2 ^ (N + 1) := Nat.lt_of_lt_of_le hV (Nat.pow_le_pow_right (by omega) (by omega))
    have hP2 := hP (N + 1) V v k0 hV1 c (by omega) (by omega)
    have hW : V + 2 ^ (N + 1) * v = V + 2 ^ N * (2 * v) := by rw [Nat.pow_succ, Nat.mul_assoc]
    rw [hW, Nat.add_assoc] at hP2
    generalize V + 2 ^ N * (2 * v) = W at *
    have tl : isTL (u8 (leB W (nB (N + (1 + k0))))) = true := isT_u8 _
    simp only [bA] at hP1 hP2 ⊢
    have hP1' : VC P fP [.agg [.list (nB N) (u8 (leB V (nB N))), .int .i64 N], .int .u64 0, .int .i64 1] (.tup [.agg [.list (nB (N + 1)) (u8 (leB V (nB (N + 1)))), .int .i64 ((N + 1 : Nat) : Int)], .int .i64 0]) := hP1
    simp (maxSteps := 4000000) (disch := omega) only [abv, step, stepv, ev, wl, wn, wp, wz, aop, cV, cV1, AV.one, partCells, okW, onlyFr, app, sliceCells, cellsAt, srcA, subA, eqFs, Int.cast_ofNat_Int, simprocAttr, cuts, ac_dual_Write, dlA, dlC]
    refine callQ.vc hC' ?_
    simp (maxSteps := 4000000) (disch := omega) only [abv, step, stepv, ev, wl, wn, wp, wz, aop, cV, cV1, AV.one, partCells, okW, onlyFr, app, sliceCells, cellsAt, srcA, subA, eqFs, Int.cast_ofNat_Int, simprocAttr, cuts]
    refine callQ.vc hD' ?_
    simp (maxSteps := 4000000) (disch := omega) only [abv, step, stepv, ev, wl, wn, wp, wz, aop, cV, cV1, AV.one, partCells, okW, onlyFr, app, sliceCells, cellsAt, srcA, subA, eqFs, Int.cast_ofNat_Int, simprocAttr, cuts]
    refine callQ.vc hLv' ?_
    simp (maxSteps := 4000000) (disch := omega) only [abv, step, stepv, ev, wl, wn, wp, wz, aop, cV, cV1, AV.one, partCells, okW, onlyFr, app, sliceCells, cellsAt, srcA, subA, eqFs, Int.cast_ofNat_Int, simprocAttr, cuts]
    refine callQ.vc hP1' ?_
    simp (maxSteps := 4000000) (disch := omega) only [abv, step, stepv, ev, wl, wn, wp, wz, aop, cV, cV1, AV.one, partCells, okW, onlyFr, app, sliceCells, cellsAt, srcA, subA, eqFs, Int.cast_ofNat_Int, simprocAttr, cuts]
    refine callQ.vc hP2 ?_
    simp (maxSteps := 4000000) (disch := omega) only [abv, step, stepv, ev, wl, wn, wp, wz, aop, cV, cV1, AV.one, partCells, okW, onlyFr, app, sliceCells, cellsAt, srcA, subA, eqFs, Int.cast_ofNat_Int, simprocAttr, cuts]
    refine hL1 (v := v) rfl hv ?_
    generalize learnM ⟨k0, k1, s0, s1⟩ v = d'
    obtain ⟨l0, l1, l2, l3⟩ := d'
    simp (maxSteps := 4000000) (disch := omega) only [abv, step, stepv, ev, wl, wn, wp, wz, aop, cV, cV1, AV.one, partCells, okW, onlyFr, app, sliceCells, cellsAt, srcA, subA, eqFs, Int.cast_ofNat_Int, simprocAttr, cuts]
    refine ⟨⟨[(8, .int .i64 0), (7, .ref 3 1 0), (6, .ref 2 1 0), (4, .cell [.int .i64 l0, .int .i64 l1, .int .u64 l2, .int .u64 l3]), (3, .ref 0 1 0)], _⟩, Le.still [1] 1 (by simp [Am.look, frzK, frzL, frzV, dlC, isDL, isD]), ?_⟩
    simp (maxSteps := 4000000) (disch := omega) only [abv, step, stepv, ev, wl, wn, wp, wz, aop, cV, cV1, AV.one, partCells, okW, onlyFr, app, sliceCells, cellsAt, srcA, subA, eqFs, Int.cast_ofNat_Int, simprocAttr, resA, ht, ht0, oneOf, dlC, stillAt]
    simp [frzN, frzK, frzL, frzV, frzL_T _ tl]
  · simp only [c, if_false] at hLv' ⊢
    have hP1 := hP N V 1 1 hV (by decide) (by omega) (by omega)
    rw [Nat.mul_one] at hP1
    have hV1 : V + 2 ^ N < 2 ^ (N + 1) := by rw [Nat.pow_succ]; omega
    have hl : v - 2 ^ k0 < 4294967296 := Nat.lt_of_le_of_lt (Nat.sub_le _ _) hv
    have hR2 := hR (N + 1) (V + 2 ^ N) (v - 2 ^ k0) k1 hV1 hl h2 (by omega)
    have hW : V + 2 ^ N + 2 ^ (N + 1) * riceC (v - 2 ^ k0) k1 = V + 2 ^ N * (1 + 2 * riceC (v - 2 ^ k0) k1) := by rw [Nat.pow_succ, Nat.mul_assoc, Nat.mul_add, Nat.mul_one, Nat.add_assoc]
    rw [hW, Nat.add_assoc] at hR2
    generalize V + 2 ^ N * (1 + 2 * riceC (v - 2 ^ k0) k1) = W at *
    generalize riceN (v - 2 ^ k0) k1 = rn at *
    generalize v - 2 ^ k0 = lf at *
    generalize V + 2 ^ N = W1 at *
    have tl : isTL (u8 (leB W (nB (N + (1 + rn))))) = true := isT_u8 _
    simp only [bA] at hP1 hR2 ⊢
    have hP1' : VC P fP [.agg [.list (nB N) (u8 (leB V (nB N))), .int .i64 N], .int .u64 1, .int .i64 1] (.tup [.agg [.list (nB (N + 1)) (u8 (leB W1 (nB (N + 1)))), .int .i64 ((N + 1 : Nat) : Int)], .int .i64 0]) := hP1
    simp (maxSteps := 4000000) (disch := omega) only [abv, step, stepv, ev, wl, wn, wp, wz, aop, cV, cV1, AV.one, partCells, okW, onlyFr, app, sliceCells, cellsAt, srcA, subA, eqFs, Int.cast_ofNat_Int, simprocAttr, cuts, ac_dual_Write, dlA, dlC]
    refine callQ.vc hC' ?_
    simp (maxSteps := 4000000) (disch := omega) only [abv, step, stepv, ev, wl, wn, wp, wz, aop, cV, cV1, AV.one, partCells, okW, onlyFr, app, sliceCells, cellsAt, srcA, subA, eqFs, Int.cast_ofNat_Int, simprocAttr, cuts]
    refine callQ.vc hD' ?_
    simp (maxSteps := 4000000) (disch := omega) only [abv, step, stepv, ev, wl, wn, wp, wz, aop, cV, cV1, AV.one, partCells, okW, onlyFr, app, sliceCells, cellsAt, srcA, subA, eqFs, Int.cast_ofNat_Int, simprocAttr, cuts]
    refine callQ.vc hLv' ?_
    simp (maxSteps := 4000000) (disch := omega) only [abv, step, stepv, ev, wl, wn, wp, wz, aop, cV, cV1, AV.one, partCells, okW, onlyFr, app, sliceCells, cellsAt, srcA, subA, eqFs, Int.cast_ofNat_Int, simprocAttr, cuts]
    refine callQ.vc hP1' ?_
    simp (maxSteps := 4000000) (disch := omega) only [abv, step, stepv, ev, wl, wn, wp, wz, aop, cV, cV1, AV.one, partCells, okW, onlyFr, app, sliceCells, cellsAt, srcA, subA, eqFs, Int.cast_ofNat_Int, simprocAttr, cuts]
    refine callQ.vc hR2 ?_
    simp (maxSteps := 4000000) (disch := omega) only [abv, step, stepv, ev, wl, wn, wp, wz, aop, cV, cV1, AV.one, partCells, okW, onlyFr, app, sliceCells, cellsAt, srcA, subA, eqFs, Int.cast_ofNat_Int, simprocAttr, cuts]
    refine hL1 (v := v) rfl hv ?_
    generalize learnM ⟨k0, k1, s0, s1⟩ v = d'
    obtain ⟨l0, l1, l2, l3⟩ := d'
    simp (maxSteps := 4000000) (disch := omega) only [abv, step, stepv, ev, wl, wn, wp, wz, aop, cV, cV1, AV.one, partCells, okW, onlyFr, app, sliceCells, cellsAt, srcA, subA, eqFs, Int.cast_ofNat_Int, simprocAttr, cuts]
    refine ⟨⟨[(8, .int .i64 0), (7, .ref 3 1 0), (6, .ref 2 1 0), (4, .cell [.int .i64 l0, .int .i64 l1, .int .u64 l2, .int .u64 l3]), (3, .ref 0 1 0)], _⟩, Le.still [1] 1 (by simp [Am.look, frzK, frzL, frzV, dlC, isDL, isD]), ?_⟩
    simp (maxSteps := 4000000) (disch := omega) only [abv, step, stepv, ev, wl, wn, wp, wz, aop, cV, cV1, AV.one, partCells, okW, onlyFr, app, sliceCells, cellsAt, srcA, subA, eqFs, Int.cast_ofNat_Int, simprocAttr, resA, ht, ht0, oneOf, dlC, stillAt]
    simp [frzN, frzK, frzL, frzV, frzL_T _ tl]

end Go.Am

namespace Go.Am
open Go.RowKit

/-! ### Bits are put behind bits, one by one: enframe -/

theorem Low.putB {ob : List Ob} (h : Low ob.length ob) {t t0 t2 o p N V N' n C : Nat} (ho : o < ob.length) : Low (ob.length + 1) (upd2 ob o p (bY t0 N V) (bO t o N') ++ [⟨t2, 2, 1, [.list (nB n) (u8 (leB C (nB n))), .int .i64 n], 0⟩]) :=
  ((h.put ho).mono (by omega)).append (Low.cons (by simp [lowL, lowV, lowL_D _ (isDL_leB _ _)]) Low.nil)

set_option maxHeartbeats 1000000 in
theorem enframe_put {P : Prg} {f t0 t1 : Nat} (bd : Body P f 64 [] (ac_enframe_put t0 t1)) {ob : List Ob} {t p o N V C n : Nat} (hp : ob[p]? = some (bO t o N)) (ho : ob[o]? = some (bY t1 N V)) (hpo : p ≠ o) (hV : V < 2 ^ N) (hC : C < 2 ^ n) (hn : n ≤ 1000) (hN : N + n ≤ 400000) (hfz : Low ob.length ob)
    {K : AV → List Ob → Prop} (hK : K (.tup []) (upd2 ob o p (bY t1 (N + n) (V + 2 ^ N * C)) (bO t o (N + n)))) : ACall P f [.ref p 1 0, bA n C] ob K := by
  have hol : o < ob.length := (List.getElem?_eq_some_iff.1 ho).1
  have hpl : p < ob.length := (List.getElem?_eq_some_iff.1 hp).1
  refine ACall.low (ACall.of_body bd (by simp) ?_)
  have g0 : ∀ x y J, (upd2 ob o p x y ++ J)[p]? = some y := fun x y J => by rw [List.getElem?_append_left (by rw [upd2_len]; exact hpl)]; exact upd2_gp hpl
  have g1 : ∀ x y J, (upd2 ob o p x y ++ J)[o]? = some x := fun x y J => by rw [List.getElem?_append_left (by rw [upd2_len]; exact hol)]; exact upd2_go hol hpo
  have g2 : ∀ x y J y', (upd2 ob o p x y ++ J).set p y' = upd2 ob o p x y' ++ J := fun x y J y' => by rw [List.set_append_left _ _ (by rw [upd2_len]; exact hpl), upd2_p]
  have g3 : ∀ x y J x', (upd2 ob o p x y ++ J).set o x' = upd2 ob o p x' y ++ J := fun x y J x' => by rw [List.set_append_left _ _ (by rw [upd2_len]; exact hol), upd2_o hpo]
  have g4 : ∀ x y (J : List Ob), (upd2 ob o p x y ++ J)[ob.length]? = J[0]? := fun x y J => by rw [List.getElem?_append_right (by rw [upd2_len]; exact Nat.le_refl _), upd2_len, Nat.sub_self]
  have g5 : ∀ x y (J : List Ob), (upd2 ob o p x y ++ J)[ob.length + 1]? = J[1]? := fun x y J => by rw [List.getElem?_append_right (by rw [upd2_len]; omega), upd2_len, Nat.add_sub_cancel_left]
  have ln : ∀ x y, (upd2 ob o p x y).length = ob.length := fun x y => upd2_len
  have hs : ob = upd2 ob o p (bY t1 N V) (bO t o N) := (upd2_same ho hp hpo).symm
  simp (maxSteps := 4000000) (disch := omega) only [abv, step, stepv, ev, wl, wn, wp, wz, aop, cV, cV1, AV.one, partCells, okW, onlyFr, app, sliceCells, cellsAt, srcA, subA, eqFs, Int.cast_ofNat_Int, simprocAttr, ac_enframe_put, bA, getJ0]
  refine ALoop.by (ι := Nat) (fun j => ⟨[(8, .int .i64 j), (7, .int .i64 n), (3, .ref ob.length 1 0), (0, .ref p 1 0)], upd2 ob o p (bY t1 (N + j) (V + 2 ^ N * (C % 2 ^ j))) (bO t o (N + j)) ++ [⟨t0, 2, 1, [.list (nB n) (u8 (leB C (nB n))), .int .i64 n], 0⟩]⟩) (fun j => j ≤ n) (fun j => n - j) 0 ?_ (by omega) ?_
  · rw [Nat.add_zero, Nat.pow_zero, Nat.mod_one, Nat.mul_zero, Nat.add_zero, ← hs]
    exact Le.slots (by simp [Am.look])
  intro j hj
  by_cases hlt : j < n
  · obtain ⟨M, hM⟩ : ∃ M, M = N + j := ⟨_, rfl⟩
    obtain ⟨i, hi⟩ : ∃ i, i = M / 8 := ⟨_, rfl⟩
    obtain ⟨a, ha⟩ : ∃ a, a = M % 8 := ⟨_, rfl⟩
    obtain ⟨q, hq⟩ : ∃ q, q = j / 8 := ⟨_, rfl⟩
    obtain ⟨r, hr⟩ : ∃ r, r = j % 8 := ⟨_, rfl⟩
    obtain ⟨b, hb0⟩ : ∃ b, b = C / 2 ^ j % 2 := ⟨_, rfl⟩
    have hM8 : M = 8 * i + a := by omega
    have hj8 : 8 * q + r = j := by omega
    have hb : b < 2 := by rw [hb0]; exact Nat.mod_lt _ (by decide)
    have hW : V + 2 ^ N * (C % 2 ^ j) < 2 ^ M := by
      rw [hM]
      exact lt_append hV (Nat.mod_lt _ (Nat.pow_pos (by omega)))
    have hstep := putN (V := V) (N := N) (v := C) (j := j) (r := 1)
    rw [← hM, Nat.pow_one, ← hb0] at hstep
    have hat := leB_at (V := C) (k := nB n) (i := q) (by unfold nB; omega)
    have hbit := bit_at C q r (by omega)
    rw [hj8, ← hb0] at hbit
    have hby : C / 256 ^ q % 256 < 256 := Nat.mod_lt _ (by decide)
    have s1 : shiftA false .u8 ((C / 256 ^ q % 256 : Nat) : Int) (r : Int) = some (.int .u8 ((C / 256 ^ q % 256 / 2 ^ r : Nat) : Int)) := shrK (K := .u8) (by show r ≤ 8; omega)
    have hle : C / 256 ^ q % 256 / 2 ^ r ≤ C / 256 ^ q % 256 := Nat.div_le_self _ _
    have s2 : IntKind.u8.wrap (BitVec.ofInt IntKind.u8.bits ((C / 256 ^ q % 256 / 2 ^ r : Nat) : Int) &&& BitVec.ofInt IntKind.u8.bits ((1 : Nat) : Int)).toNat = ((b : Nat) : Int) := by
      rw [andK (K := .u8) rfl (by show _ < 256; omega) (by decide), Nat.and_one_is_mod, hbit]
    have s2' : IntKind.u8.wrap (BitVec.ofInt IntKind.u8.bits ((C / 256 ^ q % 256 / 2 ^ r : Nat) : Int) &&& BitVec.ofInt IntKind.u8.bits 1).toNat = ((b : Nat) : Int) := s2
    generalize C / 256 ^ q % 256 / 2 ^ r = y1 at *
    generalize C / 256 ^ q % 256 = y0 at *
    rw [← hM]
    have hq1 : (j : Int) / 8 = (q : Int) := by omega
    have hr1 : (j : Int) % 8 = (r : Int) := by omega
    have hi1 : (M : Int) / 8 = (i : Int) := by omega
    have ha1 : (M : Int) % 8 = (a : Int) := by omega
    have hnq : q < nB n := by unfold nB; omega
    generalize V + 2 ^ N * (C % 2 ^ j) = W at *
    generalize hWW : V + 2 ^ N * (C % 2 ^ (j + 1)) = W' at *
    have h2a : 2 ^ a ≤ 2 ^ 7 := Nat.pow_le_pow_right (by omega) (by omega)
    have hpos : 0 < 2 ^ a := Nat.pow_pos (by omega)
    obtain ⟨l1, l2⟩ := bits_last (V := W) (i := i) (at_ := a) (by rw [← hM8]; exact hW) (by omega)
    obtain ⟨b1, b2, _⟩ := bits_put_plain (V := W) (i := i) (at_ := a) (w := b) (r := 1) (by rw [← hM8]; exact hW) (by omega) (by omega)
    rw [← hM8, ← hstep] at b1
    have hyb : W / 256 ^ i < 256 := by omega
    have hyb2 : W / 256 ^ i + 2 ^ a * b < 256 := by
      have : 2 ^ (a + 1) ≤ 2 ^ 8 := Nat.pow_le_pow_right (by omega) (by omega)
      omega
    have hca : b * 2 ^ a < 2 ^ 8 := by
      rcases (by omega : b = 0 ∨ b = 1) with rfl | rfl <;> omega
    have hu : ∀ y, y < 256 → u8 [UInt8.ofNat y] = [.int .u8 (y : Int)] := fun y hy => by simp [u8]; omega
    have e8 : IntKind.u8.wrap (BitVec.ofInt IntKind.u8.bits ((W / 256 ^ i : Nat) : Int) ||| BitVec.ofInt IntKind.u8.bits ((b * 2 ^ a : Nat) : Int)).toNat = ((W / 256 ^ i + 2 ^ a * b : Nat) : Int) := by
      rw [orK (K := .u8) rfl hyb hca, or_add l2, Nat.mul_comm]
    have e7 : shiftA true .u8 (b : Int) (a : Int) = some (.int .u8 ((b * 2 ^ a : Nat) : Int)) := shlK rfl (by show a ≤ 8; omega) hca
    have hnB : nB (M + 1) = i + 1 := by unfold nB; omega
    have hcell : u8 (leB W' (i + 1)) = u8 (leB W i) ++ [.int .u8 ((W / 256 ^ i + 2 ^ a * b : Nat) : Int)] := by
      rw [b1, show u8 (leB W i ++ [UInt8.ofNat (W / 256 ^ i + 2 ^ a * b)]) = u8 (leB W i) ++ u8 [UInt8.ofNat (W / 256 ^ i + 2 ^ a * b)] by simp [u8]]
      rw [hu _ hyb2]
    have hlen : (u8 (leB W i)).length = i := by simp [u8, leB_length]
    generalize W / 256 ^ i + 2 ^ a * b = y' at *
    generalize b * 2 ^ a = ca at *
    have d1 : ∀ z : AV, (u8 (leB W i) ++ [z]).drop i = [z] := fun z => by rw [List.drop_left' hlen]
    have d2 : ∀ z : AV, (u8 (leB W i) ++ [z]).take i = u8 (leB W i) := fun z => by rw [List.take_left' hlen]
    have d3 : ∀ z : AV, (u8 (leB W i) ++ [z]).drop (i + 1) = [] := fun z => List.drop_of_length_le (by simp [hlen])
    have el : (⟨t1, 1, i + 1, u8 (leB W i) ++ [.int .u8 (y' : Int)], 0⟩ : Ob) = bY t1 (M + 1) W' := by rw [bY, hnB, hcell]
    have er : (⟨t, 2, 1, [.own o (i + 1), .int .i64 ((M : Int) + 1)], 0⟩ : Ob) = bO t o (M + 1) := by rw [bO, hnB, Int.natCast_add]; rfl
    have hMr : N + (j + 1) = M + 1 := by omega
    have hcl : (u8 (leB C (nB n))).length = nB n := by simp [u8, leB_length]
    by_cases h0 : a = 0
    · subst h0
      have hnM : nB M = i := by unfold nB; omega
      have hW0 : W / 256 ^ i = 0 := by
        have := l2
        rw [Nat.pow_zero] at this
        exact Nat.lt_one_iff.1 this
      rw [hW0] at e8
      have e8' : IntKind.u8.wrap (BitVec.ofInt IntKind.u8.bits 0 ||| BitVec.ofInt IntKind.u8.bits (ca : Int)).toNat = (y' : Int) := e8
      have e7' : shiftA true .u8 (b : Int) 0 = some (.int .u8 (ca : Int)) := e7
      have ha1' : (M : Int) % 8 = 0 := ha1
      simp (maxSteps := 4000000) (disch := omega) only [abv, step, stepv, ev, wl, wn, wp, wz, aop, cV, cV1, AV.one, partCells, okW, onlyFr, app, sliceCells, cellsAt, srcA, subA, eqFs, Int.cast_ofNat_Int, simprocAttr, bO, bY, g0, g1, g2, g3, g4, g5, ln, hnM, hlen, hcl, hat, s1, s2', e7', e8', hq1, hr1, hi1, ha1', d1, d2, d3, List.append_assoc, List.cons_append, List.nil_append]
      refine ⟨j + 1, by omega, by omega, ?_⟩
      show Le ob.length _ ⟨[(8, .int .i64 ((j + 1 : Nat) : Int)), (7, .int .i64 n), (3, .ref ob.length 1 0), (0, .ref p 1 0)], upd2 ob o p (bY t1 (N + (j + 1)) (V + 2 ^ N * (C % 2 ^ (j + 1)))) (bO t o (N + (j + 1))) ++ [⟨t0, 2, 1, [.list (nB n) (u8 (leB C (nB n))), .int .i64 n], 0⟩]⟩
      rw [hWW, hMr, el, er, List.append_cons]
      have hl : (upd2 ob o p (bY t1 (M + 1) W') (bO t o (M + 1)) ++ [⟨t0, 2, 1, [.list (nB n) (u8 (leB C (nB n))), .int .i64 n], 0⟩] : List Ob).length = ob.length + 1 := by simp [ln]
      exact Le.low (by rw [hl]; omega) (by rw [hl]; exact hfz.putB hol) (by rw [hl]; simp [Am.look, lowV, Nat.lt_succ_of_lt hpl])
    · have hnM : nB M = i + 1 := by unfold nB; omega
      have l3 : u8 (leB W (i + 1)) = u8 (leB W i) ++ [.int .u8 ((W / 256 ^ i : Nat) : Int)] := by
        rw [l1, show u8 (leB W i ++ [UInt8.ofNat (W / 256 ^ i)]) = u8 (leB W i) ++ u8 [UInt8.ofNat (W / 256 ^ i)] by simp [u8], hu _ hyb]
      have ha0 : (a : Int) ≠ 0 := by omega
      generalize W / 256 ^ i = y at *
      simp (maxSteps := 4000000) (disch := omega) only [abv, step, stepv, ev, wl, wn, wp, wz, aop, cV, cV1, AV.one, partCells, okW, onlyFr, app, sliceCells, cellsAt, srcA, subA, eqFs, Int.cast_ofNat_Int, simprocAttr, bO, bY, g0, g1, g2, g3, g4, g5, ln, hnM, hlen, hcl, l3, hat, s1, s2', e7, e8, hq1, hr1, hi1, ha1, d1, d2, d3, List.append_assoc, List.cons_append, List.nil_append]
      refine ⟨j + 1, by omega, by omega, ?_⟩
      show Le ob.length _ ⟨[(8, .int .i64 ((j + 1 : Nat) : Int)), (7, .int .i64 n), (3, .ref ob.length 1 0), (0, .ref p 1 0)], upd2 ob o p (bY t1 (N + (j + 1)) (V + 2 ^ N * (C % 2 ^ (j + 1)))) (bO t o (N + (j + 1))) ++ [⟨t0, 2, 1, [.list (nB n) (u8 (leB C (nB n))), .int .i64 n], 0⟩]⟩
      rw [hWW, hMr, el, er]
      exact Le.slots (by simp [Am.look])
  · obtain rfl : j = n := by omega
    rw [Nat.mod_eq_of_lt hC]
    simp (maxSteps := 4000000) (disch := omega) only [abv, step, stepv, ev, wl, wn, wp, wz, aop, cV, cV1, AV.one, partCells, okW, onlyFr, app, sliceCells, cellsAt, srcA, subA, eqFs, Int.cast_ofNat_Int, simprocAttr]
    exact ⟨upd2 ob o p (bY t1 (N + j) (V + 2 ^ N * C)) (bO t o (N + j)), _, rfl, by rw [ln]; exact Nat.le_refl _, by rw [ln]; exact hfz.put hol, by rfl, hK⟩

end Go.Am

namespace Go.Am
open Go.RowKit

/-! ### What is mixed is unmixed, what is stepped is stepped back (plain) -/

theorem cfwdY_rng (c : Chan) (x : Int) : -2147483648 ≤ cfwdY c x ∧ cfwdY c x ≤ 2147483647 := w32_rng _

end Go.Am

namespace Go.Am
open Go.RowKit

/-! ### Frames: coded and decoded (plain) -/

def valE (c : Nat) (x : Int) (t l : List Int) : List Nat := (outT c (mixAll c l) (newC x t) l.length).map Int.toNat
def encB (c : Nat) (x : Int) (t l : List Int) : List UInt8 := sealB (frmB c (valE c x t l))

theorem outT_U32 (c : Nat) (L : List Int) (z : Chan) (a : Nat) : U32 (outT c L z a) := by
  intro y hy
  simp only [outT, List.mem_map] at hy
  obtain ⟨j, _, rfl⟩ := hy
  exact foldN_rng (cfwdY_rng _ _)
theorem iL_toNat {v : List Int} (h : U32 v) : iL (v.map Int.toNat) = v := by
  unfold iL
  rw [List.map_map]
  conv => rhs; rw [← List.map_id v]
  apply List.map_congr_left
  intro y hy
  have := h y hy
  simp; omega
theorem N32_toNat {v : List Int} (h : U32 v) : N32 (v.map Int.toNat) := by
  intro y hy
  simp only [List.mem_map] at hy
  obtain ⟨z, hz, rfl⟩ := hy
  have := h z hz
  omega
theorem valE_len (c : Nat) (x : Int) (t l : List Int) : (valE c x t l).length = l.length := by simp [valE, outT_len]
theorem valE_ok (c : Nat) (x : Int) (t l : List Int) : N32 (valE c x t l) := N32_toNat (outT_U32 _ _ _ _)
theorem iL_valE (c : Nat) (x : Int) (t l : List Int) : iL (valE c x t l) = outT c (mixAll c l) (newC x t) l.length := iL_toNat (outT_U32 _ _ _ _)

theorem frmB_bounds {c : Nat} {v : List Nat} (h : N32 v) (h1 : 1 ≤ v.length) (h2 : v.length ≤ 4000) : 1 ≤ (frmB c v).length ∧ (frmB c v).length ≤ 40500 := by
  obtain ⟨_, q2, q3⟩ := frm_bounds (c := c) h v.length
  rw [frmB_len]
  unfold nB
  omega
theorem ask_all {c x : Int} {l : List Int} (hI : I32 l) (h : askN c x l = 0) : ∃ k m : Nat, c = k ∧ okM k l ∧ half x ≠ 0 ∧ eCheck c x = 0 ∧ checkN x l = 0 ∧ l.length = m * k ∧ 1 ≤ m ∧ (l.length : Int) / c = m ∧ ask21 c x ((l.length : Int) / c) = 0 := by
  obtain ⟨k, rfl, hk, hx⟩ := ask_okM hI h
  have hk' := hk
  obtain ⟨h1, h2, h3, h4, h5, _⟩ := hk'
  have e1 : eCheck k x = 0 := by
    rcases eCheck_cases k x with q | ⟨q, _⟩
    · rw [ask_err q] at h; omega
    · exact q
  have e2 : checkN x l = 0 := by
    rcases Int.decEq (checkN x l) 0 with q | q
    · rw [ask_chk e1 q] at h; exact absurd h q
    · exact q
  have e3 : l.length = l.length / k * k := by have := Nat.div_add_mod l.length k; rw [Nat.mul_comm] at this; omega
  have e4 : 1 ≤ l.length / k := by
    rcases Nat.eq_zero_or_pos (l.length / k) with q | q
    · rw [q] at e3; omega
    · exact q
  have e5 : (l.length : Int) / (k : Int) = ((l.length / k : Nat) : Int) := by rw [Int.natCast_ediv]
  refine ⟨k, l.length / k, rfl, hk, hx, e1, e2, e3, e4, e5, ?_⟩
  have e6 : l.length / k ≤ 4000 / k := Nat.div_le_div_right h4
  have e7 : (4000 : Int) / (k : Int) = ((4000 / k : Nat) : Int) := by rw [Int.natCast_ediv]; rfl
  unfold ask21
  rw [if_neg (by omega), e5, e7, if_neg (by omega), if_neg (by omega)]

end Go.Am

namespace Go.Am
open Go.RowKit

/-! ### First states; slices of bytes joined -/

def S_eStates (P : Prg) (f : Nat) : Prop := VC P f [] (.agg (sixD fun _ => startM))
theorem enframe_states {P : Prg} {f fS t0 : Nat} (bd : Body P f 11 [.cell 0 t0] (ac_enframe_states fS t0)) (hS : S_Start P fS) (ht : aggO P t0 = some (some 24)) : S_eStates P f := by
  refine VC.of_acall rfl rfl (ACall.of_body bd (by simp) ?_)
  simp only [S_Start, startM, dlA, dlC] at hS
  simp (maxSteps := 4000000) (disch := omega) only [abv, step, stepv, ev, wl, wn, wp, wz, aop, cV, cV1, AV.one, partCells, okW, onlyFr, app, sliceCells, cellsAt, srcA, subA, eqFs, Int.cast_ofNat_Int, simprocAttr, ac_enframe_states]
  refine ALoop.by (ι := Nat) (fun i => ⟨[(3, .int .i64 i), (1, .ref 1 1 0), (0, .ref 0 1 0)],
      [⟨t0, 24, 1, sixD (fun _ => ⟨0, 0, 0, 0⟩), 0⟩, ⟨t0, 24, 1, sixD (fun j => if j < i then startM else ⟨0, 0, 0, 0⟩), 0⟩]⟩) (fun i => i ≤ 6) (fun i => 6 - i) 0 (Le.slots (by simp [Am.look])) (by omega) ?_
  intro i hi
  by_cases hlt : i < 6
  · have e1 := sixD_set (fun j => if j < i then startM else ⟨0, 0, 0, 0⟩) hlt startM
    have e2 : updD (fun j => if j < i then startM else ⟨0, 0, 0, 0⟩) i startM = fun j => if j < i + 1 then startM else ⟨0, 0, 0, 0⟩ := by
      funext j
      unfold updD
      by_cases h1 : j = i
      · subst h1; simp
      · by_cases h2 : j < i
        · simp [h1, h2, show j < i + 1 by omega]
        · simp [h1, h2, show ¬ j < i + 1 by omega]
    rw [e2] at e1
    have e3 := sixD_len (fun j => if j < i then startM else ⟨0, 0, 0, 0⟩)
    simp (maxSteps := 4000000) (disch := omega) only [abv, step, stepv, ev, wl, wn, wp, wz, aop, cV, cV1, AV.one, partCells, okW, onlyFr, app, sliceCells, cellsAt, srcA, subA, eqFs, Int.cast_ofNat_Int, simprocAttr]
    refine callQ.vc hS ?_
    generalize hF : sixD (fun j => if j < i then startM else ⟨0, 0, 0, 0⟩) = F at *
    have e1' : F.take (i * 4) ++ [.int .i64 10, .int .i64 10, .int .u64 16384, .int .u64 16384] ++ F.drop (i * 4 + 4) = sixD fun j => if j < i + 1 then startM else ⟨0, 0, 0, 0⟩ := e1
    generalize sixD (fun _ => (⟨0, 0, 0, 0⟩ : Dl)) = Z
    simp (maxSteps := 4000000) (disch := omega) only [abv, step, stepv, ev, wl, wn, wp, wz, aop, cV, cV1, AV.one, partCells, okW, onlyFr, app, sliceCells, cellsAt, srcA, subA, eqFs, Int.cast_ofNat_Int, simprocAttr, e3]
    refine ⟨i + 1, by omega, by omega, ?_⟩
    rw [e1']
    exact Le.slots (by simp [Am.look])
  obtain rfl : i = 6 := by omega
  have z1 : sixD (fun j => if j < 6 then startM else ⟨0, 0, 0, 0⟩) = sixD (fun _ => startM) := rfl
  have z2 := sixD_len fun _ => startM
  have z3 := sixD_len fun _ => (⟨0, 0, 0, 0⟩ : Dl)
  rw [z1]
  have z4 : (sixD fun _ => startM).all AV.one = true := rfl
  have z5 : (sixD fun _ => startM).take 24 = sixD fun _ => startM := rfl
  have z6 : (sixD fun _ => (⟨0, 0, 0, 0⟩ : Dl)).drop 24 = [] := rfl
  generalize (sixD fun _ => (⟨0, 0, 0, 0⟩ : Dl)) = Z at *
  generalize (sixD fun _ => startM) = S at *
  simp (maxSteps := 4000000) (disch := omega) only [abv, step, stepv, ev, wl, wn, wp, wz, aop, cV, cV1, AV.one, partCells, okW, onlyFr, app, sliceCells, cellsAt, srcA, subA, eqFs, Int.cast_ofNat_Int, simprocAttr, resA, ht, oneOf, z2, z3, z4, z5, z6, List.take_zero, List.nil_append, List.append_nil]

def partsA (L : List (List UInt8)) : AV := .list L.length (L.map bs)
def S_Concat (P : Prg) (f : Nat) : Prop := ∀ L : List (List UInt8), L.length ≤ 1000000 → 0 < L.flatten.length → L.flatten.length ≤ 1000000 → VC P f [partsA L] (bs L.flatten)
def S_GrowNil (t : Nat) (P : Prg) (f : Nat) : Prop := ∀ (ob : List Ob) (n : Nat) (z : Bool) (K : AV → List Ob → Prop), 0 < n → n ≤ 140737488355328 → K (.own ob.length 0) (ob ++ [⟨t, 1, 0, [], 0⟩]) → ACall P f [.emp z, .int .i64 n] ob K
theorem grow_nil {P : Prg} {f t : Nat} {ρ : Go.Shelf.Ren} (L : Go.Proofs.Lays8.n4 P.prog ρ) (hf : ρ.f 4 = f) (ht : ρ.t 25 = t) (h25 : (P.prog.info? t).map (fun i => (i.zero, i.size, i.bytes)) = some (some (.int .u8 0), 1, 1)) : S_GrowNil t P f := by
  intro ob n z K h1 h2 hK
  subst hf; subst ht
  exact ACall.grow_nil L h25 h1 h2 hK
theorem flat_take {L : List (List UInt8)} {k : Nat} (h : k < L.length) : (L.take (k + 1)).flatten = (L.take k).flatten ++ L.getD k [] := by
  rw [List.take_succ_eq_append_getElem h, List.flatten_append, List.getD_eq_getElem?_getD, List.getElem?_eq_getElem h]
  simp
theorem flat_le (L : List (List UInt8)) (k : Nat) : (L.take k).flatten.length ≤ L.flatten.length := by
  conv => rhs; rw [← List.take_append_drop k L, List.flatten_append, List.length_append]
  omega
theorem slices_Concat {P : Prg} {f fG t0 : Nat} (bd : Body P f 36 [.tmp 2] (ac_slices_Concat_byte_byte fG t0)) (hG : S_GrowNil t0 P fG) : S_Concat P f := by
  intro L hL h0 h1
  refine VC.of_walk 1 (by simp [isDL, isD, partsA, isDL_bss]) (isD_bs _) (ACall.of_body bd (by simp) ?_)
  have hat : ∀ k, k < L.length → (L.map bs).drop k = bs (L.getD k []) :: (L.map bs).drop (k + 1) := fun k hk => by
    rw [List.drop_eq_getElem_cons (by simpa using hk)]
    simp [List.getD_eq_getElem?_getD, List.getElem?_eq_getElem hk]
  have hml : (L.map bs).length = L.length := by simp
  simp only [bs] at hat
  simp (maxSteps := 4000000) (disch := omega) only [abv, step, stepv, ev, wl, wn, wp, wz, aop, cV, cV1, AV.one, partCells, okW, onlyFr, app, sliceCells, cellsAt, srcA, subA, eqFs, Int.cast_ofNat_Int, simprocAttr, ac_slices_Concat_byte_byte, partsA]
  refine ALoop.by (ι := Nat) (fun k => ⟨[(11, .int .i64 k), (10, .int .i64 L.length), (9, .list L.length (L.map bs)), (3, .int .i64 (L.take k).flatten.length), (0, .list L.length (L.map bs))], []⟩) (fun k => k ≤ L.length) (fun k => L.length - k) 0 (Le.slots (by simp [Am.look])) (by omega) ?_
  intro k hk
  by_cases hlt : k < L.length
  · have ha := hat k hlt
    have hf := flat_take hlt
    have hle := flat_le L (k + 1)
    rw [hf, List.length_append] at hle
    have hl : ((L.take (k + 1)).flatten.length : Int) = (L.take k).flatten.length + (L.getD k []).length := by rw [hf]; simp
    generalize (L.take k).flatten.length = s at *
    generalize L.getD k [] = x at *
    simp (maxSteps := 4000000) (disch := omega) only [abv, step, stepv, ev, wl, wn, wp, wz, aop, cV, cV1, AV.one, partCells, okW, onlyFr, app, sliceCells, cellsAt, srcA, subA, eqFs, Int.cast_ofNat_Int, simprocAttr, ha, hml]
    exact ⟨k + 1, by omega, by omega, by simp only [hl]; exact Le.slots (by simp [Am.look])⟩
  obtain rfl : k = L.length := by omega
  rw [List.take_length]
  have hG' := fun K hK => hG [] L.flatten.length true K h0 (by omega) hK
  simp (maxSteps := 4000000) (disch := omega) only [abv, step, stepv, ev, wl, wn, wp, wz, aop, cV, cV1, AV.one, partCells, okW, onlyFr, app, sliceCells, cellsAt, srcA, subA, eqFs, Int.cast_ofNat_Int, simprocAttr]
  refine hG' _ ?_
  simp (maxSteps := 4000000) (disch := omega) only [abv, step, stepv, ev, wl, wn, wp, wz, aop, cV, cV1, AV.one, partCells, okW, onlyFr, app, sliceCells, cellsAt, srcA, subA, eqFs, Int.cast_ofNat_Int, simprocAttr]
  refine ALoop.by (ι := Nat) (fun k => ⟨[(27, .int .i64 k), (26, .int .i64 L.length), (25, .list L.length (L.map bs)), (6, .own 0 (L.take k).flatten.length)], [⟨t0, 1, (L.take k).flatten.length, u8 (L.take k).flatten, 0⟩]⟩) (fun k => k ≤ L.length) (fun k => L.length - k) 0 (Le.slots (by simp [Am.look])) (by omega) ?_
  intro k hk
  by_cases hlt : k < L.length
  · have ha := hat k hlt
    have hf := flat_take hlt
    have hle := flat_le L (k + 1)
    rw [hf, List.length_append] at hle
    have hl : (L.take (k + 1)).flatten.length = (L.take k).flatten.length + (L.getD k []).length := by rw [hf]; simp
    have hu : u8 (L.take (k + 1)).flatten = u8 (L.take k).flatten ++ u8 (L.getD k []) := by rw [hf, u8_append]
    have hc : (u8 (L.take k).flatten).length = (L.take k).flatten.length := u8_length _
    have hx : (u8 (L.getD k [])).length = (L.getD k []).length := u8_length _
    generalize u8 (L.take k).flatten = cs at *
    generalize (L.take k).flatten.length = s at *
    generalize u8 (L.getD k []) = us at *
    generalize (L.getD k []).length = xl at *
    simp (maxSteps := 4000000) (disch := omega) only [abv, step, stepv, ev, wl, wn, wp, wz, aop, cV, cV1, AV.one, partCells, okW, onlyFr, app, sliceCells, cellsAt, srcA, subA, eqFs, Int.cast_ofNat_Int, simprocAttr, ha, hml, hc, hx]
    exact ⟨k + 1, by omega, by omega, by rw [hl, hu]; exact Le.slots (by simp [Am.look])⟩
  obtain rfl : k = L.length := by omega
  rw [List.take_length]
  simp (maxSteps := 4000000) (disch := omega) only [abv, step, stepv, ev, wl, wn, wp, wz, aop, cV, cV1, AV.one, partCells, okW, onlyFr, app, sliceCells, cellsAt, srcA, subA, eqFs, Int.cast_ofNat_Int, simprocAttr]
  simp [frzN, frzK, frzL, frzV, frzL_T _ (isT_u8 _), bs]

end Go.Am

namespace Go.Am
open Go.RowKit

/-! ### Frames are coded: Encode, Length -/

theorem u32L_valE (c : Nat) (x : Int) (t l : List Int) : u32L (outT c (mixAll c l) (newC x t) l.length) = .list l.length (ks .u32 ((valE c x t l).map fun n : Nat => (n : Int))) := by
  have := iL_valE c x t l
  unfold iL at this
  rw [this, u32L, outT_len]
theorem upd_chan {c i : Nat} {v : List Nat} (hc : 1 ≤ c) (hi : i < v.length) : updD (fun j => if j < c then chanM c j (v.take i) else startM) (i % c) (learnM (chanM c (i % c) (v.take i)) (v.getD i 0)) = fun j => if j < c then chanM c j (v.take (i + 1)) else startM := by
  have ht : v.take (i + 1) = v.take i ++ [v.getD i 0] := by
    rw [List.take_succ_eq_append_getElem hi]
    simp [List.getD_eq_getElem?_getD, List.getElem?_eq_getElem hi]
  have hl : (v.take i).length = i := by simp; omega
  have hr : i % c < c := Nat.mod_lt _ (by omega)
  funext j
  unfold updD
  rw [ht]
  by_cases hj : j = i % c
  · subst hj
    rw [if_pos rfl, if_pos hr, chan_snoc, if_pos (by rw [hl])]
  · rw [if_neg hj]
    by_cases hjc : j < c
    · simp only [hjc, if_true]
      rw [chan_snoc, if_neg (by rw [hl]; exact fun e => hj e.symm)]
    · simp only [hjc, if_false]

def enfA (c x : Int) (t l : List Int) : AV := if askN c x l ≠ 0 then .tup [.list 0 [], .int .i64 (askN c x l)] else .tup [bs (encB c.toNat x t l), .int .i64 0]
theorem isD_enfA (c x : Int) (t l : List Int) : isD (enfA c x t l) = true := by unfold enfA; split <;> simp [isD, isDL, isD_bs]
def S_Enc (P : Prg) (f : Nat) : Prop := ∀ (c x : Int) (t l : List Int), t.length = 16 → I32 t → I32 l → VC P f [shA c x, .agg (ks .i32 t), il l] (enfA c x t l)
set_option maxHeartbeats 2000000 in
set_option maxRecDepth 20000 in
theorem enframe_Encode {P : Prg} {f fV fS fW fP fC fB fK t0 t1 t2 t3 t4 t5 tp tb : Nat} (bd : Body P f 85 [.tmp 6, .tmp 7] (ac_enframe_Encode fV fS fW fP fC fB fK t0 t1 t2 t3 t4 t5)) (hV : S_EVals P fV) (hS : S_eStates P fS) (hW : S_dWrite P fW) (bP : Body P fP 64 [] (ac_enframe_put tp tb)) (hC : S_CSum P fC) (hB : S_leBytes P fB) (hK : S_Concat P fK) : S_Enc P f := by
  intro c x t l ht hI hL
  refine VC.of_walk 1 (by simp [isDL, isD, isDL_ks, isD_il, shA]) (isD_enfA _ _ _ _) (ACall.of_body bd (by simp) ?_)
  have hk : (ks .i32 t).length = 16 := by simp [ks_length, ht]
  have tt : (ks .i32 t).take 16 = ks .i32 t := take_all (by omega)
  have ot := ks_one .i32 t
  have hV' := hV c x t l ht hI hL
  unfold enfA
  by_cases h0 : askN c x l = 0
  case neg =>
    rw [valA, if_pos h0] at hV'
    rw [if_pos h0]
    rw [shA] at hV' ⊢
    simp (maxSteps := 4000000) (disch := omega) only [abv, step, stepv, ev, wl, wn, wp, wz, aop, cV, cV1, AV.one, partCells, okW, onlyFr, app, sliceCells, cellsAt, srcA, subA, eqFs, Int.cast_ofNat_Int, simprocAttr, ac_enframe_Encode, hk, ot, tt]
    refine callQ.vc hV' ?_
    simp (maxSteps := 4000000) (disch := omega) only [abv, step, stepv, ev, wl, wn, wp, wz, aop, cV, cV1, AV.one, partCells, okW, onlyFr, app, sliceCells, cellsAt, srcA, subA, eqFs, Int.cast_ofNat_Int, simprocAttr, h0]
    simp [frzN, frzK, frzL, frzV]
  obtain ⟨k, m, rfl, hkM, hx, e1, e2, e3, e4, e5, e6⟩ := ask_all hL h0
  obtain ⟨c1, c6, l0, l4, lm, _⟩ := hkM
  rw [valA, if_neg (by omega), Int.toNat_natCast, u32L_valE] at hV'
  rw [if_neg (by omega), Int.toNat_natCast, encB, sealB]
  have hv := valE_ok k x t l
  have hvl := valE_len k x t l
  rw [← hvl] at hV' l0 l4
  generalize valE k x t l = v at *
  rw [shA] at hV' ⊢
  have hfb := frm_bounds (c := k) hv
  have hkv : (ks .u32 (v.map fun n : Nat => (n : Int))).length = v.length := by simp [ks]
  have s24 := sixD_len fun _ => startM
  have sone : (sixD fun _ => startM).all AV.one = true := rfl
  have stk : (sixD fun _ => startM).take 24 = sixD fun _ => startM := rfl
  have z2 : (fun j => if j < k then chanM k j (v.take 0) else startM) = fun _ => startM := by
    funext j
    rw [List.take_zero]
    split <;> rfl
  simp only [S_eStates] at hS
  simp (maxSteps := 4000000) (disch := omega) only [abv, step, stepv, ev, wl, wn, wp, wz, aop, cV, cV1, AV.one, partCells, okW, onlyFr, app, sliceCells, cellsAt, srcA, subA, eqFs, Int.cast_ofNat_Int, simprocAttr, ac_enframe_Encode, hk, ot, tt]
  refine callQ.vc hV' ?_
  simp (maxSteps := 4000000) (disch := omega) only [abv, step, stepv, ev, wl, wn, wp, wz, aop, cV, cV1, AV.one, partCells, okW, onlyFr, app, sliceCells, cellsAt, srcA, subA, eqFs, Int.cast_ofNat_Int, simprocAttr, hkv]
  refine callQ.vc hS ?_
  generalize hS0 : (sixD fun _ => startM) = S0 at *
  simp (maxSteps := 4000000) (disch := omega) only [abv, step, stepv, ev, wl, wn, wp, wz, aop, cV, cV1, AV.one, partCells, okW, onlyFr, app, sliceCells, cellsAt, srcA, subA, eqFs, Int.cast_ofNat_Int, simprocAttr, hkv, s24, sone, stk, List.append_nil, List.take_zero, List.nil_append]
  refine ALoop.by (ι := Nat) (fun i => ⟨[(32, .int .i64 i), (31, .int .i64 v.length), (30, .list v.length (ks .u32 (v.map fun n : Nat => (n : Int)))), (11, .ref 3 1 0), (10, .ref 2 1 0), (7, .int .i64 0), (6, .emp true), (3, .ref 0 1 0)],
      [⟨t0, 2, 1, [.int .i64 k, .int .i64 x], 0⟩, ⟨t1, 16, 1, ks .i32 t, 0⟩, ⟨t2, 24, 1, sixD (fun j => if j < k then chanM k j (v.take i) else startM), 0⟩, bO t3 4 (frmN k v i), bY tb (frmN k v i) (frmV k v i)]⟩)
    (fun i => i ≤ v.length) (fun i => v.length - i) 0 ?_ (by omega) ?_
  · simp only [z2, hS0]
    rw [frmN_zero, frmV_zero]
    refine Le.trans (Le.virtF 3 tb 1 (by decide) rfl rfl) ?_
    exact Le.slots (by simp [Am.look])
  intro i hi
  by_cases hlt : i < v.length
  · obtain ⟨r, hr⟩ : ∃ r, r = i % k := ⟨_, rfl⟩
    have hrc : r < k := by rw [hr]; exact Nat.mod_lt _ (by omega)
    have q1 : (i : Int) % k = (r : Int) := by rw [hr]; simp [Int.natCast_emod]
    have q1' : ((i : Int)).tmod (k : Int) = (r : Int) := by rw [Int.tmod_eq_emod_of_nonneg (by omega), q1]
    have hc0 : (k : Int) ≠ 0 := by omega
    obtain ⟨b1, b2, b3⟩ := hfb i
    obtain ⟨_, b5, _⟩ := hfb (i + 1)
    have hd := chan_ok (c := k) (r := r) (hv.take i)
    have hvi := hv.getD i
    have hW' := hW 0 0 (v.getD i 0) (chanM k r (v.take i)) (by decide) hvi hd (by omega)
    rw [Nat.zero_add, Nat.pow_zero, Nat.one_mul, Nat.zero_add] at hW'
    have hcl := codeC_lt (d := chanM k r (v.take i)) hvi
    have hcn := codeN_le (v := v.getD i 0) hd
    obtain ⟨rest, hg⟩ := sixD_get (fun j => if j < k then chanM k j (v.take i) else startM) (j := r) (by omega)
    simp only [hrc, if_true] at hg
    have hset := sixD_set (fun j => if j < k then chanM k j (v.take i) else startM) (j := r) (by omega) (learnM (chanM k r (v.take i)) (v.getD i 0))
    have hup := upd_chan c1 hlt
    rw [← hr] at hup
    rw [hup] at hset
    have hln := sixD_len (fun j => if j < k then chanM k j (v.take i) else startM)
    have hkat := ks_at (K := .u32) (l := v.map fun n : Nat => (n : Int)) (i := i) (by simpa using hlt)
    have hgd : (v.map fun n : Nat => (n : Int)).getD i 0 = ((v.getD i 0 : Nat) : Int) := by simp [List.getD_eq_getElem?_getD, List.getElem?_eq_getElem hlt]
    rw [hgd] at hkat
    have hsN := frmN_succ k v i
    have hsV := frmV_succ k v i
    rw [← hr] at hsN hsV
    have hb6 : frmN k v i + codeN (chanM k r (v.take i)) (v.getD i 0) ≤ 400000 := by omega
    have hD6 : isDL (sixD (fun j => if j < k then chanM k j (v.take (i + 1)) else startM)) = true := isTL_D (isTL_sixD _)
    generalize hF1 : sixD (fun j => if j < k then chanM k j (v.take (i + 1)) else startM) = F' at *
    generalize sixD (fun j => if j < k then chanM k j (v.take i) else startM) = F at *
    generalize hN0 : frmN k v i = N at *
    generalize hV0 : frmV k v i = V at *
    generalize hN1 : frmN k v (i + 1) = N1 at *
    generalize hV1 : frmV k v (i + 1) = V1 at *
    generalize hn0 : codeN (chanM k r (v.take i)) (v.getD i 0) = n at *
    generalize hC0 : codeC (chanM k r (v.take i)) (v.getD i 0) = C at *
    generalize learnM (chanM k r (v.take i)) (v.getD i 0) = d' at *
    generalize chanM k r (v.take i) = d at *
    generalize v.getD i 0 = vi at *
    obtain ⟨d0, d1, d2, d3⟩ := d
    obtain ⟨m0, m1, m2, m3⟩ := d'
    simp only [dlA, dlC, bA] at hW'
    simp only at hg hset
    have hfr : frzN (fun o => ([] : List Nat).contains o) [⟨t0, 2, 1, [.int .i64 k, .int .i64 x], 0⟩, ⟨t1, 16, 1, ks .i32 t, 0⟩, ⟨t2, 24, 1, F, 0⟩, ⟨t3, 2, 1, [.own 4 (nB N), .int .i64 N], 0⟩, bY tb N V] (0 + 1) [.agg [.emp true, .int .i64 0], .agg [.int .i64 d0, .int .i64 d1, .int .u64 d2, .int .u64 d3], .int .u32 vi] =
      some [.agg [.list (nB 0) (u8 (leB 0 (nB 0))), .int .i64 ((0 : Nat) : Int)], .agg [.int .i64 d0, .int .i64 d1, .int .u64 d2, .int .u64 d3], .int .u32 vi] := by
      simp [frzN, frzK, frzL, frzV, nB, leB, u8]
    have pt : ∀ (Q : Exit → St → Prop) os fr dst, wpQ P os Q ⟨putA fr dst (.tup []), [⟨t0, 2, 1, [.int .i64 k, .int .i64 x], 0⟩, ⟨t1, 16, 1, ks .i32 t, 0⟩, ⟨t2, 24, 1, F', 0⟩, bO t3 4 N1, bY tb N1 V1, ⟨t3, 2, 1, [.list (nB n) (u8 (leB C (nB n))), .int .i64 n], 0⟩, ⟨t4, 4, 1, [.int .i64 m0, .int .i64 m1, .int .u64 m2, .int .u64 m3], 0⟩]⟩ →
        callQ P fP [.ref 3 1 0, .agg [.list (nB n) (u8 (leB C (nB n))), .int .i64 n]] [⟨t0, 2, 1, [.int .i64 k, .int .i64 x], 0⟩, ⟨t1, 16, 1, ks .i32 t, 0⟩, ⟨t2, 24, 1, F', 0⟩, ⟨t3, 2, 1, [.own 4 (nB N), .int .i64 N], 0⟩, bY tb N V, ⟨t3, 2, 1, [.list (nB n) (u8 (leB C (nB n))), .int .i64 n], 0⟩, ⟨t4, 4, 1, [.int .i64 m0, .int .i64 m1, .int .u64 m2, .int .u64 m3], 0⟩] os Q fr dst := fun Q os fr dst h =>
      enframe_put bP (ob := [⟨t0, 2, 1, [.int .i64 k, .int .i64 x], 0⟩, ⟨t1, 16, 1, ks .i32 t, 0⟩, ⟨t2, 24, 1, F', 0⟩, ⟨t3, 2, 1, [.own 4 (nB N), .int .i64 N], 0⟩, bY tb N V, ⟨t3, 2, 1, [.list (nB n) (u8 (leB C (nB n))), .int .i64 n], 0⟩, ⟨t4, 4, 1, [.int .i64 m0, .int .i64 m1, .int .u64 m2, .int .u64 m3], 0⟩]) (t := t3) (p := 3) (o := 4) (N := N) (V := V) (C := C) (n := n) rfl rfl (by decide) b1 hcl (by omega) (by omega)
        (Low.cons (by simp [lowL, lowV]) (Low.cons (lowL_D _ (isDL_ks _ _)) (Low.cons (lowL_D _ hD6) (Low.cons (by simp [lowL, lowV]) (Low.cons (lowL_D _ (isDL_leB _ _)) (Low.cons (by simp [lowL, lowV, lowL_D _ (isDL_leB _ _)]) (Low.cons (by simp [lowL, lowV]) Low.nil)))))))
        (by rw [hsN, hsV] at h; exact h)
    simp (maxSteps := 4000000) (disch := omega) only [abv, step, stepv, ev, wl, wn, wp, wz, aop, cV, cV1, AV.one, partCells, okW, onlyFr, app, sliceCells, cellsAt, srcA, subA, eqFs, Int.cast_ofNat_Int, simprocAttr, bO, hkat, hkv, q1, q1', hc0, hg, hln]
    refine callQ.still 0 [] hW' hfr ?_
    simp (maxSteps := 4000000) (disch := omega) only [abv, step, stepv, ev, wl, wn, wp, wz, aop, cV, cV1, AV.one, partCells, okW, onlyFr, app, sliceCells, cellsAt, srcA, subA, eqFs, Int.cast_ofNat_Int, simprocAttr, stillAt, hkat, hkv, q1, q1', hc0, hg, hln, hset]
    refine pt _ _ _ _ ?_
    simp (maxSteps := 4000000) (disch := omega) only [abv, step, stepv, ev, wl, wn, wp, wz, aop, cV, cV1, AV.one, partCells, okW, onlyFr, app, sliceCells, cellsAt, srcA, subA, eqFs, Int.cast_ofNat_Int, simprocAttr]
    refine ⟨i + 1, by omega, by omega, ?_⟩
    simp only [hN1, hV1, hF1]
    refine Le.low (ob := [⟨t0, 2, 1, [.int .i64 k, .int .i64 x], 0⟩, ⟨t1, 16, 1, ks .i32 t, 0⟩, ⟨t2, 24, 1, F', 0⟩, bO t3 4 N1, bY tb N1 V1]) (J := [_, _]) (Nat.zero_le _) ?_ (by simp [Am.look, lowV, lowL_D _ (isDL_ks _ _)])
    exact Low.cons (by simp [lowL, lowV]) (Low.cons (lowL_D _ (isDL_ks _ _)) (Low.cons (lowL_D _ hD6) (Low.cons (by simp [bO, lowL, lowV]) (Low.cons (lowL_D _ (isDL_leB _ _)) Low.nil))))
  · obtain rfl : i = v.length := by omega
    obtain ⟨_, b5, b6⟩ := hfb v.length
    have hfl := frmB_len k v
    have hle : nB (frmN k v v.length) ≤ 40500 := by unfold nB; omega
    have hC' := hC (frmB k v)
    rw [if_neg (by omega), ← sumM] at hC'
    have hsm := sumM_lt (frmB k v)
    have hB' := hB (sumM (frmB k v)) 4 (by omega) (by omega) hsm
    have hK' := hK [frmB k v, leB (sumM (frmB k v)) 4] (by simp) (by simp [leB_length]) (by simp [leB_length]; omega)
    have hfe : frmB k v = leB (frmV k v v.length) (nB (frmN k v v.length)) := rfl
    simp only [partsA, bs, List.map_cons, List.map_nil, List.length_cons, List.length_nil, List.flatten_cons, List.flatten_nil, List.append_nil, List.length_append, hfl, leB_length] at hC' hB' hK' ⊢
    have tfl : isTL (u8 (frmB k v)) = true := isT_u8 _
    have tfs : isTL (u8 (leB (sumM (frmB k v)) 4)) = true := isT_u8 _
    have tfa : isTL (u8 (frmB k v ++ leB (sumM (frmB k v)) 4)) = true := isT_u8 _
    have hul : (u8 (frmB k v)).length = nB (frmN k v v.length) := by rw [u8_length, hfl]
    generalize sixD (fun j => if j < k then chanM k j (v.take v.length) else startM) = F at *
    simp only [bO, bY]
    rw [← hfe]
    generalize frmB k v ++ leB (sumM (frmB k v)) 4 = R at *
    generalize leB (sumM (frmB k v)) 4 = s4 at *
    generalize sumM (frmB k v) = sm at *
    generalize frmB k v = fb at *
    generalize nB (frmN k v v.length) = nn at *
    simp (maxSteps := 4000000) (disch := omega) only [abv, step, stepv, ev, wl, wn, wp, wz, aop, cV, cV1, AV.one, partCells, okW, onlyFr, app, sliceCells, cellsAt, srcA, subA, eqFs, Int.cast_ofNat_Int, simprocAttr]
    refine callQ.still 1 [4] hC' (by simp [frzN, frzK, frzL, frzV, frzL_T _ tfl]) ?_
    simp (maxSteps := 4000000) (disch := omega) only [abv, step, stepv, ev, wl, wn, wp, wz, aop, cV, cV1, AV.one, partCells, okW, onlyFr, app, sliceCells, cellsAt, srcA, subA, eqFs, Int.cast_ofNat_Int, simprocAttr, stillAt]
    refine callQ.vc hB' ?_
    simp (maxSteps := 4000000) (disch := omega) only [abv, step, stepv, ev, wl, wn, wp, wz, aop, cV, cV1, AV.one, partCells, okW, onlyFr, app, sliceCells, cellsAt, srcA, subA, eqFs, Int.cast_ofNat_Int, simprocAttr]
    refine callQ.still 2 [5, 4] hK' (by simp [frzN, frzK, frzL, frzV, frzL_T _ tfl, frzL_T _ tfs]) ?_
    simp (maxSteps := 4000000) (disch := omega) only [abv, step, stepv, ev, wl, wn, wp, wz, aop, cV, cV1, AV.one, partCells, okW, onlyFr, app, sliceCells, cellsAt, srcA, subA, eqFs, Int.cast_ofNat_Int, simprocAttr, stillAt]
    simp [frzN, frzK, frzL, frzV, frzL_T _ tfa]

end Go.Am

namespace Go.Am
open Go.RowKit

/-! ### The reference of Encode and Length; the law EnframeBytes -/

theorem enc_le {c x : Int} {t l : List Int} (hL : I32 l) (h : askN c x l = 0) : (encB c.toNat x t l).length ≤ 40504 ∧ 5 ≤ (encB c.toNat x t l).length := by
  obtain ⟨k, m, rfl, hkM, hx, e1, e2, e3, e4, e5, e6⟩ := ask_all hL h
  obtain ⟨c1, c6, l0, l4, lm, _⟩ := hkM
  have hvl := valE_len k x t l
  have := frmB_bounds (c := k) (valE_ok k x t l) (by omega) (by omega)
  rw [Int.toNat_natCast, encB, sealB_len]
  omega
end Go.Am

namespace Go.Am
open Go.RowKit

/-! ### Lists of numbers: slices.Concat, slices.Repeat, lengths.All -/

def nl (l : List Int) : AV := .list l.length (ks .i64 l)
theorem isD_nl (l : List Int) : isD (nl l) = true := by simp [nl, isD, isDL_ks]
def nls (L : List (List Int)) : AV := .list L.length (L.map nl)
theorem isDL_nls : ∀ L : List (List Int), isDL (L.map nl) = true
  | [] => rfl
  | l :: L => by simp [isDL, isD_nl, isDL_nls L]
def S_ConcatI (t : Nat) (P : Prg) (f : Nat) : Prop := ∀ L : List (List Int), L.length ≤ 1000000 → 0 < L.flatten.length → L.flatten.length ≤ 1000000 → VO P f [nls L] (.own 0 L.flatten.length) ⟨t, 1, L.flatten.length, ks .i64 L.flatten, 0⟩
theorem grow_nilI {P : Prg} {f t : Nat} {ρ : Go.Shelf.Ren} (L : Go.Proofs.Lays8.n4 P.prog ρ) (hf : ρ.f 4 = f) (ht : ρ.t 25 = t) (h25 : (P.prog.info? t).map (fun i => (i.zero, i.size, i.bytes)) = some (some (.int .i64 0), 1, 8)) : ∀ (ob : List Ob) (n : Nat) (z : Bool) (K : AV → List Ob → Prop), 0 < n → n ≤ 1000000 → K (.own ob.length 0) (ob ++ [⟨t, 1, 0, [], 0⟩]) → ACall P f [.emp z, .int .i64 n] ob K := by
  intro ob n z K h1 h2 hK
  subst hf; subst ht
  exact ACall.grow_nilI (by omega) L h25 h1 (by omega) hK
def S_GrowNilI (t : Nat) (P : Prg) (f : Nat) : Prop := ∀ (ob : List Ob) (n : Nat) (z : Bool) (K : AV → List Ob → Prop), 0 < n → n ≤ 1000000 → K (.own ob.length 0) (ob ++ [⟨t, 1, 0, [], 0⟩]) → ACall P f [.emp z, .int .i64 n] ob K
theorem flatI_take {L : List (List Int)} {k : Nat} (h : k < L.length) : (L.take (k + 1)).flatten = (L.take k).flatten ++ L.getD k [] := by
  rw [List.take_succ_eq_append_getElem h, List.flatten_append, List.getD_eq_getElem?_getD, List.getElem?_eq_getElem h]
  simp
theorem flatI_le (L : List (List Int)) (k : Nat) : (L.take k).flatten.length ≤ L.flatten.length := by
  conv => rhs; rw [← List.take_append_drop k L, List.flatten_append, List.length_append]
  omega
theorem slices_ConcatI {P : Prg} {f fG t0 : Nat} (bd : Body P f 36 [.tmp 2] (ac_slices_Concat_int_int fG t0)) (hG : S_GrowNilI t0 P fG) : S_ConcatI t0 P f := by
  intro L hL h0 h1
  refine VO.of_walk (by simp [isDL, isD, nls, isDL_nls]) (isDL_ks _ _) (by simp [okr]) (ACall.of_body bd (by simp) ?_)
  have hat : ∀ k, k < L.length → (L.map nl).drop k = nl (L.getD k []) :: (L.map nl).drop (k + 1) := fun k hk => by
    rw [List.drop_eq_getElem_cons (by simpa using hk)]
    simp [List.getD_eq_getElem?_getD, List.getElem?_eq_getElem hk]
  have hml : (L.map nl).length = L.length := by simp
  simp only [nl] at hat
  simp (maxSteps := 4000000) (disch := omega) only [abv, step, stepv, ev, wl, wn, wp, wz, aop, cV, cV1, AV.one, partCells, okW, onlyFr, app, sliceCells, cellsAt, srcA, subA, eqFs, Int.cast_ofNat_Int, simprocAttr, ac_slices_Concat_int_int, nls]
  refine ALoop.by (ι := Nat) (fun k => ⟨[(11, .int .i64 k), (10, .int .i64 L.length), (9, .list L.length (L.map nl)), (3, .int .i64 (L.take k).flatten.length), (0, .list L.length (L.map nl))], []⟩) (fun k => k ≤ L.length) (fun k => L.length - k) 0 (Le.slots (by simp [Am.look])) (by omega) ?_
  intro k hk
  by_cases hlt : k < L.length
  · have ha := hat k hlt
    have hf := flatI_take hlt
    have hle := flatI_le L (k + 1)
    rw [hf, List.length_append] at hle
    have hl : ((L.take (k + 1)).flatten.length : Int) = (L.take k).flatten.length + (L.getD k []).length := by rw [hf]; simp
    generalize (L.take k).flatten.length = s at *
    generalize L.getD k [] = x at *
    simp (maxSteps := 4000000) (disch := omega) only [abv, step, stepv, ev, wl, wn, wp, wz, aop, cV, cV1, AV.one, partCells, okW, onlyFr, app, sliceCells, cellsAt, srcA, subA, eqFs, Int.cast_ofNat_Int, simprocAttr, ha, hml]
    exact ⟨k + 1, by omega, by omega, by simp only [hl]; exact Le.slots (by simp [Am.look])⟩
  obtain rfl : k = L.length := by omega
  rw [List.take_length]
  have hG' := fun K hK => hG [] L.flatten.length true K h0 h1 hK
  simp (maxSteps := 4000000) (disch := omega) only [abv, step, stepv, ev, wl, wn, wp, wz, aop, cV, cV1, AV.one, partCells, okW, onlyFr, app, sliceCells, cellsAt, srcA, subA, eqFs, Int.cast_ofNat_Int, simprocAttr]
  refine hG' _ ?_
  simp (maxSteps := 4000000) (disch := omega) only [abv, step, stepv, ev, wl, wn, wp, wz, aop, cV, cV1, AV.one, partCells, okW, onlyFr, app, sliceCells, cellsAt, srcA, subA, eqFs, Int.cast_ofNat_Int, simprocAttr]
  refine ALoop.by (ι := Nat) (fun k => ⟨[(27, .int .i64 k), (26, .int .i64 L.length), (25, .list L.length (L.map nl)), (6, .own 0 (L.take k).flatten.length)], [⟨t0, 1, (L.take k).flatten.length, ks .i64 (L.take k).flatten, 0⟩]⟩) (fun k => k ≤ L.length) (fun k => L.length - k) 0 (Le.slots (by simp [Am.look, ks])) (by omega) ?_
  intro k hk
  by_cases hlt : k < L.length
  · have ha := hat k hlt
    have hf := flatI_take hlt
    have hle := flatI_le L (k + 1)
    rw [hf, List.length_append] at hle
    have hl : (L.take (k + 1)).flatten.length = (L.take k).flatten.length + (L.getD k []).length := by rw [hf]; simp
    have hu : ks .i64 (L.take (k + 1)).flatten = ks .i64 (L.take k).flatten ++ ks .i64 (L.getD k []) := by rw [hf]; simp [ks]
    have hc : (ks .i64 (L.take k).flatten).length = (L.take k).flatten.length := ks_length _ _
    have hx : (ks .i64 (L.getD k [])).length = (L.getD k []).length := ks_length _ _
    generalize ks .i64 (L.take k).flatten = cs at *
    generalize (L.take k).flatten.length = s at *
    generalize ks .i64 (L.getD k []) = us at *
    generalize (L.getD k []).length = xl at *
    simp (maxSteps := 4000000) (disch := omega) only [abv, step, stepv, ev, wl, wn, wp, wz, aop, cV, cV1, AV.one, partCells, okW, onlyFr, app, sliceCells, cellsAt, srcA, subA, eqFs, Int.cast_ofNat_Int, simprocAttr, ha, hml, hc, hx]
    exact ⟨k + 1, by omega, by omega, by rw [hl, hu]; exact Le.slots (by simp [Am.look])⟩
  obtain rfl : k = L.length := by omega
  rw [List.take_length]
  simp (maxSteps := 4000000) (disch := omega) only [abv, step, stepv, ev, wl, wn, wp, wz, aop, cV, cV1, AV.one, partCells, okW, onlyFr, app, sliceCells, cellsAt, srcA, subA, eqFs, Int.cast_ofNat_Int, simprocAttr]
  exact ⟨0, rfl, rfl⟩

end Go.Am

namespace Go.Am
open Go.RowKit

def S_Mul (P : Prg) (f : Nat) : Prop := ∀ x y : Nat, x ≤ 65535 → y ≤ 65535 → VC P f [.int .u64 x, .int .u64 y] (.tup [.int .u64 0, .int .u64 ((x * y : Nat) : Int)])
theorem math_Mul64 {P : Prg} {f : Nat} (bd : Body P f 51 [.tmp 4, .tmp 5] ac_math_bits_Mul64) : S_Mul P f := by
  intro x y hx hy
  refine VC.of_acall rfl rfl (ACall.of_body bd (by simp) ?_)
  have hxy : x * y ≤ 65535 * 65535 := Nat.mul_le_mul hx hy
  have hm : (x : Int) * (y : Int) = ((x * y : Nat) : Int) := by simp
  have an : ∀ a : Nat, a ≤ 4294967295 → IntKind.u64.wrap (BitVec.ofInt IntKind.u64.bits (a : Int) &&& BitVec.ofInt IntKind.u64.bits 4294967295).toNat = (a : Int) := by
    intro a ha
    have := and_u64 a 4294967295 (by omega) (by decide)
    rw [show (4294967295 : Nat) = 2 ^ 32 - 1 from rfl, Nat.and_two_pow_sub_one_eq_mod, Nat.mod_eq_of_lt (by omega)] at this
    exact this
  have sh : ∀ a : Nat, a ≤ 4294967295 → shiftA false .u64 (a : Int) 32 = some (.int .u64 0) := by
    intro a ha
    have := shrK (K := .u64) (n := a) (k := 32) (by decide)
    rw [Nat.div_eq_of_lt (by omega)] at this
    exact this
  have a1 := an x (by omega)
  have a2 := an y (by omega)
  have a3 : IntKind.u64.wrap (BitVec.ofInt IntKind.u64.bits 0 &&& BitVec.ofInt IntKind.u64.bits 4294967295).toNat = 0 := by decide
  have s1 := sh x (by omega)
  have s2 := sh y (by omega)
  have s3 := sh (x * y) (by omega)
  have s4 : shiftA false .u64 0 32 = some (.int .u64 0) := sh 0 (by omega)
  generalize x * y = z at *
  simp (maxSteps := 4000000) (disch := omega) only [abv, step, stepv, ev, wl, wn, wp, wz, aop, cV, cV1, AV.one, partCells, okW, onlyFr, app, sliceCells, cellsAt, srcA, subA, eqFs, Int.cast_ofNat_Int, simprocAttr, ac_math_bits_Mul64, a1, a2, a3, s1, s2, s3, s4, hm, Int.zero_mul, Int.mul_zero, Int.add_zero, Int.zero_add]
theorem math_Mul {P : Prg} {f f32 f64 : Nat} (bd : Body P f 30 [.tmp 4, .tmp 5] (ac_math_bits_Mul f32 f64)) (h64 : S_Mul P f64) : S_Mul P f := by
  intro x y hx hy
  refine VC.of_acall rfl rfl (ACall.of_body bd (by simp) ?_)
  have h := h64 x y hx hy
  generalize x * y = z at *
  simp (maxSteps := 4000000) (disch := omega) only [abv, step, stepv, ev, wl, wn, wp, wz, aop, cV, cV1, AV.one, partCells, okW, onlyFr, app, sliceCells, cellsAt, srcA, subA, eqFs, Int.cast_ofNat_Int, simprocAttr, ac_math_bits_Mul]
  refine callQ.vc h ?_
  simp (maxSteps := 4000000) (disch := omega) only [abv, step, stepv, ev, wl, wn, wp, wz, aop, cV, cV1, AV.one, partCells, okW, onlyFr, app, sliceCells, cellsAt, srcA, subA, eqFs, Int.cast_ofNat_Int, simprocAttr]

def rpL (v : Int) (m c : Nat) : List Int := List.replicate m v ++ List.replicate (c - m) 0
theorem rp_len {v : Int} {m c : Nat} (h : m ≤ c) : (rpL v m c).length = c := by simp [rpL]; omega
def S_Repeat1 (t : Nat) (P : Prg) (f : Nat) : Prop := ∀ (v : Int) (c : Nat), c ≤ 1000 → VO P f [nl [v], .int .i64 c] (.own 0 c) ⟨t, 1, c, ks .i64 (List.replicate c v), 0⟩
theorem slices_Repeat1 {P : Prg} {f fM t0 : Nat} (bd : Body P f 48 [.tmp 4] (ac_slices_Repeat_int_int fM t0)) (hM : S_Mul P fM) : S_Repeat1 t0 P f := by
  intro v c hc
  refine VO.of_walk (by simp [isDL, isD_nl, isD]) (isDL_ks _ _) (by simp [okr]) (ACall.of_body bd (by simp) ?_)
  have hM' := hM 1 c (by omega) (by omega)
  rw [Nat.one_mul] at hM'
  have hM2 : VC P fM [.int .u64 1, .int .u64 c] (.tup [.int .u64 0, .int .u64 c]) := hM'
  have e1 : nl [v] = .list 1 [.int .i64 v] := rfl
  have er : repCells [.int .i64 0] c = ks .i64 (List.replicate c 0) := rep_ks .i64 c
  have hl : (ks .i64 (List.replicate c 0)).length = c := by simp [ks_length]
  rw [e1]
  simp (maxSteps := 4000000) (disch := omega) only [abv, step, stepv, ev, wl, wn, wp, wz, aop, cV, cV1, AV.one, partCells, okW, onlyFr, app, sliceCells, cellsAt, srcA, subA, eqFs, Int.cast_ofNat_Int, simprocAttr, ac_slices_Repeat_int_int]
  refine callQ.vc hM2 ?_
  by_cases h0 : c = 0
  · subst h0
    simp (maxSteps := 4000000) (disch := omega) only [abv, step, stepv, ev, wl, wn, wp, wz, aop, cV, cV1, AV.one, partCells, okW, onlyFr, app, sliceCells, cellsAt, srcA, subA, eqFs, Int.cast_ofNat_Int, simprocAttr, er]
    refine ALoop.by (ι := Nat) (fun _ => ⟨[(8, .int .i64 0), (7, .own 0 0)], [⟨t0, 1, 0, [], 0⟩]⟩) (fun _ => True) (fun _ => 0) 0 (Le.slots (by simp [Am.look, ks])) trivial ?_
    intro _ _
    simp (maxSteps := 4000000) (disch := omega) only [abv, step, stepv, ev, wl, wn, wp, wz, aop, cV, cV1, AV.one, partCells, okW, onlyFr, app, sliceCells, cellsAt, srcA, subA, eqFs, Int.cast_ofNat_Int, simprocAttr]
    exact ⟨0, rfl, rfl⟩
  · have hmn : Nat.min 1 c = 1 := Nat.min_eq_left (by omega)
    have hst : (1 : Int) < (c : Int) ∨ c = 1 := by omega
    simp (maxSteps := 4000000) (disch := omega) only [abv, step, stepv, ev, wl, wn, wp, wz, aop, cV, cV1, AV.one, partCells, okW, onlyFr, app, sliceCells, cellsAt, srcA, subA, eqFs, Int.cast_ofNat_Int, simprocAttr, er, hl, hmn]
    refine ALoop.by (ι := Nat) (fun m => ⟨[(8, .int .i64 m), (7, .own 0 c)], [⟨t0, 1, c, ks .i64 (rpL v m c), 0⟩]⟩) (fun m => 1 ≤ m ∧ m ≤ c) (fun m => c - m) 1 ?_ (by omega) ?_
    · have : [AV.int .i64 v] ++ (ks .i64 (List.replicate c 0)).drop 1 = ks .i64 (rpL v 1 c) := by simp [rpL, ks]
      rw [← this]
      exact Le.slots (by simp [Am.look])
    intro m hm
    obtain ⟨hm1, hm2⟩ := hm
    have hkl : (ks .i64 (rpL v m c)).length = c := by rw [ks_length, rp_len hm2]
    by_cases hlt : m < c
    · obtain ⟨q, hq⟩ : ∃ q, q = Nat.min m (c - m) := ⟨_, rfl⟩
      have hq1 : q ≤ m := by rw [hq]; exact Nat.min_le_left _ _
      have hq2 : q ≤ c - m := by rw [hq]; exact Nat.min_le_right _ _
      have hq3 : 1 ≤ q := by rw [hq]; exact Nat.le_min.2 ⟨hm1, by omega⟩
      have hmc : min m c = m := Nat.min_eq_left hm2
      have hal : ((ks .i64 (rpL v m c)).take m).all AV.one = true := by
        rw [List.all_eq_true]
        intro x hx
        exact List.all_eq_true.1 (ks_one .i64 (rpL v m c)) x (List.mem_of_mem_take hx)
      have e1 : (rpL v m c).take m = List.replicate m v := by unfold rpL; rw [List.take_left' (by simp)]
      have e2 : (rpL v m c).drop (m + q) = List.replicate (c - (m + q)) 0 := by
        unfold rpL
        rw [List.drop_append, List.drop_of_length_le (by simp), List.nil_append, List.drop_replicate, List.length_replicate]
        congr 1
        omega
      have hcs : (ks .i64 (rpL v m c)).take m ++ (((ks .i64 (rpL v m c)).take m).take q ++ (ks .i64 (rpL v m c)).drop (m + q)) = ks .i64 (rpL v (m + q) c) := by
        have k1 : ∀ l n, (ks .i64 l).take n = ks .i64 (l.take n) := fun l n => by simp [ks, List.map_take]
        have k2 : ∀ l n, (ks .i64 l).drop n = ks .i64 (l.drop n) := fun l n => by simp [ks, List.map_drop]
        have k3 : ∀ a b, ks .i64 a ++ ks .i64 b = ks .i64 (a ++ b) := fun a b => by simp [ks]
        rw [k1, e1, k1, k2, e2, List.take_replicate, Nat.min_eq_left hq1, k3, k3, ← List.append_assoc, List.replicate_append_replicate]
        rfl
      have hcs2 : (ks .i64 (rpL v m c)).take m ++ ((ks .i64 (rpL v m c)).take m).take q ++ (ks .i64 (rpL v m c)).drop (m + q) = ks .i64 (rpL v (m + q) c) := by rw [List.append_assoc]; exact hcs
      simp (maxSteps := 4000000) (disch := omega) only [abv, step, stepv, ev, wl, wn, wp, wz, aop, cV, cV1, AV.one, partCells, okW, onlyFr, app, sliceCells, cellsAt, srcA, subA, eqFs, Int.cast_ofNat_Int, simprocAttr, hkl, h0, Nat.sub_zero, hmc, hal, ← hq, Nat.mul_one, hcs2, hcs]
      refine ⟨m + q, ⟨by omega, by omega⟩, by omega, ?_⟩
      exact Le.slots (by simp [Am.look])
    · obtain rfl : m = c := by omega
      have : rpL v m m = List.replicate m v := by simp [rpL]
      rw [this]
      simp (maxSteps := 4000000) (disch := omega) only [abv, step, stepv, ev, wl, wn, wp, wz, aop, cV, cV1, AV.one, partCells, okW, onlyFr, app, sliceCells, cellsAt, srcA, subA, eqFs, Int.cast_ofNat_Int, simprocAttr]
      exact ⟨0, rfl, rfl⟩

end Go.Am

namespace Go.Am
open Go.RowKit

def S_BehO (t : Nat) (P : Prg) (f : Nat) : Prop := ∀ a b : List Int, 0 < a.length + b.length → a.length + b.length ≤ 1000000 → VO P f [nl a, nl b] (.own 0 (a.length + b.length)) ⟨t, 1, a.length + b.length, ks .i64 (a ++ b), 0⟩
theorem lengths_behind {P : Prg} {f fC t0 t1 : Nat} (bd : Body P f 9 [.tmp 4] (ac_lengths_behind fC t1)) (hC : S_ConcatI t0 P fC) : S_BehO t0 P f := by
  intro a b h0 h1
  refine VO.of_walk (by simp [isDL, isD_nl]) (isDL_ks _ _) (by simp [okr]) (ACall.of_body bd (by simp) ?_)
  have hC' := hC [a, b] (by simp) (by simpa using h0) (by simpa using h1)
  have e1 : nls [a, b] = .list 2 [nl a, nl b] := rfl
  have e2 : [a, b].flatten = a ++ b := by simp
  rw [e1, e2, List.length_append] at hC'
  have ta := isTL_ks .i64 a
  have tb := isTL_ks .i64 b
  simp only [nl] at hC' ⊢
  simp (maxSteps := 4000000) (disch := omega) only [abv, step, stepv, ev, wl, wn, wp, wz, aop, cV, cV1, AV.one, partCells, okW, onlyFr, app, sliceCells, cellsAt, srcA, subA, eqFs, Int.cast_ofNat_Int, simprocAttr, ac_lengths_behind]
  refine callQ.vo_still 1 [0] hC' (by simp [frzN, frzK, frzL, frzV, frzL_T _ ta, frzL_T _ tb]) ?_
  simp (maxSteps := 4000000) (disch := omega) only [abv, step, stepv, ev, wl, wn, wp, wz, aop, cV, cV1, AV.one, partCells, okW, onlyFr, app, sliceCells, cellsAt, srcA, subA, eqFs, Int.cast_ofNat_Int, simprocAttr, stillAt, shr]
  exact ⟨1, rfl, rfl⟩

def okA (r n : Int) : Prop := 1 ≤ r ∧ r ≤ 1048576 ∧ 1 ≤ n ∧ n ≤ 4000 ∧ (lensL (longN r).toNat n.toNat).length ≤ 1000
def S_AllO (t : Nat) (P : Prg) (f : Nat) : Prop := ∀ r n : Int, okA r n → VO P f [.int .i64 r, .int .i64 n] (.tup [.own 0 (lensL (longN r).toNat n.toNat).length, .int .i64 0]) ⟨t, 1, (lensL (longN r).toNat n.toNat).length, ks .i64 (lensL (longN r).toNat n.toNat), 0⟩
theorem lengths_All {P : Prg} {f fC fL fR fB t0 : Nat} (bd : Body P f 39 [.tmp 4, .tmp 5] (ac_lengths_All fC fL fR fB t0)) (hC : S_Count22 P fC) (hL : S_Long22 P fL) (hR : S_Repeat1 t0 P fR) (hB : S_BehO t0 P fB) : S_AllO t0 P f := by
  intro r n ⟨a1, a2, a3, a4, a5⟩
  refine VO.of_walk rfl (isDL_ks _ _) (by simp [okr, flat]) (ACall.of_body bd (by simp) ?_)
  have hlong : 1 ≤ longN r := by unfold longN; split <;> omega
  obtain ⟨L, hLe⟩ : ∃ L : Nat, longN r = L := ⟨(longN r).toNat, by omega⟩
  obtain ⟨m, rfl⟩ : ∃ m : Nat, n = m := ⟨n.toNat, by omega⟩
  rw [hLe, Int.toNat_natCast, Int.toNat_natCast] at a5 ⊢
  rw [lensL_len] at a5
  obtain ⟨q, hq⟩ : ∃ q, q = (m - 1) / L := ⟨_, rfl⟩
  have hql : (lensL L m).length = q + 1 := by rw [lensL_len, hq]
  rw [← hq] at a5
  have hcd : ((m : Int) + (L : Int) - 1) / (L : Int) = ((q + 1 : Nat) : Int) := by
    have h1 : (m : Int) + (L : Int) - 1 = ((m - 1 + L : Nat) : Int) := by omega
    rw [h1, ← Int.natCast_ediv, Nat.add_div_right _ (by omega), ← hq]
  have hk : cntA r m = .tup [.int .i64 ((q + 1 : Nat) : Int), .int .i64 0] := by
    rw [cntA, if_neg (by omega), if_neg (by omega), hLe, hcd, if_neg (by omega)]
  have hC' := hC r m
  rw [hk] at hC'
  have hL' := hL r
  rw [longA, if_neg (by omega), hLe] at hL'
  have hR' := hR L q (by omega)
  have hB' := hB (List.replicate q (L : Int)) [(m : Int) - ((q * L : Nat) : Int)] (by simp) (by simp; omega)
  have e1 : List.replicate q (L : Int) ++ [(m : Int) - ((q * L : Nat) : Int)] = lensL L m := by unfold lensL; rw [hq]
  rw [e1] at hB'
  have e2 : (List.replicate q (L : Int)).length + [(m : Int) - ((q * L : Nat) : Int)].length = q + 1 := by simp
  rw [e2] at hB'
  have e3 : nl [(L : Int)] = .list 1 [.int .i64 (L : Int)] := rfl
  have e4 : nl [(m : Int) - ((q * L : Nat) : Int)] = .list 1 [.int .i64 ((m : Int) - ((q * L : Nat) : Int))] := rfl
  rw [e3] at hR'
  rw [e4] at hB'
  have tr := isTL_ks .i64 (List.replicate q (L : Int))
  have hqL : (q : Int) * (L : Int) = ((q * L : Nat) : Int) := by simp
  have hle : q * L ≤ m := by
    have := Nat.div_mul_le_self (m - 1) L
    rw [← hq] at this
    omega
  simp only [nl, List.length_replicate] at hB'
  rw [hql]
  generalize ks .i64 (lensL L m) = LL at *
  generalize ks .i64 (List.replicate q (L : Int)) = RR at *
  generalize q * L = w at *
  simp only [Int.natCast_add, Int.cast_ofNat_Int] at hC'
  have hq1 : (q : Int) + 1 - 1 = (q : Int) := by omega
  simp (maxSteps := 4000000) (disch := omega) only [abv, step, stepv, ev, wl, wn, wp, wz, aop, cV, cV1, AV.one, partCells, okW, onlyFr, app, sliceCells, cellsAt, srcA, subA, eqFs, Int.cast_ofNat_Int, simprocAttr, ac_lengths_All]
  refine callQ.vc hC' ?_
  simp (maxSteps := 4000000) (disch := omega) only [abv, step, stepv, ev, wl, wn, wp, wz, aop, cV, cV1, AV.one, partCells, okW, onlyFr, app, sliceCells, cellsAt, srcA, subA, eqFs, Int.cast_ofNat_Int, simprocAttr]
  refine callQ.vc hL' ?_
  simp (maxSteps := 4000000) (disch := omega) only [abv, step, stepv, ev, wl, wn, wp, wz, aop, cV, cV1, AV.one, partCells, okW, onlyFr, app, sliceCells, cellsAt, srcA, subA, eqFs, Int.cast_ofNat_Int, simprocAttr, hq1]
  refine callQ.vo_still 1 [0] hR' (by simp [frzN, frzK, frzL, frzV]) ?_
  simp (maxSteps := 4000000) (disch := omega) only [abv, step, stepv, ev, wl, wn, wp, wz, aop, cV, cV1, AV.one, partCells, okW, onlyFr, app, sliceCells, cellsAt, srcA, subA, eqFs, Int.cast_ofNat_Int, simprocAttr, stillAt, shr, hq1, hqL]
  refine callQ.vo_still 1 [1, 2] hB' (by simp [frzN, frzK, frzL, frzV, frzL_T _ tr]) ?_
  simp (maxSteps := 4000000) (disch := omega) only [abv, step, stepv, ev, wl, wn, wp, wz, aop, cV, cV1, AV.one, partCells, okW, onlyFr, app, sliceCells, cellsAt, srcA, subA, eqFs, Int.cast_ofNat_Int, simprocAttr, stillAt, shr]
  exact ⟨3, rfl, rfl⟩

end Go.Am

namespace Go.Am
open Go.RowKit

/-! ### clip.parts: the iterator -/

def partL (Lc : Nat) (l : List Int) (j : Nat) : List Int := (l.drop (j * Lc)).take Lc

def S_PartsIt (t : Nat) (P : Prg) (f : Nat) : Prop := ∀ (k n : Nat) (x r : Int) (l : List Int), 1 ≤ k → k ≤ 1000 → l.length = n * k → okA r n →
  IterVC P f [.int .i64 k, .int .i64 x, .int .i64 r, il l] [t] (cnt := (lensL (longN r).toNat n).length) (fun j => il (partL ((longN r).toNat * k) l j.1))

theorem rep_fr_nil {X : Cx} {a : Act} : ∀ i, Rep X (look [] i) (a.tmps.getD i undef) := fun i => by simp only [look, Rep]
theorem rep_fr_cons {X : Cx} {a : Act} {fr : List (Nat × AV)} {j : Nat} {v : AV} (h : Rep X v (a.tmps.getD j undef)) (g : ∀ i, Rep X (look fr i) (a.tmps.getD i undef)) : ∀ i, Rep X (look ((j, v) :: fr) i) (a.tmps.getD i undef) := fun i => by
  simp only [look]
  split
  · rename_i e; subst e; exact h
  · exact g i

theorem sim0 {N : Nat} {fr : List (Nat × AV)} {a : Act} {W : World} (hd : a.defers = []) (hz : a.tmps.size = N) (h : ∀ i, Rep ⟨W, [], [], fun _ _ => False⟩ (look fr i) (a.tmps.getD i undef)) : Sim ⟨W.heap.size, ⟨W, [], [], fun _ _ => False⟩, N, []⟩ ⟨fr, []⟩ a W :=
  ⟨hd, hz, Below.refl _ _, [], ⟨rfl, by simp, by simp, by simp, fun _ _ h => h.elim, Nat.le_refl _⟩, Moves.refl _, h⟩

theorem below_grown {W W' : World} (h : Below W.heap.size W W') : W.grownBy W' none := ⟨h.os, h.tape, h.output, h.size, fun k hk _ => h.block k hk⟩

theorem part_facts {k n L j : Nat} {l : List Int} (hl : l.length = n * k) (hn : 1 ≤ n) (hL : 1 ≤ L) (hj : j < (lensL L n).length) :
    ∃ m : Nat, (lensL L n).getD j 0 = m ∧ m ≤ n ∧ min (j * (L * k)) (n * k) = j * (L * k) ∧ j * (L * k) ≤ n * k ∧ min ((j + 1) * (L * k)) (n * k) = j * (L * k) + m * k ∧ partL (L * k) l j = (l.drop (j * (L * k))).take (m * k) ∧ j * (L * k) + m * k ≤ n * k := by
  rw [lensL_len] at hj
  have g0 : (n - 1) / L * L ≤ n - 1 := Nat.div_mul_le_self _ _
  have g2 : n - 1 < (n - 1) / L * L + L := Nat.lt_div_mul_add (by omega)
  have g1 : j * L ≤ (n - 1) / L * L := Nat.mul_le_mul_right _ (by omega)
  have e0 : j * (L * k) = j * L * k := by rw [Nat.mul_assoc]
  have e1 : (j + 1) * (L * k) = (j * L + L) * k := by rw [← Nat.mul_assoc, Nat.add_mul, Nat.one_mul]
  have h3 : j * L * k ≤ n * k := Nat.mul_le_mul_right _ (by omega)
  by_cases hq : j < (n - 1) / L
  · have g3 : (j + 1) * L ≤ (n - 1) / L * L := Nat.mul_le_mul_right _ (by omega)
    rw [Nat.add_mul, Nat.one_mul] at g3
    have h7 : j * L + L ≤ n := Nat.le_trans g3 (Nat.le_trans g0 (Nat.sub_le _ _))
    have h4 : (j * L + L) * k ≤ n * k := Nat.mul_le_mul_right _ h7
    refine ⟨L, ?_, by omega, by rw [e0]; exact Nat.min_eq_left h3, by rw [e0]; exact h3, by rw [e1, e0, Nat.min_eq_left h4, Nat.add_mul], rfl, by rw [e0, ← Nat.add_mul]; exact h4⟩
    unfold lensL
    rw [List.getD_eq_getElem?_getD, List.getElem?_append_left (by simpa using hq), List.getElem?_replicate, if_pos hq]
    rfl
  · have hjq : j = (n - 1) / L := by omega
    have h7 : n ≤ j * L + L := by rw [hjq]; generalize (n - 1) / L * L = w at *; omega
    have h8 : n - j * L ≤ L := by omega
    have h4 : n * k ≤ (j * L + L) * k := Nat.mul_le_mul_right _ h7
    have h5 : j * L * k + (n - j * L) * k = n * k := by rw [← Nat.add_mul]; congr 1; omega
    refine ⟨n - j * L, ?_, Nat.sub_le _ _, by rw [e0]; exact Nat.min_eq_left h3, by rw [e0]; exact h3, by rw [e1, e0, Nat.min_eq_right h4, h5], ?_, by rw [e0, h5]; exact Nat.le_refl _⟩
    · unfold lensL
      rw [List.getD_eq_getElem?_getD, List.getElem?_append_right (by simp; omega)]
      simp only [List.length_replicate, ← hjq, Nat.sub_self, List.getElem?_cons_zero, Option.getD_some]
      omega
    · unfold partL
      have h6 : (l.drop (j * (L * k))).length = (n - j * L) * k := by rw [List.length_drop, hl, e0]; omega
      rw [List.take_of_length_le (by rw [h6]; exact Nat.mul_le_mul_right _ h8), List.take_of_length_le (by rw [h6]; exact Nat.le_refl _)]
theorem finR_take {m j : Nat} (h : j < m) : (List.finRange m).take (j + 1) = (List.finRange m).take j ++ [⟨j, h⟩] := by
  rw [List.take_succ_eq_append_getElem (by simpa using h)]
  simp

theorem lens_pos (L n : Nat) : 1 ≤ (lensL L n).length := by rw [lensL_len]; exact Nat.le_add_left 1 _

set_option maxHeartbeats 1000000 in
theorem clip_parts1 {P : Prg} {f fA t0 : Nat} (bd : Body P f 43 [] (ac_clip_parts_1 fA)) (hA : S_AllO t0 P fA) : S_PartsIt t0 P f := by
  intro k n x r l hk1 hk2 hl hok
  obtain ⟨L, hL⟩ : ∃ L, (longN r).toNat = L := ⟨_, rfl⟩
  have hL1 : 1 ≤ L := by have := longN_pos r; omega
  obtain ⟨a1, a2, a3, a4, a5⟩ := hok
  have hn1 : 1 ≤ n := by omega
  have hn2 : n ≤ 4000 := by omega
  have hA' := hA r n ⟨a1, a2, a3, a4, a5⟩
  rw [hL, Int.toNat_natCast] at hA' a5
  rw [hL]
  refine ⟨fun j => isD_il _, fun w C v1 hv1 hex hG => ?_⟩
  have hv1' := hv1
  simp only [Rep] at hv1
  obtain ⟨b, o, vs, hv1e, hat, hvs⟩ := hv1
  simp only [RepL] at hvs
  obtain ⟨u0, q0, rfl, hu0, u1, q1, rfl, hu1, u2, q2, rfl, hu2, u3, q3, rfl, hu3, rfl⟩ := hvs
  have hu0' := hu0
  have hu3' := hu3
  simp only [Rep] at hu0 hu1 hu2
  rw [il] at hu3
  simp only [Rep] at hu3
  obtain ⟨sa, cap, ws, e3, hcap, hws, hwr⟩ := hu3
  rw [hl] at hcap
  obtain ⟨atN, hatN⟩ : ∃ atN : Nat → Nat, ∀ j, atN j = min (j * (L * k)) (n * k) := ⟨_, fun _ => rfl⟩
  obtain ⟨cnt, hcnt⟩ : ∃ cnt, (lensL L n).length = cnt := ⟨_, rfl⟩
  have hnk : n * k ≤ 4000000 := Nat.mul_le_mul hn2 hk2
  rw [hcnt] at hA' a5 ⊢
  have hcnt1 : 1 ≤ cnt := by rw [← hcnt]; exact lens_pos _ _
  have pf : ∀ j, j < cnt → ∃ m : Nat, (lensL L n).getD j 0 = m ∧ m ≤ n ∧ atN j = j * (L * k) ∧ atN (j + 1) = atN j + m * k ∧ partL (L * k) l j = (l.drop (atN j)).take (m * k) ∧ atN j + m * k ≤ n * k := fun j hj => by
    obtain ⟨m, h1, h2, h3, h4, h5, h6, h7⟩ := part_facts (j := j) hl hn1 hL1 (by rw [hcnt]; exact hj)
    refine ⟨m, h1, h2, by rw [hatN]; exact h3, by rw [hatN, hatN, h3]; exact h5, by rw [hatN, h3]; exact h6, by rw [hatN, h3]; exact h7⟩
  have hun : ∀ {W' : World}, (∀ (b k : Nat) (v : Value), ¬ C b k → w.cell? ⟨b, k, none⟩ = some v → W'.cell? ⟨b, k, none⟩ = some v) → ∀ (c : AV) (v : Value), isD c = true → Rep ⟨w, [], [], C⟩ c v → Rep ⟨W', [], [], fun _ _ => False⟩ c v := fun h c v hd hr =>
    Rep.data (X := ⟨w, [], [], C⟩) (Y := ⟨_, [], [], fun _ _ => False⟩) (fun b k v hc ha => ⟨h b k v (fun h => ha (.inl h)) hc, fun h => by
      rcases h with h | ⟨o, x, c, h1, _⟩
      · exact h.elim
      · simp at h1⟩) c v hd hr
  have hlit : ∀ {W' : World}, (∀ (b k : Nat) (v : Value), ¬ C b k → w.cell? ⟨b, k, none⟩ = some v → W'.cell? ⟨b, k, none⟩ = some v) → Rep ⟨W', [], [], fun _ _ => False⟩ (.cell [.int .i64 k, .int .i64 x, .int .i64 r, .lit u3]) v1 := fun {W'} h => by
    have h1 : Rep ⟨w, [], [], C⟩ (.cell [.int .i64 k, .int .i64 x, .int .i64 r, .lit u3]) v1 := by
      simp only [Rep]
      exact ⟨b, o, _, hv1e, hat, by simp only [RepL, Rep]; exact ⟨u0, _, rfl, hu0, u1, _, rfl, hu1, u2, _, rfl, hu2, u3, _, rfl, rfl, rfl⟩⟩
    exact hun h _ _ rfl h1
  refine ⟨fun j => .slice (if cap = atN j.1 then sa else sa.map (·.add (atN j.1 * 1))) (atN (j.1 + 1) - atN j.1) (cap - atN j.1), fun j => ?rep, ?seq⟩
  case rep =>
    obtain ⟨m, h1, h2, h3, h4, h5, h6⟩ := pf j.1 j.2
    have g : Held 0 ⟨w, [], [], fun _ _ => False⟩ := ⟨rfl, by simp, by simp, by simp, fun _ _ h => h.elim, Nat.zero_le _⟩
    have e4 : ((atN (j.1 + 1) : Nat) - (atN j.1 : Nat) : Int).toNat = m * k := by omega
    have e5 : (partL (L * k) l j.1).length = m * k := by rw [h5, List.length_take, List.length_drop, hl]; omega
    have hs : subA [] 1 (il l) (atN j.1 : Nat) (atN (j.1 + 1) : Nat) = some (il (partL (L * k) l j.1)) := by
      simp only [subA, il]
      rw [if_pos (by omega), if_pos (by rw [hl]; simp [ks]; omega), e4, e5, h5]
      simp [ks, List.map_take, List.map_drop]
    have hr := rep_sub (X := ⟨w, [], [], fun b k => C b k ∧ b < w.heap.size⟩) (B := w.heap.size) ⟨rfl, by simp, by simp, by simp, fun _ _ h => h.2, Nat.le_refl _⟩ (η := fun _ => .any) (ρ := fun _ => undef) (fun _ => by simp only [Rep]) (sz := 1) (n := l.length) (cs := ks .i32 l) (a := sa) (cap := cap) (m := cap) (by
      rw [← e3]
      exact Rep.data (X := ⟨w, [], [], C⟩) (Y := ⟨w, [], [], fun b k => C b k ∧ b < w.heap.size⟩) (fun b k v hc ha => ⟨hc, fun h => ha (by
        rcases h with h | ⟨o, x, c, h1, _⟩
        · exact .inl h.1
        · simp at h1)⟩) _ _ (isD_il l) hu3') rfl hs (by omega) (.inl (Nat.le_refl _))
    have hr2 := hr.2.2.2
    simp only [Int.toNat_natCast] at hr2
    exact Rep.data (X := ⟨w, [], [], fun b k => C b k ∧ b < w.heap.size⟩) (Y := ⟨w, [], [], C⟩) (fun b k v hc ha => ⟨hc, fun h => ha (by
      rcases h with h | ⟨o, x, c, h1, _⟩
      · exact .inl ⟨h, World.block_lt_of_cell? w _ hc⟩
      · simp at h1)⟩) _ _ (isD_il _) hr2
  case seq =>
    intro ll J Jx W hW hJ hJx hY hJ0
    have hkw : ∀ (b k : Nat) (v : Value), ¬ C b k → w.cell? ⟨b, k, none⟩ = some v → W.cell? ⟨b, k, none⟩ = some v := fun b k v _ hc => (hW.cell (p := ⟨b, k, none⟩) (World.block_lt_of_cell? w _ hc)).trans hc
    obtain ⟨fn, hf, hnm, hN, hrl, hc'⟩ := bd
    obtain ⟨c, hb, hc⟩ := Option.bind_eq_some_iff.1 hc'
    refine callsIn_of_wp hf hb trivial ?_ rfl
    rw [hN]
    unfold ac_clip_parts_1 at hc
    obtain ⟨c1, r1, rfl, hc1, hr1⟩ := cCode_seq hc
    obtain ⟨c2, r2, rfl, hc2, hr2⟩ := cCode_seq hr1
    obtain ⟨c3, c4, rfl, hc3, hc4⟩ := cCode_seq hr2
    obtain ⟨c5, rfl, hc5⟩ := cCode_block hc4
    obtain ⟨c6, rfl, hc6⟩ := cCode_loop hc5
    obtain ⟨d1, s1, rfl, hd1, hs1⟩ := cCode_seq hc6
    obtain ⟨d2, s2, rfl, hd2, hs2⟩ := cCode_seq hs1
    obtain ⟨y1, y2, rfl, hy1, hy2⟩ := cCode_cond hd2
    obtain rfl := cCode_skip hy1
    obtain rfl := cCode_exit hy2
    obtain ⟨d3, d9, rfl, hd3, hd9⟩ := cCode_seq hs2
    obtain ⟨d4, rfl, hd4⟩ := cCode_block hd3
    obtain ⟨d5, s5, rfl, hd5, hs5⟩ := cCode_seq hd4
    obtain ⟨d6, s6, rfl, hd6, hs6⟩ := cCode_seq hs5
    obtain ⟨s7, d8, rfl, hs7, hd8⟩ := cCode_seq hs6
    obtain ⟨d7, dc, rfl, hd7, hdc⟩ := cCode_seq hs7
    obtain ⟨y3, y4, rfl, hy3, hy4⟩ := cCode_cond hdc
    obtain rfl := cCode_ret hy3
    obtain rfl := cCode_skip hy4
    obtain ⟨id7, ops, rfl, hm7⟩ := cCode_reg hd7
    obtain ⟨l5, l3, hops, hm5, hm3⟩ := mapM_cut (q1 := [_, _, _, _, _]) hm7
    obtain ⟨oS, l2, rfl, hoS, hm2⟩ := mapM_one hm3
    obtain ⟨oY, l1, rfl, hoY, hm1⟩ := mapM_one hm2
    generalize hyv : (Value.func (.yield ll) #[] #[]) = yv at *
    let a0 : Act := { tmps := #[yv] ++ #[v1] ++ Array.replicate (43 - (#[yv] ++ #[v1]).size) undef, defers := [] }
    show Code.wpIn _ _ _ _ _ a0 _
    have z0 : a0.tmps.size = 43 := by simp [a0]
    have t00 : a0.tmps.getD 0 undef = yv := by simp [a0]
    have t01 : a0.tmps.getD 1 undef = v1 := by simp [a0]
    let C0 : Nat → Nat → Prop := fun b k => C b k ∧ b < W.heap.size
    have g0 : Held W.heap.size ⟨W, [ph2], [none], C0⟩ := by
      have g := (Held.empty (B := W.heap.size) (X := ⟨W, [], [], C0⟩) ⟨rfl, by simp, by simp, by simp, fun _ _ h => h.2, Nat.le_refl _⟩ 1 0).1
      exact g
    have hC0 : ∀ c v, isD c = true → Rep ⟨w, [], [], C⟩ c v → Rep ⟨W, [ph2], [none], C0⟩ c v := fun c v hd hr =>
      Rep.data (X := ⟨w, [], [], C⟩) (Y := ⟨W, [ph2], [none], C0⟩) (fun b k v hc ha => ⟨hkw b k v (fun h => ha (.inl h)) hc, fun h => by
        rcases h with h | ⟨o, x, c, h1, h2, _⟩
        · exact ha (.inl h.1)
        · rcases o with _ | o <;> simp at h2⟩) c v hd hr
    let Γ0 : Ctx := ⟨W.heap.size, ⟨W, [ph2], [none], C0⟩, 43, []⟩
    have hs0 : Sim Γ0 ⟨[(0, .lit yv), (1, .cell [.int .i64 k, .int .i64 x, .int .i64 r, il l])], [ph2]⟩ a0 W :=
      ⟨rfl, z0, Below.refl _ _, [none], g0, Moves.refl _, rep_fr_cons (by rw [t00]; simp only [Rep]) (rep_fr_cons (by rw [t01]; exact hC0 _ _ (by simp [isD, isDL, isD_il]) hv1') rep_fr_nil)⟩
    have hF0 : Fit P 43 Γ0 := ⟨rfl, fun q cs hq => hC0 _ _ (by simp only [isD]; exact P.gd q cs hq) (hG q cs hq)⟩
    refine wpIn_seq ?_
    have hk0 : ((n * k : Nat) : Int) / (k : Int) = n := by
      rw [Int.natCast_mul, Int.mul_ediv_cancel _ (by omega)]
    have hk3 : ((n * k : Nat) : Int).tdiv (k : Int) = n := by rw [Int.tdiv_eq_ediv_of_nonneg (by omega), hk0]
    refine draw_step (Q := fun _ st' => st'.ob = [⟨t0, 1, cnt, ks .i64 (lensL L n), 0⟩] ∧ look st'.fr 0 = .lit yv ∧ look st'.fr 3 = .own 0 cnt) hF0 hc1 1 (by rfl) t01 ?_ hs0 ?_
    · simp only [il]
      simp (maxSteps := 4000000) (disch := omega) only [abv, step, stepv, ev, wl, wn, wp, wz, aop, cV, cV1, AV.one, partCells, okW, onlyFr, app, sliceCells, cellsAt, srcA, subA, eqFs, Int.cast_ofNat_Int, simprocAttr, hl, hk3, hk0]
      refine ⟨shr 0 (.tup [.own 0 cnt, .int .i64 0]), some (0, ⟨t0, 1, cnt, ks .i64 (lensL L n), 0⟩), ?_, ?_⟩
      · unfold ECall
        rw [if_pos rfl]
        exact ⟨ACall.of_vo_at hA' rfl ⟨rfl, rfl⟩, fun o x' e => by cases e; exact ⟨ph2, rfl, by simp [ph2, ph]⟩⟩
      · simp (maxSteps := 4000000) (disch := omega) only [abv, step, stepv, ev, wl, wn, wp, wz, aop, cV, cV1, AV.one, partCells, okW, onlyFr, app, sliceCells, cellsAt, srcA, subA, eqFs, Int.cast_ofNat_Int, simprocAttr, shr]
    · intro st1 a1 W1 ⟨hob1, h10, h13⟩ hs1 t11
      show (Code.seq c2 _).wpIn Fence.wide 4 _ _ a1 W1
      let row : Ob := ⟨t0, 1, cnt, ks .i64 (lensL L n), 0⟩
      have hs1' : Sim Γ0 ⟨[(0, .lit yv), (3, .own 0 cnt)], [row]⟩ a1 W1 := by
        have h : st1 = ⟨st1.fr, [row]⟩ := by rw [← hob1]
        rw [h] at hs1
        exact Le.slots (M := 1) (by simp [h10, h13]) Γ0 a1 W1 rfl hs1
      refine wpIn_seq ?_
      refine reg_step (Q := fun _ st' => st' = ⟨[(5, .int .i64 0), (0, .lit yv), (3, .own 0 cnt)], [row]⟩) hF0 hc2 [(1, v1)] (by simp only [List.mem_singleton]; rintro _ rfl; exact ⟨rfl, t11⟩) (by simp (maxSteps := 4000000) (disch := omega) only [abv, step, stepv, ev, wl, wn, wp, wz, aop, cV, cV1, AV.one, partCells, okW, onlyFr, app, sliceCells, cellsAt, srcA, subA, eqFs, Int.cast_ofNat_Int, simprocAttr]) hs1' ?_
      rintro _ a2 W2 rfl hs2 t2
      show (Code.seq c3 _).wpIn Fence.wide 4 _ _ a2 W2
      refine wpIn_seq ?_
      refine reg_step (Q := fun _ st' => st' = ⟨[(23, .int .i64 0), (22, .int .i64 cnt), (21, .own 0 cnt), (5, .int .i64 0), (0, .lit yv), (3, .own 0 cnt)], [row]⟩) hF0 hc3 [(1, v1)] (by simp only [List.mem_singleton]; rintro _ rfl; exact ⟨rfl, t2 _ (by simp)⟩) (by simp (maxSteps := 4000000) (disch := omega) only [abv, step, stepv, ev, wl, wn, wp, wz, aop, cV, cV1, AV.one, partCells, okW, onlyFr, app, sliceCells, cellsAt, srcA, subA, eqFs, Int.cast_ofNat_Int, simprocAttr, row]) hs2 ?_
      rintro _ a3 W3 rfl hs3 t3
      show (Code.block 0 (.loop _)).wpIn Fence.wide 4 _ _ a3 W3
      obtain ⟨f1, f2, f3, be, f4, f5, f6⟩ := hs3
      have f1' : a3.defers = [] := f1
      have f2' : a3.tmps.size = 43 := f2
      obtain ⟨e, he, hoke⟩ := f4.get (o := 0) (x := row) rfl
      have f21 := f6 21
      simp only [look, Nat.reduceEqDiff, if_false, if_true, Rep] at f21
      obtain ⟨⟨rw', hrw, _, _, hown⟩, _⟩ := f21
      have hrw' : row = rw' := by simpa using hrw
      subst hrw'
      have hown' := hown rfl
      have he' : be[0]? = some e := he
      simp only [he'] at hown'
      cases e with
      | none => exact absurd hoke.1 (by simp only [row]; omega)
      | some p =>
      obtain ⟨br, capr⟩ := p
      obtain ⟨cur, ⟨frz, hblk, _⟩, hcs, hnc, _, hcl, hcr, hone⟩ := hoke
      simp only [OwnV] at hown'
      have hblk' : W3.heap[br]? = some (.cells cur t0 frz) := hblk
      obtain ⟨sv, hsv⟩ : ∃ sv, sv = Value.slice (some ⟨br, 0, none⟩) cnt capr := ⟨_, rfl⟩
      have hcr' : ∀ {Y : Cx}, RepL Y (ks .i64 (lensL L n)) (cur.toList.take cnt) := fun {Y} => by
        have h := RepL.flat (Y := Y) (by simp [row, ks, flat]) hcr
        have e : row.cs.length = cnt := by simp [row, ks, hcnt]
        rw [e] at h
        exact h
      have hrowR : ∀ {W' : World}, W'.heap[br]? = some (.cells cur t0 frz) → Rep ⟨W', [], [], fun _ _ => False⟩ (.list cnt (ks .i64 (lensL L n))) sv := fun {W'} h => by
        simp only [Rep]
        refine ⟨_, _, cur.toList.take cnt, hsv, hnc, .inr ⟨br, 0, rfl, fun i v hv => ?_⟩, hcr'⟩
        rw [List.getElem?_take] at hv
        split at hv
        · have hv2 : cur[i]? = some v := by simpa using hv
          refine ⟨⟨by simp [World.cell?, h, hv2], fun h => ?_⟩, hone v (by
            obtain ⟨h1, h2⟩ := Array.getElem?_eq_some_iff.1 hv2
            rw [← h2]; simp)⟩
          rcases h with h | ⟨o, x, c, h1, _⟩
          · exact h.elim
          · simp at h1
        · cases hv
      have hJ3 : J [] W3 := hJ _ W W3 none hJ0 (below_grown f3) (fun r h => by cases h)
      refine wpIn_block ?_
      refine wpIn_loop (fun a W' => ∃ j, j ≤ cnt ∧ a.defers = [] ∧ a.tmps.size = 43 ∧ a.tmps.getD 0 undef = yv ∧ a.tmps.getD 1 undef = v1 ∧ a.tmps.getD 5 undef = .int .i64 (atN j : Nat) ∧ a.tmps.getD 21 undef = sv ∧ a.tmps.getD 22 undef = .int .i64 cnt ∧ a.tmps.getD 23 undef = .int .i64 j ∧
          W'.heap[br]? = some (.cells cur t0 frz) ∧ (∀ (b k : Nat) (v : Value), ¬ C b k → w.cell? ⟨b, k, none⟩ = some v → W'.cell? ⟨b, k, none⟩ = some v) ∧ J ((List.finRange cnt).take j) W')
        (fun a _ => match a.tmps.getD 23 undef with | .int _ z => cnt - z.toNat | _ => 0) ?_ ?_
      · refine ⟨0, Nat.zero_le _, f1', f2', ?_, t3 (1, v1) (by simp), ?_, by rw [hsv]; exact hown', ?_, ?_, hblk', ?_, hJ3⟩
        · have h := f6 0
          simpa [look, Rep] using h
        · have h := f6 5
          have e0 : atN 0 = 0 := by rw [hatN]; simp
          simpa [look, Rep, e0] using h
        · have h := f6 22
          simpa [look, Rep] using h
        · have h := f6 23
          simpa [look, Rep] using h
        · intro b k v hc hv
          have h := hkw b k v hc hv
          exact (f3.cell (p := ⟨b, k, none⟩) (World.block_lt_of_cell? W _ h)).trans h
      intro a Wj ⟨j, hj, i1, i2, i3, i4, i5, i6, i7, i8, i9, i10, i11⟩
      let ΓW : World → Ctx := fun W' => ⟨W'.heap.size, ⟨W', [], [], fun _ _ => False⟩, 43, []⟩
      have hF : ∀ {W' : World}, (∀ (b k : Nat) (v : Value), ¬ C b k → w.cell? ⟨b, k, none⟩ = some v → W'.cell? ⟨b, k, none⟩ = some v) → Fit P 43 (ΓW W') := fun {W'} h => ⟨rfl, fun q cs hq => hun h _ _ (by simp only [isD]; exact P.gd q cs hq) (hG q cs hq)⟩
      have hsA : Sim (ΓW Wj) ⟨[(0, .lit yv), (1, .cell [.int .i64 k, .int .i64 x, .int .i64 r, .lit u3]), (5, .int .i64 (atN j : Nat)), (21, .list cnt (ks .i64 (lensL L n))), (22, .int .i64 cnt), (23, .int .i64 j)], []⟩ a Wj :=
        sim0 i1 i2 (rep_fr_cons (by rw [i3]; simp only [Rep]) (rep_fr_cons (by rw [i4]; exact hlit i10) (rep_fr_cons (by rw [i5]; simp only [Rep]) (rep_fr_cons (by rw [i6]; exact hrowR i9) (rep_fr_cons (by rw [i7]; simp only [Rep]) (rep_fr_cons (by rw [i8]; simp only [Rep]) rep_fr_nil))))))
      have hI : ∀ {qs : List AO} {a : Act}, noDst 1 qs = true → noDst 21 qs = true → a.tmps.getD 1 undef = v1 → a.tmps.getD 21 undef = sv → ∀ p ∈ [(1, v1), (21, sv)], noDst p.1 qs = true ∧ a.tmps.getD p.1 undef = p.2 := fun h1 h2 h3 h4 p hp => by
        simp only [List.mem_cons, List.not_mem_nil, or_false] at hp
        rcases hp with rfl | rfl
        · exact ⟨h1, h3⟩
        · exact ⟨h2, h4⟩
      refine wpIn_seq ?_
      refine reg_step (Q := fun _ st' => st' = ⟨[(24, .bool (decide ((j : Int) < cnt))), (0, .lit yv), (1, .cell [.int .i64 k, .int .i64 x, .int .i64 r, .lit u3]), (5, .int .i64 (atN j : Nat)), (21, .list cnt (ks .i64 (lensL L n))), (22, .int .i64 cnt), (23, .int .i64 j)], []⟩) (hF i10) hd1 [(1, v1), (21, sv)] (hI rfl rfl i4 i6) (by simp (maxSteps := 4000000) (disch := omega) only [abv, step, stepv, ev, wl, wn, wp, wz, aop, cV, cV1, AV.one, partCells, okW, onlyFr, app, sliceCells, cellsAt, srcA, subA, eqFs, Int.cast_ofNat_Int, simprocAttr]) hsA ?_
      rintro _ aB WB rfl hsB tB
      have bW : Below Wj.heap.size Wj WB := hsB.2.2.1
      show (Code.seq (.cond _ .skip (.exit 0)) _).wpIn Fence.wide 4 _ _ aB WB
      have h24 : aB.eval (.tmp 24) = .bool (decide ((j : Int) < cnt)) := by
        obtain ⟨_, _, _, _, _, _, h⟩ := hsB
        have h : Rep _ (.bool _) (aB.tmps.getD 24 undef) := h 24
        simp only [Rep] at h
        exact h
      refine wpIn_seq ?_
      by_cases hjc : j < cnt
      · have e24 : decide ((j : Int) < cnt) = true := by simp; omega
        rw [e24] at h24 hsB
        obtain ⟨m, p1, p2, p3, p4, p5, p6⟩ := pf j hjc
        have la : (ks .i64 (lensL L n)).drop j = .int .i64 m :: (ks .i64 (lensL L n)).drop (j + 1) := by
          have h := ks_at (K := .i64) (l := lensL L n) (i := j) (by omega)
          rw [p1, ← ks_drop] at h
          exact h
        refine wpIn_cond_true h24 (wpIn_skip ?_)
        show (Code.seq (.block 1 (.seq d5 _)) _).wpIn Fence.wide 4 _ _ aB WB
        obtain ⟨mk, hmk⟩ : ∃ mk, m * k = mk := ⟨_, rfl⟩
        rw [hmk] at p4 p5 p6
        have emk : (m : Int) * (k : Int) = mk := by rw [← hmk]; simp
        have e8 : ((atN j : Nat) : Int) + (mk : Int) = ((atN (j + 1) : Nat) : Int) := by omega
        obtain ⟨nk, hnk'⟩ : ∃ nk, n * k = nk := ⟨_, rfl⟩
        rw [hnk'] at p6 hnk hcap hl
        have hm4 : (m : Int) ≤ 4000 := by omega
        refine wpIn_seq (wpIn_block (wpIn_seq ?_))
        refine reg_step (Q := fun _ st' => Le 0 st' ⟨[(7, .int .i64 m), (0, .lit yv), (1, .cell [.int .i64 k, .int .i64 x, .int .i64 r, .lit u3]), (5, .int .i64 (atN j : Nat)), (21, .list cnt (ks .i64 (lensL L n))), (22, .int .i64 cnt), (23, .int .i64 j)], []⟩) (hF i10) hd5 [(1, v1), (21, sv)] (hI rfl rfl (tB (1, v1) (by simp)) (tB (21, sv) (by simp)))
          (by simp (maxSteps := 4000000) (disch := omega) only [abv, step, stepv, ev, wl, wn, wp, wz, aop, cV, cV1, AV.one, partCells, okW, onlyFr, app, sliceCells, cellsAt, srcA, subA, eqFs, Int.cast_ofNat_Int, simprocAttr, la, ks_length]; exact Le.slots (by simp [Am.look])) hsB ?_
        intro st5 a5 W5 hle5 hs5' t5
        have hs5 := hle5 _ _ _ rfl hs5'
        show (Code.seq d6 _).wpIn Fence.wide 4 _ _ a5 W5
        refine wpIn_seq ?_
        refine reg_step (Q := fun _ st' => Le 0 st' ⟨[(8, .int .i64 (atN (j + 1) : Nat)), (0, .lit yv), (1, .cell [.int .i64 k, .int .i64 x, .int .i64 r, .lit u3]), (5, .int .i64 (atN j : Nat)), (21, .list cnt (ks .i64 (lensL L n))), (22, .int .i64 cnt), (23, .int .i64 j)], []⟩) (hF i10) hd6 [(1, v1), (21, sv)] (hI rfl rfl (t5 (1, v1) (by simp)) (t5 (21, sv) (by simp)))
          (by simp (maxSteps := 4000000) (disch := omega) only [abv, step, stepv, ev, wl, wn, wp, wz, aop, cV, cV1, AV.one, partCells, okW, onlyFr, app, sliceCells, cellsAt, srcA, subA, eqFs, Int.cast_ofNat_Int, simprocAttr, emk, e8]; exact Le.slots (by simp [Am.look])) hs5 ?_
        intro st6 a6 W6 hle6 hs6' t6
        have hs6 := hle6 _ _ _ rfl hs6'
        show (Code.seq (.seq (.region id7 ops false) _) d8).wpIn Fence.wide 4 _ _ a6 W6
        refine wpIn_seq (wpIn_seq (wpIn_region_list ?_))
        rw [hops]
        refine wpListIn_cut l5 _ a6 W6 (wpListIn_mono ?_ _ _ _ (list_step (Q := fun _ st' => Le 0 st' ⟨[(33, .lit yv), (0, .lit yv), (35, .lit u3), (36, .int .i64 (atN j : Nat)), (37, .int .i64 (atN (j + 1) : Nat)), (8, .int .i64 (atN (j + 1) : Nat)), (22, .int .i64 cnt), (23, .int .i64 j)], []⟩) (hF i10) hm5 [(1, v1), (21, sv)] (hI rfl rfl (t6 (1, v1) (by simp)) (t6 (21, sv) (by simp)))
          (by simp (maxSteps := 4000000) (disch := omega) only [abv, step, stepv, ev, wl, wn, wp, wz, aop, cV, cV1, AV.one, partCells, okW, onlyFr, app, sliceCells, cellsAt, srcA, subA, eqFs, Int.cast_ofNat_Int, simprocAttr]; exact Le.slots (by simp [Am.look])) hs6))
        rintro _ a7 W7 ⟨rfl, st7, hle7, hs7', t7⟩
        have hs7 := hle7 _ _ _ rfl hs7'
        show wpListIn Fence.wide 4 _ _ _ (oS :: oY :: l1) a7 W7
        have W7b : Below Wj.heap.size Wj W7 := hs7.2.2.1
        have hd7 : a7.defers = [] := hs7.1
        have hz7 : a7.tmps.size = 43 := hs7.2.1
        have f7 : ∀ {i : Nat} {v : Value}, Rep ⟨W7, [], [], fun _ _ => False⟩ (.lit v) (a7.tmps.getD i undef) → a7.tmps.getD i undef = v := fun h => by simpa only [Rep] using h
        have f33 : a7.tmps.getD 33 undef = yv := by obtain ⟨_, _, _, _, _, _, h⟩ := hs7; have h : Rep _ (.lit yv) (a7.tmps.getD 33 undef) := h 33; simpa only [Rep] using h
        have f35 : a7.tmps.getD 35 undef = u3 := by obtain ⟨_, _, _, _, _, _, h⟩ := hs7; have h : Rep _ (.lit u3) (a7.tmps.getD 35 undef) := h 35; simpa only [Rep] using h
        have f8 : a7.tmps.getD 8 undef = .int .i64 (atN (j + 1) : Nat) := by obtain ⟨_, _, _, _, _, _, h⟩ := hs7; have h : Rep _ (.int .i64 _) (a7.tmps.getD 8 undef) := h 8; simpa only [Rep] using h
        have f22 : a7.tmps.getD 22 undef = .int .i64 cnt := by obtain ⟨_, _, _, _, _, _, h⟩ := hs7; have h : Rep _ (.int .i64 _) (a7.tmps.getD 22 undef) := h 22; simpa only [Rep] using h
        have f23 : a7.tmps.getD 23 undef = .int .i64 j := by obtain ⟨_, _, _, _, _, _, h⟩ := hs7; have h : Rep _ (.int .i64 _) (a7.tmps.getD 23 undef) := h 23; simpa only [Rep] using h
        obtain ⟨be7, g7, _, hη, _⟩ := hs7.eta (hF i10).2
        -- the slice
        obtain ⟨cS, dS, _, gS⟩ := cOper_spec hoS
        obtain ⟨tS, eS, opS, uS, zS⟩ := cOp_slice (cAK_op cS (by intro h; cases h))
        have gS' : oS.guard = none := by
          rcases gS with ⟨h, _⟩ | ⟨_, _, _, _, _, h⟩
          · exact h
          · cases h
        have ex : a7.eval (.tmp 35) = .slice sa nk cap := by rw [← hl]; exact f35.trans e3
        have hrun := slice_exact (X := ⟨W7, [], be7, fun _ _ => False⟩) g7 hη opS uS zS ex (l := (atN j : Nat)) (h := (atN (j + 1) : Nat)) (by simp [loA, opd, look]) (by simp [hiA, opd, look]) (by omega) (by omega) (by omega)
        simp only [Int.toNat_natCast] at hrun
        unfold wpListIn
        rw [if_pos (by simp [Region.wanted, gS'])]
        unfold Oper.wpIn
        refine ⟨fun _ _ => trivial, ?_⟩
        rw [semW, hrun]
        show wpListIn Fence.wide 4 _ _ _ (oY :: l1) (a7.put oS.dst _) W7
        rw [← dS]
        -- the call of yield
        obtain ⟨cY, dY, _, gY⟩ := cOper_spec hoY
        obtain ⟨cl, opY, calY, argY⟩ := cAK_callv cY
        have gY' : oY.guard = none := by
          rcases gY with ⟨h, _⟩ | ⟨_, _, _, _, _, h⟩
          · exact h
          · cases h
        have argY' : cl.args = #[.tmp 38] := Array.ext' argY.symm
        unfold wpListIn
        rw [if_pos (by simp [Region.wanted, gY'])]
        have hJ7 : J ((List.finRange cnt).take j) W7 := hJ _ Wj W7 none i11 (below_grown W7b) (fun r h => by cases h)
        have hlen : ((List.finRange cnt).take j).length < cnt := by simp; omega
        obtain ⟨vj, hvj⟩ : ∃ vj : Value, vj = .slice (if cap = atN j then sa else sa.map (·.add (atN j * 1))) (atN (j + 1) - atN j) (cap - atN j) := ⟨_, rfl⟩
        have hY' := hY ((List.finRange cnt).take j) ⟨j, hjc⟩ W7 hJ7 hlen
        simp only at hY'
        rw [← hvj] at hY' ⊢
        have p38 : (a7.put (some 38) vj).tmps.getD 38 undef = vj := by simp [Act.put, hz7]
        have p33 : (a7.put (some 38) vj).tmps.getD 33 undef = .func (.yield ll) #[] #[] := by rw [put_stays (by simp), f33]; exact hyv.symm
        refine yield_step opY calY argY' p33 p38 hY' ?_
        rw [← dY]
        have z8 : ∀ bb : Bool, ((a7.put (some 38) vj).put (some 39) (.bool bb)).tmps.size = 43 := fun bb => by rw [put_size, put_size]; exact hz7
        have p39 : ∀ bb : Bool, ((a7.put (some 38) vj).put (some 39) (.bool bb)).tmps.getD 39 undef = .bool bb := fun bb => by simp [Act.put, hz7]
        have pO : ∀ (bb : Bool) (i : Nat), i ≠ 38 → i ≠ 39 → ((a7.put (some 38) vj).put (some 39) (.bool bb)).tmps.getD i undef = a7.tmps.getD i undef := fun bb i h1 h2 => by
          rw [put_stays (by simpa using fun h => h2 h.symm), put_stays (by simpa using fun h => h1 h.symm)]
        have d8' : ∀ bb : Bool, ((a7.put (some 38) vj).put (some 39) (.bool bb)).defers = [] := fun bb => by rw [put_defers, put_defers]; exact hd7
        have hI3 : ∀ {qs : List AO} {a : Act}, noDst 0 qs = true → noDst 1 qs = true → noDst 21 qs = true → a.tmps.getD 0 undef = yv → a.tmps.getD 1 undef = v1 → a.tmps.getD 21 undef = sv → ∀ p ∈ [(0, yv), (1, v1), (21, sv)], noDst p.1 qs = true ∧ a.tmps.getD p.1 undef = p.2 := fun h1 h2 h3 h4 h5 h6 p hp => by
          simp only [List.mem_cons, List.not_mem_nil, or_false] at hp
          rcases hp with rfl | rfl | rfl
          · exact ⟨h1, h4⟩
          · exact ⟨h2, h5⟩
          · exact ⟨h3, h6⟩
        have f0 : a7.tmps.getD 0 undef = yv := by obtain ⟨_, _, _, _, _, _, h⟩ := hs7; have h : Rep _ (.lit yv) (a7.tmps.getD 0 undef) := h 0; simpa only [Rep] using h
        have q0 : ∀ bb : Bool, _ := fun bb => (pO bb 0 (by omega) (by omega)).trans f0
        have q1 : ∀ bb : Bool, _ := fun bb => (pO bb 1 (by omega) (by omega)).trans (t7 (1, v1) (by simp))
        have q21 : ∀ bb : Bool, _ := fun bb => (pO bb 21 (by omega) (by omega)).trans (t7 (21, sv) (by simp))
        rintro e W8 (⟨rfl, hJ8, hK8⟩ | ⟨rfl, hX8⟩)
        · refine ⟨true, rfl, ?_⟩
          have hbr7 : W7.heap[br]? = some (.cells cur t0 frz) := (W7b.block br (Array.getElem?_eq_some_iff.1 i9).1).trans i9
          have hbr8 : W8.heap[br]? = some (.cells cur t0 frz) := (hK8.1 br cur t0 frz hbr7 (by simp)).trans hbr7
          have hk8 : ∀ (b k : Nat) (v : Value), ¬ C b k → w.cell? ⟨b, k, none⟩ = some v → W8.cell? ⟨b, k, none⟩ = some v := fun b k v hc hv => by
            have h1 := i10 b k v hc hv
            exact hK8.2 b k v hc ((W7b.cell (p := ⟨b, k, none⟩) (World.block_lt_of_cell? Wj _ h1)).trans h1)
          have hs8 : Sim (ΓW W8) ⟨[(39, .bool true), (8, .int .i64 (atN (j + 1) : Nat)), (22, .int .i64 cnt), (23, .int .i64 j)], []⟩ ((a7.put (some 38) vj).put (some 39) (.bool true)) W8 :=
            sim0 (d8' true) (z8 true) (rep_fr_cons (by rw [p39]; simp only [Rep]) (rep_fr_cons (by rw [pO true 8 (by omega) (by omega), f8]; simp only [Rep]) (rep_fr_cons (by rw [pO true 22 (by omega) (by omega), f22]; simp only [Rep]) (rep_fr_cons (by rw [pO true 23 (by omega) (by omega), f23]; simp only [Rep]) rep_fr_nil))))
          refine wpListIn_mono ?_ _ _ _ (list_step (Q := fun _ st' => Le 0 st' ⟨[(40, .bool false), (8, .int .i64 (atN (j + 1) : Nat)), (22, .int .i64 cnt), (23, .int .i64 j)], []⟩) (hF hk8) hm1 [(0, yv), (1, v1), (21, sv)] (hI3 rfl rfl rfl (q0 true) (q1 true) (q21 true))
            (by simp (maxSteps := 4000000) (disch := omega) only [abv, step, stepv, ev, wl, wn, wp, wz, aop, cV, cV1, AV.one, partCells, okW, onlyFr, app, sliceCells, cellsAt, srcA, subA, eqFs, Int.cast_ofNat_Int, simprocAttr, Bool.not_true]; exact Le.slots (by simp [Am.look])) hs8)
          rintro _ a9 W9 ⟨rfl, st9, hle9, hs9', t9⟩
          have hs9 := hle9 _ _ _ rfl hs9'
          show (Code.cond _ .ret .skip).wpIn Fence.wide 4 _ _ a9 W9
          have h40 : a9.eval (.tmp 40) = .bool false := by obtain ⟨_, _, _, _, _, _, h⟩ := hs9; have h : Rep _ (.bool _) (a9.tmps.getD 40 undef) := h 40; simp only [Rep] at h; exact h
          refine wpIn_cond_false h40 (wpIn_skip ?_)
          show d8.wpIn Fence.wide 4 _ _ a9 W9
          refine reg_step (Q := fun _ st' => Le 0 st' ⟨[(5, .int .i64 (atN (j + 1) : Nat)), (22, .int .i64 cnt), (23, .int .i64 j)], []⟩) (hF hk8) hd8 [(0, yv), (1, v1), (21, sv)] (hI3 rfl rfl rfl (t9 (0, yv) (by simp)) (t9 (1, v1) (by simp)) (t9 (21, sv) (by simp)))
            (by simp (maxSteps := 4000000) (disch := omega) only [abv, step, stepv, ev, wl, wn, wp, wz, aop, cV, cV1, AV.one, partCells, okW, onlyFr, app, sliceCells, cellsAt, srcA, subA, eqFs, Int.cast_ofNat_Int, simprocAttr]; exact Le.slots (by simp [Am.look])) hs9 ?_
          intro stA aA WA hleA hsA' tA
          have hsA2 := hleA _ _ _ rfl hsA'
          show d9.wpIn Fence.wide 4 _ _ aA WA
          refine reg_step (Q := fun _ st' => Le 0 st' ⟨[(5, .int .i64 (atN (j + 1) : Nat)), (22, .int .i64 cnt), (23, .int .i64 ((j + 1 : Nat) : Int))], []⟩) (hF hk8) hd9 [(0, yv), (1, v1), (21, sv)] (hI3 rfl rfl rfl (tA (0, yv) (by simp)) (tA (1, v1) (by simp)) (tA (21, sv) (by simp)))
            (by simp (maxSteps := 4000000) (disch := omega) only [abv, step, stepv, ev, wl, wn, wp, wz, aop, cV, cV1, AV.one, partCells, okW, onlyFr, app, sliceCells, cellsAt, srcA, subA, eqFs, Int.cast_ofNat_Int, simprocAttr]; exact Le.slots (by simp [Am.look])) hsA2 ?_
          intro stC aC WC hleC hsC' tC
          have hsC := hleC _ _ _ rfl hsC'
          have WCb : Below W8.heap.size W8 WC := hsC.2.2.1
          obtain ⟨h1, h2, _, _, _, _, hC⟩ := hsC
          have c5 : aC.tmps.getD 5 undef = .int .i64 (atN (j + 1) : Nat) := by have h : Rep _ (.int .i64 _) (aC.tmps.getD 5 undef) := hC 5; simpa only [Rep] using h
          have c22 : aC.tmps.getD 22 undef = .int .i64 cnt := by have h : Rep _ (.int .i64 _) (aC.tmps.getD 22 undef) := hC 22; simpa only [Rep] using h
          have c23 : aC.tmps.getD 23 undef = .int .i64 ((j + 1 : Nat) : Int) := by have h : Rep _ (.int .i64 _) (aC.tmps.getD 23 undef) := hC 23; simpa only [Rep] using h
          refine ⟨⟨j + 1, by omega, h1, h2, tC (0, yv) (by simp), tC (1, v1) (by simp), c5, tC (21, sv) (by simp), c22, c23, (WCb.block br (Array.getElem?_eq_some_iff.1 hbr8).1).trans hbr8, fun b k v hc hv => ?_, ?_⟩, ?_⟩
          · have h := hk8 b k v hc hv
            exact (WCb.cell (p := ⟨b, k, none⟩) (World.block_lt_of_cell? W8 _ h)).trans h
          · rw [finR_take hjc]
            exact hJ _ W8 WC none hJ8 (below_grown WCb) (fun r h => by cases h)
          · simp only [c23, i8, Int.toNat_natCast]
            omega
        · refine ⟨false, rfl, ?_⟩
          have hs8 : Sim (ΓW W8) ⟨[(39, .bool false)], []⟩ ((a7.put (some 38) vj).put (some 39) (.bool false)) W8 :=
            sim0 (d8' false) (z8 false) (rep_fr_cons (by rw [p39]; simp only [Rep]) rep_fr_nil)
          let P0 : Prg := ⟨P.prog, [], fun _ _ h => by cases h⟩
          refine wpListIn_mono ?_ _ _ _ (list_step (P := P0) (N := 43) (Γ := ΓW W8) (Q := fun _ st' => Le 0 st' ⟨[(40, .bool true)], []⟩) ⟨rfl, fun _ _ h => by cases h⟩ hm1 [] (fun p hp => by cases hp)
            (by simp (maxSteps := 4000000) (disch := omega) only [abv, step, stepv, ev, wl, wn, wp, wz, aop, cV, cV1, AV.one, partCells, okW, onlyFr, app, sliceCells, cellsAt, srcA, subA, eqFs, Int.cast_ofNat_Int, simprocAttr, Bool.not_false]; exact Le.slots (by simp [Am.look])) hs8)
          rintro _ a9 W9 ⟨rfl, st9, hle9, hs9', t9⟩
          have hs9 := hle9 _ _ _ rfl hs9'
          show (Code.cond _ .ret .skip).wpIn Fence.wide 4 _ _ a9 W9
          have h40 : a9.eval (.tmp 40) = .bool true := by obtain ⟨_, _, _, _, _, _, h⟩ := hs9; have h : Rep _ (.bool _) (a9.tmps.getD 40 undef) := h 40; simp only [Rep] at h; exact h
          refine wpIn_cond_true h40 (wpIn_ret ?_)
          have hX9 := hJx _ W8 W9 none hX8 (below_grown hs9.2.2.1) (fun r h => by cases h)
          exact ⟨hs9.1, .tuple #[], results_none (Array.ext' hrl) _ _ _, ⟨_, rfl⟩, .inr ⟨_, trivial, hX9⟩⟩
      · have e24 : decide ((j : Int) < cnt) = false := by simp; omega
        rw [e24] at h24
        refine wpIn_cond_false h24 (wpIn_exit ?_)
        have hjc' : j = cnt := by omega
        rw [hjc', List.take_of_length_le (by simp)] at i11
        have hJB : J (List.finRange cnt) WB := hJ _ Wj WB none i11 (below_grown bW) (fun r h => by cases h)
        have hdB : aB.defers = [] := hsB.1
        exact ⟨hdB, .tuple #[], results_none (Array.ext' hrl) _ _ _, ⟨_, rfl⟩, .inl ⟨_, rfl, hJB⟩⟩
end Go.Am

namespace Go.Am
open Go.RowKit

def S_Parts24 (g : Nat) (P : Prg) (f : Nat) : Prop := ∀ (c x r : Int) (l : List Int), VC P f [clA c x r l] (.fn (.func g) [] [.cell [.int .i64 c, .int .i64 x, .int .i64 r, il l]])
theorem clip_parts {P : Prg} {f g t0 : Nat} (b : Body P f 4 [.tmp 2] (ac_clip_parts g t0)) : S_Parts24 g P f := by
  intro c x r l
  refine VC.of_walk 1 (by simp [isDL, isD, isD_il, clA]) (by simp [isD, isDL, isD_il]) (ACall.of_body b (by simp) ?_)
  simp (maxSteps := 4000000) (disch := omega) only [abv, step, stepv, ev, wl, wn, wp, wz, aop, cV, cV1, AV.one, partCells, okW, onlyFr, app, sliceCells, cellsAt, srcA, subA, eqFs, Int.cast_ofNat_Int, simprocAttr, ac_clip_parts, clA, il]
  simp [frzN, frzK, frzL, frzV, isDL, isD, frzL_T _ (isTL_ks .i32 _)]

def partsOf (c r : Int) (l : List Int) : List (List Int) := (List.range (lensL (longN r).toNat (l.length / c.toNat)).length).map (partL ((longN r).toNat * c.toNat) l)

theorem clipN_ok {c x r : Int} {l : List Int} (h : clipN c x r l = 0) : ∃ k n : Nat, c = k ∧ 1 ≤ k ∧ k ≤ 1000 ∧ l.length = n * k ∧ okA r n ∧ l.length ≤ 4000 := by
  unfold clipN at h
  split at h
  · cases h
  rename_i h1
  split at h
  · cases h
  rename_i h2
  split at h
  · cases h
  rename_i h3
  have h3' : headN c x r (l.length / c) = 0 := by simpa using h3
  have h2' : (l.length : Int) % c = 0 := by simpa using h2
  obtain ⟨k, rfl⟩ : ∃ k : Nat, c = k := ⟨c.toNat, by omega⟩
  have e1 : (l.length : Int) / (k : Int) = ((l.length / k : Nat) : Int) := by simp
  have e2 : l.length % k = 0 := by exact_mod_cast h2'
  rw [e1] at h3'
  have e3 := Nat.div_add_mod l.length k
  rw [e2, Nat.add_zero, Nat.mul_comm] at e3
  unfold headN at h3'
  split at h3'
  · cases h3'
  rename_i a1
  split at h3'
  · cases h3'
  rename_i a2
  split at h3'
  · cases h3'
  rename_i a3
  split at h3'
  · cases h3'
  rename_i a4
  obtain ⟨n, hn⟩ : ∃ n, l.length / k = n := ⟨_, rfl⟩
  rw [hn] at e3 a2 a3 a4
  have a5 : eCheck k x = 0 := by simpa using a1
  have a6 : cntE r n = 0 := by simpa using a4
  rcases eCheck_cases (k : Int) x with h4 | ⟨_, h5, h6, h7⟩
  · omega
  have hle : n * k ≤ 4000 := by
    have h8 : (n : Int) ≤ 4000 / (k : Int) := by omega
    have h9 := Int.mul_le_of_le_ediv (a := (n : Int)) (b := 4000) (c := (k : Int)) (by omega) h8
    have h10 : ((n * k : Nat) : Int) ≤ 4000 := by rw [Int.natCast_mul]; exact h9
    omega
  have hn4 : n ≤ 4000 := Nat.le_trans (Nat.le_mul_of_pos_right n (by omega)) hle
  refine ⟨k, n, rfl, by omega, by omega, e3.symm, ?_, by omega⟩
  unfold cntE at a6
  split at a6
  · cases a6
  split at a6
  · cases a6
  split at a6
  · cases a6
  rename_i b1 b2 b3
  refine ⟨by omega, by omega, by omega, by omega, ?_⟩
  have hlong : 1 ≤ longN r := longN_pos r
  obtain ⟨L, hLe⟩ : ∃ L : Nat, longN r = L := ⟨(longN r).toNat, by omega⟩
  rw [hLe, Int.toNat_natCast, Int.toNat_natCast, lensL_len]
  rw [hLe] at b3
  have h1 : (n : Int) + (L : Int) - 1 = ((n - 1 + L : Nat) : Int) := by omega
  rw [h1, ← Int.natCast_ediv, Nat.add_div_right _ (by omega)] at b3
  omega

theorem partsOf_len (c r : Int) (l : List Int) : (partsOf c r l).length = (lensL (longN r).toNat (l.length / c.toNat)).length := by simp [partsOf]
theorem isTL_map_il : ∀ L : List (List Int), isTL (L.map il) = true
  | [] => rfl
  | l :: L => by simp [isTL, isT, il, isTL_ks, isTL_map_il L]

def S_CloneJ (P : Prg) (f : Nat) : Prop := ∀ l : List Int, l.length ≤ 1000000 → VC P f [il l] (il l)
theorem clone_j {P : Prg} {f t0 : Nat} (b : Body P f 8 [.tmp 2] (ac_slices_Clone_int32_int32 t0)) : S_CloneJ P f := by
  intro l h1
  refine VC.of_walk 1 (by simp [isDL, isD_il]) (isD_il _) (ACall.of_body b (by simp) ?_)
  have tl := isTL_ks .i32 l
  by_cases h0 : l = []
  · subst h0
    simp (maxSteps := 4000000) (disch := omega) only [abv, step, stepv, ev, wl, wn, wp, wz, aop, cV, cV1, AV.one, partCells, okW, onlyFr, app, sliceCells, cellsAt, srcA, subA, eqFs, Int.cast_ofNat_Int, simprocAttr, ac_slices_Clone_int32_int32, il, nilA, ks_nil]
    simp [frzN, frzK, frzL, frzV, isDL, isD]
  · have n0 : l.length ≠ 0 := by simpa using h0
    simp (maxSteps := 4000000) (disch := omega) only [abv, step, stepv, ev, wl, wn, wp, wz, aop, cV, cV1, AV.one, partCells, okW, onlyFr, app, sliceCells, cellsAt, srcA, subA, eqFs, Int.cast_ofNat_Int, simprocAttr, ac_slices_Clone_int32_int32, il, nilA, n0, ks_nil]
    simp [frzN, frzK, frzL, frzV, isDL, isD, frzL_T _ tl]

def splitA (c x r : Int) (l : List Int) : AV := if clipN c x r l = 0 then .tup [iss (partsOf c r l), .int .i64 0] else .tup [iss [], .int .i64 8]
theorem isD_splitA (c x r : Int) (l : List Int) : isD (splitA c x r l) = true := by unfold splitA; split <;> simp [isD, isDL, isD_iss]
theorem clipN_cases (c x r : Int) (l : List Int) : clipN c x r l = 0 ∨ clipN c x r l = 8 := by
  unfold clipN; repeat' split
  all_goals simp
def S_Split (P : Prg) (f : Nat) : Prop := ∀ (c x r : Int) (l : List Int), I32 l → l.length ≤ 1000000 → VC P f [clA c x r l] (splitA c x r l)
theorem clip_Split {P : Prg} {f fC fP fK fA g t0 t1 t2 ti : Nat} (b : BodyC P f 21 [.tmp 2, .tmp 3] (ac_clip_Split fC fP fK t0 t1 t2)) (hC : S_ClipCheck P fC) (hP : S_Parts24 g P fP) (hI : S_PartsIt ti P g) (bG : Body P g 43 [] (ac_clip_parts_1 fA)) (hK : S_CloneJ P fK)
    (h0 : t0 ≠ ti) (h1 : t1 ≠ ti) (h2 : t2 ≠ ti) : S_Split P f := by
  intro c x r l hI32 hl
  refine VC.of_walk 2 (by simp [isDL, isD, isD_il, clA]) (isD_splitA _ _ _ _) (ACall.of_rangeC b (by simp) ?_)
  have hC' := hC c x r l hI32 hl
  rw [il] at hC'
  rcases clipN_cases c x r l with h | h
  · rw [h] at hC'
    have e9 : splitA c x r l = .tup [iss (partsOf c r l), .int .i64 0] := by rw [splitA, if_pos h]
    obtain ⟨k, n, rfl, k1, k2, hlen, hok, h4⟩ := clipN_ok h
    have hP' := hP k x r l
    have hI' := hI k n x r l k1 k2 hlen hok
    rw [clA] at hP'
    rw [il] at hP' hI'
    simp (maxSteps := 4000000) (disch := omega) only [abv, step, stepv, ev, wl, wn, wp, wz, aop, cV, cV1, AV.one, partCells, okW, onlyFr, app, sliceCells, cellsAt, srcA, subA, eqFs, Int.cast_ofNat_Int, simprocAttr, ac_clip_Split, clA, il, wpR_cons, wpR_nil, kS_normal, kS_ret, kR_normal, kR_ret]
    refine callQ.vc hC' ?_
    simp (maxSteps := 4000000) (disch := omega) only [abv, step, stepv, ev, wl, wn, wp, wz, aop, cV, cV1, AV.one, partCells, okW, onlyFr, app, sliceCells, cellsAt, srcA, subA, eqFs, Int.cast_ofNat_Int, simprocAttr, kS_normal, wpR_cons, wpR_nil]
    refine callQ.vc hP' ?_
    simp (maxSteps := 4000000) (disch := omega) only [abv, step, stepv, ev, wl, wn, wp, wz, aop, cV, cV1, AV.one, partCells, okW, onlyFr, app, sliceCells, cellsAt, srcA, subA, eqFs, Int.cast_ofNat_Int, simprocAttr, kR_normal]
    obtain ⟨Lc, hLc⟩ : ∃ Lc, (longN r).toNat * k = Lc := ⟨_, rfl⟩
    rw [hLc] at hI'
    have hcnt : (lensL (longN r).toNat n).length ≤ 1000 := by have := hok.2.2.2.2; rwa [Int.toNat_natCast] at this
    obtain ⟨cnt, hcn⟩ : ∃ cnt, (lensL (longN r).toNat n).length = cnt := ⟨_, rfl⟩
    have hpo : partsOf k r l = (List.finRange cnt).map (fun j => partL Lc l j.1) := by
      unfold partsOf
      rw [Int.toNat_natCast, hlen, Nat.mul_div_cancel _ (by omega), hcn, hLc]
      apply List.ext_getElem <;> simp
    rw [hcn] at hI' hcnt
    refine ⟨cnt, g, _, [ti], _, [(13, .fn (.func g) [] [.cell [.int .i64 k, .int .i64 x, .int .i64 r, .list l.length (ks .i32 l)]]), (1, .ref 0 1 0), (5, .ref 1 1 0)],
      fun pre => [⟨t0, 4, 1, [.int .i64 k, .int .i64 x, .int .i64 r, .list l.length (ks .i32 l)], 0⟩, ⟨t1, 1, 1, [.own 2 pre.length], 0⟩, ⟨t2, 1, pre.length, pre.map (fun j => il (partL Lc l j.1)), 0⟩], ?_, rfl, bG.ent, by simp [isDL, isD, isDL_ks], hI', by omega, by omega, rfl, ?_, ?_, ?_⟩
    · refine Le.trans (Le.virtF (p := 1) (ty := t2) (sz := 1) (by omega) rfl rfl) (Le.slots (by simp [Am.look]))
    · intro pre x hx
      simp only [List.mem_cons, List.not_mem_nil, or_false] at hx ⊢
      rcases hx with rfl | rfl | rfl
      · exact h0
      · exact h1
      · exact h2
    · intro pre x hpl
      have hK' := hK (partL Lc l x.1) (by unfold partL; simp; omega)
      have hyl : (partL Lc l x.1).length ≤ 4000 := by unfold partL; simp; omega
      have hpm : (pre.map (fun j => il (partL Lc l j.1))).length = pre.length := by simp
      obtain ⟨y, hy⟩ : ∃ y, partL Lc l x.1 = y := ⟨_, rfl⟩
      have ty := isTL_ks .i32 y
      rw [hy] at hK' hyl ⊢
      rw [il] at hK' ⊢
      simp (maxSteps := 4000000) (disch := omega) only [abv, step, stepv, ev, wl, wn, wp, wz, aop, cV, cV1, AV.one, partCells, okW, onlyFr, app, sliceCells, cellsAt, srcA, subA, eqFs, Int.cast_ofNat_Int, simprocAttr]
      refine callD.vc hK' ?_
      simp (maxSteps := 4000000) (disch := omega) only [abv, step, stepv, ev, wl, wn, wp, wz, aop, cV, cV1, AV.one, partCells, okW, onlyFr, app, sliceCells, cellsAt, srcA, subA, eqFs, Int.cast_ofNat_Int, simprocAttr, hpm]
      refine Le.drop 3 2 (by omega) rfl (by simp) ?_
      intro i z hz
      match i, hz with
      | 0, hz => cases hz; exact ⟨_, rfl, by simp [frzK, frzL, frzV, frzL_T _ (isTL_ks .i32 _)]⟩
      | 1, hz => cases hz; exact ⟨_, rfl, by simp [frzK, frzL, frzV]⟩
      | 2, hz =>
        cases hz
        have e : (pre ++ [x]).map (fun j => il (partL Lc l j.1)) = pre.map (fun j => il (partL Lc l j.1)) ++ [.list y.length (ks .i32 y)] := by simp [hy, il]
        rw [e]
        refine ⟨_, rfl, frzL_T _ ?_⟩
        rw [← e]
        have := isTL_map_il ((pre ++ [x]).map (fun j => partL Lc l j.1))
        rwa [List.map_map] at this
      | i + 3, hz => simp at hz
    · have hfl : (List.finRange cnt).length = cnt := by simp
      have hpi : (List.finRange cnt).map (fun j => il (partL Lc l j.1)) = (partsOf k r l).map il := by rw [hpo, List.map_map]; rfl
      dsimp only
      rw [hpi, hfl, e9]
      have hpl : (partsOf k r l).length = cnt := by rw [hpo]; simp
      have tp := isTL_map_il (partsOf k r l)
      generalize hPP : (partsOf k r l).map il = PP at *
      simp (maxSteps := 4000000) (disch := omega) only [abv, step, stepv, ev, wl, wn, wp, wz, aop, cV, cV1, AV.one, partCells, okW, onlyFr, app, sliceCells, cellsAt, srcA, subA, eqFs, Int.cast_ofNat_Int, simprocAttr]
      simp [frzN, frzK, frzL, frzV, isDL, isD, iss, hpl, hPP, frzL_T _ tp]
  · rw [h] at hC'
    have e9 : splitA c x r l = .tup [iss [], .int .i64 8] := by rw [splitA, if_neg (by omega)]
    simp (maxSteps := 4000000) (disch := omega) only [abv, step, stepv, ev, wl, wn, wp, wz, aop, cV, cV1, AV.one, partCells, okW, onlyFr, app, sliceCells, cellsAt, srcA, subA, eqFs, Int.cast_ofNat_Int, simprocAttr, ac_clip_Split, clA, il, wpR_cons, wpR_nil, kS_normal, kS_ret, kR_normal, kR_ret]
    refine callQ.vc hC' ?_
    simp (maxSteps := 4000000) (disch := omega) only [abv, step, stepv, ev, wl, wn, wp, wz, aop, cV, cV1, AV.one, partCells, okW, onlyFr, app, sliceCells, cellsAt, srcA, subA, eqFs, Int.cast_ofNat_Int, simprocAttr, kS_normal, kS_ret, wpR_cons, wpR_nil, e9]
    simp [frzN, frzK, frzL, frzV, isDL, isD, iss]
end Go.Am

namespace Go.Am
open Go.RowKit

/-! ### clip.Join -/

/-! The parts of a whole. -/

theorem partsOf_le {c x r : Int} {l : List Int} (h : clipN c x r l = 0) : (partsOf c r l).length ≤ 1000 := by
  obtain ⟨k, n, rfl, h1, h2, h3, ⟨o1, o2, o3, o4, o5⟩, h4⟩ := clipN_ok h
  rw [partsOf_len, Int.toNat_natCast, h3, Nat.mul_div_cancel _ (by omega)]
  rwa [Int.toNat_natCast] at o5
end Go.Am

namespace Go.Am
open Go.RowKit

/-! ### The reference's Parts, Split, Join -/

theorem mem_flat_le {L : List (List Int)} {p : List Int} (h : p ∈ L) : p.length ≤ L.flatten.length := by
  induction L with
  | nil => cases h
  | cons q L ih =>
    simp only [List.flatten_cons, List.length_append]
    rcases List.mem_cons.1 h with rfl | h
    · omega
    · have := ih h; omega
theorem getD_le {L : List (List Int)} {z : Nat} (h : ∀ p ∈ L, p.length ≤ z) (j : Nat) : (L.getD j []).length ≤ z := by
  rw [List.getD_eq_getElem?_getD]
  cases e : L[j]? with
  | none => simp
  | some p => exact h p (List.mem_of_getElem? e)
theorem okPts_of {L : List (List Int)} (h1 : L.length ≤ 1000000) (h2 : L.flatten.length ≤ 1000000) : okPts L := ⟨h1, getD_le fun p hp => Nat.le_trans (mem_flat_le hp) h2⟩
end Go.Am

namespace Go.Am
open Go.RowKit

/-! ### CRC-64 (plain) -/

def sixS (c : Nat) : Nat := (2 * c) % 18446744073709551616 ^^^ (if 9223372036854775808 ≤ c then 4823603603198064275 else 0)
def sixN : Nat → Nat → Nat
  | 0, c => c
  | k + 1, c => sixN k (sixS c)
theorem sixS_lt (c : Nat) : sixS c < 18446744073709551616 := by
  unfold sixS
  have : (if 9223372036854775808 ≤ c then 4823603603198064275 else 0) < 2 ^ 64 := by split <;> decide
  exact Nat.xor_lt_two_pow (n := 64) (Nat.mod_lt _ (by decide)) this
theorem sixN_lt : ∀ (k : Nat) {c : Nat}, c < 18446744073709551616 → sixN k c < 18446744073709551616
  | 0, _, h => h
  | k + 1, c, _ => sixN_lt k (sixS_lt c)
theorem sixN_succ : ∀ (k c : Nat), sixN (k + 1) c = sixS (sixN k c)
  | 0, _ => rfl
  | k + 1, c => by rw [sixN, sixN_succ k, sixN]

theorem ge_top (c : Nat) (h : c < 18446744073709551616) : (9223372036854775808 ≤ c) ↔ c.testBit 63 = true := by
  constructor
  · intro h2
    rw [Nat.testBit_eq_decide_div_mod_eq]
    have : c / 2 ^ 63 = 1 := by omega
    rw [this]; rfl
  · intro h2
    exact Nat.ge_two_pow_of_testBit h2

theorem sixS_xor {x l : Nat} (hx : x < 18446744073709551616) (hl : l < 9223372036854775808) : sixS (x ^^^ l) = sixS x ^^^ 2 * l := by
  have hxl : x ^^^ l < 18446744073709551616 := Nat.xor_lt_two_pow (n := 64) hx (by omega)
  have e1 : (9223372036854775808 ≤ x ^^^ l) ↔ (9223372036854775808 ≤ x) := by
    rw [ge_top _ hxl, ge_top _ hx, Nat.testBit_xor, Nat.testBit_lt_two_pow (show l < 2 ^ 63 from hl), Bool.xor_false]
  have e2 : (2 * (x ^^^ l)) % 18446744073709551616 = (2 * x) % 18446744073709551616 ^^^ 2 * l := by
    apply Nat.eq_of_testBit_eq
    intro i
    rw [show (18446744073709551616 : Nat) = 2 ^ 64 from rfl, Nat.testBit_mod_two_pow, Nat.testBit_xor, Nat.testBit_mod_two_pow]
    rw [show 2 * (x ^^^ l) = 2 ^ 1 * (x ^^^ l) from rfl, show 2 * x = 2 ^ 1 * x from rfl, show 2 * l = 2 ^ 1 * l from rfl, Nat.testBit_two_pow_mul, Nat.testBit_two_pow_mul, Nat.testBit_two_pow_mul, Nat.testBit_xor]
    by_cases h : i < 64
    · by_cases h1 : 1 ≤ i <;> simp [h, h1]
    · have h2 : l.testBit (i - 1) = false := Nat.testBit_lt_two_pow (Nat.lt_of_lt_of_le (show l < 2 ^ 63 from hl) (Nat.pow_le_pow_right (by decide) (by omega)))
      simp [h, h2]
  unfold sixS
  rw [e2]
  by_cases h : 9223372036854775808 ≤ x
  · rw [if_pos h, if_pos (e1.2 h), Nat.xor_assoc, Nat.xor_assoc, Nat.xor_comm (2 * l)]
  · rw [if_neg h, if_neg (fun h2 => h (e1.1 h2)), Nat.xor_assoc, Nat.xor_assoc, Nat.xor_comm (2 * l)]

theorem sixN_xor : ∀ (k : Nat) {x l : Nat}, k ≤ 64 → x < 18446744073709551616 → l < 2 ^ (64 - k) → sixN k (x ^^^ l) = sixN k x ^^^ 2 ^ k * l
  | 0, x, l, _, _, _ => by simp [sixN]
  | k + 1, x, l, hk, hx, hl => by
    have h1 : l < 9223372036854775808 := Nat.lt_of_lt_of_le hl (Nat.pow_le_pow_right (by omega) (by omega : 64 - (k + 1) ≤ 63))
    have h2 : 2 * l < 2 ^ (64 - k) := by
      rw [show 64 - k = (64 - (k + 1)) + 1 by omega, Nat.pow_succ]; omega
    rw [sixN, sixS_xor hx h1, sixN_xor k (by omega) (sixS_lt x) h2, sixN, Nat.pow_succ, Nat.mul_assoc]

def sixB (s b : Nat) : Nat := sixN 8 (s ^^^ b * 72057594037927936)
theorem xor_top {s b : Nat} (hs : s < 18446744073709551616) : s ^^^ b * 72057594037927936 = (s / 72057594037927936 ^^^ b) * 72057594037927936 ^^^ s % 72057594037927936 := by
  have h := xor_split s 56
  rw [show (2 : Nat) ^ 56 = 72057594037927936 from rfl] at h
  have e : (s / 72057594037927936 ^^^ b) * 72057594037927936 = s / 72057594037927936 * 72057594037927936 ^^^ b * 72057594037927936 := by
    apply Nat.eq_of_testBit_eq
    intro i
    rw [Nat.testBit_xor, show (72057594037927936 : Nat) = 2 ^ 56 from rfl, Nat.mul_comm _ (2 ^ 56), Nat.mul_comm _ (2 ^ 56), Nat.mul_comm b, Nat.testBit_two_pow_mul, Nat.testBit_two_pow_mul, Nat.testBit_two_pow_mul, Nat.testBit_xor]
    by_cases h : 56 ≤ i <;> simp [h]
  rw [e, Nat.xor_comm (s / 72057594037927936 * 72057594037927936), Nat.xor_assoc, Nat.mul_comm (s / 72057594037927936), Nat.xor_comm (72057594037927936 * _), ← h, Nat.xor_comm]
theorem sixB_split {s b : Nat} (hs : s < 18446744073709551616) (hb : b < 256) : sixB s b = s * 256 % 18446744073709551616 ^^^ sixN 8 ((s / 72057594037927936 ^^^ b) * 72057594037927936) := by
  have h0 : (s / 72057594037927936 ^^^ b) < 2 ^ 8 := Nat.xor_lt_two_pow (by omega) hb
  rw [sixB, xor_top hs, sixN_xor 8 (by omega) (by omega) (by show s % 72057594037927936 < 2 ^ 56; exact Nat.mod_lt _ (by decide)), Nat.xor_comm]
  congr 1
  omega
theorem sixB_lt {s b : Nat} (hs : s < 18446744073709551616) (hb : b < 256) : sixB s b < 18446744073709551616 := sixN_lt 8 (Nat.xor_lt_two_pow (n := 64) hs (by omega))
def sixL (s : Nat) (l : List UInt8) : Nat := l.foldl (fun s b => sixB s b.toNat) s
theorem sixL_succ {s : Nat} {l : List UInt8} {k : Nat} (h : k < l.length) : sixL s (l.take (k + 1)) = sixB (sixL s (l.take k)) (l[k]).toNat := by
  rw [List.take_succ_eq_append_getElem h, sixL, List.foldl_append]; rfl
theorem sixL_lt : ∀ {l : List UInt8} {s : Nat}, s < 18446744073709551616 → sixL s l < 18446744073709551616
  | [], _, h => h
  | b :: l, s, h => sixL_lt (l := l) (sixB_lt h (UInt8.toNat_lt b))

end Go.Am

namespace Go.Am
open Go.RowKit

/-! ### CRC-64 -/

def tab6 (i : Nat) : List Int := (List.range 256).map fun j => if j < i then ((sixN 8 (j * 72057594037927936) : Nat) : Int) else 0
theorem tab6_length (i : Nat) : (tab6 i).length = 256 := by simp [tab6]
theorem tab6_get {i j : Nat} (h : j < 256) : (tab6 i)[j]'(by rw [tab6_length]; exact h) = if j < i then ((sixN 8 (j * 72057594037927936) : Nat) : Int) else 0 := by simp [tab6]
theorem tab6_set {i : Nat} (h : i < 256) : (tab6 i).set i ((sixN 8 (i * 72057594037927936) : Nat) : Int) = tab6 (i + 1) := by
  refine List.ext_getElem (by simp [tab6_length]) fun j h1 h2 => ?_
  have hj : j < 256 := by simpa [tab6_length] using h2
  rw [List.getElem_set, tab6_get hj]
  split
  · rename_i e; subst e; rw [tab6_get hj, if_pos (by omega)]
  · rename_i e; rw [tab6_get hj]
    by_cases h3 : j < i
    · rw [if_pos h3, if_pos (by omega)]
    · rw [if_neg h3, if_neg (by omega)]

theorem shl_one (c : Nat) : shiftA true .u64 (c : Int) 1 = some (.int .u64 (((2 * c) % 18446744073709551616 : Nat) : Int)) := by
  have h3 : ¬ ((1 : Int) < 0) := by omega
  simp only [shiftA, if_neg h3, if_true]
  have h5 : (min (1 : Int).toNat IntKind.u64.bits) = 1 := rfl
  rw [h5, wrap_u64_mod]
  congr 2
  omega
theorem shl_eight (c : Nat) : shiftA true .u64 (c : Int) 8 = some (.int .u64 ((c * 256 % 18446744073709551616 : Nat) : Int)) := by
  have h3 : ¬ ((8 : Int) < 0) := by omega
  simp only [shiftA, if_neg h3, if_true]
  have h5 : (min (8 : Int).toNat IntKind.u64.bits) = 8 := rfl
  rw [h5, wrap_u64_mod]
  congr 2

def S_table6 (P : Prg) (f : Nat) : Prop := VC P f [] (.cell (ks .u64 (tab6 256)))
set_option maxRecDepth 40000 in
theorem crc64_table {P : Prg} {f t0 : Nat} (bd : Body P f 25 [.tmp 0] (ac_crc64_table t0)) : S_table6 P f := by
  refine VC.of_walk 1 rfl (by simp [isD, isTL_D (isTL_ks _ _)]) (ACall.of_body bd (by simp) ?_)
  unfold ac_crc64_table
  simp (maxSteps := 4000000) (disch := omega) only [abv, step, stepv, ev, wl, wn, wp, wz, aop, cV, cV1, AV.one, partCells, okW, onlyFr, app, sliceCells, cellsAt, srcA, subA, eqFs, Int.cast_ofNat_Int, simprocAttr]
  refine ALoop.by (ι := Nat) (fun i => ⟨[(5, .int .i64 i), (1, .ref 0 1 0)], [⟨t0, 256, 1, ks .u64 (tab6 i), 0⟩]⟩) (fun i => i ≤ 256) (fun i => 256 - i) 0 (Le.slots (by simp [Am.look])) (by omega) ?_
  intro i hi
  by_cases hlt : i < 256
  · have s0 : shiftA true .u64 (i : Int) 56 = some (.int .u64 ((i * 72057594037927936 : Nat) : Int)) := by
      have := shlK (K := .u64) rfl (c := i) (s := 56) (by decide) (by show i * 2 ^ 56 < 2 ^ 64; omega)
      exact this
    have w0 : IntKind.u64.wrap (i : Int) = i := wrap_u64 (by omega) (by omega)
    simp (maxSteps := 4000000) (disch := omega) only [abv, step, stepv, ev, wl, wn, wp, wz, aop, cV, cV1, AV.one, partCells, okW, onlyFr, app, sliceCells, cellsAt, srcA, subA, eqFs, Int.cast_ofNat_Int, simprocAttr, s0, w0]
    refine ALoop.by (ι := Nat) (fun j => ⟨[(11, .int .i64 j), (3, .int .u64 (sixN j (i * 72057594037927936))), (5, .int .i64 i), (2, .int .i64 i), (1, .ref 0 1 0)], [⟨t0, 256, 1, ks .u64 (tab6 i), 0⟩]⟩) (fun j => j ≤ 8) (fun j => 8 - j) 0 (Le.slots (by simp [Am.look, sixN])) (by omega) ?_
    intro j hj
    by_cases hjl : j < 8
    · have hc := sixN_lt j (c := i * 72057594037927936) (by omega)
      have hn := sixN_succ j (i * 72057594037927936)
      generalize sixN j (i * 72057594037927936) = c at *
      have a1 := shl_one c
      have a2 : shiftA false .u64 (c : Int) 63 = some (.int .u64 ((c / 9223372036854775808 : Nat) : Int)) := shrK (K := .u64) (n := c) (k := 63) (by decide)
      have hm := Nat.mod_lt (2 * c) (show 0 < 18446744073709551616 by decide)
      by_cases h2 : 9223372036854775808 ≤ c
      · have a3 : IntKind.u64.wrap (BitVec.ofInt IntKind.u64.bits ((2 * c % 18446744073709551616 : Nat) : Int) ^^^ BitVec.ofInt IntKind.u64.bits 4823603603198064275).toNat = ((sixN (j + 1) (i * 72057594037927936) : Nat) : Int) := by
          rw [hn, sixS, if_pos h2]
          exact xorK (K := .u64) rfl (a := 2 * c % 18446744073709551616) (b := 4823603603198064275) hm (by decide)
        have a4 : c / 9223372036854775808 = 1 := by omega
        rw [a4] at a2
        generalize 2 * c % 18446744073709551616 = d at *
        simp (maxSteps := 4000000) (disch := omega) only [abv, step, stepv, ev, wl, wn, wp, wz, aop, cV, cV1, AV.one, partCells, okW, onlyFr, app, sliceCells, cellsAt, srcA, subA, eqFs, Int.cast_ofNat_Int, simprocAttr, a1, a2, a3]
        exact ⟨j + 1, by omega, by omega, Le.slots (by simp [Am.look])⟩
      · have a3 : IntKind.u64.wrap (BitVec.ofInt IntKind.u64.bits ((2 * c % 18446744073709551616 : Nat) : Int) ^^^ BitVec.ofInt IntKind.u64.bits 0).toNat = ((sixN (j + 1) (i * 72057594037927936) : Nat) : Int) := by
          rw [hn, sixS, if_neg h2]
          exact xorK (K := .u64) rfl (a := 2 * c % 18446744073709551616) (b := 0) hm (by decide)
        have a4 : c / 9223372036854775808 = 0 := by omega
        rw [a4] at a2
        generalize 2 * c % 18446744073709551616 = d at *
        simp (maxSteps := 4000000) (disch := omega) only [abv, step, stepv, ev, wl, wn, wp, wz, aop, cV, cV1, AV.one, partCells, okW, onlyFr, app, sliceCells, cellsAt, srcA, subA, eqFs, Int.cast_ofNat_Int, simprocAttr, a1, a2, a3]
        exact ⟨j + 1, by omega, by omega, Le.slots (by simp [Am.look])⟩
    · obtain rfl : j = 8 := by omega
      have e1 := tab6_length i
      have e2 := ks_length .u64 (tab6 i)
      have e3 : (ks .u64 (tab6 i)).take i ++ [.int .u64 (sixN 8 (i * 72057594037927936))] ++ (ks .u64 (tab6 i)).drop (i + 1) = ks .u64 (tab6 (i + 1)) := by
        rw [← tab6_set hlt, List.set_eq_take_append_cons_drop, if_pos (by rw [tab6_length]; exact hlt)]; simp [ks, List.map_take, List.map_drop]
      simp (maxSteps := 4000000) (disch := omega) only [abv, step, stepv, ev, wl, wn, wp, wz, aop, cV, cV1, AV.one, partCells, okW, onlyFr, app, sliceCells, cellsAt, srcA, subA, eqFs, Int.cast_ofNat_Int, simprocAttr, e1, e2, e3]
      exact ⟨i + 1, by omega, by omega, Le.slots (by simp [Am.look])⟩
  · obtain rfl : i = 256 := by omega
    simp (maxSteps := 4000000) (disch := omega) only [abv, step, stepv, ev, wl, wn, wp, wz, aop, cV, cV1, AV.one, partCells, okW, onlyFr, app, sliceCells, cellsAt, srcA, subA, eqFs, Int.cast_ofNat_Int, simprocAttr]
    simp [frzN, frzK, frzL, frzV, frzL_T _ (isTL_ks _ _)]

def S_Behind6 (P : Prg) (f : Nat) : Prop := ∀ (s : Nat) (l : List UInt8), s < 18446744073709551616 → l.length ≤ 1000000 → VC P f [.cell (ks .u64 (tab6 256)), .int .u64 s, bs l] (.int .u64 (sixL s l : Nat))
set_option maxRecDepth 40000 in
theorem crc64_behind {P : Prg} {f : Nat} (bd : Body P f 29 [.tmp 6] ac_crc64_behind) : S_Behind6 P f := by
  intro s l hs hl
  refine VC.of_acall (by simp [isDL, isD, isD_bs, isDL_ks]) rfl (ACall.of_body bd (by simp) ?_)
  have t0 := ks_length .u64 (tab6 256)
  rw [tab6_length] at t0
  simp (maxSteps := 4000000) (disch := omega) only [abv, step, stepv, ev, wl, wn, wp, wz, aop, cV, cV1, AV.one, partCells, okW, onlyFr, app, sliceCells, cellsAt, srcA, subA, eqFs, Int.cast_ofNat_Int, simprocAttr, ac_crc64_behind, bs]
  refine ALoop.by (ι := Nat) (fun k => ⟨[(11, .int .i64 k), (10, .int .i64 l.length), (9, .list l.length (u8 l)), (0, .cell (ks .u64 (tab6 256))), (1, .int .u64 (sixL s (l.take k)))], []⟩) (fun k => k ≤ l.length) (fun k => l.length - k) 0 (Le.slots (by simp [Am.look, sixL])) (by omega) ?_
  intro k hk
  have hc := sixL_lt (l := l.take k) hs
  by_cases hlt : k < l.length
  · have e1 := u8_drop_cons hlt
    have hn := sixL_succ (s := s) hlt
    generalize sixL s (l.take k) = c at *
    have hb := (l[k]).toNat_lt
    rw [sixB_split hc hb] at hn
    have h0 : (c / 72057594037927936 ^^^ (l[k]).toNat) < 256 := Nat.xor_lt_two_pow (n := 8) (by omega) hb
    have h1 := sixN_lt 8 (c := (c / 72057594037927936 ^^^ (l[k]).toNat) * 72057594037927936) (by omega)
    have a1 : shiftA false .u64 (c : Int) 56 = some (.int .u64 ((c / 72057594037927936 : Nat) : Int)) := shrK (K := .u64) (n := c) (k := 56) (by decide)
    have a0 := shl_eight c
    have a2 : IntKind.u8.wrap ((c / 72057594037927936 : Nat) : Int) = ((c / 72057594037927936 : Nat) : Int) := by rw [wrap_u8_mod]; omega
    have a3 : IntKind.u8.wrap (BitVec.ofInt IntKind.u8.bits ((c / 72057594037927936 : Nat) : Int) ^^^ BitVec.ofInt IntKind.u8.bits ((l[k]).toNat : Int)).toNat = ((c / 72057594037927936 ^^^ (l[k]).toNat : Nat) : Int) :=
      xorK (K := .u8) rfl (a := c / 72057594037927936) (b := (l[k]).toNat) (by show c / 72057594037927936 < 256; omega) hb
    have hm := Nat.mod_lt (c * 256) (show 0 < 18446744073709551616 by decide)
    have a4 : IntKind.u64.wrap (BitVec.ofInt IntKind.u64.bits ((c * 256 % 18446744073709551616 : Nat) : Int) ^^^ BitVec.ofInt IntKind.u64.bits ((sixN 8 ((c / 72057594037927936 ^^^ (l[k]).toNat) * 72057594037927936) : Nat) : Int)).toNat = ((sixL s (l.take (k + 1)) : Nat) : Int) := by
      rw [hn]; exact xorK (K := .u64) rfl hm h1
    generalize c * 256 % 18446744073709551616 = d at *
    generalize c / 72057594037927936 ^^^ (l[k]).toNat = x at *
    have e2 : (ks .u64 (tab6 256)).drop x = .int .u64 ((sixN 8 (x * 72057594037927936) : Nat) : Int) :: ks .u64 ((tab6 256).drop (x + 1)) := by
      rw [ks_drop, List.drop_eq_getElem_cons (by rw [tab6_length]; exact h0), ks_cons, tab6_get h0, if_pos h0]
    generalize c / 72057594037927936 = q at *
    simp (maxSteps := 4000000) (disch := omega) only [abv, step, stepv, ev, wl, wn, wp, wz, aop, cV, cV1, AV.one, partCells, okW, onlyFr, app, sliceCells, cellsAt, srcA, subA, eqFs, Int.cast_ofNat_Int, simprocAttr, e1, a0, a1, a2, a3, a4, e2, t0]
    exact ⟨k + 1, by omega, by omega, Le.slots (by simp [Am.look])⟩
  · have ek : k = l.length := by omega
    subst ek
    rw [List.take_length]
    simp (maxSteps := 4000000) (disch := omega) only [abv, step, stepv, ev, wl, wn, wp, wz, aop, cV, cV1, AV.one, partCells, okW, onlyFr, app, sliceCells, cellsAt, srcA, subA, eqFs, Int.cast_ofNat_Int, simprocAttr]

def S_Next6 (P : Prg) (f : Nat) : Prop := ∀ (s : Nat) (l : List UInt8), s < 18446744073709551616 → VC P f [.int .u64 s, bs l] (if 100000 < l.length then .tup [.int .u64 0, .int .i64 4] else .tup [.int .u64 (sixL s l), .int .i64 0])
theorem crc64_Next {P : Prg} {f fT fB : Nat} (bd : Body P f 13 [.tmp 4, .tmp 5] (ac_crc64_Next fT fB)) (hT : S_table6 P fT) (hB : S_Behind6 P fB) : S_Next6 P f := by
  intro s l hs
  refine VC.of_acall (by simp [isDL, isD, isD_bs]) (by split <;> rfl) (ACall.of_body bd (by simp) ?_)
  by_cases hl : 100000 < l.length
  · rw [if_pos hl]
    simp (maxSteps := 4000000) (disch := omega) only [abv, step, stepv, ev, wl, wn, wp, wz, aop, cV, cV1, AV.one, partCells, okW, onlyFr, app, sliceCells, cellsAt, srcA, subA, eqFs, Int.cast_ofNat_Int, simprocAttr, ac_crc64_Next, bs]
  · rw [if_neg hl]
    have hB' := hB s l hs (by omega)
    rw [bs] at hB'
    have hT' : VC P fT [] _ := hT
    simp (maxSteps := 4000000) (disch := omega) only [abv, step, stepv, ev, wl, wn, wp, wz, aop, cV, cV1, AV.one, partCells, okW, onlyFr, app, sliceCells, cellsAt, srcA, subA, eqFs, Int.cast_ofNat_Int, simprocAttr, ac_crc64_Next, bs]
    refine callQ.vc hT' ?_
    simp (maxSteps := 4000000) (disch := omega) only [abv, step, stepv, ev, wl, wn, wp, wz, aop, cV, cV1, AV.one, partCells, okW, onlyFr, app, sliceCells, cellsAt, srcA, subA, eqFs, Int.cast_ofNat_Int, simprocAttr]
    refine callQ.vc hB' ?_
    simp (maxSteps := 4000000) (disch := omega) only [abv, step, stepv, ev, wl, wn, wp, wz, aop, cV, cV1, AV.one, partCells, okW, onlyFr, app, sliceCells, cellsAt, srcA, subA, eqFs, Int.cast_ofNat_Int, simprocAttr]

def S_Sum6 (P : Prg) (f : Nat) : Prop := ∀ (l : List UInt8), VC P f [bs l] (if 100000 < l.length then .tup [.int .u64 0, .int .i64 4] else .tup [.int .u64 (sixL 0 l), .int .i64 0])
theorem crc64_Sum {P : Prg} {f fN : Nat} (bd : Body P f 8 [.tmp 2, .tmp 3] (ac_crc64_Sum fN)) (hN : S_Next6 P fN) : S_Sum6 P f := by
  intro l
  refine VC.of_acall (by simp [isDL, isD, isD_bs]) (by split <;> rfl) (ACall.of_body bd (by simp) ?_)
  have hN' := hN 0 l (by decide)
  rw [bs] at hN'
  by_cases hl : 100000 < l.length
  · rw [if_pos hl] at hN' ⊢
    simp (maxSteps := 4000000) (disch := omega) only [abv, step, stepv, ev, wl, wn, wp, wz, aop, cV, cV1, AV.one, partCells, okW, onlyFr, app, sliceCells, cellsAt, srcA, subA, eqFs, Int.cast_ofNat_Int, simprocAttr, ac_crc64_Sum, bs]
    refine callQ.vc hN' ?_
    simp (maxSteps := 4000000) (disch := omega) only [abv, step, stepv, ev, wl, wn, wp, wz, aop, cV, cV1, AV.one, partCells, okW, onlyFr, app, sliceCells, cellsAt, srcA, subA, eqFs, Int.cast_ofNat_Int, simprocAttr]
  · rw [if_neg hl] at hN' ⊢
    simp (maxSteps := 4000000) (disch := omega) only [abv, step, stepv, ev, wl, wn, wp, wz, aop, cV, cV1, AV.one, partCells, okW, onlyFr, app, sliceCells, cellsAt, srcA, subA, eqFs, Int.cast_ofNat_Int, simprocAttr, ac_crc64_Sum, bs]
    refine callQ.vc hN' ?_
    simp (maxSteps := 4000000) (disch := omega) only [abv, step, stepv, ev, wl, wn, wp, wz, aop, cV, cV1, AV.one, partCells, okW, onlyFr, app, sliceCells, cellsAt, srcA, subA, eqFs, Int.cast_ofNat_Int, simprocAttr]
end Go.Am

namespace Go.Am
open Go.RowKit

/-! ### Taps of passwords -/

def sb8 (x : Nat) : Int := if 127 < x % 256 then ((x % 256 : Nat) : Int) - 256 else ((x % 256 : Nat) : Int)
theorem sb8_b (x : Nat) : -128 ≤ sb8 x ∧ sb8 x ≤ 127 := by unfold sb8; split <;> omega
def ofK (d k : Nat) : List Int := (List.range 16).map fun i => if i < k then sb8 (d / 2 ^ (8 * i)) else 0
theorem ofK_len (d k : Nat) : (ofK d k).length = 16 := by simp [ofK]
theorem ofK_set {d k : Nat} (h : k < 16) : (ofK d k).set k (sb8 (d / 2 ^ (8 * k))) = ofK d (k + 1) := by
  refine List.ext_getElem (by simp [ofK_len]) fun j h1 h2 => ?_
  have hj : j < 16 := by simpa [ofK_len] using h2
  rw [List.getElem_set]
  simp only [ofK, List.getElem_map, List.getElem_range]
  split
  · rename_i e; subst e; rw [if_pos (by omega)]
  · by_cases h3 : j < k
    · rw [if_pos h3, if_pos (by omega)]
    · rw [if_neg h3, if_neg (by omega)]
theorem wrap_i8 (x : Nat) : IntKind.i8.wrap (x : Int) = sb8 x := by
  unfold sb8
  simp only [IntKind.wrap, IntKind.bits, IntKind.signed]
  simp
  split <;> split <;> omega
def S_Of16 (P : Prg) (f : Nat) : Prop := ∀ d : Nat, d < 18446744073709551616 → VC P f [.int .u64 d] (.agg (ks .i32 (ofK d 8)))
theorem seed_Of {P : Prg} {f t0 : Nat} (bd : Body P f 18 [.cell 2 t0] (ac_seed_Of t0)) (ht : aggO P t0 = some (some 16)) : S_Of16 P f := by
  intro d hd
  refine VC.of_acall rfl (by simp [isD, isDL_ks]) (ACall.of_body bd (by simp) ?_)
  unfold ac_seed_Of
  have z : ([.int .i32 0, .int .i32 0, .int .i32 0, .int .i32 0, .int .i32 0, .int .i32 0, .int .i32 0, .int .i32 0, .int .i32 0, .int .i32 0, .int .i32 0, .int .i32 0, .int .i32 0, .int .i32 0, .int .i32 0, .int .i32 0] : List AV) = ks .i32 (ofK 0 0) := rfl
  have z0 : ks .i32 (ofK 0 0) = ks .i32 (ofK d 0) := rfl
  rw [z]
  have ol := ks_one .i32 (ofK 0 0)
  have kl0 : (ks .i32 (ofK 0 0)).length = 16 := rfl
  simp (maxSteps := 4000000) (disch := omega) only [abv, step, stepv, ev, wl, wn, wp, wz, aop, cV, cV1, AV.one, partCells, okW, onlyFr, app, sliceCells, cellsAt, srcA, subA, eqFs, Int.cast_ofNat_Int, simprocAttr, ol, kl0]
  refine ALoop.by (ι := Nat) (fun i => ⟨[(5, .int .i64 i), (0, .int .u64 d), (3, .ref 1 1 0), (2, .ref 0 1 0)], [⟨t0, 16, 1, ks .i32 (ofK 0 0), 0⟩, ⟨t0, 16, 1, ks .i32 (ofK d i), 0⟩]⟩) (fun i => i ≤ 8) (fun i => 8 - i) 0 (Le.slots (by simp [Am.look])) (by omega) ?_
  intro i hi
  have kl : (ks .i32 (ofK d i)).length = 16 := by rw [ks_length, ofK_len]
  by_cases hlt : i < 8
  · have a1 : shiftA false .u64 (d : Int) (8 * (i : Int)) = some (.int .u64 ((d / 2 ^ (8 * i) : Nat) : Int)) := by
      have := shrK (K := .u64) (n := d) (k := 8 * i) (by show 8 * i ≤ 64; omega)
      simpa using this
    have a2 := wrap_i8 (d / 2 ^ (8 * i))
    have a3 := sb8_b (d / 2 ^ (8 * i))
    have e3 : (ks .i32 (ofK d i)).take i ++ [.int .i32 (sb8 (d / 2 ^ (8 * i)))] ++ (ks .i32 (ofK d i)).drop (i + 1) = ks .i32 (ofK d (i + 1)) := by
      rw [← ofK_set (by omega), List.set_eq_take_append_cons_drop, if_pos (by rw [ofK_len]; omega)]; simp [ks, List.map_take, List.map_drop]
    generalize d / 2 ^ (8 * i) = q at *
    generalize sb8 q = y at *
    simp (maxSteps := 4000000) (disch := omega) only [abv, step, stepv, ev, wl, wn, wp, wz, aop, cV, cV1, AV.one, partCells, okW, onlyFr, app, sliceCells, cellsAt, srcA, subA, eqFs, Int.cast_ofNat_Int, simprocAttr, a1, a2, kl, e3]
    exact ⟨i + 1, by omega, by omega, Le.slots (by simp [Am.look])⟩
  · obtain rfl : i = 8 := by omega
    have o8 := ks_one .i32 (ofK d 8)
    have t8 : (ks .i32 (ofK d 8)).take 16 = ks .i32 (ofK d 8) := List.take_of_length_le (by omega)
    simp (maxSteps := 4000000) (disch := omega) only [abv, step, stepv, ev, wl, wn, wp, wz, aop, cV, cV1, AV.one, partCells, okW, onlyFr, app, sliceCells, cellsAt, srcA, subA, eqFs, Int.cast_ofNat_Int, simprocAttr, kl, kl0, t8, o8, resA, ht]
    try simp [kl]

theorem isTLu8 : ∀ p : List UInt8, isTL (u8 p) = true
  | [] => rfl
  | b :: p => by have := isTLu8 p; simp only [u8, List.map_cons, isTL, isT, Bool.true_and] at this ⊢; exact this
def zer16 : List Int := List.replicate 16 0
def tapsA (p : List UInt8) : AV := if 64 < p.length then .tup [.agg (ks .i32 zer16), .int .i64 2] else .tup [.agg (ks .i32 (ofK (sixL 0 p) 8)), .int .i64 0]
theorem isD_taps (p : List UInt8) : isD (tapsA p) = true := by unfold tapsA; split <;> simp [isD, isDL, isDL_ks]
def S_Taps (P : Prg) (f : Nat) : Prop := ∀ p : List UInt8, VC P f [.str p] (tapsA p)
theorem seed_Taps {P : Prg} {f fS fO t0 : Nat} (bd : Body P f 22 [.cell 2 t0, .tmp 3] (ac_seed_Taps fS fO t0)) (hS : S_Sum6 P fS) (hO : S_Of16 P fO) (ht : aggO P t0 = some (some 16)) : S_Taps P f := by
  intro p
  refine VC.of_acall rfl (isD_taps p) (ACall.of_body bd (by simp) ?_)
  unfold ac_seed_Taps
  have z : ([.int .i32 0, .int .i32 0, .int .i32 0, .int .i32 0, .int .i32 0, .int .i32 0, .int .i32 0, .int .i32 0, .int .i32 0, .int .i32 0, .int .i32 0, .int .i32 0, .int .i32 0, .int .i32 0, .int .i32 0, .int .i32 0] : List AV) = ks .i32 zer16 := rfl
  rw [z]
  have ol := ks_one .i32 zer16
  have kl0 : (ks .i32 zer16).length = 16 := rfl
  have t0' : (ks .i32 zer16).take 16 = ks .i32 zer16 := rfl
  by_cases hp : 64 < p.length
  · have e9 : tapsA p = .tup [.agg (ks .i32 zer16), .int .i64 2] := by rw [tapsA, if_pos hp]
    simp (maxSteps := 4000000) (disch := omega) only [abv, step, stepv, ev, wl, wn, wp, wz, aop, cV, cV1, AV.one, partCells, okW, onlyFr, app, sliceCells, cellsAt, srcA, subA, eqFs, Int.cast_ofNat_Int, simprocAttr, ol, kl0, resA, ht, t0', e9]
    rfl
  · have e9 : tapsA p = .tup [.agg (ks .i32 (ofK (sixL 0 p) 8)), .int .i64 0] := by rw [tapsA, if_neg hp]
    have hS' := hS p
    rw [if_neg (by omega)] at hS'
    have hO' := hO (sixL 0 p) (sixL_lt (by decide))
    have o8 := ks_one .i32 (ofK (sixL 0 p) 8)
    have kl : (ks .i32 (ofK (sixL 0 p) 8)).length = 16 := by rw [ks_length, ofK_len]
    have t8 : (ks .i32 (ofK (sixL 0 p) 8)).take 16 = ks .i32 (ofK (sixL 0 p) 8) := List.take_of_length_le (by omega)
    have tp := isTLu8 p
    rw [bs] at hS'
    simp (maxSteps := 4000000) (disch := omega) only [abv, step, stepv, ev, wl, wn, wp, wz, aop, cV, cV1, AV.one, partCells, okW, onlyFr, app, sliceCells, cellsAt, srcA, subA, eqFs, Int.cast_ofNat_Int, simprocAttr, ol, kl0]
    refine callQ.flat 1 hS' rfl (by simp [frzN, frzK, frzL, frzV, frzL_T _ tp]) ?_
    simp (maxSteps := 4000000) (disch := omega) only [abv, step, stepv, ev, wl, wn, wp, wz, aop, cV, cV1, AV.one, partCells, okW, onlyFr, app, sliceCells, cellsAt, srcA, subA, eqFs, Int.cast_ofNat_Int, simprocAttr]
    refine callQ.vc hO' ?_
    have zl : zer16.length = 16 := rfl
    have zd : (ks .i32 zer16).drop 16 = [] := rfl
    simp (maxSteps := 4000000) (disch := omega) only [abv, step, stepv, ev, wl, wn, wp, wz, aop, cV, cV1, AV.one, partCells, okW, onlyFr, app, sliceCells, cellsAt, srcA, subA, eqFs, Int.cast_ofNat_Int, simprocAttr, o8, kl, t8, resA, ht, e9, zl, zd, List.append_nil]
    try simp [kl]
end Go.Am

namespace Go.Am
open Go.RowKit

/-! ### clip.Frames -/

theorem lens_ge {L n j : Nat} (hn : 1 ≤ n) (hL : 1 ≤ L) (hj : j < (lensL L n).length) : 1 ≤ (lensL L n).getD j 0 := by
  rw [List.getD_eq_getElem?_getD, List.getElem?_eq_getElem hj, Option.getD_some]
  have hm := List.getElem_mem hj
  unfold lensL at hm
  simp only [List.mem_append, List.mem_replicate, List.mem_singleton] at hm
  unfold lensL
  rcases hm with hm | hm
  · rw [hm.2]; omega
  · rw [hm]
    have g0 : (n - 1) / L * L ≤ n - 1 := Nat.div_mul_le_self _ _
    clear hm
    generalize (n - 1) / L * L = w at *
    omega
theorem ask_sub {c x : Int} {l p : List Int} (h : askN c x l = 0) (hs : ∀ v ∈ p, v ∈ l) (hp : 1 ≤ p.length) (hl : p.length ≤ l.length) (hc : (p.length : Int) % c = 0) : askN c x p = 0 := by
  unfold askN at h ⊢
  split at h
  · cases h
  rename_i h1
  split at h
  · rename_i h2; exact absurd h h2
  rename_i h2
  have h2' : checkN x l = 0 := by simpa using h2
  have h3 : checkN x p = 0 := by
    unfold checkN at h2' ⊢
    split at h2'
    · cases h2'
    rename_i a1
    split at h2'
    · cases h2'
    rename_i a2
    split at h2'
    · rename_i a3
      rw [if_neg a1, if_neg (by omega), if_pos (List.all_eq_true.2 fun v hv => List.all_eq_true.1 a3 v (hs v hv))]
    · cases h2'
  rw [if_neg h1, if_neg (by rw [h3]; simp), if_neg (by omega)]
theorem parts_len {c x r : Int} {l : List Int} (h : clipN c x r l = 0) : ∀ p ∈ partsOf c r l, askN c x p = 0 ∧ p.length ≤ 4000 ∧ 1 ≤ p.length := by
  have ha : askN c x l = 0 := by
    have h2 := clip_ask (c := c) (x := x) (r := r) (l := l)
    rw [h] at h2
    by_cases h3 : askN c x l = 0 ∧ headN c x r (l.length / c) = 0
    · exact h3.1
    · rw [if_neg h3] at h2; cases h2
  obtain ⟨k, n, rfl, k1, k2, hlen, ⟨o1, o2, o3, o4, o5⟩, h4⟩ := clipN_ok h
  intro p hp
  unfold partsOf at hp
  rw [Int.toNat_natCast, hlen, Nat.mul_div_cancel _ (by omega)] at hp
  obtain ⟨j, hj, rfl⟩ := List.mem_map.1 hp
  rw [List.mem_range] at hj
  have hL1 : 1 ≤ (longN r).toNat := by have := longN_pos r; omega
  obtain ⟨m, p1, p2, p3, p4, p5, p6, p7⟩ := part_facts (j := j) hlen (by omega) hL1 hj
  have hm1 := lens_ge (n := n) (by omega) hL1 hj
  rw [p1] at hm1
  have hlen2 : (partL ((longN r).toNat * k) l j).length = m * k := by
    rw [p6, List.length_take, List.length_drop, hlen]
    omega
  have hmk : 1 ≤ m * k := Nat.mul_pos (by omega) k1
  have hmn : m * k ≤ n * k := Nat.mul_le_mul_right _ p2
  refine ⟨ask_sub ha (fun v hv => ?_) (by rw [hlen2]; exact hmk) (by rw [hlen2, hlen]; exact hmn) ?_, by rw [hlen2]; omega, by rw [hlen2]; exact hmk⟩
  · rw [p6] at hv
    exact List.mem_of_mem_drop (List.mem_of_mem_take hv)
  · rw [hlen2, Int.natCast_mul, Int.mul_emod_left]

def framesOf (c x r : Int) (l : List Int) (t : List Int) : List (List UInt8) := (partsOf c r l).map (encB c.toNat x t)
def framesA (c x r : Int) (l : List Int) (p : List UInt8) : AV :=
  if clipN c x r l ≠ 0 then .tup [bss [], .int .i64 8] else if 64 < p.length then .tup [bss [], .int .i64 2] else .tup [bss (framesOf c x r l (ofK (sixL 0 p) 8)), .int .i64 0]
theorem isD_framesA (c x r : Int) (l : List Int) (p : List UInt8) : isD (framesA c x r l p) = true := by unfold framesA; split <;> (try split) <;> simp [isD, isDL, isD_bss]
theorem I32_ofK (d k : Nat) : I32 (ofK d k) := fun x hx => by
  unfold ofK at hx
  obtain ⟨i, _, rfl⟩ := List.mem_map.1 hx
  split
  · have := sb8_b (d / 2 ^ (8 * i)); omega
  · omega
def S_Frames (P : Prg) (f : Nat) : Prop := ∀ (c x r : Int) (l : List Int) (p : List UInt8), I32 l → l.length ≤ 1000000 → VC P f [clA c x r l, .str p] (framesA c x r l p)

set_option maxHeartbeats 1000000 in
theorem clip_Frames {P : Prg} {f fC fT fP fS fE fA g t0 t1 t2 t3 t4 ti : Nat} (b : BodyC P f 45 [.cell 4 t1, .cell 5 t2] (ac_clip_Frames fC fT fP fS fE t0 t1 t2 t3 t4)) (hC : S_ClipCheck P fC) (hT : S_Taps P fT) (hP : S_Parts24 g P fP) (hI : S_PartsIt ti P g) (bG : Body P g 43 [] (ac_clip_parts_1 fA)) (hS : S_Shape24 P fS) (hE : S_Enc P fE)
    (ht1 : aggO P t1 = some none) (ht2 : aggO P t2 = some none) (h0 : t0 ≠ ti) (h1 : t1 ≠ ti) (h2 : t2 ≠ ti) (h3 : t3 ≠ ti) (h4 : t4 ≠ ti) : S_Frames P f := by
  intro c x r l p hI32 hl
  refine VC.of_walk 2 (by simp [isDL, isD, isD_il, clA]) (isD_framesA _ _ _ _ _) (ACall.of_rangeC b (by simp) ?_)
  have hC' := hC c x r l hI32 hl
  rw [il] at hC'
  have tl := isTL_ks .i32 l
  have z : ([.int .i32 0, .int .i32 0, .int .i32 0, .int .i32 0, .int .i32 0, .int .i32 0, .int .i32 0, .int .i32 0, .int .i32 0, .int .i32 0, .int .i32 0, .int .i32 0, .int .i32 0, .int .i32 0, .int .i32 0, .int .i32 0] : List AV) = ks .i32 zer16 := rfl
  unfold ac_clip_Frames
  rw [z]
  have ol := ks_one .i32 zer16
  have kl0 : (ks .i32 zer16).length = 16 := rfl
  rcases clipN_cases c x r l with h | h
  · rw [h] at hC'
    have hT' := hT p
    simp (maxSteps := 4000000) (disch := omega) only [abv, step, stepv, ev, wl, wn, wp, wz, aop, cV, cV1, AV.one, partCells, okW, onlyFr, app, sliceCells, cellsAt, srcA, subA, eqFs, Int.cast_ofNat_Int, simprocAttr, clA, il, wpR_cons, wpR_nil, kS_normal, kS_ret, kR_normal, kR_ret]
    refine callQ.vc hC' ?_
    simp (maxSteps := 4000000) (disch := omega) only [abv, step, stepv, ev, wl, wn, wp, wz, aop, cV, cV1, AV.one, partCells, okW, onlyFr, app, sliceCells, cellsAt, srcA, subA, eqFs, Int.cast_ofNat_Int, simprocAttr, kS_normal, kS_ret, wpR_cons, wpR_nil]
    refine callQ.vc hT' ?_
    by_cases hp : 64 < p.length
    · have e9 : framesA c x r l p = .tup [bss [], .int .i64 2] := by rw [framesA, if_neg (by omega), if_pos hp]
      have e8 : tapsA p = .tup [.agg (ks .i32 zer16), .int .i64 2] := by rw [tapsA, if_pos hp]
      have t0' : (ks .i32 zer16).take 16 = ks .i32 zer16 := rfl
      have zl : zer16.length = 16 := rfl
      have zd : (ks .i32 zer16).drop 16 = [] := rfl
      rw [e8]
      simp (maxSteps := 4000000) (disch := omega) only [abv, step, stepv, ev, wl, wn, wp, wz, aop, cV, cV1, AV.one, partCells, okW, onlyFr, app, sliceCells, cellsAt, srcA, subA, eqFs, Int.cast_ofNat_Int, simprocAttr, kS_normal, kS_ret, wpR_cons, wpR_nil, ol, kl0, t0', zl, zd, List.append_nil, e9, resA, ht1, ht2]
      simp [frzN, frzK, frzL, frzV, isDL, isD, bss]
    · have e9 : framesA c x r l p = .tup [bss (framesOf c x r l (ofK (sixL 0 p) 8)), .int .i64 0] := by rw [framesA, if_neg (by omega), if_neg hp]
      have e8 : tapsA p = .tup [.agg (ks .i32 (ofK (sixL 0 p) 8)), .int .i64 0] := by rw [tapsA, if_neg hp]
      obtain ⟨T, hTe⟩ : ∃ T, ofK (sixL 0 p) 8 = T := ⟨_, rfl⟩
      have hTl : T.length = 16 := by rw [← hTe, ofK_len]
      have hTI : I32 T := by rw [← hTe]; exact I32_ofK _ _
      have oT := ks_one .i32 T
      have kT : (ks .i32 T).length = 16 := by rw [ks_length, hTl]
      have tT : (ks .i32 T).take 16 = ks .i32 T := List.take_of_length_le (by omega)
      have zl : zer16.length = 16 := rfl
      have zd : (ks .i32 zer16).drop 16 = [] := rfl
      rw [hTe] at e8 e9
      have hparts := parts_len h
      obtain ⟨k, n, rfl, k1, k2, hlen, hok, h4'⟩ := clipN_ok h
      have hP' := hP k x r l
      have hI' := hI k n x r l k1 k2 hlen hok
      rw [clA] at hP'
      rw [il] at hP' hI'
      have hS' := hS k x r l
      rw [shA, il] at hS'
      rw [e8]
      simp (maxSteps := 4000000) (disch := omega) only [abv, step, stepv, ev, wl, wn, wp, wz, aop, cV, cV1, AV.one, partCells, okW, onlyFr, app, sliceCells, cellsAt, srcA, subA, eqFs, Int.cast_ofNat_Int, simprocAttr, kS_normal, kS_ret, wpR_cons, wpR_nil, ol, kl0, oT, kT, zl, zd, List.append_nil]
      refine callQ.vc hP' ?_
      simp (maxSteps := 4000000) (disch := omega) only [abv, step, stepv, ev, wl, wn, wp, wz, aop, cV, cV1, AV.one, partCells, okW, onlyFr, app, sliceCells, cellsAt, srcA, subA, eqFs, Int.cast_ofNat_Int, simprocAttr, kR_normal]
      obtain ⟨Lc, hLc⟩ : ∃ Lc, (longN r).toNat * k = Lc := ⟨_, rfl⟩
      rw [hLc] at hI'
      have hcnt : (lensL (longN r).toNat n).length ≤ 1000 := by have := hok.2.2.2.2; rwa [Int.toNat_natCast] at this
      obtain ⟨cnt, hcn⟩ : ∃ cnt, (lensL (longN r).toNat n).length = cnt := ⟨_, rfl⟩
      have hpo : partsOf k r l = (List.finRange cnt).map (fun j => partL Lc l j.1) := by
        unfold partsOf
        rw [Int.toNat_natCast, hlen, Nat.mul_div_cancel _ (by omega), hcn, hLc]
        apply List.ext_getElem <;> simp
      rw [hcn] at hI' hcnt
      refine ⟨cnt, g, _, [ti], _, [(27, .fn (.func g) [] [.cell [.int .i64 k, .int .i64 x, .int .i64 r, .list l.length (ks .i32 l)]]), (2, .ref 0 1 0), (4, .ref 1 1 0), (5, .ref 2 1 0), (7, .ref 3 1 0), (9, .ref 4 1 0)],
        fun pre => [⟨t0, 4, 1, [.int .i64 k, .int .i64 x, .int .i64 r, .list l.length (ks .i32 l)], 0⟩, ⟨t1, 1, 1, [.list 0 []], 0⟩, ⟨t2, 1, 1, [.int .i64 0], 0⟩, ⟨t3, 16, 1, ks .i32 T, 0⟩, ⟨t1, 1, 1, [.own 5 pre.length], 0⟩, ⟨t4, 1, pre.length, pre.map (fun j => bs (encB k x T (partL Lc l j.1))), 0⟩], ?_, rfl, bG.ent, by simp [isDL, isD, isDL_ks], hI', by omega, by omega, rfl, ?_, ?_, ?_⟩
      · refine Le.trans (Le.virtF (p := 4) (ty := t4) (sz := 1) (by omega) rfl rfl) (Le.drop 6 2 (by omega) rfl (by simp [Am.look, frzK, frzL, frzV, frzL_T _ tl]) ?_)
        intro i z hz
        match i, hz with
        | 0, hz => cases hz; exact ⟨_, rfl, by simp [frzK, frzL, frzV, frzL_T _ tl]⟩
        | 1, hz => cases hz; exact ⟨_, rfl, by simp [frzK, frzL, frzV]⟩
        | 2, hz => cases hz; exact ⟨_, rfl, by simp [frzK, frzL, frzV]⟩
        | 3, hz => cases hz; exact ⟨_, rfl, by simp [frzK, frzL_T _ (isTL_ks .i32 T)]⟩
        | 4, hz => cases hz; exact ⟨_, rfl, by simp [frzK, frzL, frzV]⟩
        | 5, hz => cases hz; exact ⟨_, rfl, by simp [frzK, frzL, frzV]⟩
        | i + 6, hz => simp at hz
      · intro pre x hx
        simp only [List.mem_cons, List.not_mem_nil, or_false] at hx ⊢
        rcases hx with rfl | rfl | rfl | rfl | rfl | rfl
        · exact h0
        · exact h1
        · exact h2
        · exact h3
        · exact h1
        · exact h4
      · intro pre y hpl
        have hmem : partL Lc l y.1 ∈ partsOf k r l := by rw [hpo]; exact List.mem_map.2 ⟨y, List.mem_finRange _, rfl⟩
        obtain ⟨q1, q2, q3⟩ := hparts _ hmem
        have hqI : I32 (partL Lc l y.1) := fun v hv => hI32 v (by
          unfold partL at hv
          exact List.mem_of_mem_drop (List.mem_of_mem_take hv))
        have hE' := hE k x T (partL Lc l y.1) hTl hTI hqI
        rw [enfA, if_neg (by omega), Int.toNat_natCast] at hE'
        obtain ⟨w1, w2⟩ := enc_le (t := T) hqI q1
        rw [Int.toNat_natCast] at w1 w2
        have hpm : (pre.map (fun j => bs (encB k x T (partL Lc l j.1)))).length = pre.length := by simp
        obtain ⟨Y, hYe⟩ : ∃ Y, encB k x T (partL Lc l y.1) = Y := ⟨_, rfl⟩
        rw [hYe] at hE' w1 w2
        obtain ⟨Z, hZ⟩ : ∃ Z, partL Lc l y.1 = Z := ⟨_, rfl⟩
        rw [hZ] at hE' hqI q1 q2 q3 hYe ⊢
        rw [shA, il, bs] at hE'
        have tZ := isTL_ks .i32 Z
        have tT2 := isTL_ks .i32 T
        rw [il]
        simp (maxSteps := 4000000) (disch := omega) only [abv, step, stepv, ev, wl, wn, wp, wz, aop, cV, cV1, AV.one, partCells, okW, onlyFr, app, sliceCells, cellsAt, srcA, subA, eqFs, Int.cast_ofNat_Int, simprocAttr, tT, kT]
        refine callD.vc hS' ?_
        simp (maxSteps := 4000000) (disch := omega) only [abv, step, stepv, ev, wl, wn, wp, wz, aop, cV, cV1, AV.one, partCells, okW, onlyFr, app, sliceCells, cellsAt, srcA, subA, eqFs, Int.cast_ofNat_Int, simprocAttr, tT, kT]
        refine callD.vc hE' ?_
        simp (maxSteps := 4000000) (disch := omega) only [abv, step, stepv, ev, wl, wn, wp, wz, aop, cV, cV1, AV.one, partCells, okW, onlyFr, app, sliceCells, cellsAt, srcA, subA, eqFs, Int.cast_ofNat_Int, simprocAttr, hpm]
        refine Le.drop 6 2 (by omega) rfl (by simp) ?_
        intro i z hz
        match i, hz with
        | 0, hz => cases hz; exact ⟨_, rfl, by simp [frzK, frzL, frzV, frzL_T _ tl]⟩
        | 1, hz => cases hz; exact ⟨_, rfl, by simp [frzK, frzL, frzV]⟩
        | 2, hz => cases hz; exact ⟨_, rfl, by simp [frzK, frzL, frzV]⟩
        | 3, hz => cases hz; exact ⟨_, rfl, by simp [frzK, frzL_T _ tT2]⟩
        | 4, hz => cases hz; exact ⟨_, rfl, by simp [frzK, frzL, frzV]⟩
        | 5, hz =>
          cases hz
          have e : (pre ++ [y]).map (fun j => bs (encB k x T (partL Lc l j.1))) = pre.map (fun j => bs (encB k x T (partL Lc l j.1))) ++ [.list Y.length (u8 Y)] := by
            simp only [List.map_append, List.map_cons, List.map_nil, hZ, hYe]
            rfl
          rw [e]
          refine ⟨_, rfl, frzL_T _ ?_⟩
          rw [← e]
          have := isTL_bss ((pre ++ [y]).map (fun j => encB k x T (partL Lc l j.1)))
          rwa [List.map_map] at this
        | i + 6, hz => simp at hz
      · have hfl : (List.finRange cnt).length = cnt := by simp
        have hpi : (List.finRange cnt).map (fun j => bs (encB k x T (partL Lc l j.1))) = (framesOf k x r l T).map bs := by
          unfold framesOf
          rw [hpo, List.map_map, List.map_map, Int.toNat_natCast]
          rfl
        dsimp only
        rw [hpi, hfl, e9]
        have hpl : (framesOf k x r l T).length = cnt := by unfold framesOf; rw [hpo]; simp
        have tp := isTL_bss (framesOf k x r l T)
        generalize hPP : (framesOf k x r l T).map bs = PP at *
        simp (maxSteps := 4000000) (disch := omega) only [abv, step, stepv, ev, wl, wn, wp, wz, aop, cV, cV1, AV.one, partCells, okW, onlyFr, app, sliceCells, cellsAt, srcA, subA, eqFs, Int.cast_ofNat_Int, simprocAttr, resA, ht1, ht2]
        simp [frzN, frzK, frzL, frzV, isDL, isD, bss, hpl, hPP, frzL_T _ tp]
  · rw [h] at hC'
    have e9 : framesA c x r l p = .tup [bss [], .int .i64 8] := by rw [framesA, if_pos (by omega)]
    simp (maxSteps := 4000000) (disch := omega) only [abv, step, stepv, ev, wl, wn, wp, wz, aop, cV, cV1, AV.one, partCells, okW, onlyFr, app, sliceCells, cellsAt, srcA, subA, eqFs, Int.cast_ofNat_Int, simprocAttr, clA, il, wpR_cons, wpR_nil, kS_normal, kS_ret, kR_normal, kR_ret]
    refine callQ.vc hC' ?_
    simp (maxSteps := 4000000) (disch := omega) only [abv, step, stepv, ev, wl, wn, wp, wz, aop, cV, cV1, AV.one, partCells, okW, onlyFr, app, sliceCells, cellsAt, srcA, subA, eqFs, Int.cast_ofNat_Int, simprocAttr, kS_normal, kS_ret, wpR_cons, wpR_nil, e9, resA, ht1, ht2]
    simp [frzN, frzK, frzL, frzV, isDL, isD, bss]
end Go.Am

namespace Go.Am
open Go.RowKit

/-! ### The reference's Frames; the law ClipFrames -/

theorem bss_at {L : List (List UInt8)} {k : Nat} (h : k < L.length) : (L.map bs).drop k = bs (L.getD k []) :: (L.map bs).drop (k + 1) := by
  rw [List.drop_eq_getElem_cons (by simpa using h)]
  simp [List.getD_eq_getElem?_getD, List.getElem?_eq_getElem h]

def S_FEq (P : Prg) (f : Nat) : Prop := ∀ a b : List (List UInt8), a.length ≤ 1000000 → b.length ≤ 1000000 → VC P f [bss a, bss b] (.bool (decide (a = b)))
theorem frames_ext {a b : List (List UInt8)} (h : a.length = b.length) (h2 : ∀ j, j < b.length → a.getD j [] = b.getD j []) : a = b := by
  apply List.ext_getElem h
  intro i h1 h3
  have := h2 i h3
  simpa [List.getD_eq_getElem?_getD, List.getElem?_eq_getElem h1, List.getElem?_eq_getElem h3] using this
theorem ref24_SameFrames {P : Prg} {f : Nat} (bd : Body P f 28 [.tmp 4] ac_cadenzaref24_SameFrames) : S_FEq P f := by
  intro a b ha hb
  refine VC.of_acall (by simp [isDL, isD, isD_bss]) rfl (ACall.of_body bd (by simp) ?_)
  have la' : (a.map bs).length = a.length := by simp
  have lb' : (b.map bs).length = b.length := by simp
  by_cases hn : a.length = b.length
  · simp (maxSteps := 4000000) (disch := omega) only [abv, step, stepv, ev, wl, wn, wp, wz, aop, cV, cV1, AV.one, partCells, okW, onlyFr, app, sliceCells, cellsAt, srcA, subA, eqFs, Int.cast_ofNat_Int, simprocAttr, ac_cadenzaref24_SameFrames, bss, hn]
    refine ALoop.by (ι := Nat) (fun k => ⟨[(5, .int .i64 k), (1, .list b.length (b.map bs)), (0, .list b.length (a.map bs))], []⟩) (fun k => k ≤ b.length ∧ ∀ j, j < k → a.getD j [] = b.getD j []) (fun k => b.length - k) 0 (Le.slots (by simp [Am.look])) ⟨by omega, by simp⟩ ?_
    intro k ⟨hk, hg⟩
    by_cases hlt : k < b.length
    · have e1 := bss_at (L := a) (k := k) (by omega)
      have e2 := bss_at (L := b) (k := k) hlt
      have d1 := decU8_u8 (a.getD k [])
      have d2 := decU8_u8 (b.getD k [])
      simp only [bs] at e1 e2
      by_cases he : a.getD k [] = b.getD k []
      · rw [he] at e1 d1
        have s1 : strA .neq (b.getD k []) (b.getD k []) = some (.bool false) := by simp [strA]
        simp (maxSteps := 4000000) (disch := omega) only [abv, step, stepv, ev, wl, wn, wp, wz, aop, cV, cV1, AV.one, partCells, okW, onlyFr, app, sliceCells, cellsAt, srcA, subA, eqFs, Int.cast_ofNat_Int, simprocAttr, e1, e2, la', lb', hn, d1, d2, s1]
        exact ⟨k + 1, ⟨by omega, fun j hj => by
          by_cases e : j = k
          · rw [e]; exact he
          · exact hg j (by omega)⟩, by omega, Le.slots (by simp [Am.look])⟩
      · have s1 : strA .neq (a.getD k []) (b.getD k []) = some (.bool true) := by
          show some (AV.bool (!(a.getD k [] == b.getD k []))) = _
          rw [beq_false_of_ne he]; rfl
        have e9 : decide (a = b) = false := decide_eq_false (fun h => he (by rw [h]))
        simp (maxSteps := 4000000) (disch := omega) only [abv, step, stepv, ev, wl, wn, wp, wz, aop, cV, cV1, AV.one, partCells, okW, onlyFr, app, sliceCells, cellsAt, srcA, subA, eqFs, Int.cast_ofNat_Int, simprocAttr, e1, e2, la', lb', hn, d1, d2, s1, e9]
    · obtain rfl : k = b.length := by omega
      have e9 : decide (a = b) = true := decide_eq_true (frames_ext hn hg)
      simp (maxSteps := 4000000) (disch := omega) only [abv, step, stepv, ev, wl, wn, wp, wz, aop, cV, cV1, AV.one, partCells, okW, onlyFr, app, sliceCells, cellsAt, srcA, subA, eqFs, Int.cast_ofNat_Int, simprocAttr, e9]
  · have e9 : decide (a = b) = false := decide_eq_false (fun h => hn (by rw [h]))
    simp (maxSteps := 4000000) (disch := omega) only [abv, step, stepv, ev, wl, wn, wp, wz, aop, cV, cV1, AV.one, partCells, okW, onlyFr, app, sliceCells, cellsAt, srcA, subA, eqFs, Int.cast_ofNat_Int, simprocAttr, ac_cadenzaref24_SameFrames, bss, e9]

end Go.Am

namespace Go.Am
open Go.RowKit

/-! ### clip.Of -/

theorem RepL.split {X : Cx} : ∀ {cs bs : List AV} {vs : List Value}, RepL X (cs ++ bs) vs → ∃ us ws, vs = us ++ ws ∧ RepL X cs us ∧ RepL X bs ws
  | [], bs, vs, h => ⟨[], vs, rfl, by simp [RepL], h⟩
  | a :: cs, bs, vs, h => by
    simp only [List.cons_append, RepL] at h
    obtain ⟨v, rest, rfl, h1, h2⟩ := h
    obtain ⟨us, ws, rfl, h3, h4⟩ := RepL.split h2
    exact ⟨v :: us, ws, rfl, by simp only [RepL]; exact ⟨v, us, rfl, h1, h3⟩, h4⟩
end Go.Am

namespace Go.Am
open Go.RowKit

/-! ### A call with a row of one's own among its arguments, in a region of open order -/

def ph3 : Ob := ⟨1, 1, 0, [], 0⟩
theorem Held.fill {B : Nat} {w : World} {ob : List Ob} {be : List (Option (Nat × Nat))} {C : Nat → Nat → Prop} {o : Nat} (g : Held B ⟨w, ob, be, C⟩) (ho : ob[o]? = some ph2) :
    Held B ⟨w, ob.set o ph3, be.set o none, C⟩ ∧ Moves ⟨w, ob, be, C⟩ ⟨w, ob.set o ph3, be.set o none, C⟩ := by
  have hol : o < ob.length := (List.getElem?_eq_some_iff.1 ho).1
  have hlen : be.length = ob.length := g.len
  have hav : ∀ b k, (Cx.mk w (ob.set o ph3) (be.set o none) C).av b k → (Cx.mk w ob be C).av b k := by
    rintro b k (h | ⟨o', x, c, h1, h2, h3⟩)
    · exact .inl h
    · simp only [List.getElem?_set] at h1 h2
      by_cases e : o = o'
      · subst e; simp [hlen, hol] at h2
      · simp [e] at h1 h2
        exact .inr ⟨o', x, c, h1, h2, h3⟩
  have m : Moves ⟨w, ob, be, C⟩ ⟨w, ob.set o ph3, be.set o none, C⟩ := by
    refine ⟨fun b k v hc ha => ⟨hc, fun h => ha (hav b k h)⟩, fun o' x hx => ?_, fun b hb hf => ⟨rfl, fun o' c h => ?_⟩⟩
    · by_cases e : o = o'
      · subst e
        have hx' : ob[o]? = some x := hx
        rw [ho] at hx'; cases hx'
        exact ⟨ph3, by simp [hol], Nat.le_refl _, fun h => absurd rfl h⟩
      · exact ⟨x, by simp only [List.getElem?_set, e, if_false]; exact hx, Nat.le_refl _, fun h => ⟨h, fun _ => by simp only [List.getElem?_set, e, if_false]⟩⟩
    · simp only [List.getElem?_set] at h
      by_cases e : o = o'
      · subst e; simp [hlen, hol] at h
      · simp [e] at h; exact hf o' c h
  refine ⟨⟨by simp [hlen], fun o' x e' hx he => ?_, fun o1 o2 b c c' q1 q2 => ?_, fun o1 b c q => ?_, g.bnd, g.size⟩, m⟩
  · simp only [List.getElem?_set] at hx he
    by_cases e : o = o'
    · subst e
      simp [hlen, hol] at hx he
      subst hx; subst he
      exact ⟨rfl, rfl⟩
    · simp [e] at hx he
      exact (g.ok o' x e' hx he).move m fun _ _ _ => rfl
  · simp only [List.getElem?_set] at q1 q2
    by_cases e : o = o1
    · subst e; simp [hlen, hol] at q1
    · by_cases e2 : o = o2
      · subst e2; simp [hlen, hol] at q2
      · simp [e] at q1; simp [e2] at q2
        exact g.inj o1 o2 b c c' q1 q2
  · simp only [List.getElem?_set] at q
    by_cases e : o = o1
    · subst e; simp [hlen, hol] at q
    · simp [e] at q; exact g.base o1 b c q
theorem ACall.fill {P : Prg} {f : FuncId} {avs : List AV} {r : AV} {ob : List Ob} {o : Nat} (ho : ob[o]? = some ph2) (h : ACall P f avs ob (fun r' ob' => r' = r ∧ ob' = ob)) : ACall P f avs ob (fun r' ob' => r' = r ∧ ob' = ob.set o ph3) := by
  obtain ⟨hE, h⟩ := h
  refine ⟨hE, fun B w be C vs g hG hr => (h B w be C vs g hG hr).mono ?_⟩
  rintro e w' ⟨v, r', ob', be', rfl, hb, hh, hm, hv, rfl, rfl⟩
  obtain ⟨g1, m1⟩ := hh.fill ho
  exact ⟨v, r', _, _, rfl, hb, g1, hm.trans m1, Rep.move m1 _ _ hv, rfl, rfl⟩
theorem callD.own {P : Prg} {B : Nat} {Q : Exit → St → Prop} {f : FuncId} {avs : List AV} {r : AV} {ob : List Ob} (o : Nat) (he : Enters P f) (h : ∀ ob', ob'[o]? = some ph2 → ACall P f avs ob' (fun r' ob'' => r' = r ∧ ob'' = ob')) (ho : ob[o]? = some ph2)
    {xs : List It} {fr : List (Nat × AV)} {dst : Option Nat} (hK : wpDQ P B xs Q ⟨putA fr dst r, ob.set o ph3⟩) : callD P B false f avs xs Q fr ob dst := by
  refine callD.at (r := r) o ph3 he (fun ob' h' => ACall.fill h' (h ob' h')) ho (by decide) ?_
  simp only [app, if_pos (List.getElem?_eq_some_iff.1 ho).1]
  exact hK
end Go.Am

namespace Go.Am
open Go.RowKit

/-! ### law24: example, alive -/

def S_Ex24 (P : Prg) (f : Nat) : Prop := VC P f [] (clA 1 8 2 [1, 2, 3])
theorem law24_example {P : Prg} {f t0 t1 : Nat} (bd : Body P f 3 [.cell 0 t0] (ac_cadenzalaw24_example t0 t1)) (ht : aggO P t0 = some (some 4)) : S_Ex24 P f := by
  refine VC.of_walk 1 rfl (by simp [clA, isD, isDL, isD_il]) (ACall.of_body bd (by simp) ?_)
  simp (maxSteps := 4000000) (disch := omega) only [abv, step, stepv, ev, wl, wn, wp, wz, aop, cV, cV1, AV.one, partCells, okW, onlyFr, app, sliceCells, cellsAt, srcA, subA, eqFs, Int.cast_ofNat_Int, simprocAttr, ac_cadenzalaw24_example, resA, ht, oneOf]
  simp [frzN, frzK, frzL, frzV, isDL, isD, clA, il, ks]

def S_Alive (P : Prg) (f : Nat) : Prop := VC P f [] (.bool true)
theorem clip_ex : clipN 1 8 2 [1, 2, 3] = 0 := by decide +kernel
theorem parts_ex : partsOf 1 2 [1, 2, 3] = [[1, 2], [3]] := by decide +kernel
theorem taps_nil : ofK (sixL 0 []) 8 = zer16 := by decide +kernel
def frE : List UInt8 := encB 1 8 zer16 [1, 2]
def frE2 : List UInt8 := encB 1 8 zer16 [3]
theorem split_ex : splitA 1 8 2 [1, 2, 3] = .tup [iss [[1, 2], [3]], .int .i64 0] := by rw [splitA, if_pos clip_ex, parts_ex]
theorem frames_ex : framesA 1 8 2 [1, 2, 3] [] = .tup [bss [frE, frE2], .int .i64 0] := by
  rw [framesA, if_neg (by rw [clip_ex]; simp), if_neg (by simp), framesOf, parts_ex, taps_nil]
  rfl
theorem I32_zer : I32 zer16 := fun v hv => by simp [zer16] at hv; omega
theorem enc_ex : enfA 1 8 zer16 [1, 2] = .tup [bs frE, .int .i64 0] := by
  have h1 : askN 1 8 [1, 2] = 0 := by decide +kernel
  rw [enfA, if_neg (by omega)]
  rfl
theorem frE_len : 5 ≤ frE.length ∧ frE.length ≤ 40504 := by
  have h := enc_le (c := 1) (x := 8) (t := zer16) (l := [1, 2]) (by intro v hv; simp at hv; omega) (by decide +kernel)
  exact ⟨h.2, h.1⟩

set_option maxHeartbeats 1000000 in
theorem law24_alive {P : Prg} {f fX fS fF fE fP t0 t1 : Nat} (bd : Body P f 60 [.tmp 0] (ac_cadenzalaw24_alive fX fS fF fE fP t0 t1)) (hX : S_Ex24 P fX) (hS : S_Split P fS) (hF : S_Frames P fF) (hE : S_Enc P fE) (hP : S_PEq P fP) : S_Alive P f := by
  refine VC.of_acall rfl rfl (ACall.of_body bd (by simp) ?_)
  have i3 : I32 [1, 2, 3] := by intro v hv; simp at hv; omega
  have i2 : I32 [1, 2] := by intro v hv; simp at hv; omega
  have hX' : VC P fX [] (.agg [.int .i64 1, .int .i64 8, .int .i64 2, .list 3 [.int .i32 1, .int .i32 2, .int .i32 3]]) := hX
  have hS' := hS 1 8 2 [1, 2, 3] i3 (by simp)
  have hF' := hF 1 8 2 [1, 2, 3] [] i3 (by simp)
  have hE' := hE 1 8 zer16 [1, 2] rfl I32_zer i2
  have hP' := hP [[1, 2], [3]] [[1, 2], [3]] (okPts_of (by simp) (by simp)) (okPts_of (by simp) (by simp))
  rw [split_ex] at hS'
  rw [frames_ex] at hF'
  rw [enc_ex] at hE'
  simp only [eq_self, decide_true] at hP'
  obtain ⟨l1, l2⟩ := frE_len
  have hd := decU8_u8 frE
  have hs1 : strA .eql frE frE = some (.bool true) := by simp [strA]
  generalize frE = F at *
  generalize frE2 = G at *
  have hS2 : VC P fS [.agg [.int .i64 1, .int .i64 8, .int .i64 2, .list 3 [.int .i32 1, .int .i32 2, .int .i32 3]]] (.tup [.list 2 [.list 2 [.int .i32 1, .int .i32 2], .list 1 [.int .i32 3]], .int .i64 0]) := hS'
  have hF2 : VC P fF [.agg [.int .i64 1, .int .i64 8, .int .i64 2, .list 3 [.int .i32 1, .int .i32 2, .int .i32 3]], .str []] (.tup [.list 2 [.list F.length (u8 F), .list G.length (u8 G)], .int .i64 0]) := hF'
  have hE2 : VC P fE [.agg [.int .i64 1, .int .i64 8], .agg [.int .i32 0, .int .i32 0, .int .i32 0, .int .i32 0, .int .i32 0, .int .i32 0, .int .i32 0, .int .i32 0, .int .i32 0, .int .i32 0, .int .i32 0, .int .i32 0, .int .i32 0, .int .i32 0, .int .i32 0, .int .i32 0], .list 2 [.int .i32 1, .int .i32 2]] (.tup [.list F.length (u8 F), .int .i64 0]) := hE'
  have hP2 : VC P fP [.list 2 [.list 2 [.int .i32 1, .int .i32 2], .list 1 [.int .i32 3]], .list 2 [.list 2 [.int .i32 1, .int .i32 2], .list 1 [.int .i32 3]]] (.bool true) := hP'
  clear hX hS hF hE hP hS' hF' hE' hP'
  simp (maxSteps := 4000000) (disch := omega) only [abv, step, stepv, ev, wl, wn, wp, wz, aop, cV, cV1, AV.one, partCells, okW, onlyFr, app, sliceCells, cellsAt, srcA, subA, eqFs, Int.cast_ofNat_Int, simprocAttr, ac_cadenzalaw24_alive]
  refine callQ.vc hX' ?_
  simp (maxSteps := 4000000) (disch := omega) only [abv, step, stepv, ev, wl, wn, wp, wz, aop, cV, cV1, AV.one, partCells, okW, onlyFr, app, sliceCells, cellsAt, srcA, subA, eqFs, Int.cast_ofNat_Int, simprocAttr]
  refine callQ.vc hS2 ?_
  simp (maxSteps := 4000000) (disch := omega) only [abv, step, stepv, ev, wl, wn, wp, wz, aop, cV, cV1, AV.one, partCells, okW, onlyFr, app, sliceCells, cellsAt, srcA, subA, eqFs, Int.cast_ofNat_Int, simprocAttr]
  refine callQ.vc hX' ?_
  simp (maxSteps := 4000000) (disch := omega) only [abv, step, stepv, ev, wl, wn, wp, wz, aop, cV, cV1, AV.one, partCells, okW, onlyFr, app, sliceCells, cellsAt, srcA, subA, eqFs, Int.cast_ofNat_Int, simprocAttr]
  refine callQ.vc hF2 ?_
  simp (maxSteps := 4000000) (disch := omega) only [abv, step, stepv, ev, wl, wn, wp, wz, aop, cV, cV1, AV.one, partCells, okW, onlyFr, app, sliceCells, cellsAt, srcA, subA, eqFs, Int.cast_ofNat_Int, simprocAttr]
  refine callQ.still 1 [0] hE2 (by simp [frzN, frzK, frzL, frzV]) ?_
  simp (maxSteps := 4000000) (disch := omega) only [abv, step, stepv, ev, wl, wn, wp, wz, aop, cV, cV1, AV.one, partCells, okW, onlyFr, app, sliceCells, cellsAt, srcA, subA, eqFs, Int.cast_ofNat_Int, simprocAttr, sealw, isDL, isD, stillAt]
  refine callD.vc hP2 ?_
  simp (maxSteps := 4000000) (disch := omega) only [abv, step, stepv, ev, wl, wn, wp, wz, aop, cV, cV1, AV.one, partCells, okW, onlyFr, app, sliceCells, cellsAt, srcA, subA, eqFs, Int.cast_ofNat_Int, simprocAttr, hd, hs1]
end Go.Am

namespace Go.Am
open Go.RowKit

/-! ### Each part is a clip of its own -/

theorem frames_ok {c x r : Int} {l : List Int} {p : List UInt8} (h : clipN c x r l = 0) (hp : ¬ 64 < p.length) : framesA c x r l p = .tup [bss (framesOf c x r l (ofK (sixL 0 p) 8)), .int .i64 0] := by rw [framesA, if_neg (by omega), if_neg hp]
theorem framesOf_len (c x r : Int) (l T : List Int) : (framesOf c x r l T).length = (partsOf c r l).length := by unfold framesOf; simp
end Go.Am

namespace Go.Am
open Go.RowKit

/-! ### The laws ClipAnew, ClipPasswords -/

theorem callE.vo {P : Prg} {B : Nat} {Q : Exit → St → Prop} {f : FuncId} {ds : List AV} {r : AV} {x : Ob} (h : VO P f ds r x) {ob : List Ob} (o : Nat) (ho : ob[o]? = some ph2) {xs : List It} {fr : List (Nat × AV)} {dst : Option Nat} (hK : wpDQ P B xs Q ⟨putA fr dst (shr o r), ob.set o x⟩) : callD P B true f ds xs Q fr ob dst := by
  have hl : o < ob.length := (List.getElem?_eq_some_iff.1 ho).1
  have ha : app ob (some (o, x)) = ob.set o x := by simp [app, hl]
  refine ⟨shr o r, some (o, x), ?_, by rw [ha]; exact hK⟩
  unfold ECall
  rw [if_pos rfl]
  refine ⟨ACall.of_vo_at h ho ⟨rfl, by rw [ha]⟩, fun o' y e => ?_⟩
  cases e
  exact ⟨ph2, ho, by simp [ph2, ph]⟩

end Go.Am

namespace Go.Am
open Go.RowKit

/-! ### The law ClipPasswords -/

theorem cnt_ok {r : Int} {n : Nat} (h : okA r n) : cntA r n = .tup [.int .i64 (lensL (longN r).toNat n).length, .int .i64 0] := by
  obtain ⟨o1, o2, o3, o4, o5⟩ := h
  rcases all_cnt r n with ⟨k, e1, e2⟩ | ⟨l, e1, e2⟩
  · rw [allA, if_neg (by omega), if_neg (by omega), Int.toNat_natCast] at e1
    simp only [i64L, AV.tup.injEq, List.cons.injEq, AV.list.injEq] at e1
    exact absurd e1.1.1 (by rw [lensL_len]; exact Nat.succ_ne_zero _)
  · rw [allA, if_neg (by omega), if_neg (by omega), Int.toNat_natCast] at e1
    simp only [i64L, AV.tup.injEq, List.cons.injEq, AV.list.injEq] at e1
    rw [e2, e1.1.1]

def S_LawPw (P : Prg) (f : Nat) : Prop := ∀ (c x r : Int) (l : List Int) (p q : List UInt8), I32 l → VC P f [clA c x r l, .str p, .str q] (.bool true)
set_option maxHeartbeats 2000000 in
theorem law24_ClipPasswords {P : Prg} {f fA fC fF fS fN fE t0 : Nat} (bd : Body P f 121 [.tmp 6] (ac_cadenzalaw24_ClipPasswords fA fC fF fS fN fE t0)) (hA : S_Alive P fA) (hC : S_ClipCheck P fC) (hF : S_Frames P fF) (hS : S_Sum6 P fS) (hN : S_Count22 P fN) (hE : S_FEq P fE) : S_LawPw P f := by
  intro c x r l p q hI
  refine VC.of_acall (by simp [isDL, isD, isD_il, clA]) rfl (ACall.of_body bd (by simp) ?_)
  have hA' : VC P fA [] (.bool true) := hA
  have tl := isTL_ks .i32 l
  by_cases h6 : 600 < l.length
  · simp (maxSteps := 4000000) (disch := omega) only [abv, step, stepv, ev, wl, wn, wp, wz, aop, cV, cV1, AV.one, partCells, okW, onlyFr, app, sliceCells, cellsAt, srcA, subA, eqFs, Int.cast_ofNat_Int, simprocAttr, ac_cadenzalaw24_ClipPasswords, clA, il]
    refine callQ.vc hA' ?_
    simp (maxSteps := 4000000) (disch := omega) only [abv, step, stepv, ev, wl, wn, wp, wz, aop, cV, cV1, AV.one, partCells, okW, onlyFr, app, sliceCells, cellsAt, srcA, subA, eqFs, Int.cast_ofNat_Int, simprocAttr]
  by_cases hp : 64 < p.length
  · simp (maxSteps := 4000000) (disch := omega) only [abv, step, stepv, ev, wl, wn, wp, wz, aop, cV, cV1, AV.one, partCells, okW, onlyFr, app, sliceCells, cellsAt, srcA, subA, eqFs, Int.cast_ofNat_Int, simprocAttr, ac_cadenzalaw24_ClipPasswords, clA, il]
    refine callQ.vc hA' ?_
    simp (maxSteps := 4000000) (disch := omega) only [abv, step, stepv, ev, wl, wn, wp, wz, aop, cV, cV1, AV.one, partCells, okW, onlyFr, app, sliceCells, cellsAt, srcA, subA, eqFs, Int.cast_ofNat_Int, simprocAttr]
  by_cases hq : 64 < q.length
  · simp (maxSteps := 4000000) (disch := omega) only [abv, step, stepv, ev, wl, wn, wp, wz, aop, cV, cV1, AV.one, partCells, okW, onlyFr, app, sliceCells, cellsAt, srcA, subA, eqFs, Int.cast_ofNat_Int, simprocAttr, ac_cadenzalaw24_ClipPasswords, clA, il]
    refine callQ.vc hA' ?_
    simp (maxSteps := 4000000) (disch := omega) only [abv, step, stepv, ev, wl, wn, wp, wz, aop, cV, cV1, AV.one, partCells, okW, onlyFr, app, sliceCells, cellsAt, srcA, subA, eqFs, Int.cast_ofNat_Int, simprocAttr]
  have hC' := hC c x r l hI (by omega)
  have hFp := hF c x r l p hI (by omega)
  have hFq := hF c x r l q hI (by omega)
  rw [il] at hC'
  rw [clA, il] at hFp hFq
  rcases clipN_cases c x r l with h | h
  case inr =>
    rw [h] at hC'
    simp (maxSteps := 4000000) (disch := omega) only [abv, step, stepv, ev, wl, wn, wp, wz, aop, cV, cV1, AV.one, partCells, okW, onlyFr, app, sliceCells, cellsAt, srcA, subA, eqFs, Int.cast_ofNat_Int, simprocAttr, ac_cadenzalaw24_ClipPasswords, clA, il]
    refine callQ.vc hA' ?_
    simp (maxSteps := 4000000) (disch := omega) only [abv, step, stepv, ev, wl, wn, wp, wz, aop, cV, cV1, AV.one, partCells, okW, onlyFr, app, sliceCells, cellsAt, srcA, subA, eqFs, Int.cast_ofNat_Int, simprocAttr]
    refine callQ.vc hC' ?_
    simp (maxSteps := 4000000) (disch := omega) only [abv, step, stepv, ev, wl, wn, wp, wz, aop, cV, cV1, AV.one, partCells, okW, onlyFr, app, sliceCells, cellsAt, srcA, subA, eqFs, Int.cast_ofNat_Int, simprocAttr]
  rw [h] at hC'
  rw [frames_ok h hp] at hFp
  rw [frames_ok h hq] at hFq
  have hSp := hS p
  have hSq := hS q
  rw [if_neg (by omega)] at hSp hSq
  have hpl := partsOf_len c r l
  have hple := partsOf_le h
  have lp := framesOf_len c x r l (ofK (sixL 0 p) 8)
  have lq := framesOf_len c x r l (ofK (sixL 0 q) 8)
  have hE' := hE (framesOf c x r l (ofK (sixL 0 p) 8)) (framesOf c x r l (ofK (sixL 0 q) 8)) (by omega) (by omega)
  have hsame : sixL 0 p = sixL 0 q → framesOf c x r l (ofK (sixL 0 p) 8) = framesOf c x r l (ofK (sixL 0 q) 8) := fun e => by rw [e]
  obtain ⟨k, n, rfl, k1, k2, hlen, hok, h4⟩ := clipN_ok h
  have hN' := hN r n
  rw [cnt_ok hok] at hN'
  rw [Int.toNat_natCast, hlen, Nat.mul_div_cancel _ (by omega)] at hpl
  rw [← hpl] at hN'
  have hk0 : ((n * k : Nat) : Int) / (k : Int) = n := by rw [Int.natCast_mul, Int.mul_ediv_cancel _ (by omega)]
  have hq0 : (k : Int) ≠ 0 := by omega
  have hw : IntKind.i64.wrap ((l.length : Int) / (k : Int)) = n := by
    rw [hlen, hk0]
    have : n ≤ 4000 := by have := hok.2.2.2.1; omega
    exact wrap_i64 (by omega) (by omega)
  generalize framesOf k x r l (ofK (sixL 0 p) 8) = Fp at *
  generalize framesOf k x r l (ofK (sixL 0 q) 8) = Fq at *
  generalize partsOf k r l = S at *
  generalize hsp : sixL 0 p = sp at *
  generalize hsq : sixL 0 q = sq at *
  have hmp : (Fp.map bs).length = Fp.length := by simp
  have hmq : (Fq.map bs).length = Fq.length := by simp
  rw [bss, lp] at hFp
  rw [bss, lq] at hFq
  rw [bss, bss, lp, lq] at hE'
  rw [bs] at hSp hSq
  simp (maxSteps := 4000000) (disch := omega) only [abv, step, stepv, ev, wl, wn, wp, wz, aop, cV, cV1, AV.one, partCells, okW, onlyFr, app, sliceCells, cellsAt, srcA, subA, eqFs, Int.cast_ofNat_Int, simprocAttr, ac_cadenzalaw24_ClipPasswords, clA, il]
  refine callQ.vc hA' ?_
  simp (maxSteps := 4000000) (disch := omega) only [abv, step, stepv, ev, wl, wn, wp, wz, aop, cV, cV1, AV.one, partCells, okW, onlyFr, app, sliceCells, cellsAt, srcA, subA, eqFs, Int.cast_ofNat_Int, simprocAttr]
  refine callQ.vc hC' ?_
  simp (maxSteps := 4000000) (disch := omega) only [abv, step, stepv, ev, wl, wn, wp, wz, aop, cV, cV1, AV.one, partCells, okW, onlyFr, app, sliceCells, cellsAt, srcA, subA, eqFs, Int.cast_ofNat_Int, simprocAttr]
  refine callQ.vc hFp ?_
  simp (maxSteps := 4000000) (disch := omega) only [abv, step, stepv, ev, wl, wn, wp, wz, aop, cV, cV1, AV.one, partCells, okW, onlyFr, app, sliceCells, cellsAt, srcA, subA, eqFs, Int.cast_ofNat_Int, simprocAttr]
  refine callQ.vc hFq ?_
  simp (maxSteps := 4000000) (disch := omega) only [abv, step, stepv, ev, wl, wn, wp, wz, aop, cV, cV1, AV.one, partCells, okW, onlyFr, app, sliceCells, cellsAt, srcA, subA, eqFs, Int.cast_ofNat_Int, simprocAttr]
  refine callQ.vc hSp ?_
  simp (maxSteps := 4000000) (disch := omega) only [abv, step, stepv, ev, wl, wn, wp, wz, aop, cV, cV1, AV.one, partCells, okW, onlyFr, app, sliceCells, cellsAt, srcA, subA, eqFs, Int.cast_ofNat_Int, simprocAttr]
  refine callQ.vc hSq ?_
  simp (maxSteps := 4000000) (disch := omega) only [abv, step, stepv, ev, wl, wn, wp, wz, aop, cV, cV1, AV.one, partCells, okW, onlyFr, app, sliceCells, cellsAt, srcA, subA, eqFs, Int.cast_ofNat_Int, simprocAttr, hmp, hmq, lp, lq]
  rw [hw]
  refine callD.vc hN' ?_
  by_cases e : sp = sq
  · have e2 := hsame e
    subst e2
    simp only [eq_self, decide_true] at hE'
    simp (maxSteps := 4000000) (disch := omega) only [abv, step, stepv, ev, wl, wn, wp, wz, aop, cV, cV1, AV.one, partCells, okW, onlyFr, app, sliceCells, cellsAt, srcA, subA, eqFs, Int.cast_ofNat_Int, simprocAttr, e, hmp, hmq, lp, lq]
    refine callQ.vc hE' ?_
    simp (maxSteps := 4000000) (disch := omega) only [abv, step, stepv, ev, wl, wn, wp, wz, aop, cV, cV1, AV.one, partCells, okW, onlyFr, app, sliceCells, cellsAt, srcA, subA, eqFs, Int.cast_ofNat_Int, simprocAttr]
  · have e' : ¬ ((sp : Int) = sq) := by omega
    simp (maxSteps := 4000000) (disch := omega) only [abv, step, stepv, ev, wl, wn, wp, wz, aop, cV, cV1, AV.one, partCells, okW, onlyFr, app, sliceCells, cellsAt, srcA, subA, eqFs, Int.cast_ofNat_Int, simprocAttr, e, e', hmp, hmq, lp, lq]
end Go.Am

namespace Go.Am
open Go.RowKit

/-! ### A clip cs0 an argument -/

def clSh : Sh := .tuple [.int .i64, .int .i64, .int .i64, .slice (.int .i32)]
theorem fits_clip {cs0 : List AV} (h : Fits clSh cs0) : ∃ (c x r : Int) (l : List Int), cs0 = [.int .i64 c, .int .i64 x, .int .i64 r, il l] ∧ I32 l := by
  simp only [clSh, Fits, FitsL] at h
  obtain ⟨_, _, rfl, ⟨c, rfl, _⟩, _, _, rfl, ⟨x, rfl, _⟩, _, _, rfl, ⟨r, rfl, _⟩, _, _, rfl, ⟨L, rfl, _, h2⟩, rfl⟩ := h
  obtain ⟨l, _, e2, hi⟩ := fits_i32s (L := L) (fun c hc => by simp only [Fits]; exact h2 c hc)
  exact ⟨c, x, r, l, by simp [e2], hi⟩
end Go.Am
