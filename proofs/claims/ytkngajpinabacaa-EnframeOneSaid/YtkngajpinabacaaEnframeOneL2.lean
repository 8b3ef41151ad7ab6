/- What the functions that the law reaches return, for every program that has their code; the conditions stand in each statement. -/
import Derived.Test.YtkngajpinabacaaEnframeOneL1
set_option linter.unusedSectionVars false
set_option linter.unusedSimpArgs false
set_option linter.unusedVariables false
namespace Go.Am
open Go.RowKit

/-! ### Codes are written: unary, rice, dual -/

def uN (n : Nat) : Nat := min (n + 1) 48
def S_uLen (P : Prg) (f : Nat) : Prop := ∀ n : Nat, n ≤ 48 → VC P f [.int .i64 n] (.tup [.int .i64 (uN n), .int .i64 0])
theorem unary_Length {P : Prg} {f : Nat} (bd : Body P f 13 [.tmp 2, .tmp 3] ac_unary_Length) : S_uLen P f := by
  intro n hn
  refine VC.of_acall rfl rfl (ACall.of_body bd (by simp) ?_)
  have e1 : (if (48 : Int) < (n : Int) + 1 then (48 : Int) else (n : Int) + 1) = (uN n : Nat) := by unfold uN; split <;> omega
  simp (maxSteps := 4000000) (disch := omega) only [step, stepv, ev, wl, wn, wp, wz, aop, cV, cV1, AV.one, partCells, okW, onlyFr, app, sliceCells, cellsAt, srcA, subA, eqFs, Int.cast_ofNat_Int, simprocAttr, ac_unary_Length, e1]

theorem pow_lt_64 {n : Nat} (h : n ≤ 48) : 2 ^ n ≤ 281474976710656 := Nat.pow_le_pow_right (by omega) h
def S_uWrite (P : Prg) (f : Nat) : Prop := ∀ N V n : Nat, V < 2 ^ N → n ≤ 48 → N + uN n ≤ 330000 → VC P f [bA N V, .int .i64 n] (.tup [bA (N + uN n) (V + 2 ^ N * (2 ^ n - 1)), .int .i64 0])
theorem unary_Write {P : Prg} {f fC fL fP t0 : Nat} (bd : Body P f 32 [.cell 4 t0, .tmp 5] (ac_unary_Write fC fL fP t0)) (hC : S_bCheck P fC) (hL : S_uLen P fL) (hP : S_bPut P fP) (ht : aggO P t0 = some (some 2)) : S_uWrite P f := by
  intro N V n hV hn hN
  refine VC.of_walk 1 (by simp [isDL, isD_bA, isD]) (by simp [isD, isDL, isD_bA]) (ACall.of_body bd (by simp) ?_)
  have hC' := hC N V hV (by omega)
  have hL' := hL n hn
  have hp := pow_lt_64 hn
  have hpos : 0 < 2 ^ n := Nat.pow_pos (by omega)
  have hlt : 2 ^ n - 1 < 2 ^ uN n := by
    unfold uN
    rcases Nat.lt_or_ge n 48 with h | h
    · rw [Nat.min_eq_left (by omega), Nat.pow_succ]; omega
    · obtain rfl : n = 48 := by omega
      decide
  have hP' := hP N V (2 ^ n - 1) (uN n) hV hlt (by unfold uN; omega) hN
  have e3 : shiftA true .u64 1 (n : Int) = some (.int .u64 ((2 ^ n : Nat) : Int)) := by
    have := shlK (K := .u64) rfl (c := 1) (s := n) (by show n ≤ 64; omega) (by show 1 * 2 ^ n < 18446744073709551616; omega)
    rw [Nat.one_mul] at this
    exact this
  have e4 : IntKind.u64.wrap (((2 ^ n : Nat) : Int) - 1) = ((2 ^ n - 1 : Nat) : Int) := by rw [wrap_u64_mod]; omega
  generalize V + 2 ^ N * (2 ^ n - 1) = W at *
  generalize 2 ^ n - 1 = x at *
  generalize 2 ^ n = p at *
  generalize uN n = u at *
  have tl : isTL (u8 (leB W (nB (N + u)))) = true := isT_u8 _
  simp only [bA] at hC' hP' ⊢
  simp (maxSteps := 4000000) (disch := omega) only [step, stepv, ev, wl, wn, wp, wz, aop, cV, cV1, AV.one, partCells, okW, onlyFr, app, sliceCells, cellsAt, srcA, subA, eqFs, Int.cast_ofNat_Int, simprocAttr, ac_unary_Write]
  refine callQ.vc hC' ?_
  simp (maxSteps := 4000000) (disch := omega) only [step, stepv, ev, wl, wn, wp, wz, aop, cV, cV1, AV.one, partCells, okW, onlyFr, app, sliceCells, cellsAt, srcA, subA, eqFs, Int.cast_ofNat_Int, simprocAttr]
  refine callQ.vc hL' ?_
  simp (maxSteps := 4000000) (disch := omega) only [step, stepv, ev, wl, wn, wp, wz, aop, cV, cV1, AV.one, partCells, okW, onlyFr, app, sliceCells, cellsAt, srcA, subA, eqFs, Int.cast_ofNat_Int, simprocAttr, e3, e4]
  refine callD.vc hP' ?_
  simp (maxSteps := 4000000) (disch := omega) only [step, stepv, ev, wl, wn, wp, wz, aop, cV, cV1, AV.one, partCells, okW, onlyFr, app, sliceCells, cellsAt, srcA, subA, eqFs, Int.cast_ofNat_Int, simprocAttr, resA, ht, oneOf]
  simp [frzN, frzK, frzL, frzV, frzL_T _ tl]

def S_rWrite (P : Prg) (f : Nat) : Prop := ∀ N V v k : Nat, V < 2 ^ N → v < 4294967296 → k ≤ 24 → N + 80 ≤ 330000 → VC P f [bA N V, .int .u32 v, .int .i64 k] (.tup [bA (N + riceN v k) (V + 2 ^ N * riceC v k), .int .i64 0])
theorem rice_Write {P : Prg} {f fC fE fU fP t0 : Nat} (bd : Body P f 57 [.cell 6 t0, .tmp 7] (ac_rice_Write fC fE fU fP t0)) (hC : S_bCheck P fC) (hE : S_esc P fE) (hU : S_uWrite P fU) (hP : S_bPut P fP) (ht : aggO P t0 = some (some 2)) : S_rWrite P f := by
  intro N V v k hV hv hk hN
  refine VC.of_walk 1 (by simp [isDL, isD_bA, isD]) (by simp [isD, isDL, isD_bA]) (ACall.of_body bd (by simp) ?_)
  have hC' := hC N V hV (by omega)
  have hE' := hE v k hk hv
  obtain ⟨q1, _⟩ := p24 hk
  have hpk : 0 < 2 ^ k := Nat.pow_pos (by omega)
  have e1 : shiftA false .u32 (v : Int) (k : Int) = some (.int .u32 ((v / 2 ^ k : Nat) : Int)) := shrK (K := .u32) (by show k ≤ 32; omega)
  have e2 : shiftA true .u32 1 (k : Int) = some (.int .u32 ((2 ^ k : Nat) : Int)) := by
    have := shlK (K := .u32) rfl (c := 1) (s := k) (by show k ≤ 32; omega) (by show 1 * 2 ^ k < 4294967296; omega)
    rw [Nat.one_mul] at this
    exact this
  have e3 : IntKind.u32.wrap (((2 ^ k : Nat) : Int) - 1) = ((2 ^ k - 1 : Nat) : Int) := by rw [wrap_u32_mod]; omega
  have e4 : IntKind.u32.wrap (BitVec.ofInt IntKind.u32.bits (v : Int) &&& BitVec.ofInt IntKind.u32.bits ((2 ^ k - 1 : Nat) : Int)).toNat = ((v % 2 ^ k : Nat) : Int) := by
    rw [andK (K := .u32) rfl hv (by show 2 ^ k - 1 < 4294967296; omega), Nat.and_two_pow_sub_one_eq_mod]
  have hqv : v / 2 ^ k ≤ v := Nat.div_le_self _ _
  have hrv : v % 2 ^ k < 2 ^ k := Nat.mod_lt _ hpk
  unfold riceN riceC
  by_cases hq : 48 ≤ v / 2 ^ k
  · rw [if_pos hq, if_pos hq]
    simp only [hq, decide_true] at hE'
    have hU' := hU N V 48 hV (Nat.le_refl _) (by unfold uN; omega)
    have hu : uN 48 = 48 := rfl
    rw [hu] at hU'
    have hV1 : V + 2 ^ N * (2 ^ 48 - 1) < 2 ^ (N + 48) := lt_append hV (by decide)
    have hP' := hP (N + 48) (V + 2 ^ N * (2 ^ 48 - 1)) v 32 hV1 hv (by omega) (by omega)
    have hW : V + 2 ^ N * (2 ^ 48 - 1) + 2 ^ (N + 48) * v = V + 2 ^ N * (2 ^ 48 - 1 + 2 ^ 48 * v) := by rw [Nat.pow_add, Nat.mul_add, Nat.mul_assoc, Nat.add_assoc]
    rw [hW] at hP'
    generalize V + 2 ^ N * (2 ^ 48 - 1 + 2 ^ 48 * v) = W at *
    generalize V + 2 ^ N * (2 ^ 48 - 1) = W1 at *
    have hNN : N + 48 + 32 = N + 80 := by omega
    rw [hNN] at hP'
    have tl : isTL (u8 (leB W (nB (N + 80)))) = true := isT_u8 _
    simp only [bA] at hC' hP' hU' ⊢
    have hU'' : VC P fU [.agg [.list (nB N) (u8 (leB V (nB N))), .int .i64 N], .int .i64 48] (.tup [.agg [.list (nB (N + 48)) (u8 (leB W1 (nB (N + 48)))), .int .i64 ((N + 48 : Nat) : Int)], .int .i64 0]) := hU'
    have hP'' : VC P fP [.agg [.list (nB (N + 48)) (u8 (leB W1 (nB (N + 48)))), .int .i64 ((N + 48 : Nat) : Int)], .int .u64 v, .int .i64 32] (.tup [.agg [.list (nB (N + 80)) (u8 (leB W (nB (N + 80)))), .int .i64 ((N + 80 : Nat) : Int)], .int .i64 0]) := hP'
    generalize v / 2 ^ k = q at *
    generalize v % 2 ^ k = r at *
    generalize 2 ^ k - 1 = mk at *
    generalize 2 ^ k = pk at *
    simp (maxSteps := 4000000) (disch := omega) only [step, stepv, ev, wl, wn, wp, wz, aop, cV, cV1, AV.one, partCells, okW, onlyFr, app, sliceCells, cellsAt, srcA, subA, eqFs, Int.cast_ofNat_Int, simprocAttr, ac_rice_Write]
    refine callQ.vc hC' ?_
    simp (maxSteps := 4000000) (disch := omega) only [step, stepv, ev, wl, wn, wp, wz, aop, cV, cV1, AV.one, partCells, okW, onlyFr, app, sliceCells, cellsAt, srcA, subA, eqFs, Int.cast_ofNat_Int, simprocAttr, e1, e2, e3, e4]
    refine callQ.vc hE' ?_
    simp (maxSteps := 4000000) (disch := omega) only [step, stepv, ev, wl, wn, wp, wz, aop, cV, cV1, AV.one, partCells, okW, onlyFr, app, sliceCells, cellsAt, srcA, subA, eqFs, Int.cast_ofNat_Int, simprocAttr]
    refine callQ.vc hU'' ?_
    simp (maxSteps := 4000000) (disch := omega) only [step, stepv, ev, wl, wn, wp, wz, aop, cV, cV1, AV.one, partCells, okW, onlyFr, app, sliceCells, cellsAt, srcA, subA, eqFs, Int.cast_ofNat_Int, simprocAttr]
    refine callQ.vc hP'' ?_
    simp (maxSteps := 4000000) (disch := omega) only [step, stepv, ev, wl, wn, wp, wz, aop, cV, cV1, AV.one, partCells, okW, onlyFr, app, sliceCells, cellsAt, srcA, subA, eqFs, Int.cast_ofNat_Int, simprocAttr, resA, ht, oneOf]
    simp [frzN, frzK, frzL, frzV, frzL_T _ tl]
  · rw [if_neg hq, if_neg hq]
    simp only [hq, decide_false] at hE'
    have hu : uN (v / 2 ^ k) = v / 2 ^ k + 1 := by unfold uN; omega
    have hU' := hU N V (v / 2 ^ k) hV (by omega) (by rw [hu]; omega)
    rw [hu] at hU'
    have hlt : 2 ^ (v / 2 ^ k) - 1 < 2 ^ (v / 2 ^ k + 1) := by
      have : 0 < 2 ^ (v / 2 ^ k) := Nat.pow_pos (by omega)
      rw [Nat.pow_succ]; omega
    have hV1 : V + 2 ^ N * (2 ^ (v / 2 ^ k) - 1) < 2 ^ (N + (v / 2 ^ k + 1)) := lt_append hV hlt
    have hP' := hP (N + (v / 2 ^ k + 1)) (V + 2 ^ N * (2 ^ (v / 2 ^ k) - 1)) (v % 2 ^ k) k hV1 hrv (by omega) (by omega)
    have hW : V + 2 ^ N * (2 ^ (v / 2 ^ k) - 1) + 2 ^ (N + (v / 2 ^ k + 1)) * (v % 2 ^ k) = V + 2 ^ N * (2 ^ (v / 2 ^ k) - 1 + 2 ^ (v / 2 ^ k + 1) * (v % 2 ^ k)) := by rw [Nat.pow_add 2 N, Nat.mul_add, Nat.mul_assoc, Nat.add_assoc]
    rw [hW] at hP'
    generalize V + 2 ^ N * (2 ^ (v / 2 ^ k) - 1 + 2 ^ (v / 2 ^ k + 1) * (v % 2 ^ k)) = W at *
    generalize V + 2 ^ N * (2 ^ (v / 2 ^ k) - 1) = W1 at *
    have hNN : N + (v / 2 ^ k + 1) + k = N + (v / 2 ^ k + 1 + k) := by omega
    rw [hNN] at hP'
    have tl : isTL (u8 (leB W (nB (N + (v / 2 ^ k + 1 + k))))) = true := isT_u8 _
    simp only [bA] at hC' hP' hU' ⊢
    generalize v / 2 ^ k = q at *
    generalize v % 2 ^ k = r at *
    generalize 2 ^ k - 1 = mk at *
    generalize 2 ^ k = pk at *
    generalize hM : N + (q + 1 + k) = M at *
    generalize hM1 : N + (q + 1) = M1 at *
    simp (maxSteps := 4000000) (disch := omega) only [step, stepv, ev, wl, wn, wp, wz, aop, cV, cV1, AV.one, partCells, okW, onlyFr, app, sliceCells, cellsAt, srcA, subA, eqFs, Int.cast_ofNat_Int, simprocAttr, ac_rice_Write]
    refine callQ.vc hC' ?_
    simp (maxSteps := 4000000) (disch := omega) only [step, stepv, ev, wl, wn, wp, wz, aop, cV, cV1, AV.one, partCells, okW, onlyFr, app, sliceCells, cellsAt, srcA, subA, eqFs, Int.cast_ofNat_Int, simprocAttr, e1, e2, e3, e4]
    refine callQ.vc hE' ?_
    simp (maxSteps := 4000000) (disch := omega) only [step, stepv, ev, wl, wn, wp, wz, aop, cV, cV1, AV.one, partCells, okW, onlyFr, app, sliceCells, cellsAt, srcA, subA, eqFs, Int.cast_ofNat_Int, simprocAttr]
    refine callQ.vc hU' ?_
    simp (maxSteps := 4000000) (disch := omega) only [step, stepv, ev, wl, wn, wp, wz, aop, cV, cV1, AV.one, partCells, okW, onlyFr, app, sliceCells, cellsAt, srcA, subA, eqFs, Int.cast_ofNat_Int, simprocAttr]
    refine callQ.vc hP' ?_
    simp (maxSteps := 4000000) (disch := omega) only [step, stepv, ev, wl, wn, wp, wz, aop, cV, cV1, AV.one, partCells, okW, onlyFr, app, sliceCells, cellsAt, srcA, subA, eqFs, Int.cast_ofNat_Int, simprocAttr, resA, ht, oneOf]
    simp [frzN, frzK, frzL, frzV, frzL_T _ tl]

def S_rLen (P : Prg) (f : Nat) : Prop := ∀ v k : Nat, v < 4294967296 → k ≤ 24 → VC P f [.int .u32 v, .int .i64 k] (.tup [.int .i64 (riceN v k), .int .i64 0])
theorem rice_Length {P : Prg} {f fE : Nat} (bd : Body P f 24 [.tmp 4, .tmp 5] (ac_rice_Length fE)) (hE : S_esc P fE) : S_rLen P f := by
  intro v k hv hk
  refine VC.of_acall rfl rfl (ACall.of_body bd (by simp) ?_)
  have hE' := hE v k hk hv
  have e1 : shiftA false .u32 (v : Int) (k : Int) = some (.int .u32 ((v / 2 ^ k : Nat) : Int)) := shrK (K := .u32) (by show k ≤ 32; omega)
  have hqv : v / 2 ^ k ≤ v := Nat.div_le_self _ _
  unfold riceN
  generalize v / 2 ^ k = q at *
  by_cases hq : 48 ≤ q
  · rw [if_pos hq]
    simp only [hq, decide_true] at hE'
    simp (maxSteps := 4000000) (disch := omega) only [step, stepv, ev, wl, wn, wp, wz, aop, cV, cV1, AV.one, partCells, okW, onlyFr, app, sliceCells, cellsAt, srcA, subA, eqFs, Int.cast_ofNat_Int, simprocAttr, ac_rice_Length]
    refine callQ.vc hE' ?_
    simp (maxSteps := 4000000) (disch := omega) only [step, stepv, ev, wl, wn, wp, wz, aop, cV, cV1, AV.one, partCells, okW, onlyFr, app, sliceCells, cellsAt, srcA, subA, eqFs, Int.cast_ofNat_Int, simprocAttr]
  · rw [if_neg hq]
    simp only [hq, decide_false] at hE'
    simp (maxSteps := 4000000) (disch := omega) only [step, stepv, ev, wl, wn, wp, wz, aop, cV, cV1, AV.one, partCells, okW, onlyFr, app, sliceCells, cellsAt, srcA, subA, eqFs, Int.cast_ofNat_Int, simprocAttr, ac_rice_Length]
    refine callQ.vc hE' ?_
    simp (maxSteps := 4000000) (disch := omega) only [step, stepv, ev, wl, wn, wp, wz, aop, cV, cV1, AV.one, partCells, okW, onlyFr, app, sliceCells, cellsAt, srcA, subA, eqFs, Int.cast_ofNat_Int, simprocAttr, e1]

def S_dWrite (P : Prg) (f : Nat) : Prop := ∀ (N V v : Nat) (d : Dl), V < 2 ^ N → v < 4294967296 → okD d → N + 81 ≤ 330000 → VC P f [bA N V, dlA d, .int .u32 v] (.tup [bA (N + codeN d v) (V + 2 ^ N * codeC d v), dlA (learnM d v), .int .i64 0])
theorem dual_Write {P : Prg} {f fC fD fV fP fR fL fl1 fll t0 t1 : Nat} (bd : Body P f 69 [.cell 6 t0, .cell 7 t1, .tmp 8] (ac_dual_Write fC fD fV fP fR fL t0 t1)) (hC : S_bCheck P fC) (hD : S_DCheck P fD) (hLv : S_Level P fV) (hP : S_bPut P fP) (hR : S_rWrite P fR)
    (bL : Body P fL 36 [] (ac_dual_learn fl1 fll)) (b1 : Body P fl1 58 [] ac_dual_learn_1) (hL : S_Level P fll) (ht0 : aggO P t0 = some (some 2)) (ht : aggO P t1 = some (some 4)) : S_dWrite P f := by
  intro N V v d hV hv hd hN
  refine VC.of_walk 1 (by simp [isDL, isD_bA, isD_dlA, isD]) (by simp [isD, isDL, isD_bA, isD_dlA]) (ACall.of_cut 7 bd (by simp) ?_)
  have hd' := hd
  have hC' := hC N V hV (by omega)
  have hD' := hD d hd
  have hLv' := hLv d v hd hv
  have hL1 : ∀ {ob : List Ob} {p : Nat} {v : Nat} {K : AV → List Ob → Prop}, ob[p]? = some ⟨t1, 4, 1, dlC d, 0⟩ → v < 4294967296 → K (.tup []) (ob.set p ⟨t1, 4, 1, dlC (learnM d v), 0⟩) → ACall P fL [.ref p 1 0, .int .u32 v] ob K :=
    fun hp hv hK => dual_learn bL b1 hL hp hd hv hK
  obtain ⟨k0, k1, s0, s1⟩ := d
  obtain ⟨h1, h2, h3, h4⟩ := hd'
  simp only at h1 h2 h3 h4
  obtain ⟨pk, _⟩ := p24 h1
  simp only [bA] at hC'
  simp only [dlA, dlC] at hD' hLv'
  unfold codeN codeC
  by_cases c : v < 2 ^ k0
  · simp only [c, if_true] at hLv' ⊢
    have hP1 := hP N V 0 1 hV (by decide) (by omega) (by omega)
    rw [Nat.mul_zero, Nat.add_zero] at hP1
    have hV1 : V < 2 ^ (N + 1) := Nat.lt_of_lt_of_le hV (Nat.pow_le_pow_right (by omega) (by omega))
    have hP2 := hP (N + 1) V v k0 hV1 c (by omega) (by omega)
    have hW : V + 2 ^ (N + 1) * v = V + 2 ^ N * (2 * v) := by rw [Nat.pow_succ, Nat.mul_assoc]
    rw [hW, Nat.add_assoc] at hP2
    generalize V + 2 ^ N * (2 * v) = W at *
    have tl : isTL (u8 (leB W (nB (N + (1 + k0))))) = true := isT_u8 _
    simp only [bA] at hP1 hP2 ⊢
    have hP1' : VC P fP [.agg [.list (nB N) (u8 (leB V (nB N))), .int .i64 N], .int .u64 0, .int .i64 1] (.tup [.agg [.list (nB (N + 1)) (u8 (leB V (nB (N + 1)))), .int .i64 ((N + 1 : Nat) : Int)], .int .i64 0]) := hP1
    simp (maxSteps := 4000000) (disch := omega) only [step, stepv, ev, wl, wn, wp, wz, aop, cV, cV1, AV.one, partCells, okW, onlyFr, app, sliceCells, cellsAt, srcA, subA, eqFs, Int.cast_ofNat_Int, simprocAttr, cuts, ac_dual_Write, dlA, dlC]
    refine callQ.vc hC' ?_
    simp (maxSteps := 4000000) (disch := omega) only [step, stepv, ev, wl, wn, wp, wz, aop, cV, cV1, AV.one, partCells, okW, onlyFr, app, sliceCells, cellsAt, srcA, subA, eqFs, Int.cast_ofNat_Int, simprocAttr, cuts]
    refine callQ.vc hD' ?_
    simp (maxSteps := 4000000) (disch := omega) only [step, stepv, ev, wl, wn, wp, wz, aop, cV, cV1, AV.one, partCells, okW, onlyFr, app, sliceCells, cellsAt, srcA, subA, eqFs, Int.cast_ofNat_Int, simprocAttr, cuts]
    refine callQ.vc hLv' ?_
    simp (maxSteps := 4000000) (disch := omega) only [step, stepv, ev, wl, wn, wp, wz, aop, cV, cV1, AV.one, partCells, okW, onlyFr, app, sliceCells, cellsAt, srcA, subA, eqFs, Int.cast_ofNat_Int, simprocAttr, cuts]
    refine callQ.vc hP1' ?_
    simp (maxSteps := 4000000) (disch := omega) only [step, stepv, ev, wl, wn, wp, wz, aop, cV, cV1, AV.one, partCells, okW, onlyFr, app, sliceCells, cellsAt, srcA, subA, eqFs, Int.cast_ofNat_Int, simprocAttr, cuts]
    refine callQ.vc hP2 ?_
    simp (maxSteps := 4000000) (disch := omega) only [step, stepv, ev, wl, wn, wp, wz, aop, cV, cV1, AV.one, partCells, okW, onlyFr, app, sliceCells, cellsAt, srcA, subA, eqFs, Int.cast_ofNat_Int, simprocAttr, cuts]
    refine hL1 (v := v) rfl hv ?_
    generalize learnM ⟨k0, k1, s0, s1⟩ v = d'
    obtain ⟨l0, l1, l2, l3⟩ := d'
    simp (maxSteps := 4000000) (disch := omega) only [step, stepv, ev, wl, wn, wp, wz, aop, cV, cV1, AV.one, partCells, okW, onlyFr, app, sliceCells, cellsAt, srcA, subA, eqFs, Int.cast_ofNat_Int, simprocAttr, cuts]
    refine ⟨⟨[(8, .int .i64 0), (7, .ref 3 1 0), (6, .ref 2 1 0), (4, .cell [.int .i64 l0, .int .i64 l1, .int .u64 l2, .int .u64 l3]), (3, .ref 0 1 0)], _⟩, Le.still [1] 1 (by simp [Am.look, frzK, frzL, frzV, dlC, isDL, isD]), ?_⟩
    simp (maxSteps := 4000000) (disch := omega) only [step, stepv, ev, wl, wn, wp, wz, aop, cV, cV1, AV.one, partCells, okW, onlyFr, app, sliceCells, cellsAt, srcA, subA, eqFs, Int.cast_ofNat_Int, simprocAttr, resA, ht, ht0, oneOf, dlC, stillAt]
    simp [frzN, frzK, frzL, frzV, frzL_T _ tl]
  · simp only [c, if_false] at hLv' ⊢
    have hP1 := hP N V 1 1 hV (by decide) (by omega) (by omega)
    rw [Nat.mul_one] at hP1
    have hV1 : V + 2 ^ N < 2 ^ (N + 1) := by rw [Nat.pow_succ]; omega
    have hl : v - 2 ^ k0 < 4294967296 := Nat.lt_of_le_of_lt (Nat.sub_le _ _) hv
    have hR2 := hR (N + 1) (V + 2 ^ N) (v - 2 ^ k0) k1 hV1 hl h2 (by omega)
    have hW : V + 2 ^ N + 2 ^ (N + 1) * riceC (v - 2 ^ k0) k1 = V + 2 ^ N * (1 + 2 * riceC (v - 2 ^ k0) k1) := by rw [Nat.pow_succ, Nat.mul_assoc, Nat.mul_add, Nat.mul_one, Nat.add_assoc]
    rw [hW, Nat.add_assoc] at hR2
    generalize V + 2 ^ N * (1 + 2 * riceC (v - 2 ^ k0) k1) = W at *
    generalize riceN (v - 2 ^ k0) k1 = rn at *
    generalize v - 2 ^ k0 = lf at *
    generalize V + 2 ^ N = W1 at *
    have tl : isTL (u8 (leB W (nB (N + (1 + rn))))) = true := isT_u8 _
    simp only [bA] at hP1 hR2 ⊢
    have hP1' : VC P fP [.agg [.list (nB N) (u8 (leB V (nB N))), .int .i64 N], .int .u64 1, .int .i64 1] (.tup [.agg [.list (nB (N + 1)) (u8 (leB W1 (nB (N + 1)))), .int .i64 ((N + 1 : Nat) : Int)], .int .i64 0]) := hP1
    simp (maxSteps := 4000000) (disch := omega) only [step, stepv, ev, wl, wn, wp, wz, aop, cV, cV1, AV.one, partCells, okW, onlyFr, app, sliceCells, cellsAt, srcA, subA, eqFs, Int.cast_ofNat_Int, simprocAttr, cuts, ac_dual_Write, dlA, dlC]
    refine callQ.vc hC' ?_
    simp (maxSteps := 4000000) (disch := omega) only [step, stepv, ev, wl, wn, wp, wz, aop, cV, cV1, AV.one, partCells, okW, onlyFr, app, sliceCells, cellsAt, srcA, subA, eqFs, Int.cast_ofNat_Int, simprocAttr, cuts]
    refine callQ.vc hD' ?_
    simp (maxSteps := 4000000) (disch := omega) only [step, stepv, ev, wl, wn, wp, wz, aop, cV, cV1, AV.one, partCells, okW, onlyFr, app, sliceCells, cellsAt, srcA, subA, eqFs, Int.cast_ofNat_Int, simprocAttr, cuts]
    refine callQ.vc hLv' ?_
    simp (maxSteps := 4000000) (disch := omega) only [step, stepv, ev, wl, wn, wp, wz, aop, cV, cV1, AV.one, partCells, okW, onlyFr, app, sliceCells, cellsAt, srcA, subA, eqFs, Int.cast_ofNat_Int, simprocAttr, cuts]
    refine callQ.vc hP1' ?_
    simp (maxSteps := 4000000) (disch := omega) only [step, stepv, ev, wl, wn, wp, wz, aop, cV, cV1, AV.one, partCells, okW, onlyFr, app, sliceCells, cellsAt, srcA, subA, eqFs, Int.cast_ofNat_Int, simprocAttr, cuts]
    refine callQ.vc hR2 ?_
    simp (maxSteps := 4000000) (disch := omega) only [step, stepv, ev, wl, wn, wp, wz, aop, cV, cV1, AV.one, partCells, okW, onlyFr, app, sliceCells, cellsAt, srcA, subA, eqFs, Int.cast_ofNat_Int, simprocAttr, cuts]
    refine hL1 (v := v) rfl hv ?_
    generalize learnM ⟨k0, k1, s0, s1⟩ v = d'
    obtain ⟨l0, l1, l2, l3⟩ := d'
    simp (maxSteps := 4000000) (disch := omega) only [step, stepv, ev, wl, wn, wp, wz, aop, cV, cV1, AV.one, partCells, okW, onlyFr, app, sliceCells, cellsAt, srcA, subA, eqFs, Int.cast_ofNat_Int, simprocAttr, cuts]
    refine ⟨⟨[(8, .int .i64 0), (7, .ref 3 1 0), (6, .ref 2 1 0), (4, .cell [.int .i64 l0, .int .i64 l1, .int .u64 l2, .int .u64 l3]), (3, .ref 0 1 0)], _⟩, Le.still [1] 1 (by simp [Am.look, frzK, frzL, frzV, dlC, isDL, isD]), ?_⟩
    simp (maxSteps := 4000000) (disch := omega) only [step, stepv, ev, wl, wn, wp, wz, aop, cV, cV1, AV.one, partCells, okW, onlyFr, app, sliceCells, cellsAt, srcA, subA, eqFs, Int.cast_ofNat_Int, simprocAttr, resA, ht, ht0, oneOf, dlC, stillAt]
    simp [frzN, frzK, frzL, frzV, frzL_T _ tl]

def S_dLen (P : Prg) (f : Nat) : Prop := ∀ (v : Nat) (d : Dl), v < 4294967296 → okD d → VC P f [dlA d, .int .u32 v] (.tup [.int .i64 (codeN d v), .int .i64 0])
theorem dual_Length {P : Prg} {f fD fV fR t0 : Nat} (bd : Body P f 37 [.tmp 4, .tmp 5] (ac_dual_Length fD fV fR t0)) (hD : S_DCheck P fD) (hLv : S_Level P fV) (hR : S_rLen P fR) : S_dLen P f := by
  intro v d hv hd
  refine VC.of_acall (by simp [isDL, isD_dlA, isD]) rfl (ACall.of_body bd (by simp) ?_)
  have hD' := hD d hd
  have hLv' := hLv d v hd hv
  obtain ⟨k0, k1, s0, s1⟩ := d
  obtain ⟨h1, h2, h3, h4⟩ := hd
  simp only at h1 h2 h3 h4
  simp only [dlA, dlC] at hD' hLv' ⊢
  unfold codeN
  by_cases c : v < 2 ^ k0
  · simp only [c, if_true] at hLv' ⊢
    simp (maxSteps := 4000000) (disch := omega) only [step, stepv, ev, wl, wn, wp, wz, aop, cV, cV1, AV.one, partCells, okW, onlyFr, app, sliceCells, cellsAt, srcA, subA, eqFs, Int.cast_ofNat_Int, simprocAttr, ac_dual_Length]
    refine callQ.vc hD' ?_
    simp (maxSteps := 4000000) (disch := omega) only [step, stepv, ev, wl, wn, wp, wz, aop, cV, cV1, AV.one, partCells, okW, onlyFr, app, sliceCells, cellsAt, srcA, subA, eqFs, Int.cast_ofNat_Int, simprocAttr]
    refine callQ.vc hLv' ?_
    simp (maxSteps := 4000000) (disch := omega) only [step, stepv, ev, wl, wn, wp, wz, aop, cV, cV1, AV.one, partCells, okW, onlyFr, app, sliceCells, cellsAt, srcA, subA, eqFs, Int.cast_ofNat_Int, simprocAttr]
  · simp only [c, if_false] at hLv' ⊢
    have hR' := hR (v - 2 ^ k0) k1 (Nat.lt_of_le_of_lt (Nat.sub_le _ _) hv) h2
    have hrl := riceN_le (v := v - 2 ^ k0) h2
    generalize riceN (v - 2 ^ k0) k1 = rn at *
    generalize v - 2 ^ k0 = lf at *
    simp (maxSteps := 4000000) (disch := omega) only [step, stepv, ev, wl, wn, wp, wz, aop, cV, cV1, AV.one, partCells, okW, onlyFr, app, sliceCells, cellsAt, srcA, subA, eqFs, Int.cast_ofNat_Int, simprocAttr, ac_dual_Length]
    refine callQ.vc hD' ?_
    simp (maxSteps := 4000000) (disch := omega) only [step, stepv, ev, wl, wn, wp, wz, aop, cV, cV1, AV.one, partCells, okW, onlyFr, app, sliceCells, cellsAt, srcA, subA, eqFs, Int.cast_ofNat_Int, simprocAttr]
    refine callQ.vc hLv' ?_
    simp (maxSteps := 4000000) (disch := omega) only [step, stepv, ev, wl, wn, wp, wz, aop, cV, cV1, AV.one, partCells, okW, onlyFr, app, sliceCells, cellsAt, srcA, subA, eqFs, Int.cast_ofNat_Int, simprocAttr]
    refine callQ.vc hR' ?_
    simp (maxSteps := 4000000) (disch := omega) only [step, stepv, ev, wl, wn, wp, wz, aop, cV, cV1, AV.one, partCells, okW, onlyFr, app, sliceCells, cellsAt, srcA, subA, eqFs, Int.cast_ofNat_Int, simprocAttr]

def S_dLearn (P : Prg) (f : Nat) : Prop := ∀ (v : Nat) (d : Dl), v < 4294967296 → okD d → VC P f [dlA d, .int .u32 v] (.tup [dlA (learnM d v), .int .i64 0])
theorem dual_Learn {P : Prg} {f fD fL fl1 fll t1 : Nat} (bd : Body P f 16 [.cell 4 t1, .tmp 5] (ac_dual_Learn fD fL t1)) (hD : S_DCheck P fD) (bL : Body P fL 36 [] (ac_dual_learn fl1 fll)) (b1 : Body P fl1 58 [] ac_dual_learn_1) (hL : S_Level P fll) (ht : aggO P t1 = some (some 4)) : S_dLearn P f := by
  intro v d hv hd
  refine VC.of_acall (by simp [isDL, isD_dlA, isD]) (by simp [isD, isDL, isD_dlA]) (ACall.of_body bd (by simp) ?_)
  have hD' := hD d hd
  have hL1 : ∀ {ob : List Ob} {p : Nat} {v : Nat} {K : AV → List Ob → Prop}, ob[p]? = some ⟨t1, 4, 1, dlC d, 0⟩ → v < 4294967296 → K (.tup []) (ob.set p ⟨t1, 4, 1, dlC (learnM d v), 0⟩) → ACall P fL [.ref p 1 0, .int .u32 v] ob K :=
    fun hp hv hK => dual_learn bL b1 hL hp hd hv hK
  obtain ⟨k0, k1, s0, s1⟩ := d
  simp only [dlA, dlC] at hD'
  simp (maxSteps := 4000000) (disch := omega) only [step, stepv, ev, wl, wn, wp, wz, aop, cV, cV1, AV.one, partCells, okW, onlyFr, app, sliceCells, cellsAt, srcA, subA, eqFs, Int.cast_ofNat_Int, simprocAttr, ac_dual_Learn, dlA, dlC]
  refine callQ.vc hD' ?_
  simp (maxSteps := 4000000) (disch := omega) only [step, stepv, ev, wl, wn, wp, wz, aop, cV, cV1, AV.one, partCells, okW, onlyFr, app, sliceCells, cellsAt, srcA, subA, eqFs, Int.cast_ofNat_Int, simprocAttr]
  refine hL1 (v := v) rfl hv ?_
  generalize learnM ⟨k0, k1, s0, s1⟩ v = d'
  obtain ⟨l0, l1, l2, l3⟩ := d'
  simp (maxSteps := 4000000) (disch := omega) only [step, stepv, ev, wl, wn, wp, wz, aop, cV, cV1, AV.one, partCells, okW, onlyFr, app, sliceCells, cellsAt, srcA, subA, eqFs, Int.cast_ofNat_Int, simprocAttr, resA, ht, oneOf, dlC]

end Go.Am

namespace Go.Am
open Go.RowKit

/-! ### Bits are put behind bits, one by one: enframe -/

theorem Low.putB {ob : List Ob} (h : Low ob.length ob) {t t0 t2 o p N V N' n C : Nat} (ho : o < ob.length) : Low (ob.length + 1) (upd2 ob o p (bY t0 N V) (bO t o N') ++ [⟨t2, 2, 1, [.list (nB n) (u8 (leB C (nB n))), .int .i64 n], 0⟩]) :=
  ((h.put ho).mono (by omega)).append (Low.cons (by simp [lowL, lowV, lowL_D _ (isDL_leB _ _)]) Low.nil)

set_option maxHeartbeats 1000000 in
theorem enframe_put {P : Prg} {f t0 t1 : Nat} (bd : Body P f 64 [] (ac_enframe_put t0 t1)) {ob : List Ob} {t p o N V C n : Nat} (hp : ob[p]? = some (bO t o N)) (ho : ob[o]? = some (bY t1 N V)) (hpo : p ≠ o) (hV : V < 2 ^ N) (hC : C < 2 ^ n) (hn : n ≤ 1000) (hN : N + n ≤ 400000) (hfz : Low ob.length ob)
    {K : AV → List Ob → Prop} (hK : K (.tup []) (upd2 ob o p (bY t1 (N + n) (V + 2 ^ N * C)) (bO t o (N + n)))) : ACall P f [.ref p 1 0, bA n C] ob K := by
  have hol : o < ob.length := (List.getElem?_eq_some_iff.1 ho).1
  have hpl : p < ob.length := (List.getElem?_eq_some_iff.1 hp).1
  refine ACall.low (ACall.of_body bd (by simp) ?_)
  have g0 : ∀ x y J, (upd2 ob o p x y ++ J)[p]? = some y := fun x y J => by rw [List.getElem?_append_left (by rw [upd2_len]; exact hpl)]; exact upd2_gp hpl
  have g1 : ∀ x y J, (upd2 ob o p x y ++ J)[o]? = some x := fun x y J => by rw [List.getElem?_append_left (by rw [upd2_len]; exact hol)]; exact upd2_go hol hpo
  have g2 : ∀ x y J y', (upd2 ob o p x y ++ J).set p y' = upd2 ob o p x y' ++ J := fun x y J y' => by rw [List.set_append_left _ _ (by rw [upd2_len]; exact hpl), upd2_p]
  have g3 : ∀ x y J x', (upd2 ob o p x y ++ J).set o x' = upd2 ob o p x' y ++ J := fun x y J x' => by rw [List.set_append_left _ _ (by rw [upd2_len]; exact hol), upd2_o hpo]
  have g4 : ∀ x y (J : List Ob), (upd2 ob o p x y ++ J)[ob.length]? = J[0]? := fun x y J => by rw [List.getElem?_append_right (by rw [upd2_len]; exact Nat.le_refl _), upd2_len, Nat.sub_self]
  have g5 : ∀ x y (J : List Ob), (upd2 ob o p x y ++ J)[ob.length + 1]? = J[1]? := fun x y J => by rw [List.getElem?_append_right (by rw [upd2_len]; omega), upd2_len, Nat.add_sub_cancel_left]
  have ln : ∀ x y, (upd2 ob o p x y).length = ob.length := fun x y => upd2_len
  have hs : ob = upd2 ob o p (bY t1 N V) (bO t o N) := (upd2_same ho hp hpo).symm
  simp (maxSteps := 4000000) (disch := omega) only [step, stepv, ev, wl, wn, wp, wz, aop, cV, cV1, AV.one, partCells, okW, onlyFr, app, sliceCells, cellsAt, srcA, subA, eqFs, Int.cast_ofNat_Int, simprocAttr, ac_enframe_put, bA, getJ0]
  refine ALoop.by (ι := Nat) (fun j => ⟨[(8, .int .i64 j), (7, .int .i64 n), (3, .ref ob.length 1 0), (0, .ref p 1 0)], upd2 ob o p (bY t1 (N + j) (V + 2 ^ N * (C % 2 ^ j))) (bO t o (N + j)) ++ [⟨t0, 2, 1, [.list (nB n) (u8 (leB C (nB n))), .int .i64 n], 0⟩]⟩) (fun j => j ≤ n) (fun j => n - j) 0 ?_ (by omega) ?_
  · rw [Nat.add_zero, Nat.pow_zero, Nat.mod_one, Nat.mul_zero, Nat.add_zero, ← hs]
    exact Le.slots (by simp [Am.look])
  intro j hj
  by_cases hlt : j < n
  · obtain ⟨M, hM⟩ : ∃ M, M = N + j := ⟨_, rfl⟩
    obtain ⟨i, hi⟩ : ∃ i, i = M / 8 := ⟨_, rfl⟩
    obtain ⟨a, ha⟩ : ∃ a, a = M % 8 := ⟨_, rfl⟩
    obtain ⟨q, hq⟩ : ∃ q, q = j / 8 := ⟨_, rfl⟩
    obtain ⟨r, hr⟩ : ∃ r, r = j % 8 := ⟨_, rfl⟩
    obtain ⟨b, hb0⟩ : ∃ b, b = C / 2 ^ j % 2 := ⟨_, rfl⟩
    have hM8 : M = 8 * i + a := by omega
    have hj8 : 8 * q + r = j := by omega
    have hb : b < 2 := by rw [hb0]; exact Nat.mod_lt _ (by decide)
    have hW : V + 2 ^ N * (C % 2 ^ j) < 2 ^ M := by
      rw [hM]
      exact lt_append hV (Nat.mod_lt _ (Nat.pow_pos (by omega)))
    have hstep := putN (V := V) (N := N) (v := C) (j := j) (r := 1)
    rw [← hM, Nat.pow_one, ← hb0] at hstep
    have hat := leB_at (V := C) (k := nB n) (i := q) (by unfold nB; omega)
    have hbit := bit_at C q r (by omega)
    rw [hj8, ← hb0] at hbit
    have hby : C / 256 ^ q % 256 < 256 := Nat.mod_lt _ (by decide)
    have s1 : shiftA false .u8 ((C / 256 ^ q % 256 : Nat) : Int) (r : Int) = some (.int .u8 ((C / 256 ^ q % 256 / 2 ^ r : Nat) : Int)) := shrK (K := .u8) (by show r ≤ 8; omega)
    have hle : C / 256 ^ q % 256 / 2 ^ r ≤ C / 256 ^ q % 256 := Nat.div_le_self _ _
    have s2 : IntKind.u8.wrap (BitVec.ofInt IntKind.u8.bits ((C / 256 ^ q % 256 / 2 ^ r : Nat) : Int) &&& BitVec.ofInt IntKind.u8.bits ((1 : Nat) : Int)).toNat = ((b : Nat) : Int) := by
      rw [andK (K := .u8) rfl (by show _ < 256; omega) (by decide), Nat.and_one_is_mod, hbit]
    have s2' : IntKind.u8.wrap (BitVec.ofInt IntKind.u8.bits ((C / 256 ^ q % 256 / 2 ^ r : Nat) : Int) &&& BitVec.ofInt IntKind.u8.bits 1).toNat = ((b : Nat) : Int) := s2
    generalize C / 256 ^ q % 256 / 2 ^ r = y1 at *
    generalize C / 256 ^ q % 256 = y0 at *
    rw [← hM]
    have hq1 : (j : Int) / 8 = (q : Int) := by omega
    have hr1 : (j : Int) % 8 = (r : Int) := by omega
    have hi1 : (M : Int) / 8 = (i : Int) := by omega
    have ha1 : (M : Int) % 8 = (a : Int) := by omega
    have hnq : q < nB n := by unfold nB; omega
    generalize V + 2 ^ N * (C % 2 ^ j) = W at *
    generalize hWW : V + 2 ^ N * (C % 2 ^ (j + 1)) = W' at *
    have h2a : 2 ^ a ≤ 2 ^ 7 := Nat.pow_le_pow_right (by omega) (by omega)
    have hpos : 0 < 2 ^ a := Nat.pow_pos (by omega)
    obtain ⟨l1, l2⟩ := bits_last (V := W) (i := i) (at_ := a) (by rw [← hM8]; exact hW) (by omega)
    obtain ⟨b1, b2, _⟩ := bits_put_plain (V := W) (i := i) (at_ := a) (w := b) (r := 1) (by rw [← hM8]; exact hW) (by omega) (by omega)
    rw [← hM8, ← hstep] at b1
    have hyb : W / 256 ^ i < 256 := by omega
    have hyb2 : W / 256 ^ i + 2 ^ a * b < 256 := by
      have : 2 ^ (a + 1) ≤ 2 ^ 8 := Nat.pow_le_pow_right (by omega) (by omega)
      omega
    have hca : b * 2 ^ a < 2 ^ 8 := by
      rcases (by omega : b = 0 ∨ b = 1) with rfl | rfl <;> omega
    have hu : ∀ y, y < 256 → u8 [UInt8.ofNat y] = [.int .u8 (y : Int)] := fun y hy => by simp [u8]; omega
    have e8 : IntKind.u8.wrap (BitVec.ofInt IntKind.u8.bits ((W / 256 ^ i : Nat) : Int) ||| BitVec.ofInt IntKind.u8.bits ((b * 2 ^ a : Nat) : Int)).toNat = ((W / 256 ^ i + 2 ^ a * b : Nat) : Int) := by
      rw [orK (K := .u8) rfl hyb hca, or_add l2, Nat.mul_comm]
    have e7 : shiftA true .u8 (b : Int) (a : Int) = some (.int .u8 ((b * 2 ^ a : Nat) : Int)) := shlK rfl (by show a ≤ 8; omega) hca
    have hnB : nB (M + 1) = i + 1 := by unfold nB; omega
    have hcell : u8 (leB W' (i + 1)) = u8 (leB W i) ++ [.int .u8 ((W / 256 ^ i + 2 ^ a * b : Nat) : Int)] := by
      rw [b1, show u8 (leB W i ++ [UInt8.ofNat (W / 256 ^ i + 2 ^ a * b)]) = u8 (leB W i) ++ u8 [UInt8.ofNat (W / 256 ^ i + 2 ^ a * b)] by simp [u8]]
      rw [hu _ hyb2]
    have hlen : (u8 (leB W i)).length = i := by simp [u8, leB_length]
    generalize W / 256 ^ i + 2 ^ a * b = y' at *
    generalize b * 2 ^ a = ca at *
    have d1 : ∀ z : AV, (u8 (leB W i) ++ [z]).drop i = [z] := fun z => by rw [List.drop_left' hlen]
    have d2 : ∀ z : AV, (u8 (leB W i) ++ [z]).take i = u8 (leB W i) := fun z => by rw [List.take_left' hlen]
    have d3 : ∀ z : AV, (u8 (leB W i) ++ [z]).drop (i + 1) = [] := fun z => List.drop_of_length_le (by simp [hlen])
    have el : (⟨t1, 1, i + 1, u8 (leB W i) ++ [.int .u8 (y' : Int)], 0⟩ : Ob) = bY t1 (M + 1) W' := by rw [bY, hnB, hcell]
    have er : (⟨t, 2, 1, [.own o (i + 1), .int .i64 ((M : Int) + 1)], 0⟩ : Ob) = bO t o (M + 1) := by rw [bO, hnB, Int.natCast_add]; rfl
    have hMr : N + (j + 1) = M + 1 := by omega
    have hcl : (u8 (leB C (nB n))).length = nB n := by simp [u8, leB_length]
    by_cases h0 : a = 0
    · subst h0
      have hnM : nB M = i := by unfold nB; omega
      have hW0 : W / 256 ^ i = 0 := by
        have := l2
        rw [Nat.pow_zero] at this
        exact Nat.lt_one_iff.1 this
      rw [hW0] at e8
      have e8' : IntKind.u8.wrap (BitVec.ofInt IntKind.u8.bits 0 ||| BitVec.ofInt IntKind.u8.bits (ca : Int)).toNat = (y' : Int) := e8
      have e7' : shiftA true .u8 (b : Int) 0 = some (.int .u8 (ca : Int)) := e7
      have ha1' : (M : Int) % 8 = 0 := ha1
      simp (maxSteps := 4000000) (disch := omega) only [step, stepv, ev, wl, wn, wp, wz, aop, cV, cV1, AV.one, partCells, okW, onlyFr, app, sliceCells, cellsAt, srcA, subA, eqFs, Int.cast_ofNat_Int, simprocAttr, bO, bY, g0, g1, g2, g3, g4, g5, ln, hnM, hlen, hcl, hat, s1, s2', e7', e8', hq1, hr1, hi1, ha1', d1, d2, d3, List.append_assoc, List.cons_append, List.nil_append]
      refine ⟨j + 1, by omega, by omega, ?_⟩
      show Le ob.length _ ⟨[(8, .int .i64 ((j + 1 : Nat) : Int)), (7, .int .i64 n), (3, .ref ob.length 1 0), (0, .ref p 1 0)], upd2 ob o p (bY t1 (N + (j + 1)) (V + 2 ^ N * (C % 2 ^ (j + 1)))) (bO t o (N + (j + 1))) ++ [⟨t0, 2, 1, [.list (nB n) (u8 (leB C (nB n))), .int .i64 n], 0⟩]⟩
      rw [hWW, hMr, el, er, List.append_cons]
      have hl : (upd2 ob o p (bY t1 (M + 1) W') (bO t o (M + 1)) ++ [⟨t0, 2, 1, [.list (nB n) (u8 (leB C (nB n))), .int .i64 n], 0⟩] : List Ob).length = ob.length + 1 := by simp [ln]
      exact Le.low (by rw [hl]; omega) (by rw [hl]; exact hfz.putB hol) (by rw [hl]; simp [Am.look, lowV, Nat.lt_succ_of_lt hpl])
    · have hnM : nB M = i + 1 := by unfold nB; omega
      have l3 : u8 (leB W (i + 1)) = u8 (leB W i) ++ [.int .u8 ((W / 256 ^ i : Nat) : Int)] := by
        rw [l1, show u8 (leB W i ++ [UInt8.ofNat (W / 256 ^ i)]) = u8 (leB W i) ++ u8 [UInt8.ofNat (W / 256 ^ i)] by simp [u8], hu _ hyb]
      have ha0 : (a : Int) ≠ 0 := by omega
      generalize W / 256 ^ i = y at *
      simp (maxSteps := 4000000) (disch := omega) only [step, stepv, ev, wl, wn, wp, wz, aop, cV, cV1, AV.one, partCells, okW, onlyFr, app, sliceCells, cellsAt, srcA, subA, eqFs, Int.cast_ofNat_Int, simprocAttr, bO, bY, g0, g1, g2, g3, g4, g5, ln, hnM, hlen, hcl, l3, hat, s1, s2', e7, e8, hq1, hr1, hi1, ha1, d1, d2, d3, List.append_assoc, List.cons_append, List.nil_append]
      refine ⟨j + 1, by omega, by omega, ?_⟩
      show Le ob.length _ ⟨[(8, .int .i64 ((j + 1 : Nat) : Int)), (7, .int .i64 n), (3, .ref ob.length 1 0), (0, .ref p 1 0)], upd2 ob o p (bY t1 (N + (j + 1)) (V + 2 ^ N * (C % 2 ^ (j + 1)))) (bO t o (N + (j + 1))) ++ [⟨t0, 2, 1, [.list (nB n) (u8 (leB C (nB n))), .int .i64 n], 0⟩]⟩
      rw [hWW, hMr, el, er]
      exact Le.slots (by simp [Am.look])
  · obtain rfl : j = n := by omega
    rw [Nat.mod_eq_of_lt hC]
    simp (maxSteps := 4000000) (disch := omega) only [step, stepv, ev, wl, wn, wp, wz, aop, cV, cV1, AV.one, partCells, okW, onlyFr, app, sliceCells, cellsAt, srcA, subA, eqFs, Int.cast_ofNat_Int, simprocAttr]
    exact ⟨upd2 ob o p (bY t1 (N + j) (V + 2 ^ N * C)) (bO t o (N + j)), _, rfl, by rw [ln]; exact Nat.le_refl _, by rw [ln]; exact hfz.put hol, by rfl, hK⟩

end Go.Am

namespace Go.Am
open Go.RowKit

/-! ### Codes are read back (plain) -/

theorem mod_split {X m n A B : Nat} (hA : A < 2 ^ m) : X % 2 ^ (m + n) = A + 2 ^ m * B ↔ X % 2 ^ m = A ∧ X / 2 ^ m % 2 ^ n = B := by
  rw [Nat.pow_add, Nat.mod_mul]
  have h1 : X % 2 ^ m < 2 ^ m := Nat.mod_lt _ (Nat.pow_pos (by omega))
  constructor
  · intro h
    have e1 : X % 2 ^ m = A := by
      have := congrArg (· % 2 ^ m) h
      simpa [Nat.add_mul_mod_self_left, Nat.mod_eq_of_lt h1, Nat.mod_eq_of_lt hA] using this
    rw [e1] at h
    have e2 : 2 ^ m * (X / 2 ^ m % 2 ^ n) = 2 ^ m * B := by omega
    exact ⟨e1, Nat.eq_of_mul_eq_mul_left (Nat.pow_pos (by omega)) e2⟩
  · rintro ⟨e1, e2⟩
    rw [e1, e2]

end Go.Am

namespace Go.Am
open Go.RowKit

/-! ### What is mixed is unmixed, what is stepped is stepped back (plain) -/

theorem cfwdY_rng (c : Chan) (x : Int) : -2147483648 ≤ cfwdY c x ∧ cfwdY c x ≤ 2147483647 := w32_rng _

end Go.Am

namespace Go.Am
open Go.RowKit

/-! ### Frames: coded and decoded (plain) -/

def valE (c : Nat) (x : Int) (t l : List Int) : List Nat := (outT c (mixAll c l) (newC x t) l.length).map Int.toNat
def encB (c : Nat) (x : Int) (t l : List Int) : List UInt8 := sealB (frmB c (valE c x t l))

theorem outT_U32 (c : Nat) (L : List Int) (z : Chan) (a : Nat) : U32 (outT c L z a) := by
  intro y hy
  simp only [outT, List.mem_map] at hy
  obtain ⟨j, _, rfl⟩ := hy
  exact foldN_rng (cfwdY_rng _ _)
theorem iL_toNat {v : List Int} (h : U32 v) : iL (v.map Int.toNat) = v := by
  unfold iL
  rw [List.map_map]
  conv => rhs; rw [← List.map_id v]
  apply List.map_congr_left
  intro y hy
  have := h y hy
  simp; omega
theorem N32_toNat {v : List Int} (h : U32 v) : N32 (v.map Int.toNat) := by
  intro y hy
  simp only [List.mem_map] at hy
  obtain ⟨z, hz, rfl⟩ := hy
  have := h z hz
  omega
theorem valE_len (c : Nat) (x : Int) (t l : List Int) : (valE c x t l).length = l.length := by simp [valE, outT_len]
theorem valE_ok (c : Nat) (x : Int) (t l : List Int) : N32 (valE c x t l) := N32_toNat (outT_U32 _ _ _ _)
theorem iL_valE (c : Nat) (x : Int) (t l : List Int) : iL (valE c x t l) = outT c (mixAll c l) (newC x t) l.length := iL_toNat (outT_U32 _ _ _ _)

theorem frmB_bounds {c : Nat} {v : List Nat} (h : N32 v) (h1 : 1 ≤ v.length) (h2 : v.length ≤ 4000) : 1 ≤ (frmB c v).length ∧ (frmB c v).length ≤ 40500 := by
  obtain ⟨_, q2, q3⟩ := frm_bounds (c := c) h v.length
  rw [frmB_len]
  unfold nB
  omega
theorem ask_all {c x : Int} {l : List Int} (hI : I32 l) (h : askN c x l = 0) : ∃ k m : Nat, c = k ∧ okM k l ∧ half x ≠ 0 ∧ eCheck c x = 0 ∧ checkN x l = 0 ∧ l.length = m * k ∧ 1 ≤ m ∧ (l.length : Int) / c = m ∧ ask21 c x ((l.length : Int) / c) = 0 := by
  obtain ⟨k, rfl, hk, hx⟩ := ask_okM hI h
  have hk' := hk
  obtain ⟨h1, h2, h3, h4, h5, _⟩ := hk'
  have e1 : eCheck k x = 0 := by
    rcases eCheck_cases k x with q | ⟨q, _⟩
    · rw [ask_err q] at h; omega
    · exact q
  have e2 : checkN x l = 0 := by
    rcases Int.decEq (checkN x l) 0 with q | q
    · rw [ask_chk e1 q] at h; exact absurd h q
    · exact q
  have e3 : l.length = l.length / k * k := by have := Nat.div_add_mod l.length k; rw [Nat.mul_comm] at this; omega
  have e4 : 1 ≤ l.length / k := by
    rcases Nat.eq_zero_or_pos (l.length / k) with q | q
    · rw [q] at e3; omega
    · exact q
  have e5 : (l.length : Int) / (k : Int) = ((l.length / k : Nat) : Int) := by rw [Int.natCast_ediv]
  refine ⟨k, l.length / k, rfl, hk, hx, e1, e2, e3, e4, e5, ?_⟩
  have e6 : l.length / k ≤ 4000 / k := Nat.div_le_div_right h4
  have e7 : (4000 : Int) / (k : Int) = ((4000 / k : Nat) : Int) := by rw [Int.natCast_ediv]; rfl
  unfold ask21
  rw [if_neg (by omega), e5, e7, if_neg (by omega), if_neg (by omega)]

end Go.Am

namespace Go.Am
open Go.RowKit

/-! ### First states; slices of bytes joined -/

def S_eStates (P : Prg) (f : Nat) : Prop := VC P f [] (.agg (sixD fun _ => startM))
theorem enframe_states {P : Prg} {f fS t0 : Nat} (bd : Body P f 11 [.cell 0 t0] (ac_enframe_states fS t0)) (hS : S_Start P fS) (ht : aggO P t0 = some (some 24)) : S_eStates P f := by
  refine VC.of_acall rfl rfl (ACall.of_body bd (by simp) ?_)
  simp only [S_Start, startM, dlA, dlC] at hS
  simp (maxSteps := 4000000) (disch := omega) only [step, stepv, ev, wl, wn, wp, wz, aop, cV, cV1, AV.one, partCells, okW, onlyFr, app, sliceCells, cellsAt, srcA, subA, eqFs, Int.cast_ofNat_Int, simprocAttr, ac_enframe_states]
  refine ALoop.by (ι := Nat) (fun i => ⟨[(3, .int .i64 i), (1, .ref 1 1 0), (0, .ref 0 1 0)],
      [⟨t0, 24, 1, sixD (fun _ => ⟨0, 0, 0, 0⟩), 0⟩, ⟨t0, 24, 1, sixD (fun j => if j < i then startM else ⟨0, 0, 0, 0⟩), 0⟩]⟩) (fun i => i ≤ 6) (fun i => 6 - i) 0 (Le.slots (by simp [Am.look])) (by omega) ?_
  intro i hi
  by_cases hlt : i < 6
  · have e1 := sixD_set (fun j => if j < i then startM else ⟨0, 0, 0, 0⟩) hlt startM
    have e2 : updD (fun j => if j < i then startM else ⟨0, 0, 0, 0⟩) i startM = fun j => if j < i + 1 then startM else ⟨0, 0, 0, 0⟩ := by
      funext j
      unfold updD
      by_cases h1 : j = i
      · subst h1; simp
      · by_cases h2 : j < i
        · simp [h1, h2, show j < i + 1 by omega]
        · simp [h1, h2, show ¬ j < i + 1 by omega]
    rw [e2] at e1
    have e3 := sixD_len (fun j => if j < i then startM else ⟨0, 0, 0, 0⟩)
    simp (maxSteps := 4000000) (disch := omega) only [step, stepv, ev, wl, wn, wp, wz, aop, cV, cV1, AV.one, partCells, okW, onlyFr, app, sliceCells, cellsAt, srcA, subA, eqFs, Int.cast_ofNat_Int, simprocAttr]
    refine callQ.vc hS ?_
    generalize hF : sixD (fun j => if j < i then startM else ⟨0, 0, 0, 0⟩) = F at *
    have e1' : F.take (i * 4) ++ [.int .i64 10, .int .i64 10, .int .u64 16384, .int .u64 16384] ++ F.drop (i * 4 + 4) = sixD fun j => if j < i + 1 then startM else ⟨0, 0, 0, 0⟩ := e1
    generalize sixD (fun _ => (⟨0, 0, 0, 0⟩ : Dl)) = Z
    simp (maxSteps := 4000000) (disch := omega) only [step, stepv, ev, wl, wn, wp, wz, aop, cV, cV1, AV.one, partCells, okW, onlyFr, app, sliceCells, cellsAt, srcA, subA, eqFs, Int.cast_ofNat_Int, simprocAttr, e3]
    refine ⟨i + 1, by omega, by omega, ?_⟩
    rw [e1']
    exact Le.slots (by simp [Am.look])
  obtain rfl : i = 6 := by omega
  have z1 : sixD (fun j => if j < 6 then startM else ⟨0, 0, 0, 0⟩) = sixD (fun _ => startM) := rfl
  have z2 := sixD_len fun _ => startM
  have z3 := sixD_len fun _ => (⟨0, 0, 0, 0⟩ : Dl)
  rw [z1]
  have z4 : (sixD fun _ => startM).all AV.one = true := rfl
  have z5 : (sixD fun _ => startM).take 24 = sixD fun _ => startM := rfl
  have z6 : (sixD fun _ => (⟨0, 0, 0, 0⟩ : Dl)).drop 24 = [] := rfl
  generalize (sixD fun _ => (⟨0, 0, 0, 0⟩ : Dl)) = Z at *
  generalize (sixD fun _ => startM) = S at *
  simp (maxSteps := 4000000) (disch := omega) only [step, stepv, ev, wl, wn, wp, wz, aop, cV, cV1, AV.one, partCells, okW, onlyFr, app, sliceCells, cellsAt, srcA, subA, eqFs, Int.cast_ofNat_Int, simprocAttr, resA, ht, oneOf, z2, z3, z4, z5, z6, List.take_zero, List.nil_append, List.append_nil]

def partsA (L : List (List UInt8)) : AV := .list L.length (L.map bs)
def S_Concat (P : Prg) (f : Nat) : Prop := ∀ L : List (List UInt8), L.length ≤ 1000000 → 0 < L.flatten.length → L.flatten.length ≤ 1000000 → VC P f [partsA L] (bs L.flatten)
def S_GrowNil (t : Nat) (P : Prg) (f : Nat) : Prop := ∀ (ob : List Ob) (n : Nat) (z : Bool) (K : AV → List Ob → Prop), 0 < n → n ≤ 140737488355328 → K (.own ob.length 0) (ob ++ [⟨t, 1, 0, [], 0⟩]) → ACall P f [.emp z, .int .i64 n] ob K
theorem grow_nil {P : Prg} {f t : Nat} {ρ : Go.Shelf.Ren} (L : Go.Proofs.Lays8.n4 P.prog ρ) (hf : ρ.f 4 = f) (ht : ρ.t 25 = t) (h25 : (P.prog.info? t).map (fun i => (i.zero, i.size, i.bytes)) = some (some (.int .u8 0), 1, 1)) : S_GrowNil t P f := by
  intro ob n z K h1 h2 hK
  subst hf; subst ht
  exact ACall.grow_nil L h25 h1 h2 hK
theorem flat_take {L : List (List UInt8)} {k : Nat} (h : k < L.length) : (L.take (k + 1)).flatten = (L.take k).flatten ++ L.getD k [] := by
  rw [List.take_succ_eq_append_getElem h, List.flatten_append, List.getD_eq_getElem?_getD, List.getElem?_eq_getElem h]
  simp
theorem flat_le (L : List (List UInt8)) (k : Nat) : (L.take k).flatten.length ≤ L.flatten.length := by
  conv => rhs; rw [← List.take_append_drop k L, List.flatten_append, List.length_append]
  omega
theorem slices_Concat {P : Prg} {f fG t0 : Nat} (bd : Body P f 36 [.tmp 2] (ac_slices_Concat_byte_byte fG t0)) (hG : S_GrowNil t0 P fG) : S_Concat P f := by
  intro L hL h0 h1
  refine VC.of_walk 1 (by simp [isDL, isD, partsA, isDL_bss]) (isD_bs _) (ACall.of_body bd (by simp) ?_)
  have hat : ∀ k, k < L.length → (L.map bs).drop k = bs (L.getD k []) :: (L.map bs).drop (k + 1) := fun k hk => by
    rw [List.drop_eq_getElem_cons (by simpa using hk)]
    simp [List.getD_eq_getElem?_getD, List.getElem?_eq_getElem hk]
  have hml : (L.map bs).length = L.length := by simp
  simp only [bs] at hat
  simp (maxSteps := 4000000) (disch := omega) only [step, stepv, ev, wl, wn, wp, wz, aop, cV, cV1, AV.one, partCells, okW, onlyFr, app, sliceCells, cellsAt, srcA, subA, eqFs, Int.cast_ofNat_Int, simprocAttr, ac_slices_Concat_byte_byte, partsA]
  refine ALoop.by (ι := Nat) (fun k => ⟨[(11, .int .i64 k), (10, .int .i64 L.length), (9, .list L.length (L.map bs)), (3, .int .i64 (L.take k).flatten.length), (0, .list L.length (L.map bs))], []⟩) (fun k => k ≤ L.length) (fun k => L.length - k) 0 (Le.slots (by simp [Am.look])) (by omega) ?_
  intro k hk
  by_cases hlt : k < L.length
  · have ha := hat k hlt
    have hf := flat_take hlt
    have hle := flat_le L (k + 1)
    rw [hf, List.length_append] at hle
    have hl : ((L.take (k + 1)).flatten.length : Int) = (L.take k).flatten.length + (L.getD k []).length := by rw [hf]; simp
    generalize (L.take k).flatten.length = s at *
    generalize L.getD k [] = x at *
    simp (maxSteps := 4000000) (disch := omega) only [step, stepv, ev, wl, wn, wp, wz, aop, cV, cV1, AV.one, partCells, okW, onlyFr, app, sliceCells, cellsAt, srcA, subA, eqFs, Int.cast_ofNat_Int, simprocAttr, ha, hml]
    exact ⟨k + 1, by omega, by omega, by simp only [hl]; exact Le.slots (by simp [Am.look])⟩
  obtain rfl : k = L.length := by omega
  rw [List.take_length]
  have hG' := fun K hK => hG [] L.flatten.length true K h0 (by omega) hK
  simp (maxSteps := 4000000) (disch := omega) only [step, stepv, ev, wl, wn, wp, wz, aop, cV, cV1, AV.one, partCells, okW, onlyFr, app, sliceCells, cellsAt, srcA, subA, eqFs, Int.cast_ofNat_Int, simprocAttr]
  refine hG' _ ?_
  simp (maxSteps := 4000000) (disch := omega) only [step, stepv, ev, wl, wn, wp, wz, aop, cV, cV1, AV.one, partCells, okW, onlyFr, app, sliceCells, cellsAt, srcA, subA, eqFs, Int.cast_ofNat_Int, simprocAttr]
  refine ALoop.by (ι := Nat) (fun k => ⟨[(27, .int .i64 k), (26, .int .i64 L.length), (25, .list L.length (L.map bs)), (6, .own 0 (L.take k).flatten.length)], [⟨t0, 1, (L.take k).flatten.length, u8 (L.take k).flatten, 0⟩]⟩) (fun k => k ≤ L.length) (fun k => L.length - k) 0 (Le.slots (by simp [Am.look])) (by omega) ?_
  intro k hk
  by_cases hlt : k < L.length
  · have ha := hat k hlt
    have hf := flat_take hlt
    have hle := flat_le L (k + 1)
    rw [hf, List.length_append] at hle
    have hl : (L.take (k + 1)).flatten.length = (L.take k).flatten.length + (L.getD k []).length := by rw [hf]; simp
    have hu : u8 (L.take (k + 1)).flatten = u8 (L.take k).flatten ++ u8 (L.getD k []) := by rw [hf, u8_append]
    have hc : (u8 (L.take k).flatten).length = (L.take k).flatten.length := u8_length _
    have hx : (u8 (L.getD k [])).length = (L.getD k []).length := u8_length _
    generalize u8 (L.take k).flatten = cs at *
    generalize (L.take k).flatten.length = s at *
    generalize u8 (L.getD k []) = us at *
    generalize (L.getD k []).length = xl at *
    simp (maxSteps := 4000000) (disch := omega) only [step, stepv, ev, wl, wn, wp, wz, aop, cV, cV1, AV.one, partCells, okW, onlyFr, app, sliceCells, cellsAt, srcA, subA, eqFs, Int.cast_ofNat_Int, simprocAttr, ha, hml, hc, hx]
    exact ⟨k + 1, by omega, by omega, by rw [hl, hu]; exact Le.slots (by simp [Am.look])⟩
  obtain rfl : k = L.length := by omega
  rw [List.take_length]
  simp (maxSteps := 4000000) (disch := omega) only [step, stepv, ev, wl, wn, wp, wz, aop, cV, cV1, AV.one, partCells, okW, onlyFr, app, sliceCells, cellsAt, srcA, subA, eqFs, Int.cast_ofNat_Int, simprocAttr]
  simp [frzN, frzK, frzL, frzV, frzL_T _ (isT_u8 _), bs]

end Go.Am

namespace Go.Am
open Go.RowKit

/-! ### Frames are coded: Encode, Length -/

theorem u32L_valE (c : Nat) (x : Int) (t l : List Int) : u32L (outT c (mixAll c l) (newC x t) l.length) = .list l.length (ks .u32 ((valE c x t l).map fun n : Nat => (n : Int))) := by
  have := iL_valE c x t l
  unfold iL at this
  rw [this, u32L, outT_len]
theorem upd_chan {c i : Nat} {v : List Nat} (hc : 1 ≤ c) (hi : i < v.length) : updD (fun j => if j < c then chanM c j (v.take i) else startM) (i % c) (learnM (chanM c (i % c) (v.take i)) (v.getD i 0)) = fun j => if j < c then chanM c j (v.take (i + 1)) else startM := by
  have ht : v.take (i + 1) = v.take i ++ [v.getD i 0] := by
    rw [List.take_succ_eq_append_getElem hi]
    simp [List.getD_eq_getElem?_getD, List.getElem?_eq_getElem hi]
  have hl : (v.take i).length = i := by simp; omega
  have hr : i % c < c := Nat.mod_lt _ (by omega)
  funext j
  unfold updD
  rw [ht]
  by_cases hj : j = i % c
  · subst hj
    rw [if_pos rfl, if_pos hr, chan_snoc, if_pos (by rw [hl])]
  · rw [if_neg hj]
    by_cases hjc : j < c
    · simp only [hjc, if_true]
      rw [chan_snoc, if_neg (by rw [hl]; exact fun e => hj e.symm)]
    · simp only [hjc, if_false]

def enfA (c x : Int) (t l : List Int) : AV := if askN c x l ≠ 0 then .tup [.list 0 [], .int .i64 (askN c x l)] else .tup [bs (encB c.toNat x t l), .int .i64 0]
theorem isD_enfA (c x : Int) (t l : List Int) : isD (enfA c x t l) = true := by unfold enfA; split <;> simp [isD, isDL, isD_bs]
def S_Enc (P : Prg) (f : Nat) : Prop := ∀ (c x : Int) (t l : List Int), t.length = 16 → I32 t → I32 l → VC P f [shA c x, .agg (ks .i32 t), il l] (enfA c x t l)
set_option maxHeartbeats 2000000 in
set_option maxRecDepth 20000 in
theorem enframe_Encode {P : Prg} {f fV fS fW fP fC fB fK t0 t1 t2 t3 t4 t5 tp tb : Nat} (bd : Body P f 85 [.tmp 6, .tmp 7] (ac_enframe_Encode fV fS fW fP fC fB fK t0 t1 t2 t3 t4 t5)) (hV : S_EVals P fV) (hS : S_eStates P fS) (hW : S_dWrite P fW) (bP : Body P fP 64 [] (ac_enframe_put tp tb)) (hC : S_CSum P fC) (hB : S_leBytes P fB) (hK : S_Concat P fK) : S_Enc P f := by
  intro c x t l ht hI hL
  refine VC.of_walk 1 (by simp [isDL, isD, isDL_ks, isD_il, shA]) (isD_enfA _ _ _ _) (ACall.of_body bd (by simp) ?_)
  have hk : (ks .i32 t).length = 16 := by simp [ks_length, ht]
  have tt : (ks .i32 t).take 16 = ks .i32 t := take_all (by omega)
  have ot := ks_one .i32 t
  have hV' := hV c x t l ht hI hL
  unfold enfA
  by_cases h0 : askN c x l = 0
  case neg =>
    rw [valA, if_pos h0] at hV'
    rw [if_pos h0]
    rw [shA] at hV' ⊢
    simp (maxSteps := 4000000) (disch := omega) only [step, stepv, ev, wl, wn, wp, wz, aop, cV, cV1, AV.one, partCells, okW, onlyFr, app, sliceCells, cellsAt, srcA, subA, eqFs, Int.cast_ofNat_Int, simprocAttr, ac_enframe_Encode, hk, ot, tt]
    refine callQ.vc hV' ?_
    simp (maxSteps := 4000000) (disch := omega) only [step, stepv, ev, wl, wn, wp, wz, aop, cV, cV1, AV.one, partCells, okW, onlyFr, app, sliceCells, cellsAt, srcA, subA, eqFs, Int.cast_ofNat_Int, simprocAttr, h0]
    simp [frzN, frzK, frzL, frzV]
  obtain ⟨k, m, rfl, hkM, hx, e1, e2, e3, e4, e5, e6⟩ := ask_all hL h0
  obtain ⟨c1, c6, l0, l4, lm, _⟩ := hkM
  rw [valA, if_neg (by omega), Int.toNat_natCast, u32L_valE] at hV'
  rw [if_neg (by omega), Int.toNat_natCast, encB, sealB]
  have hv := valE_ok k x t l
  have hvl := valE_len k x t l
  rw [← hvl] at hV' l0 l4
  generalize valE k x t l = v at *
  rw [shA] at hV' ⊢
  have hfb := frm_bounds (c := k) hv
  have hkv : (ks .u32 (v.map fun n : Nat => (n : Int))).length = v.length := by simp [ks]
  have s24 := sixD_len fun _ => startM
  have sone : (sixD fun _ => startM).all AV.one = true := rfl
  have stk : (sixD fun _ => startM).take 24 = sixD fun _ => startM := rfl
  have z2 : (fun j => if j < k then chanM k j (v.take 0) else startM) = fun _ => startM := by
    funext j
    rw [List.take_zero]
    split <;> rfl
  simp only [S_eStates] at hS
  simp (maxSteps := 4000000) (disch := omega) only [step, stepv, ev, wl, wn, wp, wz, aop, cV, cV1, AV.one, partCells, okW, onlyFr, app, sliceCells, cellsAt, srcA, subA, eqFs, Int.cast_ofNat_Int, simprocAttr, ac_enframe_Encode, hk, ot, tt]
  refine callQ.vc hV' ?_
  simp (maxSteps := 4000000) (disch := omega) only [step, stepv, ev, wl, wn, wp, wz, aop, cV, cV1, AV.one, partCells, okW, onlyFr, app, sliceCells, cellsAt, srcA, subA, eqFs, Int.cast_ofNat_Int, simprocAttr, hkv]
  refine callQ.vc hS ?_
  generalize hS0 : (sixD fun _ => startM) = S0 at *
  simp (maxSteps := 4000000) (disch := omega) only [step, stepv, ev, wl, wn, wp, wz, aop, cV, cV1, AV.one, partCells, okW, onlyFr, app, sliceCells, cellsAt, srcA, subA, eqFs, Int.cast_ofNat_Int, simprocAttr, hkv, s24, sone, stk, List.append_nil, List.take_zero, List.nil_append]
  refine ALoop.by (ι := Nat) (fun i => ⟨[(32, .int .i64 i), (31, .int .i64 v.length), (30, .list v.length (ks .u32 (v.map fun n : Nat => (n : Int)))), (11, .ref 3 1 0), (10, .ref 2 1 0), (7, .int .i64 0), (6, .emp true), (3, .ref 0 1 0)],
      [⟨t0, 2, 1, [.int .i64 k, .int .i64 x], 0⟩, ⟨t1, 16, 1, ks .i32 t, 0⟩, ⟨t2, 24, 1, sixD (fun j => if j < k then chanM k j (v.take i) else startM), 0⟩, bO t3 4 (frmN k v i), bY tb (frmN k v i) (frmV k v i)]⟩)
    (fun i => i ≤ v.length) (fun i => v.length - i) 0 ?_ (by omega) ?_
  · simp only [z2, hS0]
    rw [frmN_zero, frmV_zero]
    refine Le.trans (Le.virtF 3 tb 1 (by decide) rfl rfl) ?_
    exact Le.slots (by simp [Am.look])
  intro i hi
  by_cases hlt : i < v.length
  · obtain ⟨r, hr⟩ : ∃ r, r = i % k := ⟨_, rfl⟩
    have hrc : r < k := by rw [hr]; exact Nat.mod_lt _ (by omega)
    have q1 : (i : Int) % k = (r : Int) := by rw [hr]; simp [Int.natCast_emod]
    have q1' : ((i : Int)).tmod (k : Int) = (r : Int) := by rw [Int.tmod_eq_emod_of_nonneg (by omega), q1]
    have hc0 : (k : Int) ≠ 0 := by omega
    obtain ⟨b1, b2, b3⟩ := hfb i
    obtain ⟨_, b5, _⟩ := hfb (i + 1)
    have hd := chan_ok (c := k) (r := r) (hv.take i)
    have hvi := hv.getD i
    have hW' := hW 0 0 (v.getD i 0) (chanM k r (v.take i)) (by decide) hvi hd (by omega)
    rw [Nat.zero_add, Nat.pow_zero, Nat.one_mul, Nat.zero_add] at hW'
    have hcl := codeC_lt (d := chanM k r (v.take i)) hvi
    have hcn := codeN_le (v := v.getD i 0) hd
    obtain ⟨rest, hg⟩ := sixD_get (fun j => if j < k then chanM k j (v.take i) else startM) (j := r) (by omega)
    simp only [hrc, if_true] at hg
    have hset := sixD_set (fun j => if j < k then chanM k j (v.take i) else startM) (j := r) (by omega) (learnM (chanM k r (v.take i)) (v.getD i 0))
    have hup := upd_chan c1 hlt
    rw [← hr] at hup
    rw [hup] at hset
    have hln := sixD_len (fun j => if j < k then chanM k j (v.take i) else startM)
    have hkat := ks_at (K := .u32) (l := v.map fun n : Nat => (n : Int)) (i := i) (by simpa using hlt)
    have hgd : (v.map fun n : Nat => (n : Int)).getD i 0 = ((v.getD i 0 : Nat) : Int) := by simp [List.getD_eq_getElem?_getD, List.getElem?_eq_getElem hlt]
    rw [hgd] at hkat
    have hsN := frmN_succ k v i
    have hsV := frmV_succ k v i
    rw [← hr] at hsN hsV
    have hb6 : frmN k v i + codeN (chanM k r (v.take i)) (v.getD i 0) ≤ 400000 := by omega
    have hD6 : isDL (sixD (fun j => if j < k then chanM k j (v.take (i + 1)) else startM)) = true := isTL_D (isTL_sixD _)
    generalize hF1 : sixD (fun j => if j < k then chanM k j (v.take (i + 1)) else startM) = F' at *
    generalize sixD (fun j => if j < k then chanM k j (v.take i) else startM) = F at *
    generalize hN0 : frmN k v i = N at *
    generalize hV0 : frmV k v i = V at *
    generalize hN1 : frmN k v (i + 1) = N1 at *
    generalize hV1 : frmV k v (i + 1) = V1 at *
    generalize hn0 : codeN (chanM k r (v.take i)) (v.getD i 0) = n at *
    generalize hC0 : codeC (chanM k r (v.take i)) (v.getD i 0) = C at *
    generalize learnM (chanM k r (v.take i)) (v.getD i 0) = d' at *
    generalize chanM k r (v.take i) = d at *
    generalize v.getD i 0 = vi at *
    obtain ⟨d0, d1, d2, d3⟩ := d
    obtain ⟨m0, m1, m2, m3⟩ := d'
    simp only [dlA, dlC, bA] at hW'
    simp only at hg hset
    have hfr : frzN (fun o => ([] : List Nat).contains o) [⟨t0, 2, 1, [.int .i64 k, .int .i64 x], 0⟩, ⟨t1, 16, 1, ks .i32 t, 0⟩, ⟨t2, 24, 1, F, 0⟩, ⟨t3, 2, 1, [.own 4 (nB N), .int .i64 N], 0⟩, bY tb N V] (0 + 1) [.agg [.emp true, .int .i64 0], .agg [.int .i64 d0, .int .i64 d1, .int .u64 d2, .int .u64 d3], .int .u32 vi] =
      some [.agg [.list (nB 0) (u8 (leB 0 (nB 0))), .int .i64 ((0 : Nat) : Int)], .agg [.int .i64 d0, .int .i64 d1, .int .u64 d2, .int .u64 d3], .int .u32 vi] := by
      simp [frzN, frzK, frzL, frzV, nB, leB, u8]
    have pt : ∀ (Q : Exit → St → Prop) os fr dst, wpQ P os Q ⟨putA fr dst (.tup []), [⟨t0, 2, 1, [.int .i64 k, .int .i64 x], 0⟩, ⟨t1, 16, 1, ks .i32 t, 0⟩, ⟨t2, 24, 1, F', 0⟩, bO t3 4 N1, bY tb N1 V1, ⟨t3, 2, 1, [.list (nB n) (u8 (leB C (nB n))), .int .i64 n], 0⟩, ⟨t4, 4, 1, [.int .i64 m0, .int .i64 m1, .int .u64 m2, .int .u64 m3], 0⟩]⟩ →
        callQ P fP [.ref 3 1 0, .agg [.list (nB n) (u8 (leB C (nB n))), .int .i64 n]] [⟨t0, 2, 1, [.int .i64 k, .int .i64 x], 0⟩, ⟨t1, 16, 1, ks .i32 t, 0⟩, ⟨t2, 24, 1, F', 0⟩, ⟨t3, 2, 1, [.own 4 (nB N), .int .i64 N], 0⟩, bY tb N V, ⟨t3, 2, 1, [.list (nB n) (u8 (leB C (nB n))), .int .i64 n], 0⟩, ⟨t4, 4, 1, [.int .i64 m0, .int .i64 m1, .int .u64 m2, .int .u64 m3], 0⟩] os Q fr dst := fun Q os fr dst h =>
      enframe_put bP (ob := [⟨t0, 2, 1, [.int .i64 k, .int .i64 x], 0⟩, ⟨t1, 16, 1, ks .i32 t, 0⟩, ⟨t2, 24, 1, F', 0⟩, ⟨t3, 2, 1, [.own 4 (nB N), .int .i64 N], 0⟩, bY tb N V, ⟨t3, 2, 1, [.list (nB n) (u8 (leB C (nB n))), .int .i64 n], 0⟩, ⟨t4, 4, 1, [.int .i64 m0, .int .i64 m1, .int .u64 m2, .int .u64 m3], 0⟩]) (t := t3) (p := 3) (o := 4) (N := N) (V := V) (C := C) (n := n) rfl rfl (by decide) b1 hcl (by omega) (by omega)
        (Low.cons (by simp [lowL, lowV]) (Low.cons (lowL_D _ (isDL_ks _ _)) (Low.cons (lowL_D _ hD6) (Low.cons (by simp [lowL, lowV]) (Low.cons (lowL_D _ (isDL_leB _ _)) (Low.cons (by simp [lowL, lowV, lowL_D _ (isDL_leB _ _)]) (Low.cons (by simp [lowL, lowV]) Low.nil)))))))
        (by rw [hsN, hsV] at h; exact h)
    simp (maxSteps := 4000000) (disch := omega) only [step, stepv, ev, wl, wn, wp, wz, aop, cV, cV1, AV.one, partCells, okW, onlyFr, app, sliceCells, cellsAt, srcA, subA, eqFs, Int.cast_ofNat_Int, simprocAttr, bO, hkat, hkv, q1, q1', hc0, hg, hln]
    refine callQ.still 0 [] hW' hfr ?_
    simp (maxSteps := 4000000) (disch := omega) only [step, stepv, ev, wl, wn, wp, wz, aop, cV, cV1, AV.one, partCells, okW, onlyFr, app, sliceCells, cellsAt, srcA, subA, eqFs, Int.cast_ofNat_Int, simprocAttr, stillAt, hkat, hkv, q1, q1', hc0, hg, hln, hset]
    refine pt _ _ _ _ ?_
    simp (maxSteps := 4000000) (disch := omega) only [step, stepv, ev, wl, wn, wp, wz, aop, cV, cV1, AV.one, partCells, okW, onlyFr, app, sliceCells, cellsAt, srcA, subA, eqFs, Int.cast_ofNat_Int, simprocAttr]
    refine ⟨i + 1, by omega, by omega, ?_⟩
    simp only [hN1, hV1, hF1]
    refine Le.low (ob := [⟨t0, 2, 1, [.int .i64 k, .int .i64 x], 0⟩, ⟨t1, 16, 1, ks .i32 t, 0⟩, ⟨t2, 24, 1, F', 0⟩, bO t3 4 N1, bY tb N1 V1]) (J := [_, _]) (Nat.zero_le _) ?_ (by simp [Am.look, lowV, lowL_D _ (isDL_ks _ _)])
    exact Low.cons (by simp [lowL, lowV]) (Low.cons (lowL_D _ (isDL_ks _ _)) (Low.cons (lowL_D _ hD6) (Low.cons (by simp [bO, lowL, lowV]) (Low.cons (lowL_D _ (isDL_leB _ _)) Low.nil))))
  · obtain rfl : i = v.length := by omega
    obtain ⟨_, b5, b6⟩ := hfb v.length
    have hfl := frmB_len k v
    have hle : nB (frmN k v v.length) ≤ 40500 := by unfold nB; omega
    have hC' := hC (frmB k v)
    rw [if_neg (by omega), ← sumM] at hC'
    have hsm := sumM_lt (frmB k v)
    have hB' := hB (sumM (frmB k v)) 4 (by omega) (by omega) hsm
    have hK' := hK [frmB k v, leB (sumM (frmB k v)) 4] (by simp) (by simp [leB_length]) (by simp [leB_length]; omega)
    have hfe : frmB k v = leB (frmV k v v.length) (nB (frmN k v v.length)) := rfl
    simp only [partsA, bs, List.map_cons, List.map_nil, List.length_cons, List.length_nil, List.flatten_cons, List.flatten_nil, List.append_nil, List.length_append, hfl, leB_length] at hC' hB' hK' ⊢
    have tfl : isTL (u8 (frmB k v)) = true := isT_u8 _
    have tfs : isTL (u8 (leB (sumM (frmB k v)) 4)) = true := isT_u8 _
    have tfa : isTL (u8 (frmB k v ++ leB (sumM (frmB k v)) 4)) = true := isT_u8 _
    have hul : (u8 (frmB k v)).length = nB (frmN k v v.length) := by rw [u8_length, hfl]
    generalize sixD (fun j => if j < k then chanM k j (v.take v.length) else startM) = F at *
    simp only [bO, bY]
    rw [← hfe]
    generalize frmB k v ++ leB (sumM (frmB k v)) 4 = R at *
    generalize leB (sumM (frmB k v)) 4 = s4 at *
    generalize sumM (frmB k v) = sm at *
    generalize frmB k v = fb at *
    generalize nB (frmN k v v.length) = nn at *
    simp (maxSteps := 4000000) (disch := omega) only [step, stepv, ev, wl, wn, wp, wz, aop, cV, cV1, AV.one, partCells, okW, onlyFr, app, sliceCells, cellsAt, srcA, subA, eqFs, Int.cast_ofNat_Int, simprocAttr]
    refine callQ.still 1 [4] hC' (by simp [frzN, frzK, frzL, frzV, frzL_T _ tfl]) ?_
    simp (maxSteps := 4000000) (disch := omega) only [step, stepv, ev, wl, wn, wp, wz, aop, cV, cV1, AV.one, partCells, okW, onlyFr, app, sliceCells, cellsAt, srcA, subA, eqFs, Int.cast_ofNat_Int, simprocAttr, stillAt]
    refine callQ.vc hB' ?_
    simp (maxSteps := 4000000) (disch := omega) only [step, stepv, ev, wl, wn, wp, wz, aop, cV, cV1, AV.one, partCells, okW, onlyFr, app, sliceCells, cellsAt, srcA, subA, eqFs, Int.cast_ofNat_Int, simprocAttr]
    refine callQ.still 2 [5, 4] hK' (by simp [frzN, frzK, frzL, frzV, frzL_T _ tfl, frzL_T _ tfs]) ?_
    simp (maxSteps := 4000000) (disch := omega) only [step, stepv, ev, wl, wn, wp, wz, aop, cV, cV1, AV.one, partCells, okW, onlyFr, app, sliceCells, cellsAt, srcA, subA, eqFs, Int.cast_ofNat_Int, simprocAttr, stillAt]
    simp [frzN, frzK, frzL, frzV, frzL_T _ tfa]

end Go.Am

namespace Go.Am
open Go.RowKit

/-! ### How long a frame is -/

def lenA (c x : Int) (t l : List Int) : AV := if askN c x l ≠ 0 then .tup [.int .i64 0, .int .i64 (askN c x l)] else .tup [.int .i64 (encB c.toNat x t l).length, .int .i64 0]
theorem isD_lenA (c x : Int) (t l : List Int) : isD (lenA c x t l) = true := by unfold lenA; split <;> rfl
def S_ELen (P : Prg) (f : Nat) : Prop := ∀ (c x : Int) (t l : List Int), t.length = 16 → I32 t → I32 l → VC P f [shA c x, .agg (ks .i32 t), il l] (lenA c x t l)
set_option maxHeartbeats 2000000 in
set_option maxRecDepth 20000 in
theorem enframe_Length {P : Prg} {f fV fS fL fN t0 t1 t2 : Nat} (bd : Body P f 69 [.tmp 6, .tmp 7] (ac_enframe_Length fV fS fL fN t0 t1 t2)) (hV : S_EVals P fV) (hS : S_eStates P fS) (hL0 : S_dLen P fL) (hN : S_dLearn P fN) : S_ELen P f := by
  intro c x t l ht hI hL
  refine VC.of_acall (by simp [isDL, isD, isDL_ks, isD_il, shA]) (isD_lenA _ _ _ _) (ACall.of_body bd (by simp) ?_)
  have hk : (ks .i32 t).length = 16 := by simp [ks_length, ht]
  have tt : (ks .i32 t).take 16 = ks .i32 t := take_all (by omega)
  have ot := ks_one .i32 t
  have hV' := hV c x t l ht hI hL
  unfold lenA
  by_cases h0 : askN c x l = 0
  case neg =>
    rw [valA, if_pos h0] at hV'
    rw [if_pos h0]
    rw [shA] at hV' ⊢
    simp (maxSteps := 4000000) (disch := omega) only [step, stepv, ev, wl, wn, wp, wz, aop, cV, cV1, AV.one, partCells, okW, onlyFr, app, sliceCells, cellsAt, srcA, subA, eqFs, Int.cast_ofNat_Int, simprocAttr, ac_enframe_Length, hk, ot, tt]
    refine callQ.vc hV' ?_
    simp (maxSteps := 4000000) (disch := omega) only [step, stepv, ev, wl, wn, wp, wz, aop, cV, cV1, AV.one, partCells, okW, onlyFr, app, sliceCells, cellsAt, srcA, subA, eqFs, Int.cast_ofNat_Int, simprocAttr, h0]
  obtain ⟨k, m, rfl, hkM, hx, e1, e2, e3, e4, e5, e6⟩ := ask_all hL h0
  obtain ⟨c1, c6, l0, l4, lm, _⟩ := hkM
  rw [valA, if_neg (by omega), Int.toNat_natCast, u32L_valE] at hV'
  rw [if_neg (by omega), Int.toNat_natCast, encB, sealB_len, frmB_len]
  have hv := valE_ok k x t l
  have hvl := valE_len k x t l
  rw [← hvl] at hV' l0 l4
  generalize valE k x t l = v at *
  rw [shA] at hV' ⊢
  have hfb := frm_bounds (c := k) hv
  have hkv : (ks .u32 (v.map fun n : Nat => (n : Int))).length = v.length := by simp [ks]
  have s24 := sixD_len fun _ => startM
  have sone : (sixD fun _ => startM).all AV.one = true := rfl
  have stk : (sixD fun _ => startM).take 24 = sixD fun _ => startM := rfl
  have z2 : (fun j => if j < k then chanM k j (v.take 0) else startM) = fun _ => startM := by
    funext j
    rw [List.take_zero]
    split <;> rfl
  simp only [S_eStates] at hS
  simp (maxSteps := 4000000) (disch := omega) only [step, stepv, ev, wl, wn, wp, wz, aop, cV, cV1, AV.one, partCells, okW, onlyFr, app, sliceCells, cellsAt, srcA, subA, eqFs, Int.cast_ofNat_Int, simprocAttr, ac_enframe_Length, hk, ot, tt]
  refine callQ.vc hV' ?_
  simp (maxSteps := 4000000) (disch := omega) only [step, stepv, ev, wl, wn, wp, wz, aop, cV, cV1, AV.one, partCells, okW, onlyFr, app, sliceCells, cellsAt, srcA, subA, eqFs, Int.cast_ofNat_Int, simprocAttr, hkv]
  refine callQ.vc hS ?_
  generalize hS0 : (sixD fun _ => startM) = S0 at *
  simp (maxSteps := 4000000) (disch := omega) only [step, stepv, ev, wl, wn, wp, wz, aop, cV, cV1, AV.one, partCells, okW, onlyFr, app, sliceCells, cellsAt, srcA, subA, eqFs, Int.cast_ofNat_Int, simprocAttr, hkv, s24, sone, stk, List.append_nil, List.take_zero, List.nil_append]
  refine ALoop.by (ι := Nat) (fun i => ⟨[(30, .int .i64 i), (29, .int .i64 v.length), (28, .list v.length (ks .u32 (v.map fun n : Nat => (n : Int)))), (11, .int .i64 (frmN k v i)), (10, .ref 2 1 0), (7, .int .i64 0), (6, .int .i64 0), (3, .ref 0 1 0)],
      [⟨t0, 2, 1, [.int .i64 k, .int .i64 x], 0⟩, ⟨t1, 16, 1, ks .i32 t, 0⟩, ⟨t2, 24, 1, sixD (fun j => if j < k then chanM k j (v.take i) else startM), 0⟩]⟩)
    (fun i => i ≤ v.length) (fun i => v.length - i) 0 ?_ (by omega) ?_
  · simp only [z2, hS0]
    rw [frmN_zero]
    exact Le.slots (by simp [Am.look])
  intro i hi
  by_cases hlt : i < v.length
  · obtain ⟨r, hr⟩ : ∃ r, r = i % k := ⟨_, rfl⟩
    have hrc : r < k := by rw [hr]; exact Nat.mod_lt _ (by omega)
    have q1 : (i : Int) % k = (r : Int) := by rw [hr]; simp [Int.natCast_emod]
    have q1' : ((i : Int)).tmod (k : Int) = (r : Int) := by rw [Int.tmod_eq_emod_of_nonneg (by omega), q1]
    have hc0 : (k : Int) ≠ 0 := by omega
    obtain ⟨b1, b2, b3⟩ := hfb i
    obtain ⟨_, b5, _⟩ := hfb (i + 1)
    have hd := chan_ok (c := k) (r := r) (hv.take i)
    have hvi := hv.getD i
    have hL' := hL0 (v.getD i 0) (chanM k r (v.take i)) hvi hd
    have hN' := hN (v.getD i 0) (chanM k r (v.take i)) hvi hd
    have hcn := codeN_le (v := v.getD i 0) hd
    obtain ⟨rest, hg⟩ := sixD_get (fun j => if j < k then chanM k j (v.take i) else startM) (j := r) (by omega)
    simp only [hrc, if_true] at hg
    have hset := sixD_set (fun j => if j < k then chanM k j (v.take i) else startM) (j := r) (by omega) (learnM (chanM k r (v.take i)) (v.getD i 0))
    have hup := upd_chan c1 hlt
    rw [← hr] at hup
    rw [hup] at hset
    have hln := sixD_len (fun j => if j < k then chanM k j (v.take i) else startM)
    have hkat := ks_at (K := .u32) (l := v.map fun n : Nat => (n : Int)) (i := i) (by simpa using hlt)
    have hgd : (v.map fun n : Nat => (n : Int)).getD i 0 = ((v.getD i 0 : Nat) : Int) := by simp [List.getD_eq_getElem?_getD, List.getElem?_eq_getElem hlt]
    rw [hgd] at hkat
    have hsN := frmN_succ k v i
    rw [← hr] at hsN
    generalize hF1 : sixD (fun j => if j < k then chanM k j (v.take (i + 1)) else startM) = F' at *
    generalize sixD (fun j => if j < k then chanM k j (v.take i) else startM) = F at *
    generalize hN0 : frmN k v i = N at *
    generalize hN1 : frmN k v (i + 1) = N1 at *
    generalize hn0 : codeN (chanM k r (v.take i)) (v.getD i 0) = n at *
    generalize learnM (chanM k r (v.take i)) (v.getD i 0) = d' at *
    generalize chanM k r (v.take i) = d at *
    generalize v.getD i 0 = vi at *
    obtain ⟨d0, d1, d2, d3⟩ := d
    obtain ⟨m0, m1, m2, m3⟩ := d'
    simp only [dlA, dlC] at hL' hN'
    simp only at hg hset
    simp (maxSteps := 4000000) (disch := omega) only [step, stepv, ev, wl, wn, wp, wz, aop, cV, cV1, AV.one, partCells, okW, onlyFr, app, sliceCells, cellsAt, srcA, subA, eqFs, Int.cast_ofNat_Int, simprocAttr, hkat, hkv, q1, q1', hc0, hg, hln]
    refine callQ.vc hL' ?_
    simp (maxSteps := 4000000) (disch := omega) only [step, stepv, ev, wl, wn, wp, wz, aop, cV, cV1, AV.one, partCells, okW, onlyFr, app, sliceCells, cellsAt, srcA, subA, eqFs, Int.cast_ofNat_Int, simprocAttr, hg, hln]
    refine callQ.vc hN' ?_
    simp (maxSteps := 4000000) (disch := omega) only [step, stepv, ev, wl, wn, wp, wz, aop, cV, cV1, AV.one, partCells, okW, onlyFr, app, sliceCells, cellsAt, srcA, subA, eqFs, Int.cast_ofNat_Int, simprocAttr, hset, hln]
    refine ⟨i + 1, by omega, by omega, ?_⟩
    simp only [hN1, hF1]
    rw [hsN]
    exact Le.slots (by simp [Am.look])
  · obtain rfl : i = v.length := by omega
    obtain ⟨_, b5, b6⟩ := hfb v.length
    generalize sixD (fun j => if j < k then chanM k j (v.take v.length) else startM) = F at *
    generalize frmN k v v.length = N at *
    have q9 : ((N : Int) + 7) / 8 = (nB N : Nat) := by unfold nB; omega
    simp (maxSteps := 4000000) (disch := omega) only [step, stepv, ev, wl, wn, wp, wz, aop, cV, cV1, AV.one, partCells, okW, onlyFr, app, sliceCells, cellsAt, srcA, subA, eqFs, Int.cast_ofNat_Int, simprocAttr, q9]

end Go.Am

namespace Go.Am
open Go.RowKit

/-! ### The reference of Encode and Length; the law EnframeBytes -/

theorem enc_le {c x : Int} {t l : List Int} (hL : I32 l) (h : askN c x l = 0) : (encB c.toNat x t l).length ≤ 40504 ∧ 5 ≤ (encB c.toNat x t l).length := by
  obtain ⟨k, m, rfl, hkM, hx, e1, e2, e3, e4, e5, e6⟩ := ask_all hL h
  obtain ⟨c1, c6, l0, l4, lm, _⟩ := hkM
  have hvl := valE_len k x t l
  have := frmB_bounds (c := k) (valE_ok k x t l) (by omega) (by omega)
  rw [Int.toNat_natCast, encB, sealB_len]
  omega
end Go.Am

namespace Go.Am
open Go.RowKit

/-! ### law20: mono, alive -/

theorem law20_mono {P : Prg} {f t0 : Nat} (bd : Body P f 2 [.cell 0 t0] (ac_cadenzalaw20_mono t0)) (ht : aggO P t0 = some (some 2)) : S_mono P f := by
  refine VC.of_acall rfl rfl (ACall.of_body bd (by simp) ?_)
  simp (maxSteps := 4000000) (disch := omega) only [step, stepv, ev, wl, wn, wp, wz, aop, cV, cV1, AV.one, partCells, okW, onlyFr, app, sliceCells, cellsAt, srcA, subA, eqFs, Int.cast_ofNat_Int, simprocAttr, ac_cadenzalaw20_mono, resA, ht, oneOf, shA]

theorem val_00 : valA 1 16 z16 [0, 0] = .tup [u32L [0, 0], .int .i64 0] := by
  have h1 : askN 1 16 [0, 0] = 0 := by decide +kernel
  have h2 : outT 1 (mixAll 1 [0, 0]) (newC 16 z16) 2 = [0, 0] := by decide +kernel
  rw [valA, if_neg (by omega)]
  show AV.tup [u32L (outT 1 (mixAll 1 [0, 0]) (newC 16 z16) 2), .int .i64 0] = _
  rw [h2]
theorem val_11 : valA 1 16 z16 [1, -1] = .tup [u32L [2, 1], .int .i64 0] := by
  have h1 : askN 1 16 [1, -1] = 0 := by decide +kernel
  have h2 : outT 1 (mixAll 1 [1, -1]) (newC 16 z16) 2 = [2, 1] := by decide +kernel
  rw [valA, if_neg (by omega)]
  show AV.tup [u32L (outT 1 (mixAll 1 [1, -1]) (newC 16 z16) 2), .int .i64 0] = _
  rw [h2]
theorem enc_00 : encB 1 16 z16 [0, 0] = fr0 := by decide +kernel
theorem enfA_00 : enfA 1 16 z16 [0, 0] = .tup [bs fr0, .int .i64 0] := by
  have h1 : askN 1 16 [0, 0] = 0 := by decide +kernel
  rw [enfA, if_neg (by omega), show (1 : Int).toNat = 1 from rfl, enc_00]
theorem lenA_00 : lenA 1 16 z16 [0, 0] = .tup [.int .i64 7, .int .i64 0] := by
  have h1 : askN 1 16 [0, 0] = 0 := by decide +kernel
  rw [lenA, if_neg (by omega), show (1 : Int).toNat = 1 from rfl, enc_00, fr0_len]
  rfl

set_option maxHeartbeats 1000000 in
theorem law20_alive {P : Prg} {f fM fV fE fL fS fZ t0 t1 t2 t3 : Nat} (bd : Body P f 74 [.tmp 0] (ac_cadenzalaw20_alive fM fV fE fL fS fZ t0 t1 t2 t3)) (hM : S_mono P fM) (hV : S_EVals P fV) (hE : S_Enc P fE) (hL : S_ELen P fL) (hS : S_USame P fS) (hZ : S_Sealed P fZ) : S_alive21 P f := by
  refine VC.of_acall rfl rfl (ACall.of_body bd (by simp) ?_)
  have i1 : I32 [0, 0] := by intro v hv; simp at hv; omega
  have i2 : I32 [1, -1] := by intro v hv; simp at hv; omega
  have hV1 := hV 1 16 z16 [0, 0] rfl I32_z16 i1
  have hV2 := hV 1 16 z16 [1, -1] rfl I32_z16 i2
  have hE' := hE 1 16 z16 [0, 0] rfl I32_z16 i1
  have hL' := hL 1 16 z16 [0, 0] rfl I32_z16 i1
  rw [val_00] at hV1
  rw [val_11] at hV2
  rw [enfA_00] at hE'
  rw [lenA_00] at hL'
  have hS1 := hS [0, 0] (by decide)
  have hS2 := hS [2, 1] (by decide)
  have hZ' := hZ [0, 0, 0] (by decide)
  rw [show [0, 0, 0] ++ leB (sumM [0, 0, 0]) 4 = fr0 from rfl] at hZ'
  simp only [bs, fr0_len] at hZ' hE'
  have hd := decU8_u8 fr0
  have hUl : (u8 fr0).length = 7 := by rw [u8_length, fr0_len]
  generalize hU : u8 fr0 = U at *
  have hM' : VC P fM [] (.agg [.int .i64 1, .int .i64 16]) := hM
  have hz : VC P fZ [.list 3 [.int .u8 0, .int .u8 0, .int .u8 0]] (.list 7 U) := hZ'
  have v1 : VC P fV [.agg [.int .i64 1, .int .i64 16], .agg [.int .i32 0, .int .i32 0, .int .i32 0, .int .i32 0, .int .i32 0, .int .i32 0, .int .i32 0, .int .i32 0, .int .i32 0, .int .i32 0, .int .i32 0, .int .i32 0, .int .i32 0, .int .i32 0, .int .i32 0, .int .i32 0], .list 2 [.int .i32 0, .int .i32 0]] (.tup [.list 2 [.int .u32 0, .int .u32 0], .int .i64 0]) := hV1
  have v2 : VC P fV [.agg [.int .i64 1, .int .i64 16], .agg [.int .i32 0, .int .i32 0, .int .i32 0, .int .i32 0, .int .i32 0, .int .i32 0, .int .i32 0, .int .i32 0, .int .i32 0, .int .i32 0, .int .i32 0, .int .i32 0, .int .i32 0, .int .i32 0, .int .i32 0, .int .i32 0], .list 2 [.int .i32 1, .int .i32 (-1)]] (.tup [.list 2 [.int .u32 2, .int .u32 1], .int .i64 0]) := hV2
  have ve : VC P fE [.agg [.int .i64 1, .int .i64 16], .agg [.int .i32 0, .int .i32 0, .int .i32 0, .int .i32 0, .int .i32 0, .int .i32 0, .int .i32 0, .int .i32 0, .int .i32 0, .int .i32 0, .int .i32 0, .int .i32 0, .int .i32 0, .int .i32 0, .int .i32 0, .int .i32 0], .list 2 [.int .i32 0, .int .i32 0]] (.tup [.list 7 U, .int .i64 0]) := hE'
  have vl : VC P fL [.agg [.int .i64 1, .int .i64 16], .agg [.int .i32 0, .int .i32 0, .int .i32 0, .int .i32 0, .int .i32 0, .int .i32 0, .int .i32 0, .int .i32 0, .int .i32 0, .int .i32 0, .int .i32 0, .int .i32 0, .int .i32 0, .int .i32 0, .int .i32 0, .int .i32 0], .list 2 [.int .i32 0, .int .i32 0]] (.tup [.int .i64 7, .int .i64 0]) := hL'
  have s1 : VC P fS [.list 2 [.int .u32 0, .int .u32 0], .list 2 [.int .u32 0, .int .u32 0]] (.bool true) := hS1
  have s2 : VC P fS [.list 2 [.int .u32 2, .int .u32 1], .list 2 [.int .u32 2, .int .u32 1]] (.bool true) := hS2
  clear hM hV hE hL hS hZ hV1 hV2 hE' hL' hS1 hS2 hZ'
  simp (maxSteps := 4000000) (disch := omega) only [step, stepv, ev, wl, wn, wp, wz, aop, cV, cV1, AV.one, partCells, okW, onlyFr, app, sliceCells, cellsAt, srcA, subA, eqFs, Int.cast_ofNat_Int, simprocAttr, ac_cadenzalaw20_alive]
  refine callD.vc hM' ?_
  simp (maxSteps := 4000000) (disch := omega) only [step, stepv, ev, wl, wn, wp, wz, aop, cV, cV1, AV.one, partCells, okW, onlyFr, app, sliceCells, cellsAt, srcA, subA, eqFs, Int.cast_ofNat_Int, simprocAttr, sealw, isDL, isD]
  refine callD.vc v1 ?_
  simp (maxSteps := 4000000) (disch := omega) only [step, stepv, ev, wl, wn, wp, wz, aop, cV, cV1, AV.one, partCells, okW, onlyFr, app, sliceCells, cellsAt, srcA, subA, eqFs, Int.cast_ofNat_Int, simprocAttr]
  refine callD.vc hM' ?_
  simp (maxSteps := 4000000) (disch := omega) only [step, stepv, ev, wl, wn, wp, wz, aop, cV, cV1, AV.one, partCells, okW, onlyFr, app, sliceCells, cellsAt, srcA, subA, eqFs, Int.cast_ofNat_Int, simprocAttr, sealw, isDL, isD]
  refine callD.vc ve ?_
  simp (maxSteps := 4000000) (disch := omega) only [step, stepv, ev, wl, wn, wp, wz, aop, cV, cV1, AV.one, partCells, okW, onlyFr, app, sliceCells, cellsAt, srcA, subA, eqFs, Int.cast_ofNat_Int, simprocAttr]
  refine callD.vc hM' ?_
  simp (maxSteps := 4000000) (disch := omega) only [step, stepv, ev, wl, wn, wp, wz, aop, cV, cV1, AV.one, partCells, okW, onlyFr, app, sliceCells, cellsAt, srcA, subA, eqFs, Int.cast_ofNat_Int, simprocAttr, sealw, isDL, isD]
  refine callD.vc vl ?_
  simp (maxSteps := 4000000) (disch := omega) only [step, stepv, ev, wl, wn, wp, wz, aop, cV, cV1, AV.one, partCells, okW, onlyFr, app, sliceCells, cellsAt, srcA, subA, eqFs, Int.cast_ofNat_Int, simprocAttr]
  refine callD.vc hM' ?_
  simp (maxSteps := 4000000) (disch := omega) only [step, stepv, ev, wl, wn, wp, wz, aop, cV, cV1, AV.one, partCells, okW, onlyFr, app, sliceCells, cellsAt, srcA, subA, eqFs, Int.cast_ofNat_Int, simprocAttr, sealw, isDL, isD]
  refine callD.vc v2 ?_
  simp (maxSteps := 4000000) (disch := omega) only [step, stepv, ev, wl, wn, wp, wz, aop, cV, cV1, AV.one, partCells, okW, onlyFr, app, sliceCells, cellsAt, srcA, subA, eqFs, Int.cast_ofNat_Int, simprocAttr, sealw, isDL, isD]
  refine callD.vc s1 ?_
  simp (maxSteps := 4000000) (disch := omega) only [step, stepv, ev, wl, wn, wp, wz, aop, cV, cV1, AV.one, partCells, okW, onlyFr, app, sliceCells, cellsAt, srcA, subA, eqFs, Int.cast_ofNat_Int, simprocAttr, sealw, isDL, isD, hd, hUl, strA]
  refine callD.vc hz ?_
  simp (maxSteps := 4000000) (disch := omega) only [step, stepv, ev, wl, wn, wp, wz, aop, cV, cV1, AV.one, partCells, okW, onlyFr, app, sliceCells, cellsAt, srcA, subA, eqFs, Int.cast_ofNat_Int, simprocAttr, sealw, isDL, isD, hd, hUl, strA]
  refine callD.vc s2 ?_
  simp (maxSteps := 4000000) (disch := omega) only [step, stepv, ev, wl, wn, wp, wz, aop, cV, cV1, AV.one, partCells, okW, onlyFr, app, sliceCells, cellsAt, srcA, subA, eqFs, Int.cast_ofNat_Int, simprocAttr]

end Go.Am

namespace Go.Am
open Go.RowKit

/-! ### Frames read as other moments, and frames that are cut (plain) -/

theorem frm_mono {c : Nat} {v : List Nat} : ∀ j i, frmN c v i ≤ frmN c v (i + j)
  | 0, _ => Nat.le_refl _
  | j + 1, i => by have := frm_mono (c := c) (v := v) j i; rw [← Nat.add_assoc, frmN_succ]; omega
theorem frm_low {c V : Nat} {v : List Nat} (hv : N32 v) : ∀ j i, V % 2 ^ frmN c v (i + j) = frmV c v (i + j) → V % 2 ^ frmN c v i = frmV c v i
  | 0, _, h => h
  | j + 1, i, h => by
    refine frm_low hv j i ?_
    rw [← Nat.add_assoc, frmN_succ, frmV_succ] at h
    exact ((mod_split (frm_bounds hv (i + j)).1).1 h).1

end Go.Am

namespace Go.Am
open Go.RowKit

/-! ### The laws DeframeBack, DeframeOnly -/

theorem valA_ok' {k : Nat} {x : Int} {t l : List Int} (h : askN k x l = 0) : valA k x t l = .tup [u32L (outT k (mixAll k l) (newC x t) l.length), .int .i64 0] := by
  rw [valA, if_neg (by omega), Int.toNat_natCast]
theorem enfA_ok {k : Nat} {x : Int} {t l : List Int} (h : askN k x l = 0) : enfA k x t l = .tup [bs (encB k x t l), .int .i64 0] := by
  rw [enfA, if_neg (by omega), Int.toNat_natCast]
end Go.Am

namespace Go.Am
open Go.RowKit

/-! ### Bits behind bits: bits.Join -/

theorem bits_Join_1 {P : Prg} {f fG fP tb : Nat} (bd : Body P f 12 [] (ac_bits_Join_1 fG fP)) (hG : S_bget P fG) (bP : Body P fP 75 [] (ac_bits_put tb)) {ob : List Ob} {p o q t tq N V M W a n : Nat}
    (hp : ob[p]? = some (bO t o N)) (ho : ob[o]? = some (bY tb N V)) (hpo : p ≠ o) (hq : ob[q]? = some ⟨tq, 2, 1, [.list (nB M) (u8 (leB W (nB M))), .int .i64 M], 0⟩) (hV : V < 2 ^ N) (hW : W < 2 ^ M) (hM : M ≤ 400000) (han : a + n ≤ M) (hn : n ≤ 64) (hN : N + n ≤ 400000) (hl : Low ob.length ob)
    {K : AV → List Ob → Prop} (hK : K (.tup []) (upd2 ob o p (bY tb (N + n) (V + 2 ^ N * (W / 2 ^ a % 2 ^ n))) (bO t o (N + n)))) : ACall P f [.int .i64 a, .int .i64 n, .ref p 1 0, .ref q 1 0] ob K := by
  have hG' := hG M W a n hW hM han hn
  rw [bA] at hG'
  have hv : W / 2 ^ a % 2 ^ n < 2 ^ n := Nat.mod_lt _ (Nat.pow_pos (by omega))
  refine ACall.of_body bd (by simp) ?_
  simp (maxSteps := 4000000) (disch := omega) only [step, stepv, ev, wl, wn, wp, wz, aop, cV, cV1, AV.one, partCells, okW, onlyFr, app, sliceCells, cellsAt, srcA, subA, eqFs, Int.cast_ofNat_Int, simprocAttr, ac_bits_Join_1, hq]
  refine callQ.vc hG' ?_
  simp (maxSteps := 4000000) (disch := omega) only [step, stepv, ev, wl, wn, wp, wz, aop, cV, cV1, AV.one, partCells, okW, onlyFr, app, sliceCells, cellsAt, srcA, subA, eqFs, Int.cast_ofNat_Int, simprocAttr]
  refine bits_put bP hp ho hpo hV hv hn hN hl ?_
  simp (maxSteps := 4000000) (disch := omega) only [step, stepv, ev, wl, wn, wp, wz, aop, cV, cV1, AV.one, partCells, okW, onlyFr, app, sliceCells, cellsAt, srcA, subA, eqFs, Int.cast_ofNat_Int, simprocAttr]
  exact hK

theorem putM (V N W j r : Nat) : V + 2 ^ N * (W % 2 ^ (j + r)) = V + 2 ^ N * (W % 2 ^ j) + 2 ^ (N + j) * (W / 2 ^ j % 2 ^ r) := putN
def S_Join (P : Prg) (f : Nat) : Prop := ∀ N V M W : Nat, V < 2 ^ N → W < 2 ^ M → N + M ≤ 330000 → VC P f [bA N V, bA M W] (.tup [bA (N + M) (V + 2 ^ N * W), .int .i64 0])
set_option maxHeartbeats 2000000 in
theorem bits_Join {P : Prg} {f fC fT fJ fK fG fP t0 t1 tb : Nat} (bd : Body P f 49 [.cell 4 t0, .tmp 5] (ac_bits_Join fC fT fJ t0)) (hC : S_bCheck P fC) (bT : Body P fT 9 [.cell 2 t1] (ac_bits_twin fK t1)) (bJ : Body P fJ 12 [] (ac_bits_Join_1 fG fP)) (hG : S_bget P fG) (bP : Body P fP 75 [] (ac_bits_put tb)) (hK : S_CloneB tb P fK) (ht : aggO P t0 = some (some 2)) (ht1 : aggO P t1 = some (some 2)) : S_Join P f := by
  intro N V M W hV hW hN
  refine VC.of_walk 2 (by simp [isDL, isD_bA, isD]) (by simp [isD, isDL, isD_bA]) (ACall.of_body bd (by simp) ?_)
  have hC1 := hC N V hV (by omega)
  have hC2 := hC M W hW (by omega)
  rw [bA] at hC1 hC2
  have tl : ∀ W M, isTL (u8 (leB W M)) = true := fun W M => isT_u8 _
  obtain ⟨q, hq⟩ : ∃ q, q = M / 64 := ⟨_, rfl⟩
  obtain ⟨r, hr⟩ : ∃ r, r = M % 64 := ⟨_, rfl⟩
  have hqr : 64 * q + r = M := by omega
  have q1 : (M : Int) / 64 = (q : Int) := by omega
  have q1' : ((M : Int)).tdiv 64 = (q : Int) := by rw [Int.tdiv_eq_ediv_of_nonneg (by omega)]; exact q1
  have q2 : (M : Int) % 64 = (r : Int) := by omega
  have q2' : ((M : Int)).tmod 64 = (r : Int) := by rw [Int.tmod_eq_emod_of_nonneg (by omega)]; exact q2
  have tw : ∀ (Q : Exit → St → Prop) os fr dst, wpQ P os Q ⟨putA fr dst (.agg [.own 3 (nB N), .int .i64 N]), [⟨t0, 2, 1, [.list (nB N) (u8 (leB V (nB N))), .int .i64 N], 0⟩, ⟨t0, 2, 1, [.list (nB M) (u8 (leB W (nB M))), .int .i64 M], 0⟩, ⟨t0, 2, 1, [.emp true, .int .i64 0], 0⟩, bY tb N V]⟩ →
      callQ P fT [.agg [.list (nB N) (u8 (leB V (nB N))), .int .i64 N]] [⟨t0, 2, 1, [.list (nB N) (u8 (leB V (nB N))), .int .i64 N], 0⟩, ⟨t0, 2, 1, [.list (nB M) (u8 (leB W (nB M))), .int .i64 M], 0⟩, ⟨t0, 2, 1, [.emp true, .int .i64 0], 0⟩] os Q fr dst := fun Q os fr dst h =>
    bits_twin bT hK ht1 (N := N) (V := V) (by omega) (Low.cons (by simp [lowL, lowV, lowL_D _ (isDL_leB _ _)]) (Low.cons (by simp [lowL, lowV, lowL_D _ (isDL_leB _ _)]) (Low.cons (by simp [lowL, lowV]) Low.nil))) h
  have jn : ∀ (a n : Nat) (Q : Exit → St → Prop) os fr dst, a + n ≤ M → n ≤ 64 → wpQ P os Q ⟨putA fr dst (.tup []), [⟨t0, 2, 1, [.list (nB N) (u8 (leB V (nB N))), .int .i64 N], 0⟩, ⟨t0, 2, 1, [.list (nB M) (u8 (leB W (nB M))), .int .i64 M], 0⟩, ⟨t0, 2, 1, [.emp true, .int .i64 0], 0⟩, bY tb (N + (a + n)) (V + 2 ^ N * (W % 2 ^ (a + n))), bO t0 3 (N + (a + n))]⟩ →
      callQ P fJ [.int .i64 a, .int .i64 n, .ref 4 1 0, .ref 1 1 0] [⟨t0, 2, 1, [.list (nB N) (u8 (leB V (nB N))), .int .i64 N], 0⟩, ⟨t0, 2, 1, [.list (nB M) (u8 (leB W (nB M))), .int .i64 M], 0⟩, ⟨t0, 2, 1, [.emp true, .int .i64 0], 0⟩, bY tb (N + a) (V + 2 ^ N * (W % 2 ^ a)), bO t0 3 (N + a)] os Q fr dst := fun a n Q os fr dst han hn h => by
    have hW1 : V + 2 ^ N * (W % 2 ^ a) < 2 ^ (N + a) := lt_append hV (Nat.mod_lt _ (Nat.pow_pos (by omega)))
    refine bits_Join_1 bJ hG bP (ob := [⟨t0, 2, 1, [.list (nB N) (u8 (leB V (nB N))), .int .i64 N], 0⟩, ⟨t0, 2, 1, [.list (nB M) (u8 (leB W (nB M))), .int .i64 M], 0⟩, ⟨t0, 2, 1, [.emp true, .int .i64 0], 0⟩, bY tb (N + a) (V + 2 ^ N * (W % 2 ^ a)), bO t0 3 (N + a)]) (p := 4) (o := 3) (q := 1) (t := t0) (N := N + a) rfl rfl (by decide) rfl hW1 hW (by omega) han hn (by omega)
      (Low.cons (by simp [lowL, lowV, lowL_D _ (isDL_leB _ _)]) (Low.cons (by simp [lowL, lowV, lowL_D _ (isDL_leB _ _)]) (Low.cons (by simp [lowL, lowV]) (Low.cons (lowL_D _ (isDL_leB _ _)) (Low.cons (by simp [bO, lowL, lowV]) Low.nil))))) ?_
    rw [← putM, Nat.add_assoc]
    exact h
  have tu' := tl (V + 2 ^ N * W) (nB (N + M))
  have hWm : W % 2 ^ M = W := Nat.mod_eq_of_lt hW
  simp (maxSteps := 4000000) (disch := omega) only [step, stepv, ev, wl, wn, wp, wz, aop, cV, cV1, AV.one, partCells, okW, onlyFr, app, sliceCells, cellsAt, srcA, subA, eqFs, Int.cast_ofNat_Int, simprocAttr, ac_bits_Join, bA]
  refine callQ.vc hC1 ?_
  simp (maxSteps := 4000000) (disch := omega) only [step, stepv, ev, wl, wn, wp, wz, aop, cV, cV1, AV.one, partCells, okW, onlyFr, app, sliceCells, cellsAt, srcA, subA, eqFs, Int.cast_ofNat_Int, simprocAttr]
  refine callQ.vc hC2 ?_
  simp (maxSteps := 4000000) (disch := omega) only [step, stepv, ev, wl, wn, wp, wz, aop, cV, cV1, AV.one, partCells, okW, onlyFr, app, sliceCells, cellsAt, srcA, subA, eqFs, Int.cast_ofNat_Int, simprocAttr]
  refine tw _ _ _ _ ?_
  simp (maxSteps := 4000000) (disch := omega) only [step, stepv, ev, wl, wn, wp, wz, aop, cV, cV1, AV.one, partCells, okW, onlyFr, app, sliceCells, cellsAt, srcA, subA, eqFs, Int.cast_ofNat_Int, simprocAttr, q1, q1']
  refine ALoop.by (ι := Nat) (fun j => ⟨[(31, .int .i64 j), (30, .int .i64 q), (7, .fn (.func fJ) [] [.ref 4 1 0, .ref 1 1 0]), (6, .ref 4 1 0), (4, .ref 2 1 0), (3, .ref 1 1 0)], [⟨t0, 2, 1, [.list (nB N) (u8 (leB V (nB N))), .int .i64 N], 0⟩, ⟨t0, 2, 1, [.list (nB M) (u8 (leB W (nB M))), .int .i64 M], 0⟩, ⟨t0, 2, 1, [.emp true, .int .i64 0], 0⟩, bY tb (N + 64 * j) (V + 2 ^ N * (W % 2 ^ (64 * j))), bO t0 3 (N + 64 * j)]⟩) (fun j => j ≤ q) (fun j => q - j) 0 ?_ (by omega) ?_
  · rw [Nat.mul_zero, Nat.add_zero, Nat.pow_zero, Nat.mod_one, Nat.mul_zero, Nat.add_zero]
    exact Le.slots (by simp [Am.look, bO])
  intro j hj
  by_cases hlt : j < q
  · have a1 : (64 : Int) * (j : Int) = ((64 * j : Nat) : Int) := by simp
    have hjn := jn (64 * j) 64
    simp (maxSteps := 4000000) (disch := omega) only [step, stepv, ev, wl, wn, wp, wz, aop, cV, cV1, AV.one, partCells, okW, onlyFr, app, sliceCells, cellsAt, srcA, subA, eqFs, Int.cast_ofNat_Int, simprocAttr, a1]
    refine hjn _ _ _ _ (by omega) (by omega) ?_
    simp (maxSteps := 4000000) (disch := omega) only [step, stepv, ev, wl, wn, wp, wz, aop, cV, cV1, AV.one, partCells, okW, onlyFr, app, sliceCells, cellsAt, srcA, subA, eqFs, Int.cast_ofNat_Int, simprocAttr]
    refine ⟨j + 1, by omega, by omega, ?_⟩
    simp only [show 64 * (j + 1) = 64 * j + 64 by omega]
    exact Le.slots (by simp [Am.look])
  · obtain rfl : j = q := by omega
    have a1 : (j : Int) * 64 = ((64 * j : Nat) : Int) := by omega
    have hjn := jn (64 * j) r
    rw [hqr, hWm] at hjn
    simp (maxSteps := 4000000) (disch := omega) only [step, stepv, ev, wl, wn, wp, wz, aop, cV, cV1, AV.one, partCells, okW, onlyFr, app, sliceCells, cellsAt, srcA, subA, eqFs, Int.cast_ofNat_Int, simprocAttr, q1, q1', q2, q2', a1]
    refine hjn _ _ _ _ (by omega) (by omega) ?_
    generalize V + 2 ^ N * W = Z at *
    simp (maxSteps := 4000000) (disch := omega) only [step, stepv, ev, wl, wn, wp, wz, aop, cV, cV1, AV.one, partCells, okW, onlyFr, app, sliceCells, cellsAt, srcA, subA, eqFs, Int.cast_ofNat_Int, simprocAttr, bO, resA, ht, oneOf]
    simp [frzN, frzK, frzL, frzV, bY, frzL_T _ tu']

end Go.Am

namespace Go.Am
open Go.RowKit

/-! ### Codes, sixteen at a time: coder.Encode -/

def sM (L i : Nat) : Nat := if i = L then L else i / 16 * 16
def pN (v : List Nat) (s i : Nat) : Nat := frmN 1 v i - frmN 1 v s
def pV (v : List Nat) (s i : Nat) : Nat := frmV 1 v i / 2 ^ frmN 1 v s
theorem pN_self (v : List Nat) (s : Nat) : pN v s s = 0 := Nat.sub_self _
theorem frm_le {v : List Nat} {s i : Nat} (h : s ≤ i) : frmN 1 v s ≤ frmN 1 v i := by
  have := frm_mono (c := 1) (v := v) (i - s) s
  rwa [show s + (i - s) = i by omega] at this
theorem pV_spec {v : List Nat} (hv : N32 v) {s i : Nat} (h : s ≤ i) : frmV 1 v i = frmV 1 v s + 2 ^ frmN 1 v s * pV v s i := by
  have := frm_low (c := 1) hv (V := frmV 1 v i) (i - s) s (by rw [show s + (i - s) = i by omega]; exact Nat.mod_eq_of_lt (frm_bounds hv i).1)
  rw [← this]
  exact (Nat.mod_add_div _ _).symm
theorem pV_lt {v : List Nat} (hv : N32 v) {s i : Nat} (h : s ≤ i) : pV v s i < 2 ^ pN v s i := by
  have h1 := (frm_bounds (c := 1) hv i).1
  have h2 := frm_le (v := v) h
  refine Nat.div_lt_of_lt_mul ?_
  rw [← Nat.pow_add, show frmN 1 v s + pN v s i = frmN 1 v i by unfold pN; omega]
  exact h1
theorem pN_succ {v : List Nat} {s i : Nat} (h : s ≤ i) : pN v s (i + 1) = pN v s i + codeN (chanM 1 0 (v.take i)) (v.getD i 0) := by
  have := frm_le (v := v) h
  have e := frmN_succ 1 v i
  rw [Nat.mod_one] at e
  unfold pN
  omega
theorem pV_succ {v : List Nat} (hv : N32 v) {s i : Nat} (h : s ≤ i) : pV v s (i + 1) = pV v s i + 2 ^ pN v s i * codeC (chanM 1 0 (v.take i)) (v.getD i 0) := by
  have e := frmV_succ 1 v i
  rw [Nat.mod_one] at e
  have e1 := pV_spec hv h
  have h2 := frm_le (v := v) h
  have h3 : frmN 1 v i = frmN 1 v s + pN v s i := by unfold pN; omega
  have e2 := (frm_bounds (c := 1) hv s).1
  rw [e1, h3, Nat.pow_add, Nat.mul_assoc, Nat.add_assoc, ← Nat.mul_add] at e
  show frmV 1 v (i + 1) / 2 ^ frmN 1 v s = _
  rw [e, Nat.add_mul_div_left _ _ (Nat.pow_pos (by decide)), Nat.div_eq_of_lt e2, Nat.zero_add]
theorem chan_one1 {v : List Nat} {i : Nat} (hi : i < v.length) : learnM (chanM 1 0 (v.take i)) (v.getD i 0) = chanM 1 0 (v.take (i + 1)) := by
  have ht : v.take (i + 1) = v.take i ++ [v.getD i 0] := by
    rw [List.take_succ_eq_append_getElem hi]
    simp [List.getD_eq_getElem?_getD, List.getElem?_eq_getElem hi]
  rw [ht, chan_snoc, if_pos (by rw [Nat.mod_one])]
def cB (z : Bool) (N V : Nat) : AV := if z then .emp true else .list (nB N) (u8 (leB V (nB N)))
theorem frz_cB {f : List AV → Option (List AV)} {kp ok : Nat → Bool} {ob : List Ob} {z : Bool} {N V : Nat} (hz : z = true → N = 0) : frzV f kp ok ob (cB z N V) = some (.list (nB N) (u8 (leB V (nB N)))) := by
  cases z with
  | true =>
    have := hz rfl
    subst this
    simp only [cB, if_true, frzV]
    rfl
  | false =>
    have e : cB false N V = .list (nB N) (u8 (leB V (nB N))) := rfl
    simp only [e, frzV, frzL_T _ (isT_u8 _), Option.map_some]
theorem one_cB (z : Bool) (N V : Nat) : (cB z N V).one = true := by cases z <;> rfl

def S_CEnc (P : Prg) (f : Nat) : Prop := ∀ v : List Nat, N32 v → 1 ≤ v.length → v.length ≤ 4000 → VC P f [n32A v] (.tup [bA (frmN 1 v v.length) (frmV 1 v v.length), .int .i64 0])
set_option maxHeartbeats 2000000 in
set_option maxRecDepth 20000 in
theorem coder_Encode {P : Prg} {f fS fW fJ t0 t1 : Nat} (bd : Body P f 57 [.cell 2 t0, .tmp 3] (ac_coder_Encode fS fW fJ t0 t1)) (hS : S_Start P fS) (hW : S_dWrite P fW) (hJ : S_Join P fJ) (ht : aggO P t0 = some (some 2)) : S_CEnc P f := by
  intro v hv hv1 hv4
  refine VC.of_walk 1 (by simp [isDL, isD_n32A]) (by simp [isD, isDL, isD_bA]) (ACall.of_body bd (by simp) ?_)
  have hln : (ks .u32 (v.map fun n : Nat => (n : Int))).length = v.length := by simp [ks]
  have hfb := frm_bounds (c := 1) hv
  have tl : ∀ W M, isTL (u8 (leB W M)) = true := fun W M => isT_u8 _
  have hch : chanM 1 0 (v.take 0) = startM := by rw [List.take_zero]; rfl
  have hs0 : sM v.length 0 = 0 := by unfold sM; rw [if_neg (by omega)]
  simp only [S_Start] at hS
  simp only [n32A, u32L, List.length_map]
  simp (maxSteps := 4000000) (disch := omega) only [step, stepv, ev, wl, wn, wp, wz, aop, cV, cV1, AV.one, partCells, okW, onlyFr, app, sliceCells, cellsAt, srcA, subA, eqFs, Int.cast_ofNat_Int, simprocAttr, ac_coder_Encode, hln]
  refine callQ.vc hS ?_
  simp (maxSteps := 4000000) (disch := omega) only [step, stepv, ev, wl, wn, wp, wz, aop, cV, cV1, AV.one, partCells, okW, onlyFr, app, sliceCells, cellsAt, srcA, subA, eqFs, Int.cast_ofNat_Int, simprocAttr, startM, dlA, dlC]
  refine ALoop.by (ι := Nat) (fun i => ⟨[(17, .int .i64 i), (16, .int .i64 v.length), (15, .list v.length (ks .u32 (v.map fun n : Nat => (n : Int)))), (6, .ref 3 1 0), (5, .ref 2 1 0), (4, .ref 1 1 0), (2, .ref 0 1 0), (0, .list v.length (ks .u32 (v.map fun n : Nat => (n : Int))))],
      [⟨t0, 2, 1, [.emp true, .int .i64 0], 0⟩,
       ⟨t0, 2, 1, [cB (decide (sM v.length i = 0)) (frmN 1 v (sM v.length i)) (frmV 1 v (sM v.length i)), .int .i64 (frmN 1 v (sM v.length i))], 0⟩,
       ⟨t0, 2, 1, [cB (decide (sM v.length i = i)) (pN v (sM v.length i) i) (pV v (sM v.length i) i), .int .i64 (pN v (sM v.length i) i)], 0⟩,
       ⟨t1, 4, 1, dlC (chanM 1 0 (v.take i)), 0⟩]⟩) (fun i => i ≤ v.length) (fun i => v.length - i) 0 ?_ (by omega) ?_
  · simp only [hs0, hch, pN_self, frmN_zero]
    exact Le.slots (by simp [Am.look])
  intro i hi
  by_cases hlt : i < v.length
  · obtain ⟨s, hs⟩ : ∃ s, s = sM v.length i := ⟨_, rfl⟩
    have hsi : s = i / 16 * 16 := by rw [hs]; unfold sM; rw [if_neg (by omega)]
    have hle : s ≤ i := by omega
    have hd := chan_ok (c := 1) (r := 0) (hv.take i)
    have hvi := hv.getD i
    have hpN := pN_succ (v := v) hle
    have hpV := pV_succ hv hle
    have hfle := frm_le (v := v) hle
    have hfi := (hfb i).2.1
    have hpe : pN v s i = frmN 1 v i - frmN 1 v s := rfl
    have hW' := hW (pN v s i) (pV v s i) (v.getD i 0) (chanM 1 0 (v.take i)) (pV_lt hv hle) hvi hd (by omega)
    rw [← hpN, ← hpV, chan_one1 hlt] at hW'
    have hfi1 := (hfb (i + 1)).2.1
    have hp1 : pN v s (i + 1) = frmN 1 v (i + 1) - frmN 1 v s := rfl
    have hle1 := frm_le (v := v) (show s ≤ i + 1 by omega)
    have hJ' := hJ (frmN 1 v s) (frmV 1 v s) (pN v s (i + 1)) (pV v s (i + 1)) (hfb s).1 (pV_lt hv (by omega)) (by omega)
    rw [← pV_spec hv (show s ≤ i + 1 by omega), show frmN 1 v s + pN v s (i + 1) = frmN 1 v (i + 1) by omega] at hJ'
    have hkat := ks_at (K := .u32) (l := v.map fun n : Nat => (n : Int)) (i := i) (by simpa using hlt)
    have hgd : (v.map fun n : Nat => (n : Int)).getD i 0 = ((v.getD i 0 : Nat) : Int) := by simp [List.getD_eq_getElem?_getD, List.getElem?_eq_getElem hlt]
    rw [hgd] at hkat
    simp only [← hs]
    have o1 := one_cB (decide (s = i)) (pN v s i) (pV v s i)
    have o2 := one_cB (decide (s = 0)) (frmN 1 v s) (frmV 1 v s)
    obtain ⟨r, hr⟩ : ∃ r, r = i % 16 := ⟨_, rfl⟩
    have q1 : (i : Int) % 16 = (r : Int) := by omega
    have q1' : ((i : Int)).tmod 16 = (r : Int) := by rw [Int.tmod_eq_emod_of_nonneg (by omega)]; exact q1
    have ds : (s = i) → pN v s i = 0 := fun e => by rw [e, pN_self]
    have dz : (s = 0) → frmN 1 v s = 0 := fun e => by rw [e, frmN_zero]
    generalize codeN (chanM 1 0 (v.take i)) (v.getD i 0) = cn at *
    generalize codeC (chanM 1 0 (v.take i)) (v.getD i 0) = cc at *
    generalize hdi : chanM 1 0 (v.take i) = D at *
    generalize hdi1 : chanM 1 0 (v.take (i + 1)) = D1 at *
    generalize v.getD i 0 = vi at *
    obtain ⟨a0, a1, a2, a3⟩ := D
    obtain ⟨b0, b1, b2, b3⟩ := D1
    simp only [dlA, dlC] at hW'
    simp only [dlC]
    have y1 : decide (s = i) = true → pN v s i = 0 := fun e => ds (by simpa using e)
    have y2 : decide (s = 0) = true → frmN 1 v s = 0 := fun e => dz (by simpa using e)
    generalize hP1 : pN v s (i + 1) = P1 at *
    generalize hW1 : pV v s (i + 1) = W1 at *
    generalize pN v s i = P0 at *
    generalize pV v s i = W0 at *
    generalize decide (s = i) = z1 at *
    generalize hz2 : decide (s = 0) = z2 at *
    have hf1 : ∀ (f : List AV → Option (List AV)) kp ok ob, frzV f kp ok ob (cB z1 P0 W0) = some (.list (nB P0) (u8 (leB W0 (nB P0)))) := fun f kp ok ob => frz_cB y1
    have hf2 : ∀ (f : List AV → Option (List AV)) kp ok ob, frzV f kp ok ob (cB z2 (frmN 1 v s) (frmV 1 v s)) = some (.list (nB (frmN 1 v s)) (u8 (leB (frmV 1 v s) (nB (frmN 1 v s))))) := fun f kp ok ob => frz_cB y2
    simp only [bA] at hW' hJ'
    have tu1 := tl W1 (nB P1)
    by_cases hfl : i % 16 = 15 ∨ i = v.length - 1
    · have hs1 : sM v.length (i + 1) = i + 1 := by unfold sM; split <;> omega
      have t1 : cB (decide (i + 1 = 0)) (frmN 1 v (i + 1)) (frmV 1 v (i + 1)) = .list (nB (frmN 1 v (i + 1))) (u8 (leB (frmV 1 v (i + 1)) (nB (frmN 1 v (i + 1))))) := by simp [cB]
      have t2 : cB (decide (i + 1 = i + 1)) 0 (pV v (i + 1) (i + 1)) = .emp true := by simp [cB]
      by_cases h15 : r = 15
      · subst h15
        simp (maxSteps := 4000000) (disch := omega) only [step, stepv, ev, wl, wn, wp, wz, aop, cV, cV1, AV.one, partCells, okW, onlyFr, app, sliceCells, cellsAt, srcA, subA, eqFs, Int.cast_ofNat_Int, simprocAttr, hln, hkat, o1, o2]
        refine callQ.still 1 [] hW' (by simp [frzN, frzK, frzL, frzV, hf1]) ?_
        simp (maxSteps := 4000000) (disch := omega) only [step, stepv, ev, wl, wn, wp, wz, aop, cV, cV1, AV.one, partCells, okW, onlyFr, app, sliceCells, cellsAt, srcA, subA, eqFs, Int.cast_ofNat_Int, simprocAttr, stillAt, q1, q1', o1, o2]
        refine callQ.still 1 [] hJ' (by simp [frzN, frzK, frzL, frzV, hf2, frzL_T _ tu1]) ?_
        simp (maxSteps := 4000000) (disch := omega) only [step, stepv, ev, wl, wn, wp, wz, aop, cV, cV1, AV.one, partCells, okW, onlyFr, app, sliceCells, cellsAt, srcA, subA, eqFs, Int.cast_ofNat_Int, simprocAttr, stillAt, AV.one]
        refine ⟨i + 1, by omega, by omega, ?_⟩
        simp only [hs1, pN_self, t1, t2, hdi1]
        exact Le.slots (by simp [Am.look])
      · have hr15 : (r : Int) ≠ 15 := by omega
        have hie : (i : Int) = (v.length : Int) - 1 := by omega
        simp (maxSteps := 4000000) (disch := omega) only [step, stepv, ev, wl, wn, wp, wz, aop, cV, cV1, AV.one, partCells, okW, onlyFr, app, sliceCells, cellsAt, srcA, subA, eqFs, Int.cast_ofNat_Int, simprocAttr, hln, hkat, o1, o2]
        refine callQ.still 1 [] hW' (by simp [frzN, frzK, frzL, frzV, hf1]) ?_
        simp (maxSteps := 4000000) (disch := omega) only [step, stepv, ev, wl, wn, wp, wz, aop, cV, cV1, AV.one, partCells, okW, onlyFr, app, sliceCells, cellsAt, srcA, subA, eqFs, Int.cast_ofNat_Int, simprocAttr, stillAt, q1, q1', o1, o2, hr15, hln]
        refine callQ.still 1 [] hJ' (by simp [frzN, frzK, frzL, frzV, hf2, frzL_T _ tu1]) ?_
        simp (maxSteps := 4000000) (disch := omega) only [step, stepv, ev, wl, wn, wp, wz, aop, cV, cV1, AV.one, partCells, okW, onlyFr, app, sliceCells, cellsAt, srcA, subA, eqFs, Int.cast_ofNat_Int, simprocAttr, stillAt, AV.one]
        refine ⟨i + 1, by omega, by omega, ?_⟩
        simp only [hs1, pN_self, t1, t2, hdi1]
        exact Le.slots (by simp [Am.look])
    · have hs1 : sM v.length (i + 1) = s := by unfold sM; split <;> omega
      have t1 : cB (decide (s = i + 1)) P1 W1 = .list (nB P1) (u8 (leB W1 (nB P1))) := by
        have : ¬ s = i + 1 := by omega
        simp [cB, this]
      have hr15 : (r : Int) ≠ 15 := by omega
      have hie : (i : Int) ≠ (v.length : Int) - 1 := by omega
      simp (maxSteps := 4000000) (disch := omega) only [step, stepv, ev, wl, wn, wp, wz, aop, cV, cV1, AV.one, partCells, okW, onlyFr, app, sliceCells, cellsAt, srcA, subA, eqFs, Int.cast_ofNat_Int, simprocAttr, hln, hkat, o1, o2]
      refine callQ.still 1 [] hW' (by simp [frzN, frzK, frzL, frzV, hf1]) ?_
      simp (maxSteps := 4000000) (disch := omega) only [step, stepv, ev, wl, wn, wp, wz, aop, cV, cV1, AV.one, partCells, okW, onlyFr, app, sliceCells, cellsAt, srcA, subA, eqFs, Int.cast_ofNat_Int, simprocAttr, stillAt, q1, q1', o1, o2, hr15, hie, hln]
      refine ⟨i + 1, by omega, by omega, ?_⟩
      simp only [hs1, hP1, hW1, t1, hdi1, hz2]
      exact Le.slots (by simp [Am.look])
  · obtain rfl : i = v.length := by omega
    have hsL : sM v.length v.length = v.length := by simp [sM]
    have t1 : cB (decide (v.length = 0)) (frmN 1 v v.length) (frmV 1 v v.length) = .list (nB (frmN 1 v v.length)) (u8 (leB (frmV 1 v v.length) (nB (frmN 1 v v.length)))) := by
      have : ¬ v.length = 0 := by omega
      simp [cB, this]
    have tu1 := tl (frmV 1 v v.length) (nB (frmN 1 v v.length))
    simp only [hsL, t1]
    simp (maxSteps := 4000000) (disch := omega) only [step, stepv, ev, wl, wn, wp, wz, aop, cV, cV1, AV.one, partCells, okW, onlyFr, app, sliceCells, cellsAt, srcA, subA, eqFs, Int.cast_ofNat_Int, simprocAttr, resA, ht, oneOf, AV.one]
    simp [frzN, frzK, frzL, frzV, frzL_T _ tu1, bA]

end Go.Am

namespace Go.Am
open Go.RowKit

/-! ### The law EnframeOne -/

def S_LawOne (P : Prg) (f : Nat) : Prop := ∀ (x : Int) (t l : List Int), t.length = 16 → I32 t → I32 l → VC P f [.int .i64 x, .agg (ks .i32 t), il l] (.bool true)
set_option maxHeartbeats 1000000 in
set_option maxRecDepth 20000 in
theorem law20_EnframeOne {P : Prg} {f fA fQ fE fV fC fZ t0 t1 t2 : Nat} (bd : Body P f 78 [.tmp 6] (ac_cadenzalaw20_EnframeOne fA fQ fE fV fC fZ t0 t1 t2)) (hA : S_alive21 P fA) (hQ : S_EAsk P fQ) (hE : S_Enc P fE) (hV : S_EVals P fV) (hC : S_CEnc P fC) (hZ : S_Sealed P fZ) : S_LawOne P f := by
  intro x t l ht hI hL
  have hk : (ks .i32 t).length = 16 := by simp [ks_length, ht]
  have tt : (ks .i32 t).take 16 = ks .i32 t := take_all (by omega)
  have ot := ks_one .i32 t
  refine VC.of_acall (by simp [isDL, isD, isD_il, isDL_ks]) rfl (ACall.of_body bd (by simp) ?_)
  have hA' : VC P fA [] (.bool true) := hA
  have hQ' := hQ 1 x l hL
  have hV' := hV 1 x t l ht hI hL
  have hE' := hE 1 x t l ht hI hL
  simp only [shA, il] at hQ' hV' hE' ⊢
  by_cases h1 : 600 < l.length
  · simp (maxSteps := 4000000) (disch := omega) only [step, stepv, ev, wl, wn, wp, wz, aop, cV, cV1, AV.one, partCells, okW, onlyFr, app, sliceCells, cellsAt, srcA, subA, eqFs, Int.cast_ofNat_Int, simprocAttr, ac_cadenzalaw20_EnframeOne, hk, ot, tt]
    refine callQ.vc hA' ?_
    simp (maxSteps := 4000000) (disch := omega) only [step, stepv, ev, wl, wn, wp, wz, aop, cV, cV1, AV.one, partCells, okW, onlyFr, app, sliceCells, cellsAt, srcA, subA, eqFs, Int.cast_ofNat_Int, simprocAttr]
  by_cases h0 : askN 1 x l = 0
  case neg =>
    simp (maxSteps := 4000000) (disch := omega) only [step, stepv, ev, wl, wn, wp, wz, aop, cV, cV1, AV.one, partCells, okW, onlyFr, app, sliceCells, cellsAt, srcA, subA, eqFs, Int.cast_ofNat_Int, simprocAttr, ac_cadenzalaw20_EnframeOne, hk, ot, tt]
    refine callQ.vc hA' ?_
    simp (maxSteps := 4000000) (disch := omega) only [step, stepv, ev, wl, wn, wp, wz, aop, cV, cV1, AV.one, partCells, okW, onlyFr, app, sliceCells, cellsAt, srcA, subA, eqFs, Int.cast_ofNat_Int, simprocAttr, h1]
    refine callQ.vc hQ' ?_
    simp (maxSteps := 4000000) (disch := omega) only [step, stepv, ev, wl, wn, wp, wz, aop, cV, cV1, AV.one, partCells, okW, onlyFr, app, sliceCells, cellsAt, srcA, subA, eqFs, Int.cast_ofNat_Int, simprocAttr, h0]
  rw [h0] at hQ'
  obtain ⟨hle1, hle2⟩ := enc_le (t := t) hL h0
  obtain ⟨k, m, ek, hkM, hx, e1, e2, e3, e4, e5, e6⟩ := ask_all hL h0
  have ek' : k = 1 := by omega
  subst ek'
  obtain ⟨c1, c6, l0, l4, lm, _⟩ := hkM
  have h0' : askN ((1 : Nat) : Int) x l = 0 := h0
  have hv1 : valA ((1 : Nat) : Int) x t l = _ := valA_ok' h0'
  have hv2 : enfA ((1 : Nat) : Int) x t l = _ := enfA_ok h0'
  rw [show ((1 : Nat) : Int) = 1 from rfl] at hv1 hv2
  rw [hv1, u32L_valE] at hV'
  rw [hv2] at hE'
  rw [show (1 : Int).toNat = 1 from rfl] at hle1 hle2
  have hvl := valE_len 1 x t l
  have hv := valE_ok 1 x t l
  obtain ⟨b1, b2⟩ := frmB_bounds (c := 1) hv (by omega) (by omega)
  have hZ' := hZ (frmB 1 (valE 1 x t l)) (by omega)
  rw [← sealB, show sealB (frmB 1 (valE 1 x t l)) = encB 1 x t l from rfl] at hZ'
  have hC' := hC (valE 1 x t l) hv (by omega) (by omega)
  have hfl := frmB_len 1 (valE 1 x t l)
  have hfe : frmB 1 (valE 1 x t l) = leB (frmV 1 (valE 1 x t l) (valE 1 x t l).length) (nB (frmN 1 (valE 1 x t l) (valE 1 x t l).length)) := rfl
  simp only [bs, hfl] at hE' hZ'
  rw [hfe] at hZ'
  simp only [n32A, u32L, List.length_map, bA, hvl] at hC' hZ'
  generalize valE 1 x t l = v at *
  generalize frmN 1 v l.length = N at *
  generalize u8 (leB (frmV 1 v l.length) (nB N)) = U at *
  generalize encB 1 x t l = R at *
  have hst : strA .eql R R = some (.bool true) := by simp [strA]
  have hRl : (u8 R).length = R.length := u8_length R
  have hR5 : ¬ R.length < 5 := by omega
  simp (maxSteps := 4000000) (disch := omega) only [step, stepv, ev, wl, wn, wp, wz, aop, cV, cV1, AV.one, partCells, okW, onlyFr, app, sliceCells, cellsAt, srcA, subA, eqFs, Int.cast_ofNat_Int, simprocAttr, ac_cadenzalaw20_EnframeOne, hk, ot, tt]
  refine callQ.vc hA' ?_
  simp (maxSteps := 4000000) (disch := omega) only [step, stepv, ev, wl, wn, wp, wz, aop, cV, cV1, AV.one, partCells, okW, onlyFr, app, sliceCells, cellsAt, srcA, subA, eqFs, Int.cast_ofNat_Int, simprocAttr, h1]
  refine callQ.vc hQ' ?_
  simp (maxSteps := 4000000) (disch := omega) only [step, stepv, ev, wl, wn, wp, wz, aop, cV, cV1, AV.one, partCells, okW, onlyFr, app, sliceCells, cellsAt, srcA, subA, eqFs, Int.cast_ofNat_Int, simprocAttr, hk, ot, tt]
  refine callQ.vc hE' ?_
  simp (maxSteps := 4000000) (disch := omega) only [step, stepv, ev, wl, wn, wp, wz, aop, cV, cV1, AV.one, partCells, okW, onlyFr, app, sliceCells, cellsAt, srcA, subA, eqFs, Int.cast_ofNat_Int, simprocAttr, hk, ot, tt]
  refine callQ.vc hV' ?_
  simp (maxSteps := 4000000) (disch := omega) only [step, stepv, ev, wl, wn, wp, wz, aop, cV, cV1, AV.one, partCells, okW, onlyFr, app, sliceCells, cellsAt, srcA, subA, eqFs, Int.cast_ofNat_Int, simprocAttr]
  refine callQ.vc hC' ?_
  simp (maxSteps := 4000000) (disch := omega) only [step, stepv, ev, wl, wn, wp, wz, aop, cV, cV1, AV.one, partCells, okW, onlyFr, app, sliceCells, cellsAt, srcA, subA, eqFs, Int.cast_ofNat_Int, simprocAttr, hRl, AV.one]
  refine callD.vc hZ' ?_
  simp (maxSteps := 4000000) (disch := omega) only [step, stepv, ev, wl, wn, wp, wz, aop, cV, cV1, AV.one, partCells, okW, onlyFr, app, sliceCells, cellsAt, srcA, subA, eqFs, Int.cast_ofNat_Int, simprocAttr, hst, hRl]

end Go.Am
