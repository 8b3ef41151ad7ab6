/- What the functions that the law reaches return, for every program that has their code; the conditions stand in each statement. -/
import Derived.Test.YtjkgohbljmmmdaaDeframeSamplesL2
set_option linter.unusedSectionVars false
set_option linter.unusedSimpArgs false
set_option linter.unusedVariables false
namespace Go.Am
open Go.RowKit

theorem ref20_Values {P : Program} {f fA fC t0 t1 : Nat} (b : Body P f 19 [.tmp 6, .tmp 7] (ac_cadenzaref20_Values fA fC t0 t1)) (hA : S_EAsk P fA) (hC : S_RCoded P fC) : S_EVals P f := by
  intro c x t l hl hI hL
  have hk : (ks .i32 t).length = 16 := by simp [ks_length, hl]
  have ot := ks_one .i32 t
  have tt : (ks .i32 t).take 16 = ks .i32 t := take_all (by omega)
  refine VC.of_walk 1 (by simp [isDL, isD, isD_il, isDL_ks, shA]) (isD_val _ _ _ _) (ACall.of_body b (by simp) ?_)
  have hA' := hA c x l hL
  rw [shA] at hA'
  simp (config := { maxSteps := 4000000 }) (disch := omega) only [step, stepv, ev, wl, wn, wp, aop, cV, cV1, ↓reduceIte, Nat.reduceEqDiff, Nat.reduceAdd, Int.cast_ofNat_Int, if_true, if_false, AV.one, repCells, fillA, partCells, Nat.reduceLT, Nat.reduceLeDiff, Nat.reduceMul, Nat.reduceSub, Int.reduceLT, Int.reduceLE, Int.reduceAdd, Int.reduceSub, Int.reduceMul, Int.reduceToNat, sliceCells, cellsAt, srcA, app, reduceCtorEq, Int.reduceEq, Int.reduceNeg, Int.reducePow, Nat.reducePow, Int.reduceTDiv, Int.reduceDiv, Nat.reduceDiv, Nat.reduceMod, Int.reduceMod, Int.reduceTMod, ne_eq, subA, beq_iff_eq, unA, minA, maxA, eqFs, eqA1, beq_self_eq_true, Nat.reduceBEq, ac_cadenzaref20_Values, shA, hk, ot, tt]
  refine callQ.vc hA' ?_
  by_cases h0 : askN c x l = 0
  · obtain ⟨k, rfl, hok, hx⟩ := ask_okM hL h0
    have hC' := hC k x t l hl hI hok hx
    rw [shA] at hC'
    have e9 : valA k x t l = .tup [u32L (outT k (mixAll k l) (newC x t) l.length), .int .i64 0] := by simp [valA, h0]
    simp (config := { maxSteps := 4000000 }) (disch := omega) only [step, stepv, ev, wl, wn, wp, aop, cV, cV1, ↓reduceIte, Nat.reduceEqDiff, Nat.reduceAdd, Int.cast_ofNat_Int, if_true, if_false, AV.one, repCells, fillA, partCells, Nat.reduceLT, Nat.reduceLeDiff, Nat.reduceMul, Nat.reduceSub, Int.reduceLT, Int.reduceLE, Int.reduceAdd, Int.reduceSub, Int.reduceMul, Int.reduceToNat, sliceCells, cellsAt, srcA, app, reduceCtorEq, Int.reduceEq, Int.reduceNeg, Int.reducePow, Nat.reducePow, Int.reduceTDiv, Int.reduceDiv, Nat.reduceDiv, Nat.reduceMod, Int.reduceMod, Int.reduceTMod, ne_eq, subA, beq_iff_eq, unA, minA, maxA, eqFs, eqA1, beq_self_eq_true, Nat.reduceBEq, h0, hk, ot, tt]
    refine callQ.vc hC' ?_
    simp (config := { maxSteps := 4000000 }) (disch := omega) only [step, stepv, ev, wl, wn, wp, aop, cV, cV1, ↓reduceIte, Nat.reduceEqDiff, Nat.reduceAdd, Int.cast_ofNat_Int, if_true, if_false, AV.one, repCells, fillA, partCells, Nat.reduceLT, Nat.reduceLeDiff, Nat.reduceMul, Nat.reduceSub, Int.reduceLT, Int.reduceLE, Int.reduceAdd, Int.reduceSub, Int.reduceMul, Int.reduceToNat, sliceCells, cellsAt, srcA, app, reduceCtorEq, Int.reduceEq, Int.reduceNeg, Int.reducePow, Nat.reducePow, Int.reduceTDiv, Int.reduceDiv, Nat.reduceDiv, Nat.reduceMod, Int.reduceMod, Int.reduceTMod, ne_eq, subA, beq_iff_eq, unA, minA, maxA, eqFs, eqA1, beq_self_eq_true, Nat.reduceBEq, e9]
    simp [frzN, frzK, frzL, frzV, isDL, isD, u32L, frzL_T _ (isTL_ks .u32 _)]
  · have e9 : valA c x t l = .tup [.list 0 [], .int .i64 (askN c x l)] := by simp [valA, h0]
    simp (config := { maxSteps := 4000000 }) (disch := omega) only [step, stepv, ev, wl, wn, wp, aop, cV, cV1, ↓reduceIte, Nat.reduceEqDiff, Nat.reduceAdd, Int.cast_ofNat_Int, if_true, if_false, AV.one, repCells, fillA, partCells, Nat.reduceLT, Nat.reduceLeDiff, Nat.reduceMul, Nat.reduceSub, Int.reduceLT, Int.reduceLE, Int.reduceAdd, Int.reduceSub, Int.reduceMul, Int.reduceToNat, sliceCells, cellsAt, srcA, app, reduceCtorEq, Int.reduceEq, Int.reduceNeg, Int.reducePow, Nat.reducePow, Int.reduceTDiv, Int.reduceDiv, Nat.reduceDiv, Nat.reduceMod, Int.reduceMod, Int.reduceTMod, ne_eq, subA, beq_iff_eq, unA, minA, maxA, eqFs, eqA1, beq_self_eq_true, Nat.reduceBEq, h0, hk, ot, tt]
    refine callQ.vc hA' ?_
    simp (config := { maxSteps := 4000000 }) (disch := omega) only [step, stepv, ev, wl, wn, wp, aop, cV, cV1, ↓reduceIte, Nat.reduceEqDiff, Nat.reduceAdd, Int.cast_ofNat_Int, if_true, if_false, AV.one, repCells, fillA, partCells, Nat.reduceLT, Nat.reduceLeDiff, Nat.reduceMul, Nat.reduceSub, Int.reduceLT, Int.reduceLE, Int.reduceAdd, Int.reduceSub, Int.reduceMul, Int.reduceToNat, sliceCells, cellsAt, srcA, app, reduceCtorEq, Int.reduceEq, Int.reduceNeg, Int.reducePow, Nat.reducePow, Int.reduceTDiv, Int.reduceDiv, Nat.reduceDiv, Nat.reduceMod, Int.reduceMod, Int.reduceTMod, ne_eq, subA, beq_iff_eq, unA, minA, maxA, eqFs, eqA1, beq_self_eq_true, Nat.reduceBEq, e9]
    simp [frzN, frzK, frzL, frzV, isDL, isD, isD_u32L]

def greatL (l : List Int) : Prop := (600 < l.length ∧ l.length ≤ 4000) ∨ 4100 < l.length
def S_Great13 (P : Program) (f : Nat) : Prop := ∀ l : List Int, (greatL l → VC P f [il l] (.bool true)) ∧ (¬ greatL l → VC P f [il l] (.bool false))
theorem ref13_Great {P : Program} {f : Nat} (b : Body P f 16 [.tmp 2] ac_cadenzaref13_Great) : S_Great13 P f := by
  intro l
  constructor <;> intro hg <;> refine VC.of_acall (by simp [isDL, isD, isD_il]) rfl (ACall.of_body b (by simp) ?_) <;> unfold greatL at hg <;> by_cases h1 : 600 < l.length <;> by_cases h2 : l.length ≤ 4000 <;> by_cases h3 : 4100 < l.length <;> first | (exfalso; omega) | simp (config := { maxSteps := 4000000 }) (disch := omega) only [step, stepv, ev, wl, wn, wp, aop, cV, cV1, ↓reduceIte, Nat.reduceEqDiff, Nat.reduceAdd, Int.cast_ofNat_Int, if_true, if_false, AV.one, repCells, fillA, partCells, Nat.reduceLT, Nat.reduceLeDiff, Nat.reduceMul, Nat.reduceSub, Int.reduceLT, Int.reduceLE, Int.reduceAdd, Int.reduceSub, Int.reduceMul, Int.reduceToNat, sliceCells, cellsAt, srcA, app, reduceCtorEq, Int.reduceEq, Int.reduceNeg, Int.reducePow, Nat.reducePow, Int.reduceTDiv, Int.reduceDiv, Nat.reduceDiv, Nat.reduceMod, Int.reduceMod, Int.reduceTMod, ne_eq, subA, beq_iff_eq, unA, minA, maxA, eqFs, eqA1, beq_self_eq_true, Nat.reduceBEq, ac_cadenzaref13_Great, il]
theorem ref20_Great {P : Program} {f fG : Nat} (b : Body P f 5 [.tmp 2] (ac_cadenzaref20_Great fG)) (hG : S_Great13 P fG) : S_Great13 P f := by
  intro l
  constructor <;> intro hg <;> refine VC.of_acall (by simp [isDL, isD, isD_il]) rfl (ACall.of_body b (by simp) ?_) <;> simp (config := { maxSteps := 4000000 }) (disch := omega) only [step, stepv, ev, wl, wn, wp, aop, cV, cV1, ↓reduceIte, Nat.reduceEqDiff, Nat.reduceAdd, Int.cast_ofNat_Int, if_true, if_false, AV.one, repCells, fillA, partCells, Nat.reduceLT, Nat.reduceLeDiff, Nat.reduceMul, Nat.reduceSub, Int.reduceLT, Int.reduceLE, Int.reduceAdd, Int.reduceSub, Int.reduceMul, Int.reduceToNat, sliceCells, cellsAt, srcA, app, reduceCtorEq, Int.reduceEq, Int.reduceNeg, Int.reducePow, Nat.reducePow, Int.reduceTDiv, Int.reduceDiv, Nat.reduceDiv, Nat.reduceMod, Int.reduceMod, Int.reduceTMod, ne_eq, subA, beq_iff_eq, unA, minA, maxA, eqFs, eqA1, beq_self_eq_true, Nat.reduceBEq, ac_cadenzaref20_Great]
  · refine callQ.vc ((hG l).1 hg) ?_
    simp (config := { maxSteps := 4000000 }) (disch := omega) only [step, stepv, ev, wl, wn, wp, aop, cV, cV1, ↓reduceIte, Nat.reduceEqDiff, Nat.reduceAdd, Int.cast_ofNat_Int, if_true, if_false, AV.one, repCells, fillA, partCells, Nat.reduceLT, Nat.reduceLeDiff, Nat.reduceMul, Nat.reduceSub, Int.reduceLT, Int.reduceLE, Int.reduceAdd, Int.reduceSub, Int.reduceMul, Int.reduceToNat, sliceCells, cellsAt, srcA, app, reduceCtorEq, Int.reduceEq, Int.reduceNeg, Int.reducePow, Nat.reducePow, Int.reduceTDiv, Int.reduceDiv, Nat.reduceDiv, Nat.reduceMod, Int.reduceMod, Int.reduceTMod, ne_eq, subA, beq_iff_eq, unA, minA, maxA, eqFs, eqA1, beq_self_eq_true, Nat.reduceBEq]
  · refine callQ.vc ((hG l).2 hg) ?_
    simp (config := { maxSteps := 4000000 }) (disch := omega) only [step, stepv, ev, wl, wn, wp, aop, cV, cV1, ↓reduceIte, Nat.reduceEqDiff, Nat.reduceAdd, Int.cast_ofNat_Int, if_true, if_false, AV.one, repCells, fillA, partCells, Nat.reduceLT, Nat.reduceLeDiff, Nat.reduceMul, Nat.reduceSub, Int.reduceLT, Int.reduceLE, Int.reduceAdd, Int.reduceSub, Int.reduceMul, Int.reduceToNat, sliceCells, cellsAt, srcA, app, reduceCtorEq, Int.reduceEq, Int.reduceNeg, Int.reducePow, Nat.reducePow, Int.reduceTDiv, Int.reduceDiv, Nat.reduceDiv, Nat.reduceMod, Int.reduceMod, Int.reduceTMod, ne_eq, subA, beq_iff_eq, unA, minA, maxA, eqFs, eqA1, beq_self_eq_true, Nat.reduceBEq]

def S_ISame (P : Program) (f : Nat) : Prop := ∀ l : List Int, l.length ≤ 1000000 → VC P f [il l, il l] (.bool true)
def S_USame (P : Program) (f : Nat) : Prop := ∀ l : List Int, l.length ≤ 1000000 → VC P f [u32L l, u32L l] (.bool true)

theorem ref13_Same {P : Program} {f : Nat} (b : Body P f 26 [.tmp 4] ac_cadenzaref13_Same) : S_ISame P f := by
  intro l hl
  refine VC.of_acall (by simp [isDL, isD, isD_il]) rfl (ACall.of_body b (by simp) ?_)
  simp (config := { maxSteps := 4000000 }) (disch := omega) only [step, stepv, ev, wl, wn, wp, aop, cV, cV1, ↓reduceIte, Nat.reduceEqDiff, Nat.reduceAdd, Int.cast_ofNat_Int, if_true, if_false, AV.one, repCells, fillA, partCells, Nat.reduceLT, Nat.reduceLeDiff, Nat.reduceMul, Nat.reduceSub, Int.reduceLT, Int.reduceLE, Int.reduceAdd, Int.reduceSub, Int.reduceMul, Int.reduceToNat, sliceCells, cellsAt, srcA, app, reduceCtorEq, Int.reduceEq, Int.reduceNeg, Int.reducePow, Nat.reducePow, Int.reduceTDiv, Int.reduceDiv, Nat.reduceDiv, Nat.reduceMod, Int.reduceMod, Int.reduceTMod, ne_eq, subA, beq_iff_eq, unA, minA, maxA, eqFs, eqA1, beq_self_eq_true, Nat.reduceBEq, ac_cadenzaref13_Same, il]
  refine ALoop.by (ι := Nat) (fun k => ⟨[(5, .int .i64 k), (1, il l), (0, il l)], []⟩) (fun k => k ≤ l.length) (fun k => l.length - k) 0 (Le.slots (by simp [Am.look, il])) (by omega) ?_
  intro k hk
  by_cases hlt : k < l.length
  · have e1 := ks_at (K := .i32) hlt
    simp (config := { maxSteps := 4000000 }) (disch := omega) only [step, stepv, ev, wl, wn, wp, aop, cV, cV1, ↓reduceIte, Nat.reduceEqDiff, Nat.reduceAdd, Int.cast_ofNat_Int, if_true, if_false, AV.one, repCells, fillA, partCells, Nat.reduceLT, Nat.reduceLeDiff, Nat.reduceMul, Nat.reduceSub, Int.reduceLT, Int.reduceLE, Int.reduceAdd, Int.reduceSub, Int.reduceMul, Int.reduceToNat, sliceCells, cellsAt, srcA, app, reduceCtorEq, Int.reduceEq, Int.reduceNeg, Int.reducePow, Nat.reducePow, Int.reduceTDiv, Int.reduceDiv, Nat.reduceDiv, Nat.reduceMod, Int.reduceMod, Int.reduceTMod, ne_eq, subA, beq_iff_eq, unA, minA, maxA, eqFs, eqA1, beq_self_eq_true, Nat.reduceBEq, il, e1]
    exact ⟨k + 1, by omega, by omega, Le.slots (by simp [Am.look, il])⟩
  · simp (config := { maxSteps := 4000000 }) (disch := omega) only [step, stepv, ev, wl, wn, wp, aop, cV, cV1, ↓reduceIte, Nat.reduceEqDiff, Nat.reduceAdd, Int.cast_ofNat_Int, if_true, if_false, AV.one, repCells, fillA, partCells, Nat.reduceLT, Nat.reduceLeDiff, Nat.reduceMul, Nat.reduceSub, Int.reduceLT, Int.reduceLE, Int.reduceAdd, Int.reduceSub, Int.reduceMul, Int.reduceToNat, sliceCells, cellsAt, srcA, app, reduceCtorEq, Int.reduceEq, Int.reduceNeg, Int.reducePow, Nat.reducePow, Int.reduceTDiv, Int.reduceDiv, Nat.reduceDiv, Nat.reduceMod, Int.reduceMod, Int.reduceTMod, ne_eq, subA, beq_iff_eq, unA, minA, maxA, eqFs, eqA1, beq_self_eq_true, Nat.reduceBEq, il]

theorem ref05_Same {P : Program} {f : Nat} (b : Body P f 26 [.tmp 4] ac_cadenzaref05_Same) : S_USame P f := by
  intro l hl
  refine VC.of_acall (by simp [isDL, isD, isD_u32L]) rfl (ACall.of_body b (by simp) ?_)
  simp (config := { maxSteps := 4000000 }) (disch := omega) only [step, stepv, ev, wl, wn, wp, aop, cV, cV1, ↓reduceIte, Nat.reduceEqDiff, Nat.reduceAdd, Int.cast_ofNat_Int, if_true, if_false, AV.one, repCells, fillA, partCells, Nat.reduceLT, Nat.reduceLeDiff, Nat.reduceMul, Nat.reduceSub, Int.reduceLT, Int.reduceLE, Int.reduceAdd, Int.reduceSub, Int.reduceMul, Int.reduceToNat, sliceCells, cellsAt, srcA, app, reduceCtorEq, Int.reduceEq, Int.reduceNeg, Int.reducePow, Nat.reducePow, Int.reduceTDiv, Int.reduceDiv, Nat.reduceDiv, Nat.reduceMod, Int.reduceMod, Int.reduceTMod, ne_eq, subA, beq_iff_eq, unA, minA, maxA, eqFs, eqA1, beq_self_eq_true, Nat.reduceBEq, ac_cadenzaref05_Same, u32L]
  refine ALoop.by (ι := Nat) (fun k => ⟨[(5, .int .i64 k), (1, u32L l), (0, u32L l)], []⟩) (fun k => k ≤ l.length) (fun k => l.length - k) 0 (Le.slots (by simp [Am.look, u32L])) (by omega) ?_
  intro k hk
  by_cases hlt : k < l.length
  · have e1 := ks_at (K := .u32) hlt
    simp (config := { maxSteps := 4000000 }) (disch := omega) only [step, stepv, ev, wl, wn, wp, aop, cV, cV1, ↓reduceIte, Nat.reduceEqDiff, Nat.reduceAdd, Int.cast_ofNat_Int, if_true, if_false, AV.one, repCells, fillA, partCells, Nat.reduceLT, Nat.reduceLeDiff, Nat.reduceMul, Nat.reduceSub, Int.reduceLT, Int.reduceLE, Int.reduceAdd, Int.reduceSub, Int.reduceMul, Int.reduceToNat, sliceCells, cellsAt, srcA, app, reduceCtorEq, Int.reduceEq, Int.reduceNeg, Int.reducePow, Nat.reducePow, Int.reduceTDiv, Int.reduceDiv, Nat.reduceDiv, Nat.reduceMod, Int.reduceMod, Int.reduceTMod, ne_eq, subA, beq_iff_eq, unA, minA, maxA, eqFs, eqA1, beq_self_eq_true, Nat.reduceBEq, u32L, e1]
    exact ⟨k + 1, by omega, by omega, Le.slots (by simp [Am.look, u32L])⟩
  · simp (config := { maxSteps := 4000000 }) (disch := omega) only [step, stepv, ev, wl, wn, wp, aop, cV, cV1, ↓reduceIte, Nat.reduceEqDiff, Nat.reduceAdd, Int.cast_ofNat_Int, if_true, if_false, AV.one, repCells, fillA, partCells, Nat.reduceLT, Nat.reduceLeDiff, Nat.reduceMul, Nat.reduceSub, Int.reduceLT, Int.reduceLE, Int.reduceAdd, Int.reduceSub, Int.reduceMul, Int.reduceToNat, sliceCells, cellsAt, srcA, app, reduceCtorEq, Int.reduceEq, Int.reduceNeg, Int.reducePow, Nat.reducePow, Int.reduceTDiv, Int.reduceDiv, Nat.reduceDiv, Nat.reduceMod, Int.reduceMod, Int.reduceTMod, ne_eq, subA, beq_iff_eq, unA, minA, maxA, eqFs, eqA1, beq_self_eq_true, Nat.reduceBEq, u32L]

def S_LawValues (P : Program) (f : Nat) : Prop := ∀ (c x : Int) (t l : List Int), t.length = 16 → I32 t → I32 l → VC P f [shA c x, .agg (ks .i32 t), il l] (.bool true)

theorem law20_EnframeValues {P : Program} {f fG fV fW fC fD fS fT t0 t1 t2 : Nat} (b : Body P f 51 [.tmp 6] (ac_cadenzalaw20_EnframeValues fG fV fW fC fD fS fT t0 t1 t2)) (hG : S_Great13 P fG) (hV : S_EVals P fV) (hW : S_EVals P fW) (hC : S_ECheck P fC) (hD : S_ECheck P fD) (hS : S_USame P fS) (hT : S_ISame P fT) : S_LawValues P f := by
  intro c x t l hl hI hL
  have hk : (ks .i32 t).length = 16 := by simp [ks_length, hl]
  have ot := ks_one .i32 t
  have tt : (ks .i32 t).take 16 = ks .i32 t := take_all (by omega)
  refine VC.of_acall (by simp [isDL, isD, isD_il, isDL_ks, shA]) rfl (ACall.of_cut 3 b (by simp) ?_)
  by_cases hg : greatL l
  · simp (config := { maxSteps := 4000000 }) (disch := omega) only [step, stepv, ev, wl, wn, wp, aop, cV, cV1, ↓reduceIte, Nat.reduceEqDiff, Nat.reduceAdd, Int.cast_ofNat_Int, if_true, if_false, AV.one, repCells, fillA, partCells, Nat.reduceLT, Nat.reduceLeDiff, Nat.reduceMul, Nat.reduceSub, Int.reduceLT, Int.reduceLE, Int.reduceAdd, Int.reduceSub, Int.reduceMul, Int.reduceToNat, sliceCells, cellsAt, srcA, app, reduceCtorEq, Int.reduceEq, Int.reduceNeg, Int.reducePow, Nat.reducePow, Int.reduceTDiv, Int.reduceDiv, Nat.reduceDiv, Nat.reduceMod, Int.reduceMod, Int.reduceTMod, ne_eq, subA, beq_iff_eq, unA, minA, maxA, eqFs, eqA1, beq_self_eq_true, Nat.reduceBEq, ac_cadenzalaw20_EnframeValues, cuts, shA, hk, ot, tt]
    refine callQ.vc ((hG l).1 hg) ?_
    simp (config := { maxSteps := 4000000 }) (disch := omega) only [step, stepv, ev, wl, wn, wp, aop, cV, cV1, ↓reduceIte, Nat.reduceEqDiff, Nat.reduceAdd, Int.cast_ofNat_Int, if_true, if_false, AV.one, repCells, fillA, partCells, Nat.reduceLT, Nat.reduceLeDiff, Nat.reduceMul, Nat.reduceSub, Int.reduceLT, Int.reduceLE, Int.reduceAdd, Int.reduceSub, Int.reduceMul, Int.reduceToNat, sliceCells, cellsAt, srcA, app, reduceCtorEq, Int.reduceEq, Int.reduceNeg, Int.reducePow, Nat.reducePow, Int.reduceTDiv, Int.reduceDiv, Nat.reduceDiv, Nat.reduceMod, Int.reduceMod, Int.reduceTMod, ne_eq, subA, beq_iff_eq, unA, minA, maxA, eqFs, eqA1, beq_self_eq_true, Nat.reduceBEq, cuts]
  · simp (config := { maxSteps := 4000000 }) (disch := omega) only [step, stepv, ev, wl, wn, wp, aop, cV, cV1, ↓reduceIte, Nat.reduceEqDiff, Nat.reduceAdd, Int.cast_ofNat_Int, if_true, if_false, AV.one, repCells, fillA, partCells, Nat.reduceLT, Nat.reduceLeDiff, Nat.reduceMul, Nat.reduceSub, Int.reduceLT, Int.reduceLE, Int.reduceAdd, Int.reduceSub, Int.reduceMul, Int.reduceToNat, sliceCells, cellsAt, srcA, app, reduceCtorEq, Int.reduceEq, Int.reduceNeg, Int.reducePow, Nat.reducePow, Int.reduceTDiv, Int.reduceDiv, Nat.reduceDiv, Nat.reduceMod, Int.reduceMod, Int.reduceTMod, ne_eq, subA, beq_iff_eq, unA, minA, maxA, eqFs, eqA1, beq_self_eq_true, Nat.reduceBEq, ac_cadenzalaw20_EnframeValues, cuts, shA, hk, ot, tt]
    refine callQ.vc ((hG l).2 hg) ?_
    have hg' : l.length ≤ 4100 := by unfold greatL at hg; omega
    have tl : isTL (ks .i32 l) = true := isTL_ks _ _
    simp (config := { maxSteps := 4000000 }) (disch := omega) only [step, stepv, ev, wl, wn, wp, aop, cV, cV1, ↓reduceIte, Nat.reduceEqDiff, Nat.reduceAdd, Int.cast_ofNat_Int, if_true, if_false, AV.one, repCells, fillA, partCells, Nat.reduceLT, Nat.reduceLeDiff, Nat.reduceMul, Nat.reduceSub, Int.reduceLT, Int.reduceLE, Int.reduceAdd, Int.reduceSub, Int.reduceMul, Int.reduceToNat, sliceCells, cellsAt, srcA, app, reduceCtorEq, Int.reduceEq, Int.reduceNeg, Int.reducePow, Nat.reducePow, Int.reduceTDiv, Int.reduceDiv, Nat.reduceDiv, Nat.reduceMod, Int.reduceMod, Int.reduceTMod, ne_eq, subA, beq_iff_eq, unA, minA, maxA, eqFs, eqA1, beq_self_eq_true, Nat.reduceBEq, cuts, il, ks_nil, List.nil_append]
    refine ⟨⟨[(7, il l), (4, .ref 1 1 0), (3, .ref 0 1 0), (2, il l)], [⟨t0, 2, 1, [.int .i64 c, .int .i64 x], 0⟩, ⟨t1, 16, 1, ks .i32 t, 0⟩]⟩, Le.dropT [_, _] (by simp [isTL_ks, isTL, isT]) (by simp [Am.look, frzK, frzL, frzV, il, frzL_T _ tl]), ?_⟩
    have hV' := hV c x t l hl hI hL
    have hW' := hW c x t l hl hI hL
    have hC' := hC c x
    have hD' := hD c x
    rw [shA] at hV' hW' hC' hD'
    simp (config := { maxSteps := 4000000 }) (disch := omega) only [step, stepv, ev, wl, wn, wp, aop, cV, cV1, ↓reduceIte, Nat.reduceEqDiff, Nat.reduceAdd, Int.cast_ofNat_Int, if_true, if_false, AV.one, repCells, fillA, partCells, Nat.reduceLT, Nat.reduceLeDiff, Nat.reduceMul, Nat.reduceSub, Int.reduceLT, Int.reduceLE, Int.reduceAdd, Int.reduceSub, Int.reduceMul, Int.reduceToNat, sliceCells, cellsAt, srcA, app, reduceCtorEq, Int.reduceEq, Int.reduceNeg, Int.reducePow, Nat.reducePow, Int.reduceTDiv, Int.reduceDiv, Nat.reduceDiv, Nat.reduceMod, Int.reduceMod, Int.reduceTMod, ne_eq, subA, beq_iff_eq, unA, minA, maxA, eqFs, eqA1, beq_self_eq_true, Nat.reduceBEq, hk, tt]
    refine callQ.vc hV' ?_
    by_cases h0 : askN c x l = 0
    · have e9 : valA c x t l = .tup [u32L (outT c.toNat (mixAll c.toNat l) (newC x t) l.length), .int .i64 0] := by simp [valA, h0]
      simp (config := { maxSteps := 4000000 }) (disch := omega) only [step, stepv, ev, wl, wn, wp, aop, cV, cV1, ↓reduceIte, Nat.reduceEqDiff, Nat.reduceAdd, Int.cast_ofNat_Int, if_true, if_false, AV.one, repCells, fillA, partCells, Nat.reduceLT, Nat.reduceLeDiff, Nat.reduceMul, Nat.reduceSub, Int.reduceLT, Int.reduceLE, Int.reduceAdd, Int.reduceSub, Int.reduceMul, Int.reduceToNat, sliceCells, cellsAt, srcA, app, reduceCtorEq, Int.reduceEq, Int.reduceNeg, Int.reducePow, Nat.reducePow, Int.reduceTDiv, Int.reduceDiv, Nat.reduceDiv, Nat.reduceMod, Int.reduceMod, Int.reduceTMod, ne_eq, subA, beq_iff_eq, unA, minA, maxA, eqFs, eqA1, beq_self_eq_true, Nat.reduceBEq, e9, hk, tt]
      refine callQ.vc hW' ?_
      simp (config := { maxSteps := 4000000 }) (disch := omega) only [step, stepv, ev, wl, wn, wp, aop, cV, cV1, ↓reduceIte, Nat.reduceEqDiff, Nat.reduceAdd, Int.cast_ofNat_Int, if_true, if_false, AV.one, repCells, fillA, partCells, Nat.reduceLT, Nat.reduceLeDiff, Nat.reduceMul, Nat.reduceSub, Int.reduceLT, Int.reduceLE, Int.reduceAdd, Int.reduceSub, Int.reduceMul, Int.reduceToNat, sliceCells, cellsAt, srcA, app, reduceCtorEq, Int.reduceEq, Int.reduceNeg, Int.reducePow, Nat.reducePow, Int.reduceTDiv, Int.reduceDiv, Nat.reduceDiv, Nat.reduceMod, Int.reduceMod, Int.reduceTMod, ne_eq, subA, beq_iff_eq, unA, minA, maxA, eqFs, eqA1, beq_self_eq_true, Nat.reduceBEq, e9, hk, tt]
      refine callD.vc hC' ?_
      simp (config := { maxSteps := 4000000 }) (disch := omega) only [step, stepv, ev, wl, wn, wp, aop, cV, cV1, ↓reduceIte, Nat.reduceEqDiff, Nat.reduceAdd, Int.cast_ofNat_Int, if_true, if_false, AV.one, repCells, fillA, partCells, Nat.reduceLT, Nat.reduceLeDiff, Nat.reduceMul, Nat.reduceSub, Int.reduceLT, Int.reduceLE, Int.reduceAdd, Int.reduceSub, Int.reduceMul, Int.reduceToNat, sliceCells, cellsAt, srcA, app, reduceCtorEq, Int.reduceEq, Int.reduceNeg, Int.reducePow, Nat.reducePow, Int.reduceTDiv, Int.reduceDiv, Nat.reduceDiv, Nat.reduceMod, Int.reduceMod, Int.reduceTMod, ne_eq, subA, beq_iff_eq, unA, minA, maxA, eqFs, eqA1, beq_self_eq_true, Nat.reduceBEq]
      refine callD.vc hD' ?_
      simp (config := { maxSteps := 4000000 }) (disch := omega) only [step, stepv, ev, wl, wn, wp, aop, cV, cV1, ↓reduceIte, Nat.reduceEqDiff, Nat.reduceAdd, Int.cast_ofNat_Int, if_true, if_false, AV.one, repCells, fillA, partCells, Nat.reduceLT, Nat.reduceLeDiff, Nat.reduceMul, Nat.reduceSub, Int.reduceLT, Int.reduceLE, Int.reduceAdd, Int.reduceSub, Int.reduceMul, Int.reduceToNat, sliceCells, cellsAt, srcA, app, reduceCtorEq, Int.reduceEq, Int.reduceNeg, Int.reducePow, Nat.reducePow, Int.reduceTDiv, Int.reduceDiv, Nat.reduceDiv, Nat.reduceMod, Int.reduceMod, Int.reduceTMod, ne_eq, subA, beq_iff_eq, unA, minA, maxA, eqFs, eqA1, beq_self_eq_true, Nat.reduceBEq]
      refine callD.vc (hS _ (by rw [outT_len]; omega)) ?_
      simp (config := { maxSteps := 4000000 }) (disch := omega) only [step, stepv, ev, wl, wn, wp, aop, cV, cV1, ↓reduceIte, Nat.reduceEqDiff, Nat.reduceAdd, Int.cast_ofNat_Int, if_true, if_false, AV.one, repCells, fillA, partCells, Nat.reduceLT, Nat.reduceLeDiff, Nat.reduceMul, Nat.reduceSub, Int.reduceLT, Int.reduceLE, Int.reduceAdd, Int.reduceSub, Int.reduceMul, Int.reduceToNat, sliceCells, cellsAt, srcA, app, reduceCtorEq, Int.reduceEq, Int.reduceNeg, Int.reducePow, Nat.reducePow, Int.reduceTDiv, Int.reduceDiv, Nat.reduceDiv, Nat.reduceMod, Int.reduceMod, Int.reduceTMod, ne_eq, subA, beq_iff_eq, unA, minA, maxA, eqFs, eqA1, beq_self_eq_true, Nat.reduceBEq]
      refine callD.vc (hT l (by omega)) ?_
      simp (config := { maxSteps := 4000000 }) (disch := omega) only [step, stepv, ev, wl, wn, wp, aop, cV, cV1, ↓reduceIte, Nat.reduceEqDiff, Nat.reduceAdd, Int.cast_ofNat_Int, if_true, if_false, AV.one, repCells, fillA, partCells, Nat.reduceLT, Nat.reduceLeDiff, Nat.reduceMul, Nat.reduceSub, Int.reduceLT, Int.reduceLE, Int.reduceAdd, Int.reduceSub, Int.reduceMul, Int.reduceToNat, sliceCells, cellsAt, srcA, app, reduceCtorEq, Int.reduceEq, Int.reduceNeg, Int.reducePow, Nat.reducePow, Int.reduceTDiv, Int.reduceDiv, Nat.reduceDiv, Nat.reduceMod, Int.reduceMod, Int.reduceTMod, ne_eq, subA, beq_iff_eq, unA, minA, maxA, eqFs, eqA1, beq_self_eq_true, Nat.reduceBEq]
    · have e9 : valA c x t l = .tup [u32L [], .int .i64 (askN c x l)] := by simp [valA, h0, u32L, ks]
      simp (config := { maxSteps := 4000000 }) (disch := omega) only [step, stepv, ev, wl, wn, wp, aop, cV, cV1, ↓reduceIte, Nat.reduceEqDiff, Nat.reduceAdd, Int.cast_ofNat_Int, if_true, if_false, AV.one, repCells, fillA, partCells, Nat.reduceLT, Nat.reduceLeDiff, Nat.reduceMul, Nat.reduceSub, Int.reduceLT, Int.reduceLE, Int.reduceAdd, Int.reduceSub, Int.reduceMul, Int.reduceToNat, sliceCells, cellsAt, srcA, app, reduceCtorEq, Int.reduceEq, Int.reduceNeg, Int.reducePow, Nat.reducePow, Int.reduceTDiv, Int.reduceDiv, Nat.reduceDiv, Nat.reduceMod, Int.reduceMod, Int.reduceTMod, ne_eq, subA, beq_iff_eq, unA, minA, maxA, eqFs, eqA1, beq_self_eq_true, Nat.reduceBEq, e9, hk, tt]
      refine callQ.vc hW' ?_
      simp (config := { maxSteps := 4000000 }) (disch := omega) only [step, stepv, ev, wl, wn, wp, aop, cV, cV1, ↓reduceIte, Nat.reduceEqDiff, Nat.reduceAdd, Int.cast_ofNat_Int, if_true, if_false, AV.one, repCells, fillA, partCells, Nat.reduceLT, Nat.reduceLeDiff, Nat.reduceMul, Nat.reduceSub, Int.reduceLT, Int.reduceLE, Int.reduceAdd, Int.reduceSub, Int.reduceMul, Int.reduceToNat, sliceCells, cellsAt, srcA, app, reduceCtorEq, Int.reduceEq, Int.reduceNeg, Int.reducePow, Nat.reducePow, Int.reduceTDiv, Int.reduceDiv, Nat.reduceDiv, Nat.reduceMod, Int.reduceMod, Int.reduceTMod, ne_eq, subA, beq_iff_eq, unA, minA, maxA, eqFs, eqA1, beq_self_eq_true, Nat.reduceBEq, e9, hk, tt]
      refine callD.vc hC' ?_
      simp (config := { maxSteps := 4000000 }) (disch := omega) only [step, stepv, ev, wl, wn, wp, aop, cV, cV1, ↓reduceIte, Nat.reduceEqDiff, Nat.reduceAdd, Int.cast_ofNat_Int, if_true, if_false, AV.one, repCells, fillA, partCells, Nat.reduceLT, Nat.reduceLeDiff, Nat.reduceMul, Nat.reduceSub, Int.reduceLT, Int.reduceLE, Int.reduceAdd, Int.reduceSub, Int.reduceMul, Int.reduceToNat, sliceCells, cellsAt, srcA, app, reduceCtorEq, Int.reduceEq, Int.reduceNeg, Int.reducePow, Nat.reducePow, Int.reduceTDiv, Int.reduceDiv, Nat.reduceDiv, Nat.reduceMod, Int.reduceMod, Int.reduceTMod, ne_eq, subA, beq_iff_eq, unA, minA, maxA, eqFs, eqA1, beq_self_eq_true, Nat.reduceBEq]
      refine callD.vc hD' ?_
      simp (config := { maxSteps := 4000000 }) (disch := omega) only [step, stepv, ev, wl, wn, wp, aop, cV, cV1, ↓reduceIte, Nat.reduceEqDiff, Nat.reduceAdd, Int.cast_ofNat_Int, if_true, if_false, AV.one, repCells, fillA, partCells, Nat.reduceLT, Nat.reduceLeDiff, Nat.reduceMul, Nat.reduceSub, Int.reduceLT, Int.reduceLE, Int.reduceAdd, Int.reduceSub, Int.reduceMul, Int.reduceToNat, sliceCells, cellsAt, srcA, app, reduceCtorEq, Int.reduceEq, Int.reduceNeg, Int.reducePow, Nat.reducePow, Int.reduceTDiv, Int.reduceDiv, Nat.reduceDiv, Nat.reduceMod, Int.reduceMod, Int.reduceTMod, ne_eq, subA, beq_iff_eq, unA, minA, maxA, eqFs, eqA1, beq_self_eq_true, Nat.reduceBEq]
      refine callD.vc (hS [] (by simp)) ?_
      simp (config := { maxSteps := 4000000 }) (disch := omega) only [step, stepv, ev, wl, wn, wp, aop, cV, cV1, ↓reduceIte, Nat.reduceEqDiff, Nat.reduceAdd, Int.cast_ofNat_Int, if_true, if_false, AV.one, repCells, fillA, partCells, Nat.reduceLT, Nat.reduceLeDiff, Nat.reduceMul, Nat.reduceSub, Int.reduceLT, Int.reduceLE, Int.reduceAdd, Int.reduceSub, Int.reduceMul, Int.reduceToNat, sliceCells, cellsAt, srcA, app, reduceCtorEq, Int.reduceEq, Int.reduceNeg, Int.reducePow, Nat.reducePow, Int.reduceTDiv, Int.reduceDiv, Nat.reduceDiv, Nat.reduceMod, Int.reduceMod, Int.reduceTMod, ne_eq, subA, beq_iff_eq, unA, minA, maxA, eqFs, eqA1, beq_self_eq_true, Nat.reduceBEq]
      refine callD.vc (hT l (by omega)) ?_
      simp (config := { maxSteps := 4000000 }) (disch := omega) only [step, stepv, ev, wl, wn, wp, aop, cV, cV1, ↓reduceIte, Nat.reduceEqDiff, Nat.reduceAdd, Int.cast_ofNat_Int, if_true, if_false, AV.one, repCells, fillA, partCells, Nat.reduceLT, Nat.reduceLeDiff, Nat.reduceMul, Nat.reduceSub, Int.reduceLT, Int.reduceLE, Int.reduceAdd, Int.reduceSub, Int.reduceMul, Int.reduceToNat, sliceCells, cellsAt, srcA, app, reduceCtorEq, Int.reduceEq, Int.reduceNeg, Int.reducePow, Nat.reducePow, Int.reduceTDiv, Int.reduceDiv, Nat.reduceDiv, Nat.reduceMod, Int.reduceMod, Int.reduceTMod, ne_eq, subA, beq_iff_eq, unA, minA, maxA, eqFs, eqA1, beq_self_eq_true, Nat.reduceBEq]
end Go.Am

namespace Go.Am
open Go.RowKit

def tapSh : Sh := .tuple (List.replicate 16 (.int .i32))
theorem fitsL_ints (K : IntKind) : ∀ (n : Nat) (as : List AV), FitsL (List.replicate n (.int K)) as → ∃ t : List Int, as = ks K t ∧ t.length = n ∧ ∀ x ∈ t, K.min ≤ x ∧ x ≤ K.max
  | 0, as, h => by
    simp only [List.replicate, FitsL] at h
    exact ⟨[], by simpa [ks] using h, rfl, by simp⟩
  | n + 1, as, h => by
    simp only [List.replicate, FitsL, Fits] at h
    obtain ⟨_, r, rfl, ⟨x, rfl, h1, h2⟩, h3⟩ := h
    obtain ⟨t, rfl, h4, h5⟩ := fitsL_ints K n r h3
    exact ⟨x :: t, by simp [ks], by simp [h4], fun y hy => by
      rcases List.mem_cons.1 hy with rfl | hy
      · exact ⟨h1, h2⟩
      · exact h5 y hy⟩
theorem fits_taps {as : List AV} (h : Fits tapSh as) : ∃ t : List Int, as = ks .i32 t ∧ t.length = 16 ∧ I32 t := by
  simp only [tapSh, Fits] at h
  obtain ⟨t, h1, h2, h3⟩ := fitsL_ints .i32 16 as h
  exact ⟨t, h1, h2, fun x hx => by have := h3 x hx; simpa [IntKind.min, IntKind.max, IntKind.signed, IntKind.bits] using this⟩
end Go.Am

namespace Go.Am
open Go.RowKit

/-! ### Unmixing -/

def ud (l : List Int) (b c : Nat) : Nat → Int
  | 0 => if c = 1 then l.getD b 0 else w32 (l.getD (b + (c - 1)) 0 + (l.getD (b + (c - 2)) 0).tdiv 2)
  | d + 1 => w32 (ud l b c d - l.getD (b + (c - 2 - d)) 0)
theorem ud_congr {l l' : List Int} {b b' c : Nat} (hc : 1 ≤ c) (h : ∀ j, j < c → l.getD (b + j) 0 = l'.getD (b' + j) 0) : ∀ d, ud l b c d = ud l' b' c d
  | 0 => by
    unfold ud
    have h0 := h 0 (by omega)
    simp only [Nat.add_zero] at h0
    rw [h0, h (c - 1) (by omega), h (c - 2) (by omega)]
  | d + 1 => by
    unfold ud
    rw [ud_congr hc h d, h (c - 2 - d) (by omega)]
theorem ud_rng {l : List Int} (h : I32 l) (b c : Nat) : ∀ d, -2147483648 ≤ ud l b c d ∧ ud l b c d ≤ 2147483647
  | 0 => by
    unfold ud; split
    · exact getD_mem h b
    · exact w32_rng _
  | d + 1 => by unfold ud; exact w32_rng _
def segU (L : List Int) (k n d : Nat) : List Int := (List.range L.length).map fun j => if k + (n - 1 - d) ≤ j ∧ j < k + n then ud L k n (k + n - 1 - j) else L.getD j 0
theorem segU_len (L : List Int) (k n d : Nat) : (segU L k n d).length = L.length := by simp [segU]
theorem segU_in {L : List Int} {k n d j : Nat} (h : j < L.length) (h1 : k + (n - 1 - d) ≤ j) (h2 : j < k + n) : (segU L k n d).getD j 0 = ud L k n (k + n - 1 - j) := by
  rw [segU, map_getD h, if_pos ⟨h1, h2⟩]
theorem segU_out {L : List Int} {k n d j : Nat} (h : j < L.length) (h1 : j < k + (n - 1 - d)) : (segU L k n d).getD j 0 = L.getD j 0 := by
  rw [segU, map_getD h, if_neg (by omega)]
theorem segU_0 {L : List Int} {k n : Nat} (h1 : 1 ≤ n) (h : k + n ≤ L.length) : L.set (k + (n - 1)) (ud L k n 0) = segU L k n 0 := getD_ext (by simp [segU_len]) fun j hj => by
  have hj' : j < L.length := by simpa using hj
  rw [set_getD hj', segU, map_getD hj']
  by_cases e : k + (n - 1) = j
  · subst e
    rw [if_pos rfl, if_pos (by omega), show k + n - 1 - (k + (n - 1)) = 0 by omega]
  · rw [if_neg e, if_neg (by omega)]
theorem segU_1 {L : List Int} {k : Nat} : segU L k 1 0 = L := getD_ext (by simp [segU_len]) fun j hj => by
  rw [segU_len] at hj
  rw [segU, map_getD hj]
  split
  · rw [show j = k by omega, show k + 1 - 1 - k = 0 by omega]; simp [ud]
  · rfl
theorem segU_succ {L : List Int} {k n d : Nat} (hd : d + 1 < n) (h : k + n ≤ L.length) : (segU L k n d).set (k + (n - 2 - d)) (w32 (ud L k n d - L.getD (k + (n - 2 - d)) 0)) = segU L k n (d + 1) := getD_ext (by simp [segU_len]) fun j hj => by
  have hj' : j < L.length := by simpa [segU_len] using hj
  rw [set_getD (by rw [segU_len]; exact hj'), segU, segU, map_getD hj', map_getD hj']
  by_cases e : k + (n - 2 - d) = j
  · subst e
    rw [if_pos rfl, if_pos (by omega), show k + n - 1 - (k + (n - 2 - d)) = d + 1 by omega]
    rfl
  · rw [if_neg e]
    by_cases q : k + (n - 1 - d) ≤ j ∧ j < k + n
    · rw [if_pos q, if_pos (by omega)]
    · rw [if_neg q, if_neg (by omega)]
theorem I32_segU {L : List Int} (h : I32 L) (k n d : Nat) : I32 (segU L k n d) := by
  intro v hv
  simp only [segU, List.mem_map] at hv
  obtain ⟨j, _, rfl⟩ := hv
  split
  · exact ud_rng h _ _ _
  · exact getD_mem h j

def S_Unmix (P : Program) (f : Nat) : Prop := ∀ (t : Nat) (L : List Int) (k n : Nat) (K : AV → List Ob → Prop), I32 L → 1 ≤ n → k + n ≤ L.length → L.length ≤ 1000000 →
  K (.tup []) [⟨t, 1, L.length, ks .i32 (segU L k n (n - 1)), 0⟩] → ACall P f [.view 0 L.length k n] [⟨t, 1, L.length, ks .i32 L, 0⟩] K

theorem mix_unmix {P : Program} {f : Nat} (b : Body P f 40 [] ac_mix_unmix) : S_Unmix P f := by
  intro t L k n K hL h1 h2 h3 hK
  refine ACall.of_body b (by simp) ?_
  by_cases hn : n = 1
  · subst hn
    simp (config := { maxSteps := 4000000 }) (disch := omega) only [step, stepv, ev, wl, wn, wp, aop, cV, cV1, ↓reduceIte, Nat.reduceEqDiff, Nat.reduceAdd, Int.cast_ofNat_Int, if_true, if_false, AV.one, repCells, fillA, partCells, Nat.reduceLT, Nat.reduceLeDiff, Nat.reduceMul, Nat.reduceSub, Int.reduceLT, Int.reduceLE, Int.reduceAdd, Int.reduceSub, Int.reduceMul, Int.reduceToNat, sliceCells, cellsAt, srcA, app, reduceCtorEq, Int.reduceEq, Int.reduceNeg, Int.reducePow, Nat.reducePow, Int.reduceTDiv, Int.reduceDiv, Nat.reduceDiv, Nat.reduceMod, Int.reduceMod, Int.reduceTMod, ne_eq, subA, beq_iff_eq, unA, minA, maxA, eqFs, eqA1, beq_self_eq_true, Nat.reduceBEq, ac_mix_unmix]
    refine ALoop.by (ι := Nat) (fun d => ⟨[(3, .int .i64 (-1)), (0, .view 0 L.length k 1)], [⟨t, 1, L.length, ks .i32 (segU L k 1 0), 0⟩]⟩) (fun _ => True) (fun d => d) 0 (by rw [segU_1]; exact Le.slots (by simp [Am.look])) trivial ?_
    intro d _
    simp (config := { maxSteps := 4000000 }) (disch := omega) only [step, stepv, ev, wl, wn, wp, aop, cV, cV1, ↓reduceIte, Nat.reduceEqDiff, Nat.reduceAdd, Int.cast_ofNat_Int, if_true, if_false, AV.one, repCells, fillA, partCells, Nat.reduceLT, Nat.reduceLeDiff, Nat.reduceMul, Nat.reduceSub, Int.reduceLT, Int.reduceLE, Int.reduceAdd, Int.reduceSub, Int.reduceMul, Int.reduceToNat, sliceCells, cellsAt, srcA, app, reduceCtorEq, Int.reduceEq, Int.reduceNeg, Int.reducePow, Nat.reducePow, Int.reduceTDiv, Int.reduceDiv, Nat.reduceDiv, Nat.reduceMod, Int.reduceMod, Int.reduceTMod, ne_eq, subA, beq_iff_eq, unA, minA, maxA, eqFs, eqA1, beq_self_eq_true, Nat.reduceBEq]
    exact hK
  · have e1 := ks_at (K := .i32) (l := L) (i := k + (n - 1)) (by omega)
    have e2 := ks_at (K := .i32) (l := L) (i := k + (n - 1 - 1)) (by omega)
    have e3 := fun v => ks_set (K := .i32) (l := L) (i := k + (n - 1)) (by omega) v
    have hr := tdiv2_rng (getD_mem hL (k + (n - 2)))
    have a0 := segU_0 (L := L) (k := k) h1 h2
    have u0 : ud L k n 0 = w32 (L.getD (k + (n - 1)) 0 + (L.getD (k + (n - 2)) 0).tdiv 2) := by rw [ud, if_neg hn]
    rw [u0] at a0
    rw [show n - 1 - 1 = n - 2 by omega] at e2
    have en : n - 1 - 1 = n - 2 := by omega
    simp (config := { maxSteps := 4000000 }) (disch := omega) only [step, stepv, ev, wl, wn, wp, aop, cV, cV1, ↓reduceIte, Nat.reduceEqDiff, Nat.reduceAdd, Int.cast_ofNat_Int, if_true, if_false, AV.one, repCells, fillA, partCells, Nat.reduceLT, Nat.reduceLeDiff, Nat.reduceMul, Nat.reduceSub, Int.reduceLT, Int.reduceLE, Int.reduceAdd, Int.reduceSub, Int.reduceMul, Int.reduceToNat, sliceCells, cellsAt, srcA, app, reduceCtorEq, Int.reduceEq, Int.reduceNeg, Int.reducePow, Nat.reducePow, Int.reduceTDiv, Int.reduceDiv, Nat.reduceDiv, Nat.reduceMod, Int.reduceMod, Int.reduceTMod, ne_eq, subA, beq_iff_eq, unA, minA, maxA, eqFs, eqA1, beq_self_eq_true, Nat.reduceBEq, ac_mix_unmix, e1, en, e2, e3, w32_def, a0]
    refine ALoop.by (ι := Nat) (fun d => ⟨[(3, .int .i64 ((n : Int) - 2 - d)), (0, .view 0 L.length k n)], [⟨t, 1, L.length, ks .i32 (segU L k n d), 0⟩]⟩) (fun d => d ≤ n - 1) (fun d => n - 1 - d) 0 (Le.slots (by simp [Am.look]; omega)) (by omega) ?_
    intro d hd
    have ls := segU_len L k n d
    by_cases hlt : d < n - 1
    · have f1 := ks_at (K := .i32) (l := segU L k n d) (i := k + (n - 1 - d)) (by omega)
      have f2 := ks_at (K := .i32) (l := segU L k n d) (i := k + (n - 2 - d)) (by omega)
      have f3 := fun v => ks_set (K := .i32) (l := segU L k n d) (i := k + (n - 2 - d)) (by omega) v
      rw [segU_in (by omega) (by omega) (by omega), show k + n - 1 - (k + (n - 1 - d)) = d by omega, show n - 1 - d = n - 2 - d + 1 by omega] at f1
      rw [segU_out (by omega) (by omega)] at f2
      have a3 := segU_succ (L := L) (k := k) (n := n) (d := d) (by omega) h2
      simp (config := { maxSteps := 4000000 }) (disch := omega) only [step, stepv, ev, wl, wn, wp, aop, cV, cV1, ↓reduceIte, Nat.reduceEqDiff, Nat.reduceAdd, Int.cast_ofNat_Int, if_true, if_false, AV.one, repCells, fillA, partCells, Nat.reduceLT, Nat.reduceLeDiff, Nat.reduceMul, Nat.reduceSub, Int.reduceLT, Int.reduceLE, Int.reduceAdd, Int.reduceSub, Int.reduceMul, Int.reduceToNat, sliceCells, cellsAt, srcA, app, reduceCtorEq, Int.reduceEq, Int.reduceNeg, Int.reducePow, Nat.reducePow, Int.reduceTDiv, Int.reduceDiv, Nat.reduceDiv, Nat.reduceMod, Int.reduceMod, Int.reduceTMod, ne_eq, subA, beq_iff_eq, unA, minA, maxA, eqFs, eqA1, beq_self_eq_true, Nat.reduceBEq, f1, f2, f3, w32_def, a3, ls]
      exact ⟨d + 1, by omega, by omega, Le.slots (by simp [Am.look]; omega)⟩
    · have e : d = n - 1 := by omega
      subst e
      simp (config := { maxSteps := 4000000 }) (disch := omega) only [step, stepv, ev, wl, wn, wp, aop, cV, cV1, ↓reduceIte, Nat.reduceEqDiff, Nat.reduceAdd, Int.cast_ofNat_Int, if_true, if_false, AV.one, repCells, fillA, partCells, Nat.reduceLT, Nat.reduceLeDiff, Nat.reduceMul, Nat.reduceSub, Int.reduceLT, Int.reduceLE, Int.reduceAdd, Int.reduceSub, Int.reduceMul, Int.reduceToNat, sliceCells, cellsAt, srcA, app, reduceCtorEq, Int.reduceEq, Int.reduceNeg, Int.reducePow, Nat.reducePow, Int.reduceTDiv, Int.reduceDiv, Nat.reduceDiv, Nat.reduceMod, Int.reduceMod, Int.reduceTMod, ne_eq, subA, beq_iff_eq, unA, minA, maxA, eqFs, eqA1, beq_self_eq_true, Nat.reduceBEq]
      exact hK
end Go.Am

namespace Go.Am
open Go.RowKit

def undV (c : Nat) (l : List Int) (j : Nat) : Int := ud l (c * (j / c)) c (c - 1 - j % c)
def undT (c : Nat) (l : List Int) (a : Nat) : List Int := (List.range a).map (undV c l)
def undP (c : Nat) (l : List Int) (a : Nat) : List Int := (List.range l.length).map fun j => if j < a then undV c l j else l.getD j 0
def undAll (c : Nat) (l : List Int) : List Int := undT c l l.length
theorem undT_len (c : Nat) (l : List Int) (a : Nat) : (undT c l a).length = a := by simp [undT]
theorem undP_len (c : Nat) (l : List Int) (a : Nat) : (undP c l a).length = l.length := by simp [undP]
theorem undP_0 (c : Nat) (l : List Int) : undP c l 0 = l := getD_ext (undP_len _ _ _) fun j hj => by
  rw [undP_len] at hj; rw [undP, map_getD hj, if_neg (by omega)]
theorem undP_all (c : Nat) (l : List Int) : undP c l l.length = undAll c l := by
  simp only [undP, undAll, undT]
  apply List.map_congr_left
  intro j hj
  rw [if_pos (by simpa using hj)]
theorem undV_rng {c : Nat} {l : List Int} (h : I32 l) (j : Nat) : -2147483648 ≤ undV c l j ∧ undV c l j ≤ 2147483647 := ud_rng h _ _ _
theorem I32_undP {c : Nat} {l : List Int} (h : I32 l) (a : Nat) : I32 (undP c l a) := by
  intro v hv
  simp only [undP, List.mem_map] at hv
  obtain ⟨j, _, rfl⟩ := hv
  split
  · exact undV_rng h j
  · exact getD_mem h j
theorem I32_undAll {c : Nat} {l : List Int} (h : I32 l) : I32 (undAll c l) := by rw [← undP_all]; exact I32_undP h _
theorem undAll_len (c : Nat) (l : List Int) : (undAll c l).length = l.length := by simp [undAll, undT]
theorem divmod_seg {c m r : Nat} (h : r < c) : (c * m + r) / c = m ∧ (c * m + r) % c = r := by
  rw [Nat.mul_add_mod, Nat.mod_eq_of_lt h, Nat.mul_add_div (by omega), Nat.div_eq_of_lt h]; simp

theorem und_seg {c : Nat} {l : List Int} {m : Nat} (hc : 1 ≤ c) (h : c * m + c ≤ l.length) : segU (undP c l (c * m)) (c * m) c (c - 1) = undP c l (c * m + c) := getD_ext (by simp [segU_len, undP_len]) fun j hj => by
  have hj' : j < l.length := by simpa [segU_len, undP_len] using hj
  rw [segU, undP_len, map_getD hj']
  conv => rhs; rw [undP, map_getD hj']
  by_cases q : c * m ≤ j ∧ j < c * m + c
  · rw [if_pos (by omega), if_pos q.2]
    have e := divmod_seg (c := c) (m := m) (r := j - c * m) (by omega)
    rw [show c * m + (j - c * m) = j by omega] at e
    rw [undV, e.1, e.2, show c * m + c - 1 - j = c - 1 - (j - c * m) by omega]
    refine ud_congr hc (fun i hi => ?_) _
    rw [undP, map_getD (by omega), if_neg (by omega)]
  · rw [if_neg (by omega), undP, map_getD hj']
    by_cases r : j < c * m
    · rw [if_pos r, if_pos (by omega)]
    · rw [if_neg r, if_neg (by omega)]

def S_MixUndo (P : Program) (f : Nat) : Prop := ∀ (c : Nat) (l : List Int), okM c l → VC P f [.int .i64 c, il l] (.tup [il (undAll c l), .int .i64 0])

theorem mix_Undo {P : Program} {f fC fK fM t : Nat} (b : Body P f 32 [.tmp 4, .tmp 5] (ac_mix_Undo fC fK fM)) (hC : S_MCheck P fC) (hK : S_CloneA t P fK) (hM : S_Unmix P fM) : S_MixUndo P f := by
  intro c l hok
  obtain ⟨h1, h2, h3, h4, h5, h6⟩ := id hok
  have hc := okM_check hok
  obtain ⟨q, hq⟩ : ∃ q, l.length = c * q := ⟨l.length / c, by have := Nat.div_add_mod l.length c; omega⟩
  refine VC.of_walk 1 (by simp [isDL, isD, isD_il]) (by simp [isD, isDL, isD_il]) (ACall.of_body b (by simp) ?_)
  simp (config := { maxSteps := 4000000 }) (disch := omega) only [step, stepv, ev, wl, wn, wp, aop, cV, cV1, ↓reduceIte, Nat.reduceEqDiff, Nat.reduceAdd, Int.cast_ofNat_Int, if_true, if_false, AV.one, repCells, fillA, partCells, Nat.reduceLT, Nat.reduceLeDiff, Nat.reduceMul, Nat.reduceSub, Int.reduceLT, Int.reduceLE, Int.reduceAdd, Int.reduceSub, Int.reduceMul, Int.reduceToNat, sliceCells, cellsAt, srcA, app, reduceCtorEq, Int.reduceEq, Int.reduceNeg, Int.reducePow, Nat.reducePow, Int.reduceTDiv, Int.reduceDiv, Nat.reduceDiv, Nat.reduceMod, Int.reduceMod, Int.reduceTMod, ne_eq, subA, beq_iff_eq, unA, minA, maxA, eqFs, eqA1, beq_self_eq_true, Nat.reduceBEq, ac_mix_Undo]
  refine callQ.vc (hC c l) ?_
  have n0 : l.length ≠ 0 := by omega
  simp (config := { maxSteps := 4000000 }) (disch := omega) only [step, stepv, ev, wl, wn, wp, aop, cV, cV1, ↓reduceIte, Nat.reduceEqDiff, Nat.reduceAdd, Int.cast_ofNat_Int, if_true, if_false, AV.one, repCells, fillA, partCells, Nat.reduceLT, Nat.reduceLeDiff, Nat.reduceMul, Nat.reduceSub, Int.reduceLT, Int.reduceLE, Int.reduceAdd, Int.reduceSub, Int.reduceMul, Int.reduceToNat, sliceCells, cellsAt, srcA, app, reduceCtorEq, Int.reduceEq, Int.reduceNeg, Int.reducePow, Nat.reducePow, Int.reduceTDiv, Int.reduceDiv, Nat.reduceDiv, Nat.reduceMod, Int.reduceMod, Int.reduceTMod, ne_eq, subA, beq_iff_eq, unA, minA, maxA, eqFs, eqA1, beq_self_eq_true, Nat.reduceBEq, hc, n0]
  refine hK l [] _ h3 (by omega) ?_
  simp (config := { maxSteps := 4000000 }) (disch := omega) only [step, stepv, ev, wl, wn, wp, aop, cV, cV1, ↓reduceIte, Nat.reduceEqDiff, Nat.reduceAdd, Int.cast_ofNat_Int, if_true, if_false, AV.one, repCells, fillA, partCells, Nat.reduceLT, Nat.reduceLeDiff, Nat.reduceMul, Nat.reduceSub, Int.reduceLT, Int.reduceLE, Int.reduceAdd, Int.reduceSub, Int.reduceMul, Int.reduceToNat, sliceCells, cellsAt, srcA, app, reduceCtorEq, Int.reduceEq, Int.reduceNeg, Int.reducePow, Nat.reducePow, Int.reduceTDiv, Int.reduceDiv, Nat.reduceDiv, Nat.reduceMod, Int.reduceMod, Int.reduceTMod, ne_eq, subA, beq_iff_eq, unA, minA, maxA, eqFs, eqA1, beq_self_eq_true, Nat.reduceBEq, n0]
  refine ALoop.by (ι := Nat) (fun m => ⟨[(8, .int .i64 (c * m : Nat)), (7, .own 0 l.length), (0, .int .i64 c)], [⟨t, 1, l.length, ks .i32 (undP c l (c * m)), 0⟩]⟩) (fun m => m ≤ q) (fun m => q - m) 0 (by rw [Nat.mul_zero, undP_0]; exact Le.slots (by simp [Am.look])) (by omega) ?_
  intro m hm
  by_cases hlt : c * m < l.length
  · have hs := mul_step (c := c) (m := m) (q := q) (by rw [← hq]; exact hlt)
    rw [← hq] at hs
    have hmq : m < q := Nat.lt_of_mul_lt_mul_left (a := c) (b := m) (c := q) (by rw [← hq]; exact hlt)
    have e0 : c * m + c - c * m = c := by omega
    have hM' := hM t (undP c l (c * m)) (c * m) c
    rw [undP_len, und_seg h1 hs] at hM'
    simp (config := { maxSteps := 4000000 }) (disch := omega) only [step, stepv, ev, wl, wn, wp, aop, cV, cV1, ↓reduceIte, Nat.reduceEqDiff, Nat.reduceAdd, Int.cast_ofNat_Int, if_true, if_false, AV.one, repCells, fillA, partCells, Nat.reduceLT, Nat.reduceLeDiff, Nat.reduceMul, Nat.reduceSub, Int.reduceLT, Int.reduceLE, Int.reduceAdd, Int.reduceSub, Int.reduceMul, Int.reduceToNat, sliceCells, cellsAt, srcA, app, reduceCtorEq, Int.reduceEq, Int.reduceNeg, Int.reducePow, Nat.reducePow, Int.reduceTDiv, Int.reduceDiv, Nat.reduceDiv, Nat.reduceMod, Int.reduceMod, Int.reduceTMod, ne_eq, subA, beq_iff_eq, unA, minA, maxA, eqFs, eqA1, beq_self_eq_true, Nat.reduceBEq, e0, n0]
    refine hM' _ (I32_undP h6 _) h1 hs (by omega) ?_
    simp (config := { maxSteps := 4000000 }) (disch := omega) only [step, stepv, ev, wl, wn, wp, aop, cV, cV1, ↓reduceIte, Nat.reduceEqDiff, Nat.reduceAdd, Int.cast_ofNat_Int, if_true, if_false, AV.one, repCells, fillA, partCells, Nat.reduceLT, Nat.reduceLeDiff, Nat.reduceMul, Nat.reduceSub, Int.reduceLT, Int.reduceLE, Int.reduceAdd, Int.reduceSub, Int.reduceMul, Int.reduceToNat, sliceCells, cellsAt, srcA, app, reduceCtorEq, Int.reduceEq, Int.reduceNeg, Int.reducePow, Nat.reducePow, Int.reduceTDiv, Int.reduceDiv, Nat.reduceDiv, Nat.reduceMod, Int.reduceMod, Int.reduceTMod, ne_eq, subA, beq_iff_eq, unA, minA, maxA, eqFs, eqA1, beq_self_eq_true, Nat.reduceBEq]
    exact ⟨m + 1, by omega, by omega, by rw [show c * (m + 1) = c * m + c by rw [Nat.mul_add, Nat.mul_one]]; exact Le.slots (by simp [Am.look])⟩
  · have e : c * m = l.length := by
      have := Nat.mul_le_mul_left c hm
      omega
    rw [e, undP_all]
    have lm := undAll_len c l
    simp (config := { maxSteps := 4000000 }) (disch := omega) only [step, stepv, ev, wl, wn, wp, aop, cV, cV1, ↓reduceIte, Nat.reduceEqDiff, Nat.reduceAdd, Int.cast_ofNat_Int, if_true, if_false, AV.one, repCells, fillA, partCells, Nat.reduceLT, Nat.reduceLeDiff, Nat.reduceMul, Nat.reduceSub, Int.reduceLT, Int.reduceLE, Int.reduceAdd, Int.reduceSub, Int.reduceMul, Int.reduceToNat, sliceCells, cellsAt, srcA, app, reduceCtorEq, Int.reduceEq, Int.reduceNeg, Int.reducePow, Nat.reducePow, Int.reduceTDiv, Int.reduceDiv, Nat.reduceDiv, Nat.reduceMod, Int.reduceMod, Int.reduceTMod, ne_eq, subA, beq_iff_eq, unA, minA, maxA, eqFs, eqA1, beq_self_eq_true, Nat.reduceBEq]
    simp [frzN, frzK, frzL, frzV, isDL, isD, il, lm, frzL_T _ (isTL_ks .i32 (undAll c l))]

/-! ### The reference -/

def unO (m : List Int) (d : Nat) : List Int := (List.range m.length).map fun j => if m.length - 1 - d ≤ j then ud m 0 m.length (m.length - 1 - j) else 0
theorem unO_len (m : List Int) (d : Nat) : (unO m d).length = m.length := by simp [unO]
theorem unO_0 {m : List Int} (h : 0 < m.length) : (List.replicate m.length (0 : Int)).set (m.length - 1) (ud m 0 m.length 0) = unO m 0 := getD_ext (by simp [unO_len]) fun j hj => by
  have hj' : j < m.length := by simpa using hj
  rw [set_getD (by simpa using hj'), unO, map_getD hj']
  by_cases e : m.length - 1 = j
  · rw [if_pos e, if_pos (by omega), show m.length - 1 - j = 0 by omega]
  · rw [if_neg e, if_neg (by omega)]
    simp [List.getD_eq_getElem?_getD, hj']
theorem set_set' (l : List Int) (i : Nat) (a b : Int) : (l.set i a).set i b = l.set i b := by simp
theorem unO_at {m : List Int} {d : Nat} (h : d < m.length) : (unO m d).getD (m.length - 1 - d) 0 = ud m 0 m.length d := by
  rw [unO, map_getD (by omega), if_pos (by omega), show m.length - 1 - (m.length - 1 - d) = d by omega]
theorem unO_succ {m : List Int} {d : Nat} (hd : d + 1 < m.length) : (unO m d).set (m.length - 2 - d) (w32 (ud m 0 m.length d - m.getD (m.length - 2 - d) 0)) = unO m (d + 1) := getD_ext (by simp [unO_len]) fun j hj => by
  have hj' : j < m.length := by simpa [unO_len] using hj
  rw [set_getD (by rw [unO_len]; exact hj'), unO, unO, map_getD hj', map_getD hj']
  by_cases e : m.length - 2 - d = j
  · subst e
    rw [if_pos rfl, if_pos (by omega), show m.length - 1 - (m.length - 2 - d) = d + 1 by omega, ud, Nat.zero_add]
  · rw [if_neg e]
    by_cases q : m.length - 1 - d ≤ j
    · rw [if_pos q, if_pos (by omega)]
    · rw [if_neg q, if_neg (by omega)]
theorem unO_all {m : List Int} (h : 0 < m.length) : unO m (m.length - 1) = undAll m.length m := by
  simp only [unO, undAll, undT]
  apply List.map_congr_left
  intro j hj
  have hj' : j < m.length := by simpa using hj
  rw [if_pos (by omega), undV, Nat.div_eq_of_lt hj', Nat.mod_eq_of_lt hj', Nat.mul_zero]

def S_RUnmixed (P : Program) (f : Nat) : Prop := ∀ m : List Int, 0 < m.length → m.length ≤ 4000 → I32 m → VC P f [il m] (il (undAll m.length m))
theorem ref17_Unmixed {P : Program} {f fW t0 : Nat} (b : Body P f 63 [.tmp 2] (ac_cadenzaref17_Unmixed fW t0)) (hW : S_Wrap P fW) : S_RUnmixed P f := by
  intro m h0 h1 hI
  have rep_ks : ∀ n : Nat, repCells [.int .i32 0] n = ks .i32 (List.replicate n 0) := fun n => by
    induction n with
    | zero => rfl
    | succ n ih => rw [repCells, ih]; simp [ks, List.replicate_succ]
  have tm : isTL (ks .i32 m) = true := isTL_ks _ _
  have lr : (List.replicate m.length (0 : Int)).length = m.length := by simp
  refine VC.of_walk 1 (by simp [isDL, isD, isD_il]) (by simp [isD_il]) (ACall.of_body b (by simp) ?_)
  have e1 := ks_at (K := .i32) (l := m) (i := m.length - 1) (by omega)
  have e3 := fun v => ks_set (K := .i32) (l := List.replicate m.length (0 : Int)) (i := m.length - 1) (by simp; omega) v
  have r0 := rep_ks m.length
  by_cases hn : m.length = 1
  · have u0 : ud m 0 m.length 0 = m.getD (m.length - 1) 0 := by rw [ud, if_pos hn, hn]
    have a0 := unO_0 h0
    rw [u0] at a0
    have hn' : m.length - 1 = 0 := by omega
    simp (config := { maxSteps := 4000000 }) (disch := omega) only [step, stepv, ev, wl, wn, wp, aop, cV, cV1, ↓reduceIte, Nat.reduceEqDiff, Nat.reduceAdd, Int.cast_ofNat_Int, if_true, if_false, AV.one, repCells, fillA, partCells, Nat.reduceLT, Nat.reduceLeDiff, Nat.reduceMul, Nat.reduceSub, Int.reduceLT, Int.reduceLE, Int.reduceAdd, Int.reduceSub, Int.reduceMul, Int.reduceToNat, sliceCells, cellsAt, srcA, app, reduceCtorEq, Int.reduceEq, Int.reduceNeg, Int.reducePow, Nat.reducePow, Int.reduceTDiv, Int.reduceDiv, Nat.reduceDiv, Nat.reduceMod, Int.reduceMod, Int.reduceTMod, ne_eq, subA, beq_iff_eq, unA, minA, maxA, eqFs, eqA1, beq_self_eq_true, Nat.reduceBEq, ac_cadenzaref17_Unmixed, il, r0, e1, e3, lr, a0]
    refine ALoop.by (ι := Nat) (fun d => ⟨[(5, .int .i64 (-1)), (4, .own 0 m.length), (0, il m)], [⟨t0, 1, m.length, ks .i32 (unO m 0), 0⟩]⟩) (fun _ => True) (fun d => d) 0 (Le.slots (by simp [Am.look, il]; omega)) trivial ?_
    intro d _
    have u1 := unO_all h0
    rw [hn'] at u1
    rw [u1]
    simp (config := { maxSteps := 4000000 }) (disch := omega) only [step, stepv, ev, wl, wn, wp, aop, cV, cV1, ↓reduceIte, Nat.reduceEqDiff, Nat.reduceAdd, Int.cast_ofNat_Int, if_true, if_false, AV.one, repCells, fillA, partCells, Nat.reduceLT, Nat.reduceLeDiff, Nat.reduceMul, Nat.reduceSub, Int.reduceLT, Int.reduceLE, Int.reduceAdd, Int.reduceSub, Int.reduceMul, Int.reduceToNat, sliceCells, cellsAt, srcA, app, reduceCtorEq, Int.reduceEq, Int.reduceNeg, Int.reducePow, Nat.reducePow, Int.reduceTDiv, Int.reduceDiv, Nat.reduceDiv, Nat.reduceMod, Int.reduceMod, Int.reduceTMod, ne_eq, subA, beq_iff_eq, unA, minA, maxA, eqFs, eqA1, beq_self_eq_true, Nat.reduceBEq]
    simp [frzN, frzK, frzL, frzV, il, frzL_T _ (isTL_ks .i32 (undAll m.length m)), undAll_len]
  · have e2 := ks_at (K := .i32) (l := m) (i := m.length - 2) (by omega)
    have u0 : ud m 0 m.length 0 = w32 (m.getD (m.length - 1) 0 + (m.getD (m.length - 2) 0).tdiv 2) := by rw [ud, if_neg hn, Nat.zero_add, Nat.zero_add]
    have a0 := unO_0 h0
    rw [u0] at a0
    have e4 := fun v => ks_set (K := .i32) (l := (List.replicate m.length (0 : Int)).set (m.length - 1) (m.getD (m.length - 1) 0)) (i := m.length - 1) (by simp; omega) v
    have r1 := getD_mem hI (m.length - 1)
    have r2 := getD_mem hI (m.length - 2)
    have r3 := tdiv2_rng r2
    simp (config := { maxSteps := 4000000 }) (disch := omega) only [step, stepv, ev, wl, wn, wp, aop, cV, cV1, ↓reduceIte, Nat.reduceEqDiff, Nat.reduceAdd, Int.cast_ofNat_Int, if_true, if_false, AV.one, repCells, fillA, partCells, Nat.reduceLT, Nat.reduceLeDiff, Nat.reduceMul, Nat.reduceSub, Int.reduceLT, Int.reduceLE, Int.reduceAdd, Int.reduceSub, Int.reduceMul, Int.reduceToNat, sliceCells, cellsAt, srcA, app, reduceCtorEq, Int.reduceEq, Int.reduceNeg, Int.reducePow, Nat.reducePow, Int.reduceTDiv, Int.reduceDiv, Nat.reduceDiv, Nat.reduceMod, Int.reduceMod, Int.reduceTMod, ne_eq, subA, beq_iff_eq, unA, minA, maxA, eqFs, eqA1, beq_self_eq_true, Nat.reduceBEq, ac_cadenzaref17_Unmixed, il, r0, e1, e2, e3, lr, List.length_set]
    refine callD.vc (hW _) ?_
    simp (config := { maxSteps := 4000000 }) (disch := omega) only [step, stepv, ev, wl, wn, wp, aop, cV, cV1, ↓reduceIte, Nat.reduceEqDiff, Nat.reduceAdd, Int.cast_ofNat_Int, if_true, if_false, AV.one, repCells, fillA, partCells, Nat.reduceLT, Nat.reduceLeDiff, Nat.reduceMul, Nat.reduceSub, Int.reduceLT, Int.reduceLE, Int.reduceAdd, Int.reduceSub, Int.reduceMul, Int.reduceToNat, sliceCells, cellsAt, srcA, app, reduceCtorEq, Int.reduceEq, Int.reduceNeg, Int.reducePow, Nat.reducePow, Int.reduceTDiv, Int.reduceDiv, Nat.reduceDiv, Nat.reduceMod, Int.reduceMod, Int.reduceTMod, ne_eq, subA, beq_iff_eq, unA, minA, maxA, eqFs, eqA1, beq_self_eq_true, Nat.reduceBEq, e4, set_set', a0, lr, List.length_set]
    refine ALoop.by (ι := Nat) (fun d => ⟨[(5, .int .i64 ((m.length : Int) - 2 - d)), (4, .own 0 m.length), (0, il m)], [⟨t0, 1, m.length, ks .i32 (unO m d), 0⟩]⟩) (fun d => d ≤ m.length - 1) (fun d => m.length - 1 - d) 0 (Le.slots (by simp [Am.look, il])) (by omega) ?_
    intro d hd
    have ls := unO_len m d
    by_cases hlt : d < m.length - 1
    · have f1 := ks_at (K := .i32) (l := unO m d) (i := m.length - 1 - d) (by omega)
      rw [unO_at (by omega), show m.length - 1 - d = m.length - 2 - d + 1 by omega] at f1
      have f2 := ks_at (K := .i32) (l := m) (i := m.length - 2 - d) (by omega)
      have f3 := fun v => ks_set (K := .i32) (l := unO m d) (i := m.length - 2 - d) (by omega) v
      have a3 := unO_succ (m := m) (d := d) (by omega)
      have q1 := ud_rng hI 0 m.length d
      have q2 := getD_mem hI (m.length - 2 - d)
      simp (config := { maxSteps := 4000000 }) (disch := omega) only [step, stepv, ev, wl, wn, wp, aop, cV, cV1, ↓reduceIte, Nat.reduceEqDiff, Nat.reduceAdd, Int.cast_ofNat_Int, if_true, if_false, AV.one, repCells, fillA, partCells, Nat.reduceLT, Nat.reduceLeDiff, Nat.reduceMul, Nat.reduceSub, Int.reduceLT, Int.reduceLE, Int.reduceAdd, Int.reduceSub, Int.reduceMul, Int.reduceToNat, sliceCells, cellsAt, srcA, app, reduceCtorEq, Int.reduceEq, Int.reduceNeg, Int.reducePow, Nat.reducePow, Int.reduceTDiv, Int.reduceDiv, Nat.reduceDiv, Nat.reduceMod, Int.reduceMod, Int.reduceTMod, ne_eq, subA, beq_iff_eq, unA, minA, maxA, eqFs, eqA1, beq_self_eq_true, Nat.reduceBEq, il, f1, f2, ls]
      refine callD.vc (hW _) ?_
      simp (config := { maxSteps := 4000000 }) (disch := omega) only [step, stepv, ev, wl, wn, wp, aop, cV, cV1, ↓reduceIte, Nat.reduceEqDiff, Nat.reduceAdd, Int.cast_ofNat_Int, if_true, if_false, AV.one, repCells, fillA, partCells, Nat.reduceLT, Nat.reduceLeDiff, Nat.reduceMul, Nat.reduceSub, Int.reduceLT, Int.reduceLE, Int.reduceAdd, Int.reduceSub, Int.reduceMul, Int.reduceToNat, sliceCells, cellsAt, srcA, app, reduceCtorEq, Int.reduceEq, Int.reduceNeg, Int.reducePow, Nat.reducePow, Int.reduceTDiv, Int.reduceDiv, Nat.reduceDiv, Nat.reduceMod, Int.reduceMod, Int.reduceTMod, ne_eq, subA, beq_iff_eq, unA, minA, maxA, eqFs, eqA1, beq_self_eq_true, Nat.reduceBEq, f3, a3, ls]
      exact ⟨d + 1, by omega, by omega, Le.slots (by simp [Am.look, il]; omega)⟩
    · have e : d = m.length - 1 := by omega
      subst e
      rw [unO_all h0]
      simp (config := { maxSteps := 4000000 }) (disch := omega) only [step, stepv, ev, wl, wn, wp, aop, cV, cV1, ↓reduceIte, Nat.reduceEqDiff, Nat.reduceAdd, Int.cast_ofNat_Int, if_true, if_false, AV.one, repCells, fillA, partCells, Nat.reduceLT, Nat.reduceLeDiff, Nat.reduceMul, Nat.reduceSub, Int.reduceLT, Int.reduceLE, Int.reduceAdd, Int.reduceSub, Int.reduceMul, Int.reduceToNat, sliceCells, cellsAt, srcA, app, reduceCtorEq, Int.reduceEq, Int.reduceNeg, Int.reducePow, Nat.reducePow, Int.reduceTDiv, Int.reduceDiv, Nat.reduceDiv, Nat.reduceMod, Int.reduceMod, Int.reduceTMod, ne_eq, subA, beq_iff_eq, unA, minA, maxA, eqFs, eqA1, beq_self_eq_true, Nat.reduceBEq, il]
      simp [frzN, frzK, frzL, frzV, il, frzL_T _ (isTL_ks .i32 (undAll m.length m)), undAll_len]

theorem undT_seg {c : Nat} {l : List Int} {m : Nat} (hc : 1 ≤ c) (h : c * m + c ≤ l.length) : undT c l (c * m) ++ undAll c ((l.drop (c * m)).take c) = undT c l (c * m + c) := by
  have hl : ((l.drop (c * m)).take c).length = c := by simp; omega
  rw [undAll, undT, undT, undT, hl, List.range_add, List.map_append, List.map_map]
  congr 1
  apply List.map_congr_left
  intro j hj
  have hj' : j < c := by simpa using hj
  have e := divmod_seg (c := c) (m := m) hj'
  simp only [Function.comp, undV]
  rw [e.1, e.2, Nat.div_eq_of_lt hj', Nat.mod_eq_of_lt hj', Nat.mul_zero]
  refine ud_congr hc (fun i hi => ?_) _
  rw [Nat.zero_add, seg_getD hi]

theorem ref17_Undo {P : Program} {f fC fM t0 : Nat} (b : Body P f 32 [.tmp 4, .tmp 5] (ac_cadenzaref17_Undo fC fM t0)) (hC : S_MCheck P fC) (hM : S_RUnmixed P fM) : S_MixUndo P f := by
  intro c l hok
  obtain ⟨h1, h2, h3, h4, h5, h6⟩ := id hok
  have hc := okM_check hok
  obtain ⟨q, hq⟩ : ∃ q, l.length = c * q := ⟨l.length / c, by have := Nat.div_add_mod l.length c; omega⟩
  refine VC.of_walk 1 (by simp [isDL, isD, isD_il]) (by simp [isD, isDL, isD_il]) (ACall.of_body b (by simp) ?_)
  simp (config := { maxSteps := 4000000 }) (disch := omega) only [step, stepv, ev, wl, wn, wp, aop, cV, cV1, ↓reduceIte, Nat.reduceEqDiff, Nat.reduceAdd, Int.cast_ofNat_Int, if_true, if_false, AV.one, repCells, fillA, partCells, Nat.reduceLT, Nat.reduceLeDiff, Nat.reduceMul, Nat.reduceSub, Int.reduceLT, Int.reduceLE, Int.reduceAdd, Int.reduceSub, Int.reduceMul, Int.reduceToNat, sliceCells, cellsAt, srcA, app, reduceCtorEq, Int.reduceEq, Int.reduceNeg, Int.reducePow, Nat.reducePow, Int.reduceTDiv, Int.reduceDiv, Nat.reduceDiv, Nat.reduceMod, Int.reduceMod, Int.reduceTMod, ne_eq, subA, beq_iff_eq, unA, minA, maxA, eqFs, eqA1, beq_self_eq_true, Nat.reduceBEq, ac_cadenzaref17_Undo]
  refine callQ.vc (hC c l) ?_
  have n0 : l.length ≠ 0 := by omega
  simp (config := { maxSteps := 4000000 }) (disch := omega) only [step, stepv, ev, wl, wn, wp, aop, cV, cV1, ↓reduceIte, Nat.reduceEqDiff, Nat.reduceAdd, Int.cast_ofNat_Int, if_true, if_false, AV.one, repCells, fillA, partCells, Nat.reduceLT, Nat.reduceLeDiff, Nat.reduceMul, Nat.reduceSub, Int.reduceLT, Int.reduceLE, Int.reduceAdd, Int.reduceSub, Int.reduceMul, Int.reduceToNat, sliceCells, cellsAt, srcA, app, reduceCtorEq, Int.reduceEq, Int.reduceNeg, Int.reducePow, Nat.reducePow, Int.reduceTDiv, Int.reduceDiv, Nat.reduceDiv, Nat.reduceMod, Int.reduceMod, Int.reduceTMod, ne_eq, subA, beq_iff_eq, unA, minA, maxA, eqFs, eqA1, beq_self_eq_true, Nat.reduceBEq, hc, n0]
  refine ALoop.by (ι := Nat) (fun m => ⟨[(7, .int .i64 (c * m : Nat)), (6, .own 0 (c * m)), (1, il l), (0, .int .i64 c)], [⟨t0, 1, c * m, ks .i32 (undT c l (c * m)), 0⟩]⟩) (fun m => m ≤ q) (fun m => q - m) 0 (by rw [Nat.mul_zero]; exact Le.trans (Le.virt 6 t0 1 (by omega) rfl) (Le.slots (by simp [Am.look, undT]))) (by omega) ?_
  intro m hm
  have tm : isTL (ks .i32 l) = true := isTL_ks _ _
  have lt := undT_len c l (c * m)
  by_cases hlt : c * m < l.length
  · have hs := mul_step (c := c) (m := m) (q := q) (by rw [← hq]; exact hlt)
    rw [← hq] at hs
    have hmq : m < q := Nat.lt_of_mul_lt_mul_left (a := c) (b := m) (c := q) (by rw [← hq]; exact hlt)
    have e0 : c * m + c - c * m = c := by omega
    have hl : ((l.drop (c * m)).take c).length = c := by simp; omega
    have la := undAll_len c ((l.drop (c * m)).take c)
    have e1 := ks_seg .i32 l (c * m) c
    have hM' := hM ((l.drop (c * m)).take c) (by omega) (by omega) (I32_seg h6 _ _)
    rw [il, hl] at hM'
    have e2 : ks .i32 (undT c l (c * m)) ++ ks .i32 (undAll c ((l.drop (c * m)).take c)) = ks .i32 (undT c l (c * m + c)) := by rw [← undT_seg h1 hs]; simp [ks]
    simp (config := { maxSteps := 4000000 }) (disch := omega) only [step, stepv, ev, wl, wn, wp, aop, cV, cV1, ↓reduceIte, Nat.reduceEqDiff, Nat.reduceAdd, Int.cast_ofNat_Int, if_true, if_false, AV.one, repCells, fillA, partCells, Nat.reduceLT, Nat.reduceLeDiff, Nat.reduceMul, Nat.reduceSub, Int.reduceLT, Int.reduceLE, Int.reduceAdd, Int.reduceSub, Int.reduceMul, Int.reduceToNat, sliceCells, cellsAt, srcA, app, reduceCtorEq, Int.reduceEq, Int.reduceNeg, Int.reducePow, Nat.reducePow, Int.reduceTDiv, Int.reduceDiv, Nat.reduceDiv, Nat.reduceMod, Int.reduceMod, Int.reduceTMod, ne_eq, subA, beq_iff_eq, unA, minA, maxA, eqFs, eqA1, beq_self_eq_true, Nat.reduceBEq, e0, n0, il, e1]
    refine callQ.vc hM' ?_
    simp (config := { maxSteps := 4000000 }) (disch := omega) only [step, stepv, ev, wl, wn, wp, aop, cV, cV1, ↓reduceIte, Nat.reduceEqDiff, Nat.reduceAdd, Int.cast_ofNat_Int, if_true, if_false, AV.one, repCells, fillA, partCells, Nat.reduceLT, Nat.reduceLeDiff, Nat.reduceMul, Nat.reduceSub, Int.reduceLT, Int.reduceLE, Int.reduceAdd, Int.reduceSub, Int.reduceMul, Int.reduceToNat, sliceCells, cellsAt, srcA, app, reduceCtorEq, Int.reduceEq, Int.reduceNeg, Int.reducePow, Nat.reducePow, Int.reduceTDiv, Int.reduceDiv, Nat.reduceDiv, Nat.reduceMod, Int.reduceMod, Int.reduceTMod, ne_eq, subA, beq_iff_eq, unA, minA, maxA, eqFs, eqA1, beq_self_eq_true, Nat.reduceBEq, il, la, hl, e2]
    exact ⟨m + 1, by omega, by omega, by rw [show c * (m + 1) = c * m + c by rw [Nat.mul_add, Nat.mul_one]]; exact Le.slots (by simp [Am.look, il])⟩
  · have e : c * m = l.length := by
      have := Nat.mul_le_mul_left c hm
      omega
    rw [e]
    have e9 : undT c l l.length = undAll c l := rfl
    rw [e9]
    have lm := undAll_len c l
    simp (config := { maxSteps := 4000000 }) (disch := omega) only [step, stepv, ev, wl, wn, wp, aop, cV, cV1, ↓reduceIte, Nat.reduceEqDiff, Nat.reduceAdd, Int.cast_ofNat_Int, if_true, if_false, AV.one, repCells, fillA, partCells, Nat.reduceLT, Nat.reduceLeDiff, Nat.reduceMul, Nat.reduceSub, Int.reduceLT, Int.reduceLE, Int.reduceAdd, Int.reduceSub, Int.reduceMul, Int.reduceToNat, sliceCells, cellsAt, srcA, app, reduceCtorEq, Int.reduceEq, Int.reduceNeg, Int.reducePow, Nat.reducePow, Int.reduceTDiv, Int.reduceDiv, Nat.reduceDiv, Nat.reduceMod, Int.reduceMod, Int.reduceTMod, ne_eq, subA, beq_iff_eq, unA, minA, maxA, eqFs, eqA1, beq_self_eq_true, Nat.reduceBEq, il]
    simp [frzN, frzK, frzL, frzV, isDL, isD, il, lm, frzL_T _ (isTL_ks .i32 (undAll c l))]
end Go.Am

namespace Go.Am
open Go.RowKit

/-! ### What is uncoded -/

def stB (c : Nat) (L : List Int) (z : Chan) (k : Nat) : Nat → Chan
  | 0 => z
  | n + 1 => cbckC (stB c L z k n) (L.getD (k + n * c) 0)
def bacV (c : Nat) (L : List Int) (z : Chan) (j : Nat) : Int := cbckX (stB c L z (j % c) (j / c)) (L.getD j 0)
def bacT (c : Nat) (L : List Int) (z : Chan) (a : Nat) : List Int := (List.range a).map (bacV c L z)
theorem bacT_len (c : Nat) (L : List Int) (z : Chan) (a : Nat) : (bacT c L z a).length = a := by simp [bacT]
theorem bacT_succ (c : Nat) (L : List Int) (z : Chan) (a : Nat) : bacT c L z a ++ [bacV c L z a] = bacT c L z (a + 1) := by simp [bacT, List.range_succ]
theorem I32_bacT (c : Nat) (L : List Int) (z : Chan) (a : Nat) : I32 (bacT c L z a) := by
  intro v hv
  simp only [bacT, List.mem_map] at hv
  obtain ⟨j, _, rfl⟩ := hv
  exact w32_rng _
theorem ok_stB {c : Nat} {L : List Int} {z : Chan} (hz : okCh z) (k : Nat) : ∀ n, okCh (stB c L z k n)
  | 0 => hz
  | n + 1 => ok_cbck (ok_stB hz k n) _
def stAB (c : Nat) (L : List Int) (z : Chan) (i : Nat) : Nat → Chan := fun k => if k < c then stB c L z k (cnt c k i) else z
theorem stAB_0 (c : Nat) (L : List Int) (z : Chan) : stAB c L z 0 = fun _ => z := by
  funext k; simp [stAB, cnt_0, stB]
theorem stAB_at {c : Nat} (hc : 1 ≤ c) (L : List Int) (z : Chan) (i : Nat) : stAB c L z i (i % c) = stB c L z (i % c) (i / c) := by
  rw [stAB, if_pos (Nat.mod_lt _ (by omega)), cnt_self]
theorem stAB_succ {c : Nat} (hc : 1 ≤ c) (L : List Int) (z : Chan) (i : Nat) : upd (stAB c L z i) (i % c) (cbckC (stB c L z (i % c) (i / c)) (L.getD i 0)) = stAB c L z (i + 1) := by
  funext k
  have hr := Nat.mod_lt i (show 0 < c by omega)
  by_cases hk : k < c
  · simp only [upd, stAB, if_pos hk, cnt_succ hk]
    by_cases e : k = i % c
    · rw [if_pos e, if_pos e, e, stB]
      rw [show i % c + i / c * c = i by have := Nat.div_add_mod i c; rw [Nat.mul_comm]; omega]
    · rw [if_neg e, if_neg e]
  · simp only [upd, stAB, if_neg hk]
    rw [if_neg (by omega)]
theorem ok_stAB {c : Nat} {L : List Int} {z : Chan} (hz : okCh z) (i : Nat) : okS (stAB c L z i) := fun k => by
  unfold stAB; split
  · exact (ok_stB hz k _).2.2.1
  · exact hz.2.2.1
def U32 (l : List Int) : Prop := ∀ x ∈ l, 0 ≤ x ∧ x < 4294967296
theorem U32_getD {l : List Int} (h : U32 l) (j : Nat) : 0 ≤ l.getD j 0 ∧ l.getD j 0 < 4294967296 := by
  by_cases hj : j < l.length
  · rw [List.getD_eq_getElem?_getD, List.getElem?_eq_getElem hj]
    exact h _ (List.getElem_mem hj)
  · rw [List.getD_eq_getElem?_getD, List.getElem?_eq_none (by omega)]; simp
theorem backs_getD {v : List Int} {j : Nat} (h : j < v.length) : (v.map backN).getD j 0 = backN (v.getD j 0) := by
  simp [List.getD_eq_getElem?_getD, List.getElem?_map, List.getElem?_eq_getElem h]

/-- What comes of the coded numbers. -/
def unB (c : Nat) (x : Int) (t v : List Int) : List Int := undAll c (bacT c (v.map backN) (newC x t) v.length)
theorem unB_len (c : Nat) (x : Int) (t v : List Int) : (unB c x t v).length = v.length := by simp [unB, undAll_len, bacT_len]
def okV (c : Nat) (v : List Int) : Prop := 1 ≤ c ∧ c ≤ 6 ∧ 0 < v.length ∧ v.length ≤ 4000 ∧ v.length % c = 0 ∧ U32 v
theorem okV_M {c : Nat} {v : List Int} (h : okV c v) (x : Int) (t : List Int) : okM c (bacT c (v.map backN) (newC x t) v.length) := by
  obtain ⟨h1, h2, h3, h4, h5, _⟩ := h
  exact ⟨h1, h2, by rw [bacT_len]; omega, by rw [bacT_len]; omega, by rw [bacT_len]; exact h5, I32_bacT _ _ _ _⟩
def rngA (x : Int) (l : List Int) : AV := if checkN x l ≠ 0 then .tup [.list 0 [], .int .i64 (checkN x l)] else .tup [il l, .int .i64 0]
theorem isD_rng (x : Int) (l : List Int) : isD (rngA x l) = true := by unfold rngA; split <;> simp [isD, isDL, isD_il]
def S_DSam (P : Program) (f : Nat) : Prop := ∀ (c : Nat) (x : Int) (t v : List Int), t.length = 16 → I32 t → okV c v → half x ≠ 0 → VC P f [shA c x, .agg (ks .i32 t), u32L v] (rngA x (unB c x t v))

set_option maxRecDepth 20000 in
theorem deframe_samples {P : Program} {f fN fO fB fU fW t0 t1 t2 t3 t4 : Nat} (b : Body P f 84 [.tmp 6, .tmp 7] (ac_deframe_samples fN fO fB fU fW t0 t1 t2 t3 t4)) (hN : S_CNew P fN) (hO : S_UBack P fO) (hB : S_CBack P fB) (hU : S_MixUndo P fU) (hW : S_WCheck P fW) : S_DSam P f := by
  intro k x t v hl hI hok hx
  have hk : (ks .i32 t).length = 16 := by simp [ks_length, hl]
  have ot := ks_one .i32 t
  have tt : (ks .i32 t).take 16 = ks .i32 t := take_all (by omega)
  refine VC.of_walk 1 (by simp [isDL, isD, isD_u32L, isDL_ks, shA]) (isD_rng _ _) (ACall.of_cut 5 b (by simp) ?_)
  have hz := ok_newC hx hl hI
  have l0 := six_len (S := fun _ => zeroC) (fun _ => ok_zeroC)
  have o0 := all_six (fun _ => zeroC)
  obtain ⟨h1, h2, h3, h4, h5, h6⟩ := id hok
  unfold ac_deframe_samples
  rw [show ([.int .i64 0, .int .i32 0, .int .i64 0, .int .i32 0, .int .i32 0, .int .i32 0, .int .i32 0, .int .i32 0, .int .i32 0, .int .i32 0, .int .i32 0, .int .i32 0, .int .i32 0, .int .i32 0, .int .i32 0, .int .i32 0, .int .i32 0, .int .i32 0, .int .i32 0, .int .i32 0, .int .i32 0, .int .i32 0, .int .i32 0, .int .i32 0, .int .i32 0, .int .i32 0, .int .i32 0, .int .i32 0, .int .i32 0, .int .i32 0, .int .i32 0, .int .i32 0, .int .i32 0, .int .i32 0, .int .i32 0, .int .i64 0, .int .i32 0, .int .i64 0, .int .i32 0, .int .i32 0, .int .i32 0, .int .i32 0, .int .i32 0, .int .i32 0, .int .i32 0, .int .i32 0, .int .i32 0, .int .i32 0, .int .i32 0, .int .i32 0, .int .i32 0, .int .i32 0, .int .i32 0, .int .i32 0, .int .i32 0, .int .i32 0, .int .i32 0, .int .i32 0, .int .i32 0, .int .i32 0, .int .i32 0, .int .i32 0, .int .i32 0, .int .i32 0, .int .i32 0, .int .i32 0, .int .i32 0, .int .i32 0, .int .i32 0, .int .i32 0, .int .i64 0, .int .i32 0, .int .i64 0, .int .i32 0, .int .i32 0, .int .i32 0, .int .i32 0, .int .i32 0, .int .i32 0, .int .i32 0, .int .i32 0, .int .i32 0, .int .i32 0, .int .i32 0, .int .i32 0, .int .i32 0, .int .i32 0, .int .i32 0, .int .i32 0, .int .i32 0, .int .i32 0, .int .i32 0, .int .i32 0, .int .i32 0, .int .i32 0, .int .i32 0, .int .i32 0, .int .i32 0, .int .i32 0, .int .i32 0, .int .i32 0, .int .i32 0, .int .i32 0, .int .i32 0, .int .i32 0, .int .i64 0, .int .i32 0, .int .i64 0, .int .i32 0, .int .i32 0, .int .i32 0, .int .i32 0, .int .i32 0, .int .i32 0, .int .i32 0, .int .i32 0, .int .i32 0, .int .i32 0, .int .i32 0, .int .i32 0, .int .i32 0, .int .i32 0, .int .i32 0, .int .i32 0, .int .i32 0, .int .i32 0, .int .i32 0, .int .i32 0, .int .i32 0, .int .i32 0, .int .i32 0, .int .i32 0, .int .i32 0, .int .i32 0, .int .i32 0, .int .i32 0, .int .i32 0, .int .i32 0, .int .i32 0, .int .i32 0, .int .i64 0, .int .i32 0, .int .i64 0, .int .i32 0, .int .i32 0, .int .i32 0, .int .i32 0, .int .i32 0, .int .i32 0, .int .i32 0, .int .i32 0, .int .i32 0, .int .i32 0, .int .i32 0, .int .i32 0, .int .i32 0, .int .i32 0, .int .i32 0, .int .i32 0, .int .i32 0, .int .i32 0, .int .i32 0, .int .i32 0, .int .i32 0, .int .i32 0, .int .i32 0, .int .i32 0, .int .i32 0, .int .i32 0, .int .i32 0, .int .i32 0, .int .i32 0, .int .i32 0, .int .i32 0, .int .i32 0, .int .i64 0, .int .i32 0, .int .i64 0, .int .i32 0, .int .i32 0, .int .i32 0, .int .i32 0, .int .i32 0, .int .i32 0, .int .i32 0, .int .i32 0, .int .i32 0, .int .i32 0, .int .i32 0, .int .i32 0, .int .i32 0, .int .i32 0, .int .i32 0, .int .i32 0, .int .i32 0, .int .i32 0, .int .i32 0, .int .i32 0, .int .i32 0, .int .i32 0, .int .i32 0, .int .i32 0, .int .i32 0, .int .i32 0, .int .i32 0, .int .i32 0, .int .i32 0, .int .i32 0, .int .i32 0, .int .i32 0] : List AV) = six (fun _ => zeroC) from rfl, ← zeroC_eq]
  simp (config := { maxSteps := 4000000 }) (disch := omega) only [step, stepv, ev, wl, wn, wp, aop, cV, cV1, ↓reduceIte, Nat.reduceEqDiff, Nat.reduceAdd, Int.cast_ofNat_Int, if_true, if_false, AV.one, repCells, fillA, partCells, Nat.reduceLT, Nat.reduceLeDiff, Nat.reduceMul, Nat.reduceSub, Int.reduceLT, Int.reduceLE, Int.reduceAdd, Int.reduceSub, Int.reduceMul, Int.reduceToNat, sliceCells, cellsAt, srcA, app, reduceCtorEq, Int.reduceEq, Int.reduceNeg, Int.reducePow, Nat.reducePow, Int.reduceTDiv, Int.reduceDiv, Nat.reduceDiv, Nat.reduceMod, Int.reduceMod, Int.reduceTMod, ne_eq, subA, beq_iff_eq, unA, minA, maxA, eqFs, eqA1, beq_self_eq_true, Nat.reduceBEq, cuts, shA, u32L, hk, ot, tt, l0, o0]
  refine ALoop.by (ι := Nat) (fun i => ⟨[(20, .int .i64 i), (8, .ref 2 1 0), (4, .ref 1 1 0), (3, .ref 0 1 0), (2, u32L v)], [⟨t0, 2, 1, [.int .i64 k, .int .i64 x], 0⟩, ⟨t1, 16, 1, ks .i32 t, 0⟩, ⟨t2, 210, 1, six (newS (newC x t) i), 0⟩]⟩) (fun i => i ≤ 6) (fun i => 6 - i) 0 (by rw [newS_0]; exact Le.slots (by simp [Am.look, u32L])) (by omega) ?_
  intro i hi
  have oS := ok_newS hz.2.2.1 i
  have lS := six_len oS
  by_cases hlt : i < 6
  · have e1 := six_set oS hlt (newC x t)
    rw [newS_succ] at e1
    have lc := chan_len hz.2.2.1
    have oc := chan_one (newC x t)
    simp (config := { maxSteps := 4000000 }) (disch := omega) only [step, stepv, ev, wl, wn, wp, aop, cV, cV1, ↓reduceIte, Nat.reduceEqDiff, Nat.reduceAdd, Int.cast_ofNat_Int, if_true, if_false, AV.one, repCells, fillA, partCells, Nat.reduceLT, Nat.reduceLeDiff, Nat.reduceMul, Nat.reduceSub, Int.reduceLT, Int.reduceLE, Int.reduceAdd, Int.reduceSub, Int.reduceMul, Int.reduceToNat, sliceCells, cellsAt, srcA, app, reduceCtorEq, Int.reduceEq, Int.reduceNeg, Int.reducePow, Nat.reducePow, Int.reduceTDiv, Int.reduceDiv, Nat.reduceDiv, Nat.reduceMod, Int.reduceMod, Int.reduceTMod, ne_eq, subA, beq_iff_eq, unA, minA, maxA, eqFs, eqA1, beq_self_eq_true, Nat.reduceBEq, hk, tt]
    refine callQ.vc (hN x t hl hI) ?_
    simp (config := { maxSteps := 4000000 }) (disch := omega) only [step, stepv, ev, wl, wn, wp, aop, cV, cV1, ↓reduceIte, Nat.reduceEqDiff, Nat.reduceAdd, Int.cast_ofNat_Int, if_true, if_false, AV.one, repCells, fillA, partCells, Nat.reduceLT, Nat.reduceLeDiff, Nat.reduceMul, Nat.reduceSub, Int.reduceLT, Int.reduceLE, Int.reduceAdd, Int.reduceSub, Int.reduceMul, Int.reduceToNat, sliceCells, cellsAt, srcA, app, reduceCtorEq, Int.reduceEq, Int.reduceNeg, Int.reducePow, Nat.reducePow, Int.reduceTDiv, Int.reduceDiv, Nat.reduceDiv, Nat.reduceMod, Int.reduceMod, Int.reduceTMod, ne_eq, subA, beq_iff_eq, unA, minA, maxA, eqFs, eqA1, beq_self_eq_true, Nat.reduceBEq, cnewA, if_neg hx, lS, lc, oc, e1]
    exact ⟨i + 1, by omega, by omega, Le.slots (by simp [Am.look])⟩
  · have : i = 6 := by omega
    subst this
    simp (config := { maxSteps := 4000000 }) (disch := omega) only [step, stepv, ev, wl, wn, wp, aop, cV, cV1, ↓reduceIte, Nat.reduceEqDiff, Nat.reduceAdd, Int.cast_ofNat_Int, if_true, if_false, AV.one, repCells, fillA, partCells, Nat.reduceLT, Nat.reduceLeDiff, Nat.reduceMul, Nat.reduceSub, Int.reduceLT, Int.reduceLE, Int.reduceAdd, Int.reduceSub, Int.reduceMul, Int.reduceToNat, sliceCells, cellsAt, srcA, app, reduceCtorEq, Int.reduceEq, Int.reduceNeg, Int.reducePow, Nat.reducePow, Int.reduceTDiv, Int.reduceDiv, Nat.reduceDiv, Nat.reduceMod, Int.reduceMod, Int.reduceTMod, ne_eq, subA, beq_iff_eq, unA, minA, maxA, eqFs, eqA1, beq_self_eq_true, Nat.reduceBEq, cuts, u32L]
    have tv : isTL (ks .u32 v) = true := isTL_ks _ _
    refine ALoop.by (ι := Nat) (fun i => ⟨[(35, .int .i64 i), (34, .int .i64 v.length), (33, u32L v), (10, .own 3 i), (8, .ref 2 1 0), (3, .ref 0 1 0)], [⟨t0, 2, 1, [.int .i64 k, .int .i64 x], 0⟩, ⟨t1, 16, 1, ks .i32 t, 0⟩, ⟨t2, 210, 1, six (stAB k (v.map backN) (newC x t) i), 0⟩, ⟨t4, 1, i, ks .i32 (bacT k (v.map backN) (newC x t) i), 0⟩]⟩) (fun i => i ≤ v.length) (fun i => v.length - i) 0 (by rw [stAB_0, ← six_6]; exact Le.trans (Le.virt 10 t4 1 (by omega) rfl) (Le.slots (by simp [Am.look, bacT, u32L]))) (by omega) ?_
    intro i hi
    have lo := bacT_len k (v.map backN) (newC x t) i
    have to : isTL (ks .i32 (bacT k (v.map backN) (newC x t) i)) = true := isTL_ks _ _
    by_cases hlt : i < v.length
    · have oS := ok_stAB hz (c := k) (L := v.map backN) i
      have lS := six_len oS
      have hr := Nat.mod_lt i (show 0 < k by omega)
      have e0 := six_at oS (k := i % k) (by omega)
      rw [stAB_at h1] at e0
      have e1 := six_set oS (k := i % k) (by omega) (cbckC (stB k (v.map backN) (newC x t) (i % k) (i / k)) ((v.map backN).getD i 0))
      rw [stAB_succ h1] at e1
      have hok2 := ok_stB (c := k) (L := v.map backN) hz (i % k) (i / k)
      have eb := backs_getD hlt
      have hO' := hO (v.getD i 0) (U32_getD h6 i)
      rw [← eb] at hO'
      have hB' := hB _ ((v.map backN).getD i 0) hok2
      have hok3 := ok_cbck hok2 ((v.map backN).getD i 0)
      have e2 := ks_at (K := .u32) (l := v) (i := i) hlt
      have e3 : ks .i32 (bacT k (v.map backN) (newC x t) i) ++ [.int .i32 (cbckX (stB k (v.map backN) (newC x t) (i % k) (i / k)) ((v.map backN).getD i 0))] = ks .i32 (bacT k (v.map backN) (newC x t) (i + 1)) := by rw [ks_snoc, ← bacT_succ]; rfl
      have lc := chan_len hok3.2.2.1
      have oc := chan_one (cbckC (stB k (v.map backN) (newC x t) (i % k) (i / k)) ((v.map backN).getD i 0))
      have tc : (chanL (cbckC (stB k (v.map backN) (newC x t) (i % k) (i / k)) ((v.map backN).getD i 0))).take 35 = chanL (cbckC (stB k (v.map backN) (newC x t) (i % k) (i / k)) ((v.map backN).getD i 0)) := take_all (by omega)
      have lz := chan_len ok_zeroC
      have oz := chan_one zeroC
      have dz : (chanL zeroC).drop 35 = [] := List.drop_eq_nil_of_le (by omega)
      have em : (i : Int) % k = (i % k : Nat) := by omega
      simp (config := { maxSteps := 4000000 }) (disch := omega) only [step, stepv, ev, wl, wn, wp, aop, cV, cV1, ↓reduceIte, Nat.reduceEqDiff, Nat.reduceAdd, Int.cast_ofNat_Int, if_true, if_false, AV.one, repCells, fillA, partCells, Nat.reduceLT, Nat.reduceLeDiff, Nat.reduceMul, Nat.reduceSub, Int.reduceLT, Int.reduceLE, Int.reduceAdd, Int.reduceSub, Int.reduceMul, Int.reduceToNat, sliceCells, cellsAt, srcA, app, reduceCtorEq, Int.reduceEq, Int.reduceNeg, Int.reducePow, Nat.reducePow, Int.reduceTDiv, Int.reduceDiv, Nat.reduceDiv, Nat.reduceMod, Int.reduceMod, Int.reduceTMod, ne_eq, subA, beq_iff_eq, unA, minA, maxA, eqFs, eqA1, beq_self_eq_true, Nat.reduceBEq, u32L, e2, em, e0]
      refine callD.vc hO' ?_
      simp (config := { maxSteps := 4000000 }) (disch := omega) only [step, stepv, ev, wl, wn, wp, aop, cV, cV1, ↓reduceIte, Nat.reduceEqDiff, Nat.reduceAdd, Int.cast_ofNat_Int, if_true, if_false, AV.one, repCells, fillA, partCells, Nat.reduceLT, Nat.reduceLeDiff, Nat.reduceMul, Nat.reduceSub, Int.reduceLT, Int.reduceLE, Int.reduceAdd, Int.reduceSub, Int.reduceMul, Int.reduceToNat, sliceCells, cellsAt, srcA, app, reduceCtorEq, Int.reduceEq, Int.reduceNeg, Int.reducePow, Nat.reducePow, Int.reduceTDiv, Int.reduceDiv, Nat.reduceDiv, Nat.reduceMod, Int.reduceMod, Int.reduceTMod, ne_eq, subA, beq_iff_eq, unA, minA, maxA, eqFs, eqA1, beq_self_eq_true, Nat.reduceBEq]
      refine callD.vc hB' ?_
      simp (config := { maxSteps := 4000000 }) (disch := omega) only [step, stepv, ev, wl, wn, wp, aop, cV, cV1, ↓reduceIte, Nat.reduceEqDiff, Nat.reduceAdd, Int.cast_ofNat_Int, if_true, if_false, AV.one, repCells, fillA, partCells, Nat.reduceLT, Nat.reduceLeDiff, Nat.reduceMul, Nat.reduceSub, Int.reduceLT, Int.reduceLE, Int.reduceAdd, Int.reduceSub, Int.reduceMul, Int.reduceToNat, sliceCells, cellsAt, srcA, app, reduceCtorEq, Int.reduceEq, Int.reduceNeg, Int.reducePow, Nat.reducePow, Int.reduceTDiv, Int.reduceDiv, Nat.reduceDiv, Nat.reduceMod, Int.reduceMod, Int.reduceTMod, ne_eq, subA, beq_iff_eq, unA, minA, maxA, eqFs, eqA1, beq_self_eq_true, Nat.reduceBEq, lz, oz, lc, oc, tc, e1, lS, dz, e3, List.append_nil, List.take_zero, List.nil_append]
      exact ⟨i + 1, by omega, by omega, Le.dropT [_, _, _, _] (by simp [isTL_six, isTL_ks, isTL, isT]) (by simp [Am.look, frzK, frzL, frzV, frzL_T _ tv])⟩
    · have e : i = v.length := by omega
      subst e
      simp (config := { maxSteps := 4000000 }) (disch := omega) only [step, stepv, ev, wl, wn, wp, aop, cV, cV1, ↓reduceIte, Nat.reduceEqDiff, Nat.reduceAdd, Int.cast_ofNat_Int, if_true, if_false, AV.one, repCells, fillA, partCells, Nat.reduceLT, Nat.reduceLeDiff, Nat.reduceMul, Nat.reduceSub, Int.reduceLT, Int.reduceLE, Int.reduceAdd, Int.reduceSub, Int.reduceMul, Int.reduceToNat, sliceCells, cellsAt, srcA, app, reduceCtorEq, Int.reduceEq, Int.reduceNeg, Int.reducePow, Nat.reducePow, Int.reduceTDiv, Int.reduceDiv, Nat.reduceDiv, Nat.reduceMod, Int.reduceMod, Int.reduceTMod, ne_eq, subA, beq_iff_eq, unA, minA, maxA, eqFs, eqA1, beq_self_eq_true, Nat.reduceBEq, cuts]
      refine ⟨⟨[(10, il (bacT k (v.map backN) (newC x t) v.length)), (3, .ref 0 1 0)], [⟨t0, 2, 1, [.int .i64 k, .int .i64 x], 0⟩]⟩, Le.dropT [_] (by simp [isTL, isT]) (by simp [Am.look, frzK, frzL, frzV, il, lo, frzL_T _ to]), ?_⟩
      simp (config := { maxSteps := 4000000 }) (disch := omega) only [step, stepv, ev, wl, wn, wp, aop, cV, cV1, ↓reduceIte, Nat.reduceEqDiff, Nat.reduceAdd, Int.cast_ofNat_Int, if_true, if_false, AV.one, repCells, fillA, partCells, Nat.reduceLT, Nat.reduceLeDiff, Nat.reduceMul, Nat.reduceSub, Int.reduceLT, Int.reduceLE, Int.reduceAdd, Int.reduceSub, Int.reduceMul, Int.reduceToNat, sliceCells, cellsAt, srcA, app, reduceCtorEq, Int.reduceEq, Int.reduceNeg, Int.reducePow, Nat.reducePow, Int.reduceTDiv, Int.reduceDiv, Nat.reduceDiv, Nat.reduceMod, Int.reduceMod, Int.reduceTMod, ne_eq, subA, beq_iff_eq, unA, minA, maxA, eqFs, eqA1, beq_self_eq_true, Nat.reduceBEq]
      refine callQ.vc (hU k _ (okV_M hok x t)) ?_
      simp (config := { maxSteps := 4000000 }) (disch := omega) only [step, stepv, ev, wl, wn, wp, aop, cV, cV1, ↓reduceIte, Nat.reduceEqDiff, Nat.reduceAdd, Int.cast_ofNat_Int, if_true, if_false, AV.one, repCells, fillA, partCells, Nat.reduceLT, Nat.reduceLeDiff, Nat.reduceMul, Nat.reduceSub, Int.reduceLT, Int.reduceLE, Int.reduceAdd, Int.reduceSub, Int.reduceMul, Int.reduceToNat, sliceCells, cellsAt, srcA, app, reduceCtorEq, Int.reduceEq, Int.reduceNeg, Int.reducePow, Nat.reducePow, Int.reduceTDiv, Int.reduceDiv, Nat.reduceDiv, Nat.reduceMod, Int.reduceMod, Int.reduceTMod, ne_eq, subA, beq_iff_eq, unA, minA, maxA, eqFs, eqA1, beq_self_eq_true, Nat.reduceBEq]
      refine callQ.vc (hW x (unB k x t v) (I32_undAll (I32_bacT _ _ _ _))) ?_
      have lu := unB_len k x t v
      by_cases h9 : checkN x (unB k x t v) = 0
      · have e9 : rngA x (unB k x t v) = .tup [il (unB k x t v), .int .i64 0] := by simp [rngA, h9]
        simp (config := { maxSteps := 4000000 }) (disch := omega) only [step, stepv, ev, wl, wn, wp, aop, cV, cV1, ↓reduceIte, Nat.reduceEqDiff, Nat.reduceAdd, Int.cast_ofNat_Int, if_true, if_false, AV.one, repCells, fillA, partCells, Nat.reduceLT, Nat.reduceLeDiff, Nat.reduceMul, Nat.reduceSub, Int.reduceLT, Int.reduceLE, Int.reduceAdd, Int.reduceSub, Int.reduceMul, Int.reduceToNat, sliceCells, cellsAt, srcA, app, reduceCtorEq, Int.reduceEq, Int.reduceNeg, Int.reducePow, Nat.reducePow, Int.reduceTDiv, Int.reduceDiv, Nat.reduceDiv, Nat.reduceMod, Int.reduceMod, Int.reduceTMod, ne_eq, subA, beq_iff_eq, unA, minA, maxA, eqFs, eqA1, beq_self_eq_true, Nat.reduceBEq, h9, e9]
        simp only [unB] at *
        simp [frzN, frzK, frzL, frzV, isDL, isD, il, frzL_T _ (isTL_ks .i32 _)]
      · have e9 : rngA x (unB k x t v) = .tup [.list 0 [], .int .i64 (checkN x (unB k x t v))] := by simp [rngA, h9]
        simp (config := { maxSteps := 4000000 }) (disch := omega) only [step, stepv, ev, wl, wn, wp, aop, cV, cV1, ↓reduceIte, Nat.reduceEqDiff, Nat.reduceAdd, Int.cast_ofNat_Int, if_true, if_false, AV.one, repCells, fillA, partCells, Nat.reduceLT, Nat.reduceLeDiff, Nat.reduceMul, Nat.reduceSub, Int.reduceLT, Int.reduceLE, Int.reduceAdd, Int.reduceSub, Int.reduceMul, Int.reduceToNat, sliceCells, cellsAt, srcA, app, reduceCtorEq, Int.reduceEq, Int.reduceNeg, Int.reducePow, Nat.reducePow, Int.reduceTDiv, Int.reduceDiv, Nat.reduceDiv, Nat.reduceMod, Int.reduceMod, Int.reduceTMod, ne_eq, subA, beq_iff_eq, unA, minA, maxA, eqFs, eqA1, beq_self_eq_true, Nat.reduceBEq, h9, e9]
        simp [frzN, frzK, frzL, frzV, isDL, isD]
end Go.Am

namespace Go.Am
open Go.RowKit

def codG (g : Nat → Int) (c len k n : Nat) : List Int := (List.range len).map fun j => if j % c < k ∨ (j % c = k ∧ j / c < n) then g j else 0
theorem codG_len (g : Nat → Int) (c len k n : Nat) : (codG g c len k n).length = len := by simp [codG]
theorem codG_00 (g : Nat → Int) (c len : Nat) : codG g c len 0 0 = List.replicate len 0 := by
  apply List.ext_getElem (by simp [codG])
  intro i h1 h2
  simp [codG]
theorem codG_step {c k n len : Nat} (hk : k < c) (h : k + n * c < len) (g : Nat → Int) : (codG g c len k n).set (k + n * c) (g (k + n * c)) = codG g c len k (n + 1) := getD_ext (by simp [codG_len]) fun j hj => by
  have hj' : j < len := by simpa [codG_len] using hj
  rw [set_getD (by rw [codG_len]; exact hj'), codG, codG, map_getD hj', map_getD hj']
  have ha := at_mod n hk
  by_cases e : k + n * c = j
  · subst e
    rw [if_pos rfl, ha.1, ha.2, if_pos (by omega)]
  · rw [if_neg e]
    have hd := Nat.div_add_mod j c
    by_cases q : j % c < k ∨ (j % c = k ∧ j / c < n)
    · rw [if_pos q, if_pos (by omega)]
    · rw [if_neg q, if_neg]
      rintro (h1 | ⟨h1, h2⟩)
      · omega
      · have : j / c = n := by omega
        rw [this, h1, Nat.mul_comm] at hd
        omega
theorem codG_next {c k q len : Nat} (h : len = c * q) (g : Nat → Int) : codG g c len k q = codG g c len (k + 1) 0 := by
  simp only [codG]
  apply List.map_congr_left
  intro j hj
  have hj' : j < c * q := by rw [← h]; simpa using hj
  have hd : j / c < q := Nat.div_lt_of_lt_mul hj'
  generalize j / c = d at hd
  generalize g j = v
  by_cases e : j % c < k + 1
  · rw [if_pos (by omega), if_pos (.inl e)]
  · rw [if_neg (by omega), if_neg (by omega)]
theorem codG_all {c len : Nat} (hc : 1 ≤ c) (g : Nat → Int) : codG g c len c 0 = (List.range len).map g := by
  simp only [codG]
  apply List.map_congr_left
  intro j hj
  rw [if_pos (.inl (Nat.mod_lt _ (by omega)))]
theorem bacV_at {c k : Nat} (n : Nat) (hk : k < c) (m : List Int) (z : Chan) : bacV c m z (k + n * c) = cbckX (stB c m z k n) (m.getD (k + n * c) 0) := by
  rw [bacV, (at_mod n hk).1, (at_mod n hk).2]

def S_RUndone (P : Program) (f : Nat) : Prop := ∀ (c : Nat) (x : Int) (t v : List Int), t.length = 16 → I32 t → okV c v → half x ≠ 0 → VC P f [shA c x, .agg (ks .i32 t), u32L v] (il (unB c x t v))

set_option maxRecDepth 20000 in
theorem ref21_Undone {P : Program} {f fN fO fS fU t0 t1 t2 t3 : Nat} (b : Body P f 64 [.tmp 6] (ac_cadenzaref21_Undone fN fO fS fU t0 t1 t2 t3)) (hN : S_CNew P fN) (hO : S_UBack P fO) (hS : S_RStepped19 P fS) (hU : S_MixUndo P fU) : S_RUndone P f := by
  intro c x t v hl hI hok hx
  have hk : (ks .i32 t).length = 16 := by simp [ks_length, hl]
  have ot := ks_one .i32 t
  have tt : (ks .i32 t).take 16 = ks .i32 t := take_all (by omega)
  refine VC.of_walk 1 (by simp [isDL, isD, isD_u32L, isDL_ks, shA]) (by simp [isD_il]) (ACall.of_cut 3 b (by simp) ?_)
  have hz := ok_newC hx hl hI
  obtain ⟨h1, h2, h3, h4, h5, h6⟩ := id hok
  obtain ⟨q, hq⟩ : ∃ q, v.length = c * q := ⟨v.length / c, by have := Nat.div_add_mod v.length c; omega⟩
  have hq2 : q ≤ 4000 := Nat.le_trans (Nat.le_mul_of_pos_left q (by omega)) (hq ▸ h4)
  have tv : isTL (ks .u32 v) = true := isTL_ks _ _
  unfold ac_cadenzaref21_Undone
  rw [← zeroC_eq]
  have e0 : repCells [.int .i32 0] v.length = ks .i32 (codG (bacV c (v.map backN) (newC x t)) c v.length 0 0) := by rw [codG_00, rep_ks]
  simp (config := { maxSteps := 4000000 }) (disch := omega) only [step, stepv, ev, wl, wn, wp, aop, cV, cV1, ↓reduceIte, Nat.reduceEqDiff, Nat.reduceAdd, Int.cast_ofNat_Int, if_true, if_false, AV.one, repCells, fillA, partCells, Nat.reduceLT, Nat.reduceLeDiff, Nat.reduceMul, Nat.reduceSub, Int.reduceLT, Int.reduceLE, Int.reduceAdd, Int.reduceSub, Int.reduceMul, Int.reduceToNat, sliceCells, cellsAt, srcA, app, reduceCtorEq, Int.reduceEq, Int.reduceNeg, Int.reducePow, Nat.reducePow, Int.reduceTDiv, Int.reduceDiv, Nat.reduceDiv, Nat.reduceMod, Int.reduceMod, Int.reduceTMod, ne_eq, subA, beq_iff_eq, unA, minA, maxA, eqFs, eqA1, beq_self_eq_true, Nat.reduceBEq, cuts, shA, hk, ot, tt, u32L, e0]
  refine ALoop.by (ι := Nat) (fun k => ⟨[(8, .int .i64 k), (7, .own 2 v.length), (4, .ref 1 1 0), (3, .ref 0 1 0), (2, u32L v)], [⟨t0, 2, 1, [.int .i64 c, .int .i64 x], 0⟩, ⟨t1, 16, 1, ks .i32 t, 0⟩, ⟨t2, 1, v.length, ks .i32 (codG (bacV c (v.map backN) (newC x t)) c v.length k 0), 0⟩]⟩) (fun k => k ≤ c) (fun k => c - k) 0 (Le.slots (by simp [Am.look, u32L])) (by omega) ?_
  intro k hkc
  by_cases hlt : k < c
  · simp (config := { maxSteps := 4000000 }) (disch := omega) only [step, stepv, ev, wl, wn, wp, aop, cV, cV1, ↓reduceIte, Nat.reduceEqDiff, Nat.reduceAdd, Int.cast_ofNat_Int, if_true, if_false, AV.one, repCells, fillA, partCells, Nat.reduceLT, Nat.reduceLeDiff, Nat.reduceMul, Nat.reduceSub, Int.reduceLT, Int.reduceLE, Int.reduceAdd, Int.reduceSub, Int.reduceMul, Int.reduceToNat, sliceCells, cellsAt, srcA, app, reduceCtorEq, Int.reduceEq, Int.reduceNeg, Int.reducePow, Nat.reducePow, Int.reduceTDiv, Int.reduceDiv, Nat.reduceDiv, Nat.reduceMod, Int.reduceMod, Int.reduceTMod, ne_eq, subA, beq_iff_eq, unA, minA, maxA, eqFs, eqA1, beq_self_eq_true, Nat.reduceBEq, hk, tt]
    refine callQ.vc (hN x t hl hI) ?_
    have lz := chan_len ok_zeroC
    have oz := chan_one zeroC
    have dz : (chanL zeroC).drop 35 = [] := List.drop_eq_nil_of_le (by omega)
    have ln := chan_len hz.2.2.1
    have on := chan_one (newC x t)
    simp (config := { maxSteps := 4000000 }) (disch := omega) only [step, stepv, ev, wl, wn, wp, aop, cV, cV1, ↓reduceIte, Nat.reduceEqDiff, Nat.reduceAdd, Int.cast_ofNat_Int, if_true, if_false, AV.one, repCells, fillA, partCells, Nat.reduceLT, Nat.reduceLeDiff, Nat.reduceMul, Nat.reduceSub, Int.reduceLT, Int.reduceLE, Int.reduceAdd, Int.reduceSub, Int.reduceMul, Int.reduceToNat, sliceCells, cellsAt, srcA, app, reduceCtorEq, Int.reduceEq, Int.reduceNeg, Int.reducePow, Nat.reducePow, Int.reduceTDiv, Int.reduceDiv, Nat.reduceDiv, Nat.reduceMod, Int.reduceMod, Int.reduceTMod, ne_eq, subA, beq_iff_eq, unA, minA, maxA, eqFs, eqA1, beq_self_eq_true, Nat.reduceBEq, cnewA, if_neg hx, lz, oz, dz, ln, on, List.append_nil, List.take_zero, List.nil_append]
    refine ALoop.by (ι := Nat) (fun n => ⟨[(11, .int .i64 (k + n * c : Nat)), (9, .ref 3 1 0), (8, .int .i64 k), (7, .own 2 v.length), (4, .ref 1 1 0), (3, .ref 0 1 0), (2, u32L v)], [⟨t0, 2, 1, [.int .i64 c, .int .i64 x], 0⟩, ⟨t1, 16, 1, ks .i32 t, 0⟩, ⟨t2, 1, v.length, ks .i32 (codG (bacV c (v.map backN) (newC x t)) c v.length k n), 0⟩, ⟨t3, 35, 1, chanL (stB c (v.map backN) (newC x t) k n), 0⟩]⟩) (fun n => n ≤ q) (fun n => q - n) 0 (by rw [Nat.zero_mul]; exact Le.slots (by simp [Am.look, u32L])) (by omega) ?_
    intro n hn
    have hst := ok_stB (c := c) (L := v.map backN) hz k n
    have lst := chan_len hst.2.2.1
    have ost := chan_one (stB c (v.map backN) (newC x t) k n)
    have tst : (chanL (stB c (v.map backN) (newC x t) k n)).take 35 = chanL (stB c (v.map backN) (newC x t) k n) := take_all (by omega)
    have dst : (chanL (stB c (v.map backN) (newC x t) k n)).drop 35 = [] := List.drop_eq_nil_of_le (by omega)
    have lcod := codG_len (bacV c (v.map backN) (newC x t)) c v.length k n
    by_cases hnq : n < q
    · have hin : k + n * c < v.length := by rw [hq]; exact (own_lt hlt).2 hnq
      have e1 := ks_at (K := .u32) (l := v) (i := k + n * c) hin
      have eb := backs_getD hin
      have hO' := hO (v.getD (k + n * c) 0) (U32_getD h6 _)
      rw [← eb] at hO'
      have hr : -2147483648 ≤ (v.map backN).getD (k + n * c) 0 ∧ (v.map backN).getD (k + n * c) 0 ≤ 2147483647 := by
        rw [eb]
        have := U32_getD h6 (k + n * c)
        unfold backN; split <;> omega
      have hS' := hS _ ((v.map backN).getD (k + n * c) 0) hst hr
      rw [← bacV_at n hlt] at hS'
      have hst2 := ok_stB (c := c) (L := v.map backN) hz k (n + 1)
      have eC : cbckC (stB c (v.map backN) (newC x t) k n) ((v.map backN).getD (k + n * c) 0) = stB c (v.map backN) (newC x t) k (n + 1) := rfl
      rw [eC] at hS'
      have lst2 := chan_len hst2.2.2.1
      have ost2 := chan_one (stB c (v.map backN) (newC x t) k (n + 1))
      have tst2 : (chanL (stB c (v.map backN) (newC x t) k (n + 1))).take 35 = chanL (stB c (v.map backN) (newC x t) k (n + 1)) := take_all (by omega)
      have e2 := ks_set (K := .i32) (l := codG (bacV c (v.map backN) (newC x t)) c v.length k n) (i := k + n * c) (by omega) (bacV c (v.map backN) (newC x t) (k + n * c))
      rw [codG_step hlt hin] at e2
      have hc2 : c ≤ 4000 := by omega
      simp (config := { maxSteps := 4000000 }) (disch := omega) only [step, stepv, ev, wl, wn, wp, aop, cV, cV1, ↓reduceIte, Nat.reduceEqDiff, Nat.reduceAdd, Int.cast_ofNat_Int, if_true, if_false, AV.one, repCells, fillA, partCells, Nat.reduceLT, Nat.reduceLeDiff, Nat.reduceMul, Nat.reduceSub, Int.reduceLT, Int.reduceLE, Int.reduceAdd, Int.reduceSub, Int.reduceMul, Int.reduceToNat, sliceCells, cellsAt, srcA, app, reduceCtorEq, Int.reduceEq, Int.reduceNeg, Int.reducePow, Nat.reducePow, Int.reduceTDiv, Int.reduceDiv, Nat.reduceDiv, Nat.reduceMod, Int.reduceMod, Int.reduceTMod, ne_eq, subA, beq_iff_eq, unA, minA, maxA, eqFs, eqA1, beq_self_eq_true, Nat.reduceBEq, u32L, tst, e1]
      refine callD.vc hO' ?_
      simp (config := { maxSteps := 4000000 }) (disch := omega) only [step, stepv, ev, wl, wn, wp, aop, cV, cV1, ↓reduceIte, Nat.reduceEqDiff, Nat.reduceAdd, Int.cast_ofNat_Int, if_true, if_false, AV.one, repCells, fillA, partCells, Nat.reduceLT, Nat.reduceLeDiff, Nat.reduceMul, Nat.reduceSub, Int.reduceLT, Int.reduceLE, Int.reduceAdd, Int.reduceSub, Int.reduceMul, Int.reduceToNat, sliceCells, cellsAt, srcA, app, reduceCtorEq, Int.reduceEq, Int.reduceNeg, Int.reducePow, Nat.reducePow, Int.reduceTDiv, Int.reduceDiv, Nat.reduceDiv, Nat.reduceMod, Int.reduceMod, Int.reduceTMod, ne_eq, subA, beq_iff_eq, unA, minA, maxA, eqFs, eqA1, beq_self_eq_true, Nat.reduceBEq]
      refine callD.vc hS' ?_
      simp (config := { maxSteps := 4000000 }) (disch := omega) only [step, stepv, ev, wl, wn, wp, aop, cV, cV1, ↓reduceIte, Nat.reduceEqDiff, Nat.reduceAdd, Int.cast_ofNat_Int, if_true, if_false, AV.one, repCells, fillA, partCells, Nat.reduceLT, Nat.reduceLeDiff, Nat.reduceMul, Nat.reduceSub, Int.reduceLT, Int.reduceLE, Int.reduceAdd, Int.reduceSub, Int.reduceMul, Int.reduceToNat, sliceCells, cellsAt, srcA, app, reduceCtorEq, Int.reduceEq, Int.reduceNeg, Int.reducePow, Nat.reducePow, Int.reduceTDiv, Int.reduceDiv, Nat.reduceDiv, Nat.reduceMod, Int.reduceMod, Int.reduceTMod, ne_eq, subA, beq_iff_eq, unA, minA, maxA, eqFs, eqA1, beq_self_eq_true, Nat.reduceBEq, lz, oz, dz, lst2, ost2, tst2, List.append_nil, List.take_zero, List.nil_append, lst, dst, e2]
      exact ⟨n + 1, by omega, by omega, Le.dropT [_, _, _, _] (by simp [isTL_chan, isTL_ks, isTL, isT]) (by simp [Am.look, frzK, frzL, frzV, frzL_T _ tv, Nat.add_mul, Int.add_mul, Int.add_assoc])⟩
    · have : n = q := by omega
      subst this
      have hin : v.length ≤ k + n * c := by rw [hq]; exact Nat.le_of_not_lt fun h => hnq ((own_lt hlt).1 h)
      rw [codG_next hq]
      simp (config := { maxSteps := 4000000 }) (disch := omega) only [step, stepv, ev, wl, wn, wp, aop, cV, cV1, ↓reduceIte, Nat.reduceEqDiff, Nat.reduceAdd, Int.cast_ofNat_Int, if_true, if_false, AV.one, repCells, fillA, partCells, Nat.reduceLT, Nat.reduceLeDiff, Nat.reduceMul, Nat.reduceSub, Int.reduceLT, Int.reduceLE, Int.reduceAdd, Int.reduceSub, Int.reduceMul, Int.reduceToNat, sliceCells, cellsAt, srcA, app, reduceCtorEq, Int.reduceEq, Int.reduceNeg, Int.reducePow, Nat.reducePow, Int.reduceTDiv, Int.reduceDiv, Nat.reduceDiv, Nat.reduceMod, Int.reduceMod, Int.reduceTMod, ne_eq, subA, beq_iff_eq, unA, minA, maxA, eqFs, eqA1, beq_self_eq_true, Nat.reduceBEq, u32L]
      exact ⟨k + 1, by omega, by omega, Le.dropT [_, _, _] (by simp [isTL_ks, isTL, isT]) (by simp [Am.look, frzK, frzL, frzV, frzL_T _ tv])⟩
  · have : k = c := by omega
    subst this
    have e9 : codG (bacV k (v.map backN) (newC x t)) k v.length k 0 = bacT k (v.map backN) (newC x t) v.length := codG_all h1 _
    rw [e9]
    have lo := bacT_len k (v.map backN) (newC x t) v.length
    have to : isTL (ks .i32 (bacT k (v.map backN) (newC x t) v.length)) = true := isTL_ks _ _
    simp (config := { maxSteps := 4000000 }) (disch := omega) only [step, stepv, ev, wl, wn, wp, aop, cV, cV1, ↓reduceIte, Nat.reduceEqDiff, Nat.reduceAdd, Int.cast_ofNat_Int, if_true, if_false, AV.one, repCells, fillA, partCells, Nat.reduceLT, Nat.reduceLeDiff, Nat.reduceMul, Nat.reduceSub, Int.reduceLT, Int.reduceLE, Int.reduceAdd, Int.reduceSub, Int.reduceMul, Int.reduceToNat, sliceCells, cellsAt, srcA, app, reduceCtorEq, Int.reduceEq, Int.reduceNeg, Int.reducePow, Nat.reducePow, Int.reduceTDiv, Int.reduceDiv, Nat.reduceDiv, Nat.reduceMod, Int.reduceMod, Int.reduceTMod, ne_eq, subA, beq_iff_eq, unA, minA, maxA, eqFs, eqA1, beq_self_eq_true, Nat.reduceBEq, cuts]
    refine ⟨⟨[(7, il (bacT k (v.map backN) (newC x t) v.length)), (3, .ref 0 1 0)], [⟨t0, 2, 1, [.int .i64 k, .int .i64 x], 0⟩]⟩, Le.dropT [_] (by simp [isTL, isT]) (by simp [Am.look, frzK, frzL, frzV, il, lo, frzL_T _ to]), ?_⟩
    simp (config := { maxSteps := 4000000 }) (disch := omega) only [step, stepv, ev, wl, wn, wp, aop, cV, cV1, ↓reduceIte, Nat.reduceEqDiff, Nat.reduceAdd, Int.cast_ofNat_Int, if_true, if_false, AV.one, repCells, fillA, partCells, Nat.reduceLT, Nat.reduceLeDiff, Nat.reduceMul, Nat.reduceSub, Int.reduceLT, Int.reduceLE, Int.reduceAdd, Int.reduceSub, Int.reduceMul, Int.reduceToNat, sliceCells, cellsAt, srcA, app, reduceCtorEq, Int.reduceEq, Int.reduceNeg, Int.reducePow, Nat.reducePow, Int.reduceTDiv, Int.reduceDiv, Nat.reduceDiv, Nat.reduceMod, Int.reduceMod, Int.reduceTMod, ne_eq, subA, beq_iff_eq, unA, minA, maxA, eqFs, eqA1, beq_self_eq_true, Nat.reduceBEq]
    refine callQ.vc (hU k _ (okV_M hok x t)) ?_
    simp (config := { maxSteps := 4000000 }) (disch := omega) only [step, stepv, ev, wl, wn, wp, aop, cV, cV1, ↓reduceIte, Nat.reduceEqDiff, Nat.reduceAdd, Int.cast_ofNat_Int, if_true, if_false, AV.one, repCells, fillA, partCells, Nat.reduceLT, Nat.reduceLeDiff, Nat.reduceMul, Nat.reduceSub, Int.reduceLT, Int.reduceLE, Int.reduceAdd, Int.reduceSub, Int.reduceMul, Int.reduceToNat, sliceCells, cellsAt, srcA, app, reduceCtorEq, Int.reduceEq, Int.reduceNeg, Int.reducePow, Nat.reducePow, Int.reduceTDiv, Int.reduceDiv, Nat.reduceDiv, Nat.reduceMod, Int.reduceMod, Int.reduceTMod, ne_eq, subA, beq_iff_eq, unA, minA, maxA, eqFs, eqA1, beq_self_eq_true, Nat.reduceBEq]
    have lu := unB_len k x t v
    simp only [unB] at *
    simp [frzN, frzK, frzL, frzV, isDL, isD, il, frzL_T _ (isTL_ks .i32 _)]

def S_Ranged (P : Program) (f : Nat) : Prop := ∀ (c x : Int) (l : List Int), I32 l → VC P f [shA c x, il l] (rngA x l)
theorem ref21_ranged {P : Program} {f fW t0 : Nat} (b : Body P f 15 [.tmp 4, .tmp 5] (ac_cadenzaref21_ranged fW t0)) (hW : S_WCheck P fW) : S_Ranged P f := by
  intro c x l hI
  refine VC.of_walk 1 (by simp [isDL, isD, isD_il, shA]) (isD_rng _ _) (ACall.of_body b (by simp) ?_)
  simp (config := { maxSteps := 4000000 }) (disch := omega) only [step, stepv, ev, wl, wn, wp, aop, cV, cV1, ↓reduceIte, Nat.reduceEqDiff, Nat.reduceAdd, Int.cast_ofNat_Int, if_true, if_false, AV.one, repCells, fillA, partCells, Nat.reduceLT, Nat.reduceLeDiff, Nat.reduceMul, Nat.reduceSub, Int.reduceLT, Int.reduceLE, Int.reduceAdd, Int.reduceSub, Int.reduceMul, Int.reduceToNat, sliceCells, cellsAt, srcA, app, reduceCtorEq, Int.reduceEq, Int.reduceNeg, Int.reducePow, Nat.reducePow, Int.reduceTDiv, Int.reduceDiv, Nat.reduceDiv, Nat.reduceMod, Int.reduceMod, Int.reduceTMod, ne_eq, subA, beq_iff_eq, unA, minA, maxA, eqFs, eqA1, beq_self_eq_true, Nat.reduceBEq, ac_cadenzaref21_ranged, shA]
  refine callQ.vc (hW x l hI) ?_
  by_cases h9 : checkN x l = 0
  · have e9 : rngA x l = .tup [il l, .int .i64 0] := by simp [rngA, h9]
    simp (config := { maxSteps := 4000000 }) (disch := omega) only [step, stepv, ev, wl, wn, wp, aop, cV, cV1, ↓reduceIte, Nat.reduceEqDiff, Nat.reduceAdd, Int.cast_ofNat_Int, if_true, if_false, AV.one, repCells, fillA, partCells, Nat.reduceLT, Nat.reduceLeDiff, Nat.reduceMul, Nat.reduceSub, Int.reduceLT, Int.reduceLE, Int.reduceAdd, Int.reduceSub, Int.reduceMul, Int.reduceToNat, sliceCells, cellsAt, srcA, app, reduceCtorEq, Int.reduceEq, Int.reduceNeg, Int.reducePow, Nat.reducePow, Int.reduceTDiv, Int.reduceDiv, Nat.reduceDiv, Nat.reduceMod, Int.reduceMod, Int.reduceTMod, ne_eq, subA, beq_iff_eq, unA, minA, maxA, eqFs, eqA1, beq_self_eq_true, Nat.reduceBEq, h9, e9]
    simp [frzN, frzK, frzL, frzV, isDL, isD, il, frzL_T _ (isTL_ks .i32 _)]
  · have e9 : rngA x l = .tup [.list 0 [], .int .i64 (checkN x l)] := by simp [rngA, h9]
    simp (config := { maxSteps := 4000000 }) (disch := omega) only [step, stepv, ev, wl, wn, wp, aop, cV, cV1, ↓reduceIte, Nat.reduceEqDiff, Nat.reduceAdd, Int.cast_ofNat_Int, if_true, if_false, AV.one, repCells, fillA, partCells, Nat.reduceLT, Nat.reduceLeDiff, Nat.reduceMul, Nat.reduceSub, Int.reduceLT, Int.reduceLE, Int.reduceAdd, Int.reduceSub, Int.reduceMul, Int.reduceToNat, sliceCells, cellsAt, srcA, app, reduceCtorEq, Int.reduceEq, Int.reduceNeg, Int.reducePow, Nat.reducePow, Int.reduceTDiv, Int.reduceDiv, Nat.reduceDiv, Nat.reduceMod, Int.reduceMod, Int.reduceTMod, ne_eq, subA, beq_iff_eq, unA, minA, maxA, eqFs, eqA1, beq_self_eq_true, Nat.reduceBEq, h9, e9]
    simp [frzN, frzK, frzL, frzV, isDL, isD]
end Go.Am

namespace Go.Am
open Go.RowKit

def erA (e : Int) : AV := .tup [.list 0 [], .int .i64 e]
def dfA (c x : Int) (t v : List Int) : AV :=
  if eCheck c x ≠ 0 then erA 2 else if 4000 < v.length then erA 4 else if v.length = 0 ∨ (v.length : Int) % c ≠ 0 then erA 2 else rngA x (unB c.toNat x t v)
theorem isD_df (c x : Int) (t v : List Int) : isD (dfA c x t v) = true := by
  unfold dfA
  split
  · rfl
  split
  · rfl
  split
  · rfl
  · exact isD_rng _ _
def S_DSamples (P : Program) (f : Nat) : Prop := ∀ (c x : Int) (t v : List Int), t.length = 16 → I32 t → U32 v → VC P f [shA c x, .agg (ks .i32 t), u32L v] (dfA c x t v)
theorem df_err {c x : Int} {t v : List Int} (h : eCheck c x = 2) : dfA c x t v = erA 2 := by simp [dfA, h]
theorem df_big {c x : Int} {t v : List Int} (h : eCheck c x = 0) (h2 : 4000 < v.length) : dfA c x t v = erA 4 := by simp [dfA, h, h2]
theorem df_odd {c x : Int} {t v : List Int} (h : eCheck c x = 0) (h2 : ¬ 4000 < v.length) (h3 : v.length = 0 ∨ (v.length : Int) % c ≠ 0) : dfA c x t v = erA 2 := by
  rw [dfA, if_neg (by simp [h]), if_neg h2, if_pos h3]
theorem df_ok {k : Nat} {x : Int} {t v : List Int} (h : eCheck k x = 0) (h2 : ¬ 4000 < v.length) (h3 : ¬ (v.length = 0 ∨ (v.length : Int) % k ≠ 0)) : dfA k x t v = rngA x (unB k x t v) := by
  rw [dfA, if_neg (by simp [h]), if_neg h2, if_neg h3]; rfl

theorem deframe_Samples {P : Program} {f fE fS t0 t1 : Nat} (b : Body P f 34 [.tmp 6, .tmp 7] (ac_deframe_Samples fE fS t0 t1)) (hE : S_ECheck P fE) (hS : S_DSam P fS) : S_DSamples P f := by
  intro c x t v hl hI hV
  have hk : (ks .i32 t).length = 16 := by simp [ks_length, hl]
  have ot := ks_one .i32 t
  have tt : (ks .i32 t).take 16 = ks .i32 t := take_all (by omega)
  refine VC.of_walk 1 (by simp [isDL, isD, isD_u32L, isDL_ks, shA]) (isD_df _ _ _ _) (ACall.of_body b (by simp) ?_)
  have hE' := hE c x
  rw [shA] at hE'
  simp (config := { maxSteps := 4000000 }) (disch := omega) only [step, stepv, ev, wl, wn, wp, aop, cV, cV1, ↓reduceIte, Nat.reduceEqDiff, Nat.reduceAdd, Int.cast_ofNat_Int, if_true, if_false, AV.one, repCells, fillA, partCells, Nat.reduceLT, Nat.reduceLeDiff, Nat.reduceMul, Nat.reduceSub, Int.reduceLT, Int.reduceLE, Int.reduceAdd, Int.reduceSub, Int.reduceMul, Int.reduceToNat, sliceCells, cellsAt, srcA, app, reduceCtorEq, Int.reduceEq, Int.reduceNeg, Int.reducePow, Nat.reducePow, Int.reduceTDiv, Int.reduceDiv, Nat.reduceDiv, Nat.reduceMod, Int.reduceMod, Int.reduceTMod, ne_eq, subA, beq_iff_eq, unA, minA, maxA, eqFs, eqA1, beq_self_eq_true, Nat.reduceBEq, ac_deframe_Samples, shA, hk, ot, tt]
  refine callQ.vc hE' ?_
  rcases eCheck_cases c x with h1 | ⟨h1, h2, h3, h4⟩
  · simp (config := { maxSteps := 4000000 }) (disch := omega) only [step, stepv, ev, wl, wn, wp, aop, cV, cV1, ↓reduceIte, Nat.reduceEqDiff, Nat.reduceAdd, Int.cast_ofNat_Int, if_true, if_false, AV.one, repCells, fillA, partCells, Nat.reduceLT, Nat.reduceLeDiff, Nat.reduceMul, Nat.reduceSub, Int.reduceLT, Int.reduceLE, Int.reduceAdd, Int.reduceSub, Int.reduceMul, Int.reduceToNat, sliceCells, cellsAt, srcA, app, reduceCtorEq, Int.reduceEq, Int.reduceNeg, Int.reducePow, Nat.reducePow, Int.reduceTDiv, Int.reduceDiv, Nat.reduceDiv, Nat.reduceMod, Int.reduceMod, Int.reduceTMod, ne_eq, subA, beq_iff_eq, unA, minA, maxA, eqFs, eqA1, beq_self_eq_true, Nat.reduceBEq, h1, df_err h1]
    simp [frzN, frzK, frzL, frzV, isDL, isD, erA]
  by_cases h5 : 4000 < v.length
  · simp (config := { maxSteps := 4000000 }) (disch := omega) only [step, stepv, ev, wl, wn, wp, aop, cV, cV1, ↓reduceIte, Nat.reduceEqDiff, Nat.reduceAdd, Int.cast_ofNat_Int, if_true, if_false, AV.one, repCells, fillA, partCells, Nat.reduceLT, Nat.reduceLeDiff, Nat.reduceMul, Nat.reduceSub, Int.reduceLT, Int.reduceLE, Int.reduceAdd, Int.reduceSub, Int.reduceMul, Int.reduceToNat, sliceCells, cellsAt, srcA, app, reduceCtorEq, Int.reduceEq, Int.reduceNeg, Int.reducePow, Nat.reducePow, Int.reduceTDiv, Int.reduceDiv, Nat.reduceDiv, Nat.reduceMod, Int.reduceMod, Int.reduceTMod, ne_eq, subA, beq_iff_eq, unA, minA, maxA, eqFs, eqA1, beq_self_eq_true, Nat.reduceBEq, h1, u32L, df_big h1 h5]
    simp [frzN, frzK, frzL, frzV, isDL, isD, erA]
  by_cases h6 : v.length = 0
  · simp (config := { maxSteps := 4000000 }) (disch := omega) only [step, stepv, ev, wl, wn, wp, aop, cV, cV1, ↓reduceIte, Nat.reduceEqDiff, Nat.reduceAdd, Int.cast_ofNat_Int, if_true, if_false, AV.one, repCells, fillA, partCells, Nat.reduceLT, Nat.reduceLeDiff, Nat.reduceMul, Nat.reduceSub, Int.reduceLT, Int.reduceLE, Int.reduceAdd, Int.reduceSub, Int.reduceMul, Int.reduceToNat, sliceCells, cellsAt, srcA, app, reduceCtorEq, Int.reduceEq, Int.reduceNeg, Int.reducePow, Nat.reducePow, Int.reduceTDiv, Int.reduceDiv, Nat.reduceDiv, Nat.reduceMod, Int.reduceMod, Int.reduceTMod, ne_eq, subA, beq_iff_eq, unA, minA, maxA, eqFs, eqA1, beq_self_eq_true, Nat.reduceBEq, h1, u32L, h6, df_odd h1 h5 (.inl h6)]
    simp [frzN, frzK, frzL, frzV, isDL, isD, erA]
  obtain ⟨k, rfl⟩ : ∃ k : Nat, c = k := ⟨c.toNat, by omega⟩
  have hm := mod_small (n := v.length) (c := (k : Int)) (by omega)
  by_cases h7 : (v.length : Int) % k = 0
  · have hS' := hS k x t v hl hI ⟨by omega, by omega, by omega, by omega, by omega, hV⟩ h2
    rw [shA] at hS'
    simp (config := { maxSteps := 4000000 }) (disch := omega) only [step, stepv, ev, wl, wn, wp, aop, cV, cV1, ↓reduceIte, Nat.reduceEqDiff, Nat.reduceAdd, Int.cast_ofNat_Int, if_true, if_false, AV.one, repCells, fillA, partCells, Nat.reduceLT, Nat.reduceLeDiff, Nat.reduceMul, Nat.reduceSub, Int.reduceLT, Int.reduceLE, Int.reduceAdd, Int.reduceSub, Int.reduceMul, Int.reduceToNat, sliceCells, cellsAt, srcA, app, reduceCtorEq, Int.reduceEq, Int.reduceNeg, Int.reducePow, Nat.reducePow, Int.reduceTDiv, Int.reduceDiv, Nat.reduceDiv, Nat.reduceMod, Int.reduceMod, Int.reduceTMod, ne_eq, subA, beq_iff_eq, unA, minA, maxA, eqFs, eqA1, beq_self_eq_true, Nat.reduceBEq, h1, u32L, h6, h7, hk, tt]
    rw [u32L] at hS'
    refine callQ.vc hS' ?_
    rw [df_ok h1 h5 (by omega)]
    by_cases h9 : checkN x (unB k x t v) = 0
    · have e9 : rngA x (unB k x t v) = .tup [il (unB k x t v), .int .i64 0] := by simp [rngA, h9]
      simp (config := { maxSteps := 4000000 }) (disch := omega) only [step, stepv, ev, wl, wn, wp, aop, cV, cV1, ↓reduceIte, Nat.reduceEqDiff, Nat.reduceAdd, Int.cast_ofNat_Int, if_true, if_false, AV.one, repCells, fillA, partCells, Nat.reduceLT, Nat.reduceLeDiff, Nat.reduceMul, Nat.reduceSub, Int.reduceLT, Int.reduceLE, Int.reduceAdd, Int.reduceSub, Int.reduceMul, Int.reduceToNat, sliceCells, cellsAt, srcA, app, reduceCtorEq, Int.reduceEq, Int.reduceNeg, Int.reducePow, Nat.reducePow, Int.reduceTDiv, Int.reduceDiv, Nat.reduceDiv, Nat.reduceMod, Int.reduceMod, Int.reduceTMod, ne_eq, subA, beq_iff_eq, unA, minA, maxA, eqFs, eqA1, beq_self_eq_true, Nat.reduceBEq, e9]
      simp [frzN, frzK, frzL, frzV, isDL, isD, il, frzL_T _ (isTL_ks .i32 _)]
    · have e9 : rngA x (unB k x t v) = .tup [.list 0 [], .int .i64 (checkN x (unB k x t v))] := by simp [rngA, h9]
      simp (config := { maxSteps := 4000000 }) (disch := omega) only [step, stepv, ev, wl, wn, wp, aop, cV, cV1, ↓reduceIte, Nat.reduceEqDiff, Nat.reduceAdd, Int.cast_ofNat_Int, if_true, if_false, AV.one, repCells, fillA, partCells, Nat.reduceLT, Nat.reduceLeDiff, Nat.reduceMul, Nat.reduceSub, Int.reduceLT, Int.reduceLE, Int.reduceAdd, Int.reduceSub, Int.reduceMul, Int.reduceToNat, sliceCells, cellsAt, srcA, app, reduceCtorEq, Int.reduceEq, Int.reduceNeg, Int.reducePow, Nat.reducePow, Int.reduceTDiv, Int.reduceDiv, Nat.reduceDiv, Nat.reduceMod, Int.reduceMod, Int.reduceTMod, ne_eq, subA, beq_iff_eq, unA, minA, maxA, eqFs, eqA1, beq_self_eq_true, Nat.reduceBEq, e9]
      simp [frzN, frzK, frzL, frzV, isDL, isD]
  · simp (config := { maxSteps := 4000000 }) (disch := omega) only [step, stepv, ev, wl, wn, wp, aop, cV, cV1, ↓reduceIte, Nat.reduceEqDiff, Nat.reduceAdd, Int.cast_ofNat_Int, if_true, if_false, AV.one, repCells, fillA, partCells, Nat.reduceLT, Nat.reduceLeDiff, Nat.reduceMul, Nat.reduceSub, Int.reduceLT, Int.reduceLE, Int.reduceAdd, Int.reduceSub, Int.reduceMul, Int.reduceToNat, sliceCells, cellsAt, srcA, app, reduceCtorEq, Int.reduceEq, Int.reduceNeg, Int.reducePow, Nat.reducePow, Int.reduceTDiv, Int.reduceDiv, Nat.reduceDiv, Nat.reduceMod, Int.reduceMod, Int.reduceTMod, ne_eq, subA, beq_iff_eq, unA, minA, maxA, eqFs, eqA1, beq_self_eq_true, Nat.reduceBEq, h1, u32L, h6, h7, df_odd h1 h5 (.inr h7)]
    simp [frzN, frzK, frzL, frzV, isDL, isD, erA]

theorem ref21_Samples {P : Program} {f fE fU fR t0 t1 : Nat} (b : Body P f 33 [.tmp 6, .tmp 7] (ac_cadenzaref21_Samples fE fU fR t0 t1)) (hE : S_ECheck P fE) (hU : S_RUndone P fU) (hR : S_Ranged P fR) : S_DSamples P f := by
  intro c x t v hl hI hV
  have hk : (ks .i32 t).length = 16 := by simp [ks_length, hl]
  have ot := ks_one .i32 t
  have tt : (ks .i32 t).take 16 = ks .i32 t := take_all (by omega)
  refine VC.of_walk 1 (by simp [isDL, isD, isD_u32L, isDL_ks, shA]) (isD_df _ _ _ _) (ACall.of_body b (by simp) ?_)
  have hE' := hE c x
  rw [shA] at hE'
  simp (config := { maxSteps := 4000000 }) (disch := omega) only [step, stepv, ev, wl, wn, wp, aop, cV, cV1, ↓reduceIte, Nat.reduceEqDiff, Nat.reduceAdd, Int.cast_ofNat_Int, if_true, if_false, AV.one, repCells, fillA, partCells, Nat.reduceLT, Nat.reduceLeDiff, Nat.reduceMul, Nat.reduceSub, Int.reduceLT, Int.reduceLE, Int.reduceAdd, Int.reduceSub, Int.reduceMul, Int.reduceToNat, sliceCells, cellsAt, srcA, app, reduceCtorEq, Int.reduceEq, Int.reduceNeg, Int.reducePow, Nat.reducePow, Int.reduceTDiv, Int.reduceDiv, Nat.reduceDiv, Nat.reduceMod, Int.reduceMod, Int.reduceTMod, ne_eq, subA, beq_iff_eq, unA, minA, maxA, eqFs, eqA1, beq_self_eq_true, Nat.reduceBEq, ac_cadenzaref21_Samples, shA, hk, ot, tt]
  refine callQ.vc hE' ?_
  rcases eCheck_cases c x with h1 | ⟨h1, h2, h3, h4⟩
  · simp (config := { maxSteps := 4000000 }) (disch := omega) only [step, stepv, ev, wl, wn, wp, aop, cV, cV1, ↓reduceIte, Nat.reduceEqDiff, Nat.reduceAdd, Int.cast_ofNat_Int, if_true, if_false, AV.one, repCells, fillA, partCells, Nat.reduceLT, Nat.reduceLeDiff, Nat.reduceMul, Nat.reduceSub, Int.reduceLT, Int.reduceLE, Int.reduceAdd, Int.reduceSub, Int.reduceMul, Int.reduceToNat, sliceCells, cellsAt, srcA, app, reduceCtorEq, Int.reduceEq, Int.reduceNeg, Int.reducePow, Nat.reducePow, Int.reduceTDiv, Int.reduceDiv, Nat.reduceDiv, Nat.reduceMod, Int.reduceMod, Int.reduceTMod, ne_eq, subA, beq_iff_eq, unA, minA, maxA, eqFs, eqA1, beq_self_eq_true, Nat.reduceBEq, h1, df_err h1]
    simp [frzN, frzK, frzL, frzV, isDL, isD, erA]
  by_cases h5 : 4000 < v.length
  · simp (config := { maxSteps := 4000000 }) (disch := omega) only [step, stepv, ev, wl, wn, wp, aop, cV, cV1, ↓reduceIte, Nat.reduceEqDiff, Nat.reduceAdd, Int.cast_ofNat_Int, if_true, if_false, AV.one, repCells, fillA, partCells, Nat.reduceLT, Nat.reduceLeDiff, Nat.reduceMul, Nat.reduceSub, Int.reduceLT, Int.reduceLE, Int.reduceAdd, Int.reduceSub, Int.reduceMul, Int.reduceToNat, sliceCells, cellsAt, srcA, app, reduceCtorEq, Int.reduceEq, Int.reduceNeg, Int.reducePow, Nat.reducePow, Int.reduceTDiv, Int.reduceDiv, Nat.reduceDiv, Nat.reduceMod, Int.reduceMod, Int.reduceTMod, ne_eq, subA, beq_iff_eq, unA, minA, maxA, eqFs, eqA1, beq_self_eq_true, Nat.reduceBEq, h1, u32L, df_big h1 h5]
    simp [frzN, frzK, frzL, frzV, isDL, isD, erA]
  by_cases h6 : v.length = 0
  · simp (config := { maxSteps := 4000000 }) (disch := omega) only [step, stepv, ev, wl, wn, wp, aop, cV, cV1, ↓reduceIte, Nat.reduceEqDiff, Nat.reduceAdd, Int.cast_ofNat_Int, if_true, if_false, AV.one, repCells, fillA, partCells, Nat.reduceLT, Nat.reduceLeDiff, Nat.reduceMul, Nat.reduceSub, Int.reduceLT, Int.reduceLE, Int.reduceAdd, Int.reduceSub, Int.reduceMul, Int.reduceToNat, sliceCells, cellsAt, srcA, app, reduceCtorEq, Int.reduceEq, Int.reduceNeg, Int.reducePow, Nat.reducePow, Int.reduceTDiv, Int.reduceDiv, Nat.reduceDiv, Nat.reduceMod, Int.reduceMod, Int.reduceTMod, ne_eq, subA, beq_iff_eq, unA, minA, maxA, eqFs, eqA1, beq_self_eq_true, Nat.reduceBEq, h1, u32L, h6, df_odd h1 h5 (.inl h6)]
    simp [frzN, frzK, frzL, frzV, isDL, isD, erA]
  obtain ⟨k, rfl⟩ : ∃ k : Nat, c = k := ⟨c.toNat, by omega⟩
  have hm := mod_small (n := v.length) (c := (k : Int)) (by omega)
  by_cases h7 : (v.length : Int) % k = 0
  · have hU' := hU k x t v hl hI ⟨by omega, by omega, by omega, by omega, by omega, hV⟩ h2
    rw [shA] at hU'
    have hR' := hR k x (unB k x t v) (I32_undAll (I32_bacT _ _ _ _))
    rw [shA] at hR'
    simp (config := { maxSteps := 4000000 }) (disch := omega) only [step, stepv, ev, wl, wn, wp, aop, cV, cV1, ↓reduceIte, Nat.reduceEqDiff, Nat.reduceAdd, Int.cast_ofNat_Int, if_true, if_false, AV.one, repCells, fillA, partCells, Nat.reduceLT, Nat.reduceLeDiff, Nat.reduceMul, Nat.reduceSub, Int.reduceLT, Int.reduceLE, Int.reduceAdd, Int.reduceSub, Int.reduceMul, Int.reduceToNat, sliceCells, cellsAt, srcA, app, reduceCtorEq, Int.reduceEq, Int.reduceNeg, Int.reducePow, Nat.reducePow, Int.reduceTDiv, Int.reduceDiv, Nat.reduceDiv, Nat.reduceMod, Int.reduceMod, Int.reduceTMod, ne_eq, subA, beq_iff_eq, unA, minA, maxA, eqFs, eqA1, beq_self_eq_true, Nat.reduceBEq, h1, u32L, h6, h7, hk, tt]
    rw [u32L] at hU'
    refine callD.vc hU' ?_
    simp (config := { maxSteps := 4000000 }) (disch := omega) only [step, stepv, ev, wl, wn, wp, aop, cV, cV1, ↓reduceIte, Nat.reduceEqDiff, Nat.reduceAdd, Int.cast_ofNat_Int, if_true, if_false, AV.one, repCells, fillA, partCells, Nat.reduceLT, Nat.reduceLeDiff, Nat.reduceMul, Nat.reduceSub, Int.reduceLT, Int.reduceLE, Int.reduceAdd, Int.reduceSub, Int.reduceMul, Int.reduceToNat, sliceCells, cellsAt, srcA, app, reduceCtorEq, Int.reduceEq, Int.reduceNeg, Int.reducePow, Nat.reducePow, Int.reduceTDiv, Int.reduceDiv, Nat.reduceDiv, Nat.reduceMod, Int.reduceMod, Int.reduceTMod, ne_eq, subA, beq_iff_eq, unA, minA, maxA, eqFs, eqA1, beq_self_eq_true, Nat.reduceBEq]
    refine callD.vc hR' ?_
    rw [df_ok h1 h5 (by omega)]
    by_cases h9 : checkN x (unB k x t v) = 0
    · have e9 : rngA x (unB k x t v) = .tup [il (unB k x t v), .int .i64 0] := by simp [rngA, h9]
      simp (config := { maxSteps := 4000000 }) (disch := omega) only [step, stepv, ev, wl, wn, wp, aop, cV, cV1, ↓reduceIte, Nat.reduceEqDiff, Nat.reduceAdd, Int.cast_ofNat_Int, if_true, if_false, AV.one, repCells, fillA, partCells, Nat.reduceLT, Nat.reduceLeDiff, Nat.reduceMul, Nat.reduceSub, Int.reduceLT, Int.reduceLE, Int.reduceAdd, Int.reduceSub, Int.reduceMul, Int.reduceToNat, sliceCells, cellsAt, srcA, app, reduceCtorEq, Int.reduceEq, Int.reduceNeg, Int.reducePow, Nat.reducePow, Int.reduceTDiv, Int.reduceDiv, Nat.reduceDiv, Nat.reduceMod, Int.reduceMod, Int.reduceTMod, ne_eq, subA, beq_iff_eq, unA, minA, maxA, eqFs, eqA1, beq_self_eq_true, Nat.reduceBEq, e9]
      simp [frzN, frzK, frzL, frzV, isDL, isD, il, frzL_T _ (isTL_ks .i32 _)]
    · have e9 : rngA x (unB k x t v) = .tup [.list 0 [], .int .i64 (checkN x (unB k x t v))] := by simp [rngA, h9]
      simp (config := { maxSteps := 4000000 }) (disch := omega) only [step, stepv, ev, wl, wn, wp, aop, cV, cV1, ↓reduceIte, Nat.reduceEqDiff, Nat.reduceAdd, Int.cast_ofNat_Int, if_true, if_false, AV.one, repCells, fillA, partCells, Nat.reduceLT, Nat.reduceLeDiff, Nat.reduceMul, Nat.reduceSub, Int.reduceLT, Int.reduceLE, Int.reduceAdd, Int.reduceSub, Int.reduceMul, Int.reduceToNat, sliceCells, cellsAt, srcA, app, reduceCtorEq, Int.reduceEq, Int.reduceNeg, Int.reducePow, Nat.reducePow, Int.reduceTDiv, Int.reduceDiv, Nat.reduceDiv, Nat.reduceMod, Int.reduceMod, Int.reduceTMod, ne_eq, subA, beq_iff_eq, unA, minA, maxA, eqFs, eqA1, beq_self_eq_true, Nat.reduceBEq, e9]
      simp [frzN, frzK, frzL, frzV, isDL, isD]
  · have h8 : 0 < (v.length : Int) % k := by omega
    simp (config := { maxSteps := 4000000 }) (disch := omega) only [step, stepv, ev, wl, wn, wp, aop, cV, cV1, ↓reduceIte, Nat.reduceEqDiff, Nat.reduceAdd, Int.cast_ofNat_Int, if_true, if_false, AV.one, repCells, fillA, partCells, Nat.reduceLT, Nat.reduceLeDiff, Nat.reduceMul, Nat.reduceSub, Int.reduceLT, Int.reduceLE, Int.reduceAdd, Int.reduceSub, Int.reduceMul, Int.reduceToNat, sliceCells, cellsAt, srcA, app, reduceCtorEq, Int.reduceEq, Int.reduceNeg, Int.reducePow, Nat.reducePow, Int.reduceTDiv, Int.reduceDiv, Nat.reduceDiv, Nat.reduceMod, Int.reduceMod, Int.reduceTMod, ne_eq, subA, beq_iff_eq, unA, minA, maxA, eqFs, eqA1, beq_self_eq_true, Nat.reduceBEq, h1, u32L, h6, h7, df_odd h1 h5 (.inr h7)]
    simp [frzN, frzK, frzL, frzV, isDL, isD, erA]

/-- What is answered, in short: a list of samples and a word. -/
theorem df_form (c x : Int) (t v : List Int) : ∃ (l : List Int) (e : Int), dfA c x t v = .tup [il l, .int .i64 e] ∧ l.length ≤ 4000 := by
  rcases eCheck_cases c x with h1 | ⟨h1, h2, h3, h4⟩
  · exact ⟨[], 2, by rw [df_err h1]; simp [erA, il, ks], by simp⟩
  by_cases h5 : 4000 < v.length
  · exact ⟨[], 4, by rw [df_big h1 h5]; simp [erA, il, ks], by simp⟩
  by_cases h6 : v.length = 0 ∨ (v.length : Int) % c ≠ 0
  · exact ⟨[], 2, by rw [df_odd h1 h5 h6]; simp [erA, il, ks], by simp⟩
  obtain ⟨k, rfl⟩ : ∃ k : Nat, c = k := ⟨c.toNat, by omega⟩
  rw [df_ok h1 h5 h6]
  by_cases h9 : checkN x (unB k x t v) = 0
  · exact ⟨unB k x t v, 0, by simp [rngA, h9], by rw [unB_len]; omega⟩
  · exact ⟨[], checkN x (unB k x t v), by simp [rngA, h9, il, ks], by simp⟩

def S_LawDeframe (P : Program) (f : Nat) : Prop := ∀ (c x : Int) (t v : List Int), t.length = 16 → I32 t → U32 v → VC P f [shA c x, .agg (ks .i32 t), u32L v] (.bool true)

theorem law21_DeframeSamples {P : Program} {f fV fW fS fT t0 t1 t2 : Nat} (b : Body P f 55 [.tmp 6] (ac_cadenzalaw21_DeframeSamples fV fW fS fT t0 t1 t2)) (hV : S_DSamples P fV) (hW : S_DSamples P fW) (hS : S_ISame P fS) (hT : S_USame P fT) : S_LawDeframe P f := by
  intro c x t l hl hI hL
  have hk : (ks .i32 t).length = 16 := by simp [ks_length, hl]
  have ot := ks_one .i32 t
  have tt : (ks .i32 t).take 16 = ks .i32 t := take_all (by omega)
  refine VC.of_acall (by simp [isDL, isD, isD_u32L, isDL_ks, shA]) rfl (ACall.of_cut 3 b (by simp) ?_)
  by_cases hg : greatL l
  · by_cases g1 : 600 < l.length <;> by_cases g2 : l.length ≤ 4000 <;> by_cases g3 : 4100 < l.length <;> unfold greatL at hg <;> first | (exfalso; omega) | simp (config := { maxSteps := 4000000 }) (disch := omega) only [step, stepv, ev, wl, wn, wp, aop, cV, cV1, ↓reduceIte, Nat.reduceEqDiff, Nat.reduceAdd, Int.cast_ofNat_Int, if_true, if_false, AV.one, repCells, fillA, partCells, Nat.reduceLT, Nat.reduceLeDiff, Nat.reduceMul, Nat.reduceSub, Int.reduceLT, Int.reduceLE, Int.reduceAdd, Int.reduceSub, Int.reduceMul, Int.reduceToNat, sliceCells, cellsAt, srcA, app, reduceCtorEq, Int.reduceEq, Int.reduceNeg, Int.reducePow, Nat.reducePow, Int.reduceTDiv, Int.reduceDiv, Nat.reduceDiv, Nat.reduceMod, Int.reduceMod, Int.reduceTMod, ne_eq, subA, beq_iff_eq, unA, minA, maxA, eqFs, eqA1, beq_self_eq_true, Nat.reduceBEq, ac_cadenzalaw21_DeframeSamples, cuts, shA, u32L, hk, ot, tt]
  · have hg' : l.length ≤ 4100 := by unfold greatL at hg; omega
    have tl : isTL (ks .u32 l) = true := isTL_ks _ _
    have main : ∀ fr : List (Nat × AV), True := fun _ => trivial
    have hV' := hV c x t l hl hI hL
    have hW' := hW c x t l hl hI hL
    obtain ⟨m, e, e9, hm⟩ := df_form c x t l
    rw [shA] at hV' hW'
    rw [e9] at hV' hW'
    have hS' := hS m (by omega)
    have hT' := hT l (by omega)
    by_cases g1 : 600 < l.length <;> by_cases g2 : l.length ≤ 4000 <;> by_cases g3 : 4100 < l.length <;> unfold greatL at hg <;> first
      | (exfalso; omega)
      | (simp (config := { maxSteps := 4000000 }) (disch := omega) only [step, stepv, ev, wl, wn, wp, aop, cV, cV1, ↓reduceIte, Nat.reduceEqDiff, Nat.reduceAdd, Int.cast_ofNat_Int, if_true, if_false, AV.one, repCells, fillA, partCells, Nat.reduceLT, Nat.reduceLeDiff, Nat.reduceMul, Nat.reduceSub, Int.reduceLT, Int.reduceLE, Int.reduceAdd, Int.reduceSub, Int.reduceMul, Int.reduceToNat, sliceCells, cellsAt, srcA, app, reduceCtorEq, Int.reduceEq, Int.reduceNeg, Int.reducePow, Nat.reducePow, Int.reduceTDiv, Int.reduceDiv, Nat.reduceDiv, Nat.reduceMod, Int.reduceMod, Int.reduceTMod, ne_eq, subA, beq_iff_eq, unA, minA, maxA, eqFs, eqA1, beq_self_eq_true, Nat.reduceBEq, ac_cadenzalaw21_DeframeSamples, cuts, shA, u32L, hk, ot, tt, ks_nil, List.nil_append]
         refine ⟨⟨[(7, u32L l), (4, .ref 1 1 0), (3, .ref 0 1 0), (2, u32L l)], [⟨t0, 2, 1, [.int .i64 c, .int .i64 x], 0⟩, ⟨t1, 16, 1, ks .i32 t, 0⟩]⟩, Le.dropT [_, _] (by simp [isTL_ks, isTL, isT]) (by simp [Am.look, frzK, frzL, frzV, u32L, frzL_T _ tl]), ?_⟩
         simp (config := { maxSteps := 4000000 }) (disch := omega) only [step, stepv, ev, wl, wn, wp, aop, cV, cV1, ↓reduceIte, Nat.reduceEqDiff, Nat.reduceAdd, Int.cast_ofNat_Int, if_true, if_false, AV.one, repCells, fillA, partCells, Nat.reduceLT, Nat.reduceLeDiff, Nat.reduceMul, Nat.reduceSub, Int.reduceLT, Int.reduceLE, Int.reduceAdd, Int.reduceSub, Int.reduceMul, Int.reduceToNat, sliceCells, cellsAt, srcA, app, reduceCtorEq, Int.reduceEq, Int.reduceNeg, Int.reducePow, Nat.reducePow, Int.reduceTDiv, Int.reduceDiv, Nat.reduceDiv, Nat.reduceMod, Int.reduceMod, Int.reduceTMod, ne_eq, subA, beq_iff_eq, unA, minA, maxA, eqFs, eqA1, beq_self_eq_true, Nat.reduceBEq, hk, tt]
         refine callQ.vc hV' ?_
         simp (config := { maxSteps := 4000000 }) (disch := omega) only [step, stepv, ev, wl, wn, wp, aop, cV, cV1, ↓reduceIte, Nat.reduceEqDiff, Nat.reduceAdd, Int.cast_ofNat_Int, if_true, if_false, AV.one, repCells, fillA, partCells, Nat.reduceLT, Nat.reduceLeDiff, Nat.reduceMul, Nat.reduceSub, Int.reduceLT, Int.reduceLE, Int.reduceAdd, Int.reduceSub, Int.reduceMul, Int.reduceToNat, sliceCells, cellsAt, srcA, app, reduceCtorEq, Int.reduceEq, Int.reduceNeg, Int.reducePow, Nat.reducePow, Int.reduceTDiv, Int.reduceDiv, Nat.reduceDiv, Nat.reduceMod, Int.reduceMod, Int.reduceTMod, ne_eq, subA, beq_iff_eq, unA, minA, maxA, eqFs, eqA1, beq_self_eq_true, Nat.reduceBEq, hk, tt]
         refine callQ.vc hW' ?_
         simp (config := { maxSteps := 4000000 }) (disch := omega) only [step, stepv, ev, wl, wn, wp, aop, cV, cV1, ↓reduceIte, Nat.reduceEqDiff, Nat.reduceAdd, Int.cast_ofNat_Int, if_true, if_false, AV.one, repCells, fillA, partCells, Nat.reduceLT, Nat.reduceLeDiff, Nat.reduceMul, Nat.reduceSub, Int.reduceLT, Int.reduceLE, Int.reduceAdd, Int.reduceSub, Int.reduceMul, Int.reduceToNat, sliceCells, cellsAt, srcA, app, reduceCtorEq, Int.reduceEq, Int.reduceNeg, Int.reducePow, Nat.reducePow, Int.reduceTDiv, Int.reduceDiv, Nat.reduceDiv, Nat.reduceMod, Int.reduceMod, Int.reduceTMod, ne_eq, subA, beq_iff_eq, unA, minA, maxA, eqFs, eqA1, beq_self_eq_true, Nat.reduceBEq]
         refine callQ.vc hS' ?_
         simp (config := { maxSteps := 4000000 }) (disch := omega) only [step, stepv, ev, wl, wn, wp, aop, cV, cV1, ↓reduceIte, Nat.reduceEqDiff, Nat.reduceAdd, Int.cast_ofNat_Int, if_true, if_false, AV.one, repCells, fillA, partCells, Nat.reduceLT, Nat.reduceLeDiff, Nat.reduceMul, Nat.reduceSub, Int.reduceLT, Int.reduceLE, Int.reduceAdd, Int.reduceSub, Int.reduceMul, Int.reduceToNat, sliceCells, cellsAt, srcA, app, reduceCtorEq, Int.reduceEq, Int.reduceNeg, Int.reducePow, Nat.reducePow, Int.reduceTDiv, Int.reduceDiv, Nat.reduceDiv, Nat.reduceMod, Int.reduceMod, Int.reduceTMod, ne_eq, subA, beq_iff_eq, unA, minA, maxA, eqFs, eqA1, beq_self_eq_true, Nat.reduceBEq]
         refine callQ.vc hT' ?_
         simp (config := { maxSteps := 4000000 }) (disch := omega) only [step, stepv, ev, wl, wn, wp, aop, cV, cV1, ↓reduceIte, Nat.reduceEqDiff, Nat.reduceAdd, Int.cast_ofNat_Int, if_true, if_false, AV.one, repCells, fillA, partCells, Nat.reduceLT, Nat.reduceLeDiff, Nat.reduceMul, Nat.reduceSub, Int.reduceLT, Int.reduceLE, Int.reduceAdd, Int.reduceSub, Int.reduceMul, Int.reduceToNat, sliceCells, cellsAt, srcA, app, reduceCtorEq, Int.reduceEq, Int.reduceNeg, Int.reducePow, Nat.reducePow, Int.reduceTDiv, Int.reduceDiv, Nat.reduceDiv, Nat.reduceMod, Int.reduceMod, Int.reduceTMod, ne_eq, subA, beq_iff_eq, unA, minA, maxA, eqFs, eqA1, beq_self_eq_true, Nat.reduceBEq])
end Go.Am

namespace Go.Am
open Go.RowKit

theorem fits_u32s {L : List (List AV)} (h : ∀ c ∈ L, Fits (.int .u32) c) : ∃ l : List Int, L.length = l.length ∧ AV.list L.length L.flatten = u32L l ∧ U32 l := by
  obtain ⟨l, h1, h2, h3⟩ := fits_ints h
  exact ⟨l, h1, h2, fun x hx => by have := h3 x hx; simp [IntKind.min, IntKind.max, IntKind.signed, IntKind.bits] at this; omega⟩
end Go.Am
