/- What the functions that the law reaches return, for every program that has their code; the conditions stand in each statement. -/
import Derived.Test.YtjkgohbljmmmdaaDeframeSamplesD2
set_option linter.unusedSectionVars false
set_option linter.unusedSimpArgs false
set_option linter.unusedVariables false
namespace Go.Am
open Go.RowKit

/-- Half of the range of samples of so many bits; 0: there are none. -/
def half (b : Int) : Int := if b = 8 then 128 else if b = 16 then 32768 else if b = 24 then 8388608 else 0

theorem half_cases (b : Int) : (b = 8 ∧ half b = 128) ∨ (b = 16 ∧ half b = 32768) ∨ (b = 24 ∧ half b = 8388608) ∨ (b ≠ 8 ∧ b ≠ 16 ∧ b ≠ 24 ∧ half b = 0) := by
  unfold half; split <;> (try split) <;> (try split) <;> omega

def rangeA (b : Int) : AV := if half b = 0 then .tup [.int .i32 0, .int .i32 0, .int .i64 2] else .tup [.int .i32 (-half b), .int .i32 (half b - 1), .int .i64 0]

def S_Range (P : Program) (f : Nat) : Prop := ∀ b : Int, VC P f [.int .i64 b] (rangeA b)

theorem width_Range {P : Program} {f : Nat} (b : Body P f 18 [.tmp 2, .tmp 3, .tmp 4] ac_width_Range) : S_Range P f := by
  intro x
  refine VC.of_acall rfl (by unfold rangeA; split <;> rfl) (ACall.of_body b (by simp) ?_)
  rcases half_cases x with ⟨rfl, h⟩ | ⟨rfl, h⟩ | ⟨rfl, h⟩ | ⟨h1, h2, h3, h⟩
  · simp (config := { maxSteps := 4000000 }) (disch := omega) only [step, stepv, ev, wl, wn, wp, aop, cV, cV1, ↓reduceIte, Nat.reduceEqDiff, Nat.reduceAdd, Int.cast_ofNat_Int, if_true, if_false, AV.one, repCells, fillA, partCells, Nat.reduceLT, Nat.reduceLeDiff, Nat.reduceMul, Nat.reduceSub, Int.reduceLT, Int.reduceLE, Int.reduceAdd, Int.reduceSub, Int.reduceMul, Int.reduceToNat, sliceCells, cellsAt, srcA, app, reduceCtorEq, Int.reduceEq, Int.reduceNeg, Int.reducePow, Nat.reducePow, Int.reduceTDiv, Int.reduceDiv, Nat.reduceDiv, Nat.reduceMod, Int.reduceMod, Int.reduceTMod, ne_eq, subA, beq_iff_eq, unA, minA, maxA, eqFs, eqA1, beq_self_eq_true, Nat.reduceBEq, ac_width_Range, rangeA, h]
    rfl
  · simp (config := { maxSteps := 4000000 }) (disch := omega) only [step, stepv, ev, wl, wn, wp, aop, cV, cV1, ↓reduceIte, Nat.reduceEqDiff, Nat.reduceAdd, Int.cast_ofNat_Int, if_true, if_false, AV.one, repCells, fillA, partCells, Nat.reduceLT, Nat.reduceLeDiff, Nat.reduceMul, Nat.reduceSub, Int.reduceLT, Int.reduceLE, Int.reduceAdd, Int.reduceSub, Int.reduceMul, Int.reduceToNat, sliceCells, cellsAt, srcA, app, reduceCtorEq, Int.reduceEq, Int.reduceNeg, Int.reducePow, Nat.reducePow, Int.reduceTDiv, Int.reduceDiv, Nat.reduceDiv, Nat.reduceMod, Int.reduceMod, Int.reduceTMod, ne_eq, subA, beq_iff_eq, unA, minA, maxA, eqFs, eqA1, beq_self_eq_true, Nat.reduceBEq, ac_width_Range, rangeA, h]
    rfl
  · simp (config := { maxSteps := 4000000 }) (disch := omega) only [step, stepv, ev, wl, wn, wp, aop, cV, cV1, ↓reduceIte, Nat.reduceEqDiff, Nat.reduceAdd, Int.cast_ofNat_Int, if_true, if_false, AV.one, repCells, fillA, partCells, Nat.reduceLT, Nat.reduceLeDiff, Nat.reduceMul, Nat.reduceSub, Int.reduceLT, Int.reduceLE, Int.reduceAdd, Int.reduceSub, Int.reduceMul, Int.reduceToNat, sliceCells, cellsAt, srcA, app, reduceCtorEq, Int.reduceEq, Int.reduceNeg, Int.reducePow, Nat.reducePow, Int.reduceTDiv, Int.reduceDiv, Nat.reduceDiv, Nat.reduceMod, Int.reduceMod, Int.reduceTMod, ne_eq, subA, beq_iff_eq, unA, minA, maxA, eqFs, eqA1, beq_self_eq_true, Nat.reduceBEq, ac_width_Range, rangeA, h]
    rfl
  · simp (config := { maxSteps := 4000000 }) (disch := omega) only [step, stepv, ev, wl, wn, wp, aop, cV, cV1, ↓reduceIte, Nat.reduceEqDiff, Nat.reduceAdd, Int.cast_ofNat_Int, if_true, if_false, AV.one, repCells, fillA, partCells, Nat.reduceLT, Nat.reduceLeDiff, Nat.reduceMul, Nat.reduceSub, Int.reduceLT, Int.reduceLE, Int.reduceAdd, Int.reduceSub, Int.reduceMul, Int.reduceToNat, sliceCells, cellsAt, srcA, app, reduceCtorEq, Int.reduceEq, Int.reduceNeg, Int.reducePow, Nat.reducePow, Int.reduceTDiv, Int.reduceDiv, Nat.reduceDiv, Nat.reduceMod, Int.reduceMod, Int.reduceTMod, ne_eq, subA, beq_iff_eq, unA, minA, maxA, eqFs, eqA1, beq_self_eq_true, Nat.reduceBEq, ac_width_Range, rangeA, h]

end Go.Am

namespace Go.Am
open Go.RowKit

def il (l : List Int) : AV := .list l.length (ks .i32 l)
theorem isD_il (l : List Int) : isD (il l) = true := by simp [il, isD, isDL_ks]

def inR (b x : Int) : Bool := decide (-half b ≤ x) && decide (x < half b)
def checkN (b : Int) (l : List Int) : Int := if half b = 0 then 2 else if 4000 < l.length then 4 else if l.all (inR b) then 0 else 16
def I32 (l : List Int) : Prop := ∀ x ∈ l, -2147483648 ≤ x ∧ x ≤ 2147483647
def S_WCheck (P : Program) (f : Nat) : Prop := ∀ (b : Int) (l : List Int), I32 l → VC P f [.int .i64 b, il l] (.int .i64 (checkN b l))

theorem all_take_step {l : List Int} {k : Nat} (h : k < l.length) {p : Int → Bool} : (l.take (k + 1)).all p = ((l.take k).all p && p l[k]) := by
  rw [List.take_succ_eq_append_getElem h, List.all_append]; simp

theorem not_all_of {l : List Int} {k : Nat} (h : k < l.length) {p : Int → Bool} (hp : p l[k] = false) : l.all p = false := by
  rw [List.all_eq_false]
  exact ⟨l[k], List.getElem_mem h, by simp [hp]⟩

set_option maxRecDepth 10000 in
theorem width_Check {P : Program} {f fR : Nat} (b : Body P f 37 [.tmp 4] (ac_width_Check fR)) (hR : S_Range P fR) : S_WCheck P f := by
  intro x l hl
  refine VC.of_acall (by simp [isDL, isD, isD_il]) rfl (ACall.of_body b (by simp) ?_)
  simp (config := { maxSteps := 4000000 }) (disch := omega) only [step, stepv, ev, wl, wn, wp, aop, cV, cV1, ↓reduceIte, Nat.reduceEqDiff, Nat.reduceAdd, Int.cast_ofNat_Int, if_true, if_false, AV.one, repCells, fillA, partCells, Nat.reduceLT, Nat.reduceLeDiff, Nat.reduceMul, Nat.reduceSub, Int.reduceLT, Int.reduceLE, Int.reduceAdd, Int.reduceSub, Int.reduceMul, Int.reduceToNat, sliceCells, cellsAt, srcA, app, reduceCtorEq, Int.reduceEq, Int.reduceNeg, Int.reducePow, Nat.reducePow, Int.reduceTDiv, Int.reduceDiv, Nat.reduceDiv, Nat.reduceMod, Int.reduceMod, Int.reduceTMod, ne_eq, subA, beq_iff_eq, unA, minA, maxA, eqFs, eqA1, beq_self_eq_true, Nat.reduceBEq, ac_width_Check]
  refine callQ.vc (hR x) ?_
  by_cases h0 : half x = 0
  · simp (config := { maxSteps := 4000000 }) (disch := omega) only [step, stepv, ev, wl, wn, wp, aop, cV, cV1, ↓reduceIte, Nat.reduceEqDiff, Nat.reduceAdd, Int.cast_ofNat_Int, if_true, if_false, AV.one, repCells, fillA, partCells, Nat.reduceLT, Nat.reduceLeDiff, Nat.reduceMul, Nat.reduceSub, Int.reduceLT, Int.reduceLE, Int.reduceAdd, Int.reduceSub, Int.reduceMul, Int.reduceToNat, sliceCells, cellsAt, srcA, app, reduceCtorEq, Int.reduceEq, Int.reduceNeg, Int.reducePow, Nat.reducePow, Int.reduceTDiv, Int.reduceDiv, Nat.reduceDiv, Nat.reduceMod, Int.reduceMod, Int.reduceTMod, ne_eq, subA, beq_iff_eq, unA, minA, maxA, eqFs, eqA1, beq_self_eq_true, Nat.reduceBEq, rangeA, checkN, h0]
  have h3 : half x = 128 ∨ half x = 32768 ∨ half x = 8388608 := by rcases half_cases x with h | h | h | h <;> omega
  by_cases h1 : 4000 < l.length
  · simp (config := { maxSteps := 4000000 }) (disch := omega) only [step, stepv, ev, wl, wn, wp, aop, cV, cV1, ↓reduceIte, Nat.reduceEqDiff, Nat.reduceAdd, Int.cast_ofNat_Int, if_true, if_false, AV.one, repCells, fillA, partCells, Nat.reduceLT, Nat.reduceLeDiff, Nat.reduceMul, Nat.reduceSub, Int.reduceLT, Int.reduceLE, Int.reduceAdd, Int.reduceSub, Int.reduceMul, Int.reduceToNat, sliceCells, cellsAt, srcA, app, reduceCtorEq, Int.reduceEq, Int.reduceNeg, Int.reducePow, Nat.reducePow, Int.reduceTDiv, Int.reduceDiv, Nat.reduceDiv, Nat.reduceMod, Int.reduceMod, Int.reduceTMod, ne_eq, subA, beq_iff_eq, unA, minA, maxA, eqFs, eqA1, beq_self_eq_true, Nat.reduceBEq, rangeA, checkN, h0, il, h1]
  simp (config := { maxSteps := 4000000 }) (disch := omega) only [step, stepv, ev, wl, wn, wp, aop, cV, cV1, ↓reduceIte, Nat.reduceEqDiff, Nat.reduceAdd, Int.cast_ofNat_Int, if_true, if_false, AV.one, repCells, fillA, partCells, Nat.reduceLT, Nat.reduceLeDiff, Nat.reduceMul, Nat.reduceSub, Int.reduceLT, Int.reduceLE, Int.reduceAdd, Int.reduceSub, Int.reduceMul, Int.reduceToNat, sliceCells, cellsAt, srcA, app, reduceCtorEq, Int.reduceEq, Int.reduceNeg, Int.reducePow, Nat.reducePow, Int.reduceTDiv, Int.reduceDiv, Nat.reduceDiv, Nat.reduceMod, Int.reduceMod, Int.reduceTMod, ne_eq, subA, beq_iff_eq, unA, minA, maxA, eqFs, eqA1, beq_self_eq_true, Nat.reduceBEq, rangeA, il, if_neg h0]
  refine ALoop.by (ι := Nat) (fun k => ⟨[(24, .int .i64 k), (23, .int .i64 l.length), (22, il l), (6, .int .i32 (half x - 1)), (5, .int .i32 (-half x))], []⟩) (fun k => k ≤ l.length ∧ (l.take k).all (inR x) = true) (fun k => l.length - k) 0 (Le.slots (by simp [Am.look, il])) ⟨by omega, by simp⟩ ?_
  intro k ⟨hk, hg⟩
  by_cases hlt : k < l.length
  · by_cases hp : -half x ≤ l[k] ∧ l[k] < half x
    · have hs := all_take_step hlt (p := inR x)
      simp (config := { maxSteps := 4000000 }) (disch := omega) only [step, stepv, ev, wl, wn, wp, aop, cV, cV1, ↓reduceIte, Nat.reduceEqDiff, Nat.reduceAdd, Int.cast_ofNat_Int, if_true, if_false, AV.one, repCells, fillA, partCells, Nat.reduceLT, Nat.reduceLeDiff, Nat.reduceMul, Nat.reduceSub, Int.reduceLT, Int.reduceLE, Int.reduceAdd, Int.reduceSub, Int.reduceMul, Int.reduceToNat, sliceCells, cellsAt, srcA, app, reduceCtorEq, Int.reduceEq, Int.reduceNeg, Int.reducePow, Nat.reducePow, Int.reduceTDiv, Int.reduceDiv, Nat.reduceDiv, Nat.reduceMod, Int.reduceMod, Int.reduceTMod, ne_eq, subA, beq_iff_eq, unA, minA, maxA, eqFs, eqA1, beq_self_eq_true, Nat.reduceBEq, il, drop_ks, hlt]
      exact ⟨k + 1, ⟨by omega, by rw [hs, hg]; simp [inR, hp]⟩, by omega, Le.slots (by simp [Am.look, il])⟩
    · have e : checkN x l = 16 := by simp [checkN, h0, h1, not_all_of hlt (p := inR x) (by simp [inR]; omega)]
      by_cases hq : l[k] < -half x
      · simp (config := { maxSteps := 4000000 }) (disch := omega) only [step, stepv, ev, wl, wn, wp, aop, cV, cV1, ↓reduceIte, Nat.reduceEqDiff, Nat.reduceAdd, Int.cast_ofNat_Int, if_true, if_false, AV.one, repCells, fillA, partCells, Nat.reduceLT, Nat.reduceLeDiff, Nat.reduceMul, Nat.reduceSub, Int.reduceLT, Int.reduceLE, Int.reduceAdd, Int.reduceSub, Int.reduceMul, Int.reduceToNat, sliceCells, cellsAt, srcA, app, reduceCtorEq, Int.reduceEq, Int.reduceNeg, Int.reducePow, Nat.reducePow, Int.reduceTDiv, Int.reduceDiv, Nat.reduceDiv, Nat.reduceMod, Int.reduceMod, Int.reduceTMod, ne_eq, subA, beq_iff_eq, unA, minA, maxA, eqFs, eqA1, beq_self_eq_true, Nat.reduceBEq, il, drop_ks, hlt, e]
      · simp (config := { maxSteps := 4000000 }) (disch := omega) only [step, stepv, ev, wl, wn, wp, aop, cV, cV1, ↓reduceIte, Nat.reduceEqDiff, Nat.reduceAdd, Int.cast_ofNat_Int, if_true, if_false, AV.one, repCells, fillA, partCells, Nat.reduceLT, Nat.reduceLeDiff, Nat.reduceMul, Nat.reduceSub, Int.reduceLT, Int.reduceLE, Int.reduceAdd, Int.reduceSub, Int.reduceMul, Int.reduceToNat, sliceCells, cellsAt, srcA, app, reduceCtorEq, Int.reduceEq, Int.reduceNeg, Int.reducePow, Nat.reducePow, Int.reduceTDiv, Int.reduceDiv, Nat.reduceDiv, Nat.reduceMod, Int.reduceMod, Int.reduceTMod, ne_eq, subA, beq_iff_eq, unA, minA, maxA, eqFs, eqA1, beq_self_eq_true, Nat.reduceBEq, il, drop_ks, hlt, e]
  · have e2 : k = l.length := by omega
    subst e2
    rw [List.take_length] at hg
    simp (config := { maxSteps := 4000000 }) (disch := omega) only [step, stepv, ev, wl, wn, wp, aop, cV, cV1, ↓reduceIte, Nat.reduceEqDiff, Nat.reduceAdd, Int.cast_ofNat_Int, if_true, if_false, AV.one, repCells, fillA, partCells, Nat.reduceLT, Nat.reduceLeDiff, Nat.reduceMul, Nat.reduceSub, Int.reduceLT, Int.reduceLE, Int.reduceAdd, Int.reduceSub, Int.reduceMul, Int.reduceToNat, sliceCells, cellsAt, srcA, app, reduceCtorEq, Int.reduceEq, Int.reduceNeg, Int.reducePow, Nat.reducePow, Int.reduceTDiv, Int.reduceDiv, Nat.reduceDiv, Nat.reduceMod, Int.reduceMod, Int.reduceTMod, ne_eq, subA, beq_iff_eq, unA, minA, maxA, eqFs, eqA1, beq_self_eq_true, Nat.reduceBEq, il, checkN, h0, h1, hg]

def S_Half (P : Program) (f : Nat) : Prop := ∀ x : Int, VC P f [.int .i64 x] (.int .i64 (half x))

theorem ref18_Half {P : Program} {f : Nat} (b : Body P f 10 [.tmp 2] ac_cadenzaref18_Half) : S_Half P f := by
  intro x
  refine VC.of_acall rfl rfl (ACall.of_body b (by simp) ?_)
  rcases half_cases x with ⟨rfl, h⟩ | ⟨rfl, h⟩ | ⟨rfl, h⟩ | ⟨h1, h2, h3, h⟩ <;> simp (config := { maxSteps := 4000000 }) (disch := omega) only [step, stepv, ev, wl, wn, wp, aop, cV, cV1, ↓reduceIte, Nat.reduceEqDiff, Nat.reduceAdd, Int.cast_ofNat_Int, if_true, if_false, AV.one, repCells, fillA, partCells, Nat.reduceLT, Nat.reduceLeDiff, Nat.reduceMul, Nat.reduceSub, Int.reduceLT, Int.reduceLE, Int.reduceAdd, Int.reduceSub, Int.reduceMul, Int.reduceToNat, sliceCells, cellsAt, srcA, app, reduceCtorEq, Int.reduceEq, Int.reduceNeg, Int.reducePow, Nat.reducePow, Int.reduceTDiv, Int.reduceDiv, Nat.reduceDiv, Nat.reduceMod, Int.reduceMod, Int.reduceTMod, ne_eq, subA, beq_iff_eq, unA, minA, maxA, eqFs, eqA1, beq_self_eq_true, Nat.reduceBEq, ac_cadenzaref18_Half, h]

set_option maxRecDepth 10000 in
theorem ref18_Check {P : Program} {f fH : Nat} (b : Body P f 37 [.tmp 4] (ac_cadenzaref18_Check fH)) (hH : S_Half P fH) : S_WCheck P f := by
  intro x l hl
  refine VC.of_acall (by simp [isDL, isD, isD_il]) rfl (ACall.of_body b (by simp) ?_)
  simp (config := { maxSteps := 4000000 }) (disch := omega) only [step, stepv, ev, wl, wn, wp, aop, cV, cV1, ↓reduceIte, Nat.reduceEqDiff, Nat.reduceAdd, Int.cast_ofNat_Int, if_true, if_false, AV.one, repCells, fillA, partCells, Nat.reduceLT, Nat.reduceLeDiff, Nat.reduceMul, Nat.reduceSub, Int.reduceLT, Int.reduceLE, Int.reduceAdd, Int.reduceSub, Int.reduceMul, Int.reduceToNat, sliceCells, cellsAt, srcA, app, reduceCtorEq, Int.reduceEq, Int.reduceNeg, Int.reducePow, Nat.reducePow, Int.reduceTDiv, Int.reduceDiv, Nat.reduceDiv, Nat.reduceMod, Int.reduceMod, Int.reduceTMod, ne_eq, subA, beq_iff_eq, unA, minA, maxA, eqFs, eqA1, beq_self_eq_true, Nat.reduceBEq, ac_cadenzaref18_Check]
  refine callQ.vc (hH x) ?_
  by_cases h0 : half x = 0
  · simp (config := { maxSteps := 4000000 }) (disch := omega) only [step, stepv, ev, wl, wn, wp, aop, cV, cV1, ↓reduceIte, Nat.reduceEqDiff, Nat.reduceAdd, Int.cast_ofNat_Int, if_true, if_false, AV.one, repCells, fillA, partCells, Nat.reduceLT, Nat.reduceLeDiff, Nat.reduceMul, Nat.reduceSub, Int.reduceLT, Int.reduceLE, Int.reduceAdd, Int.reduceSub, Int.reduceMul, Int.reduceToNat, sliceCells, cellsAt, srcA, app, reduceCtorEq, Int.reduceEq, Int.reduceNeg, Int.reducePow, Nat.reducePow, Int.reduceTDiv, Int.reduceDiv, Nat.reduceDiv, Nat.reduceMod, Int.reduceMod, Int.reduceTMod, ne_eq, subA, beq_iff_eq, unA, minA, maxA, eqFs, eqA1, beq_self_eq_true, Nat.reduceBEq, checkN, h0]
  have h3 : half x = 128 ∨ half x = 32768 ∨ half x = 8388608 := by rcases half_cases x with h | h | h | h <;> omega
  by_cases h1 : 4000 < l.length
  · simp (config := { maxSteps := 4000000 }) (disch := omega) only [step, stepv, ev, wl, wn, wp, aop, cV, cV1, ↓reduceIte, Nat.reduceEqDiff, Nat.reduceAdd, Int.cast_ofNat_Int, if_true, if_false, AV.one, repCells, fillA, partCells, Nat.reduceLT, Nat.reduceLeDiff, Nat.reduceMul, Nat.reduceSub, Int.reduceLT, Int.reduceLE, Int.reduceAdd, Int.reduceSub, Int.reduceMul, Int.reduceToNat, sliceCells, cellsAt, srcA, app, reduceCtorEq, Int.reduceEq, Int.reduceNeg, Int.reducePow, Nat.reducePow, Int.reduceTDiv, Int.reduceDiv, Nat.reduceDiv, Nat.reduceMod, Int.reduceMod, Int.reduceTMod, ne_eq, subA, beq_iff_eq, unA, minA, maxA, eqFs, eqA1, beq_self_eq_true, Nat.reduceBEq, checkN, h0, il, h1]
  simp (config := { maxSteps := 4000000 }) (disch := omega) only [step, stepv, ev, wl, wn, wp, aop, cV, cV1, ↓reduceIte, Nat.reduceEqDiff, Nat.reduceAdd, Int.cast_ofNat_Int, if_true, if_false, AV.one, repCells, fillA, partCells, Nat.reduceLT, Nat.reduceLeDiff, Nat.reduceMul, Nat.reduceSub, Int.reduceLT, Int.reduceLE, Int.reduceAdd, Int.reduceSub, Int.reduceMul, Int.reduceToNat, sliceCells, cellsAt, srcA, app, reduceCtorEq, Int.reduceEq, Int.reduceNeg, Int.reducePow, Nat.reducePow, Int.reduceTDiv, Int.reduceDiv, Nat.reduceDiv, Nat.reduceMod, Int.reduceMod, Int.reduceTMod, ne_eq, subA, beq_iff_eq, unA, minA, maxA, eqFs, eqA1, beq_self_eq_true, Nat.reduceBEq, il]
  refine ALoop.by (ι := Nat) (fun k => ⟨[(6, .int .i64 k), (1, il l), (5, .int .i64 (half x))], []⟩) (fun k => k ≤ l.length ∧ (l.take k).all (inR x) = true) (fun k => l.length - k) 0 (Le.slots (by simp [Am.look, il])) ⟨by omega, by simp⟩ ?_
  intro k ⟨hk, hg⟩
  by_cases hlt : k < l.length
  · have hb := hl _ (List.getElem_mem hlt)
    by_cases hp : -half x ≤ l[k] ∧ l[k] < half x
    · have hs := all_take_step hlt (p := inR x)
      simp (config := { maxSteps := 4000000 }) (disch := omega) only [step, stepv, ev, wl, wn, wp, aop, cV, cV1, ↓reduceIte, Nat.reduceEqDiff, Nat.reduceAdd, Int.cast_ofNat_Int, if_true, if_false, AV.one, repCells, fillA, partCells, Nat.reduceLT, Nat.reduceLeDiff, Nat.reduceMul, Nat.reduceSub, Int.reduceLT, Int.reduceLE, Int.reduceAdd, Int.reduceSub, Int.reduceMul, Int.reduceToNat, sliceCells, cellsAt, srcA, app, reduceCtorEq, Int.reduceEq, Int.reduceNeg, Int.reducePow, Nat.reducePow, Int.reduceTDiv, Int.reduceDiv, Nat.reduceDiv, Nat.reduceMod, Int.reduceMod, Int.reduceTMod, ne_eq, subA, beq_iff_eq, unA, minA, maxA, eqFs, eqA1, beq_self_eq_true, Nat.reduceBEq, il, drop_ks, hlt]
      exact ⟨k + 1, ⟨by omega, by rw [hs, hg]; simp [inR, hp]⟩, by omega, Le.slots (by simp [Am.look, il])⟩
    · have e : checkN x l = 16 := by simp [checkN, h0, h1, not_all_of hlt (p := inR x) (by simp [inR]; omega)]
      by_cases hq : l[k] < -half x
      · simp (config := { maxSteps := 4000000 }) (disch := omega) only [step, stepv, ev, wl, wn, wp, aop, cV, cV1, ↓reduceIte, Nat.reduceEqDiff, Nat.reduceAdd, Int.cast_ofNat_Int, if_true, if_false, AV.one, repCells, fillA, partCells, Nat.reduceLT, Nat.reduceLeDiff, Nat.reduceMul, Nat.reduceSub, Int.reduceLT, Int.reduceLE, Int.reduceAdd, Int.reduceSub, Int.reduceMul, Int.reduceToNat, sliceCells, cellsAt, srcA, app, reduceCtorEq, Int.reduceEq, Int.reduceNeg, Int.reducePow, Nat.reducePow, Int.reduceTDiv, Int.reduceDiv, Nat.reduceDiv, Nat.reduceMod, Int.reduceMod, Int.reduceTMod, ne_eq, subA, beq_iff_eq, unA, minA, maxA, eqFs, eqA1, beq_self_eq_true, Nat.reduceBEq, il, drop_ks, hlt, e]
      · simp (config := { maxSteps := 4000000 }) (disch := omega) only [step, stepv, ev, wl, wn, wp, aop, cV, cV1, ↓reduceIte, Nat.reduceEqDiff, Nat.reduceAdd, Int.cast_ofNat_Int, if_true, if_false, AV.one, repCells, fillA, partCells, Nat.reduceLT, Nat.reduceLeDiff, Nat.reduceMul, Nat.reduceSub, Int.reduceLT, Int.reduceLE, Int.reduceAdd, Int.reduceSub, Int.reduceMul, Int.reduceToNat, sliceCells, cellsAt, srcA, app, reduceCtorEq, Int.reduceEq, Int.reduceNeg, Int.reducePow, Nat.reducePow, Int.reduceTDiv, Int.reduceDiv, Nat.reduceDiv, Nat.reduceMod, Int.reduceMod, Int.reduceTMod, ne_eq, subA, beq_iff_eq, unA, minA, maxA, eqFs, eqA1, beq_self_eq_true, Nat.reduceBEq, il, drop_ks, hlt, e]
  · have e2 : k = l.length := by omega
    subst e2
    rw [List.take_length] at hg
    simp (config := { maxSteps := 4000000 }) (disch := omega) only [step, stepv, ev, wl, wn, wp, aop, cV, cV1, ↓reduceIte, Nat.reduceEqDiff, Nat.reduceAdd, Int.cast_ofNat_Int, if_true, if_false, AV.one, repCells, fillA, partCells, Nat.reduceLT, Nat.reduceLeDiff, Nat.reduceMul, Nat.reduceSub, Int.reduceLT, Int.reduceLE, Int.reduceAdd, Int.reduceSub, Int.reduceMul, Int.reduceToNat, sliceCells, cellsAt, srcA, app, reduceCtorEq, Int.reduceEq, Int.reduceNeg, Int.reducePow, Nat.reducePow, Int.reduceTDiv, Int.reduceDiv, Nat.reduceDiv, Nat.reduceMod, Int.reduceMod, Int.reduceTMod, ne_eq, subA, beq_iff_eq, unA, minA, maxA, eqFs, eqA1, beq_self_eq_true, Nat.reduceBEq, il, checkN, h0, h1, hg]

theorem div_small {n : Nat} {c : Int} (h : 1 ≤ c) : 0 ≤ (n : Int) / c ∧ (n : Int) / c ≤ n :=
  ⟨Int.ediv_nonneg (by omega) (by omega), Int.ediv_le_self _ (by omega)⟩

theorem mod_small {n : Nat} {c : Int} (h : 1 ≤ c) : 0 ≤ (n : Int) % c ∧ (n : Int) % c < c := ⟨Int.emod_nonneg _ (by omega), Int.emod_lt_of_pos _ (by omega)⟩

end Go.Am

namespace Go.Am
open Go.RowKit

def longN (r : Int) : Int := if 256 * r / 245 < 1 then 1 else 256 * r / 245
theorem longN_pos (r : Int) : 1 ≤ longN r := by unfold longN; split <;> omega
theorem longN_le {r : Int} (h : r ≤ 1048576) : longN r ≤ 1095654 := by unfold longN; split <;> omega
def longA (r : Int) : AV := if r < 1 ∨ 1048576 < r then .tup [.int .i64 0, .int .i64 2] else .tup [.int .i64 (longN r), .int .i64 0]
def S_Long22 (P : Program) (f : Nat) : Prop := ∀ r : Int, VC P f [.int .i64 r] (longA r)

theorem isD_long (r : Int) : isD (longA r) = true := by unfold longA; split <;> rfl

theorem lengths_Long {P : Program} {f : Nat} (b : Body P f 14 [.tmp 2, .tmp 3] ac_lengths_Long) : S_Long22 P f := by
  intro r
  refine VC.of_acall rfl (isD_long r) (ACall.of_body b (by simp) ?_)
  by_cases h1 : r < 1
  · simp (config := { maxSteps := 4000000 }) (disch := omega) only [step, stepv, ev, wl, wn, wp, aop, cV, cV1, ↓reduceIte, Nat.reduceEqDiff, Nat.reduceAdd, Int.cast_ofNat_Int, if_true, if_false, AV.one, repCells, fillA, partCells, Nat.reduceLT, Nat.reduceLeDiff, Nat.reduceMul, Nat.reduceSub, Int.reduceLT, Int.reduceLE, Int.reduceAdd, Int.reduceSub, Int.reduceMul, Int.reduceToNat, sliceCells, cellsAt, srcA, app, reduceCtorEq, Int.reduceEq, Int.reduceNeg, Int.reducePow, Nat.reducePow, Int.reduceTDiv, Int.reduceDiv, Nat.reduceDiv, Nat.reduceMod, Int.reduceMod, Int.reduceTMod, ne_eq, subA, beq_iff_eq, unA, minA, maxA, eqFs, eqA1, beq_self_eq_true, Nat.reduceBEq, ac_lengths_Long, longA, true_or]
  by_cases h2 : 1048576 < r
  · simp (config := { maxSteps := 4000000 }) (disch := omega) only [step, stepv, ev, wl, wn, wp, aop, cV, cV1, ↓reduceIte, Nat.reduceEqDiff, Nat.reduceAdd, Int.cast_ofNat_Int, if_true, if_false, AV.one, repCells, fillA, partCells, Nat.reduceLT, Nat.reduceLeDiff, Nat.reduceMul, Nat.reduceSub, Int.reduceLT, Int.reduceLE, Int.reduceAdd, Int.reduceSub, Int.reduceMul, Int.reduceToNat, sliceCells, cellsAt, srcA, app, reduceCtorEq, Int.reduceEq, Int.reduceNeg, Int.reducePow, Nat.reducePow, Int.reduceTDiv, Int.reduceDiv, Nat.reduceDiv, Nat.reduceMod, Int.reduceMod, Int.reduceTMod, ne_eq, subA, beq_iff_eq, unA, minA, maxA, eqFs, eqA1, beq_self_eq_true, Nat.reduceBEq, ac_lengths_Long, longA, or_true]
  have h3 : 1 ≤ 256 * r / 245 := by omega
  simp (config := { maxSteps := 4000000 }) (disch := omega) only [step, stepv, ev, wl, wn, wp, aop, cV, cV1, ↓reduceIte, Nat.reduceEqDiff, Nat.reduceAdd, Int.cast_ofNat_Int, if_true, if_false, AV.one, repCells, fillA, partCells, Nat.reduceLT, Nat.reduceLeDiff, Nat.reduceMul, Nat.reduceSub, Int.reduceLT, Int.reduceLE, Int.reduceAdd, Int.reduceSub, Int.reduceMul, Int.reduceToNat, sliceCells, cellsAt, srcA, app, reduceCtorEq, Int.reduceEq, Int.reduceNeg, Int.reducePow, Nat.reducePow, Int.reduceTDiv, Int.reduceDiv, Nat.reduceDiv, Nat.reduceMod, Int.reduceMod, Int.reduceTMod, ne_eq, subA, beq_iff_eq, unA, minA, maxA, eqFs, eqA1, beq_self_eq_true, Nat.reduceBEq, ac_lengths_Long, longA, or_self, longN]
  rw [show (if (1 : Int) < 256 * r / 245 then 256 * r / 245 else 1) = 256 * r / 245 by split <;> omega]

theorem ref22_Long {P : Program} {f : Nat} (b : Body P f 17 [.tmp 2, .tmp 3] ac_cadenzaref22_Long) : S_Long22 P f := by
  intro r
  refine VC.of_acall rfl (isD_long r) (ACall.of_body b (by simp) ?_)
  by_cases h1 : r < 1
  · simp (config := { maxSteps := 4000000 }) (disch := omega) only [step, stepv, ev, wl, wn, wp, aop, cV, cV1, ↓reduceIte, Nat.reduceEqDiff, Nat.reduceAdd, Int.cast_ofNat_Int, if_true, if_false, AV.one, repCells, fillA, partCells, Nat.reduceLT, Nat.reduceLeDiff, Nat.reduceMul, Nat.reduceSub, Int.reduceLT, Int.reduceLE, Int.reduceAdd, Int.reduceSub, Int.reduceMul, Int.reduceToNat, sliceCells, cellsAt, srcA, app, reduceCtorEq, Int.reduceEq, Int.reduceNeg, Int.reducePow, Nat.reducePow, Int.reduceTDiv, Int.reduceDiv, Nat.reduceDiv, Nat.reduceMod, Int.reduceMod, Int.reduceTMod, ne_eq, subA, beq_iff_eq, unA, minA, maxA, eqFs, eqA1, beq_self_eq_true, Nat.reduceBEq, ac_cadenzaref22_Long, longA, true_or]
  by_cases h2 : 1048576 < r
  · simp (config := { maxSteps := 4000000 }) (disch := omega) only [step, stepv, ev, wl, wn, wp, aop, cV, cV1, ↓reduceIte, Nat.reduceEqDiff, Nat.reduceAdd, Int.cast_ofNat_Int, if_true, if_false, AV.one, repCells, fillA, partCells, Nat.reduceLT, Nat.reduceLeDiff, Nat.reduceMul, Nat.reduceSub, Int.reduceLT, Int.reduceLE, Int.reduceAdd, Int.reduceSub, Int.reduceMul, Int.reduceToNat, sliceCells, cellsAt, srcA, app, reduceCtorEq, Int.reduceEq, Int.reduceNeg, Int.reducePow, Nat.reducePow, Int.reduceTDiv, Int.reduceDiv, Nat.reduceDiv, Nat.reduceMod, Int.reduceMod, Int.reduceTMod, ne_eq, subA, beq_iff_eq, unA, minA, maxA, eqFs, eqA1, beq_self_eq_true, Nat.reduceBEq, ac_cadenzaref22_Long, longA, or_true]
  have e : r * 256 / 245 = 256 * r / 245 := by rw [Int.mul_comm]
  have h3 : 1 ≤ 256 * r / 245 := by omega
  simp (config := { maxSteps := 4000000 }) (disch := omega) only [step, stepv, ev, wl, wn, wp, aop, cV, cV1, ↓reduceIte, Nat.reduceEqDiff, Nat.reduceAdd, Int.cast_ofNat_Int, if_true, if_false, AV.one, repCells, fillA, partCells, Nat.reduceLT, Nat.reduceLeDiff, Nat.reduceMul, Nat.reduceSub, Int.reduceLT, Int.reduceLE, Int.reduceAdd, Int.reduceSub, Int.reduceMul, Int.reduceToNat, sliceCells, cellsAt, srcA, app, reduceCtorEq, Int.reduceEq, Int.reduceNeg, Int.reducePow, Nat.reducePow, Int.reduceTDiv, Int.reduceDiv, Nat.reduceDiv, Nat.reduceMod, Int.reduceMod, Int.reduceTMod, ne_eq, subA, beq_iff_eq, unA, minA, maxA, eqFs, eqA1, beq_self_eq_true, Nat.reduceBEq, ac_cadenzaref22_Long, longA, or_self, longN, e]

def eCheck (c b : Int) : Int := if half b = 0 ∨ c < 1 ∨ 6 < c then 2 else 0
def shA (c b : Int) : AV := .agg [.int .i64 c, .int .i64 b]
def S_ECheck (P : Program) (f : Nat) : Prop := ∀ c b : Int, VC P f [shA c b] (.int .i64 (eCheck c b))

theorem enframe_Check {P : Program} {f fR t0 : Nat} (b : Body P f 25 [.tmp 2] (ac_enframe_Check fR t0)) (hR : S_Range P fR) : S_ECheck P f := by
  intro c x
  refine VC.of_acall rfl rfl (ACall.of_body b (by simp) ?_)
  simp (config := { maxSteps := 4000000 }) (disch := omega) only [step, stepv, ev, wl, wn, wp, aop, cV, cV1, ↓reduceIte, Nat.reduceEqDiff, Nat.reduceAdd, Int.cast_ofNat_Int, if_true, if_false, AV.one, repCells, fillA, partCells, Nat.reduceLT, Nat.reduceLeDiff, Nat.reduceMul, Nat.reduceSub, Int.reduceLT, Int.reduceLE, Int.reduceAdd, Int.reduceSub, Int.reduceMul, Int.reduceToNat, sliceCells, cellsAt, srcA, app, reduceCtorEq, Int.reduceEq, Int.reduceNeg, Int.reducePow, Nat.reducePow, Int.reduceTDiv, Int.reduceDiv, Nat.reduceDiv, Nat.reduceMod, Int.reduceMod, Int.reduceTMod, ne_eq, subA, beq_iff_eq, unA, minA, maxA, eqFs, eqA1, beq_self_eq_true, Nat.reduceBEq, ac_enframe_Check, shA]
  refine callQ.vc (hR x) ?_
  by_cases h0 : half x = 0
  · simp (config := { maxSteps := 4000000 }) (disch := omega) only [step, stepv, ev, wl, wn, wp, aop, cV, cV1, ↓reduceIte, Nat.reduceEqDiff, Nat.reduceAdd, Int.cast_ofNat_Int, if_true, if_false, AV.one, repCells, fillA, partCells, Nat.reduceLT, Nat.reduceLeDiff, Nat.reduceMul, Nat.reduceSub, Int.reduceLT, Int.reduceLE, Int.reduceAdd, Int.reduceSub, Int.reduceMul, Int.reduceToNat, sliceCells, cellsAt, srcA, app, reduceCtorEq, Int.reduceEq, Int.reduceNeg, Int.reducePow, Nat.reducePow, Int.reduceTDiv, Int.reduceDiv, Nat.reduceDiv, Nat.reduceMod, Int.reduceMod, Int.reduceTMod, ne_eq, subA, beq_iff_eq, unA, minA, maxA, eqFs, eqA1, beq_self_eq_true, Nat.reduceBEq, rangeA, h0, eCheck, true_or]
  by_cases h1 : c < 1
  · simp (config := { maxSteps := 4000000 }) (disch := omega) only [step, stepv, ev, wl, wn, wp, aop, cV, cV1, ↓reduceIte, Nat.reduceEqDiff, Nat.reduceAdd, Int.cast_ofNat_Int, if_true, if_false, AV.one, repCells, fillA, partCells, Nat.reduceLT, Nat.reduceLeDiff, Nat.reduceMul, Nat.reduceSub, Int.reduceLT, Int.reduceLE, Int.reduceAdd, Int.reduceSub, Int.reduceMul, Int.reduceToNat, sliceCells, cellsAt, srcA, app, reduceCtorEq, Int.reduceEq, Int.reduceNeg, Int.reducePow, Nat.reducePow, Int.reduceTDiv, Int.reduceDiv, Nat.reduceDiv, Nat.reduceMod, Int.reduceMod, Int.reduceTMod, ne_eq, subA, beq_iff_eq, unA, minA, maxA, eqFs, eqA1, beq_self_eq_true, Nat.reduceBEq, rangeA, if_neg h0, eCheck, h0, or_true, true_or]
  by_cases h2 : 6 < c
  · simp (config := { maxSteps := 4000000 }) (disch := omega) only [step, stepv, ev, wl, wn, wp, aop, cV, cV1, ↓reduceIte, Nat.reduceEqDiff, Nat.reduceAdd, Int.cast_ofNat_Int, if_true, if_false, AV.one, repCells, fillA, partCells, Nat.reduceLT, Nat.reduceLeDiff, Nat.reduceMul, Nat.reduceSub, Int.reduceLT, Int.reduceLE, Int.reduceAdd, Int.reduceSub, Int.reduceMul, Int.reduceToNat, sliceCells, cellsAt, srcA, app, reduceCtorEq, Int.reduceEq, Int.reduceNeg, Int.reducePow, Nat.reducePow, Int.reduceTDiv, Int.reduceDiv, Nat.reduceDiv, Nat.reduceMod, Int.reduceMod, Int.reduceTMod, ne_eq, subA, beq_iff_eq, unA, minA, maxA, eqFs, eqA1, beq_self_eq_true, Nat.reduceBEq, rangeA, if_neg h0, eCheck, h0, or_true]
  · simp (config := { maxSteps := 4000000 }) (disch := omega) only [step, stepv, ev, wl, wn, wp, aop, cV, cV1, ↓reduceIte, Nat.reduceEqDiff, Nat.reduceAdd, Int.cast_ofNat_Int, if_true, if_false, AV.one, repCells, fillA, partCells, Nat.reduceLT, Nat.reduceLeDiff, Nat.reduceMul, Nat.reduceSub, Int.reduceLT, Int.reduceLE, Int.reduceAdd, Int.reduceSub, Int.reduceMul, Int.reduceToNat, sliceCells, cellsAt, srcA, app, reduceCtorEq, Int.reduceEq, Int.reduceNeg, Int.reducePow, Nat.reducePow, Int.reduceTDiv, Int.reduceDiv, Nat.reduceDiv, Nat.reduceMod, Int.reduceMod, Int.reduceTMod, ne_eq, subA, beq_iff_eq, unA, minA, maxA, eqFs, eqA1, beq_self_eq_true, Nat.reduceBEq, rangeA, if_neg h0, eCheck, h0, or_self]

theorem ref20_Check {P : Program} {f fH t0 : Nat} (b : Body P f 17 [.tmp 2] (ac_cadenzaref20_Check fH t0)) (hH : S_Half P fH) : S_ECheck P f := by
  intro c x
  refine VC.of_acall rfl rfl (ACall.of_body b (by simp) ?_)
  have hx := half_cases x
  by_cases h1 : c < 1
  · simp (config := { maxSteps := 4000000 }) (disch := omega) only [step, stepv, ev, wl, wn, wp, aop, cV, cV1, ↓reduceIte, Nat.reduceEqDiff, Nat.reduceAdd, Int.cast_ofNat_Int, if_true, if_false, AV.one, repCells, fillA, partCells, Nat.reduceLT, Nat.reduceLeDiff, Nat.reduceMul, Nat.reduceSub, Int.reduceLT, Int.reduceLE, Int.reduceAdd, Int.reduceSub, Int.reduceMul, Int.reduceToNat, sliceCells, cellsAt, srcA, app, reduceCtorEq, Int.reduceEq, Int.reduceNeg, Int.reducePow, Nat.reducePow, Int.reduceTDiv, Int.reduceDiv, Nat.reduceDiv, Nat.reduceMod, Int.reduceMod, Int.reduceTMod, ne_eq, subA, beq_iff_eq, unA, minA, maxA, eqFs, eqA1, beq_self_eq_true, Nat.reduceBEq, ac_cadenzaref20_Check, shA, eCheck, or_true, true_or]
  by_cases h2 : 6 < c
  · simp (config := { maxSteps := 4000000 }) (disch := omega) only [step, stepv, ev, wl, wn, wp, aop, cV, cV1, ↓reduceIte, Nat.reduceEqDiff, Nat.reduceAdd, Int.cast_ofNat_Int, if_true, if_false, AV.one, repCells, fillA, partCells, Nat.reduceLT, Nat.reduceLeDiff, Nat.reduceMul, Nat.reduceSub, Int.reduceLT, Int.reduceLE, Int.reduceAdd, Int.reduceSub, Int.reduceMul, Int.reduceToNat, sliceCells, cellsAt, srcA, app, reduceCtorEq, Int.reduceEq, Int.reduceNeg, Int.reducePow, Nat.reducePow, Int.reduceTDiv, Int.reduceDiv, Nat.reduceDiv, Nat.reduceMod, Int.reduceMod, Int.reduceTMod, ne_eq, subA, beq_iff_eq, unA, minA, maxA, eqFs, eqA1, beq_self_eq_true, Nat.reduceBEq, ac_cadenzaref20_Check, shA, eCheck, or_true]
  simp (config := { maxSteps := 4000000 }) (disch := omega) only [step, stepv, ev, wl, wn, wp, aop, cV, cV1, ↓reduceIte, Nat.reduceEqDiff, Nat.reduceAdd, Int.cast_ofNat_Int, if_true, if_false, AV.one, repCells, fillA, partCells, Nat.reduceLT, Nat.reduceLeDiff, Nat.reduceMul, Nat.reduceSub, Int.reduceLT, Int.reduceLE, Int.reduceAdd, Int.reduceSub, Int.reduceMul, Int.reduceToNat, sliceCells, cellsAt, srcA, app, reduceCtorEq, Int.reduceEq, Int.reduceNeg, Int.reducePow, Nat.reducePow, Int.reduceTDiv, Int.reduceDiv, Nat.reduceDiv, Nat.reduceMod, Int.reduceMod, Int.reduceTMod, ne_eq, subA, beq_iff_eq, unA, minA, maxA, eqFs, eqA1, beq_self_eq_true, Nat.reduceBEq, ac_cadenzaref20_Check, shA]
  refine callQ.vc (hH x) ?_
  by_cases h0 : half x = 0
  · simp (config := { maxSteps := 4000000 }) (disch := omega) only [step, stepv, ev, wl, wn, wp, aop, cV, cV1, ↓reduceIte, Nat.reduceEqDiff, Nat.reduceAdd, Int.cast_ofNat_Int, if_true, if_false, AV.one, repCells, fillA, partCells, Nat.reduceLT, Nat.reduceLeDiff, Nat.reduceMul, Nat.reduceSub, Int.reduceLT, Int.reduceLE, Int.reduceAdd, Int.reduceSub, Int.reduceMul, Int.reduceToNat, sliceCells, cellsAt, srcA, app, reduceCtorEq, Int.reduceEq, Int.reduceNeg, Int.reducePow, Nat.reducePow, Int.reduceTDiv, Int.reduceDiv, Nat.reduceDiv, Nat.reduceMod, Int.reduceMod, Int.reduceTMod, ne_eq, subA, beq_iff_eq, unA, minA, maxA, eqFs, eqA1, beq_self_eq_true, Nat.reduceBEq, h0, eCheck, true_or]
  · simp (config := { maxSteps := 4000000 }) (disch := omega) only [step, stepv, ev, wl, wn, wp, aop, cV, cV1, ↓reduceIte, Nat.reduceEqDiff, Nat.reduceAdd, Int.cast_ofNat_Int, if_true, if_false, AV.one, repCells, fillA, partCells, Nat.reduceLT, Nat.reduceLeDiff, Nat.reduceMul, Nat.reduceSub, Int.reduceLT, Int.reduceLE, Int.reduceAdd, Int.reduceSub, Int.reduceMul, Int.reduceToNat, sliceCells, cellsAt, srcA, app, reduceCtorEq, Int.reduceEq, Int.reduceNeg, Int.reducePow, Nat.reducePow, Int.reduceTDiv, Int.reduceDiv, Nat.reduceDiv, Nat.reduceMod, Int.reduceMod, Int.reduceTMod, ne_eq, subA, beq_iff_eq, unA, minA, maxA, eqFs, eqA1, beq_self_eq_true, Nat.reduceBEq, h0, eCheck, or_self]
end Go.Am

namespace Go.Am
open Go.RowKit

/-- An encoder. -/
structure Enc where
  ch : Int
  bits : Int
  rate : Int
  pw : List UInt8
  rest : List UInt8
  smp : List Int
  frs : List (List UInt8)
  out : List UInt8
  done : Bool
  err : Int

def bss (l : List (List UInt8)) : AV := .list l.length (l.map bs)
def encL (e : Enc) : List AV := [.int .i64 e.ch, .int .i64 e.bits, .int .i64 e.rate, .str e.pw, bs e.rest, il e.smp, bss e.frs, bs e.out, .bool e.done, .int .i64 e.err]
def encA (e : Enc) : AV := .agg (encL e)

theorem isDL_bss : ∀ l : List (List UInt8), isDL (l.map bs) = true
  | [] => rfl
  | x :: l => by simp [isDL, isD_bs, isDL_bss l]
theorem isD_bss (l : List (List UInt8)) : isD (bss l) = true := by simp [bss, isD, isDL_bss]
theorem isD_enc (e : Enc) : isD (encA e) = true := by simp [encA, encL, isD, isDL, isD_bs, isD_il, isD_bss]

def badRate (r : Int) : Prop := r < 1 ∨ 1048576 < r
def rightB (c b r : Int) (pw : List UInt8) : Bool := decide (eCheck c b = 0) && decide (1 ≤ r ∧ r ≤ 1048576) && decide (pw.length ≤ 64)
def longZ (r : Int) : Int := if r < 1 ∨ 1048576 < r then 0 else longN r

theorem rightB_iff {c b r : Int} {pw : List UInt8} : rightB c b r pw = true ↔ (half b ≠ 0 ∧ 1 ≤ c ∧ c ≤ 6) ∧ (1 ≤ r ∧ r ≤ 1048576) ∧ pw.length ≤ 64 := by
  have e : eCheck c b = 0 ↔ (half b ≠ 0 ∧ 1 ≤ c ∧ c ≤ 6) := by unfold eCheck; split <;> omega
  simp only [rightB, Bool.and_eq_true, decide_eq_true_eq, e, and_assoc]

def S_Right (P : Program) (f : Nat) : Prop := ∀ (c b r : Int) (pw : List UInt8), pw.length ≤ 4611686018427387904 → VC P f [shA c b, .int .i64 r, .str pw] (.tup [.int .i64 (longZ r), .bool (rightB c b r pw)])
def S_Asked (P : Program) (f : Nat) : Prop := ∀ (c b r : Int) (pw : List UInt8), pw.length ≤ 4611686018427387904 → VC P f [shA c b, .int .i64 r, .str pw] (.int .i64 (if rightB c b r pw = true then 0 else 2))

theorem pushenc_right {P : Program} {f fL fE t0 : Nat} (b : Body P f 28 [.tmp 6, .tmp 7] (ac_pushenc_right fL fE t0)) (hL : S_Long22 P fL) (hE : S_ECheck P fE) : S_Right P f := by
  intro c x r pw hpw
  refine VC.of_acall rfl rfl (ACall.of_body b (by simp) ?_)
  simp (config := { maxSteps := 4000000 }) (disch := omega) only [step, stepv, ev, wl, wn, wp, aop, cV, cV1, ↓reduceIte, Nat.reduceEqDiff, Nat.reduceAdd, Int.cast_ofNat_Int, if_true, if_false, AV.one, repCells, fillA, partCells, Nat.reduceLT, Nat.reduceLeDiff, Nat.reduceMul, Nat.reduceSub, Int.reduceLT, Int.reduceLE, Int.reduceAdd, Int.reduceSub, Int.reduceMul, Int.reduceToNat, sliceCells, cellsAt, srcA, app, reduceCtorEq, Int.reduceEq, Int.reduceNeg, Int.reducePow, Nat.reducePow, Int.reduceTDiv, Int.reduceDiv, Nat.reduceDiv, Nat.reduceMod, Int.reduceMod, Int.reduceTMod, ne_eq, subA, beq_iff_eq, unA, minA, maxA, eqFs, eqA1, beq_self_eq_true, Nat.reduceBEq, ac_pushenc_right, shA]
  refine callQ.vc (hL r) ?_
  have he : eCheck c x = 0 ∨ eCheck c x = 2 := by unfold eCheck; split <;> omega
  by_cases h1 : r < 1 ∨ 1048576 < r
  · simp (config := { maxSteps := 4000000 }) (disch := omega) only [step, stepv, ev, wl, wn, wp, aop, cV, cV1, ↓reduceIte, Nat.reduceEqDiff, Nat.reduceAdd, Int.cast_ofNat_Int, if_true, if_false, AV.one, repCells, fillA, partCells, Nat.reduceLT, Nat.reduceLeDiff, Nat.reduceMul, Nat.reduceSub, Int.reduceLT, Int.reduceLE, Int.reduceAdd, Int.reduceSub, Int.reduceMul, Int.reduceToNat, sliceCells, cellsAt, srcA, app, reduceCtorEq, Int.reduceEq, Int.reduceNeg, Int.reducePow, Nat.reducePow, Int.reduceTDiv, Int.reduceDiv, Nat.reduceDiv, Nat.reduceMod, Int.reduceMod, Int.reduceTMod, ne_eq, subA, beq_iff_eq, unA, minA, maxA, eqFs, eqA1, beq_self_eq_true, Nat.reduceBEq, longA, h1]
    refine callQ.vc (by have := hE c x; rw [shA] at this; exact this) ?_
    have h2 : rightB c x r pw = false := by simp only [rightB]; rw [show decide (1 ≤ r ∧ r ≤ 1048576) = false by rw [decide_eq_false_iff_not]; omega]; simp
    rcases he with he | he
    · simp (config := { maxSteps := 4000000 }) (disch := omega) only [step, stepv, ev, wl, wn, wp, aop, cV, cV1, ↓reduceIte, Nat.reduceEqDiff, Nat.reduceAdd, Int.cast_ofNat_Int, if_true, if_false, AV.one, repCells, fillA, partCells, Nat.reduceLT, Nat.reduceLeDiff, Nat.reduceMul, Nat.reduceSub, Int.reduceLT, Int.reduceLE, Int.reduceAdd, Int.reduceSub, Int.reduceMul, Int.reduceToNat, sliceCells, cellsAt, srcA, app, reduceCtorEq, Int.reduceEq, Int.reduceNeg, Int.reducePow, Nat.reducePow, Int.reduceTDiv, Int.reduceDiv, Nat.reduceDiv, Nat.reduceMod, Int.reduceMod, Int.reduceTMod, ne_eq, subA, beq_iff_eq, unA, minA, maxA, eqFs, eqA1, beq_self_eq_true, Nat.reduceBEq, he, longZ, h2, h1]
    · simp (config := { maxSteps := 4000000 }) (disch := omega) only [step, stepv, ev, wl, wn, wp, aop, cV, cV1, ↓reduceIte, Nat.reduceEqDiff, Nat.reduceAdd, Int.cast_ofNat_Int, if_true, if_false, AV.one, repCells, fillA, partCells, Nat.reduceLT, Nat.reduceLeDiff, Nat.reduceMul, Nat.reduceSub, Int.reduceLT, Int.reduceLE, Int.reduceAdd, Int.reduceSub, Int.reduceMul, Int.reduceToNat, sliceCells, cellsAt, srcA, app, reduceCtorEq, Int.reduceEq, Int.reduceNeg, Int.reducePow, Nat.reducePow, Int.reduceTDiv, Int.reduceDiv, Nat.reduceDiv, Nat.reduceMod, Int.reduceMod, Int.reduceTMod, ne_eq, subA, beq_iff_eq, unA, minA, maxA, eqFs, eqA1, beq_self_eq_true, Nat.reduceBEq, he, longZ, h2, h1]
  · simp (config := { maxSteps := 4000000 }) (disch := omega) only [step, stepv, ev, wl, wn, wp, aop, cV, cV1, ↓reduceIte, Nat.reduceEqDiff, Nat.reduceAdd, Int.cast_ofNat_Int, if_true, if_false, AV.one, repCells, fillA, partCells, Nat.reduceLT, Nat.reduceLeDiff, Nat.reduceMul, Nat.reduceSub, Int.reduceLT, Int.reduceLE, Int.reduceAdd, Int.reduceSub, Int.reduceMul, Int.reduceToNat, sliceCells, cellsAt, srcA, app, reduceCtorEq, Int.reduceEq, Int.reduceNeg, Int.reducePow, Nat.reducePow, Int.reduceTDiv, Int.reduceDiv, Nat.reduceDiv, Nat.reduceMod, Int.reduceMod, Int.reduceTMod, ne_eq, subA, beq_iff_eq, unA, minA, maxA, eqFs, eqA1, beq_self_eq_true, Nat.reduceBEq, longA, h1]
    refine callQ.vc (by have := hE c x; rw [shA] at this; exact this) ?_
    rcases he with he | he
    · by_cases hp : pw.length ≤ 64
      · have h2 : rightB c x r pw = true := by simp only [rightB, he]; rw [show decide (1 ≤ r ∧ r ≤ 1048576) = true by rw [decide_eq_true_eq]; omega]; simp [hp]
        simp (config := { maxSteps := 4000000 }) (disch := omega) only [step, stepv, ev, wl, wn, wp, aop, cV, cV1, ↓reduceIte, Nat.reduceEqDiff, Nat.reduceAdd, Int.cast_ofNat_Int, if_true, if_false, AV.one, repCells, fillA, partCells, Nat.reduceLT, Nat.reduceLeDiff, Nat.reduceMul, Nat.reduceSub, Int.reduceLT, Int.reduceLE, Int.reduceAdd, Int.reduceSub, Int.reduceMul, Int.reduceToNat, sliceCells, cellsAt, srcA, app, reduceCtorEq, Int.reduceEq, Int.reduceNeg, Int.reducePow, Nat.reducePow, Int.reduceTDiv, Int.reduceDiv, Nat.reduceDiv, Nat.reduceMod, Int.reduceMod, Int.reduceTMod, ne_eq, subA, beq_iff_eq, unA, minA, maxA, eqFs, eqA1, beq_self_eq_true, Nat.reduceBEq, he, longZ, h2, h1]
      · have h2 : rightB c x r pw = false := by simp [rightB, hp]
        simp (config := { maxSteps := 4000000 }) (disch := omega) only [step, stepv, ev, wl, wn, wp, aop, cV, cV1, ↓reduceIte, Nat.reduceEqDiff, Nat.reduceAdd, Int.cast_ofNat_Int, if_true, if_false, AV.one, repCells, fillA, partCells, Nat.reduceLT, Nat.reduceLeDiff, Nat.reduceMul, Nat.reduceSub, Int.reduceLT, Int.reduceLE, Int.reduceAdd, Int.reduceSub, Int.reduceMul, Int.reduceToNat, sliceCells, cellsAt, srcA, app, reduceCtorEq, Int.reduceEq, Int.reduceNeg, Int.reducePow, Nat.reducePow, Int.reduceTDiv, Int.reduceDiv, Nat.reduceDiv, Nat.reduceMod, Int.reduceMod, Int.reduceTMod, ne_eq, subA, beq_iff_eq, unA, minA, maxA, eqFs, eqA1, beq_self_eq_true, Nat.reduceBEq, he, longZ, h2, h1]
    · have h2 : rightB c x r pw = false := by simp [rightB, he]
      simp (config := { maxSteps := 4000000 }) (disch := omega) only [step, stepv, ev, wl, wn, wp, aop, cV, cV1, ↓reduceIte, Nat.reduceEqDiff, Nat.reduceAdd, Int.cast_ofNat_Int, if_true, if_false, AV.one, repCells, fillA, partCells, Nat.reduceLT, Nat.reduceLeDiff, Nat.reduceMul, Nat.reduceSub, Int.reduceLT, Int.reduceLE, Int.reduceAdd, Int.reduceSub, Int.reduceMul, Int.reduceToNat, sliceCells, cellsAt, srcA, app, reduceCtorEq, Int.reduceEq, Int.reduceNeg, Int.reducePow, Nat.reducePow, Int.reduceTDiv, Int.reduceDiv, Nat.reduceDiv, Nat.reduceMod, Int.reduceMod, Int.reduceTMod, ne_eq, subA, beq_iff_eq, unA, minA, maxA, eqFs, eqA1, beq_self_eq_true, Nat.reduceBEq, he, longZ, h2, h1]

theorem ref36_Asked {P : Program} {f fL fE t0 : Nat} (b : Body P f 26 [.tmp 6] (ac_cadenzaref36_Asked fL fE t0)) (hL : S_Long22 P fL) (hE : S_ECheck P fE) : S_Asked P f := by
  intro c x r pw hpw
  refine VC.of_acall rfl rfl (ACall.of_body b (by simp) ?_)
  simp (config := { maxSteps := 4000000 }) (disch := omega) only [step, stepv, ev, wl, wn, wp, aop, cV, cV1, ↓reduceIte, Nat.reduceEqDiff, Nat.reduceAdd, Int.cast_ofNat_Int, if_true, if_false, AV.one, repCells, fillA, partCells, Nat.reduceLT, Nat.reduceLeDiff, Nat.reduceMul, Nat.reduceSub, Int.reduceLT, Int.reduceLE, Int.reduceAdd, Int.reduceSub, Int.reduceMul, Int.reduceToNat, sliceCells, cellsAt, srcA, app, reduceCtorEq, Int.reduceEq, Int.reduceNeg, Int.reducePow, Nat.reducePow, Int.reduceTDiv, Int.reduceDiv, Nat.reduceDiv, Nat.reduceMod, Int.reduceMod, Int.reduceTMod, ne_eq, subA, beq_iff_eq, unA, minA, maxA, eqFs, eqA1, beq_self_eq_true, Nat.reduceBEq, ac_cadenzaref36_Asked, shA]
  refine callQ.vc (hL r) ?_
  have he : eCheck c x = 0 ∨ eCheck c x = 2 := by unfold eCheck; split <;> omega
  by_cases h1 : r < 1 ∨ 1048576 < r
  · simp (config := { maxSteps := 4000000 }) (disch := omega) only [step, stepv, ev, wl, wn, wp, aop, cV, cV1, ↓reduceIte, Nat.reduceEqDiff, Nat.reduceAdd, Int.cast_ofNat_Int, if_true, if_false, AV.one, repCells, fillA, partCells, Nat.reduceLT, Nat.reduceLeDiff, Nat.reduceMul, Nat.reduceSub, Int.reduceLT, Int.reduceLE, Int.reduceAdd, Int.reduceSub, Int.reduceMul, Int.reduceToNat, sliceCells, cellsAt, srcA, app, reduceCtorEq, Int.reduceEq, Int.reduceNeg, Int.reducePow, Nat.reducePow, Int.reduceTDiv, Int.reduceDiv, Nat.reduceDiv, Nat.reduceMod, Int.reduceMod, Int.reduceTMod, ne_eq, subA, beq_iff_eq, unA, minA, maxA, eqFs, eqA1, beq_self_eq_true, Nat.reduceBEq, longA, h1]
    refine callQ.vc (by have := hE c x; rw [shA] at this; exact this) ?_
    have h2 : rightB c x r pw = false := by simp only [rightB]; rw [show decide (1 ≤ r ∧ r ≤ 1048576) = false by rw [decide_eq_false_iff_not]; omega]; simp
    rcases he with he | he
    · simp (config := { maxSteps := 4000000 }) (disch := omega) only [step, stepv, ev, wl, wn, wp, aop, cV, cV1, ↓reduceIte, Nat.reduceEqDiff, Nat.reduceAdd, Int.cast_ofNat_Int, if_true, if_false, AV.one, repCells, fillA, partCells, Nat.reduceLT, Nat.reduceLeDiff, Nat.reduceMul, Nat.reduceSub, Int.reduceLT, Int.reduceLE, Int.reduceAdd, Int.reduceSub, Int.reduceMul, Int.reduceToNat, sliceCells, cellsAt, srcA, app, reduceCtorEq, Int.reduceEq, Int.reduceNeg, Int.reducePow, Nat.reducePow, Int.reduceTDiv, Int.reduceDiv, Nat.reduceDiv, Nat.reduceMod, Int.reduceMod, Int.reduceTMod, ne_eq, subA, beq_iff_eq, unA, minA, maxA, eqFs, eqA1, beq_self_eq_true, Nat.reduceBEq, he, h2]
    · simp (config := { maxSteps := 4000000 }) (disch := omega) only [step, stepv, ev, wl, wn, wp, aop, cV, cV1, ↓reduceIte, Nat.reduceEqDiff, Nat.reduceAdd, Int.cast_ofNat_Int, if_true, if_false, AV.one, repCells, fillA, partCells, Nat.reduceLT, Nat.reduceLeDiff, Nat.reduceMul, Nat.reduceSub, Int.reduceLT, Int.reduceLE, Int.reduceAdd, Int.reduceSub, Int.reduceMul, Int.reduceToNat, sliceCells, cellsAt, srcA, app, reduceCtorEq, Int.reduceEq, Int.reduceNeg, Int.reducePow, Nat.reducePow, Int.reduceTDiv, Int.reduceDiv, Nat.reduceDiv, Nat.reduceMod, Int.reduceMod, Int.reduceTMod, ne_eq, subA, beq_iff_eq, unA, minA, maxA, eqFs, eqA1, beq_self_eq_true, Nat.reduceBEq, he, h2]
  · simp (config := { maxSteps := 4000000 }) (disch := omega) only [step, stepv, ev, wl, wn, wp, aop, cV, cV1, ↓reduceIte, Nat.reduceEqDiff, Nat.reduceAdd, Int.cast_ofNat_Int, if_true, if_false, AV.one, repCells, fillA, partCells, Nat.reduceLT, Nat.reduceLeDiff, Nat.reduceMul, Nat.reduceSub, Int.reduceLT, Int.reduceLE, Int.reduceAdd, Int.reduceSub, Int.reduceMul, Int.reduceToNat, sliceCells, cellsAt, srcA, app, reduceCtorEq, Int.reduceEq, Int.reduceNeg, Int.reducePow, Nat.reducePow, Int.reduceTDiv, Int.reduceDiv, Nat.reduceDiv, Nat.reduceMod, Int.reduceMod, Int.reduceTMod, ne_eq, subA, beq_iff_eq, unA, minA, maxA, eqFs, eqA1, beq_self_eq_true, Nat.reduceBEq, longA, h1]
    refine callQ.vc (by have := hE c x; rw [shA] at this; exact this) ?_
    rcases he with he | he
    · by_cases hp : pw.length ≤ 64
      · have h2 : rightB c x r pw = true := by simp only [rightB, he]; rw [show decide (1 ≤ r ∧ r ≤ 1048576) = true by rw [decide_eq_true_eq]; omega]; simp [hp]
        simp (config := { maxSteps := 4000000 }) (disch := omega) only [step, stepv, ev, wl, wn, wp, aop, cV, cV1, ↓reduceIte, Nat.reduceEqDiff, Nat.reduceAdd, Int.cast_ofNat_Int, if_true, if_false, AV.one, repCells, fillA, partCells, Nat.reduceLT, Nat.reduceLeDiff, Nat.reduceMul, Nat.reduceSub, Int.reduceLT, Int.reduceLE, Int.reduceAdd, Int.reduceSub, Int.reduceMul, Int.reduceToNat, sliceCells, cellsAt, srcA, app, reduceCtorEq, Int.reduceEq, Int.reduceNeg, Int.reducePow, Nat.reducePow, Int.reduceTDiv, Int.reduceDiv, Nat.reduceDiv, Nat.reduceMod, Int.reduceMod, Int.reduceTMod, ne_eq, subA, beq_iff_eq, unA, minA, maxA, eqFs, eqA1, beq_self_eq_true, Nat.reduceBEq, he, h2]
      · have h2 : rightB c x r pw = false := by simp [rightB, hp]
        simp (config := { maxSteps := 4000000 }) (disch := omega) only [step, stepv, ev, wl, wn, wp, aop, cV, cV1, ↓reduceIte, Nat.reduceEqDiff, Nat.reduceAdd, Int.cast_ofNat_Int, if_true, if_false, AV.one, repCells, fillA, partCells, Nat.reduceLT, Nat.reduceLeDiff, Nat.reduceMul, Nat.reduceSub, Int.reduceLT, Int.reduceLE, Int.reduceAdd, Int.reduceSub, Int.reduceMul, Int.reduceToNat, sliceCells, cellsAt, srcA, app, reduceCtorEq, Int.reduceEq, Int.reduceNeg, Int.reducePow, Nat.reducePow, Int.reduceTDiv, Int.reduceDiv, Nat.reduceDiv, Nat.reduceMod, Int.reduceMod, Int.reduceTMod, ne_eq, subA, beq_iff_eq, unA, minA, maxA, eqFs, eqA1, beq_self_eq_true, Nat.reduceBEq, he, h2]
    · have h2 : rightB c x r pw = false := by simp [rightB, he]
      simp (config := { maxSteps := 4000000 }) (disch := omega) only [step, stepv, ev, wl, wn, wp, aop, cV, cV1, ↓reduceIte, Nat.reduceEqDiff, Nat.reduceAdd, Int.cast_ofNat_Int, if_true, if_false, AV.one, repCells, fillA, partCells, Nat.reduceLT, Nat.reduceLeDiff, Nat.reduceMul, Nat.reduceSub, Int.reduceLT, Int.reduceLE, Int.reduceAdd, Int.reduceSub, Int.reduceMul, Int.reduceToNat, sliceCells, cellsAt, srcA, app, reduceCtorEq, Int.reduceEq, Int.reduceNeg, Int.reducePow, Nat.reducePow, Int.reduceTDiv, Int.reduceDiv, Nat.reduceDiv, Nat.reduceMod, Int.reduceMod, Int.reduceTMod, ne_eq, subA, beq_iff_eq, unA, minA, maxA, eqFs, eqA1, beq_self_eq_true, Nat.reduceBEq, he, h2]

def S_Moment (P : Program) (f : Nat) : Prop := ∀ c b : Int, 1 ≤ c → c ≤ 6 → half b ≠ 0 → VC P f [shA c b] (.int .i64 (c * b / 8))

theorem mul_small {c b : Int} (h1 : 1 ≤ c) (h2 : c ≤ 6) (h : half b ≠ 0) : 8 ≤ c * b ∧ c * b ≤ 144 ∧ (b = 8 ∨ b = 16 ∨ b = 24) := by
  have hb : b = 8 ∨ b = 16 ∨ b = 24 := by rcases half_cases b with h' | h' | h' | h' <;> omega
  rcases hb with rfl | rfl | rfl <;> omega

theorem pushenc_moment {P : Program} {f t0 : Nat} (b : Body P f 9 [.tmp 2] (ac_pushenc_moment t0)) : S_Moment P f := by
  intro c x h1 h2 h
  have hm := mul_small h1 h2 h
  refine VC.of_acall rfl rfl (ACall.of_body b (by simp) ?_)
  simp (config := { maxSteps := 4000000 }) (disch := omega) only [step, stepv, ev, wl, wn, wp, aop, cV, cV1, ↓reduceIte, Nat.reduceEqDiff, Nat.reduceAdd, Int.cast_ofNat_Int, if_true, if_false, AV.one, repCells, fillA, partCells, Nat.reduceLT, Nat.reduceLeDiff, Nat.reduceMul, Nat.reduceSub, Int.reduceLT, Int.reduceLE, Int.reduceAdd, Int.reduceSub, Int.reduceMul, Int.reduceToNat, sliceCells, cellsAt, srcA, app, reduceCtorEq, Int.reduceEq, Int.reduceNeg, Int.reducePow, Nat.reducePow, Int.reduceTDiv, Int.reduceDiv, Nat.reduceDiv, Nat.reduceMod, Int.reduceMod, Int.reduceTMod, ne_eq, subA, beq_iff_eq, unA, minA, maxA, eqFs, eqA1, beq_self_eq_true, Nat.reduceBEq, ac_pushenc_moment, shA]

theorem ref36_Moment {P : Program} {f t0 : Nat} (b : Body P f 9 [.tmp 2] (ac_cadenzaref36_Moment t0)) : S_Moment P f := by
  intro c x h1 h2 h
  have hm := mul_small h1 h2 h
  refine VC.of_acall rfl rfl (ACall.of_body b (by simp) ?_)
  simp (config := { maxSteps := 4000000 }) (disch := omega) only [step, stepv, ev, wl, wn, wp, aop, cV, cV1, ↓reduceIte, Nat.reduceEqDiff, Nat.reduceAdd, Int.cast_ofNat_Int, if_true, if_false, AV.one, repCells, fillA, partCells, Nat.reduceLT, Nat.reduceLeDiff, Nat.reduceMul, Nat.reduceSub, Int.reduceLT, Int.reduceLE, Int.reduceAdd, Int.reduceSub, Int.reduceMul, Int.reduceToNat, sliceCells, cellsAt, srcA, app, reduceCtorEq, Int.reduceEq, Int.reduceNeg, Int.reducePow, Nat.reducePow, Int.reduceTDiv, Int.reduceDiv, Nat.reduceDiv, Nat.reduceMod, Int.reduceMod, Int.reduceTMod, ne_eq, subA, beq_iff_eq, unA, minA, maxA, eqFs, eqA1, beq_self_eq_true, Nat.reduceBEq, ac_cadenzaref36_Moment, shA]

/-- How many moments. -/
def countN (e : Enc) (L : Int) : Int := e.frs.length * L + e.smp.length / e.ch

def okE (e : Enc) : Prop := 1 ≤ e.ch ∧ e.ch ≤ 6 ∧ e.frs.length ≤ 1000 ∧ e.smp.length ≤ 400000 ∧ I32 e.smp

theorem frs_mul {n : Nat} {L : Int} (h : n ≤ 1000) (h1 : 0 ≤ L) (h2 : L ≤ 1095654) : 0 ≤ (n : Int) * L ∧ (n : Int) * L ≤ 1095654000 :=
  ⟨Int.mul_nonneg (by omega) h1, by
    have : (n : Int) * L ≤ 1000 * 1095654 := Int.mul_le_mul (by omega) h2 h1 (by omega)
    omega⟩

def S_Count (P : Program) (f : Nat) : Prop := ∀ (e : Enc) (L : Int), okE e → 0 ≤ L → L ≤ 1095654 → VC P f [encA e, .int .i64 L] (.int .i64 (countN e L))

theorem pushenc_count {P : Program} {f t0 : Nat} (b : Body P f 18 [.tmp 4] (ac_pushenc_count t0)) : S_Count P f := by
  intro e L ⟨h1, h2, h3, h4, _⟩ h5 h6
  have hm := frs_mul h3 h5 h6
  have hd := div_small (n := e.smp.length) h1
  refine VC.of_acall (by simp [isDL, isD_enc, isD]) rfl (ACall.of_body b (by simp) ?_)
  simp (config := { maxSteps := 4000000 }) (disch := omega) only [step, stepv, ev, wl, wn, wp, aop, cV, cV1, ↓reduceIte, Nat.reduceEqDiff, Nat.reduceAdd, Int.cast_ofNat_Int, if_true, if_false, AV.one, repCells, fillA, partCells, Nat.reduceLT, Nat.reduceLeDiff, Nat.reduceMul, Nat.reduceSub, Int.reduceLT, Int.reduceLE, Int.reduceAdd, Int.reduceSub, Int.reduceMul, Int.reduceToNat, sliceCells, cellsAt, srcA, app, reduceCtorEq, Int.reduceEq, Int.reduceNeg, Int.reducePow, Nat.reducePow, Int.reduceTDiv, Int.reduceDiv, Nat.reduceDiv, Nat.reduceMod, Int.reduceMod, Int.reduceTMod, ne_eq, subA, beq_iff_eq, unA, minA, maxA, eqFs, eqA1, beq_self_eq_true, Nat.reduceBEq, ac_pushenc_count, encA, encL, il, bss, bs, countN]

def S_RLong (P : Program) (f : Nat) : Prop := ∀ e : Enc, VC P f [encA e] (.int .i64 (longZ e.rate))

theorem ref36_long {P : Program} {f fL t0 : Nat} (b : Body P f 12 [.tmp 2] (ac_cadenzaref36_long fL t0)) (hL : S_Long22 P fL) : S_RLong P f := by
  intro e
  refine VC.of_acall (by simp [isDL, isD_enc, isD]) rfl (ACall.of_body b (by simp) ?_)
  simp (config := { maxSteps := 4000000 }) (disch := omega) only [step, stepv, ev, wl, wn, wp, aop, cV, cV1, ↓reduceIte, Nat.reduceEqDiff, Nat.reduceAdd, Int.cast_ofNat_Int, if_true, if_false, AV.one, repCells, fillA, partCells, Nat.reduceLT, Nat.reduceLeDiff, Nat.reduceMul, Nat.reduceSub, Int.reduceLT, Int.reduceLE, Int.reduceAdd, Int.reduceSub, Int.reduceMul, Int.reduceToNat, sliceCells, cellsAt, srcA, app, reduceCtorEq, Int.reduceEq, Int.reduceNeg, Int.reducePow, Nat.reducePow, Int.reduceTDiv, Int.reduceDiv, Nat.reduceDiv, Nat.reduceMod, Int.reduceMod, Int.reduceTMod, ne_eq, subA, beq_iff_eq, unA, minA, maxA, eqFs, eqA1, beq_self_eq_true, Nat.reduceBEq, ac_cadenzaref36_long, encA, encL, il, bss, bs]
  refine callQ.vc (hL _) ?_
  by_cases h1 : e.rate < 1 ∨ 1048576 < e.rate
  · simp (config := { maxSteps := 4000000 }) (disch := omega) only [step, stepv, ev, wl, wn, wp, aop, cV, cV1, ↓reduceIte, Nat.reduceEqDiff, Nat.reduceAdd, Int.cast_ofNat_Int, if_true, if_false, AV.one, repCells, fillA, partCells, Nat.reduceLT, Nat.reduceLeDiff, Nat.reduceMul, Nat.reduceSub, Int.reduceLT, Int.reduceLE, Int.reduceAdd, Int.reduceSub, Int.reduceMul, Int.reduceToNat, sliceCells, cellsAt, srcA, app, reduceCtorEq, Int.reduceEq, Int.reduceNeg, Int.reducePow, Nat.reducePow, Int.reduceTDiv, Int.reduceDiv, Nat.reduceDiv, Nat.reduceMod, Int.reduceMod, Int.reduceTMod, ne_eq, subA, beq_iff_eq, unA, minA, maxA, eqFs, eqA1, beq_self_eq_true, Nat.reduceBEq, longA, longZ, h1]
  · simp (config := { maxSteps := 4000000 }) (disch := omega) only [step, stepv, ev, wl, wn, wp, aop, cV, cV1, ↓reduceIte, Nat.reduceEqDiff, Nat.reduceAdd, Int.cast_ofNat_Int, if_true, if_false, AV.one, repCells, fillA, partCells, Nat.reduceLT, Nat.reduceLeDiff, Nat.reduceMul, Nat.reduceSub, Int.reduceLT, Int.reduceLE, Int.reduceAdd, Int.reduceSub, Int.reduceMul, Int.reduceToNat, sliceCells, cellsAt, srcA, app, reduceCtorEq, Int.reduceEq, Int.reduceNeg, Int.reducePow, Nat.reducePow, Int.reduceTDiv, Int.reduceDiv, Nat.reduceDiv, Nat.reduceMod, Int.reduceMod, Int.reduceTMod, ne_eq, subA, beq_iff_eq, unA, minA, maxA, eqFs, eqA1, beq_self_eq_true, Nat.reduceBEq, longA, longZ, h1]

theorem longZ_le (r : Int) : 0 ≤ longZ r ∧ longZ r ≤ 1095654 := by
  unfold longZ
  split
  · omega
  · rename_i h
    have h1 := longN_pos r
    have h2 := longN_le (r := r) (by omega)
    omega

def S_RCount (P : Program) (f : Nat) : Prop := ∀ e : Enc, okE e → VC P f [encA e] (.int .i64 (countN e (longZ e.rate)))

theorem ref36_Count {P : Program} {f fL t0 : Nat} (b : Body P f 17 [.tmp 2] (ac_cadenzaref36_Count fL t0)) (hL : S_RLong P fL) : S_RCount P f := by
  intro e ⟨h1, h2, h3, h4, _⟩
  have hz := longZ_le e.rate
  have hm := frs_mul h3 hz.1 hz.2
  have hd := div_small (n := e.smp.length) h1
  refine VC.of_acall (by simp [isDL, isD_enc, isD]) rfl (ACall.of_body b (by simp) ?_)
  simp (config := { maxSteps := 4000000 }) (disch := omega) only [step, stepv, ev, wl, wn, wp, aop, cV, cV1, ↓reduceIte, Nat.reduceEqDiff, Nat.reduceAdd, Int.cast_ofNat_Int, if_true, if_false, AV.one, repCells, fillA, partCells, Nat.reduceLT, Nat.reduceLeDiff, Nat.reduceMul, Nat.reduceSub, Int.reduceLT, Int.reduceLE, Int.reduceAdd, Int.reduceSub, Int.reduceMul, Int.reduceToNat, sliceCells, cellsAt, srcA, app, reduceCtorEq, Int.reduceEq, Int.reduceNeg, Int.reducePow, Nat.reducePow, Int.reduceTDiv, Int.reduceDiv, Nat.reduceDiv, Nat.reduceMod, Int.reduceMod, Int.reduceTMod, ne_eq, subA, beq_iff_eq, unA, minA, maxA, eqFs, eqA1, beq_self_eq_true, Nat.reduceBEq, ac_cadenzaref36_Count, encA, encL, il, bss, bs, countN]
  refine callD.vc (by have := hL e; simp only [encA, encL, il, bss, bs] at this; exact this) ?_
  simp (config := { maxSteps := 4000000 }) (disch := omega) only [step, stepv, ev, wl, wn, wp, aop, cV, cV1, ↓reduceIte, Nat.reduceEqDiff, Nat.reduceAdd, Int.cast_ofNat_Int, if_true, if_false, AV.one, repCells, fillA, partCells, Nat.reduceLT, Nat.reduceLeDiff, Nat.reduceMul, Nat.reduceSub, Int.reduceLT, Int.reduceLE, Int.reduceAdd, Int.reduceSub, Int.reduceMul, Int.reduceToNat, sliceCells, cellsAt, srcA, app, reduceCtorEq, Int.reduceEq, Int.reduceNeg, Int.reducePow, Nat.reducePow, Int.reduceTDiv, Int.reduceDiv, Nat.reduceDiv, Nat.reduceMod, Int.reduceMod, Int.reduceTMod, ne_eq, subA, beq_iff_eq, unA, minA, maxA, eqFs, eqA1, beq_self_eq_true, Nat.reduceBEq]

def roomB (c n m : Int) : Bool := decide (n ≤ 1000) && decide (m * c ≤ 4000)
def S_Room (P : Program) (f : Nat) : Prop := ∀ (e : Enc) (n m : Int), 1 ≤ e.ch → e.ch ≤ 6 → 0 ≤ m → m ≤ 2000000000 → VC P f [encA e, .int .i64 n, .int .i64 m] (.bool (roomB e.ch n m))

theorem mul_room {c m : Int} (h1 : 1 ≤ c) (h2 : c ≤ 6) (h3 : 0 ≤ m) (h4 : m ≤ 2000000000) : 0 ≤ m * c ∧ m * c ≤ 12000000000 ∧ (m ≤ 4000 / c ↔ m * c ≤ 4000) := by
  have : c = 1 ∨ c = 2 ∨ c = 3 ∨ c = 4 ∨ c = 5 ∨ c = 6 := by omega
  rcases this with rfl | rfl | rfl | rfl | rfl | rfl <;> omega

theorem pushenc_room {P : Program} {f t0 : Nat} (b : Body P f 17 [.tmp 6] (ac_pushenc_room t0)) : S_Room P f := by
  intro e n m h1 h2 h3 h4
  have hm := mul_room h1 h2 h3 h4
  refine VC.of_acall (by simp [isDL, isD_enc, isD]) rfl (ACall.of_body b (by simp) ?_)
  by_cases hn : n ≤ 1000
  · simp (config := { maxSteps := 4000000 }) (disch := omega) only [step, stepv, ev, wl, wn, wp, aop, cV, cV1, ↓reduceIte, Nat.reduceEqDiff, Nat.reduceAdd, Int.cast_ofNat_Int, if_true, if_false, AV.one, repCells, fillA, partCells, Nat.reduceLT, Nat.reduceLeDiff, Nat.reduceMul, Nat.reduceSub, Int.reduceLT, Int.reduceLE, Int.reduceAdd, Int.reduceSub, Int.reduceMul, Int.reduceToNat, sliceCells, cellsAt, srcA, app, reduceCtorEq, Int.reduceEq, Int.reduceNeg, Int.reducePow, Nat.reducePow, Int.reduceTDiv, Int.reduceDiv, Nat.reduceDiv, Nat.reduceMod, Int.reduceMod, Int.reduceTMod, ne_eq, subA, beq_iff_eq, unA, minA, maxA, eqFs, eqA1, beq_self_eq_true, Nat.reduceBEq, ac_pushenc_room, encA, encL, il, bss, bs, roomB]
  · simp (config := { maxSteps := 4000000 }) (disch := omega) only [step, stepv, ev, wl, wn, wp, aop, cV, cV1, ↓reduceIte, Nat.reduceEqDiff, Nat.reduceAdd, Int.cast_ofNat_Int, if_true, if_false, AV.one, repCells, fillA, partCells, Nat.reduceLT, Nat.reduceLeDiff, Nat.reduceMul, Nat.reduceSub, Int.reduceLT, Int.reduceLE, Int.reduceAdd, Int.reduceSub, Int.reduceMul, Int.reduceToNat, sliceCells, cellsAt, srcA, app, reduceCtorEq, Int.reduceEq, Int.reduceNeg, Int.reducePow, Nat.reducePow, Int.reduceTDiv, Int.reduceDiv, Nat.reduceDiv, Nat.reduceMod, Int.reduceMod, Int.reduceTMod, ne_eq, subA, beq_iff_eq, unA, minA, maxA, eqFs, eqA1, beq_self_eq_true, Nat.reduceBEq, ac_pushenc_room, encA, encL, il, bss, bs, roomB]

theorem ref36_fits {P : Program} {f t0 : Nat} (b : Body P f 17 [.tmp 6] (ac_cadenzaref36_fits t0)) : S_Room P f := by
  intro e n m h1 h2 h3 h4
  have hm := mul_room h1 h2 h3 h4
  have hd : 0 ≤ 4000 / e.ch ∧ 4000 / e.ch ≤ 4000 := div_small (n := 4000) h1
  have e1 : decide (m ≤ 4000 / e.ch) = decide (m * e.ch ≤ 4000) := by rw [Bool.eq_iff_iff]; simp only [decide_eq_true_eq]; exact hm.2.2
  refine VC.of_acall (by simp [isDL, isD_enc, isD]) rfl (ACall.of_body b (by simp) ?_)
  by_cases hn : n ≤ 1000
  · simp (config := { maxSteps := 4000000 }) (disch := omega) only [step, stepv, ev, wl, wn, wp, aop, cV, cV1, ↓reduceIte, Nat.reduceEqDiff, Nat.reduceAdd, Int.cast_ofNat_Int, if_true, if_false, AV.one, repCells, fillA, partCells, Nat.reduceLT, Nat.reduceLeDiff, Nat.reduceMul, Nat.reduceSub, Int.reduceLT, Int.reduceLE, Int.reduceAdd, Int.reduceSub, Int.reduceMul, Int.reduceToNat, sliceCells, cellsAt, srcA, app, reduceCtorEq, Int.reduceEq, Int.reduceNeg, Int.reducePow, Nat.reducePow, Int.reduceTDiv, Int.reduceDiv, Nat.reduceDiv, Nat.reduceMod, Int.reduceMod, Int.reduceTMod, ne_eq, subA, beq_iff_eq, unA, minA, maxA, eqFs, eqA1, beq_self_eq_true, Nat.reduceBEq, ac_cadenzaref36_fits, encA, encL, il, bss, bs, roomB, e1]
  · simp (config := { maxSteps := 4000000 }) (disch := omega) only [step, stepv, ev, wl, wn, wp, aop, cV, cV1, ↓reduceIte, Nat.reduceEqDiff, Nat.reduceAdd, Int.cast_ofNat_Int, if_true, if_false, AV.one, repCells, fillA, partCells, Nat.reduceLT, Nat.reduceLeDiff, Nat.reduceMul, Nat.reduceSub, Int.reduceLT, Int.reduceLE, Int.reduceAdd, Int.reduceSub, Int.reduceMul, Int.reduceToNat, sliceCells, cellsAt, srcA, app, reduceCtorEq, Int.reduceEq, Int.reduceNeg, Int.reducePow, Nat.reducePow, Int.reduceTDiv, Int.reduceDiv, Nat.reduceDiv, Nat.reduceMod, Int.reduceMod, Int.reduceTMod, ne_eq, subA, beq_iff_eq, unA, minA, maxA, eqFs, eqA1, beq_self_eq_true, Nat.reduceBEq, ac_cadenzaref36_fits, encA, encL, il, bss, bs, roomB]
end Go.Am

namespace Go.Am
open Go.RowKit

/-! ### slices.IndexFunc, slices.ContainsFunc at elements of one cell -/

def idxI {α : Type} (p : α → Bool) (l : List α) : Int := match l.findIdx? p with | some i => i | none => -1

def S_IndexF1 (P : Program) (f : Nat) : Prop := ∀ (α : Type) (l : List α) (c : α → AV) (p : α → Bool) (g : Nat) (fs cs : List AV), isDL fs = true → isDL cs = true → (∀ x, isD (c x) = true) → l.length ≤ 4611686018427387904 →
  (∀ x ∈ l, VC P g (fs ++ [c x] ++ cs) (.bool (p x))) → VC P f [.list l.length (l.map c), .fn (.func g) fs cs] (.int .i64 (idxI p l))

theorem isDL_map {α : Type} {c : α → AV} (h : ∀ x, isD (c x) = true) : ∀ l : List α, isDL (l.map c) = true
  | [] => rfl
  | x :: l => by simp [isDL, h x, isDL_map h l]

theorem drop_map1 {α : Type} {l : List α} {c : α → AV} {k : Nat} (h : k < l.length) : (l.map c).drop k = c l[k] :: (l.map c).drop (k + 1) := by
  rw [List.drop_eq_getElem_cons (by simpa using h)]; simp

theorem find_none {α : Type} {p : α → Bool} {l : List α} (h : l.all (fun x => !p x) = true) : l.findIdx? p = none := by
  rw [List.findIdx?_eq_none_iff]
  intro x hx
  have := List.all_eq_true.1 h x hx
  simpa using this

theorem find_at {α : Type} {p : α → Bool} {l : List α} {k : Nat} (hk : k < l.length) (h : (l.take k).all (fun x => !p x) = true) (hp : p l[k] = true) : l.findIdx? p = some k := by
  rw [List.findIdx?_eq_some_iff_getElem]
  refine ⟨hk, hp, fun j hj => ?_⟩
  have := List.all_eq_true.1 h l[j] (by
    rw [List.mem_take_iff_getElem]
    exact ⟨j, by omega, rfl⟩)
  simpa using this

theorem all_take_go {α : Type} {l : List α} {k : Nat} (h : k < l.length) {p : α → Bool} : (l.take (k + 1)).all p = ((l.take k).all p && p l[k]) := by
  rw [List.take_succ_eq_append_getElem h, List.all_append]; simp

theorem index_func1 {P : Program} {f : Nat} (b : Body P f 19 [.tmp 4] ac_slices_IndexFunc_byte_byte) : S_IndexF1 P f := by
  intro α l c p g fs cs h1 h2 h3 hlen hp
  refine VC.of_acall (by simp [isDL, isD, h1, h2, isDL_map h3]) rfl (ACall.of_body b (by simp) ?_)
  simp (config := { maxSteps := 4000000 }) (disch := omega) only [step, stepv, ev, wl, wn, wp, aop, cV, cV1, ↓reduceIte, Nat.reduceEqDiff, Nat.reduceAdd, Int.cast_ofNat_Int, if_true, if_false, AV.one, repCells, fillA, partCells, Nat.reduceLT, Nat.reduceLeDiff, Nat.reduceMul, Nat.reduceSub, Int.reduceLT, Int.reduceLE, Int.reduceAdd, Int.reduceSub, Int.reduceMul, Int.reduceToNat, sliceCells, cellsAt, srcA, app, reduceCtorEq, Int.reduceEq, Int.reduceNeg, Int.reducePow, Nat.reducePow, Int.reduceTDiv, Int.reduceDiv, Nat.reduceDiv, Nat.reduceMod, Int.reduceMod, Int.reduceTMod, ne_eq, subA, beq_iff_eq, unA, minA, maxA, eqFs, eqA1, beq_self_eq_true, Nat.reduceBEq, ac_slices_IndexFunc_byte_byte]
  refine ALoop.by (ι := Nat) (fun k => ⟨[(8, .int .i64 k), (7, .int .i64 l.length), (1, .fn (.func g) fs cs), (0, .list l.length (l.map c))], []⟩) (fun k => k ≤ l.length ∧ (l.take k).all (fun x => !p x) = true) (fun k => l.length - k) 0 (Le.slots (by simp [Am.look])) ⟨by omega, by simp⟩ ?_
  intro k ⟨hk, hg⟩
  by_cases hlt : k < l.length
  · simp (config := { maxSteps := 4000000 }) (disch := omega) only [step, stepv, ev, wl, wn, wp, aop, cV, cV1, ↓reduceIte, Nat.reduceEqDiff, Nat.reduceAdd, Int.cast_ofNat_Int, if_true, if_false, AV.one, repCells, fillA, partCells, Nat.reduceLT, Nat.reduceLeDiff, Nat.reduceMul, Nat.reduceSub, Int.reduceLT, Int.reduceLE, Int.reduceAdd, Int.reduceSub, Int.reduceMul, Int.reduceToNat, sliceCells, cellsAt, srcA, app, reduceCtorEq, Int.reduceEq, Int.reduceNeg, Int.reducePow, Nat.reducePow, Int.reduceTDiv, Int.reduceDiv, Nat.reduceDiv, Nat.reduceMod, Int.reduceMod, Int.reduceTMod, ne_eq, subA, beq_iff_eq, unA, minA, maxA, eqFs, eqA1, beq_self_eq_true, Nat.reduceBEq, drop_map1, hlt]
    refine callQ.vc (hp _ (List.getElem_mem hlt)) ?_
    cases hpk : p l[k] with
    | true => simp (config := { maxSteps := 4000000 }) (disch := omega) only [step, stepv, ev, wl, wn, wp, aop, cV, cV1, ↓reduceIte, Nat.reduceEqDiff, Nat.reduceAdd, Int.cast_ofNat_Int, if_true, if_false, AV.one, repCells, fillA, partCells, Nat.reduceLT, Nat.reduceLeDiff, Nat.reduceMul, Nat.reduceSub, Int.reduceLT, Int.reduceLE, Int.reduceAdd, Int.reduceSub, Int.reduceMul, Int.reduceToNat, sliceCells, cellsAt, srcA, app, reduceCtorEq, Int.reduceEq, Int.reduceNeg, Int.reducePow, Nat.reducePow, Int.reduceTDiv, Int.reduceDiv, Nat.reduceDiv, Nat.reduceMod, Int.reduceMod, Int.reduceTMod, ne_eq, subA, beq_iff_eq, unA, minA, maxA, eqFs, eqA1, beq_self_eq_true, Nat.reduceBEq, hpk, idxI, find_at hlt hg hpk]
    | false =>
      simp (config := { maxSteps := 4000000 }) (disch := omega) only [step, stepv, ev, wl, wn, wp, aop, cV, cV1, ↓reduceIte, Nat.reduceEqDiff, Nat.reduceAdd, Int.cast_ofNat_Int, if_true, if_false, AV.one, repCells, fillA, partCells, Nat.reduceLT, Nat.reduceLeDiff, Nat.reduceMul, Nat.reduceSub, Int.reduceLT, Int.reduceLE, Int.reduceAdd, Int.reduceSub, Int.reduceMul, Int.reduceToNat, sliceCells, cellsAt, srcA, app, reduceCtorEq, Int.reduceEq, Int.reduceNeg, Int.reducePow, Nat.reducePow, Int.reduceTDiv, Int.reduceDiv, Nat.reduceDiv, Nat.reduceMod, Int.reduceMod, Int.reduceTMod, ne_eq, subA, beq_iff_eq, unA, minA, maxA, eqFs, eqA1, beq_self_eq_true, Nat.reduceBEq, hpk]
      exact ⟨k + 1, ⟨by omega, by rw [all_take_go hlt, hg, hpk]; rfl⟩, by omega, Le.slots (by simp [Am.look])⟩
  · have e2 : k = l.length := by omega
    subst e2
    rw [List.take_length] at hg
    simp (config := { maxSteps := 4000000 }) (disch := omega) only [step, stepv, ev, wl, wn, wp, aop, cV, cV1, ↓reduceIte, Nat.reduceEqDiff, Nat.reduceAdd, Int.cast_ofNat_Int, if_true, if_false, AV.one, repCells, fillA, partCells, Nat.reduceLT, Nat.reduceLeDiff, Nat.reduceMul, Nat.reduceSub, Int.reduceLT, Int.reduceLE, Int.reduceAdd, Int.reduceSub, Int.reduceMul, Int.reduceToNat, sliceCells, cellsAt, srcA, app, reduceCtorEq, Int.reduceEq, Int.reduceNeg, Int.reducePow, Nat.reducePow, Int.reduceTDiv, Int.reduceDiv, Nat.reduceDiv, Nat.reduceMod, Int.reduceMod, Int.reduceTMod, ne_eq, subA, beq_iff_eq, unA, minA, maxA, eqFs, eqA1, beq_self_eq_true, Nat.reduceBEq, idxI, find_none hg]

def S_ContainsF1 (P : Program) (f : Nat) : Prop := ∀ (α : Type) (l : List α) (c : α → AV) (p : α → Bool) (g : Nat) (fs cs : List AV), isDL fs = true → isDL cs = true → (∀ x, isD (c x) = true) → l.length ≤ 4611686018427387904 →
  (∀ x ∈ l, VC P g (fs ++ [c x] ++ cs) (.bool (p x))) → VC P f [.list l.length (l.map c), .fn (.func g) fs cs] (.bool (l.any p))

theorem idx_any {α : Type} (p : α → Bool) (l : List α) : decide ((0 : Int) ≤ idxI p l) = l.any p := by
  unfold idxI
  cases h : l.findIdx? p with
  | none =>
    rw [List.findIdx?_eq_none_iff] at h
    have : l.any p = false := by rw [List.any_eq_false]; intro x hx; rw [h x hx]; simp
    rw [this]; rfl
  | some i =>
    rw [List.findIdx?_eq_some_iff_getElem] at h
    obtain ⟨h1, h2, _⟩ := h
    have : l.any p = true := by rw [List.any_eq_true]; exact ⟨_, List.getElem_mem h1, h2⟩
    rw [this]; simp

theorem contains_func1 {P : Program} {f fI : Nat} (b : Body P f 9 [.tmp 4] (ac_slices_ContainsFunc_byte_byte fI)) (hI : S_IndexF1 P fI) : S_ContainsF1 P f := by
  intro α l c p g fs cs h1 h2 h3 hlen hp
  refine VC.of_acall (by simp [isDL, isD, h1, h2, isDL_map h3]) rfl (ACall.of_body b (by simp) ?_)
  have hi := hI α l c p g fs cs h1 h2 h3 hlen hp
  simp (config := { maxSteps := 4000000 }) (disch := omega) only [step, stepv, ev, wl, wn, wp, aop, cV, cV1, ↓reduceIte, Nat.reduceEqDiff, Nat.reduceAdd, Int.cast_ofNat_Int, if_true, if_false, AV.one, repCells, fillA, partCells, Nat.reduceLT, Nat.reduceLeDiff, Nat.reduceMul, Nat.reduceSub, Int.reduceLT, Int.reduceLE, Int.reduceAdd, Int.reduceSub, Int.reduceMul, Int.reduceToNat, sliceCells, cellsAt, srcA, app, reduceCtorEq, Int.reduceEq, Int.reduceNeg, Int.reducePow, Nat.reducePow, Int.reduceTDiv, Int.reduceDiv, Nat.reduceDiv, Nat.reduceMod, Int.reduceMod, Int.reduceTMod, ne_eq, subA, beq_iff_eq, unA, minA, maxA, eqFs, eqA1, beq_self_eq_true, Nat.reduceBEq, ac_slices_ContainsFunc_byte_byte]
  refine callQ.vc hi ?_
  simp (config := { maxSteps := 4000000 }) (disch := omega) only [step, stepv, ev, wl, wn, wp, aop, cV, cV1, ↓reduceIte, Nat.reduceEqDiff, Nat.reduceAdd, Int.cast_ofNat_Int, if_true, if_false, AV.one, repCells, fillA, partCells, Nat.reduceLT, Nat.reduceLeDiff, Nat.reduceMul, Nat.reduceSub, Int.reduceLT, Int.reduceLE, Int.reduceAdd, Int.reduceSub, Int.reduceMul, Int.reduceToNat, sliceCells, cellsAt, srcA, app, reduceCtorEq, Int.reduceEq, Int.reduceNeg, Int.reducePow, Nat.reducePow, Int.reduceTDiv, Int.reduceDiv, Nat.reduceDiv, Nat.reduceMod, Int.reduceMod, Int.reduceTMod, ne_eq, subA, beq_iff_eq, unA, minA, maxA, eqFs, eqA1, beq_self_eq_true, Nat.reduceBEq, idx_any]

theorem isTL_bss : ∀ l : List (List UInt8), isTL (l.map bs) = true
  | [] => rfl
  | x :: l => by
    have : isT (bs x) = true := by simp [bs, isT]; induction x with | nil => rfl | cons y x ih => simp [u8_cons, isTL, isT, ih]
    simp [isTL, this, isTL_bss l]

/-! ### feeding -/

def badLen (m : Int) (b : List UInt8) : Bool := decide ((b.length : Int) < 5) || decide (m < b.length)
def S_BadLen (P : Program) (f : Nat) : Prop := ∀ (b : List UInt8) (m : Int), VC P f [bs b, .cell [.int .i64 m]] (.bool (badLen m b))

theorem feeding_1 {P : Program} {f : Nat} (b : Body P f 13 [.tmp 3] ac_pushenc_feeding_1) : S_BadLen P f := by
  intro l m
  refine VC.of_acall (by simp [isDL, isD, isD_bs]) rfl (ACall.of_body b (by simp) ?_)
  by_cases h : (l.length : Int) < 5
  · simp (config := { maxSteps := 4000000 }) (disch := omega) only [step, stepv, ev, wl, wn, wp, aop, cV, cV1, ↓reduceIte, Nat.reduceEqDiff, Nat.reduceAdd, Int.cast_ofNat_Int, if_true, if_false, AV.one, repCells, fillA, partCells, Nat.reduceLT, Nat.reduceLeDiff, Nat.reduceMul, Nat.reduceSub, Int.reduceLT, Int.reduceLE, Int.reduceAdd, Int.reduceSub, Int.reduceMul, Int.reduceToNat, sliceCells, cellsAt, srcA, app, reduceCtorEq, Int.reduceEq, Int.reduceNeg, Int.reducePow, Nat.reducePow, Int.reduceTDiv, Int.reduceDiv, Nat.reduceDiv, Nat.reduceMod, Int.reduceMod, Int.reduceTMod, ne_eq, subA, beq_iff_eq, unA, minA, maxA, eqFs, eqA1, beq_self_eq_true, Nat.reduceBEq, ac_pushenc_feeding_1, bs, badLen]
  · simp (config := { maxSteps := 4000000 }) (disch := omega) only [step, stepv, ev, wl, wn, wp, aop, cV, cV1, ↓reduceIte, Nat.reduceEqDiff, Nat.reduceAdd, Int.cast_ofNat_Int, if_true, if_false, AV.one, repCells, fillA, partCells, Nat.reduceLT, Nat.reduceLeDiff, Nat.reduceMul, Nat.reduceSub, Int.reduceLT, Int.reduceLE, Int.reduceAdd, Int.reduceSub, Int.reduceMul, Int.reduceToNat, sliceCells, cellsAt, srcA, app, reduceCtorEq, Int.reduceEq, Int.reduceNeg, Int.reducePow, Nat.reducePow, Int.reduceTDiv, Int.reduceDiv, Nat.reduceDiv, Nat.reduceMod, Int.reduceMod, Int.reduceTMod, ne_eq, subA, beq_iff_eq, unA, minA, maxA, eqFs, eqA1, beq_self_eq_true, Nat.reduceBEq, ac_pushenc_feeding_1, bs, badLen]

/-- Is it right as one that is feeding? -/
def feedB (e : Enc) : Bool :=
  let L := longN e.rate
  if 0 < e.out.length ∨ e.ch * e.bits / 8 ≤ e.rest.length ∨ (e.smp.length : Int) % e.ch ≠ 0 ∨ L ≤ (e.smp.length : Int) / e.ch ∨ 1000 < e.frs.length then false
  else if checkN e.bits e.smp ≠ 0 then false
  else if roomB e.ch (e.frs.length + if 0 < e.smp.length then 1 else 0) (countN e L) = false then false
  else !e.frs.any (badLen ((81 * L * e.ch + 7) / 8 + 4))

def okF (e : Enc) : Prop := rightB e.ch e.bits e.rate e.pw = true ∧ e.frs.length ≤ 4611686018427387904 ∧ e.smp.length ≤ 400000 ∧ I32 e.smp ∧ e.rest.length ≤ 4611686018427387904 ∧ e.out.length ≤ 4611686018427387904

theorem mul3 {L c : Int} (h1 : 1 ≤ L) (h2 : L ≤ 1095654) (h3 : 1 ≤ c) (h4 : c ≤ 6) : 0 ≤ 81 * L * c ∧ 81 * L * c ≤ 600000000 := by
  have : c = 1 ∨ c = 2 ∨ c = 3 ∨ c = 4 ∨ c = 5 ∨ c = 6 := by omega
  rcases this with rfl | rfl | rfl | rfl | rfl | rfl <;> omega

theorem checkN_cases (b : Int) (l : List Int) : checkN b l = 0 ∨ checkN b l = 2 ∨ checkN b l = 4 ∨ checkN b l = 16 := by
  unfold checkN; split <;> (try split) <;> (try split) <;> omega

def S_Feeding (P : Program) (f : Nat) : Prop := ∀ e : Enc, okF e → VC P f [encA e, .int .i64 (longN e.rate)] (.bool (feedB e))

set_option maxHeartbeats 4000000 in
set_option maxRecDepth 20000 in
theorem pushenc_feeding {P : Program} {f fM fW fC fR fB fS t0 t1 : Nat} (b : Body P f 82 [.tmp 4] (ac_pushenc_feeding fM fW fC fR fB fS t0 t1)) (hM : S_Moment P fM) (hW : S_WCheck P fW) (hC : S_Count P fC) (hR : S_Room P fR) (hB : S_BadLen P fB) (hS : S_ContainsF1 P fS) : S_Feeding P f := by
  intro e ⟨hr, o1, o2, o3, o4, o5⟩
  obtain ⟨⟨r1, r2, r3⟩, ⟨r4, r5⟩, r6⟩ := rightB_iff.1 hr
  have hd := div_small (n := e.smp.length) r2
  have hm := mod_small (n := e.smp.length) r2
  have hL := longN_pos e.rate
  have hL2 := longN_le r5
  have hmul := mul_small r2 r3 r1
  have hmul3 := mul3 hL hL2 r2 r3
  have hMo := hM e.ch e.bits r2 r3 r1
  have hWo := hW e.bits e.smp o3
  refine VC.of_acall (by simp [isDL, isD_enc, isD]) rfl (ACall.of_body b (by simp) ?_)
  simp only [encA, encL, il, bss, bs, shA] at hMo hWo ⊢
  unfold feedB
  have hok : e.frs.length ≤ 1000 → okE e := fun h => ⟨r2, r3, h, o2, o3⟩
  simp (config := { maxSteps := 4000000 }) (disch := omega) only [step, stepv, ev, wl, wn, wp, aop, cV, cV1, ↓reduceIte, Nat.reduceEqDiff, Nat.reduceAdd, Int.cast_ofNat_Int, if_true, if_false, AV.one, repCells, fillA, partCells, Nat.reduceLT, Nat.reduceLeDiff, Nat.reduceMul, Nat.reduceSub, Int.reduceLT, Int.reduceLE, Int.reduceAdd, Int.reduceSub, Int.reduceMul, Int.reduceToNat, sliceCells, cellsAt, srcA, app, reduceCtorEq, Int.reduceEq, Int.reduceNeg, Int.reducePow, Nat.reducePow, Int.reduceTDiv, Int.reduceDiv, Nat.reduceDiv, Nat.reduceMod, Int.reduceMod, Int.reduceTMod, ne_eq, subA, beq_iff_eq, unA, minA, maxA, eqFs, eqA1, beq_self_eq_true, Nat.reduceBEq, ac_pushenc_feeding]
  refine guardD.ndec (fun c1 => ?_) (fun c1 => ?_)
  case refine_2 => simp (config := { maxSteps := 4000000 }) (disch := omega) only [step, stepv, ev, wl, wn, wp, aop, cV, cV1, ↓reduceIte, Nat.reduceEqDiff, Nat.reduceAdd, Int.cast_ofNat_Int, if_true, if_false, AV.one, repCells, fillA, partCells, Nat.reduceLT, Nat.reduceLeDiff, Nat.reduceMul, Nat.reduceSub, Int.reduceLT, Int.reduceLE, Int.reduceAdd, Int.reduceSub, Int.reduceMul, Int.reduceToNat, sliceCells, cellsAt, srcA, app, reduceCtorEq, Int.reduceEq, Int.reduceNeg, Int.reducePow, Nat.reducePow, Int.reduceTDiv, Int.reduceDiv, Nat.reduceDiv, Nat.reduceMod, Int.reduceMod, Int.reduceTMod, ne_eq, subA, beq_iff_eq, unA, minA, maxA, eqFs, eqA1, beq_self_eq_true, Nat.reduceBEq, feedB]
  simp (config := { maxSteps := 4000000 }) (disch := omega) only [step, stepv, ev, wl, wn, wp, aop, cV, cV1, ↓reduceIte, Nat.reduceEqDiff, Nat.reduceAdd, Int.cast_ofNat_Int, if_true, if_false, AV.one, repCells, fillA, partCells, Nat.reduceLT, Nat.reduceLeDiff, Nat.reduceMul, Nat.reduceSub, Int.reduceLT, Int.reduceLE, Int.reduceAdd, Int.reduceSub, Int.reduceMul, Int.reduceToNat, sliceCells, cellsAt, srcA, app, reduceCtorEq, Int.reduceEq, Int.reduceNeg, Int.reducePow, Nat.reducePow, Int.reduceTDiv, Int.reduceDiv, Nat.reduceDiv, Nat.reduceMod, Int.reduceMod, Int.reduceTMod, ne_eq, subA, beq_iff_eq, unA, minA, maxA, eqFs, eqA1, beq_self_eq_true, Nat.reduceBEq]
  refine callD.vc hMo ?_
  simp (config := { maxSteps := 4000000 }) (disch := omega) only [step, stepv, ev, wl, wn, wp, aop, cV, cV1, ↓reduceIte, Nat.reduceEqDiff, Nat.reduceAdd, Int.cast_ofNat_Int, if_true, if_false, AV.one, repCells, fillA, partCells, Nat.reduceLT, Nat.reduceLeDiff, Nat.reduceMul, Nat.reduceSub, Int.reduceLT, Int.reduceLE, Int.reduceAdd, Int.reduceSub, Int.reduceMul, Int.reduceToNat, sliceCells, cellsAt, srcA, app, reduceCtorEq, Int.reduceEq, Int.reduceNeg, Int.reducePow, Nat.reducePow, Int.reduceTDiv, Int.reduceDiv, Nat.reduceDiv, Nat.reduceMod, Int.reduceMod, Int.reduceTMod, ne_eq, subA, beq_iff_eq, unA, minA, maxA, eqFs, eqA1, beq_self_eq_true, Nat.reduceBEq]
  refine guardD.ndec (fun c2 => ?_) (fun c2 => ?_)
  case refine_2 => simp (config := { maxSteps := 4000000 }) (disch := omega) only [step, stepv, ev, wl, wn, wp, aop, cV, cV1, ↓reduceIte, Nat.reduceEqDiff, Nat.reduceAdd, Int.cast_ofNat_Int, if_true, if_false, AV.one, repCells, fillA, partCells, Nat.reduceLT, Nat.reduceLeDiff, Nat.reduceMul, Nat.reduceSub, Int.reduceLT, Int.reduceLE, Int.reduceAdd, Int.reduceSub, Int.reduceMul, Int.reduceToNat, sliceCells, cellsAt, srcA, app, reduceCtorEq, Int.reduceEq, Int.reduceNeg, Int.reducePow, Nat.reducePow, Int.reduceTDiv, Int.reduceDiv, Nat.reduceDiv, Nat.reduceMod, Int.reduceMod, Int.reduceTMod, ne_eq, subA, beq_iff_eq, unA, minA, maxA, eqFs, eqA1, beq_self_eq_true, Nat.reduceBEq, feedB]
  simp (config := { maxSteps := 4000000 }) (disch := omega) only [step, stepv, ev, wl, wn, wp, aop, cV, cV1, ↓reduceIte, Nat.reduceEqDiff, Nat.reduceAdd, Int.cast_ofNat_Int, if_true, if_false, AV.one, repCells, fillA, partCells, Nat.reduceLT, Nat.reduceLeDiff, Nat.reduceMul, Nat.reduceSub, Int.reduceLT, Int.reduceLE, Int.reduceAdd, Int.reduceSub, Int.reduceMul, Int.reduceToNat, sliceCells, cellsAt, srcA, app, reduceCtorEq, Int.reduceEq, Int.reduceNeg, Int.reducePow, Nat.reducePow, Int.reduceTDiv, Int.reduceDiv, Nat.reduceDiv, Nat.reduceMod, Int.reduceMod, Int.reduceTMod, ne_eq, subA, beq_iff_eq, unA, minA, maxA, eqFs, eqA1, beq_self_eq_true, Nat.reduceBEq]
  refine guardD.dec (fun c3 => ?_) (fun c3 => ?_)
  case refine_2 => simp (config := { maxSteps := 4000000 }) (disch := omega) only [step, stepv, ev, wl, wn, wp, aop, cV, cV1, ↓reduceIte, Nat.reduceEqDiff, Nat.reduceAdd, Int.cast_ofNat_Int, if_true, if_false, AV.one, repCells, fillA, partCells, Nat.reduceLT, Nat.reduceLeDiff, Nat.reduceMul, Nat.reduceSub, Int.reduceLT, Int.reduceLE, Int.reduceAdd, Int.reduceSub, Int.reduceMul, Int.reduceToNat, sliceCells, cellsAt, srcA, app, reduceCtorEq, Int.reduceEq, Int.reduceNeg, Int.reducePow, Nat.reducePow, Int.reduceTDiv, Int.reduceDiv, Nat.reduceDiv, Nat.reduceMod, Int.reduceMod, Int.reduceTMod, ne_eq, subA, beq_iff_eq, unA, minA, maxA, eqFs, eqA1, beq_self_eq_true, Nat.reduceBEq, feedB, c3]
  simp (config := { maxSteps := 4000000 }) (disch := omega) only [step, stepv, ev, wl, wn, wp, aop, cV, cV1, ↓reduceIte, Nat.reduceEqDiff, Nat.reduceAdd, Int.cast_ofNat_Int, if_true, if_false, AV.one, repCells, fillA, partCells, Nat.reduceLT, Nat.reduceLeDiff, Nat.reduceMul, Nat.reduceSub, Int.reduceLT, Int.reduceLE, Int.reduceAdd, Int.reduceSub, Int.reduceMul, Int.reduceToNat, sliceCells, cellsAt, srcA, app, reduceCtorEq, Int.reduceEq, Int.reduceNeg, Int.reducePow, Nat.reducePow, Int.reduceTDiv, Int.reduceDiv, Nat.reduceDiv, Nat.reduceMod, Int.reduceMod, Int.reduceTMod, ne_eq, subA, beq_iff_eq, unA, minA, maxA, eqFs, eqA1, beq_self_eq_true, Nat.reduceBEq, c3]
  refine guardD.ndec (fun c4 => ?_) (fun c4 => ?_)
  case refine_2 => simp (config := { maxSteps := 4000000 }) (disch := omega) only [step, stepv, ev, wl, wn, wp, aop, cV, cV1, ↓reduceIte, Nat.reduceEqDiff, Nat.reduceAdd, Int.cast_ofNat_Int, if_true, if_false, AV.one, repCells, fillA, partCells, Nat.reduceLT, Nat.reduceLeDiff, Nat.reduceMul, Nat.reduceSub, Int.reduceLT, Int.reduceLE, Int.reduceAdd, Int.reduceSub, Int.reduceMul, Int.reduceToNat, sliceCells, cellsAt, srcA, app, reduceCtorEq, Int.reduceEq, Int.reduceNeg, Int.reducePow, Nat.reducePow, Int.reduceTDiv, Int.reduceDiv, Nat.reduceDiv, Nat.reduceMod, Int.reduceMod, Int.reduceTMod, ne_eq, subA, beq_iff_eq, unA, minA, maxA, eqFs, eqA1, beq_self_eq_true, Nat.reduceBEq, feedB]
  simp (config := { maxSteps := 4000000 }) (disch := omega) only [step, stepv, ev, wl, wn, wp, aop, cV, cV1, ↓reduceIte, Nat.reduceEqDiff, Nat.reduceAdd, Int.cast_ofNat_Int, if_true, if_false, AV.one, repCells, fillA, partCells, Nat.reduceLT, Nat.reduceLeDiff, Nat.reduceMul, Nat.reduceSub, Int.reduceLT, Int.reduceLE, Int.reduceAdd, Int.reduceSub, Int.reduceMul, Int.reduceToNat, sliceCells, cellsAt, srcA, app, reduceCtorEq, Int.reduceEq, Int.reduceNeg, Int.reducePow, Nat.reducePow, Int.reduceTDiv, Int.reduceDiv, Nat.reduceDiv, Nat.reduceMod, Int.reduceMod, Int.reduceTMod, ne_eq, subA, beq_iff_eq, unA, minA, maxA, eqFs, eqA1, beq_self_eq_true, Nat.reduceBEq]
  refine condQ.dec (fun c5 => ?_) (fun c5 => ?_)
  case refine_1 => simp (config := { maxSteps := 4000000 }) (disch := omega) only [step, stepv, ev, wl, wn, wp, aop, cV, cV1, ↓reduceIte, Nat.reduceEqDiff, Nat.reduceAdd, Int.cast_ofNat_Int, if_true, if_false, AV.one, repCells, fillA, partCells, Nat.reduceLT, Nat.reduceLeDiff, Nat.reduceMul, Nat.reduceSub, Int.reduceLT, Int.reduceLE, Int.reduceAdd, Int.reduceSub, Int.reduceMul, Int.reduceToNat, sliceCells, cellsAt, srcA, app, reduceCtorEq, Int.reduceEq, Int.reduceNeg, Int.reducePow, Nat.reducePow, Int.reduceTDiv, Int.reduceDiv, Nat.reduceDiv, Nat.reduceMod, Int.reduceMod, Int.reduceTMod, ne_eq, subA, beq_iff_eq, unA, minA, maxA, eqFs, eqA1, beq_self_eq_true, Nat.reduceBEq, feedB]
  simp (config := { maxSteps := 4000000 }) (disch := omega) only [step, stepv, ev, wl, wn, wp, aop, cV, cV1, ↓reduceIte, Nat.reduceEqDiff, Nat.reduceAdd, Int.cast_ofNat_Int, if_true, if_false, AV.one, repCells, fillA, partCells, Nat.reduceLT, Nat.reduceLeDiff, Nat.reduceMul, Nat.reduceSub, Int.reduceLT, Int.reduceLE, Int.reduceAdd, Int.reduceSub, Int.reduceMul, Int.reduceToNat, sliceCells, cellsAt, srcA, app, reduceCtorEq, Int.reduceEq, Int.reduceNeg, Int.reducePow, Nat.reducePow, Int.reduceTDiv, Int.reduceDiv, Nat.reduceDiv, Nat.reduceMod, Int.reduceMod, Int.reduceTMod, ne_eq, subA, beq_iff_eq, unA, minA, maxA, eqFs, eqA1, beq_self_eq_true, Nat.reduceBEq]
  refine callQ.vc hWo ?_
  simp (config := { maxSteps := 4000000 }) (disch := omega) only [step, stepv, ev, wl, wn, wp, aop, cV, cV1, ↓reduceIte, Nat.reduceEqDiff, Nat.reduceAdd, Int.cast_ofNat_Int, if_true, if_false, AV.one, repCells, fillA, partCells, Nat.reduceLT, Nat.reduceLeDiff, Nat.reduceMul, Nat.reduceSub, Int.reduceLT, Int.reduceLE, Int.reduceAdd, Int.reduceSub, Int.reduceMul, Int.reduceToNat, sliceCells, cellsAt, srcA, app, reduceCtorEq, Int.reduceEq, Int.reduceNeg, Int.reducePow, Nat.reducePow, Int.reduceTDiv, Int.reduceDiv, Nat.reduceDiv, Nat.reduceMod, Int.reduceMod, Int.reduceTMod, ne_eq, subA, beq_iff_eq, unA, minA, maxA, eqFs, eqA1, beq_self_eq_true, Nat.reduceBEq]
  refine condQ.ndec (fun c6 => ?_) (fun c6 => ?_)
  case refine_1 => simp (config := { maxSteps := 4000000 }) (disch := omega) only [step, stepv, ev, wl, wn, wp, aop, cV, cV1, ↓reduceIte, Nat.reduceEqDiff, Nat.reduceAdd, Int.cast_ofNat_Int, if_true, if_false, AV.one, repCells, fillA, partCells, Nat.reduceLT, Nat.reduceLeDiff, Nat.reduceMul, Nat.reduceSub, Int.reduceLT, Int.reduceLE, Int.reduceAdd, Int.reduceSub, Int.reduceMul, Int.reduceToNat, sliceCells, cellsAt, srcA, app, reduceCtorEq, Int.reduceEq, Int.reduceNeg, Int.reducePow, Nat.reducePow, Int.reduceTDiv, Int.reduceDiv, Nat.reduceDiv, Nat.reduceMod, Int.reduceMod, Int.reduceTMod, ne_eq, subA, beq_iff_eq, unA, minA, maxA, eqFs, eqA1, beq_self_eq_true, Nat.reduceBEq, feedB, c6]
  simp (config := { maxSteps := 4000000 }) (disch := omega) only [step, stepv, ev, wl, wn, wp, aop, cV, cV1, ↓reduceIte, Nat.reduceEqDiff, Nat.reduceAdd, Int.cast_ofNat_Int, if_true, if_false, AV.one, repCells, fillA, partCells, Nat.reduceLT, Nat.reduceLeDiff, Nat.reduceMul, Nat.reduceSub, Int.reduceLT, Int.reduceLE, Int.reduceAdd, Int.reduceSub, Int.reduceMul, Int.reduceToNat, sliceCells, cellsAt, srcA, app, reduceCtorEq, Int.reduceEq, Int.reduceNeg, Int.reducePow, Nat.reducePow, Int.reduceTDiv, Int.reduceDiv, Nat.reduceDiv, Nat.reduceMod, Int.reduceMod, Int.reduceTMod, ne_eq, subA, beq_iff_eq, unA, minA, maxA, eqFs, eqA1, beq_self_eq_true, Nat.reduceBEq]
  have hok : okE e := ⟨r2, r3, by omega, o2, o3⟩
  have hCo := hC e (longN e.rate) hok (by omega) hL2
  have hfm := frs_mul (n := e.frs.length) (L := longN e.rate) (by omega) (by omega) hL2
  have hcn : 0 ≤ countN e (longN e.rate) ∧ countN e (longN e.rate) ≤ 2000000000 := by unfold countN; omega
  have hRo := fun n => hR e n (countN e (longN e.rate)) r2 r3 hcn.1 hcn.2
  have hS1 := fun m => hS (List UInt8) e.frs bs (badLen m) fB [] [.cell [.int .i64 m]] rfl rfl isD_bs (by omega) (fun x _ => hB x m)
  simp only [encA, encL, il, bss, bs, shA] at hCo hRo hS1
  refine condQ.dec (fun c7 => ?_) (fun c7 => ?_)
  · simp (config := { maxSteps := 4000000 }) (disch := omega) only [step, stepv, ev, wl, wn, wp, aop, cV, cV1, ↓reduceIte, Nat.reduceEqDiff, Nat.reduceAdd, Int.cast_ofNat_Int, if_true, if_false, AV.one, repCells, fillA, partCells, Nat.reduceLT, Nat.reduceLeDiff, Nat.reduceMul, Nat.reduceSub, Int.reduceLT, Int.reduceLE, Int.reduceAdd, Int.reduceSub, Int.reduceMul, Int.reduceToNat, sliceCells, cellsAt, srcA, app, reduceCtorEq, Int.reduceEq, Int.reduceNeg, Int.reducePow, Nat.reducePow, Int.reduceTDiv, Int.reduceDiv, Nat.reduceDiv, Nat.reduceMod, Int.reduceMod, Int.reduceTMod, ne_eq, subA, beq_iff_eq, unA, minA, maxA, eqFs, eqA1, beq_self_eq_true, Nat.reduceBEq]
    refine callD.vc hCo ?_
    simp (config := { maxSteps := 4000000 }) (disch := omega) only [step, stepv, ev, wl, wn, wp, aop, cV, cV1, ↓reduceIte, Nat.reduceEqDiff, Nat.reduceAdd, Int.cast_ofNat_Int, if_true, if_false, AV.one, repCells, fillA, partCells, Nat.reduceLT, Nat.reduceLeDiff, Nat.reduceMul, Nat.reduceSub, Int.reduceLT, Int.reduceLE, Int.reduceAdd, Int.reduceSub, Int.reduceMul, Int.reduceToNat, sliceCells, cellsAt, srcA, app, reduceCtorEq, Int.reduceEq, Int.reduceNeg, Int.reducePow, Nat.reducePow, Int.reduceTDiv, Int.reduceDiv, Nat.reduceDiv, Nat.reduceMod, Int.reduceMod, Int.reduceTMod, ne_eq, subA, beq_iff_eq, unA, minA, maxA, eqFs, eqA1, beq_self_eq_true, Nat.reduceBEq]
    refine callD.vc (hRo _) ?_
    cases hv : roomB e.ch ((e.frs.length : Int) + 1) (countN e (longN e.rate)) with
    | false => simp (config := { maxSteps := 4000000 }) (disch := omega) only [step, stepv, ev, wl, wn, wp, aop, cV, cV1, ↓reduceIte, Nat.reduceEqDiff, Nat.reduceAdd, Int.cast_ofNat_Int, if_true, if_false, AV.one, repCells, fillA, partCells, Nat.reduceLT, Nat.reduceLeDiff, Nat.reduceMul, Nat.reduceSub, Int.reduceLT, Int.reduceLE, Int.reduceAdd, Int.reduceSub, Int.reduceMul, Int.reduceToNat, sliceCells, cellsAt, srcA, app, reduceCtorEq, Int.reduceEq, Int.reduceNeg, Int.reducePow, Nat.reducePow, Int.reduceTDiv, Int.reduceDiv, Nat.reduceDiv, Nat.reduceMod, Int.reduceMod, Int.reduceTMod, ne_eq, subA, beq_iff_eq, unA, minA, maxA, eqFs, eqA1, beq_self_eq_true, Nat.reduceBEq, hv]
    | true =>
      simp (config := { maxSteps := 4000000 }) (disch := omega) only [step, stepv, ev, wl, wn, wp, aop, cV, cV1, ↓reduceIte, Nat.reduceEqDiff, Nat.reduceAdd, Int.cast_ofNat_Int, if_true, if_false, AV.one, repCells, fillA, partCells, Nat.reduceLT, Nat.reduceLeDiff, Nat.reduceMul, Nat.reduceSub, Int.reduceLT, Int.reduceLE, Int.reduceAdd, Int.reduceSub, Int.reduceMul, Int.reduceToNat, sliceCells, cellsAt, srcA, app, reduceCtorEq, Int.reduceEq, Int.reduceNeg, Int.reducePow, Nat.reducePow, Int.reduceTDiv, Int.reduceDiv, Nat.reduceDiv, Nat.reduceMod, Int.reduceMod, Int.reduceTMod, ne_eq, subA, beq_iff_eq, unA, minA, maxA, eqFs, eqA1, beq_self_eq_true, Nat.reduceBEq]
      refine callQ.flat 1 (hS1 ((81 * longN e.rate * e.ch + 7) / 8 + 4)) rfl (by simp [frzN, frzK, frzL, frzV, isDL, isD, frzL_T _ (isTL_bss e.frs)]) ?_
      simp (config := { maxSteps := 4000000 }) (disch := omega) only [step, stepv, ev, wl, wn, wp, aop, cV, cV1, ↓reduceIte, Nat.reduceEqDiff, Nat.reduceAdd, Int.cast_ofNat_Int, if_true, if_false, AV.one, repCells, fillA, partCells, Nat.reduceLT, Nat.reduceLeDiff, Nat.reduceMul, Nat.reduceSub, Int.reduceLT, Int.reduceLE, Int.reduceAdd, Int.reduceSub, Int.reduceMul, Int.reduceToNat, sliceCells, cellsAt, srcA, app, reduceCtorEq, Int.reduceEq, Int.reduceNeg, Int.reducePow, Nat.reducePow, Int.reduceTDiv, Int.reduceDiv, Nat.reduceDiv, Nat.reduceMod, Int.reduceMod, Int.reduceTMod, ne_eq, subA, beq_iff_eq, unA, minA, maxA, eqFs, eqA1, beq_self_eq_true, Nat.reduceBEq, hv]
  · simp (config := { maxSteps := 4000000 }) (disch := omega) only [step, stepv, ev, wl, wn, wp, aop, cV, cV1, ↓reduceIte, Nat.reduceEqDiff, Nat.reduceAdd, Int.cast_ofNat_Int, if_true, if_false, AV.one, repCells, fillA, partCells, Nat.reduceLT, Nat.reduceLeDiff, Nat.reduceMul, Nat.reduceSub, Int.reduceLT, Int.reduceLE, Int.reduceAdd, Int.reduceSub, Int.reduceMul, Int.reduceToNat, sliceCells, cellsAt, srcA, app, reduceCtorEq, Int.reduceEq, Int.reduceNeg, Int.reducePow, Nat.reducePow, Int.reduceTDiv, Int.reduceDiv, Nat.reduceDiv, Nat.reduceMod, Int.reduceMod, Int.reduceTMod, ne_eq, subA, beq_iff_eq, unA, minA, maxA, eqFs, eqA1, beq_self_eq_true, Nat.reduceBEq]
    refine callD.vc hCo ?_
    simp (config := { maxSteps := 4000000 }) (disch := omega) only [step, stepv, ev, wl, wn, wp, aop, cV, cV1, ↓reduceIte, Nat.reduceEqDiff, Nat.reduceAdd, Int.cast_ofNat_Int, if_true, if_false, AV.one, repCells, fillA, partCells, Nat.reduceLT, Nat.reduceLeDiff, Nat.reduceMul, Nat.reduceSub, Int.reduceLT, Int.reduceLE, Int.reduceAdd, Int.reduceSub, Int.reduceMul, Int.reduceToNat, sliceCells, cellsAt, srcA, app, reduceCtorEq, Int.reduceEq, Int.reduceNeg, Int.reducePow, Nat.reducePow, Int.reduceTDiv, Int.reduceDiv, Nat.reduceDiv, Nat.reduceMod, Int.reduceMod, Int.reduceTMod, ne_eq, subA, beq_iff_eq, unA, minA, maxA, eqFs, eqA1, beq_self_eq_true, Nat.reduceBEq]
    refine callD.vc (hRo _) ?_
    cases hv : roomB e.ch (e.frs.length : Int) (countN e (longN e.rate)) with
    | false => simp (config := { maxSteps := 4000000 }) (disch := omega) only [step, stepv, ev, wl, wn, wp, aop, cV, cV1, ↓reduceIte, Nat.reduceEqDiff, Nat.reduceAdd, Int.cast_ofNat_Int, if_true, if_false, AV.one, repCells, fillA, partCells, Nat.reduceLT, Nat.reduceLeDiff, Nat.reduceMul, Nat.reduceSub, Int.reduceLT, Int.reduceLE, Int.reduceAdd, Int.reduceSub, Int.reduceMul, Int.reduceToNat, sliceCells, cellsAt, srcA, app, reduceCtorEq, Int.reduceEq, Int.reduceNeg, Int.reducePow, Nat.reducePow, Int.reduceTDiv, Int.reduceDiv, Nat.reduceDiv, Nat.reduceMod, Int.reduceMod, Int.reduceTMod, ne_eq, subA, beq_iff_eq, unA, minA, maxA, eqFs, eqA1, beq_self_eq_true, Nat.reduceBEq, Int.add_zero, hv]
    | true =>
      simp (config := { maxSteps := 4000000 }) (disch := omega) only [step, stepv, ev, wl, wn, wp, aop, cV, cV1, ↓reduceIte, Nat.reduceEqDiff, Nat.reduceAdd, Int.cast_ofNat_Int, if_true, if_false, AV.one, repCells, fillA, partCells, Nat.reduceLT, Nat.reduceLeDiff, Nat.reduceMul, Nat.reduceSub, Int.reduceLT, Int.reduceLE, Int.reduceAdd, Int.reduceSub, Int.reduceMul, Int.reduceToNat, sliceCells, cellsAt, srcA, app, reduceCtorEq, Int.reduceEq, Int.reduceNeg, Int.reducePow, Nat.reducePow, Int.reduceTDiv, Int.reduceDiv, Nat.reduceDiv, Nat.reduceMod, Int.reduceMod, Int.reduceTMod, ne_eq, subA, beq_iff_eq, unA, minA, maxA, eqFs, eqA1, beq_self_eq_true, Nat.reduceBEq]
      refine callQ.flat 1 (hS1 ((81 * longN e.rate * e.ch + 7) / 8 + 4)) rfl (by simp [frzN, frzK, frzL, frzV, isDL, isD, frzL_T _ (isTL_bss e.frs)]) ?_
      simp (config := { maxSteps := 4000000 }) (disch := omega) only [step, stepv, ev, wl, wn, wp, aop, cV, cV1, ↓reduceIte, Nat.reduceEqDiff, Nat.reduceAdd, Int.cast_ofNat_Int, if_true, if_false, AV.one, repCells, fillA, partCells, Nat.reduceLT, Nat.reduceLeDiff, Nat.reduceMul, Nat.reduceSub, Int.reduceLT, Int.reduceLE, Int.reduceAdd, Int.reduceSub, Int.reduceMul, Int.reduceToNat, sliceCells, cellsAt, srcA, app, reduceCtorEq, Int.reduceEq, Int.reduceNeg, Int.reducePow, Nat.reducePow, Int.reduceTDiv, Int.reduceDiv, Nat.reduceDiv, Nat.reduceMod, Int.reduceMod, Int.reduceTMod, ne_eq, subA, beq_iff_eq, unA, minA, maxA, eqFs, eqA1, beq_self_eq_true, Nat.reduceBEq, Int.add_zero, hv]
end Go.Am

namespace Go.Am
open Go.RowKit

def S_RFeeding (P : Program) (f : Nat) : Prop := ∀ e : Enc, okF e → VC P f [encA e] (.bool (feedB e))

theorem mulL {L c : Int} (h1 : 1 ≤ L) (h2 : L ≤ 1095654) (h3 : 1 ≤ c) (h4 : c ≤ 6) : 0 ≤ L * c ∧ L * c ≤ 6573924 := by
  have : c = 1 ∨ c = 2 ∨ c = 3 ∨ c = 4 ∨ c = 5 ∨ c = 6 := by omega
  rcases this with rfl | rfl | rfl | rfl | rfl | rfl <;> omega

theorem isT_bs' (l : List UInt8) : isT (bs l) = true := by
  simp [bs, isT]; induction l with | nil => rfl | cons y x ih => simp [u8_cons, isTL, isT, ih]

set_option maxHeartbeats 4000000 in
set_option maxRecDepth 20000 in
theorem ref36_feeding {P : Program} {f fL fM fW fC fR t0 : Nat} (b : Body P f 104 [.tmp 2] (ac_cadenzaref36_feeding fL fM fW fC fR t0)) (hLo : S_RLong P fL) (hM : S_Moment P fM) (hW : S_WCheck P fW) (hC : S_RCount P fC) (hR : S_Room P fR) : S_RFeeding P f := by
  intro e ⟨hr, o1, o2, o3, o4, o5⟩
  obtain ⟨⟨r1, r2, r3⟩, ⟨r4, r5⟩, r6⟩ := rightB_iff.1 hr
  have hz : longZ e.rate = longN e.rate := by unfold longZ; rw [if_neg (by omega)]
  have hd := div_small (n := e.smp.length) r2
  have hm := mod_small (n := e.smp.length) r2
  have hL := longN_pos e.rate
  have hL2 := longN_le r5
  have hmul := mul_small r2 r3 r1
  have hmul3 := mul3 hL hL2 r2 r3
  have hmulL := mulL hL hL2 r2 r3
  have hMo := hM e.ch e.bits r2 r3 r1
  have hWo := hW e.bits e.smp o3
  have hle := hLo e
  have hle2 : longN e.rate ≤ (e.smp.length : Int) / e.ch ↔ longN e.rate * e.ch ≤ e.smp.length := Int.le_ediv_iff_mul_le (by omega)
  rw [hz] at hle
  refine VC.of_acall (by simp [isDL, isD_enc, isD]) rfl (ACall.of_body b (by simp) ?_)
  simp only [encA, encL, il, bss, bs, shA] at hMo hWo hle ⊢
  unfold feedB
  simp (config := { maxSteps := 4000000 }) (disch := omega) only [step, stepv, ev, wl, wn, wp, aop, cV, cV1, ↓reduceIte, Nat.reduceEqDiff, Nat.reduceAdd, Int.cast_ofNat_Int, if_true, if_false, AV.one, repCells, fillA, partCells, Nat.reduceLT, Nat.reduceLeDiff, Nat.reduceMul, Nat.reduceSub, Int.reduceLT, Int.reduceLE, Int.reduceAdd, Int.reduceSub, Int.reduceMul, Int.reduceToNat, sliceCells, cellsAt, srcA, app, reduceCtorEq, Int.reduceEq, Int.reduceNeg, Int.reducePow, Nat.reducePow, Int.reduceTDiv, Int.reduceDiv, Nat.reduceDiv, Nat.reduceMod, Int.reduceMod, Int.reduceTMod, ne_eq, subA, beq_iff_eq, unA, minA, maxA, eqFs, eqA1, beq_self_eq_true, Nat.reduceBEq, ac_cadenzaref36_feeding]
  refine callQ.vc hle ?_
  simp (config := { maxSteps := 4000000 }) (disch := omega) only [step, stepv, ev, wl, wn, wp, aop, cV, cV1, ↓reduceIte, Nat.reduceEqDiff, Nat.reduceAdd, Int.cast_ofNat_Int, if_true, if_false, AV.one, repCells, fillA, partCells, Nat.reduceLT, Nat.reduceLeDiff, Nat.reduceMul, Nat.reduceSub, Int.reduceLT, Int.reduceLE, Int.reduceAdd, Int.reduceSub, Int.reduceMul, Int.reduceToNat, sliceCells, cellsAt, srcA, app, reduceCtorEq, Int.reduceEq, Int.reduceNeg, Int.reducePow, Nat.reducePow, Int.reduceTDiv, Int.reduceDiv, Nat.reduceDiv, Nat.reduceMod, Int.reduceMod, Int.reduceTMod, ne_eq, subA, beq_iff_eq, unA, minA, maxA, eqFs, eqA1, beq_self_eq_true, Nat.reduceBEq]
  refine guardD.ndec (fun c1 => ?_) (fun c1 => ?_)
  case refine_2 => simp (config := { maxSteps := 4000000 }) (disch := omega) only [step, stepv, ev, wl, wn, wp, aop, cV, cV1, ↓reduceIte, Nat.reduceEqDiff, Nat.reduceAdd, Int.cast_ofNat_Int, if_true, if_false, AV.one, repCells, fillA, partCells, Nat.reduceLT, Nat.reduceLeDiff, Nat.reduceMul, Nat.reduceSub, Int.reduceLT, Int.reduceLE, Int.reduceAdd, Int.reduceSub, Int.reduceMul, Int.reduceToNat, sliceCells, cellsAt, srcA, app, reduceCtorEq, Int.reduceEq, Int.reduceNeg, Int.reducePow, Nat.reducePow, Int.reduceTDiv, Int.reduceDiv, Nat.reduceDiv, Nat.reduceMod, Int.reduceMod, Int.reduceTMod, ne_eq, subA, beq_iff_eq, unA, minA, maxA, eqFs, eqA1, beq_self_eq_true, Nat.reduceBEq]
  simp (config := { maxSteps := 4000000 }) (disch := omega) only [step, stepv, ev, wl, wn, wp, aop, cV, cV1, ↓reduceIte, Nat.reduceEqDiff, Nat.reduceAdd, Int.cast_ofNat_Int, if_true, if_false, AV.one, repCells, fillA, partCells, Nat.reduceLT, Nat.reduceLeDiff, Nat.reduceMul, Nat.reduceSub, Int.reduceLT, Int.reduceLE, Int.reduceAdd, Int.reduceSub, Int.reduceMul, Int.reduceToNat, sliceCells, cellsAt, srcA, app, reduceCtorEq, Int.reduceEq, Int.reduceNeg, Int.reducePow, Nat.reducePow, Int.reduceTDiv, Int.reduceDiv, Nat.reduceDiv, Nat.reduceMod, Int.reduceMod, Int.reduceTMod, ne_eq, subA, beq_iff_eq, unA, minA, maxA, eqFs, eqA1, beq_self_eq_true, Nat.reduceBEq]
  refine callD.vc hMo ?_
  simp (config := { maxSteps := 4000000 }) (disch := omega) only [step, stepv, ev, wl, wn, wp, aop, cV, cV1, ↓reduceIte, Nat.reduceEqDiff, Nat.reduceAdd, Int.cast_ofNat_Int, if_true, if_false, AV.one, repCells, fillA, partCells, Nat.reduceLT, Nat.reduceLeDiff, Nat.reduceMul, Nat.reduceSub, Int.reduceLT, Int.reduceLE, Int.reduceAdd, Int.reduceSub, Int.reduceMul, Int.reduceToNat, sliceCells, cellsAt, srcA, app, reduceCtorEq, Int.reduceEq, Int.reduceNeg, Int.reducePow, Nat.reducePow, Int.reduceTDiv, Int.reduceDiv, Nat.reduceDiv, Nat.reduceMod, Int.reduceMod, Int.reduceTMod, ne_eq, subA, beq_iff_eq, unA, minA, maxA, eqFs, eqA1, beq_self_eq_true, Nat.reduceBEq]
  refine guardD.ndec (fun c2 => ?_) (fun c2 => ?_)
  case refine_2 => simp (config := { maxSteps := 4000000 }) (disch := omega) only [step, stepv, ev, wl, wn, wp, aop, cV, cV1, ↓reduceIte, Nat.reduceEqDiff, Nat.reduceAdd, Int.cast_ofNat_Int, if_true, if_false, AV.one, repCells, fillA, partCells, Nat.reduceLT, Nat.reduceLeDiff, Nat.reduceMul, Nat.reduceSub, Int.reduceLT, Int.reduceLE, Int.reduceAdd, Int.reduceSub, Int.reduceMul, Int.reduceToNat, sliceCells, cellsAt, srcA, app, reduceCtorEq, Int.reduceEq, Int.reduceNeg, Int.reducePow, Nat.reducePow, Int.reduceTDiv, Int.reduceDiv, Nat.reduceDiv, Nat.reduceMod, Int.reduceMod, Int.reduceTMod, ne_eq, subA, beq_iff_eq, unA, minA, maxA, eqFs, eqA1, beq_self_eq_true, Nat.reduceBEq]
  simp (config := { maxSteps := 4000000 }) (disch := omega) only [step, stepv, ev, wl, wn, wp, aop, cV, cV1, ↓reduceIte, Nat.reduceEqDiff, Nat.reduceAdd, Int.cast_ofNat_Int, if_true, if_false, AV.one, repCells, fillA, partCells, Nat.reduceLT, Nat.reduceLeDiff, Nat.reduceMul, Nat.reduceSub, Int.reduceLT, Int.reduceLE, Int.reduceAdd, Int.reduceSub, Int.reduceMul, Int.reduceToNat, sliceCells, cellsAt, srcA, app, reduceCtorEq, Int.reduceEq, Int.reduceNeg, Int.reducePow, Nat.reducePow, Int.reduceTDiv, Int.reduceDiv, Nat.reduceDiv, Nat.reduceMod, Int.reduceMod, Int.reduceTMod, ne_eq, subA, beq_iff_eq, unA, minA, maxA, eqFs, eqA1, beq_self_eq_true, Nat.reduceBEq]
  refine guardD.dec (fun c3 => ?_) (fun c3 => ?_)
  case refine_2 => simp (config := { maxSteps := 4000000 }) (disch := omega) only [step, stepv, ev, wl, wn, wp, aop, cV, cV1, ↓reduceIte, Nat.reduceEqDiff, Nat.reduceAdd, Int.cast_ofNat_Int, if_true, if_false, AV.one, repCells, fillA, partCells, Nat.reduceLT, Nat.reduceLeDiff, Nat.reduceMul, Nat.reduceSub, Int.reduceLT, Int.reduceLE, Int.reduceAdd, Int.reduceSub, Int.reduceMul, Int.reduceToNat, sliceCells, cellsAt, srcA, app, reduceCtorEq, Int.reduceEq, Int.reduceNeg, Int.reducePow, Nat.reducePow, Int.reduceTDiv, Int.reduceDiv, Nat.reduceDiv, Nat.reduceMod, Int.reduceMod, Int.reduceTMod, ne_eq, subA, beq_iff_eq, unA, minA, maxA, eqFs, eqA1, beq_self_eq_true, Nat.reduceBEq, c3]
  simp (config := { maxSteps := 4000000 }) (disch := omega) only [step, stepv, ev, wl, wn, wp, aop, cV, cV1, ↓reduceIte, Nat.reduceEqDiff, Nat.reduceAdd, Int.cast_ofNat_Int, if_true, if_false, AV.one, repCells, fillA, partCells, Nat.reduceLT, Nat.reduceLeDiff, Nat.reduceMul, Nat.reduceSub, Int.reduceLT, Int.reduceLE, Int.reduceAdd, Int.reduceSub, Int.reduceMul, Int.reduceToNat, sliceCells, cellsAt, srcA, app, reduceCtorEq, Int.reduceEq, Int.reduceNeg, Int.reducePow, Nat.reducePow, Int.reduceTDiv, Int.reduceDiv, Nat.reduceDiv, Nat.reduceMod, Int.reduceMod, Int.reduceTMod, ne_eq, subA, beq_iff_eq, unA, minA, maxA, eqFs, eqA1, beq_self_eq_true, Nat.reduceBEq, c3]
  refine guardD.ndec (fun c4 => ?_) (fun c4 => ?_)
  case refine_2 => simp (config := { maxSteps := 4000000 }) (disch := omega) only [step, stepv, ev, wl, wn, wp, aop, cV, cV1, ↓reduceIte, Nat.reduceEqDiff, Nat.reduceAdd, Int.cast_ofNat_Int, if_true, if_false, AV.one, repCells, fillA, partCells, Nat.reduceLT, Nat.reduceLeDiff, Nat.reduceMul, Nat.reduceSub, Int.reduceLT, Int.reduceLE, Int.reduceAdd, Int.reduceSub, Int.reduceMul, Int.reduceToNat, sliceCells, cellsAt, srcA, app, reduceCtorEq, Int.reduceEq, Int.reduceNeg, Int.reducePow, Nat.reducePow, Int.reduceTDiv, Int.reduceDiv, Nat.reduceDiv, Nat.reduceMod, Int.reduceMod, Int.reduceTMod, ne_eq, subA, beq_iff_eq, unA, minA, maxA, eqFs, eqA1, beq_self_eq_true, Nat.reduceBEq, hle2]
  have c4' : (e.smp.length : Int) / e.ch < longN e.rate := by omega
  simp (config := { maxSteps := 4000000 }) (disch := omega) only [step, stepv, ev, wl, wn, wp, aop, cV, cV1, ↓reduceIte, Nat.reduceEqDiff, Nat.reduceAdd, Int.cast_ofNat_Int, if_true, if_false, AV.one, repCells, fillA, partCells, Nat.reduceLT, Nat.reduceLeDiff, Nat.reduceMul, Nat.reduceSub, Int.reduceLT, Int.reduceLE, Int.reduceAdd, Int.reduceSub, Int.reduceMul, Int.reduceToNat, sliceCells, cellsAt, srcA, app, reduceCtorEq, Int.reduceEq, Int.reduceNeg, Int.reducePow, Nat.reducePow, Int.reduceTDiv, Int.reduceDiv, Nat.reduceDiv, Nat.reduceMod, Int.reduceMod, Int.reduceTMod, ne_eq, subA, beq_iff_eq, unA, minA, maxA, eqFs, eqA1, beq_self_eq_true, Nat.reduceBEq]
  refine callD.vc hWo ?_
  simp (config := { maxSteps := 4000000 }) (disch := omega) only [step, stepv, ev, wl, wn, wp, aop, cV, cV1, ↓reduceIte, Nat.reduceEqDiff, Nat.reduceAdd, Int.cast_ofNat_Int, if_true, if_false, AV.one, repCells, fillA, partCells, Nat.reduceLT, Nat.reduceLeDiff, Nat.reduceMul, Nat.reduceSub, Int.reduceLT, Int.reduceLE, Int.reduceAdd, Int.reduceSub, Int.reduceMul, Int.reduceToNat, sliceCells, cellsAt, srcA, app, reduceCtorEq, Int.reduceEq, Int.reduceNeg, Int.reducePow, Nat.reducePow, Int.reduceTDiv, Int.reduceDiv, Nat.reduceDiv, Nat.reduceMod, Int.reduceMod, Int.reduceTMod, ne_eq, subA, beq_iff_eq, unA, minA, maxA, eqFs, eqA1, beq_self_eq_true, Nat.reduceBEq]
  refine guardD.dec (fun c6 => ?_) (fun c6 => ?_)
  case refine_2 =>
    by_cases c5 : 1000 < e.frs.length
    · simp (config := { maxSteps := 4000000 }) (disch := omega) only [step, stepv, ev, wl, wn, wp, aop, cV, cV1, ↓reduceIte, Nat.reduceEqDiff, Nat.reduceAdd, Int.cast_ofNat_Int, if_true, if_false, AV.one, repCells, fillA, partCells, Nat.reduceLT, Nat.reduceLeDiff, Nat.reduceMul, Nat.reduceSub, Int.reduceLT, Int.reduceLE, Int.reduceAdd, Int.reduceSub, Int.reduceMul, Int.reduceToNat, sliceCells, cellsAt, srcA, app, reduceCtorEq, Int.reduceEq, Int.reduceNeg, Int.reducePow, Nat.reducePow, Int.reduceTDiv, Int.reduceDiv, Nat.reduceDiv, Nat.reduceMod, Int.reduceMod, Int.reduceTMod, ne_eq, subA, beq_iff_eq, unA, minA, maxA, eqFs, eqA1, beq_self_eq_true, Nat.reduceBEq, c6]
    · simp (config := { maxSteps := 4000000 }) (disch := omega) only [step, stepv, ev, wl, wn, wp, aop, cV, cV1, ↓reduceIte, Nat.reduceEqDiff, Nat.reduceAdd, Int.cast_ofNat_Int, if_true, if_false, AV.one, repCells, fillA, partCells, Nat.reduceLT, Nat.reduceLeDiff, Nat.reduceMul, Nat.reduceSub, Int.reduceLT, Int.reduceLE, Int.reduceAdd, Int.reduceSub, Int.reduceMul, Int.reduceToNat, sliceCells, cellsAt, srcA, app, reduceCtorEq, Int.reduceEq, Int.reduceNeg, Int.reducePow, Nat.reducePow, Int.reduceTDiv, Int.reduceDiv, Nat.reduceDiv, Nat.reduceMod, Int.reduceMod, Int.reduceTMod, ne_eq, subA, beq_iff_eq, unA, minA, maxA, eqFs, eqA1, beq_self_eq_true, Nat.reduceBEq, c6]
  simp (config := { maxSteps := 4000000 }) (disch := omega) only [step, stepv, ev, wl, wn, wp, aop, cV, cV1, ↓reduceIte, Nat.reduceEqDiff, Nat.reduceAdd, Int.cast_ofNat_Int, if_true, if_false, AV.one, repCells, fillA, partCells, Nat.reduceLT, Nat.reduceLeDiff, Nat.reduceMul, Nat.reduceSub, Int.reduceLT, Int.reduceLE, Int.reduceAdd, Int.reduceSub, Int.reduceMul, Int.reduceToNat, sliceCells, cellsAt, srcA, app, reduceCtorEq, Int.reduceEq, Int.reduceNeg, Int.reducePow, Nat.reducePow, Int.reduceTDiv, Int.reduceDiv, Nat.reduceDiv, Nat.reduceMod, Int.reduceMod, Int.reduceTMod, ne_eq, subA, beq_iff_eq, unA, minA, maxA, eqFs, eqA1, beq_self_eq_true, Nat.reduceBEq, c6]
  refine condQ.dec (fun c5 => ?_) (fun c5 => ?_)
  case refine_1 => simp (config := { maxSteps := 4000000 }) (disch := omega) only [step, stepv, ev, wl, wn, wp, aop, cV, cV1, ↓reduceIte, Nat.reduceEqDiff, Nat.reduceAdd, Int.cast_ofNat_Int, if_true, if_false, AV.one, repCells, fillA, partCells, Nat.reduceLT, Nat.reduceLeDiff, Nat.reduceMul, Nat.reduceSub, Int.reduceLT, Int.reduceLE, Int.reduceAdd, Int.reduceSub, Int.reduceMul, Int.reduceToNat, sliceCells, cellsAt, srcA, app, reduceCtorEq, Int.reduceEq, Int.reduceNeg, Int.reducePow, Nat.reducePow, Int.reduceTDiv, Int.reduceDiv, Nat.reduceDiv, Nat.reduceMod, Int.reduceMod, Int.reduceTMod, ne_eq, subA, beq_iff_eq, unA, minA, maxA, eqFs, eqA1, beq_self_eq_true, Nat.reduceBEq]
  simp (config := { maxSteps := 4000000 }) (disch := omega) only [step, stepv, ev, wl, wn, wp, aop, cV, cV1, ↓reduceIte, Nat.reduceEqDiff, Nat.reduceAdd, Int.cast_ofNat_Int, if_true, if_false, AV.one, repCells, fillA, partCells, Nat.reduceLT, Nat.reduceLeDiff, Nat.reduceMul, Nat.reduceSub, Int.reduceLT, Int.reduceLE, Int.reduceAdd, Int.reduceSub, Int.reduceMul, Int.reduceToNat, sliceCells, cellsAt, srcA, app, reduceCtorEq, Int.reduceEq, Int.reduceNeg, Int.reducePow, Nat.reducePow, Int.reduceTDiv, Int.reduceDiv, Nat.reduceDiv, Nat.reduceMod, Int.reduceMod, Int.reduceTMod, ne_eq, subA, beq_iff_eq, unA, minA, maxA, eqFs, eqA1, beq_self_eq_true, Nat.reduceBEq]
  have hok : okE e := ⟨r2, r3, by omega, o2, o3⟩
  have hCo := hC e hok
  rw [hz] at hCo
  have hfm := frs_mul (n := e.frs.length) (L := longN e.rate) (by omega) (by omega) hL2
  have hcn : 0 ≤ countN e (longN e.rate) ∧ countN e (longN e.rate) ≤ 2000000000 := by unfold countN; omega
  have hRo := fun n => hR e n (countN e (longN e.rate)) r2 r3 hcn.1 hcn.2
  simp only [encA, encL, il, bss, bs, shA] at hCo hRo
  refine condQ.dec (fun c7 => ?_) (fun c7 => ?_)
  all_goals
    simp (config := { maxSteps := 4000000 }) (disch := omega) only [step, stepv, ev, wl, wn, wp, aop, cV, cV1, ↓reduceIte, Nat.reduceEqDiff, Nat.reduceAdd, Int.cast_ofNat_Int, if_true, if_false, AV.one, repCells, fillA, partCells, Nat.reduceLT, Nat.reduceLeDiff, Nat.reduceMul, Nat.reduceSub, Int.reduceLT, Int.reduceLE, Int.reduceAdd, Int.reduceSub, Int.reduceMul, Int.reduceToNat, sliceCells, cellsAt, srcA, app, reduceCtorEq, Int.reduceEq, Int.reduceNeg, Int.reducePow, Nat.reducePow, Int.reduceTDiv, Int.reduceDiv, Nat.reduceDiv, Nat.reduceMod, Int.reduceMod, Int.reduceTMod, ne_eq, subA, beq_iff_eq, unA, minA, maxA, eqFs, eqA1, beq_self_eq_true, Nat.reduceBEq, Int.add_zero]
    refine callD.vc hCo ?_
    simp (config := { maxSteps := 4000000 }) (disch := omega) only [step, stepv, ev, wl, wn, wp, aop, cV, cV1, ↓reduceIte, Nat.reduceEqDiff, Nat.reduceAdd, Int.cast_ofNat_Int, if_true, if_false, AV.one, repCells, fillA, partCells, Nat.reduceLT, Nat.reduceLeDiff, Nat.reduceMul, Nat.reduceSub, Int.reduceLT, Int.reduceLE, Int.reduceAdd, Int.reduceSub, Int.reduceMul, Int.reduceToNat, sliceCells, cellsAt, srcA, app, reduceCtorEq, Int.reduceEq, Int.reduceNeg, Int.reducePow, Nat.reducePow, Int.reduceTDiv, Int.reduceDiv, Nat.reduceDiv, Nat.reduceMod, Int.reduceMod, Int.reduceTMod, ne_eq, subA, beq_iff_eq, unA, minA, maxA, eqFs, eqA1, beq_self_eq_true, Nat.reduceBEq, Int.add_zero]
    refine callD.vc (hRo _) ?_
    generalize hv : roomB e.ch _ (countN e (longN e.rate)) = r
    cases r
    case false => simp (config := { maxSteps := 4000000 }) (disch := omega) only [step, stepv, ev, wl, wn, wp, aop, cV, cV1, ↓reduceIte, Nat.reduceEqDiff, Nat.reduceAdd, Int.cast_ofNat_Int, if_true, if_false, AV.one, repCells, fillA, partCells, Nat.reduceLT, Nat.reduceLeDiff, Nat.reduceMul, Nat.reduceSub, Int.reduceLT, Int.reduceLE, Int.reduceAdd, Int.reduceSub, Int.reduceMul, Int.reduceToNat, sliceCells, cellsAt, srcA, app, reduceCtorEq, Int.reduceEq, Int.reduceNeg, Int.reducePow, Nat.reducePow, Int.reduceTDiv, Int.reduceDiv, Nat.reduceDiv, Nat.reduceMod, Int.reduceMod, Int.reduceTMod, ne_eq, subA, beq_iff_eq, unA, minA, maxA, eqFs, eqA1, beq_self_eq_true, Nat.reduceBEq, Int.add_zero]
    simp (config := { maxSteps := 4000000 }) (disch := omega) only [step, stepv, ev, wl, wn, wp, aop, cV, cV1, ↓reduceIte, Nat.reduceEqDiff, Nat.reduceAdd, Int.cast_ofNat_Int, if_true, if_false, AV.one, repCells, fillA, partCells, Nat.reduceLT, Nat.reduceLeDiff, Nat.reduceMul, Nat.reduceSub, Int.reduceLT, Int.reduceLE, Int.reduceAdd, Int.reduceSub, Int.reduceMul, Int.reduceToNat, sliceCells, cellsAt, srcA, app, reduceCtorEq, Int.reduceEq, Int.reduceNeg, Int.reducePow, Nat.reducePow, Int.reduceTDiv, Int.reduceDiv, Nat.reduceDiv, Nat.reduceMod, Int.reduceMod, Int.reduceTMod, ne_eq, subA, beq_iff_eq, unA, minA, maxA, eqFs, eqA1, beq_self_eq_true, Nat.reduceBEq, Int.add_zero]
    refine ALoop.by (ι := Nat) (fun k => ⟨[(5, .int .i64 k), (3, .int .i64 (longN e.rate)), (1, .ref 0 1 0)], [⟨t0, 10, 1, [.int .i64 e.ch, .int .i64 e.bits, .int .i64 e.rate, .str e.pw, .list e.rest.length (u8 e.rest), .list e.smp.length (ks .i32 e.smp), .list e.frs.length (e.frs.map bs), .list e.out.length (u8 e.out), .bool e.done, .int .i64 e.err], 0⟩]⟩)
      (fun k => k ≤ e.frs.length ∧ (e.frs.take k).all (fun x => !badLen ((81 * longN e.rate * e.ch + 7) / 8 + 4) x) = true) (fun k => e.frs.length - k) 0 (Le.slots (by simp [Am.look])) ⟨by omega, by simp⟩ ?_
    intro k ⟨hk, hg⟩
    by_cases hlt : k < e.frs.length
    · have hany : badLen ((81 * longN e.rate * e.ch + 7) / 8 + 4) e.frs[k] = true → e.frs.any (badLen ((81 * longN e.rate * e.ch + 7) / 8 + 4)) = true := fun h => by
        rw [List.any_eq_true]; exact ⟨_, List.getElem_mem hlt, h⟩
      by_cases b1 : ((e.frs[k].length : Nat) : Int) < 5
      · simp (config := { maxSteps := 4000000 }) (disch := omega) only [step, stepv, ev, wl, wn, wp, aop, cV, cV1, ↓reduceIte, Nat.reduceEqDiff, Nat.reduceAdd, Int.cast_ofNat_Int, if_true, if_false, AV.one, repCells, fillA, partCells, Nat.reduceLT, Nat.reduceLeDiff, Nat.reduceMul, Nat.reduceSub, Int.reduceLT, Int.reduceLE, Int.reduceAdd, Int.reduceSub, Int.reduceMul, Int.reduceToNat, sliceCells, cellsAt, srcA, app, reduceCtorEq, Int.reduceEq, Int.reduceNeg, Int.reducePow, Nat.reducePow, Int.reduceTDiv, Int.reduceDiv, Nat.reduceDiv, Nat.reduceMod, Int.reduceMod, Int.reduceTMod, ne_eq, subA, beq_iff_eq, unA, minA, maxA, eqFs, eqA1, beq_self_eq_true, Nat.reduceBEq, drop_map1, hlt, bs, hany (by simp [badLen, b1])]
      · by_cases b2 : (81 * longN e.rate * e.ch + 7) / 8 + 4 < ((e.frs[k].length : Nat) : Int)
        · simp (config := { maxSteps := 4000000 }) (disch := omega) only [step, stepv, ev, wl, wn, wp, aop, cV, cV1, ↓reduceIte, Nat.reduceEqDiff, Nat.reduceAdd, Int.cast_ofNat_Int, if_true, if_false, AV.one, repCells, fillA, partCells, Nat.reduceLT, Nat.reduceLeDiff, Nat.reduceMul, Nat.reduceSub, Int.reduceLT, Int.reduceLE, Int.reduceAdd, Int.reduceSub, Int.reduceMul, Int.reduceToNat, sliceCells, cellsAt, srcA, app, reduceCtorEq, Int.reduceEq, Int.reduceNeg, Int.reducePow, Nat.reducePow, Int.reduceTDiv, Int.reduceDiv, Nat.reduceDiv, Nat.reduceMod, Int.reduceMod, Int.reduceTMod, ne_eq, subA, beq_iff_eq, unA, minA, maxA, eqFs, eqA1, beq_self_eq_true, Nat.reduceBEq, drop_map1, hlt, bs, hany (by simp [badLen, b2])]
        · simp (config := { maxSteps := 4000000 }) (disch := omega) only [step, stepv, ev, wl, wn, wp, aop, cV, cV1, ↓reduceIte, Nat.reduceEqDiff, Nat.reduceAdd, Int.cast_ofNat_Int, if_true, if_false, AV.one, repCells, fillA, partCells, Nat.reduceLT, Nat.reduceLeDiff, Nat.reduceMul, Nat.reduceSub, Int.reduceLT, Int.reduceLE, Int.reduceAdd, Int.reduceSub, Int.reduceMul, Int.reduceToNat, sliceCells, cellsAt, srcA, app, reduceCtorEq, Int.reduceEq, Int.reduceNeg, Int.reducePow, Nat.reducePow, Int.reduceTDiv, Int.reduceDiv, Nat.reduceDiv, Nat.reduceMod, Int.reduceMod, Int.reduceTMod, ne_eq, subA, beq_iff_eq, unA, minA, maxA, eqFs, eqA1, beq_self_eq_true, Nat.reduceBEq, drop_map1, hlt, bs]
          exact ⟨k + 1, ⟨by omega, by rw [all_take_go hlt, hg]; simp [badLen, b1, b2]⟩, by omega, Le.slots (by simp [Am.look])⟩
    · have e2 : k = e.frs.length := by omega
      subst e2
      rw [List.take_length] at hg
      have hany : e.frs.any (badLen ((81 * longN e.rate * e.ch + 7) / 8 + 4)) = false := by
        rw [List.any_eq_false]; intro x hx
        have := List.all_eq_true.1 hg x hx
        simpa using this
      simp (config := { maxSteps := 4000000 }) (disch := omega) only [step, stepv, ev, wl, wn, wp, aop, cV, cV1, ↓reduceIte, Nat.reduceEqDiff, Nat.reduceAdd, Int.cast_ofNat_Int, if_true, if_false, AV.one, repCells, fillA, partCells, Nat.reduceLT, Nat.reduceLeDiff, Nat.reduceMul, Nat.reduceSub, Int.reduceLT, Int.reduceLE, Int.reduceAdd, Int.reduceSub, Int.reduceMul, Int.reduceToNat, sliceCells, cellsAt, srcA, app, reduceCtorEq, Int.reduceEq, Int.reduceNeg, Int.reducePow, Nat.reducePow, Int.reduceTDiv, Int.reduceDiv, Nat.reduceDiv, Nat.reduceMod, Int.reduceMod, Int.reduceTMod, ne_eq, subA, beq_iff_eq, unA, minA, maxA, eqFs, eqA1, beq_self_eq_true, Nat.reduceBEq, hany]
end Go.Am

namespace Go.Am
open Go.RowKit

/-! ### Check -/

def pcheckB (e : Enc) : Bool :=
  if e.err ≠ 0 then decide ((e.err = 18 ∨ e.err = 24) ∧ e.done = false ∧ (e.rest.length = 0 ∧ e.smp.length = 0 ∧ e.frs.length = 0) ∧ e.out.length = 0)
  else if e.done = true then decide ((e.rest.length = 0 ∧ e.smp.length = 0 ∧ e.frs.length = 0) ∧ e.out.length ≤ 100000)
  else feedB e

def pcheckN (e : Enc) : Int := if rightB e.ch e.bits e.rate e.pw = false ∨ pcheckB e = false then 8 else 0

def okC (e : Enc) : Prop := e.pw.length ≤ 100000 ∧ e.frs.length ≤ 100000 ∧ e.smp.length ≤ 400000 ∧ I32 e.smp ∧ e.rest.length ≤ 100000 ∧ e.out.length ≤ 1000000

def S_PCheck (P : Program) (f : Nat) : Prop := ∀ e : Enc, okC e → VC P f [encA e] (.int .i64 (pcheckN e))

set_option maxHeartbeats 4000000 in
set_option maxRecDepth 20000 in
theorem pushenc_Check {P : Program} {f fR fF t0 : Nat} (b : Body P f 71 [.tmp 2] (ac_pushenc_Check fR fF t0)) (hR : S_Right P fR) (hF : S_Feeding P fF) : S_PCheck P f := by
  intro e ⟨o0, o1, o2, o3, o4, o5⟩
  have hRo := hR e.ch e.bits e.rate e.pw (by omega)
  refine VC.of_acall (by simp [isDL, isD_enc, isD]) rfl (ACall.of_body b (by simp) ?_)
  simp only [encA, encL, il, bss, bs, shA] at hRo ⊢
  simp (config := { maxSteps := 4000000 }) (disch := omega) only [step, stepv, ev, wl, wn, wp, aop, cV, cV1, ↓reduceIte, Nat.reduceEqDiff, Nat.reduceAdd, Int.cast_ofNat_Int, if_true, if_false, AV.one, repCells, fillA, partCells, Nat.reduceLT, Nat.reduceLeDiff, Nat.reduceMul, Nat.reduceSub, Int.reduceLT, Int.reduceLE, Int.reduceAdd, Int.reduceSub, Int.reduceMul, Int.reduceToNat, sliceCells, cellsAt, srcA, app, reduceCtorEq, Int.reduceEq, Int.reduceNeg, Int.reducePow, Nat.reducePow, Int.reduceTDiv, Int.reduceDiv, Nat.reduceDiv, Nat.reduceMod, Int.reduceMod, Int.reduceTMod, ne_eq, subA, beq_iff_eq, unA, minA, maxA, eqFs, eqA1, beq_self_eq_true, Nat.reduceBEq, ac_pushenc_Check]
  refine callQ.vc hRo ?_
  cases hr : rightB e.ch e.bits e.rate e.pw with
  | false => simp (config := { maxSteps := 4000000 }) (disch := omega) only [step, stepv, ev, wl, wn, wp, aop, cV, cV1, ↓reduceIte, Nat.reduceEqDiff, Nat.reduceAdd, Int.cast_ofNat_Int, if_true, if_false, AV.one, repCells, fillA, partCells, Nat.reduceLT, Nat.reduceLeDiff, Nat.reduceMul, Nat.reduceSub, Int.reduceLT, Int.reduceLE, Int.reduceAdd, Int.reduceSub, Int.reduceMul, Int.reduceToNat, sliceCells, cellsAt, srcA, app, reduceCtorEq, Int.reduceEq, Int.reduceNeg, Int.reducePow, Nat.reducePow, Int.reduceTDiv, Int.reduceDiv, Nat.reduceDiv, Nat.reduceMod, Int.reduceMod, Int.reduceTMod, ne_eq, subA, beq_iff_eq, unA, minA, maxA, eqFs, eqA1, beq_self_eq_true, Nat.reduceBEq, pcheckN, hr]
  | true =>
    have hz : longZ e.rate = longN e.rate := by
      obtain ⟨_, h, _⟩ := rightB_iff.1 hr
      unfold longZ; rw [if_neg (by omega)]
    have hFo := hF e ⟨hr, by omega, o2, o3, by omega, by omega⟩
    simp only [encA, encL, il, bss, bs, shA] at hFo
    have e2 : pcheckN e = if pcheckB e = false then 8 else 0 := by simp [pcheckN, hr]
    by_cases h1 : e.err = 0
    · cases hd : e.done with
      | false =>
        have e3 : pcheckB e = feedB e := by simp [pcheckB, h1, hd]
        simp (config := { maxSteps := 4000000 }) (disch := omega) only [step, stepv, ev, wl, wn, wp, aop, cV, cV1, ↓reduceIte, Nat.reduceEqDiff, Nat.reduceAdd, Int.cast_ofNat_Int, if_true, if_false, AV.one, repCells, fillA, partCells, Nat.reduceLT, Nat.reduceLeDiff, Nat.reduceMul, Nat.reduceSub, Int.reduceLT, Int.reduceLE, Int.reduceAdd, Int.reduceSub, Int.reduceMul, Int.reduceToNat, sliceCells, cellsAt, srcA, app, reduceCtorEq, Int.reduceEq, Int.reduceNeg, Int.reducePow, Nat.reducePow, Int.reduceTDiv, Int.reduceDiv, Nat.reduceDiv, Nat.reduceMod, Int.reduceMod, Int.reduceTMod, ne_eq, subA, beq_iff_eq, unA, minA, maxA, eqFs, eqA1, beq_self_eq_true, Nat.reduceBEq, h1, hd, hz]
        simp only [hd] at hFo
        rw [h1] at hFo
        refine callQ.vc hFo ?_
        cases hf : feedB e <;> simp (config := { maxSteps := 4000000 }) (disch := omega) only [step, stepv, ev, wl, wn, wp, aop, cV, cV1, ↓reduceIte, Nat.reduceEqDiff, Nat.reduceAdd, Int.cast_ofNat_Int, if_true, if_false, AV.one, repCells, fillA, partCells, Nat.reduceLT, Nat.reduceLeDiff, Nat.reduceMul, Nat.reduceSub, Int.reduceLT, Int.reduceLE, Int.reduceAdd, Int.reduceSub, Int.reduceMul, Int.reduceToNat, sliceCells, cellsAt, srcA, app, reduceCtorEq, Int.reduceEq, Int.reduceNeg, Int.reducePow, Nat.reducePow, Int.reduceTDiv, Int.reduceDiv, Nat.reduceDiv, Nat.reduceMod, Int.reduceMod, Int.reduceTMod, ne_eq, subA, beq_iff_eq, unA, minA, maxA, eqFs, eqA1, beq_self_eq_true, Nat.reduceBEq, e2, e3, hf]
      | true =>
        by_cases hE : e.rest.length = 0 ∧ e.smp.length = 0 ∧ e.frs.length = 0
        · obtain ⟨q1, q2, q3⟩ := hE
          by_cases h3 : e.out.length ≤ 100000
          · have e3 : pcheckB e = true := by simp [pcheckB, h1, hd, q1, q2, q3, h3]
            simp (config := { maxSteps := 4000000 }) (disch := omega) only [step, stepv, ev, wl, wn, wp, aop, cV, cV1, ↓reduceIte, Nat.reduceEqDiff, Nat.reduceAdd, Int.cast_ofNat_Int, if_true, if_false, AV.one, repCells, fillA, partCells, Nat.reduceLT, Nat.reduceLeDiff, Nat.reduceMul, Nat.reduceSub, Int.reduceLT, Int.reduceLE, Int.reduceAdd, Int.reduceSub, Int.reduceMul, Int.reduceToNat, sliceCells, cellsAt, srcA, app, reduceCtorEq, Int.reduceEq, Int.reduceNeg, Int.reducePow, Nat.reducePow, Int.reduceTDiv, Int.reduceDiv, Nat.reduceDiv, Nat.reduceMod, Int.reduceMod, Int.reduceTMod, ne_eq, subA, beq_iff_eq, unA, minA, maxA, eqFs, eqA1, beq_self_eq_true, Nat.reduceBEq, h1, hd, e2, e3]
          · have e3 : pcheckB e = false := by simp [pcheckB, h1, hd, q1, q2, q3, h3]
            simp (config := { maxSteps := 4000000 }) (disch := omega) only [step, stepv, ev, wl, wn, wp, aop, cV, cV1, ↓reduceIte, Nat.reduceEqDiff, Nat.reduceAdd, Int.cast_ofNat_Int, if_true, if_false, AV.one, repCells, fillA, partCells, Nat.reduceLT, Nat.reduceLeDiff, Nat.reduceMul, Nat.reduceSub, Int.reduceLT, Int.reduceLE, Int.reduceAdd, Int.reduceSub, Int.reduceMul, Int.reduceToNat, sliceCells, cellsAt, srcA, app, reduceCtorEq, Int.reduceEq, Int.reduceNeg, Int.reducePow, Nat.reducePow, Int.reduceTDiv, Int.reduceDiv, Nat.reduceDiv, Nat.reduceMod, Int.reduceMod, Int.reduceTMod, ne_eq, subA, beq_iff_eq, unA, minA, maxA, eqFs, eqA1, beq_self_eq_true, Nat.reduceBEq, h1, hd, e2, e3]
        · have e3 : pcheckB e = false := by
            unfold pcheckB
            rw [if_neg (by simp [h1]), if_pos hd, decide_eq_false_iff_not]
            exact fun h => hE h.1
          simp (config := { maxSteps := 4000000 }) (disch := omega) only [step, stepv, ev, wl, wn, wp, aop, cV, cV1, ↓reduceIte, Nat.reduceEqDiff, Nat.reduceAdd, Int.cast_ofNat_Int, if_true, if_false, AV.one, repCells, fillA, partCells, Nat.reduceLT, Nat.reduceLeDiff, Nat.reduceMul, Nat.reduceSub, Int.reduceLT, Int.reduceLE, Int.reduceAdd, Int.reduceSub, Int.reduceMul, Int.reduceToNat, sliceCells, cellsAt, srcA, app, reduceCtorEq, Int.reduceEq, Int.reduceNeg, Int.reducePow, Nat.reducePow, Int.reduceTDiv, Int.reduceDiv, Nat.reduceDiv, Nat.reduceMod, Int.reduceMod, Int.reduceTMod, ne_eq, subA, beq_iff_eq, unA, minA, maxA, eqFs, eqA1, beq_self_eq_true, Nat.reduceBEq, h1, hd, e2, e3]
    · by_cases hX : (e.err = 18 ∨ e.err = 24)
      case neg =>
        have e3 : pcheckB e = false := by simp only [pcheckB]; rw [if_pos h1, decide_eq_false_iff_not]; exact fun h => hX h.1
        simp (config := { maxSteps := 4000000 }) (disch := omega) only [step, stepv, ev, wl, wn, wp, aop, cV, cV1, ↓reduceIte, Nat.reduceEqDiff, Nat.reduceAdd, Int.cast_ofNat_Int, if_true, if_false, AV.one, repCells, fillA, partCells, Nat.reduceLT, Nat.reduceLeDiff, Nat.reduceMul, Nat.reduceSub, Int.reduceLT, Int.reduceLE, Int.reduceAdd, Int.reduceSub, Int.reduceMul, Int.reduceToNat, sliceCells, cellsAt, srcA, app, reduceCtorEq, Int.reduceEq, Int.reduceNeg, Int.reducePow, Nat.reducePow, Int.reduceTDiv, Int.reduceDiv, Nat.reduceDiv, Nat.reduceMod, Int.reduceMod, Int.reduceTMod, ne_eq, subA, beq_iff_eq, unA, minA, maxA, eqFs, eqA1, beq_self_eq_true, Nat.reduceBEq, h1, e2, e3]
      have hlast : ∀ b : Bool, pcheckB e = b → (b = true ↔ (e.done = false ∧ (e.rest.length = 0 ∧ e.smp.length = 0 ∧ e.frs.length = 0) ∧ e.out.length = 0)) := by
        rintro b rfl; simp only [pcheckB]; rw [if_pos h1, decide_eq_true_eq]; exact ⟨fun h => h.2, fun h => ⟨hX, h⟩⟩
      cases hb : pcheckB e with
      | true =>
        obtain ⟨d1, ⟨q1, q2, q3⟩, q4⟩ := (hlast true hb).1 rfl
        rcases hX with h | h <;> simp (config := { maxSteps := 4000000 }) (disch := omega) only [step, stepv, ev, wl, wn, wp, aop, cV, cV1, ↓reduceIte, Nat.reduceEqDiff, Nat.reduceAdd, Int.cast_ofNat_Int, if_true, if_false, AV.one, repCells, fillA, partCells, Nat.reduceLT, Nat.reduceLeDiff, Nat.reduceMul, Nat.reduceSub, Int.reduceLT, Int.reduceLE, Int.reduceAdd, Int.reduceSub, Int.reduceMul, Int.reduceToNat, sliceCells, cellsAt, srcA, app, reduceCtorEq, Int.reduceEq, Int.reduceNeg, Int.reducePow, Nat.reducePow, Int.reduceTDiv, Int.reduceDiv, Nat.reduceDiv, Nat.reduceMod, Int.reduceMod, Int.reduceTMod, ne_eq, subA, beq_iff_eq, unA, minA, maxA, eqFs, eqA1, beq_self_eq_true, Nat.reduceBEq, h1, h, d1, e2, hb]
      | false =>
        have hn : ¬ (e.done = false ∧ (e.rest.length = 0 ∧ e.smp.length = 0 ∧ e.frs.length = 0) ∧ e.out.length = 0) := fun h => by have := (hlast false hb).2 h; cases this
        cases hd : e.done with
        | true => rcases hX with h | h <;> simp (config := { maxSteps := 4000000 }) (disch := omega) only [step, stepv, ev, wl, wn, wp, aop, cV, cV1, ↓reduceIte, Nat.reduceEqDiff, Nat.reduceAdd, Int.cast_ofNat_Int, if_true, if_false, AV.one, repCells, fillA, partCells, Nat.reduceLT, Nat.reduceLeDiff, Nat.reduceMul, Nat.reduceSub, Int.reduceLT, Int.reduceLE, Int.reduceAdd, Int.reduceSub, Int.reduceMul, Int.reduceToNat, sliceCells, cellsAt, srcA, app, reduceCtorEq, Int.reduceEq, Int.reduceNeg, Int.reducePow, Nat.reducePow, Int.reduceTDiv, Int.reduceDiv, Nat.reduceDiv, Nat.reduceMod, Int.reduceMod, Int.reduceTMod, ne_eq, subA, beq_iff_eq, unA, minA, maxA, eqFs, eqA1, beq_self_eq_true, Nat.reduceBEq, h1, h, hd, e2, hb]
        | false =>
          rw [hd] at hn
          by_cases hE : e.rest.length = 0 ∧ e.smp.length = 0 ∧ e.frs.length = 0
          · have h4 : e.out.length ≠ 0 := fun h => hn ⟨rfl, hE, h⟩
            obtain ⟨q1, q2, q3⟩ := hE
            rcases hX with h | h <;> simp (config := { maxSteps := 4000000 }) (disch := omega) only [step, stepv, ev, wl, wn, wp, aop, cV, cV1, ↓reduceIte, Nat.reduceEqDiff, Nat.reduceAdd, Int.cast_ofNat_Int, if_true, if_false, AV.one, repCells, fillA, partCells, Nat.reduceLT, Nat.reduceLeDiff, Nat.reduceMul, Nat.reduceSub, Int.reduceLT, Int.reduceLE, Int.reduceAdd, Int.reduceSub, Int.reduceMul, Int.reduceToNat, sliceCells, cellsAt, srcA, app, reduceCtorEq, Int.reduceEq, Int.reduceNeg, Int.reducePow, Nat.reducePow, Int.reduceTDiv, Int.reduceDiv, Nat.reduceDiv, Nat.reduceMod, Int.reduceMod, Int.reduceTMod, ne_eq, subA, beq_iff_eq, unA, minA, maxA, eqFs, eqA1, beq_self_eq_true, Nat.reduceBEq, h1, h, hd, e2, hb]
          · rcases hX with h | h <;> simp (config := { maxSteps := 4000000 }) (disch := omega) only [step, stepv, ev, wl, wn, wp, aop, cV, cV1, ↓reduceIte, Nat.reduceEqDiff, Nat.reduceAdd, Int.cast_ofNat_Int, if_true, if_false, AV.one, repCells, fillA, partCells, Nat.reduceLT, Nat.reduceLeDiff, Nat.reduceMul, Nat.reduceSub, Int.reduceLT, Int.reduceLE, Int.reduceAdd, Int.reduceSub, Int.reduceMul, Int.reduceToNat, sliceCells, cellsAt, srcA, app, reduceCtorEq, Int.reduceEq, Int.reduceNeg, Int.reducePow, Nat.reducePow, Int.reduceTDiv, Int.reduceDiv, Nat.reduceDiv, Nat.reduceMod, Int.reduceMod, Int.reduceTMod, ne_eq, subA, beq_iff_eq, unA, minA, maxA, eqFs, eqA1, beq_self_eq_true, Nat.reduceBEq, h1, h, hd, e2, hb]

def S_RCheck36 := S_PCheck

set_option maxHeartbeats 4000000 in
set_option maxRecDepth 20000 in
theorem ref36_Check {P : Program} {f fA fF t0 : Nat} (b : Body P f 69 [.tmp 2] (ac_cadenzaref36_Check fA fF t0)) (hA : S_Asked P fA) (hF : S_RFeeding P fF) : S_PCheck P f := by
  intro e ⟨o0, o1, o2, o3, o4, o5⟩
  have hAo := hA e.ch e.bits e.rate e.pw (by omega)
  refine VC.of_acall (by simp [isDL, isD_enc, isD]) rfl (ACall.of_body b (by simp) ?_)
  simp only [encA, encL, il, bss, bs, shA] at hAo ⊢
  simp (config := { maxSteps := 4000000 }) (disch := omega) only [step, stepv, ev, wl, wn, wp, aop, cV, cV1, ↓reduceIte, Nat.reduceEqDiff, Nat.reduceAdd, Int.cast_ofNat_Int, if_true, if_false, AV.one, repCells, fillA, partCells, Nat.reduceLT, Nat.reduceLeDiff, Nat.reduceMul, Nat.reduceSub, Int.reduceLT, Int.reduceLE, Int.reduceAdd, Int.reduceSub, Int.reduceMul, Int.reduceToNat, sliceCells, cellsAt, srcA, app, reduceCtorEq, Int.reduceEq, Int.reduceNeg, Int.reducePow, Nat.reducePow, Int.reduceTDiv, Int.reduceDiv, Nat.reduceDiv, Nat.reduceMod, Int.reduceMod, Int.reduceTMod, ne_eq, subA, beq_iff_eq, unA, minA, maxA, eqFs, eqA1, beq_self_eq_true, Nat.reduceBEq, ac_cadenzaref36_Check]
  refine callQ.vc hAo ?_
  cases hr : rightB e.ch e.bits e.rate e.pw with
  | false => simp (config := { maxSteps := 4000000 }) (disch := omega) only [step, stepv, ev, wl, wn, wp, aop, cV, cV1, ↓reduceIte, Nat.reduceEqDiff, Nat.reduceAdd, Int.cast_ofNat_Int, if_true, if_false, AV.one, repCells, fillA, partCells, Nat.reduceLT, Nat.reduceLeDiff, Nat.reduceMul, Nat.reduceSub, Int.reduceLT, Int.reduceLE, Int.reduceAdd, Int.reduceSub, Int.reduceMul, Int.reduceToNat, sliceCells, cellsAt, srcA, app, reduceCtorEq, Int.reduceEq, Int.reduceNeg, Int.reducePow, Nat.reducePow, Int.reduceTDiv, Int.reduceDiv, Nat.reduceDiv, Nat.reduceMod, Int.reduceMod, Int.reduceTMod, ne_eq, subA, beq_iff_eq, unA, minA, maxA, eqFs, eqA1, beq_self_eq_true, Nat.reduceBEq, pcheckN, hr]
  | true =>
    have hFo := hF e ⟨hr, by omega, o2, o3, by omega, by omega⟩
    simp only [encA, encL, il, bss, bs, shA] at hFo
    have e2 : pcheckN e = if pcheckB e = false then 8 else 0 := by simp [pcheckN, hr]
    have hEmp : ∀ p : Prop, (¬ (e.rest.length = 0 ∧ e.smp.length = 0 ∧ e.frs.length = 0) → (0 < e.rest.length → p) → (e.rest.length = 0 → 0 < e.smp.length → p) → (e.rest.length = 0 → e.smp.length = 0 → 0 < e.frs.length → p) → p) := fun p h a b c => by
      by_cases x1 : e.rest.length = 0
      · by_cases x2 : e.smp.length = 0
        · exact c x1 x2 (by omega)
        · exact b x1 (by omega)
      · exact a (by omega)
    by_cases h1 : e.err = 0
    · cases hd : e.done with
      | false =>
        have e3 : pcheckB e = feedB e := by simp [pcheckB, h1, hd]
        simp only [hd] at hFo
        rw [h1] at hFo
        by_cases hE : e.rest.length = 0 ∧ e.smp.length = 0 ∧ e.frs.length = 0
        · obtain ⟨q1, q2, q3⟩ := hE
          simp (config := { maxSteps := 4000000 }) (disch := omega) only [step, stepv, ev, wl, wn, wp, aop, cV, cV1, ↓reduceIte, Nat.reduceEqDiff, Nat.reduceAdd, Int.cast_ofNat_Int, if_true, if_false, AV.one, repCells, fillA, partCells, Nat.reduceLT, Nat.reduceLeDiff, Nat.reduceMul, Nat.reduceSub, Int.reduceLT, Int.reduceLE, Int.reduceAdd, Int.reduceSub, Int.reduceMul, Int.reduceToNat, sliceCells, cellsAt, srcA, app, reduceCtorEq, Int.reduceEq, Int.reduceNeg, Int.reducePow, Nat.reducePow, Int.reduceTDiv, Int.reduceDiv, Nat.reduceDiv, Nat.reduceMod, Int.reduceMod, Int.reduceTMod, ne_eq, subA, beq_iff_eq, unA, minA, maxA, eqFs, eqA1, beq_self_eq_true, Nat.reduceBEq, h1, hd]
          refine callQ.vc hFo ?_
          cases hf : feedB e <;> simp (config := { maxSteps := 4000000 }) (disch := omega) only [step, stepv, ev, wl, wn, wp, aop, cV, cV1, ↓reduceIte, Nat.reduceEqDiff, Nat.reduceAdd, Int.cast_ofNat_Int, if_true, if_false, AV.one, repCells, fillA, partCells, Nat.reduceLT, Nat.reduceLeDiff, Nat.reduceMul, Nat.reduceSub, Int.reduceLT, Int.reduceLE, Int.reduceAdd, Int.reduceSub, Int.reduceMul, Int.reduceToNat, sliceCells, cellsAt, srcA, app, reduceCtorEq, Int.reduceEq, Int.reduceNeg, Int.reducePow, Nat.reducePow, Int.reduceTDiv, Int.reduceDiv, Nat.reduceDiv, Nat.reduceMod, Int.reduceMod, Int.reduceTMod, ne_eq, subA, beq_iff_eq, unA, minA, maxA, eqFs, eqA1, beq_self_eq_true, Nat.reduceBEq, e2, e3, hf]
        · refine hEmp _ hE (fun x1 => ?_) (fun x1 x2 => ?_) (fun x1 x2 x3 => ?_)
          all_goals
            simp (config := { maxSteps := 4000000 }) (disch := omega) only [step, stepv, ev, wl, wn, wp, aop, cV, cV1, ↓reduceIte, Nat.reduceEqDiff, Nat.reduceAdd, Int.cast_ofNat_Int, if_true, if_false, AV.one, repCells, fillA, partCells, Nat.reduceLT, Nat.reduceLeDiff, Nat.reduceMul, Nat.reduceSub, Int.reduceLT, Int.reduceLE, Int.reduceAdd, Int.reduceSub, Int.reduceMul, Int.reduceToNat, sliceCells, cellsAt, srcA, app, reduceCtorEq, Int.reduceEq, Int.reduceNeg, Int.reducePow, Nat.reducePow, Int.reduceTDiv, Int.reduceDiv, Nat.reduceDiv, Nat.reduceMod, Int.reduceMod, Int.reduceTMod, ne_eq, subA, beq_iff_eq, unA, minA, maxA, eqFs, eqA1, beq_self_eq_true, Nat.reduceBEq, h1, hd]
            refine callQ.vc hFo ?_
            cases hf : feedB e <;> simp (config := { maxSteps := 4000000 }) (disch := omega) only [step, stepv, ev, wl, wn, wp, aop, cV, cV1, ↓reduceIte, Nat.reduceEqDiff, Nat.reduceAdd, Int.cast_ofNat_Int, if_true, if_false, AV.one, repCells, fillA, partCells, Nat.reduceLT, Nat.reduceLeDiff, Nat.reduceMul, Nat.reduceSub, Int.reduceLT, Int.reduceLE, Int.reduceAdd, Int.reduceSub, Int.reduceMul, Int.reduceToNat, sliceCells, cellsAt, srcA, app, reduceCtorEq, Int.reduceEq, Int.reduceNeg, Int.reducePow, Nat.reducePow, Int.reduceTDiv, Int.reduceDiv, Nat.reduceDiv, Nat.reduceMod, Int.reduceMod, Int.reduceTMod, ne_eq, subA, beq_iff_eq, unA, minA, maxA, eqFs, eqA1, beq_self_eq_true, Nat.reduceBEq, e2, e3, hf]
      | true =>
        by_cases hE : e.rest.length = 0 ∧ e.smp.length = 0 ∧ e.frs.length = 0
        · obtain ⟨q1, q2, q3⟩ := hE
          by_cases h3 : e.out.length ≤ 100000
          · have e3 : pcheckB e = true := by simp [pcheckB, h1, hd, q1, q2, q3, h3]
            simp (config := { maxSteps := 4000000 }) (disch := omega) only [step, stepv, ev, wl, wn, wp, aop, cV, cV1, ↓reduceIte, Nat.reduceEqDiff, Nat.reduceAdd, Int.cast_ofNat_Int, if_true, if_false, AV.one, repCells, fillA, partCells, Nat.reduceLT, Nat.reduceLeDiff, Nat.reduceMul, Nat.reduceSub, Int.reduceLT, Int.reduceLE, Int.reduceAdd, Int.reduceSub, Int.reduceMul, Int.reduceToNat, sliceCells, cellsAt, srcA, app, reduceCtorEq, Int.reduceEq, Int.reduceNeg, Int.reducePow, Nat.reducePow, Int.reduceTDiv, Int.reduceDiv, Nat.reduceDiv, Nat.reduceMod, Int.reduceMod, Int.reduceTMod, ne_eq, subA, beq_iff_eq, unA, minA, maxA, eqFs, eqA1, beq_self_eq_true, Nat.reduceBEq, h1, hd, e2, e3]
          · have e3 : pcheckB e = false := by simp [pcheckB, h1, hd, q1, q2, q3, h3]
            simp (config := { maxSteps := 4000000 }) (disch := omega) only [step, stepv, ev, wl, wn, wp, aop, cV, cV1, ↓reduceIte, Nat.reduceEqDiff, Nat.reduceAdd, Int.cast_ofNat_Int, if_true, if_false, AV.one, repCells, fillA, partCells, Nat.reduceLT, Nat.reduceLeDiff, Nat.reduceMul, Nat.reduceSub, Int.reduceLT, Int.reduceLE, Int.reduceAdd, Int.reduceSub, Int.reduceMul, Int.reduceToNat, sliceCells, cellsAt, srcA, app, reduceCtorEq, Int.reduceEq, Int.reduceNeg, Int.reducePow, Nat.reducePow, Int.reduceTDiv, Int.reduceDiv, Nat.reduceDiv, Nat.reduceMod, Int.reduceMod, Int.reduceTMod, ne_eq, subA, beq_iff_eq, unA, minA, maxA, eqFs, eqA1, beq_self_eq_true, Nat.reduceBEq, h1, hd, e2, e3]
        · have e3 : pcheckB e = false := by
            unfold pcheckB
            rw [if_neg (by simp [h1]), if_pos hd, decide_eq_false_iff_not]
            exact fun h => hE h.1
          refine hEmp _ hE (fun x1 => ?_) (fun x1 x2 => ?_) (fun x1 x2 x3 => ?_) <;> simp (config := { maxSteps := 4000000 }) (disch := omega) only [step, stepv, ev, wl, wn, wp, aop, cV, cV1, ↓reduceIte, Nat.reduceEqDiff, Nat.reduceAdd, Int.cast_ofNat_Int, if_true, if_false, AV.one, repCells, fillA, partCells, Nat.reduceLT, Nat.reduceLeDiff, Nat.reduceMul, Nat.reduceSub, Int.reduceLT, Int.reduceLE, Int.reduceAdd, Int.reduceSub, Int.reduceMul, Int.reduceToNat, sliceCells, cellsAt, srcA, app, reduceCtorEq, Int.reduceEq, Int.reduceNeg, Int.reducePow, Nat.reducePow, Int.reduceTDiv, Int.reduceDiv, Nat.reduceDiv, Nat.reduceMod, Int.reduceMod, Int.reduceTMod, ne_eq, subA, beq_iff_eq, unA, minA, maxA, eqFs, eqA1, beq_self_eq_true, Nat.reduceBEq, h1, hd, e2, e3]
    · by_cases hX : (e.err = 18 ∨ e.err = 24)
      case neg =>
        have e3 : pcheckB e = false := by simp only [pcheckB]; rw [if_pos h1, decide_eq_false_iff_not]; exact fun h => hX h.1
        by_cases hE : e.rest.length = 0 ∧ e.smp.length = 0 ∧ e.frs.length = 0
        · obtain ⟨q1, q2, q3⟩ := hE
          simp (config := { maxSteps := 4000000 }) (disch := omega) only [step, stepv, ev, wl, wn, wp, aop, cV, cV1, ↓reduceIte, Nat.reduceEqDiff, Nat.reduceAdd, Int.cast_ofNat_Int, if_true, if_false, AV.one, repCells, fillA, partCells, Nat.reduceLT, Nat.reduceLeDiff, Nat.reduceMul, Nat.reduceSub, Int.reduceLT, Int.reduceLE, Int.reduceAdd, Int.reduceSub, Int.reduceMul, Int.reduceToNat, sliceCells, cellsAt, srcA, app, reduceCtorEq, Int.reduceEq, Int.reduceNeg, Int.reducePow, Nat.reducePow, Int.reduceTDiv, Int.reduceDiv, Nat.reduceDiv, Nat.reduceMod, Int.reduceMod, Int.reduceTMod, ne_eq, subA, beq_iff_eq, unA, minA, maxA, eqFs, eqA1, beq_self_eq_true, Nat.reduceBEq, h1, e2, e3]
        · refine hEmp _ hE (fun x1 => ?_) (fun x1 x2 => ?_) (fun x1 x2 x3 => ?_) <;> simp (config := { maxSteps := 4000000 }) (disch := omega) only [step, stepv, ev, wl, wn, wp, aop, cV, cV1, ↓reduceIte, Nat.reduceEqDiff, Nat.reduceAdd, Int.cast_ofNat_Int, if_true, if_false, AV.one, repCells, fillA, partCells, Nat.reduceLT, Nat.reduceLeDiff, Nat.reduceMul, Nat.reduceSub, Int.reduceLT, Int.reduceLE, Int.reduceAdd, Int.reduceSub, Int.reduceMul, Int.reduceToNat, sliceCells, cellsAt, srcA, app, reduceCtorEq, Int.reduceEq, Int.reduceNeg, Int.reducePow, Nat.reducePow, Int.reduceTDiv, Int.reduceDiv, Nat.reduceDiv, Nat.reduceMod, Int.reduceMod, Int.reduceTMod, ne_eq, subA, beq_iff_eq, unA, minA, maxA, eqFs, eqA1, beq_self_eq_true, Nat.reduceBEq, h1, e2, e3]
      have hlast : ∀ b : Bool, pcheckB e = b → (b = true ↔ (e.done = false ∧ (e.rest.length = 0 ∧ e.smp.length = 0 ∧ e.frs.length = 0) ∧ e.out.length = 0)) := by
        rintro b rfl; simp only [pcheckB]; rw [if_pos h1, decide_eq_true_eq]; exact ⟨fun h => h.2, fun h => ⟨hX, h⟩⟩
      cases hb : pcheckB e with
      | true =>
        obtain ⟨d1, ⟨q1, q2, q3⟩, q4⟩ := (hlast true hb).1 rfl
        rcases hX with h | h <;> simp (config := { maxSteps := 4000000 }) (disch := omega) only [step, stepv, ev, wl, wn, wp, aop, cV, cV1, ↓reduceIte, Nat.reduceEqDiff, Nat.reduceAdd, Int.cast_ofNat_Int, if_true, if_false, AV.one, repCells, fillA, partCells, Nat.reduceLT, Nat.reduceLeDiff, Nat.reduceMul, Nat.reduceSub, Int.reduceLT, Int.reduceLE, Int.reduceAdd, Int.reduceSub, Int.reduceMul, Int.reduceToNat, sliceCells, cellsAt, srcA, app, reduceCtorEq, Int.reduceEq, Int.reduceNeg, Int.reducePow, Nat.reducePow, Int.reduceTDiv, Int.reduceDiv, Nat.reduceDiv, Nat.reduceMod, Int.reduceMod, Int.reduceTMod, ne_eq, subA, beq_iff_eq, unA, minA, maxA, eqFs, eqA1, beq_self_eq_true, Nat.reduceBEq, h1, h, d1, e2, hb]
      | false =>
        have hn : ¬ (e.done = false ∧ (e.rest.length = 0 ∧ e.smp.length = 0 ∧ e.frs.length = 0) ∧ e.out.length = 0) := fun h => by have := (hlast false hb).2 h; cases this
        by_cases hE : e.rest.length = 0 ∧ e.smp.length = 0 ∧ e.frs.length = 0
        · obtain ⟨q1, q2, q3⟩ := hE
          cases hd : e.done with
          | true => rcases hX with h | h <;> simp (config := { maxSteps := 4000000 }) (disch := omega) only [step, stepv, ev, wl, wn, wp, aop, cV, cV1, ↓reduceIte, Nat.reduceEqDiff, Nat.reduceAdd, Int.cast_ofNat_Int, if_true, if_false, AV.one, repCells, fillA, partCells, Nat.reduceLT, Nat.reduceLeDiff, Nat.reduceMul, Nat.reduceSub, Int.reduceLT, Int.reduceLE, Int.reduceAdd, Int.reduceSub, Int.reduceMul, Int.reduceToNat, sliceCells, cellsAt, srcA, app, reduceCtorEq, Int.reduceEq, Int.reduceNeg, Int.reducePow, Nat.reducePow, Int.reduceTDiv, Int.reduceDiv, Nat.reduceDiv, Nat.reduceMod, Int.reduceMod, Int.reduceTMod, ne_eq, subA, beq_iff_eq, unA, minA, maxA, eqFs, eqA1, beq_self_eq_true, Nat.reduceBEq, h1, h, hd, e2, hb]
          | false =>
            have h4 : e.out.length ≠ 0 := fun h => hn ⟨hd, ⟨q1, q2, q3⟩, h⟩
            rcases hX with h | h <;> simp (config := { maxSteps := 4000000 }) (disch := omega) only [step, stepv, ev, wl, wn, wp, aop, cV, cV1, ↓reduceIte, Nat.reduceEqDiff, Nat.reduceAdd, Int.cast_ofNat_Int, if_true, if_false, AV.one, repCells, fillA, partCells, Nat.reduceLT, Nat.reduceLeDiff, Nat.reduceMul, Nat.reduceSub, Int.reduceLT, Int.reduceLE, Int.reduceAdd, Int.reduceSub, Int.reduceMul, Int.reduceToNat, sliceCells, cellsAt, srcA, app, reduceCtorEq, Int.reduceEq, Int.reduceNeg, Int.reducePow, Nat.reducePow, Int.reduceTDiv, Int.reduceDiv, Nat.reduceDiv, Nat.reduceMod, Int.reduceMod, Int.reduceTMod, ne_eq, subA, beq_iff_eq, unA, minA, maxA, eqFs, eqA1, beq_self_eq_true, Nat.reduceBEq, h1, h, hd, e2, hb]
        · cases hd : e.done with
          | true => refine hEmp _ hE (fun x1 => ?_) (fun x1 x2 => ?_) (fun x1 x2 x3 => ?_) <;> rcases hX with h | h <;> simp (config := { maxSteps := 4000000 }) (disch := omega) only [step, stepv, ev, wl, wn, wp, aop, cV, cV1, ↓reduceIte, Nat.reduceEqDiff, Nat.reduceAdd, Int.cast_ofNat_Int, if_true, if_false, AV.one, repCells, fillA, partCells, Nat.reduceLT, Nat.reduceLeDiff, Nat.reduceMul, Nat.reduceSub, Int.reduceLT, Int.reduceLE, Int.reduceAdd, Int.reduceSub, Int.reduceMul, Int.reduceToNat, sliceCells, cellsAt, srcA, app, reduceCtorEq, Int.reduceEq, Int.reduceNeg, Int.reducePow, Nat.reducePow, Int.reduceTDiv, Int.reduceDiv, Nat.reduceDiv, Nat.reduceMod, Int.reduceMod, Int.reduceTMod, ne_eq, subA, beq_iff_eq, unA, minA, maxA, eqFs, eqA1, beq_self_eq_true, Nat.reduceBEq, h1, h, hd, e2, hb]
          | false => refine hEmp _ hE (fun x1 => ?_) (fun x1 x2 => ?_) (fun x1 x2 x3 => ?_) <;> rcases hX with h | h <;> simp (config := { maxSteps := 4000000 }) (disch := omega) only [step, stepv, ev, wl, wn, wp, aop, cV, cV1, ↓reduceIte, Nat.reduceEqDiff, Nat.reduceAdd, Int.cast_ofNat_Int, if_true, if_false, AV.one, repCells, fillA, partCells, Nat.reduceLT, Nat.reduceLeDiff, Nat.reduceMul, Nat.reduceSub, Int.reduceLT, Int.reduceLE, Int.reduceAdd, Int.reduceSub, Int.reduceMul, Int.reduceToNat, sliceCells, cellsAt, srcA, app, reduceCtorEq, Int.reduceEq, Int.reduceNeg, Int.reducePow, Nat.reducePow, Int.reduceTDiv, Int.reduceDiv, Nat.reduceDiv, Nat.reduceMod, Int.reduceMod, Int.reduceTMod, ne_eq, subA, beq_iff_eq, unA, minA, maxA, eqFs, eqA1, beq_self_eq_true, Nat.reduceBEq, h1, h, hd, e2, hb]
/-! ### New -/

def newE (c b r : Int) (pw : List UInt8) : List AV := [.int .i64 c, .int .i64 b, .int .i64 r, .str pw, .emp true, .emp true, .emp true, .emp true, .bool false, .int .i64 0]
def newA (c b r : Int) (pw : List UInt8) : AV := if rightB c b r pw = true then .tup [.agg (newE c b r pw), .int .i64 0] else .tup [.agg (newE 0 0 0 []), .int .i64 2]
def newL (c b r : Int) (pw : List UInt8) : List AV := [.int .i64 c, .int .i64 b, .int .i64 r, .str pw, .list 0 [], .list 0 [], .list 0 [], .list 0 [], .bool false, .int .i64 0]

def S_New (P : Program) (f : Nat) : Prop := ∀ (c b r : Int) (pw : List UInt8), pw.length ≤ 100000 → VC P f [shA c b, .int .i64 r, .str pw] (newA c b r pw)

theorem isD_new (c b r : Int) (pw : List UInt8) : isD (newA c b r pw) = true := by unfold newA; split <;> rfl

theorem pushenc_New {P : Program} {f fR t0 t1 : Nat} (b : Body P f 24 [.cell 6 t1, .tmp 7] (ac_pushenc_New fR t0 t1)) (ht : aggO P t1 = some (some 10)) (hR : S_Right P fR) : S_New P f := by
  intro c x r pw hp
  have hRo := hR c x r pw (by omega)
  refine VC.of_acall (by simp [isDL, isD, shA]) (isD_new _ _ _ _) (ACall.of_body b (by simp) ?_)
  simp (config := { maxSteps := 4000000 }) (disch := omega) only [step, stepv, ev, wl, wn, wp, aop, cV, cV1, ↓reduceIte, Nat.reduceEqDiff, Nat.reduceAdd, Int.cast_ofNat_Int, if_true, if_false, AV.one, repCells, fillA, partCells, Nat.reduceLT, Nat.reduceLeDiff, Nat.reduceMul, Nat.reduceSub, Int.reduceLT, Int.reduceLE, Int.reduceAdd, Int.reduceSub, Int.reduceMul, Int.reduceToNat, sliceCells, cellsAt, srcA, app, reduceCtorEq, Int.reduceEq, Int.reduceNeg, Int.reducePow, Nat.reducePow, Int.reduceTDiv, Int.reduceDiv, Nat.reduceDiv, Nat.reduceMod, Int.reduceMod, Int.reduceTMod, ne_eq, subA, beq_iff_eq, unA, minA, maxA, eqFs, eqA1, beq_self_eq_true, Nat.reduceBEq, ac_pushenc_New, shA]
  refine callQ.vc hRo ?_
  cases hr : rightB c x r pw with
  | true => simp (config := { maxSteps := 4000000 }) (disch := omega) only [step, stepv, ev, wl, wn, wp, aop, cV, cV1, ↓reduceIte, Nat.reduceEqDiff, Nat.reduceAdd, Int.cast_ofNat_Int, if_true, if_false, AV.one, repCells, fillA, partCells, Nat.reduceLT, Nat.reduceLeDiff, Nat.reduceMul, Nat.reduceSub, Int.reduceLT, Int.reduceLE, Int.reduceAdd, Int.reduceSub, Int.reduceMul, Int.reduceToNat, sliceCells, cellsAt, srcA, app, reduceCtorEq, Int.reduceEq, Int.reduceNeg, Int.reducePow, Nat.reducePow, Int.reduceTDiv, Int.reduceDiv, Nat.reduceDiv, Nat.reduceMod, Int.reduceMod, Int.reduceTMod, ne_eq, subA, beq_iff_eq, unA, minA, maxA, eqFs, eqA1, beq_self_eq_true, Nat.reduceBEq, newA, newE, hr, resA, ht]
  | false => simp (config := { maxSteps := 4000000 }) (disch := omega) only [step, stepv, ev, wl, wn, wp, aop, cV, cV1, ↓reduceIte, Nat.reduceEqDiff, Nat.reduceAdd, Int.cast_ofNat_Int, if_true, if_false, AV.one, repCells, fillA, partCells, Nat.reduceLT, Nat.reduceLeDiff, Nat.reduceMul, Nat.reduceSub, Int.reduceLT, Int.reduceLE, Int.reduceAdd, Int.reduceSub, Int.reduceMul, Int.reduceToNat, sliceCells, cellsAt, srcA, app, reduceCtorEq, Int.reduceEq, Int.reduceNeg, Int.reducePow, Nat.reducePow, Int.reduceTDiv, Int.reduceDiv, Nat.reduceDiv, Nat.reduceMod, Int.reduceMod, Int.reduceTMod, ne_eq, subA, beq_iff_eq, unA, minA, maxA, eqFs, eqA1, beq_self_eq_true, Nat.reduceBEq, newA, newE, hr, resA, ht]

theorem ref36_New {P : Program} {f fA t0 t1 : Nat} (b : Body P f 21 [.cell 6 t1, .tmp 7] (ac_cadenzaref36_New fA t0 t1)) (ht : aggO P t1 = some (some 10)) (hA : S_Asked P fA) : S_New P f := by
  intro c x r pw hp
  have hAo := hA c x r pw (by omega)
  refine VC.of_acall (by simp [isDL, isD, shA]) (isD_new _ _ _ _) (ACall.of_body b (by simp) ?_)
  simp (config := { maxSteps := 4000000 }) (disch := omega) only [step, stepv, ev, wl, wn, wp, aop, cV, cV1, ↓reduceIte, Nat.reduceEqDiff, Nat.reduceAdd, Int.cast_ofNat_Int, if_true, if_false, AV.one, repCells, fillA, partCells, Nat.reduceLT, Nat.reduceLeDiff, Nat.reduceMul, Nat.reduceSub, Int.reduceLT, Int.reduceLE, Int.reduceAdd, Int.reduceSub, Int.reduceMul, Int.reduceToNat, sliceCells, cellsAt, srcA, app, reduceCtorEq, Int.reduceEq, Int.reduceNeg, Int.reducePow, Nat.reducePow, Int.reduceTDiv, Int.reduceDiv, Nat.reduceDiv, Nat.reduceMod, Int.reduceMod, Int.reduceTMod, ne_eq, subA, beq_iff_eq, unA, minA, maxA, eqFs, eqA1, beq_self_eq_true, Nat.reduceBEq, ac_cadenzaref36_New, shA]
  refine callQ.vc hAo ?_
  cases hr : rightB c x r pw with
  | true => simp (config := { maxSteps := 4000000 }) (disch := omega) only [step, stepv, ev, wl, wn, wp, aop, cV, cV1, ↓reduceIte, Nat.reduceEqDiff, Nat.reduceAdd, Int.cast_ofNat_Int, if_true, if_false, AV.one, repCells, fillA, partCells, Nat.reduceLT, Nat.reduceLeDiff, Nat.reduceMul, Nat.reduceSub, Int.reduceLT, Int.reduceLE, Int.reduceAdd, Int.reduceSub, Int.reduceMul, Int.reduceToNat, sliceCells, cellsAt, srcA, app, reduceCtorEq, Int.reduceEq, Int.reduceNeg, Int.reducePow, Nat.reducePow, Int.reduceTDiv, Int.reduceDiv, Nat.reduceDiv, Nat.reduceMod, Int.reduceMod, Int.reduceTMod, ne_eq, subA, beq_iff_eq, unA, minA, maxA, eqFs, eqA1, beq_self_eq_true, Nat.reduceBEq, newA, newE, hr, resA, ht]
  | false => simp (config := { maxSteps := 4000000 }) (disch := omega) only [step, stepv, ev, wl, wn, wp, aop, cV, cV1, ↓reduceIte, Nat.reduceEqDiff, Nat.reduceAdd, Int.cast_ofNat_Int, if_true, if_false, AV.one, repCells, fillA, partCells, Nat.reduceLT, Nat.reduceLeDiff, Nat.reduceMul, Nat.reduceSub, Int.reduceLT, Int.reduceLE, Int.reduceAdd, Int.reduceSub, Int.reduceMul, Int.reduceToNat, sliceCells, cellsAt, srcA, app, reduceCtorEq, Int.reduceEq, Int.reduceNeg, Int.reducePow, Nat.reducePow, Int.reduceTDiv, Int.reduceDiv, Nat.reduceDiv, Nat.reduceMod, Int.reduceMod, Int.reduceTMod, ne_eq, subA, beq_iff_eq, unA, minA, maxA, eqFs, eqA1, beq_self_eq_true, Nat.reduceBEq, newA, newE, hr, resA, ht]

/-! ### Same, at a new encoder and itself -/

def S_Same0 (P : Program) (f : Nat) : Prop := ∀ (c b r : Int) (pw : List UInt8), VC P f [.agg (newE c b r pw), .agg (newE c b r pw)] (.bool true)

theorem ref36_Same0 {P : Program} {f t0 : Nat} (b : Body P f 114 [.tmp 4] (ac_cadenzaref36_Same t0)) : S_Same0 P f := by
  intro c x r pw
  refine VC.of_acall (by simp [isDL, isD, newE]) rfl (ACall.of_body b (by simp) ?_)
  have e0 : (pw == pw) = true := by simp
  simp (config := { maxSteps := 4000000 }) (disch := omega) only [step, stepv, ev, wl, wn, wp, aop, cV, cV1, ↓reduceIte, Nat.reduceEqDiff, Nat.reduceAdd, Int.cast_ofNat_Int, if_true, if_false, AV.one, repCells, fillA, partCells, Nat.reduceLT, Nat.reduceLeDiff, Nat.reduceMul, Nat.reduceSub, Int.reduceLT, Int.reduceLE, Int.reduceAdd, Int.reduceSub, Int.reduceMul, Int.reduceToNat, sliceCells, cellsAt, srcA, app, reduceCtorEq, Int.reduceEq, Int.reduceNeg, Int.reducePow, Nat.reducePow, Int.reduceTDiv, Int.reduceDiv, Nat.reduceDiv, Nat.reduceMod, Int.reduceMod, Int.reduceTMod, ne_eq, subA, beq_iff_eq, unA, minA, maxA, eqFs, eqA1, beq_self_eq_true, Nat.reduceBEq, ac_cadenzaref36_Same, newE, strA, e0, decU8]
  refine ALoop.by (ι := Unit) (fun _ => ⟨[(5, .int .i64 0), (3, .ref 1 1 0), (2, .ref 0 1 0)], [⟨t0, 10, 1, newE c x r pw, 0⟩, ⟨t0, 10, 1, newE c x r pw, 0⟩]⟩) (fun _ => True) (fun _ => 0) () (Le.slots (by simp [Am.look])) trivial ?_
  intro _ _
  simp (config := { maxSteps := 4000000 }) (disch := omega) only [step, stepv, ev, wl, wn, wp, aop, cV, cV1, ↓reduceIte, Nat.reduceEqDiff, Nat.reduceAdd, Int.cast_ofNat_Int, if_true, if_false, AV.one, repCells, fillA, partCells, Nat.reduceLT, Nat.reduceLeDiff, Nat.reduceMul, Nat.reduceSub, Int.reduceLT, Int.reduceLE, Int.reduceAdd, Int.reduceSub, Int.reduceMul, Int.reduceToNat, sliceCells, cellsAt, srcA, app, reduceCtorEq, Int.reduceEq, Int.reduceNeg, Int.reducePow, Nat.reducePow, Int.reduceTDiv, Int.reduceDiv, Nat.reduceDiv, Nat.reduceMod, Int.reduceMod, Int.reduceTMod, ne_eq, subA, beq_iff_eq, unA, minA, maxA, eqFs, eqA1, beq_self_eq_true, Nat.reduceBEq, newE]
  refine ALoop.by (ι := Unit) (fun _ => ⟨[(6, .int .i64 0), (3, .ref 1 1 0), (2, .ref 0 1 0)], [⟨t0, 10, 1, newE c x r pw, 0⟩, ⟨t0, 10, 1, newE c x r pw, 0⟩]⟩) (fun _ => True) (fun _ => 0) () (Le.slots (by simp [Am.look])) trivial ?_
  intro _ _
  simp (config := { maxSteps := 4000000 }) (disch := omega) only [step, stepv, ev, wl, wn, wp, aop, cV, cV1, ↓reduceIte, Nat.reduceEqDiff, Nat.reduceAdd, Int.cast_ofNat_Int, if_true, if_false, AV.one, repCells, fillA, partCells, Nat.reduceLT, Nat.reduceLeDiff, Nat.reduceMul, Nat.reduceSub, Int.reduceLT, Int.reduceLE, Int.reduceAdd, Int.reduceSub, Int.reduceMul, Int.reduceToNat, sliceCells, cellsAt, srcA, app, reduceCtorEq, Int.reduceEq, Int.reduceNeg, Int.reducePow, Nat.reducePow, Int.reduceTDiv, Int.reduceDiv, Nat.reduceDiv, Nat.reduceMod, Int.reduceMod, Int.reduceTMod, ne_eq, subA, beq_iff_eq, unA, minA, maxA, eqFs, eqA1, beq_self_eq_true, Nat.reduceBEq, newE]

/-! ### Great -/

theorem VC.of_ubool {P : Program} {f : FuncId} {ds : List AV} (h1 : isDL ds = true) (h : ACall P f ds [] (fun r' _ => ∃ b, r' = .bool b)) : VC P f ds .ubool := by
  obtain ⟨h0, h⟩ := h
  refine ⟨h0, h1, rfl, fun w C vs hbnd hr => ?_⟩
  have g : Held w.heap.size ⟨w, [], [], C⟩ := ⟨rfl, by simp, by simp, by simp, hbnd, Nat.le_refl _⟩
  refine (h w.heap.size w [] C vs g hr).mono ?_
  rintro e w' ⟨v, r', ob', be', rfl, hb, hh, hm, hv, b, rfl⟩
  simp only [Rep] at hv
  exact ⟨v, rfl, hb, by simp only [Rep]; exact ⟨b, hv⟩⟩

theorem callQ.ub {P : Program} {Q : Exit → St → Prop} {f : FuncId} {ds : List AV} (h : VC P f ds .ubool) {ob : List Ob} {os : List AO} {fr : List (Nat × AV)} {dst : Option Nat}
    (h1 : wpQ P os Q ⟨putA fr dst (.bool true), ob⟩) (h2 : wpQ P os Q ⟨putA fr dst (.bool false), ob⟩) : callQ P f ds ob os Q fr dst := by
  have := ACall.of_vc h (ob := ob) (K := fun r ob' => r = .ubool ∧ ob' = ob) ⟨rfl, rfl⟩
  refine ⟨this.1, fun B w be C vs g hr => (this.2 B w be C vs g hr).mono ?_⟩
  rintro e w' ⟨v, r, ob', be', rfl, hb, hh, hm, hv, rfl, rfl⟩
  simp only [Rep] at hv
  obtain ⟨b, rfl⟩ := hv
  cases b
  · exact ⟨_, .bool false, _, be', rfl, hb, hh, hm, by simp only [Rep], h2⟩
  · exact ⟨_, .bool true, _, be', rfl, hb, hh, hm, by simp only [Rep], h1⟩

/-- What makes an encoder too great at once. -/
def greatB (e : Enc) : Prop := 400 < e.smp.length ∨ 1010 < e.frs.length ∨ 40 < e.rest.length ∨ 100 < e.pw.length ∨ (3000 < e.out.length ∧ e.out.length ≤ 100000) ∨ 100100 < e.out.length

def S_Great36 (P : Program) (f : Nat) : Prop := ∀ e : Enc, (greatB e → VC P f [encA e] (.bool true)) ∧ (¬ greatB e → VC P f [encA e] .ubool)

theorem ref36_Great {P : Program} {f t0 : Nat} (b : Body P f 74 [.tmp 2] (ac_cadenzaref36_Great t0)) : S_Great36 P f := by
  intro e
  refine ⟨fun hg => ?_, fun hg => ?_⟩
  · refine VC.of_acall (by simp [isDL, isD_enc]) rfl (ACall.of_body b (by simp) ?_)
    by_cases a1 : 400 < e.smp.length
    · simp (config := { maxSteps := 4000000 }) (disch := omega) only [step, stepv, ev, wl, wn, wp, aop, cV, cV1, ↓reduceIte, Nat.reduceEqDiff, Nat.reduceAdd, Int.cast_ofNat_Int, if_true, if_false, AV.one, repCells, fillA, partCells, Nat.reduceLT, Nat.reduceLeDiff, Nat.reduceMul, Nat.reduceSub, Int.reduceLT, Int.reduceLE, Int.reduceAdd, Int.reduceSub, Int.reduceMul, Int.reduceToNat, sliceCells, cellsAt, srcA, app, reduceCtorEq, Int.reduceEq, Int.reduceNeg, Int.reducePow, Nat.reducePow, Int.reduceTDiv, Int.reduceDiv, Nat.reduceDiv, Nat.reduceMod, Int.reduceMod, Int.reduceTMod, ne_eq, subA, beq_iff_eq, unA, minA, maxA, eqFs, eqA1, beq_self_eq_true, Nat.reduceBEq, ac_cadenzaref36_Great, encA, encL, il, bss, bs]
    by_cases a2 : 1010 < e.frs.length
    · simp (config := { maxSteps := 4000000 }) (disch := omega) only [step, stepv, ev, wl, wn, wp, aop, cV, cV1, ↓reduceIte, Nat.reduceEqDiff, Nat.reduceAdd, Int.cast_ofNat_Int, if_true, if_false, AV.one, repCells, fillA, partCells, Nat.reduceLT, Nat.reduceLeDiff, Nat.reduceMul, Nat.reduceSub, Int.reduceLT, Int.reduceLE, Int.reduceAdd, Int.reduceSub, Int.reduceMul, Int.reduceToNat, sliceCells, cellsAt, srcA, app, reduceCtorEq, Int.reduceEq, Int.reduceNeg, Int.reducePow, Nat.reducePow, Int.reduceTDiv, Int.reduceDiv, Nat.reduceDiv, Nat.reduceMod, Int.reduceMod, Int.reduceTMod, ne_eq, subA, beq_iff_eq, unA, minA, maxA, eqFs, eqA1, beq_self_eq_true, Nat.reduceBEq, ac_cadenzaref36_Great, encA, encL, il, bss, bs]
    by_cases a3 : 40 < e.rest.length
    · simp (config := { maxSteps := 4000000 }) (disch := omega) only [step, stepv, ev, wl, wn, wp, aop, cV, cV1, ↓reduceIte, Nat.reduceEqDiff, Nat.reduceAdd, Int.cast_ofNat_Int, if_true, if_false, AV.one, repCells, fillA, partCells, Nat.reduceLT, Nat.reduceLeDiff, Nat.reduceMul, Nat.reduceSub, Int.reduceLT, Int.reduceLE, Int.reduceAdd, Int.reduceSub, Int.reduceMul, Int.reduceToNat, sliceCells, cellsAt, srcA, app, reduceCtorEq, Int.reduceEq, Int.reduceNeg, Int.reducePow, Nat.reducePow, Int.reduceTDiv, Int.reduceDiv, Nat.reduceDiv, Nat.reduceMod, Int.reduceMod, Int.reduceTMod, ne_eq, subA, beq_iff_eq, unA, minA, maxA, eqFs, eqA1, beq_self_eq_true, Nat.reduceBEq, ac_cadenzaref36_Great, encA, encL, il, bss, bs]
    by_cases a4 : 100 < e.pw.length
    · simp (config := { maxSteps := 4000000 }) (disch := omega) only [step, stepv, ev, wl, wn, wp, aop, cV, cV1, ↓reduceIte, Nat.reduceEqDiff, Nat.reduceAdd, Int.cast_ofNat_Int, if_true, if_false, AV.one, repCells, fillA, partCells, Nat.reduceLT, Nat.reduceLeDiff, Nat.reduceMul, Nat.reduceSub, Int.reduceLT, Int.reduceLE, Int.reduceAdd, Int.reduceSub, Int.reduceMul, Int.reduceToNat, sliceCells, cellsAt, srcA, app, reduceCtorEq, Int.reduceEq, Int.reduceNeg, Int.reducePow, Nat.reducePow, Int.reduceTDiv, Int.reduceDiv, Nat.reduceDiv, Nat.reduceMod, Int.reduceMod, Int.reduceTMod, ne_eq, subA, beq_iff_eq, unA, minA, maxA, eqFs, eqA1, beq_self_eq_true, Nat.reduceBEq, ac_cadenzaref36_Great, encA, encL, il, bss, bs]
    by_cases a5 : 3000 < e.out.length
    · by_cases a6 : e.out.length ≤ 100000
      · simp (config := { maxSteps := 4000000 }) (disch := omega) only [step, stepv, ev, wl, wn, wp, aop, cV, cV1, ↓reduceIte, Nat.reduceEqDiff, Nat.reduceAdd, Int.cast_ofNat_Int, if_true, if_false, AV.one, repCells, fillA, partCells, Nat.reduceLT, Nat.reduceLeDiff, Nat.reduceMul, Nat.reduceSub, Int.reduceLT, Int.reduceLE, Int.reduceAdd, Int.reduceSub, Int.reduceMul, Int.reduceToNat, sliceCells, cellsAt, srcA, app, reduceCtorEq, Int.reduceEq, Int.reduceNeg, Int.reducePow, Nat.reducePow, Int.reduceTDiv, Int.reduceDiv, Nat.reduceDiv, Nat.reduceMod, Int.reduceMod, Int.reduceTMod, ne_eq, subA, beq_iff_eq, unA, minA, maxA, eqFs, eqA1, beq_self_eq_true, Nat.reduceBEq, ac_cadenzaref36_Great, encA, encL, il, bss, bs]
      · have : 100100 < e.out.length := by unfold greatB at hg; omega
        simp (config := { maxSteps := 4000000 }) (disch := omega) only [step, stepv, ev, wl, wn, wp, aop, cV, cV1, ↓reduceIte, Nat.reduceEqDiff, Nat.reduceAdd, Int.cast_ofNat_Int, if_true, if_false, AV.one, repCells, fillA, partCells, Nat.reduceLT, Nat.reduceLeDiff, Nat.reduceMul, Nat.reduceSub, Int.reduceLT, Int.reduceLE, Int.reduceAdd, Int.reduceSub, Int.reduceMul, Int.reduceToNat, sliceCells, cellsAt, srcA, app, reduceCtorEq, Int.reduceEq, Int.reduceNeg, Int.reducePow, Nat.reducePow, Int.reduceTDiv, Int.reduceDiv, Nat.reduceDiv, Nat.reduceMod, Int.reduceMod, Int.reduceTMod, ne_eq, subA, beq_iff_eq, unA, minA, maxA, eqFs, eqA1, beq_self_eq_true, Nat.reduceBEq, ac_cadenzaref36_Great, encA, encL, il, bss, bs]
    · unfold greatB at hg; omega
  · refine VC.of_ubool (by simp [isDL, isD_enc]) (ACall.of_body b (by simp) ?_)
    have a1 : ¬ 400 < e.smp.length := fun h => hg (.inl h)
    have a2 : ¬ 1010 < e.frs.length := fun h => hg (.inr (.inl h))
    have a3 : ¬ 40 < e.rest.length := fun h => hg (.inr (.inr (.inl h)))
    have a4 : ¬ 100 < e.pw.length := fun h => hg (.inr (.inr (.inr (.inl h))))
    have a6 : ¬ 100100 < e.out.length := fun h => hg (.inr (.inr (.inr (.inr (.inr h)))))
    have a5 : ¬ (3000 < e.out.length ∧ e.out.length ≤ 100000) := fun h => hg (.inr (.inr (.inr (.inr (.inl h)))))
    by_cases a7 : 3000 < e.out.length
    all_goals
      simp (config := { maxSteps := 4000000 }) (disch := omega) only [step, stepv, ev, wl, wn, wp, aop, cV, cV1, ↓reduceIte, Nat.reduceEqDiff, Nat.reduceAdd, Int.cast_ofNat_Int, if_true, if_false, AV.one, repCells, fillA, partCells, Nat.reduceLT, Nat.reduceLeDiff, Nat.reduceMul, Nat.reduceSub, Int.reduceLT, Int.reduceLE, Int.reduceAdd, Int.reduceSub, Int.reduceMul, Int.reduceToNat, sliceCells, cellsAt, srcA, app, reduceCtorEq, Int.reduceEq, Int.reduceNeg, Int.reducePow, Nat.reducePow, Int.reduceTDiv, Int.reduceDiv, Nat.reduceDiv, Nat.reduceMod, Int.reduceMod, Int.reduceTMod, ne_eq, subA, beq_iff_eq, unA, minA, maxA, eqFs, eqA1, beq_self_eq_true, Nat.reduceBEq, ac_cadenzaref36_Great, encA, encL, il, bss, bs]
      refine ALoop.by (ι := Nat × Int) (fun p => ⟨[(4, .int .i64 p.1), (3, .int .i64 p.2), (1, .ref 0 1 0)], [⟨t0, 10, 1, encL e, 0⟩]⟩) (fun p => p.1 ≤ e.frs.length) (fun p => e.frs.length - p.1) (0, 0) (Le.slots (by simp [Am.look, encL, il, bss, bs])) (by simp) ?_
      rintro ⟨k, n⟩ hk
      simp only at hk
      by_cases hlt : k < e.frs.length
      · by_cases hn : n ≤ 60000
        · simp (config := { maxSteps := 4000000 }) (disch := omega) only [step, stepv, ev, wl, wn, wp, aop, cV, cV1, ↓reduceIte, Nat.reduceEqDiff, Nat.reduceAdd, Int.cast_ofNat_Int, if_true, if_false, AV.one, repCells, fillA, partCells, Nat.reduceLT, Nat.reduceLeDiff, Nat.reduceMul, Nat.reduceSub, Int.reduceLT, Int.reduceLE, Int.reduceAdd, Int.reduceSub, Int.reduceMul, Int.reduceToNat, sliceCells, cellsAt, srcA, app, reduceCtorEq, Int.reduceEq, Int.reduceNeg, Int.reducePow, Nat.reducePow, Int.reduceTDiv, Int.reduceDiv, Nat.reduceDiv, Nat.reduceMod, Int.reduceMod, Int.reduceTMod, ne_eq, subA, beq_iff_eq, unA, minA, maxA, eqFs, eqA1, beq_self_eq_true, Nat.reduceBEq, drop_map1, hlt, encL, il, bss, bs]
          exact ⟨(k + 1, IntKind.i64.wrap (n + e.frs[k].length)), by simp only; omega, by simp only; omega, Le.slots (by simp [Am.look])⟩
        · simp (config := { maxSteps := 4000000 }) (disch := omega) only [step, stepv, ev, wl, wn, wp, aop, cV, cV1, ↓reduceIte, Nat.reduceEqDiff, Nat.reduceAdd, Int.cast_ofNat_Int, if_true, if_false, AV.one, repCells, fillA, partCells, Nat.reduceLT, Nat.reduceLeDiff, Nat.reduceMul, Nat.reduceSub, Int.reduceLT, Int.reduceLE, Int.reduceAdd, Int.reduceSub, Int.reduceMul, Int.reduceToNat, sliceCells, cellsAt, srcA, app, reduceCtorEq, Int.reduceEq, Int.reduceNeg, Int.reducePow, Nat.reducePow, Int.reduceTDiv, Int.reduceDiv, Nat.reduceDiv, Nat.reduceMod, Int.reduceMod, Int.reduceTMod, ne_eq, subA, beq_iff_eq, unA, minA, maxA, eqFs, eqA1, beq_self_eq_true, Nat.reduceBEq, encL, il, bss, bs]
          by_cases h1 : 50000 < n
          · by_cases h2 : 50100 < n <;> simp (config := { maxSteps := 4000000 }) (disch := omega) only [step, stepv, ev, wl, wn, wp, aop, cV, cV1, ↓reduceIte, Nat.reduceEqDiff, Nat.reduceAdd, Int.cast_ofNat_Int, if_true, if_false, AV.one, repCells, fillA, partCells, Nat.reduceLT, Nat.reduceLeDiff, Nat.reduceMul, Nat.reduceSub, Int.reduceLT, Int.reduceLE, Int.reduceAdd, Int.reduceSub, Int.reduceMul, Int.reduceToNat, sliceCells, cellsAt, srcA, app, reduceCtorEq, Int.reduceEq, Int.reduceNeg, Int.reducePow, Nat.reducePow, Int.reduceTDiv, Int.reduceDiv, Nat.reduceDiv, Nat.reduceMod, Int.reduceMod, Int.reduceTMod, ne_eq, subA, beq_iff_eq, unA, minA, maxA, eqFs, eqA1, beq_self_eq_true, Nat.reduceBEq, AV.bool.injEq, exists_eq'] 
          · omega
      · by_cases h0 : 4000 < n
        · by_cases h1 : n ≤ 50000
          · simp (config := { maxSteps := 4000000 }) (disch := omega) only [step, stepv, ev, wl, wn, wp, aop, cV, cV1, ↓reduceIte, Nat.reduceEqDiff, Nat.reduceAdd, Int.cast_ofNat_Int, if_true, if_false, AV.one, repCells, fillA, partCells, Nat.reduceLT, Nat.reduceLeDiff, Nat.reduceMul, Nat.reduceSub, Int.reduceLT, Int.reduceLE, Int.reduceAdd, Int.reduceSub, Int.reduceMul, Int.reduceToNat, sliceCells, cellsAt, srcA, app, reduceCtorEq, Int.reduceEq, Int.reduceNeg, Int.reducePow, Nat.reducePow, Int.reduceTDiv, Int.reduceDiv, Nat.reduceDiv, Nat.reduceMod, Int.reduceMod, Int.reduceTMod, ne_eq, subA, beq_iff_eq, unA, minA, maxA, eqFs, eqA1, beq_self_eq_true, Nat.reduceBEq, encL, il, bss, bs, AV.bool.injEq, exists_eq']
          · by_cases h2 : 50100 < n <;> simp (config := { maxSteps := 4000000 }) (disch := omega) only [step, stepv, ev, wl, wn, wp, aop, cV, cV1, ↓reduceIte, Nat.reduceEqDiff, Nat.reduceAdd, Int.cast_ofNat_Int, if_true, if_false, AV.one, repCells, fillA, partCells, Nat.reduceLT, Nat.reduceLeDiff, Nat.reduceMul, Nat.reduceSub, Int.reduceLT, Int.reduceLE, Int.reduceAdd, Int.reduceSub, Int.reduceMul, Int.reduceToNat, sliceCells, cellsAt, srcA, app, reduceCtorEq, Int.reduceEq, Int.reduceNeg, Int.reducePow, Nat.reducePow, Int.reduceTDiv, Int.reduceDiv, Nat.reduceDiv, Nat.reduceMod, Int.reduceMod, Int.reduceTMod, ne_eq, subA, beq_iff_eq, unA, minA, maxA, eqFs, eqA1, beq_self_eq_true, Nat.reduceBEq, encL, il, bss, bs, AV.bool.injEq, exists_eq']
        · have h2 : ¬ 50100 < n := by omega
          simp (config := { maxSteps := 4000000 }) (disch := omega) only [step, stepv, ev, wl, wn, wp, aop, cV, cV1, ↓reduceIte, Nat.reduceEqDiff, Nat.reduceAdd, Int.cast_ofNat_Int, if_true, if_false, AV.one, repCells, fillA, partCells, Nat.reduceLT, Nat.reduceLeDiff, Nat.reduceMul, Nat.reduceSub, Int.reduceLT, Int.reduceLE, Int.reduceAdd, Int.reduceSub, Int.reduceMul, Int.reduceToNat, sliceCells, cellsAt, srcA, app, reduceCtorEq, Int.reduceEq, Int.reduceNeg, Int.reducePow, Nat.reducePow, Int.reduceTDiv, Int.reduceDiv, Nat.reduceDiv, Nat.reduceMod, Int.reduceMod, Int.reduceTMod, ne_eq, subA, beq_iff_eq, unA, minA, maxA, eqFs, eqA1, beq_self_eq_true, Nat.reduceBEq, encL, il, bss, bs, AV.bool.injEq, exists_eq']

/-! ### The law -/

def okArg (e : Enc) : Prop := e.pw.length ≤ 4611686018427387904 ∧ e.frs.length ≤ 4611686018427387904 ∧ e.smp.length ≤ 4611686018427387904 ∧ I32 e.smp ∧ e.rest.length ≤ 4611686018427387904 ∧ e.out.length ≤ 4611686018427387904

def S_LawChecks (P : Program) (f : Nat) : Prop := ∀ (e : Enc) (c b r : Int) (pw : List UInt8), I32 e.smp → VC P f [encA e, shA c b, .int .i64 r, .str pw] (.bool true)

theorem law36_PushencChecks {P : Program} {f fG fN fM fC fD fS t0 t1 : Nat} (b : Body P f 49 [.tmp 8] (ac_cadenzalaw36_PushencChecks fG fN fM fC fD fS t0 t1)) (hG : S_Great36 P fG) (hN : S_New P fN) (hM : S_New P fM) (hC : S_PCheck P fC) (hD : S_PCheck P fD) (hS : S_Same0 P fS) : S_LawChecks P f := by
  intro e c x r pw hI
  have hGo := hG e
  refine VC.of_acall (by simp [isDL, isD_enc, isD, shA]) rfl (ACall.of_body b (by simp) ?_)
  simp only [encA, encL, il, bss, bs, shA] at hGo ⊢
  by_cases hg : greatB e
  · simp (config := { maxSteps := 4000000 }) (disch := omega) only [step, stepv, ev, wl, wn, wp, aop, cV, cV1, ↓reduceIte, Nat.reduceEqDiff, Nat.reduceAdd, Int.cast_ofNat_Int, if_true, if_false, AV.one, repCells, fillA, partCells, Nat.reduceLT, Nat.reduceLeDiff, Nat.reduceMul, Nat.reduceSub, Int.reduceLT, Int.reduceLE, Int.reduceAdd, Int.reduceSub, Int.reduceMul, Int.reduceToNat, sliceCells, cellsAt, srcA, app, reduceCtorEq, Int.reduceEq, Int.reduceNeg, Int.reducePow, Nat.reducePow, Int.reduceTDiv, Int.reduceDiv, Nat.reduceDiv, Nat.reduceMod, Int.reduceMod, Int.reduceTMod, ne_eq, subA, beq_iff_eq, unA, minA, maxA, eqFs, eqA1, beq_self_eq_true, Nat.reduceBEq, ac_cadenzalaw36_PushencChecks]
    refine callQ.vc (hGo.1 hg) ?_
    simp (config := { maxSteps := 4000000 }) (disch := omega) only [step, stepv, ev, wl, wn, wp, aop, cV, cV1, ↓reduceIte, Nat.reduceEqDiff, Nat.reduceAdd, Int.cast_ofNat_Int, if_true, if_false, AV.one, repCells, fillA, partCells, Nat.reduceLT, Nat.reduceLeDiff, Nat.reduceMul, Nat.reduceSub, Int.reduceLT, Int.reduceLE, Int.reduceAdd, Int.reduceSub, Int.reduceMul, Int.reduceToNat, sliceCells, cellsAt, srcA, app, reduceCtorEq, Int.reduceEq, Int.reduceNeg, Int.reducePow, Nat.reducePow, Int.reduceTDiv, Int.reduceDiv, Nat.reduceDiv, Nat.reduceMod, Int.reduceMod, Int.reduceTMod, ne_eq, subA, beq_iff_eq, unA, minA, maxA, eqFs, eqA1, beq_self_eq_true, Nat.reduceBEq]
  · simp (config := { maxSteps := 4000000 }) (disch := omega) only [step, stepv, ev, wl, wn, wp, aop, cV, cV1, ↓reduceIte, Nat.reduceEqDiff, Nat.reduceAdd, Int.cast_ofNat_Int, if_true, if_false, AV.one, repCells, fillA, partCells, Nat.reduceLT, Nat.reduceLeDiff, Nat.reduceMul, Nat.reduceSub, Int.reduceLT, Int.reduceLE, Int.reduceAdd, Int.reduceSub, Int.reduceMul, Int.reduceToNat, sliceCells, cellsAt, srcA, app, reduceCtorEq, Int.reduceEq, Int.reduceNeg, Int.reducePow, Nat.reducePow, Int.reduceTDiv, Int.reduceDiv, Nat.reduceDiv, Nat.reduceMod, Int.reduceMod, Int.reduceTMod, ne_eq, subA, beq_iff_eq, unA, minA, maxA, eqFs, eqA1, beq_self_eq_true, Nat.reduceBEq, ac_cadenzalaw36_PushencChecks]
    refine callQ.ub (hGo.2 hg) ?_ ?_
    · simp (config := { maxSteps := 4000000 }) (disch := omega) only [step, stepv, ev, wl, wn, wp, aop, cV, cV1, ↓reduceIte, Nat.reduceEqDiff, Nat.reduceAdd, Int.cast_ofNat_Int, if_true, if_false, AV.one, repCells, fillA, partCells, Nat.reduceLT, Nat.reduceLeDiff, Nat.reduceMul, Nat.reduceSub, Int.reduceLT, Int.reduceLE, Int.reduceAdd, Int.reduceSub, Int.reduceMul, Int.reduceToNat, sliceCells, cellsAt, srcA, app, reduceCtorEq, Int.reduceEq, Int.reduceNeg, Int.reducePow, Nat.reducePow, Int.reduceTDiv, Int.reduceDiv, Nat.reduceDiv, Nat.reduceMod, Int.reduceMod, Int.reduceTMod, ne_eq, subA, beq_iff_eq, unA, minA, maxA, eqFs, eqA1, beq_self_eq_true, Nat.reduceBEq]
    by_cases hp : 100 < pw.length
    · simp (config := { maxSteps := 4000000 }) (disch := omega) only [step, stepv, ev, wl, wn, wp, aop, cV, cV1, ↓reduceIte, Nat.reduceEqDiff, Nat.reduceAdd, Int.cast_ofNat_Int, if_true, if_false, AV.one, repCells, fillA, partCells, Nat.reduceLT, Nat.reduceLeDiff, Nat.reduceMul, Nat.reduceSub, Int.reduceLT, Int.reduceLE, Int.reduceAdd, Int.reduceSub, Int.reduceMul, Int.reduceToNat, sliceCells, cellsAt, srcA, app, reduceCtorEq, Int.reduceEq, Int.reduceNeg, Int.reducePow, Nat.reducePow, Int.reduceTDiv, Int.reduceDiv, Nat.reduceDiv, Nat.reduceMod, Int.reduceMod, Int.reduceTMod, ne_eq, subA, beq_iff_eq, unA, minA, maxA, eqFs, eqA1, beq_self_eq_true, Nat.reduceBEq]
    simp (config := { maxSteps := 4000000 }) (disch := omega) only [step, stepv, ev, wl, wn, wp, aop, cV, cV1, ↓reduceIte, Nat.reduceEqDiff, Nat.reduceAdd, Int.cast_ofNat_Int, if_true, if_false, AV.one, repCells, fillA, partCells, Nat.reduceLT, Nat.reduceLeDiff, Nat.reduceMul, Nat.reduceSub, Int.reduceLT, Int.reduceLE, Int.reduceAdd, Int.reduceSub, Int.reduceMul, Int.reduceToNat, sliceCells, cellsAt, srcA, app, reduceCtorEq, Int.reduceEq, Int.reduceNeg, Int.reducePow, Nat.reducePow, Int.reduceTDiv, Int.reduceDiv, Nat.reduceDiv, Nat.reduceMod, Int.reduceMod, Int.reduceTMod, ne_eq, subA, beq_iff_eq, unA, minA, maxA, eqFs, eqA1, beq_self_eq_true, Nat.reduceBEq]
    have a1 : ¬ 400 < e.smp.length := fun h => hg (.inl h)
    have a2 : ¬ 1010 < e.frs.length := fun h => hg (.inr (.inl h))
    have a3 : ¬ 40 < e.rest.length := fun h => hg (.inr (.inr (.inl h)))
    have a4 : ¬ 100 < e.pw.length := fun h => hg (.inr (.inr (.inr (.inl h))))
    have a6 : ¬ 100100 < e.out.length := fun h => hg (.inr (.inr (.inr (.inr (.inr h)))))
    have hok : okC e := ⟨by omega, by omega, by omega, hI, by omega, by omega⟩
    have hNo := hN c x r pw (by omega)
    have hMo := hM c x r pw (by omega)
    have hCo := hC e hok
    have hDo := hD e hok
    have hSo := hS
    simp only [encA, encL, il, bss, bs, shA] at hNo hMo hCo hDo
    refine callQ.vc hNo ?_
    cases hr : rightB c x r pw with
    | true =>
      have hSo := hS c x r pw
      simp (config := { maxSteps := 4000000 }) (disch := omega) only [step, stepv, ev, wl, wn, wp, aop, cV, cV1, ↓reduceIte, Nat.reduceEqDiff, Nat.reduceAdd, Int.cast_ofNat_Int, if_true, if_false, AV.one, repCells, fillA, partCells, Nat.reduceLT, Nat.reduceLeDiff, Nat.reduceMul, Nat.reduceSub, Int.reduceLT, Int.reduceLE, Int.reduceAdd, Int.reduceSub, Int.reduceMul, Int.reduceToNat, sliceCells, cellsAt, srcA, app, reduceCtorEq, Int.reduceEq, Int.reduceNeg, Int.reducePow, Nat.reducePow, Int.reduceTDiv, Int.reduceDiv, Nat.reduceDiv, Nat.reduceMod, Int.reduceMod, Int.reduceTMod, ne_eq, subA, beq_iff_eq, unA, minA, maxA, eqFs, eqA1, beq_self_eq_true, Nat.reduceBEq, newA, hr, newE]
      refine callQ.vc hMo ?_
      simp (config := { maxSteps := 4000000 }) (disch := omega) only [step, stepv, ev, wl, wn, wp, aop, cV, cV1, ↓reduceIte, Nat.reduceEqDiff, Nat.reduceAdd, Int.cast_ofNat_Int, if_true, if_false, AV.one, repCells, fillA, partCells, Nat.reduceLT, Nat.reduceLeDiff, Nat.reduceMul, Nat.reduceSub, Int.reduceLT, Int.reduceLE, Int.reduceAdd, Int.reduceSub, Int.reduceMul, Int.reduceToNat, sliceCells, cellsAt, srcA, app, reduceCtorEq, Int.reduceEq, Int.reduceNeg, Int.reducePow, Nat.reducePow, Int.reduceTDiv, Int.reduceDiv, Nat.reduceDiv, Nat.reduceMod, Int.reduceMod, Int.reduceTMod, ne_eq, subA, beq_iff_eq, unA, minA, maxA, eqFs, eqA1, beq_self_eq_true, Nat.reduceBEq, newA, hr, newE]
      refine callD.vc hCo ?_
      simp (config := { maxSteps := 4000000 }) (disch := omega) only [step, stepv, ev, wl, wn, wp, aop, cV, cV1, ↓reduceIte, Nat.reduceEqDiff, Nat.reduceAdd, Int.cast_ofNat_Int, if_true, if_false, AV.one, repCells, fillA, partCells, Nat.reduceLT, Nat.reduceLeDiff, Nat.reduceMul, Nat.reduceSub, Int.reduceLT, Int.reduceLE, Int.reduceAdd, Int.reduceSub, Int.reduceMul, Int.reduceToNat, sliceCells, cellsAt, srcA, app, reduceCtorEq, Int.reduceEq, Int.reduceNeg, Int.reducePow, Nat.reducePow, Int.reduceTDiv, Int.reduceDiv, Nat.reduceDiv, Nat.reduceMod, Int.reduceMod, Int.reduceTMod, ne_eq, subA, beq_iff_eq, unA, minA, maxA, eqFs, eqA1, beq_self_eq_true, Nat.reduceBEq]
      refine callD.vc hDo ?_
      simp (config := { maxSteps := 4000000 }) (disch := omega) only [step, stepv, ev, wl, wn, wp, aop, cV, cV1, ↓reduceIte, Nat.reduceEqDiff, Nat.reduceAdd, Int.cast_ofNat_Int, if_true, if_false, AV.one, repCells, fillA, partCells, Nat.reduceLT, Nat.reduceLeDiff, Nat.reduceMul, Nat.reduceSub, Int.reduceLT, Int.reduceLE, Int.reduceAdd, Int.reduceSub, Int.reduceMul, Int.reduceToNat, sliceCells, cellsAt, srcA, app, reduceCtorEq, Int.reduceEq, Int.reduceNeg, Int.reducePow, Nat.reducePow, Int.reduceTDiv, Int.reduceDiv, Nat.reduceDiv, Nat.reduceMod, Int.reduceMod, Int.reduceTMod, ne_eq, subA, beq_iff_eq, unA, minA, maxA, eqFs, eqA1, beq_self_eq_true, Nat.reduceBEq]
      refine callD.vc (by simpa only [newE] using hSo) ?_
      simp (config := { maxSteps := 4000000 }) (disch := omega) only [step, stepv, ev, wl, wn, wp, aop, cV, cV1, ↓reduceIte, Nat.reduceEqDiff, Nat.reduceAdd, Int.cast_ofNat_Int, if_true, if_false, AV.one, repCells, fillA, partCells, Nat.reduceLT, Nat.reduceLeDiff, Nat.reduceMul, Nat.reduceSub, Int.reduceLT, Int.reduceLE, Int.reduceAdd, Int.reduceSub, Int.reduceMul, Int.reduceToNat, sliceCells, cellsAt, srcA, app, reduceCtorEq, Int.reduceEq, Int.reduceNeg, Int.reducePow, Nat.reducePow, Int.reduceTDiv, Int.reduceDiv, Nat.reduceDiv, Nat.reduceMod, Int.reduceMod, Int.reduceTMod, ne_eq, subA, beq_iff_eq, unA, minA, maxA, eqFs, eqA1, beq_self_eq_true, Nat.reduceBEq]
    | false =>
      have hSo := hS 0 0 0 []
      simp (config := { maxSteps := 4000000 }) (disch := omega) only [step, stepv, ev, wl, wn, wp, aop, cV, cV1, ↓reduceIte, Nat.reduceEqDiff, Nat.reduceAdd, Int.cast_ofNat_Int, if_true, if_false, AV.one, repCells, fillA, partCells, Nat.reduceLT, Nat.reduceLeDiff, Nat.reduceMul, Nat.reduceSub, Int.reduceLT, Int.reduceLE, Int.reduceAdd, Int.reduceSub, Int.reduceMul, Int.reduceToNat, sliceCells, cellsAt, srcA, app, reduceCtorEq, Int.reduceEq, Int.reduceNeg, Int.reducePow, Nat.reducePow, Int.reduceTDiv, Int.reduceDiv, Nat.reduceDiv, Nat.reduceMod, Int.reduceMod, Int.reduceTMod, ne_eq, subA, beq_iff_eq, unA, minA, maxA, eqFs, eqA1, beq_self_eq_true, Nat.reduceBEq, newA, hr, newE]
      refine callQ.vc hMo ?_
      simp (config := { maxSteps := 4000000 }) (disch := omega) only [step, stepv, ev, wl, wn, wp, aop, cV, cV1, ↓reduceIte, Nat.reduceEqDiff, Nat.reduceAdd, Int.cast_ofNat_Int, if_true, if_false, AV.one, repCells, fillA, partCells, Nat.reduceLT, Nat.reduceLeDiff, Nat.reduceMul, Nat.reduceSub, Int.reduceLT, Int.reduceLE, Int.reduceAdd, Int.reduceSub, Int.reduceMul, Int.reduceToNat, sliceCells, cellsAt, srcA, app, reduceCtorEq, Int.reduceEq, Int.reduceNeg, Int.reducePow, Nat.reducePow, Int.reduceTDiv, Int.reduceDiv, Nat.reduceDiv, Nat.reduceMod, Int.reduceMod, Int.reduceTMod, ne_eq, subA, beq_iff_eq, unA, minA, maxA, eqFs, eqA1, beq_self_eq_true, Nat.reduceBEq, newA, hr, newE]
      refine callD.vc hCo ?_
      simp (config := { maxSteps := 4000000 }) (disch := omega) only [step, stepv, ev, wl, wn, wp, aop, cV, cV1, ↓reduceIte, Nat.reduceEqDiff, Nat.reduceAdd, Int.cast_ofNat_Int, if_true, if_false, AV.one, repCells, fillA, partCells, Nat.reduceLT, Nat.reduceLeDiff, Nat.reduceMul, Nat.reduceSub, Int.reduceLT, Int.reduceLE, Int.reduceAdd, Int.reduceSub, Int.reduceMul, Int.reduceToNat, sliceCells, cellsAt, srcA, app, reduceCtorEq, Int.reduceEq, Int.reduceNeg, Int.reducePow, Nat.reducePow, Int.reduceTDiv, Int.reduceDiv, Nat.reduceDiv, Nat.reduceMod, Int.reduceMod, Int.reduceTMod, ne_eq, subA, beq_iff_eq, unA, minA, maxA, eqFs, eqA1, beq_self_eq_true, Nat.reduceBEq]
      refine callD.vc hDo ?_
      simp (config := { maxSteps := 4000000 }) (disch := omega) only [step, stepv, ev, wl, wn, wp, aop, cV, cV1, ↓reduceIte, Nat.reduceEqDiff, Nat.reduceAdd, Int.cast_ofNat_Int, if_true, if_false, AV.one, repCells, fillA, partCells, Nat.reduceLT, Nat.reduceLeDiff, Nat.reduceMul, Nat.reduceSub, Int.reduceLT, Int.reduceLE, Int.reduceAdd, Int.reduceSub, Int.reduceMul, Int.reduceToNat, sliceCells, cellsAt, srcA, app, reduceCtorEq, Int.reduceEq, Int.reduceNeg, Int.reducePow, Nat.reducePow, Int.reduceTDiv, Int.reduceDiv, Nat.reduceDiv, Nat.reduceMod, Int.reduceMod, Int.reduceTMod, ne_eq, subA, beq_iff_eq, unA, minA, maxA, eqFs, eqA1, beq_self_eq_true, Nat.reduceBEq]
      refine callD.vc (by simpa only [newE] using hSo) ?_
      simp (config := { maxSteps := 4000000 }) (disch := omega) only [step, stepv, ev, wl, wn, wp, aop, cV, cV1, ↓reduceIte, Nat.reduceEqDiff, Nat.reduceAdd, Int.cast_ofNat_Int, if_true, if_false, AV.one, repCells, fillA, partCells, Nat.reduceLT, Nat.reduceLeDiff, Nat.reduceMul, Nat.reduceSub, Int.reduceLT, Int.reduceLE, Int.reduceAdd, Int.reduceSub, Int.reduceMul, Int.reduceToNat, sliceCells, cellsAt, srcA, app, reduceCtorEq, Int.reduceEq, Int.reduceNeg, Int.reducePow, Nat.reducePow, Int.reduceTDiv, Int.reduceDiv, Nat.reduceDiv, Nat.reduceMod, Int.reduceMod, Int.reduceTMod, ne_eq, subA, beq_iff_eq, unA, minA, maxA, eqFs, eqA1, beq_self_eq_true, Nat.reduceBEq]

end Go.Am

namespace Go.Am
open Go.RowKit

theorem flatten_one {α : Type} (f : α → AV) : ∀ l : List α, (l.map fun x => [f x]).flatten = l.map f
  | [] => rfl
  | x :: l => by simp [flatten_one f l]

theorem fits_u8s {L : List (List AV)} (h : ∀ c ∈ L, Fits (.int .u8) c) : ∃ l : List UInt8, L.length = l.length ∧ AV.list L.length L.flatten = bs l := by
  obtain ⟨l, rfl, _⟩ := map_of_all (f := fun b : UInt8 => [AV.int .u8 b.toNat]) (q := fun _ => True) h (fun c hc => by
    simp only [Fits] at hc
    obtain ⟨n, rfl, h1, h2⟩ := hc
    simp only [IntKind.min, IntKind.max, IntKind.signed, IntKind.bits] at h1 h2
    refine ⟨UInt8.ofNat n.toNat, ?_, trivial⟩
    simp at h1 h2
    simp; omega)
  exact ⟨l, by simp, by simp [bs, u8, flatten_one]⟩

theorem fits_ints {K : IntKind} {L : List (List AV)} (h : ∀ c ∈ L, Fits (.int K) c) : ∃ l : List Int, L.length = l.length ∧ AV.list L.length L.flatten = .list l.length (ks K l) ∧ ∀ x ∈ l, K.min ≤ x ∧ x ≤ K.max := by
  obtain ⟨l, rfl, h2⟩ := map_of_all (f := fun n : Int => [AV.int K n]) (q := fun x => K.min ≤ x ∧ x ≤ K.max) h (fun c hc => by
    simp only [Fits] at hc
    obtain ⟨n, rfl, h1, h2⟩ := hc
    exact ⟨n, rfl, h1, h2⟩)
  exact ⟨l, by simp, by simp [ks, flatten_one], h2⟩

theorem fits_i32s {L : List (List AV)} (h : ∀ c ∈ L, Fits (.int .i32) c) : ∃ l : List Int, L.length = l.length ∧ AV.list L.length L.flatten = il l ∧ I32 l := by
  obtain ⟨l, h1, h2, h3⟩ := fits_ints h
  exact ⟨l, h1, h2, fun x hx => by have := h3 x hx; simpa [IntKind.min, IntKind.max, IntKind.signed, IntKind.bits] using this⟩

theorem fits_bss {L : List (List AV)} (h : ∀ c ∈ L, Fits (.slice (.int .u8)) c) : ∃ l : List (List UInt8), L.length = l.length ∧ AV.list L.length L.flatten = bss l ∧ ∀ x ∈ l, x.length ≤ maxLen := by
  obtain ⟨l, rfl, h2⟩ := map_of_all (f := fun b : List UInt8 => [bs b]) (q := fun x => x.length ≤ maxLen) h (fun c hc => by
    simp only [Fits] at hc
    obtain ⟨L', rfl, h1, h2⟩ := hc
    obtain ⟨l, h3, h4⟩ := fits_u8s h2
    exact ⟨l, by rw [h4], by omega⟩)
  exact ⟨l, by simp, by simp [bss, flatten_one], h2⟩

def isStr (P : Program) (t : TypeId) : Bool := match P.underlying t with | some (.struct _) => true | _ => false
def isArr (P : Program) (t : TypeId) : Bool := match P.underlying t with | some (.array _ _) => true | _ => false
def isSl (P : Program) (t : TypeId) : Bool := match P.underlying t with | some (.slice _) => true | _ => false
theorem isStr_eq {P : Program} {t : TypeId} (h : isStr P t = true) : ∃ fs, P.underlying t = some (.struct fs) := by
  unfold isStr at h; split at h
  · exact ⟨_, by assumption⟩
  · cases h
theorem isArr_eq {P : Program} {t : TypeId} (h : isArr P t = true) : ∃ n e, P.underlying t = some (.array n e) := by
  unfold isArr at h; split at h
  · exact ⟨_, _, by assumption⟩
  · cases h
theorem isSl_eq {P : Program} {t : TypeId} (h : isSl P t = true) : ∃ e, P.underlying t = some (.slice e) := by
  unfold isSl at h; split at h
  · exact ⟨_, by assumption⟩
  · cases h

def shSh : Sh := .tuple [.int .i64, .int .i64]
def encSh : Sh := .tuple [shSh, .int .i64, .str, .slice (.int .u8), .slice (.int .i32), .slice (.slice (.int .u8)), .slice (.int .u8), .bool, .int .i64]

theorem fits_shape {as : List AV} (h : Fits shSh as) : ∃ c b : Int, as = [.int .i64 c, .int .i64 b] := by
  simp only [shSh, Fits, FitsL] at h
  obtain ⟨_, _, rfl, ⟨c, rfl, _⟩, _, _, rfl, ⟨b, rfl, _⟩, rfl⟩ := h
  exact ⟨c, b, rfl⟩

theorem fits_enc {as : List AV} (h : Fits encSh as) : ∃ e : Enc, as = encL e ∧ I32 e.smp := by
  simp only [encSh, Fits, FitsL] at h
  obtain ⟨_, _, rfl, h1, _, _, rfl, ⟨r, rfl, _⟩, _, _, rfl, ⟨p, rfl, _⟩, _, _, rfl, ⟨L1, rfl, _, h2⟩, _, _, rfl, ⟨L2, rfl, _, h3⟩, _, _, rfl, ⟨L3, rfl, _, h4⟩, _, _, rfl, ⟨L4, rfl, _, h5⟩, _, _, rfl, ⟨d, rfl⟩, _, _, rfl, ⟨x, rfl, _⟩, rfl⟩ := h
  obtain ⟨c, b, rfl⟩ := fits_shape h1
  obtain ⟨l1, _, e1⟩ := fits_u8s (L := L1) (fun c hc => by simp only [Fits]; exact h2 c hc)
  obtain ⟨l2, _, e2, hi⟩ := fits_i32s (L := L2) (fun c hc => by simp only [Fits]; exact h3 c hc)
  obtain ⟨l3, _, e3, _⟩ := fits_bss (L := L3) (fun c hc => by simp only [Fits]; exact h4 c hc)
  obtain ⟨l4, _, e4⟩ := fits_u8s (L := L4) (fun c hc => by simp only [Fits]; exact h5 c hc)
  exact ⟨⟨c, b, r, p, l1, l2, l3, l4, d, x⟩, by simp [encL, e1, e2, e3, e4], hi⟩
end Go.Am

namespace Go.Am
open Go.RowKit

def w32 (x : Int) : Int := IntKind.i32.wrap x
theorem w32_eq (x : Int) : w32 x = (x + 2147483648) % 4294967296 - 2147483648 := by
  simp [w32, IntKind.wrap, IntKind.bits, IntKind.signed]; split <;> omega
theorem w32_add (a b : Int) : w32 (w32 a + w32 b) = w32 (a + b) := by simp only [w32_eq]; omega
theorem w32_addl (a b : Int) : w32 (w32 a + b) = w32 (a + b) := by simp only [w32_eq]; omega
theorem w32_addr (a b : Int) : w32 (a + w32 b) = w32 (a + b) := by simp only [w32_eq]; omega
theorem w32_subl (a b : Int) : w32 (w32 a - b) = w32 (a - b) := by simp only [w32_eq]; omega
theorem w32_subr (a b : Int) : w32 (a - w32 b) = w32 (a - b) := by simp only [w32_eq]; omega
theorem w32_w32 (a : Int) : w32 (w32 a) = w32 a := by simp only [w32_eq]; omega
theorem w32_id {a : Int} (h1 : -2147483648 ≤ a) (h2 : a ≤ 2147483647) : w32 a = a := wrap_i32 h1 h2
theorem w32_rng (a : Int) : -2147483648 ≤ w32 a ∧ w32 a ≤ 2147483647 := by simp only [w32_eq]; omega
theorem w32_def (x : Int) : IntKind.i32.wrap x = w32 x := rfl

theorem getD_mem {l : List Int} (h : I32 l) (k : Nat) : -2147483648 ≤ l.getD k 0 ∧ l.getD k 0 ≤ 2147483647 := by
  rw [List.getD_eq_getElem?_getD]
  cases hk : l[k]? with
  | none => simp
  | some v => exact h v (List.mem_of_getElem? hk)

theorem ks_get {K : IntKind} {l : List Int} {k : Nat} (h : k < l.length) : (ks K l)[k]? = some (.int K (l.getD k 0)) := by
  simp [ks, List.getD_eq_getElem?_getD, List.getElem?_eq_getElem h]

/-- A filter. -/
structure Filt where
  sh : Int
  tp : List Int
  ps : List Int

def filtL (f : Filt) : List AV := .int .i64 f.sh :: (ks .i32 f.tp ++ ks .i32 f.ps)
def okFl (f : Filt) : Prop := f.tp.length = 16 ∧ f.ps.length = 16 ∧ I32 f.tp ∧ I32 f.ps

theorem filt_len {f : Filt} (h : okFl f) : (filtL f).length = 33 := by
  obtain ⟨h1, h2, _⟩ := h
  simp [filtL, ks_length, h1, h2]
theorem filt_one (f : Filt) : (filtL f).all AV.one = true := by
  simp only [filtL, List.all_cons, List.all_append, ks_one]; rfl
theorem isDL_filt (f : Filt) : isDL (filtL f) = true := by
  have : ∀ a b, isDL (ks .i32 a ++ ks .i32 b) = true := fun a b => by rw [ks_append]; exact isDL_ks _ _
  simp [filtL, isDL, isD, this]
theorem filt_taps {f : Filt} (h : okFl f) : ((filtL f).drop 1).take 16 = ks .i32 f.tp := by
  obtain ⟨h1, h2, _⟩ := h
  simp only [filtL, List.drop_succ_cons, List.drop_zero]
  rw [List.take_left' (by simp [ks_length, h1])]
theorem filt_pasts {f : Filt} (h : okFl f) : ((filtL f).drop 17).take 16 = ks .i32 f.ps := by
  obtain ⟨h1, h2, _⟩ := h
  simp only [filtL, List.drop_succ_cons]
  rw [List.drop_left' (by simp [ks_length, h1]), List.take_of_length_le (by simp [ks_length, h2])]
theorem filt_tap {f : Filt} (h : okFl f) {k : Nat} (hk : k < 16) : (filtL f).drop (1 + k) = .int .i32 (f.tp.getD k 0) :: ((ks .i32 f.tp).drop (k + 1) ++ ks .i32 f.ps) := by
  obtain ⟨h1, h2, _⟩ := h
  rw [Nat.add_comm]
  simp only [filtL, List.drop_succ_cons]
  rw [List.drop_append_of_le_length (by simp [ks_length, h1]; omega), drop_ks (by omega), ← ks_drop]
  simp [List.getD_eq_getElem?_getD, List.getElem?_eq_getElem (show k < f.tp.length by omega)]
theorem filt_past {f : Filt} (h : okFl f) {k : Nat} (hk : k < 16) : (filtL f).drop (17 + k) = .int .i32 (f.ps.getD k 0) :: (ks .i32 f.ps).drop (k + 1) := by
  obtain ⟨h1, h2, _⟩ := h
  rw [show 17 + k = (16 + k) + 1 by omega]
  simp only [filtL, List.drop_succ_cons]
  rw [← List.drop_drop, List.drop_left' (by simp [ks_length, h1]), drop_ks (by omega), ← ks_drop]
  simp [List.getD_eq_getElem?_getD, List.getElem?_eq_getElem (show k < f.ps.length by omega)]
theorem filt_setTap {f : Filt} (h : okFl f) {k : Nat} (hk : k < 16) (v : Int) : (filtL f).take (1 + k) ++ [.int .i32 v] ++ (filtL f).drop (1 + k + 1) = filtL { f with tp := f.tp.set k v } := by
  obtain ⟨h1, h2, _⟩ := h
  rw [Nat.add_comm 1 k]
  simp only [filtL, List.take_succ_cons, List.drop_succ_cons, List.cons_append]
  congr 1
  rw [List.take_append_of_le_length (by simp [ks_length, h1]; omega), List.drop_append_of_le_length (by simp [ks_length, h1]; omega), ← List.append_assoc]
  congr 1
  rw [List.set_eq_take_append_cons_drop, if_pos (by omega)]
  simp [ks]
theorem filt_setPast {f : Filt} (h : okFl f) {k : Nat} (hk : k < 16) (v : Int) : (filtL f).take (17 + k) ++ [.int .i32 v] ++ (filtL f).drop (17 + k + 1) = filtL { f with ps := f.ps.set k v } := by
  obtain ⟨h1, h2, _⟩ := h
  rw [show 17 + k = (16 + k) + 1 by omega]
  simp only [filtL, List.take_succ_cons, List.drop_succ_cons, List.cons_append]
  congr 1
  have e : (ks .i32 f.tp).length = 16 := by simp [ks_length, h1]
  rw [List.take_append, List.take_of_length_le (by omega), e, show 16 + k + 1 = 16 + (k + 1) by omega, ← List.drop_drop, List.drop_left' e, show 16 + k - 16 = k by omega, List.append_assoc, List.append_assoc]
  congr 1
  rw [List.set_eq_take_append_cons_drop, if_pos (by omega)]
  simp [ks]

theorem take_all {α : Type} {l : List α} {n : Nat} (h : l.length ≤ n) : l.take n = l := List.take_of_length_le h

/-! ### taps.New, taps.Check -/

def shiftOf (b : Int) : Int := if b = 16 then 9 else 10
def z16 : List Int := List.replicate 16 0
def newF (b : Int) (t : List Int) : Filt := ⟨shiftOf b, t, z16⟩
def zeroF : Filt := ⟨0, z16, z16⟩
def tnewA (b : Int) (t : List Int) : AV := if half b = 0 then .tup [.agg (filtL zeroF), .int .i64 2] else .tup [.agg (filtL (newF b t)), .int .i64 0]
def S_TNew (P : Program) (f : Nat) : Prop := ∀ (b : Int) (t : List Int), t.length = 16 → VC P f [.int .i64 b, .agg (ks .i32 t)] (tnewA b t)

theorem isD_tnew (b : Int) (t : List Int) : isD (tnewA b t) = true := by
  unfold tnewA; split <;> simp [isD, isDL, isDL_filt]
theorem zeroF_eq : filtL zeroF = [.int .i64 0, .int .i32 0, .int .i32 0, .int .i32 0, .int .i32 0, .int .i32 0, .int .i32 0, .int .i32 0, .int .i32 0, .int .i32 0, .int .i32 0, .int .i32 0, .int .i32 0, .int .i32 0, .int .i32 0, .int .i32 0, .int .i32 0, .int .i32 0, .int .i32 0, .int .i32 0, .int .i32 0, .int .i32 0, .int .i32 0, .int .i32 0, .int .i32 0, .int .i32 0, .int .i32 0, .int .i32 0, .int .i32 0, .int .i32 0, .int .i32 0, .int .i32 0, .int .i32 0] := rfl

theorem taps_New {P : Program} {f t0 t1 : Nat} (b : Body P f 18 [.cell 4 t1, .tmp 5] (ac_taps_New t0 t1)) (ht : aggO P t1 = some (some 33)) : S_TNew P f := by
  intro x t hl
  have hk : (ks .i32 t).length = 16 := by simp [ks_length, hl]
  have h1 := ks_one .i32 t
  have tk16 : (ks .i32 t).take 16 = ks .i32 t := take_all (by omega)
  refine VC.of_acall (by simp [isDL, isD, isDL_ks]) (isD_tnew _ _) (ACall.of_body b (by simp) ?_)
  have fin : ∀ s : Int, .int .i64 s :: (ks .i32 t ++ [.int .i32 0, .int .i32 0, .int .i32 0, .int .i32 0, .int .i32 0, .int .i32 0, .int .i32 0, .int .i32 0, .int .i32 0, .int .i32 0, .int .i32 0, .int .i32 0, .int .i32 0, .int .i32 0, .int .i32 0, .int .i32 0]) = filtL ⟨s, t, z16⟩ := fun _ => rfl
  have hl33 : ∀ s : Int, (filtL ⟨s, t, z16⟩).length = 33 := fun s => by simp [filtL, ks_length, hl, z16]
  have ho := fun s => filt_one ⟨s, t, z16⟩
  have tk : ∀ s : Int, (filtL ⟨s, t, z16⟩).take 33 = filtL ⟨s, t, z16⟩ := fun s => take_all (by rw [hl33]; omega)
  have st9 : ([] : List AV) ++ [.int .i64 9] ++ (filtL ⟨10, t, z16⟩).drop 1 = filtL ⟨9, t, z16⟩ := rfl
  have d9 : AV.int .i64 9 :: (filtL ⟨10, t, z16⟩).drop 1 = filtL ⟨9, t, z16⟩ := rfl
  rcases half_cases x with ⟨rfl, h⟩ | ⟨rfl, h⟩ | ⟨rfl, h⟩ | ⟨h2, h3, h4, h⟩
  · simp (config := { maxSteps := 4000000 }) (disch := omega) only [step, stepv, ev, wl, wn, wp, aop, cV, cV1, ↓reduceIte, Nat.reduceEqDiff, Nat.reduceAdd, Int.cast_ofNat_Int, if_true, if_false, AV.one, repCells, fillA, partCells, Nat.reduceLT, Nat.reduceLeDiff, Nat.reduceMul, Nat.reduceSub, Int.reduceLT, Int.reduceLE, Int.reduceAdd, Int.reduceSub, Int.reduceMul, Int.reduceToNat, sliceCells, cellsAt, srcA, app, reduceCtorEq, Int.reduceEq, Int.reduceNeg, Int.reducePow, Nat.reducePow, Int.reduceTDiv, Int.reduceDiv, Nat.reduceDiv, Nat.reduceMod, Int.reduceMod, Int.reduceTMod, ne_eq, subA, beq_iff_eq, unA, minA, maxA, eqFs, eqA1, beq_self_eq_true, Nat.reduceBEq, ac_taps_New, tnewA, h, hk, h1, tk16, fin, hl33, ho, tk, resA, ht, newF, shiftOf]
  · simp (config := { maxSteps := 4000000 }) (disch := omega) only [step, stepv, ev, wl, wn, wp, aop, cV, cV1, ↓reduceIte, Nat.reduceEqDiff, Nat.reduceAdd, Int.cast_ofNat_Int, if_true, if_false, AV.one, repCells, fillA, partCells, Nat.reduceLT, Nat.reduceLeDiff, Nat.reduceMul, Nat.reduceSub, Int.reduceLT, Int.reduceLE, Int.reduceAdd, Int.reduceSub, Int.reduceMul, Int.reduceToNat, sliceCells, cellsAt, srcA, app, reduceCtorEq, Int.reduceEq, Int.reduceNeg, Int.reducePow, Nat.reducePow, Int.reduceTDiv, Int.reduceDiv, Nat.reduceDiv, Nat.reduceMod, Int.reduceMod, Int.reduceTMod, ne_eq, subA, beq_iff_eq, unA, minA, maxA, eqFs, eqA1, beq_self_eq_true, Nat.reduceBEq, ac_taps_New, tnewA, h, hk, h1, tk16, fin, hl33, ho, tk, resA, ht, newF, shiftOf, d9]
  · simp (config := { maxSteps := 4000000 }) (disch := omega) only [step, stepv, ev, wl, wn, wp, aop, cV, cV1, ↓reduceIte, Nat.reduceEqDiff, Nat.reduceAdd, Int.cast_ofNat_Int, if_true, if_false, AV.one, repCells, fillA, partCells, Nat.reduceLT, Nat.reduceLeDiff, Nat.reduceMul, Nat.reduceSub, Int.reduceLT, Int.reduceLE, Int.reduceAdd, Int.reduceSub, Int.reduceMul, Int.reduceToNat, sliceCells, cellsAt, srcA, app, reduceCtorEq, Int.reduceEq, Int.reduceNeg, Int.reducePow, Nat.reducePow, Int.reduceTDiv, Int.reduceDiv, Nat.reduceDiv, Nat.reduceMod, Int.reduceMod, Int.reduceTMod, ne_eq, subA, beq_iff_eq, unA, minA, maxA, eqFs, eqA1, beq_self_eq_true, Nat.reduceBEq, ac_taps_New, tnewA, h, hk, h1, tk16, fin, hl33, ho, tk, resA, ht, newF, shiftOf]
  · simp (config := { maxSteps := 4000000 }) (disch := omega) only [step, stepv, ev, wl, wn, wp, aop, cV, cV1, ↓reduceIte, Nat.reduceEqDiff, Nat.reduceAdd, Int.cast_ofNat_Int, if_true, if_false, AV.one, repCells, fillA, partCells, Nat.reduceLT, Nat.reduceLeDiff, Nat.reduceMul, Nat.reduceSub, Int.reduceLT, Int.reduceLE, Int.reduceAdd, Int.reduceSub, Int.reduceMul, Int.reduceToNat, sliceCells, cellsAt, srcA, app, reduceCtorEq, Int.reduceEq, Int.reduceNeg, Int.reducePow, Nat.reducePow, Int.reduceTDiv, Int.reduceDiv, Nat.reduceDiv, Nat.reduceMod, Int.reduceMod, Int.reduceTMod, ne_eq, subA, beq_iff_eq, unA, minA, maxA, eqFs, eqA1, beq_self_eq_true, Nat.reduceBEq, ac_taps_New, tnewA, h, hk, h1, tk16, fin, hl33, ho, tk, resA, ht, zeroF_eq]

def tchk (s : Int) : Int := if s = 9 ∨ s = 10 then 0 else 8
def S_TCheck (P : Program) (f : Nat) : Prop := ∀ x : Filt, okFl x → VC P f [.agg (filtL x)] (.int .i64 (tchk x.sh))

theorem tchk9 : tchk 9 = 0 := rfl
theorem tchk10 : tchk 10 = 0 := rfl

/-! ### taps.Guess -/

def dotN (a b : List Int) : Nat → Int
  | 0 => 0
  | k + 1 => dotN a b k + a.getD k 0 * b.getD k 0
def partN (s : Int) : Int := if s = 9 then 512 else 1024
def guessF (f : Filt) : Int := w32 (partN f.sh / 2 + dotN f.tp f.ps 16) / partN f.sh
def S_TGuess (P : Program) (f : Nat) : Prop := ∀ x : Filt, okFl x → x.sh = 9 ∨ x.sh = 10 → VC P f [.agg (filtL x)] (.tup [.int .i32 (guessF x), .int .i64 0])

theorem guess_rng (f : Filt) (h : f.sh = 9 ∨ f.sh = 10) : -2147483648 ≤ guessF f ∧ guessF f ≤ 2147483647 := by
  have := w32_rng (partN f.sh / 2 + dotN f.tp f.ps 16)
  unfold guessF partN at *
  rcases h with h | h <;> simp [h] at * <;> omega

theorem shl32_8 : shiftA true .i32 1 8 = some (.int .i32 256) := rfl
theorem shl32_9 : shiftA true .i32 1 9 = some (.int .i32 512) := rfl
theorem shr32_9 (s : Int) : shiftA false .i32 s 9 = some (.int .i32 (s / 512)) := by
  show some (AV.int .i32 (s.fdiv 512)) = _
  rw [Int.fdiv_eq_ediv_of_nonneg _ (by omega)]
theorem shr32_10 (s : Int) : shiftA false .i32 s 10 = some (.int .i32 (s / 1024)) := by
  show some (AV.int .i32 (s.fdiv 1024)) = _
  rw [Int.fdiv_eq_ediv_of_nonneg _ (by omega)]

theorem taps_Guess {P : Program} {f fC t0 : Nat} (b : Body P f 36 [.tmp 2, .tmp 3] (ac_taps_Guess fC t0)) (hC : S_TCheck P fC) : S_TGuess P f := by
  intro x hx hs
  have l33 := filt_len hx
  have tk : (filtL x).take 33 = filtL x := take_all (by omega)
  have ho := filt_one x
  have e1 := filt_taps hx
  have e0 : (filtL x).drop 0 = .int .i64 x.sh :: (ks .i32 x.tp ++ ks .i32 x.ps) := rfl
  have ht : tchk x.sh = 0 := by simp [tchk, hs]
  have hl := hx.1
  refine VC.of_acall (by simp [isDL, isD, isDL_filt]) rfl (ACall.of_body b (by simp) ?_)
  simp (config := { maxSteps := 4000000 }) (disch := omega) only [step, stepv, ev, wl, wn, wp, aop, cV, cV1, ↓reduceIte, Nat.reduceEqDiff, Nat.reduceAdd, Int.cast_ofNat_Int, if_true, if_false, AV.one, repCells, fillA, partCells, Nat.reduceLT, Nat.reduceLeDiff, Nat.reduceMul, Nat.reduceSub, Int.reduceLT, Int.reduceLE, Int.reduceAdd, Int.reduceSub, Int.reduceMul, Int.reduceToNat, sliceCells, cellsAt, srcA, app, reduceCtorEq, Int.reduceEq, Int.reduceNeg, Int.reducePow, Nat.reducePow, Int.reduceTDiv, Int.reduceDiv, Nat.reduceDiv, Nat.reduceMod, Int.reduceMod, Int.reduceTMod, ne_eq, subA, beq_iff_eq, unA, minA, maxA, eqFs, eqA1, beq_self_eq_true, Nat.reduceBEq, ac_taps_Guess, l33, tk, ho]
  refine callQ.vc (hC x hx) ?_
  rcases hs with h | h
  all_goals
    have z0 : w32 (partN x.sh / 2 + dotN x.tp x.ps 0) = partN x.sh / 2 := by simp only [dotN, Int.add_zero]; exact w32_id (by simp [partN, h]) (by simp [partN, h])
    have z1 : partN x.sh = 512 ∧ x.sh = 9 ∨ partN x.sh = 1024 ∧ x.sh = 10 := by simp [partN, h]
    simp (config := { maxSteps := 4000000 }) (disch := omega) only [step, stepv, ev, wl, wn, wp, aop, cV, cV1, ↓reduceIte, Nat.reduceEqDiff, Nat.reduceAdd, Int.cast_ofNat_Int, if_true, if_false, AV.one, repCells, fillA, partCells, Nat.reduceLT, Nat.reduceLeDiff, Nat.reduceMul, Nat.reduceSub, Int.reduceLT, Int.reduceLE, Int.reduceAdd, Int.reduceSub, Int.reduceMul, Int.reduceToNat, sliceCells, cellsAt, srcA, app, reduceCtorEq, Int.reduceEq, Int.reduceNeg, Int.reducePow, Nat.reducePow, Int.reduceTDiv, Int.reduceDiv, Nat.reduceDiv, Nat.reduceMod, Int.reduceMod, Int.reduceTMod, ne_eq, subA, beq_iff_eq, unA, minA, maxA, eqFs, eqA1, beq_self_eq_true, Nat.reduceBEq, l33, tk, ho, tchk9, tchk10, e1, ↓e0, h, shl32_8, shl32_9]
    refine ALoop.by (ι := Nat) (fun k => ⟨[(19, .int .i64 k), (18, .agg (ks .i32 x.tp)), (5, .int .i32 (w32 (partN x.sh / 2 + dotN x.tp x.ps k))), (1, .ref 0 1 0)], [⟨t0, 33, 1, filtL x, 0⟩]⟩) (fun k => k ≤ 16) (fun k => 16 - k) 0 (Le.slots (by rw [z0]; simp [Am.look, h, partN])) (by omega) ?_
    intro k hk
    by_cases hlt : k < 16
    · have e2 := filt_past hx hlt
      have e3 := ks_get (K := .i32) (l := x.tp) (k := k) (by omega)
      have e4 : w32 (w32 (partN x.sh / 2 + dotN x.tp x.ps k) + w32 (x.tp.getD k 0 * x.ps.getD k 0)) = w32 (partN x.sh / 2 + dotN x.tp x.ps (k + 1)) := by
        rw [w32_add]; simp only [dotN]; congr 1; omega
      simp (config := { maxSteps := 4000000 }) (disch := omega) only [step, stepv, ev, wl, wn, wp, aop, cV, cV1, ↓reduceIte, Nat.reduceEqDiff, Nat.reduceAdd, Int.cast_ofNat_Int, if_true, if_false, AV.one, repCells, fillA, partCells, Nat.reduceLT, Nat.reduceLeDiff, Nat.reduceMul, Nat.reduceSub, Int.reduceLT, Int.reduceLE, Int.reduceAdd, Int.reduceSub, Int.reduceMul, Int.reduceToNat, sliceCells, cellsAt, srcA, app, reduceCtorEq, Int.reduceEq, Int.reduceNeg, Int.reducePow, Nat.reducePow, Int.reduceTDiv, Int.reduceDiv, Nat.reduceDiv, Nat.reduceMod, Int.reduceMod, Int.reduceTMod, ne_eq, subA, beq_iff_eq, unA, minA, maxA, eqFs, eqA1, beq_self_eq_true, Nat.reduceBEq, l33, e2, e3, w32_def, e4]
      exact ⟨k + 1, by omega, by omega, Le.slots (by simp [Am.look])⟩
    · have e : k = 16 := by omega
      subst e
      simp (config := { maxSteps := 4000000 }) (disch := omega) only [step, stepv, ev, wl, wn, wp, aop, cV, cV1, ↓reduceIte, Nat.reduceEqDiff, Nat.reduceAdd, Int.cast_ofNat_Int, if_true, if_false, AV.one, repCells, fillA, partCells, Nat.reduceLT, Nat.reduceLeDiff, Nat.reduceMul, Nat.reduceSub, Int.reduceLT, Int.reduceLE, Int.reduceAdd, Int.reduceSub, Int.reduceMul, Int.reduceToNat, sliceCells, cellsAt, srcA, app, reduceCtorEq, Int.reduceEq, Int.reduceNeg, Int.reducePow, Nat.reducePow, Int.reduceTDiv, Int.reduceDiv, Nat.reduceDiv, Nat.reduceMod, Int.reduceMod, Int.reduceTMod, ne_eq, subA, beq_iff_eq, unA, minA, maxA, eqFs, eqA1, beq_self_eq_true, Nat.reduceBEq, ↓e0, h, shr32_9, shr32_10, guessF, partN]
/-! ### taps.Learn, taps.Push -/

theorem taps_Check {P : Program} {f t0 : Nat} (b : Body P f 11 [.tmp 2] (ac_taps_Check t0)) : S_TCheck P f := by
  intro x hx
  have l33 := filt_len hx
  have ho := filt_one x
  have e0 : (filtL x).drop 0 = .int .i64 x.sh :: (ks .i32 x.tp ++ ks .i32 x.ps) := rfl
  refine VC.of_acall (by simp [isDL, isD, isDL_filt]) rfl (ACall.of_body b (by simp) ?_)
  by_cases h9 : x.sh = 9
  · simp (config := { maxSteps := 4000000 }) (disch := omega) only [step, stepv, ev, wl, wn, wp, aop, cV, cV1, ↓reduceIte, Nat.reduceEqDiff, Nat.reduceAdd, Int.cast_ofNat_Int, if_true, if_false, AV.one, repCells, fillA, partCells, Nat.reduceLT, Nat.reduceLeDiff, Nat.reduceMul, Nat.reduceSub, Int.reduceLT, Int.reduceLE, Int.reduceAdd, Int.reduceSub, Int.reduceMul, Int.reduceToNat, sliceCells, cellsAt, srcA, app, reduceCtorEq, Int.reduceEq, Int.reduceNeg, Int.reducePow, Nat.reducePow, Int.reduceTDiv, Int.reduceDiv, Nat.reduceDiv, Nat.reduceMod, Int.reduceMod, Int.reduceTMod, ne_eq, subA, beq_iff_eq, unA, minA, maxA, eqFs, eqA1, beq_self_eq_true, Nat.reduceBEq, ac_taps_Check, l33, ho, ↓e0, h9, tchk]
  by_cases h10 : x.sh = 10
  · simp (config := { maxSteps := 4000000 }) (disch := omega) only [step, stepv, ev, wl, wn, wp, aop, cV, cV1, ↓reduceIte, Nat.reduceEqDiff, Nat.reduceAdd, Int.cast_ofNat_Int, if_true, if_false, AV.one, repCells, fillA, partCells, Nat.reduceLT, Nat.reduceLeDiff, Nat.reduceMul, Nat.reduceSub, Int.reduceLT, Int.reduceLE, Int.reduceAdd, Int.reduceSub, Int.reduceMul, Int.reduceToNat, sliceCells, cellsAt, srcA, app, reduceCtorEq, Int.reduceEq, Int.reduceNeg, Int.reducePow, Nat.reducePow, Int.reduceTDiv, Int.reduceDiv, Nat.reduceDiv, Nat.reduceMod, Int.reduceMod, Int.reduceTMod, ne_eq, subA, beq_iff_eq, unA, minA, maxA, eqFs, eqA1, beq_self_eq_true, Nat.reduceBEq, ac_taps_Check, l33, ho, ↓e0, h10, tchk]
  · simp (config := { maxSteps := 4000000 }) (disch := omega) only [step, stepv, ev, wl, wn, wp, aop, cV, cV1, ↓reduceIte, Nat.reduceEqDiff, Nat.reduceAdd, Int.cast_ofNat_Int, if_true, if_false, AV.one, repCells, fillA, partCells, Nat.reduceLT, Nat.reduceLeDiff, Nat.reduceMul, Nat.reduceSub, Int.reduceLT, Int.reduceLE, Int.reduceAdd, Int.reduceSub, Int.reduceMul, Int.reduceToNat, sliceCells, cellsAt, srcA, app, reduceCtorEq, Int.reduceEq, Int.reduceNeg, Int.reducePow, Nat.reducePow, Int.reduceTDiv, Int.reduceDiv, Nat.reduceDiv, Nat.reduceMod, Int.reduceMod, Int.reduceTMod, ne_eq, subA, beq_iff_eq, unA, minA, maxA, eqFs, eqA1, beq_self_eq_true, Nat.reduceBEq, ac_taps_Check, l33, ho, ↓e0, tchk]

def stepN (i : Nat) : Int := if i = 0 then 4 else if i < 4 then 2 else 1
def S_TStep (P : Program) (f : Nat) : Prop := ∀ i : Nat, VC P f [.int .i64 i] (.int .i32 (stepN i))
theorem taps_step {P : Program} {f : Nat} (b : Body P f 9 [.tmp 2] ac_taps_step) : S_TStep P f := by
  intro i
  refine VC.of_acall rfl rfl (ACall.of_body b (by simp) ?_)
  by_cases h0 : i = 0
  · subst h0; simp (config := { maxSteps := 4000000 }) (disch := omega) only [step, stepv, ev, wl, wn, wp, aop, cV, cV1, ↓reduceIte, Nat.reduceEqDiff, Nat.reduceAdd, Int.cast_ofNat_Int, if_true, if_false, AV.one, repCells, fillA, partCells, Nat.reduceLT, Nat.reduceLeDiff, Nat.reduceMul, Nat.reduceSub, Int.reduceLT, Int.reduceLE, Int.reduceAdd, Int.reduceSub, Int.reduceMul, Int.reduceToNat, sliceCells, cellsAt, srcA, app, reduceCtorEq, Int.reduceEq, Int.reduceNeg, Int.reducePow, Nat.reducePow, Int.reduceTDiv, Int.reduceDiv, Nat.reduceDiv, Nat.reduceMod, Int.reduceMod, Int.reduceTMod, ne_eq, subA, beq_iff_eq, unA, minA, maxA, eqFs, eqA1, beq_self_eq_true, Nat.reduceBEq, ac_taps_step, stepN, Int.natCast_zero]
  by_cases h1 : i < 4
  · simp (config := { maxSteps := 4000000 }) (disch := omega) only [step, stepv, ev, wl, wn, wp, aop, cV, cV1, ↓reduceIte, Nat.reduceEqDiff, Nat.reduceAdd, Int.cast_ofNat_Int, if_true, if_false, AV.one, repCells, fillA, partCells, Nat.reduceLT, Nat.reduceLeDiff, Nat.reduceMul, Nat.reduceSub, Int.reduceLT, Int.reduceLE, Int.reduceAdd, Int.reduceSub, Int.reduceMul, Int.reduceToNat, sliceCells, cellsAt, srcA, app, reduceCtorEq, Int.reduceEq, Int.reduceNeg, Int.reducePow, Nat.reducePow, Int.reduceTDiv, Int.reduceDiv, Nat.reduceDiv, Nat.reduceMod, Int.reduceMod, Int.reduceTMod, ne_eq, subA, beq_iff_eq, unA, minA, maxA, eqFs, eqA1, beq_self_eq_true, Nat.reduceBEq, ac_taps_step, stepN, h0]
  · simp (config := { maxSteps := 4000000 }) (disch := omega) only [step, stepv, ev, wl, wn, wp, aop, cV, cV1, ↓reduceIte, Nat.reduceEqDiff, Nat.reduceAdd, Int.cast_ofNat_Int, if_true, if_false, AV.one, repCells, fillA, partCells, Nat.reduceLT, Nat.reduceLeDiff, Nat.reduceMul, Nat.reduceSub, Int.reduceLT, Int.reduceLE, Int.reduceAdd, Int.reduceSub, Int.reduceMul, Int.reduceToNat, sliceCells, cellsAt, srcA, app, reduceCtorEq, Int.reduceEq, Int.reduceNeg, Int.reducePow, Nat.reducePow, Int.reduceTDiv, Int.reduceDiv, Nat.reduceDiv, Nat.reduceMod, Int.reduceMod, Int.reduceTMod, ne_eq, subA, beq_iff_eq, unA, minA, maxA, eqFs, eqA1, beq_self_eq_true, Nat.reduceBEq, ac_taps_step, stepN, h0]

end Go.Am

namespace Go.Am
open Go.RowKit

def sgn (x : Int) : Int := if x < 0 then -1 else if 0 < x then 1 else 0
def updT (x : Filt) (w : Int) (k : Nat) : Int := w32 (x.tp.getD k 0 + stepN k * sgn (x.ps.getD k 0) * sgn w)
def learnK (x : Filt) (w : Int) (k : Nat) : List Int := (List.range 16).map fun i => if i < k then updT x w i else x.tp.getD i 0
def lf (x : Filt) (w : Int) (k : Nat) : Filt := { x with tp := learnK x w k }
def learnF (x : Filt) (w : Int) : Filt := lf x w 16

theorem range_getD {l : List Int} (h : l.length = 16) : (List.range 16).map (fun i => l.getD i 0) = l := by
  apply List.ext_getElem (by simp [h])
  intro i h1 h2
  simp [List.getD_eq_getElem?_getD, List.getElem?_eq_getElem h2]
theorem learn_len (x : Filt) (w : Int) (k : Nat) : (learnK x w k).length = 16 := by simp [learnK]
theorem learn_zero {x : Filt} (h : okFl x) (w : Int) : learnK x w 0 = x.tp := by
  have := range_getD h.1
  simpa [learnK] using this
theorem learn_getD (x : Filt) (w : Int) {k : Nat} (hk : k < 16) : (learnK x w k).getD k 0 = x.tp.getD k 0 := by
  simp [learnK, List.getD_eq_getElem?_getD, hk]
theorem learn_set (x : Filt) (w : Int) {k : Nat} (hk : k < 16) : (learnK x w k).set k (updT x w k) = learnK x w (k + 1) := by
  apply List.ext_getElem (by simp [learnK])
  intro i h1 h2
  rw [List.getElem_set]
  simp only [learnK, List.getElem_map, List.getElem_range]
  by_cases e : k = i
  · subst e; simp
  · rw [if_neg e]
    by_cases h : i < k
    · rw [if_pos h, if_pos (by omega)]
    · rw [if_neg h, if_neg (by omega)]
theorem learn_same (x : Filt) (w : Int) {k : Nat} (h : updT x w k = x.tp.getD k 0) : learnK x w (k + 1) = learnK x w k := by
  simp only [learnK]
  apply List.map_congr_left
  intro i _
  by_cases e : i = k
  · subst e; simp [h]
  · by_cases h : i < k
    · rw [if_pos h, if_pos (by omega)]
    · rw [if_neg h, if_neg (by omega)]
theorem I32_learn {x : Filt} (h : okFl x) (w : Int) (k : Nat) : I32 (learnK x w k) := by
  intro v hv
  simp only [learnK, List.mem_map] at hv
  obtain ⟨i, _, rfl⟩ := hv
  split
  · exact w32_rng _
  · exact getD_mem h.2.2.1 i
theorem ok_learnK {x : Filt} (h : okFl x) (w : Int) (k : Nat) : okFl (lf x w k) := ⟨learn_len x w k, h.2.1, I32_learn h w k, h.2.2.2⟩
theorem ok_learn {x : Filt} (h : okFl x) (w : Int) : okFl (learnF x w) := ok_learnK h w 16
theorem learn_w0 {x : Filt} (h : okFl x) : learnF x 0 = x := by
  have key : ∀ k, learnK x 0 k = x.tp := fun k => by
    induction k with
    | zero => exact learn_zero h 0
    | succ k ih =>
      rw [learn_same x 0, ih]
      have := getD_mem h.2.2.1 k
      simp only [updT, sgn]
      simp
      exact w32_id (by simpa using this.1) (by simpa using this.2)
  simp [learnF, lf, key]

def S_TLearn (P : Program) (f : Nat) : Prop := ∀ (x : Filt) (w : Int), okFl x → x.sh = 9 ∨ x.sh = 10 → VC P f [.agg (filtL x), .int .i32 w] (.tup [.agg (filtL (learnF x w)), .int .i64 0])

theorem tchk_ok {s : Int} (h : s = 9 ∨ s = 10) : tchk s = 0 := by simp [tchk, h]

theorem taps_Learn {P : Program} {f fC fS t0 : Nat} (b : Body P f 53 [.cell 4 t0, .tmp 5] (ac_taps_Learn fC fS t0)) (ht : aggO P t0 = some (some 33)) (hC : S_TCheck P fC) (hS : S_TStep P fS) : S_TLearn P f := by
  intro x w hx hs
  have l33 := filt_len hx
  have tk : (filtL x).take 33 = filtL x := take_all (by omega)
  have ho := filt_one x
  have hc := tchk_ok hs
  have pp := filt_pasts hx
  have lw := filt_len (ok_learn hx w)
  have tkw : (filtL (learnF x w)).take 33 = filtL (learnF x w) := take_all (by omega)
  have how := filt_one (learnF x w)
  refine VC.of_acall (by simp [isDL, isD, isDL_filt]) (by simp [isD, isDL, isDL_filt]) (ACall.of_body b (by simp) ?_)
  simp (config := { maxSteps := 4000000 }) (disch := omega) only [step, stepv, ev, wl, wn, wp, aop, cV, cV1, ↓reduceIte, Nat.reduceEqDiff, Nat.reduceAdd, Int.cast_ofNat_Int, if_true, if_false, AV.one, repCells, fillA, partCells, Nat.reduceLT, Nat.reduceLeDiff, Nat.reduceMul, Nat.reduceSub, Int.reduceLT, Int.reduceLE, Int.reduceAdd, Int.reduceSub, Int.reduceMul, Int.reduceToNat, sliceCells, cellsAt, srcA, app, reduceCtorEq, Int.reduceEq, Int.reduceNeg, Int.reducePow, Nat.reducePow, Int.reduceTDiv, Int.reduceDiv, Nat.reduceDiv, Nat.reduceMod, Int.reduceMod, Int.reduceTMod, ne_eq, subA, beq_iff_eq, unA, minA, maxA, eqFs, eqA1, beq_self_eq_true, Nat.reduceBEq, ac_taps_Learn, l33, tk, ho]
  refine callQ.vc (hC x hx) ?_
  by_cases hw : w = 0
  · subst hw
    have e := learn_w0 hx
    simp (config := { maxSteps := 4000000 }) (disch := omega) only [step, stepv, ev, wl, wn, wp, aop, cV, cV1, ↓reduceIte, Nat.reduceEqDiff, Nat.reduceAdd, Int.cast_ofNat_Int, if_true, if_false, AV.one, repCells, fillA, partCells, Nat.reduceLT, Nat.reduceLeDiff, Nat.reduceMul, Nat.reduceSub, Int.reduceLT, Int.reduceLE, Int.reduceAdd, Int.reduceSub, Int.reduceMul, Int.reduceToNat, sliceCells, cellsAt, srcA, app, reduceCtorEq, Int.reduceEq, Int.reduceNeg, Int.reducePow, Nat.reducePow, Int.reduceTDiv, Int.reduceDiv, Nat.reduceDiv, Nat.reduceMod, Int.reduceMod, Int.reduceTMod, ne_eq, subA, beq_iff_eq, unA, minA, maxA, eqFs, eqA1, beq_self_eq_true, Nat.reduceBEq, l33, tk, ho, hc, resA, ht, e]
  simp (config := { maxSteps := 4000000 }) (disch := omega) only [step, stepv, ev, wl, wn, wp, aop, cV, cV1, ↓reduceIte, Nat.reduceEqDiff, Nat.reduceAdd, Int.cast_ofNat_Int, if_true, if_false, AV.one, repCells, fillA, partCells, Nat.reduceLT, Nat.reduceLeDiff, Nat.reduceMul, Nat.reduceSub, Int.reduceLT, Int.reduceLE, Int.reduceAdd, Int.reduceSub, Int.reduceMul, Int.reduceToNat, sliceCells, cellsAt, srcA, app, reduceCtorEq, Int.reduceEq, Int.reduceNeg, Int.reducePow, Nat.reducePow, Int.reduceTDiv, Int.reduceDiv, Nat.reduceDiv, Nat.reduceMod, Int.reduceMod, Int.reduceTMod, ne_eq, subA, beq_iff_eq, unA, minA, maxA, eqFs, eqA1, beq_self_eq_true, Nat.reduceBEq, l33, tk, ho, hc, pp]
  refine ALoop.by (ι := Nat) (fun k => ⟨[(20, .int .i64 k), (19, .agg (ks .i32 x.ps)), (4, .ref 1 1 0), (2, .ref 0 1 0), (1, .int .i32 w), (5, .int .i64 0)], [⟨t0, 33, 1, filtL (lf x w k), 0⟩, ⟨t0, 33, 1, filtL zeroF, 0⟩]⟩) (fun k => k ≤ 16) (fun k => 16 - k) 0 (by rw [show lf x w 0 = x by simp [lf, learn_zero hx]]; exact Le.slots (by simp [Am.look])) (by omega) ?_
  intro k hk
  by_cases hlt : k < 16
  · have hok := ok_learnK hx w k
    have e1 := ks_get (K := .i32) (l := x.ps) (k := k) (by have := hx.2.1; omega)
    have e2 := filt_tap hok hlt
    have e3 := fun v => filt_setTap hok hlt v
    have e4 := learn_getD x w hlt
    have e5 := filt_len hok
    have hu := learn_set x w hlt
    have hp := getD_mem hx.2.2.2 k
    have htp := getD_mem hx.2.2.1 k
    have ef : ∀ v, ({ lf x w k with tp := (lf x w k).tp.set k v } : Filt) = { x with tp := (learnK x w k).set k v } := fun _ => rfl
    have e7 : (lf x w k).tp.getD k 0 = x.tp.getD k 0 := e4
    by_cases p0 : x.ps.getD k 0 = 0
    · have e6 := learn_same x w (k := k) (by simp only [updT, p0, sgn]; simp; exact w32_id (by simpa using htp.1) (by simpa using htp.2))
      simp (config := { maxSteps := 4000000 }) (disch := omega) only [step, stepv, ev, wl, wn, wp, aop, cV, cV1, ↓reduceIte, Nat.reduceEqDiff, Nat.reduceAdd, Int.cast_ofNat_Int, if_true, if_false, AV.one, repCells, fillA, partCells, Nat.reduceLT, Nat.reduceLeDiff, Nat.reduceMul, Nat.reduceSub, Int.reduceLT, Int.reduceLE, Int.reduceAdd, Int.reduceSub, Int.reduceMul, Int.reduceToNat, sliceCells, cellsAt, srcA, app, reduceCtorEq, Int.reduceEq, Int.reduceNeg, Int.reducePow, Nat.reducePow, Int.reduceTDiv, Int.reduceDiv, Nat.reduceDiv, Nat.reduceMod, Int.reduceMod, Int.reduceTMod, ne_eq, subA, beq_iff_eq, unA, minA, maxA, eqFs, eqA1, beq_self_eq_true, Nat.reduceBEq, e1, p0]
      exact ⟨k + 1, by omega, by omega, by rw [show lf x w (k + 1) = lf x w k by simp [lf, e6]]; exact Le.slots (by simp [Am.look])⟩
    · by_cases hsame : (x.ps.getD k 0 < 0 ↔ w < 0)
      · have e6 : updT x w k = w32 (x.tp.getD k 0 + stepN k) := by
          simp only [updT, sgn]; congr 1
          by_cases q : w < 0
          · rw [if_pos q, if_pos (hsame.2 q)]; omega
          · rw [if_neg q, if_neg (fun h => q (hsame.1 h)), if_pos (by omega), if_pos (by omega)]; omega
        rw [e6] at hu
        by_cases q : w < 0
        · have q2 := hsame.2 q
          simp (config := { maxSteps := 4000000 }) (disch := omega) only [step, stepv, ev, wl, wn, wp, aop, cV, cV1, ↓reduceIte, Nat.reduceEqDiff, Nat.reduceAdd, Int.cast_ofNat_Int, if_true, if_false, AV.one, repCells, fillA, partCells, Nat.reduceLT, Nat.reduceLeDiff, Nat.reduceMul, Nat.reduceSub, Int.reduceLT, Int.reduceLE, Int.reduceAdd, Int.reduceSub, Int.reduceMul, Int.reduceToNat, sliceCells, cellsAt, srcA, app, reduceCtorEq, Int.reduceEq, Int.reduceNeg, Int.reducePow, Nat.reducePow, Int.reduceTDiv, Int.reduceDiv, Nat.reduceDiv, Nat.reduceMod, Int.reduceMod, Int.reduceTMod, ne_eq, subA, beq_iff_eq, unA, minA, maxA, eqFs, eqA1, beq_self_eq_true, Nat.reduceBEq, e1, e2, e7]
          refine callD.vc (hS k) ?_
          simp (config := { maxSteps := 4000000 }) (disch := omega) only [step, stepv, ev, wl, wn, wp, aop, cV, cV1, ↓reduceIte, Nat.reduceEqDiff, Nat.reduceAdd, Int.cast_ofNat_Int, if_true, if_false, AV.one, repCells, fillA, partCells, Nat.reduceLT, Nat.reduceLeDiff, Nat.reduceMul, Nat.reduceSub, Int.reduceLT, Int.reduceLE, Int.reduceAdd, Int.reduceSub, Int.reduceMul, Int.reduceToNat, sliceCells, cellsAt, srcA, app, reduceCtorEq, Int.reduceEq, Int.reduceNeg, Int.reducePow, Nat.reducePow, Int.reduceTDiv, Int.reduceDiv, Nat.reduceDiv, Nat.reduceMod, Int.reduceMod, Int.reduceTMod, ne_eq, subA, beq_iff_eq, unA, minA, maxA, eqFs, eqA1, beq_self_eq_true, Nat.reduceBEq, e3, e5, w32_def, ef, hu]
          exact ⟨k + 1, by omega, by omega, Le.slots (by simp [Am.look])⟩
        · have q2 : ¬ x.ps.getD k 0 < 0 := fun h => q (hsame.1 h)
          simp (config := { maxSteps := 4000000 }) (disch := omega) only [step, stepv, ev, wl, wn, wp, aop, cV, cV1, ↓reduceIte, Nat.reduceEqDiff, Nat.reduceAdd, Int.cast_ofNat_Int, if_true, if_false, AV.one, repCells, fillA, partCells, Nat.reduceLT, Nat.reduceLeDiff, Nat.reduceMul, Nat.reduceSub, Int.reduceLT, Int.reduceLE, Int.reduceAdd, Int.reduceSub, Int.reduceMul, Int.reduceToNat, sliceCells, cellsAt, srcA, app, reduceCtorEq, Int.reduceEq, Int.reduceNeg, Int.reducePow, Nat.reducePow, Int.reduceTDiv, Int.reduceDiv, Nat.reduceDiv, Nat.reduceMod, Int.reduceMod, Int.reduceTMod, ne_eq, subA, beq_iff_eq, unA, minA, maxA, eqFs, eqA1, beq_self_eq_true, Nat.reduceBEq, e1, e2, e7]
          refine callD.vc (hS k) ?_
          simp (config := { maxSteps := 4000000 }) (disch := omega) only [step, stepv, ev, wl, wn, wp, aop, cV, cV1, ↓reduceIte, Nat.reduceEqDiff, Nat.reduceAdd, Int.cast_ofNat_Int, if_true, if_false, AV.one, repCells, fillA, partCells, Nat.reduceLT, Nat.reduceLeDiff, Nat.reduceMul, Nat.reduceSub, Int.reduceLT, Int.reduceLE, Int.reduceAdd, Int.reduceSub, Int.reduceMul, Int.reduceToNat, sliceCells, cellsAt, srcA, app, reduceCtorEq, Int.reduceEq, Int.reduceNeg, Int.reducePow, Nat.reducePow, Int.reduceTDiv, Int.reduceDiv, Nat.reduceDiv, Nat.reduceMod, Int.reduceMod, Int.reduceTMod, ne_eq, subA, beq_iff_eq, unA, minA, maxA, eqFs, eqA1, beq_self_eq_true, Nat.reduceBEq, e3, e5, w32_def, ef, hu]
          exact ⟨k + 1, by omega, by omega, Le.slots (by simp [Am.look])⟩
      · have e6 : updT x w k = w32 (x.tp.getD k 0 - stepN k) := by
          simp only [updT, sgn]; congr 1
          by_cases q : w < 0
          · rw [if_pos q, if_neg (fun h => hsame ⟨fun _ => q, fun _ => h⟩), if_pos (by omega)]; omega
          · rw [if_neg q, if_pos (Classical.byContradiction fun h => hsame ⟨fun h' => absurd h' h, fun h' => absurd h' q⟩), if_pos (by omega)]; omega
        rw [e6] at hu
        by_cases q : w < 0
        · have q2 : ¬ x.ps.getD k 0 < 0 := fun h => hsame ⟨fun _ => q, fun _ => h⟩
          simp (config := { maxSteps := 4000000 }) (disch := omega) only [step, stepv, ev, wl, wn, wp, aop, cV, cV1, ↓reduceIte, Nat.reduceEqDiff, Nat.reduceAdd, Int.cast_ofNat_Int, if_true, if_false, AV.one, repCells, fillA, partCells, Nat.reduceLT, Nat.reduceLeDiff, Nat.reduceMul, Nat.reduceSub, Int.reduceLT, Int.reduceLE, Int.reduceAdd, Int.reduceSub, Int.reduceMul, Int.reduceToNat, sliceCells, cellsAt, srcA, app, reduceCtorEq, Int.reduceEq, Int.reduceNeg, Int.reducePow, Nat.reducePow, Int.reduceTDiv, Int.reduceDiv, Nat.reduceDiv, Nat.reduceMod, Int.reduceMod, Int.reduceTMod, ne_eq, subA, beq_iff_eq, unA, minA, maxA, eqFs, eqA1, beq_self_eq_true, Nat.reduceBEq, e1, e2, e7]
          refine callD.vc (hS k) ?_
          simp (config := { maxSteps := 4000000 }) (disch := omega) only [step, stepv, ev, wl, wn, wp, aop, cV, cV1, ↓reduceIte, Nat.reduceEqDiff, Nat.reduceAdd, Int.cast_ofNat_Int, if_true, if_false, AV.one, repCells, fillA, partCells, Nat.reduceLT, Nat.reduceLeDiff, Nat.reduceMul, Nat.reduceSub, Int.reduceLT, Int.reduceLE, Int.reduceAdd, Int.reduceSub, Int.reduceMul, Int.reduceToNat, sliceCells, cellsAt, srcA, app, reduceCtorEq, Int.reduceEq, Int.reduceNeg, Int.reducePow, Nat.reducePow, Int.reduceTDiv, Int.reduceDiv, Nat.reduceDiv, Nat.reduceMod, Int.reduceMod, Int.reduceTMod, ne_eq, subA, beq_iff_eq, unA, minA, maxA, eqFs, eqA1, beq_self_eq_true, Nat.reduceBEq, e3, e5, w32_def, ef, hu]
          exact ⟨k + 1, by omega, by omega, Le.slots (by simp [Am.look])⟩
        · have q2 : x.ps.getD k 0 < 0 := Classical.byContradiction fun h => hsame ⟨fun h' => absurd h' h, fun h' => absurd h' q⟩
          simp (config := { maxSteps := 4000000 }) (disch := omega) only [step, stepv, ev, wl, wn, wp, aop, cV, cV1, ↓reduceIte, Nat.reduceEqDiff, Nat.reduceAdd, Int.cast_ofNat_Int, if_true, if_false, AV.one, repCells, fillA, partCells, Nat.reduceLT, Nat.reduceLeDiff, Nat.reduceMul, Nat.reduceSub, Int.reduceLT, Int.reduceLE, Int.reduceAdd, Int.reduceSub, Int.reduceMul, Int.reduceToNat, sliceCells, cellsAt, srcA, app, reduceCtorEq, Int.reduceEq, Int.reduceNeg, Int.reducePow, Nat.reducePow, Int.reduceTDiv, Int.reduceDiv, Nat.reduceDiv, Nat.reduceMod, Int.reduceMod, Int.reduceTMod, ne_eq, subA, beq_iff_eq, unA, minA, maxA, eqFs, eqA1, beq_self_eq_true, Nat.reduceBEq, e1, e2, e7]
          refine callD.vc (hS k) ?_
          simp (config := { maxSteps := 4000000 }) (disch := omega) only [step, stepv, ev, wl, wn, wp, aop, cV, cV1, ↓reduceIte, Nat.reduceEqDiff, Nat.reduceAdd, Int.cast_ofNat_Int, if_true, if_false, AV.one, repCells, fillA, partCells, Nat.reduceLT, Nat.reduceLeDiff, Nat.reduceMul, Nat.reduceSub, Int.reduceLT, Int.reduceLE, Int.reduceAdd, Int.reduceSub, Int.reduceMul, Int.reduceToNat, sliceCells, cellsAt, srcA, app, reduceCtorEq, Int.reduceEq, Int.reduceNeg, Int.reducePow, Nat.reducePow, Int.reduceTDiv, Int.reduceDiv, Nat.reduceDiv, Nat.reduceMod, Int.reduceMod, Int.reduceTMod, ne_eq, subA, beq_iff_eq, unA, minA, maxA, eqFs, eqA1, beq_self_eq_true, Nat.reduceBEq, e3, e5, w32_def, ef, hu]
          exact ⟨k + 1, by omega, by omega, Le.slots (by simp [Am.look])⟩
  · have e : k = 16 := by omega
    subst e
    have hF : lf x w 16 = learnF x w := rfl
    rw [hF]
    simp (config := { maxSteps := 4000000 }) (disch := omega) only [step, stepv, ev, wl, wn, wp, aop, cV, cV1, ↓reduceIte, Nat.reduceEqDiff, Nat.reduceAdd, Int.cast_ofNat_Int, if_true, if_false, AV.one, repCells, fillA, partCells, Nat.reduceLT, Nat.reduceLeDiff, Nat.reduceMul, Nat.reduceSub, Int.reduceLT, Int.reduceLE, Int.reduceAdd, Int.reduceSub, Int.reduceMul, Int.reduceToNat, sliceCells, cellsAt, srcA, app, reduceCtorEq, Int.reduceEq, Int.reduceNeg, Int.reducePow, Nat.reducePow, Int.reduceTDiv, Int.reduceDiv, Nat.reduceDiv, Nat.reduceMod, Int.reduceMod, Int.reduceTMod, ne_eq, subA, beq_iff_eq, unA, minA, maxA, eqFs, eqA1, beq_self_eq_true, Nat.reduceBEq, lw, tkw, how, resA, ht, zeroF_eq]
/-! ### taps.Push -/

def pushF (x : Filt) (v : Int) : Filt := { x with ps := v :: x.ps.take 15 }
theorem ok_push {x : Filt} (h : okFl x) {v : Int} (hv : -2147483648 ≤ v ∧ v ≤ 2147483647) : okFl (pushF x v) := by
  obtain ⟨h1, h2, h3, h4⟩ := h
  refine ⟨h1, by simp [pushF, h2], h3, fun y hy => ?_⟩
  simp only [pushF, List.mem_cons] at hy
  rcases hy with rfl | hy
  · exact hv
  · exact h4 y (List.mem_of_mem_take hy)

def S_TPush (P : Program) (f : Nat) : Prop := ∀ (x : Filt) (v : Int), okFl x → x.sh = 9 ∨ x.sh = 10 → VC P f [.agg (filtL x), .int .i32 v] (.tup [.agg (filtL (pushF x v)), .int .i64 0])

theorem taps_Push {P : Program} {f fC t0 : Nat} (b : Body P f 22 [.cell 4 t0, .tmp 5] (ac_taps_Push fC t0)) (ht : aggO P t0 = some (some 33)) (hC : S_TCheck P fC) : S_TPush P f := by
  intro x v hx hs
  have l33 := filt_len hx
  have tk : (filtL x).take 33 = filtL x := take_all (by omega)
  have ho := filt_one x
  have hc := tchk_ok hs
  have pp := filt_pasts hx
  have h16 : (ks .i32 x.ps).length = 16 := by simp [ks_length, hx.2.1]
  have o16 := ks_one .i32 x.ps
  refine VC.of_acall (by simp [isDL, isD, isDL_filt]) (by simp [isD, isDL, isDL_filt]) (ACall.of_body b (by simp) ?_)
  simp (config := { maxSteps := 4000000 }) (disch := omega) only [step, stepv, ev, wl, wn, wp, aop, cV, cV1, ↓reduceIte, Nat.reduceEqDiff, Nat.reduceAdd, Int.cast_ofNat_Int, if_true, if_false, AV.one, repCells, fillA, partCells, Nat.reduceLT, Nat.reduceLeDiff, Nat.reduceMul, Nat.reduceSub, Int.reduceLT, Int.reduceLE, Int.reduceAdd, Int.reduceSub, Int.reduceMul, Int.reduceToNat, sliceCells, cellsAt, srcA, app, reduceCtorEq, Int.reduceEq, Int.reduceNeg, Int.reducePow, Nat.reducePow, Int.reduceTDiv, Int.reduceDiv, Nat.reduceDiv, Nat.reduceMod, Int.reduceMod, Int.reduceTMod, ne_eq, subA, beq_iff_eq, unA, minA, maxA, eqFs, eqA1, beq_self_eq_true, Nat.reduceBEq, ac_taps_Push, l33, tk, ho]
  refine callQ.vc (hC x hx) ?_
  have hm : Nat.min 16 15 = 15 := rfl
  let y : Filt := { x with ps := x.ps.getD 0 0 :: x.ps.take 15 }
  have hy : okFl y := ok_push hx (getD_mem hx.2.2.2 0)
  have hcp : (filtL x).take 18 ++ (ks .i32 x.ps).take 15 ++ (filtL x).drop 33 = filtL y := by
    have e1 : (filtL x).drop 33 = [] := List.drop_eq_nil_of_le (by omega)
    have e2 : (ks .i32 x.tp).length = 16 := by simp [ks_length, hx.1]
    have e3 : (ks .i32 x.ps).take 1 = [.int .i32 (x.ps.getD 0 0)] := by
      have h1 : 0 < x.ps.length := by have := hx.2.1; omega
      match hps : x.ps, h1 with
      | a :: l, _ => rfl
    rw [e1, List.append_nil]
    simp only [filtL, List.take_succ_cons, List.cons_append, y]
    congr 1
    rw [List.take_append, List.take_of_length_le (by omega), e2, e3, List.append_assoc, ks_take]
    rfl
  have hset : (filtL y).take 17 ++ [.int .i32 v] ++ (filtL y).drop 18 = filtL (pushF x v) := filt_setPast hy (k := 0) (by omega) v
  have ly := filt_len hy
  have lp : (filtL (pushF x v)).length = 33 := by rw [← hset]; simp [ly]
  have tkp : (filtL (pushF x v)).take 33 = filtL (pushF x v) := take_all (by omega)
  have op := filt_one (pushF x v)
  simp (config := { maxSteps := 4000000 }) (disch := omega) only [step, stepv, ev, wl, wn, wp, aop, cV, cV1, ↓reduceIte, Nat.reduceEqDiff, Nat.reduceAdd, Int.cast_ofNat_Int, if_true, if_false, AV.one, repCells, fillA, partCells, Nat.reduceLT, Nat.reduceLeDiff, Nat.reduceMul, Nat.reduceSub, Int.reduceLT, Int.reduceLE, Int.reduceAdd, Int.reduceSub, Int.reduceMul, Int.reduceToNat, sliceCells, cellsAt, srcA, app, reduceCtorEq, Int.reduceEq, Int.reduceNeg, Int.reducePow, Nat.reducePow, Int.reduceTDiv, Int.reduceDiv, Nat.reduceDiv, Nat.reduceMod, Int.reduceMod, Int.reduceTMod, ne_eq, subA, beq_iff_eq, unA, minA, maxA, eqFs, eqA1, beq_self_eq_true, Nat.reduceBEq, l33, tk, ho, hc, pp, h16, o16, hm, hcp, hset, ly, lp, tkp, op, resA, ht, zeroF_eq]
end Go.Am
