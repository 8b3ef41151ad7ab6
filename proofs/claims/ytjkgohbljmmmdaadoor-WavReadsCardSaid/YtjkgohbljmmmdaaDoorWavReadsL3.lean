/- What the functions that the law reaches return, for every program that has their code; the conditions stand in each statement. -/
import Derived.Test.YtjkgohbljmmmdaaDoorWavReadsL2
set_option linter.unusedSectionVars false
set_option linter.unusedSimpArgs false
set_option linter.unusedVariables false
namespace Go.Am
open Go.RowKit

def S_Same33 (P : Prg) (f : Nat) : Prop := ∀ (c x r c' x' r' : Int) (l l' : List Int), l.length ≤ 1000000 → l'.length ≤ 1000000 → VC P f [clA c x r l, clA c' x' r' l'] (.bool (decide (c = c' ∧ x = x' ∧ r = r' ∧ l = l')))

def S_Long33 (P : Prg) (f : Nat) : Prop := ∀ l : List UInt8, VC P f [bs l] (.bool (decide (2000 < l.length) && decide (l.length < 11900) || decide (13000 < l.length)))
theorem ref33_Long {P : Prg} {f : Nat} (bd : Body P f 16 [.tmp 2] ac_cadenzaref33_Long) : S_Long33 P f := by
  intro l
  refine VC.of_acall (by simp [isDL, isD_bs]) rfl (ACall.of_body bd (by simp) ?_)
  by_cases h1 : 2000 < l.length
  · by_cases h2 : l.length < 11900
    · have e : (decide (2000 < l.length) && decide (l.length < 11900) || decide (13000 < l.length)) = true := by simp [h1, h2]
      simp (config := { maxSteps := 4000000 }) (disch := omega) only [step, stepv, ev, okW, onlyFr, Bool.false_and, Bool.true_and, sealw, wl, wn, wp, aop, cV, cV1, ↓reduceIte, Nat.reduceEqDiff, Nat.reduceAdd, Int.cast_ofNat_Int, if_true, if_false, AV.one, repCells, fillA, partCells, Nat.reduceLT, Nat.reduceLeDiff, Nat.reduceMul, Nat.reduceSub, Int.reduceLT, Int.reduceLE, Int.reduceAdd, Int.reduceSub, Int.reduceMul, Int.reduceToNat, sliceCells, cellsAt, srcA, app, reduceCtorEq, Int.reduceEq, Int.reduceNeg, Int.reducePow, Nat.reducePow, Int.reduceTDiv, Int.reduceDiv, Nat.reduceDiv, Nat.reduceMod, Int.reduceMod, Int.reduceTMod, ne_eq, subA, beq_iff_eq, unA, minA, maxA, eqFs, eqA1, beq_self_eq_true, Nat.reduceBEq, ac_cadenzaref33_Long, bs, e]
    · by_cases h3 : 13000 < l.length
      · have e : (decide (2000 < l.length) && decide (l.length < 11900) || decide (13000 < l.length)) = true := by simp [h3]
        simp (config := { maxSteps := 4000000 }) (disch := omega) only [step, stepv, ev, okW, onlyFr, Bool.false_and, Bool.true_and, sealw, wl, wn, wp, aop, cV, cV1, ↓reduceIte, Nat.reduceEqDiff, Nat.reduceAdd, Int.cast_ofNat_Int, if_true, if_false, AV.one, repCells, fillA, partCells, Nat.reduceLT, Nat.reduceLeDiff, Nat.reduceMul, Nat.reduceSub, Int.reduceLT, Int.reduceLE, Int.reduceAdd, Int.reduceSub, Int.reduceMul, Int.reduceToNat, sliceCells, cellsAt, srcA, app, reduceCtorEq, Int.reduceEq, Int.reduceNeg, Int.reducePow, Nat.reducePow, Int.reduceTDiv, Int.reduceDiv, Nat.reduceDiv, Nat.reduceMod, Int.reduceMod, Int.reduceTMod, ne_eq, subA, beq_iff_eq, unA, minA, maxA, eqFs, eqA1, beq_self_eq_true, Nat.reduceBEq, ac_cadenzaref33_Long, bs, e]
      · have e : (decide (2000 < l.length) && decide (l.length < 11900) || decide (13000 < l.length)) = false := by simp; omega
        simp (config := { maxSteps := 4000000 }) (disch := omega) only [step, stepv, ev, okW, onlyFr, Bool.false_and, Bool.true_and, sealw, wl, wn, wp, aop, cV, cV1, ↓reduceIte, Nat.reduceEqDiff, Nat.reduceAdd, Int.cast_ofNat_Int, if_true, if_false, AV.one, repCells, fillA, partCells, Nat.reduceLT, Nat.reduceLeDiff, Nat.reduceMul, Nat.reduceSub, Int.reduceLT, Int.reduceLE, Int.reduceAdd, Int.reduceSub, Int.reduceMul, Int.reduceToNat, sliceCells, cellsAt, srcA, app, reduceCtorEq, Int.reduceEq, Int.reduceNeg, Int.reducePow, Nat.reducePow, Int.reduceTDiv, Int.reduceDiv, Nat.reduceDiv, Nat.reduceMod, Int.reduceMod, Int.reduceTMod, ne_eq, subA, beq_iff_eq, unA, minA, maxA, eqFs, eqA1, beq_self_eq_true, Nat.reduceBEq, ac_cadenzaref33_Long, bs, e]
  · have e : (decide (2000 < l.length) && decide (l.length < 11900) || decide (13000 < l.length)) = false := by simp; omega
    simp (config := { maxSteps := 4000000 }) (disch := omega) only [step, stepv, ev, okW, onlyFr, Bool.false_and, Bool.true_and, sealw, wl, wn, wp, aop, cV, cV1, ↓reduceIte, Nat.reduceEqDiff, Nat.reduceAdd, Int.cast_ofNat_Int, if_true, if_false, AV.one, repCells, fillA, partCells, Nat.reduceLT, Nat.reduceLeDiff, Nat.reduceMul, Nat.reduceSub, Int.reduceLT, Int.reduceLE, Int.reduceAdd, Int.reduceSub, Int.reduceMul, Int.reduceToNat, sliceCells, cellsAt, srcA, app, reduceCtorEq, Int.reduceEq, Int.reduceNeg, Int.reducePow, Nat.reducePow, Int.reduceTDiv, Int.reduceDiv, Nat.reduceDiv, Nat.reduceMod, Int.reduceMod, Int.reduceTMod, ne_eq, subA, beq_iff_eq, unA, minA, maxA, eqFs, eqA1, beq_self_eq_true, Nat.reduceBEq, ac_cadenzaref33_Long, bs, e]

end Go.Am

namespace Go.Am
open Go.RowKit

set_option maxRecDepth 20000 in
theorem ref33_Same {P : Prg} {f t0 : Nat} (bd : Body P f 52 [.tmp 4] (ac_cadenzaref33_Same t0)) : S_Same33 P f := by
  intro c x r c' x' r' l l' hl hl'
  refine VC.of_acall (by simp [isDL, isD_clA]) rfl (ACall.of_body bd (by simp) ?_)
  have hk := ks_length .i32 l
  have hk' := ks_length .i32 l'
  by_cases h1 : c = c'
  case neg =>
    have e : decide (c = c' ∧ x = x' ∧ r = r' ∧ l = l') = false := by simp [h1]
    simp (config := { maxSteps := 4000000 }) (disch := omega) only [step, stepv, ev, okW, onlyFr, Bool.false_and, Bool.true_and, sealw, wl, wn, wp, aop, cV, cV1, ↓reduceIte, Nat.reduceEqDiff, Nat.reduceAdd, Int.cast_ofNat_Int, if_true, if_false, AV.one, repCells, fillA, partCells, Nat.reduceLT, Nat.reduceLeDiff, Nat.reduceMul, Nat.reduceSub, Int.reduceLT, Int.reduceLE, Int.reduceAdd, Int.reduceSub, Int.reduceMul, Int.reduceToNat, sliceCells, cellsAt, srcA, app, reduceCtorEq, Int.reduceEq, Int.reduceNeg, Int.reducePow, Nat.reducePow, Int.reduceTDiv, Int.reduceDiv, Nat.reduceDiv, Nat.reduceMod, Int.reduceMod, Int.reduceTMod, ne_eq, subA, beq_iff_eq, unA, minA, maxA, eqFs, eqA1, beq_self_eq_true, Nat.reduceBEq, ac_cadenzaref33_Same, clA, il, e]
  by_cases h2 : x = x'
  case neg =>
    have e : decide (c = c' ∧ x = x' ∧ r = r' ∧ l = l') = false := by simp [h2]
    simp (config := { maxSteps := 4000000 }) (disch := omega) only [step, stepv, ev, okW, onlyFr, Bool.false_and, Bool.true_and, sealw, wl, wn, wp, aop, cV, cV1, ↓reduceIte, Nat.reduceEqDiff, Nat.reduceAdd, Int.cast_ofNat_Int, if_true, if_false, AV.one, repCells, fillA, partCells, Nat.reduceLT, Nat.reduceLeDiff, Nat.reduceMul, Nat.reduceSub, Int.reduceLT, Int.reduceLE, Int.reduceAdd, Int.reduceSub, Int.reduceMul, Int.reduceToNat, sliceCells, cellsAt, srcA, app, reduceCtorEq, Int.reduceEq, Int.reduceNeg, Int.reducePow, Nat.reducePow, Int.reduceTDiv, Int.reduceDiv, Nat.reduceDiv, Nat.reduceMod, Int.reduceMod, Int.reduceTMod, ne_eq, subA, beq_iff_eq, unA, minA, maxA, eqFs, eqA1, beq_self_eq_true, Nat.reduceBEq, ac_cadenzaref33_Same, clA, il, e]
  by_cases h3 : r = r'
  case neg =>
    have e : decide (c = c' ∧ x = x' ∧ r = r' ∧ l = l') = false := by simp [h3]
    simp (config := { maxSteps := 4000000 }) (disch := omega) only [step, stepv, ev, okW, onlyFr, Bool.false_and, Bool.true_and, sealw, wl, wn, wp, aop, cV, cV1, ↓reduceIte, Nat.reduceEqDiff, Nat.reduceAdd, Int.cast_ofNat_Int, if_true, if_false, AV.one, repCells, fillA, partCells, Nat.reduceLT, Nat.reduceLeDiff, Nat.reduceMul, Nat.reduceSub, Int.reduceLT, Int.reduceLE, Int.reduceAdd, Int.reduceSub, Int.reduceMul, Int.reduceToNat, sliceCells, cellsAt, srcA, app, reduceCtorEq, Int.reduceEq, Int.reduceNeg, Int.reducePow, Nat.reducePow, Int.reduceTDiv, Int.reduceDiv, Nat.reduceDiv, Nat.reduceMod, Int.reduceMod, Int.reduceTMod, ne_eq, subA, beq_iff_eq, unA, minA, maxA, eqFs, eqA1, beq_self_eq_true, Nat.reduceBEq, ac_cadenzaref33_Same, clA, il, e]
  subst h1; subst h2; subst h3
  have e0 : decide (c = c ∧ x = x ∧ r = r ∧ l = l') = decide (l = l') := by simp
  rw [e0]
  by_cases h4 : l.length = l'.length
  case neg =>
    have e : decide (l = l') = false := by simp; exact fun h => h4 (by rw [h])
    simp (config := { maxSteps := 4000000 }) (disch := omega) only [step, stepv, ev, okW, onlyFr, Bool.false_and, Bool.true_and, sealw, wl, wn, wp, aop, cV, cV1, ↓reduceIte, Nat.reduceEqDiff, Nat.reduceAdd, Int.cast_ofNat_Int, if_true, if_false, AV.one, repCells, fillA, partCells, Nat.reduceLT, Nat.reduceLeDiff, Nat.reduceMul, Nat.reduceSub, Int.reduceLT, Int.reduceLE, Int.reduceAdd, Int.reduceSub, Int.reduceMul, Int.reduceToNat, sliceCells, cellsAt, srcA, app, reduceCtorEq, Int.reduceEq, Int.reduceNeg, Int.reducePow, Nat.reducePow, Int.reduceTDiv, Int.reduceDiv, Nat.reduceDiv, Nat.reduceMod, Int.reduceMod, Int.reduceTMod, ne_eq, subA, beq_iff_eq, unA, minA, maxA, eqFs, eqA1, beq_self_eq_true, Nat.reduceBEq, ac_cadenzaref33_Same, clA, il, e]
  simp (config := { maxSteps := 4000000 }) (disch := omega) only [step, stepv, ev, okW, onlyFr, Bool.false_and, Bool.true_and, sealw, wl, wn, wp, aop, cV, cV1, ↓reduceIte, Nat.reduceEqDiff, Nat.reduceAdd, Int.cast_ofNat_Int, if_true, if_false, AV.one, repCells, fillA, partCells, Nat.reduceLT, Nat.reduceLeDiff, Nat.reduceMul, Nat.reduceSub, Int.reduceLT, Int.reduceLE, Int.reduceAdd, Int.reduceSub, Int.reduceMul, Int.reduceToNat, sliceCells, cellsAt, srcA, app, reduceCtorEq, Int.reduceEq, Int.reduceNeg, Int.reducePow, Nat.reducePow, Int.reduceTDiv, Int.reduceDiv, Nat.reduceDiv, Nat.reduceMod, Int.reduceMod, Int.reduceTMod, ne_eq, subA, beq_iff_eq, unA, minA, maxA, eqFs, eqA1, beq_self_eq_true, Nat.reduceBEq, ac_cadenzaref33_Same, clA, il]
  refine ALoop.by (ι := Nat) (fun k => ⟨[(5, .int .i64 k), (2, .ref 0 1 0), (3, .ref 1 1 0)], [⟨t0, 4, 1, [.int .i64 c, .int .i64 x, .int .i64 r, .list l.length (ks .i32 l)], 0⟩, ⟨t0, 4, 1, [.int .i64 c, .int .i64 x, .int .i64 r, .list l'.length (ks .i32 l')], 0⟩]⟩) (fun k => k ≤ l.length ∧ l.take k = l'.take k) (fun k => l.length - k) 0 (Le.slots (by simp [Am.look])) ⟨by omega, by simp⟩ ?_
  rintro k ⟨hk1, hk2⟩
  by_cases hlt : k < l.length
  · have d1 := drop_ks (K := .i32) hlt
    have d2 := drop_ks (K := .i32) (l := l') (k := k) (by omega)
    by_cases he : l[k] = l'[k]'(by omega)
    · rw [← he] at d2
      have e5 : l.take (k + 1) = l'.take (k + 1) := by
        rw [List.take_succ_eq_append_getElem hlt, List.take_succ_eq_append_getElem (by omega : k < l'.length), hk2, he]
      simp (config := { maxSteps := 4000000 }) (disch := omega) only [step, stepv, ev, okW, onlyFr, Bool.false_and, Bool.true_and, sealw, wl, wn, wp, aop, cV, cV1, ↓reduceIte, Nat.reduceEqDiff, Nat.reduceAdd, Int.cast_ofNat_Int, if_true, if_false, AV.one, repCells, fillA, partCells, Nat.reduceLT, Nat.reduceLeDiff, Nat.reduceMul, Nat.reduceSub, Int.reduceLT, Int.reduceLE, Int.reduceAdd, Int.reduceSub, Int.reduceMul, Int.reduceToNat, sliceCells, cellsAt, srcA, app, reduceCtorEq, Int.reduceEq, Int.reduceNeg, Int.reducePow, Nat.reducePow, Int.reduceTDiv, Int.reduceDiv, Nat.reduceDiv, Nat.reduceMod, Int.reduceMod, Int.reduceTMod, ne_eq, subA, beq_iff_eq, unA, minA, maxA, eqFs, eqA1, beq_self_eq_true, Nat.reduceBEq, hk, hk', d1, d2]
      exact ⟨k + 1, ⟨by omega, e5⟩, by omega, Le.slots (by simp [Am.look])⟩
    · have e : decide (l = l') = false := by
        simp
        intro h
        subst h
        exact he rfl
      rw [e]
      have he' : (l[k] = l'[k]'(by omega)) = False := eq_false he
      simp (config := { maxSteps := 4000000 }) (disch := omega) only [step, stepv, ev, okW, onlyFr, Bool.false_and, Bool.true_and, sealw, wl, wn, wp, aop, cV, cV1, ↓reduceIte, Nat.reduceEqDiff, Nat.reduceAdd, Int.cast_ofNat_Int, if_true, if_false, AV.one, repCells, fillA, partCells, Nat.reduceLT, Nat.reduceLeDiff, Nat.reduceMul, Nat.reduceSub, Int.reduceLT, Int.reduceLE, Int.reduceAdd, Int.reduceSub, Int.reduceMul, Int.reduceToNat, sliceCells, cellsAt, srcA, app, reduceCtorEq, Int.reduceEq, Int.reduceNeg, Int.reducePow, Nat.reducePow, Int.reduceTDiv, Int.reduceDiv, Nat.reduceDiv, Nat.reduceMod, Int.reduceMod, Int.reduceTMod, ne_eq, subA, beq_iff_eq, unA, minA, maxA, eqFs, eqA1, beq_self_eq_true, Nat.reduceBEq, hk, hk', d1, d2, he']
  · have ek : k = l.length := by omega
    subst ek
    have e : decide (l = l') = true := by
      simp
      rw [List.take_length, h4, List.take_length] at hk2
      exact hk2
    rw [e]
    simp (config := { maxSteps := 4000000 }) (disch := omega) only [step, stepv, ev, okW, onlyFr, Bool.false_and, Bool.true_and, sealw, wl, wn, wp, aop, cV, cV1, ↓reduceIte, Nat.reduceEqDiff, Nat.reduceAdd, Int.cast_ofNat_Int, if_true, if_false, AV.one, repCells, fillA, partCells, Nat.reduceLT, Nat.reduceLeDiff, Nat.reduceMul, Nat.reduceSub, Int.reduceLT, Int.reduceLE, Int.reduceAdd, Int.reduceSub, Int.reduceMul, Int.reduceToNat, sliceCells, cellsAt, srcA, app, reduceCtorEq, Int.reduceEq, Int.reduceNeg, Int.reducePow, Nat.reducePow, Int.reduceTDiv, Int.reduceDiv, Nat.reduceDiv, Nat.reduceMod, Int.reduceMod, Int.reduceTMod, ne_eq, subA, beq_iff_eq, unA, minA, maxA, eqFs, eqA1, beq_self_eq_true, Nat.reduceBEq, hk, hk']

def cntM (l : List Ck) (id : List UInt8) : Nat := (l.filter fun c => c.1 == id).length
/-- The last chunk with a name. -/
def lastM (l : List Ck) (id : List UInt8) : Nat := ((List.range l.length).filter fun i => (l.getD i ([], [])).1 == id).getLast?.getD 0
def S_Count33 (P : Prg) (f : Nat) : Prop := ∀ (l : List Ck) (id : List UInt8), l.length ≤ 1000000 → VC P f [.list l.length (ckL l), .str id] (.tup [.int .i64 (cntM l id), .int .i64 (lastM l id)])

theorem cntM_take {l : List Ck} {id : List UInt8} {k : Nat} (h : k < l.length) : cntM (l.take (k + 1)) id = cntM (l.take k) id + if (l[k]).1 == id then 1 else 0 := by
  simp only [cntM]
  rw [List.take_succ_eq_append_getElem h, List.filter_append, List.length_append]
  congr 1
  by_cases h : ((l[k]).1 == id) = true <;> simp [h]

theorem lastM_take {l : List Ck} {id : List UInt8} {k : Nat} (h : k < l.length) : lastM (l.take (k + 1)) id = if (l[k]).1 == id then k else lastM (l.take k) id := by
  simp only [lastM]
  have e1 : (l.take (k + 1)).length = k + 1 := by simp; omega
  have e2 : (l.take k).length = k := by simp; omega
  rw [e1, e2, List.range_succ, List.filter_append]
  have e3 : (List.range k).filter (fun i => ((l.take (k + 1)).getD i ([], [])).1 == id) = (List.range k).filter (fun i => ((l.take k).getD i ([], [])).1 == id) := by
    apply List.filter_congr
    intro i hi
    have hi' : i < k := by simpa using hi
    simp [List.getD_eq_getElem?_getD, List.getElem?_take, hi', show i < k + 1 by omega]
  have e4 : ((l.take (k + 1)).getD k ([], [])).1 = (l[k]).1 := by simp [List.getD_eq_getElem?_getD, List.getElem?_take, h]
  rw [e3]
  simp only [List.filter_cons, e4, List.filter_nil]
  by_cases hq : ((l[k]).1 == id) = true
  · simp [hq]
  · simp [hq]

theorem ref33_count {P : Prg} {f : Nat} (bd : Body P f 27 [.tmp 4, .tmp 5] ac_cadenzaref33_count) : S_Count33 P f := by
  intro l id hl
  refine VC.of_acall (by simp [isDL, isD, isDL_ckL]) rfl (ACall.of_body bd (by simp) ?_)
  have e2 := ckL_length l
  simp (config := { maxSteps := 4000000 }) (disch := omega) only [step, stepv, ev, okW, onlyFr, Bool.false_and, Bool.true_and, sealw, wl, wn, wp, aop, cV, cV1, ↓reduceIte, Nat.reduceEqDiff, Nat.reduceAdd, Int.cast_ofNat_Int, if_true, if_false, AV.one, repCells, fillA, partCells, Nat.reduceLT, Nat.reduceLeDiff, Nat.reduceMul, Nat.reduceSub, Int.reduceLT, Int.reduceLE, Int.reduceAdd, Int.reduceSub, Int.reduceMul, Int.reduceToNat, sliceCells, cellsAt, srcA, app, reduceCtorEq, Int.reduceEq, Int.reduceNeg, Int.reducePow, Nat.reducePow, Int.reduceTDiv, Int.reduceDiv, Nat.reduceDiv, Nat.reduceMod, Int.reduceMod, Int.reduceTMod, ne_eq, subA, beq_iff_eq, unA, minA, maxA, eqFs, eqA1, beq_self_eq_true, Nat.reduceBEq, ac_cadenzaref33_count]
  refine ALoop.by (ι := Nat) (fun k => ⟨[(8, .int .i64 k), (7, .int .i64 (lastM (l.take k) id)), (6, .int .i64 (cntM (l.take k) id)), (0, .list l.length (ckL l)), (1, .str id)], []⟩) (fun k => k ≤ l.length) (fun k => l.length - k) 0 (Le.slots (by simp [Am.look, lastM, cntM])) (by omega) ?_
  intro k hk
  have hc : cntM (l.take k) id ≤ l.length := by
    simp only [cntM]
    have h1 := List.length_filter_le (fun c : Ck => c.1 == id) (l.take k)
    have h2 : (l.take k).length ≤ l.length := by simp; omega
    omega
  by_cases hlt : k < l.length
  · have e1 := ckL_drop hlt
    have t1 := cntM_take (id := id) hlt
    have t2 := lastM_take (id := id) hlt
    cases he : ((l[k]).1 == id) with
    | true =>
      rw [he] at t1 t2
      simp only [if_true] at t1 t2
      simp (config := { maxSteps := 4000000 }) (disch := omega) only [step, stepv, ev, okW, onlyFr, Bool.false_and, Bool.true_and, sealw, wl, wn, wp, aop, cV, cV1, ↓reduceIte, Nat.reduceEqDiff, Nat.reduceAdd, Int.cast_ofNat_Int, if_true, if_false, AV.one, repCells, fillA, partCells, Nat.reduceLT, Nat.reduceLeDiff, Nat.reduceMul, Nat.reduceSub, Int.reduceLT, Int.reduceLE, Int.reduceAdd, Int.reduceSub, Int.reduceMul, Int.reduceToNat, sliceCells, cellsAt, srcA, app, reduceCtorEq, Int.reduceEq, Int.reduceNeg, Int.reducePow, Nat.reducePow, Int.reduceTDiv, Int.reduceDiv, Nat.reduceDiv, Nat.reduceMod, Int.reduceMod, Int.reduceTMod, ne_eq, subA, beq_iff_eq, unA, minA, maxA, eqFs, eqA1, beq_self_eq_true, Nat.reduceBEq, e1, e2, strA, he]
      exact ⟨k + 1, by omega, by omega, Le.slots (by simp [Am.look, t1, t2])⟩
    | false =>
      rw [he] at t1 t2
      simp only [Bool.false_eq_true, if_false] at t1 t2
      simp (config := { maxSteps := 4000000 }) (disch := omega) only [step, stepv, ev, okW, onlyFr, Bool.false_and, Bool.true_and, sealw, wl, wn, wp, aop, cV, cV1, ↓reduceIte, Nat.reduceEqDiff, Nat.reduceAdd, Int.cast_ofNat_Int, if_true, if_false, AV.one, repCells, fillA, partCells, Nat.reduceLT, Nat.reduceLeDiff, Nat.reduceMul, Nat.reduceSub, Int.reduceLT, Int.reduceLE, Int.reduceAdd, Int.reduceSub, Int.reduceMul, Int.reduceToNat, sliceCells, cellsAt, srcA, app, reduceCtorEq, Int.reduceEq, Int.reduceNeg, Int.reducePow, Nat.reducePow, Int.reduceTDiv, Int.reduceDiv, Nat.reduceDiv, Nat.reduceMod, Int.reduceMod, Int.reduceTMod, ne_eq, subA, beq_iff_eq, unA, minA, maxA, eqFs, eqA1, beq_self_eq_true, Nat.reduceBEq, e1, e2, strA, he]
      exact ⟨k + 1, by omega, by omega, Le.slots (by simp [Am.look, t1, t2])⟩
  · have ek : k = l.length := by omega
    subst ek
    rw [List.take_length]
    simp (config := { maxSteps := 4000000 }) (disch := omega) only [step, stepv, ev, okW, onlyFr, Bool.false_and, Bool.true_and, sealw, wl, wn, wp, aop, cV, cV1, ↓reduceIte, Nat.reduceEqDiff, Nat.reduceAdd, Int.cast_ofNat_Int, if_true, if_false, AV.one, repCells, fillA, partCells, Nat.reduceLT, Nat.reduceLeDiff, Nat.reduceMul, Nat.reduceSub, Int.reduceLT, Int.reduceLE, Int.reduceAdd, Int.reduceSub, Int.reduceMul, Int.reduceToNat, sliceCells, cellsAt, srcA, app, reduceCtorEq, Int.reduceEq, Int.reduceNeg, Int.reducePow, Nat.reducePow, Int.reduceTDiv, Int.reduceDiv, Nat.reduceDiv, Nat.reduceMod, Int.reduceMod, Int.reduceTMod, ne_eq, subA, beq_iff_eq, unA, minA, maxA, eqFs, eqA1, beq_self_eq_true, Nat.reduceBEq]

/-- The only chunk with a name. -/
def onlyM (l : List Ck) (id : List UInt8) : Nat × Nat :=
  match findM l id with
  | none => (0, 6)
  | some i => match findM (l.drop (i + 1)) id with
    | some _ => (0, 12)
    | none => (i, 0)
def S_Only (P : Prg) (f : Nat) : Prop := ∀ (l : List Ck) (id : List UInt8), l.length ≤ 1000000 → VC P f [.list l.length (ckL l), .str id] (.tup [.int .i64 (onlyM l id).1, .int .i64 (onlyM l id).2])

end Go.Am

namespace Go.Am
open Go.RowKit

theorem ckL_dropk : ∀ (l : List Ck) (k : Nat), (ckL l).drop (k * 2) = ckL (l.drop k)
  | l, 0 => by simp
  | [], k + 1 => by simp [ckL]
  | c :: l, k + 1 => by
    have := ckL_dropk l k
    rw [Nat.add_mul, Nat.one_mul]
    simpa [ckL] using this

set_option maxRecDepth 20000 in
theorem wav_only {P : Prg} {f fF : Nat} (bd : Body P f 31 [.tmp 4, .tmp 5] (ac_wav_only fF)) (hF : S_Find P fF) : S_Only P f := by
  intro l id hl
  refine VC.of_acall (by simp [isDL, isD, isDL_ckL]) rfl (ACall.of_body bd (by simp) ?_)
  have e2 := ckL_length l
  have hF1 := hF l id (by omega)
  simp (config := { maxSteps := 4000000 }) (disch := omega) only [step, stepv, ev, okW, onlyFr, Bool.false_and, Bool.true_and, sealw, wl, wn, wp, aop, cV, cV1, ↓reduceIte, Nat.reduceEqDiff, Nat.reduceAdd, Int.cast_ofNat_Int, if_true, if_false, AV.one, repCells, fillA, partCells, Nat.reduceLT, Nat.reduceLeDiff, Nat.reduceMul, Nat.reduceSub, Int.reduceLT, Int.reduceLE, Int.reduceAdd, Int.reduceSub, Int.reduceMul, Int.reduceToNat, sliceCells, cellsAt, srcA, app, reduceCtorEq, Int.reduceEq, Int.reduceNeg, Int.reducePow, Nat.reducePow, Int.reduceTDiv, Int.reduceDiv, Nat.reduceDiv, Nat.reduceMod, Int.reduceMod, Int.reduceTMod, ne_eq, subA, beq_iff_eq, unA, minA, maxA, eqFs, eqA1, beq_self_eq_true, Nat.reduceBEq, ac_wav_only]
  refine callQ.vc hF1 ?_
  unfold onlyM
  cases hf : findM l id with
  | none =>
    simp (config := { maxSteps := 4000000 }) (disch := omega) only [step, stepv, ev, okW, onlyFr, Bool.false_and, Bool.true_and, sealw, wl, wn, wp, aop, cV, cV1, ↓reduceIte, Nat.reduceEqDiff, Nat.reduceAdd, Int.cast_ofNat_Int, if_true, if_false, AV.one, repCells, fillA, partCells, Nat.reduceLT, Nat.reduceLeDiff, Nat.reduceMul, Nat.reduceSub, Int.reduceLT, Int.reduceLE, Int.reduceAdd, Int.reduceSub, Int.reduceMul, Int.reduceToNat, sliceCells, cellsAt, srcA, app, reduceCtorEq, Int.reduceEq, Int.reduceNeg, Int.reducePow, Nat.reducePow, Int.reduceTDiv, Int.reduceDiv, Nat.reduceDiv, Nat.reduceMod, Int.reduceMod, Int.reduceTMod, ne_eq, subA, beq_iff_eq, unA, minA, maxA, eqFs, eqA1, beq_self_eq_true, Nat.reduceBEq, findA]
  | some i =>
    have hi := findM_lt hf
    have hF2 := hF (l.drop (i + 1)) id (by simp; omega)
    have hln : (l.drop (i + 1)).length = l.length - (i + 1) := by simp
    have htk : (ckL (l.drop (i + 1))).take ((l.length - (i + 1)) * 2) = ckL (l.drop (i + 1)) := List.take_of_length_le (by rw [ckL_length, hln]; exact Nat.le_refl _)
    rw [hln] at hF2
    have e3 : (l.length * 2 = (ckL l).length) = True := eq_true (by omega)
    simp (config := { maxSteps := 4000000 }) (disch := omega) only [step, stepv, ev, okW, onlyFr, Bool.false_and, Bool.true_and, sealw, wl, wn, wp, aop, cV, cV1, ↓reduceIte, Nat.reduceEqDiff, Nat.reduceAdd, Int.cast_ofNat_Int, if_true, if_false, AV.one, repCells, fillA, partCells, Nat.reduceLT, Nat.reduceLeDiff, Nat.reduceMul, Nat.reduceSub, Int.reduceLT, Int.reduceLE, Int.reduceAdd, Int.reduceSub, Int.reduceMul, Int.reduceToNat, sliceCells, cellsAt, srcA, app, reduceCtorEq, Int.reduceEq, Int.reduceNeg, Int.reducePow, Nat.reducePow, Int.reduceTDiv, Int.reduceDiv, Nat.reduceDiv, Nat.reduceMod, Int.reduceMod, Int.reduceTMod, ne_eq, subA, beq_iff_eq, unA, minA, maxA, eqFs, eqA1, beq_self_eq_true, Nat.reduceBEq, findA, ckL_dropk, htk, e3]
    refine callQ.vc hF2 ?_
    cases hf2 : findM (l.drop (i + 1)) id with
    | none =>
      simp (config := { maxSteps := 4000000 }) (disch := omega) only [step, stepv, ev, okW, onlyFr, Bool.false_and, Bool.true_and, sealw, wl, wn, wp, aop, cV, cV1, ↓reduceIte, Nat.reduceEqDiff, Nat.reduceAdd, Int.cast_ofNat_Int, if_true, if_false, AV.one, repCells, fillA, partCells, Nat.reduceLT, Nat.reduceLeDiff, Nat.reduceMul, Nat.reduceSub, Int.reduceLT, Int.reduceLE, Int.reduceAdd, Int.reduceSub, Int.reduceMul, Int.reduceToNat, sliceCells, cellsAt, srcA, app, reduceCtorEq, Int.reduceEq, Int.reduceNeg, Int.reducePow, Nat.reducePow, Int.reduceTDiv, Int.reduceDiv, Nat.reduceDiv, Nat.reduceMod, Int.reduceMod, Int.reduceTMod, ne_eq, subA, beq_iff_eq, unA, minA, maxA, eqFs, eqA1, beq_self_eq_true, Nat.reduceBEq, findA]
    | some j =>
      simp (config := { maxSteps := 4000000 }) (disch := omega) only [step, stepv, ev, okW, onlyFr, Bool.false_and, Bool.true_and, sealw, wl, wn, wp, aop, cV, cV1, ↓reduceIte, Nat.reduceEqDiff, Nat.reduceAdd, Int.cast_ofNat_Int, if_true, if_false, AV.one, repCells, fillA, partCells, Nat.reduceLT, Nat.reduceLeDiff, Nat.reduceMul, Nat.reduceSub, Int.reduceLT, Int.reduceLE, Int.reduceAdd, Int.reduceSub, Int.reduceMul, Int.reduceToNat, sliceCells, cellsAt, srcA, app, reduceCtorEq, Int.reduceEq, Int.reduceNeg, Int.reducePow, Nat.reducePow, Int.reduceTDiv, Int.reduceDiv, Nat.reduceDiv, Nat.reduceMod, Int.reduceMod, Int.reduceTMod, ne_eq, subA, beq_iff_eq, unA, minA, maxA, eqFs, eqA1, beq_self_eq_true, Nat.reduceBEq, findA]

def ckAt (l : List Ck) (i : Nat) : List UInt8 := (l.getD i ([], [])).2
theorem ckAt_eq {l : List Ck} {i : Nat} (h : i < l.length) : ckAt l i = (l[i]).2 := by simp [ckAt, List.getD_eq_getElem?_getD, List.getElem?_eq_getElem h]

theorem onlyM_cases (l : List Ck) (id : List UInt8) : ((onlyM l id).2 = 6) ∨ ((onlyM l id).2 = 12) ∨ ((onlyM l id).2 = 0 ∧ (onlyM l id).1 < l.length) := by
  unfold onlyM
  cases hf : findM l id with
  | none => exact .inl rfl
  | some i =>
    simp only
    cases hf2 : findM (l.drop (i + 1)) id with
    | none => exact .inr (.inr ⟨rfl, findM_lt hf⟩)
    | some j => exact .inr (.inl rfl)

/-- What a WAV reads as: an error, or a clip. -/
def readW (b : List UInt8) : Nat ⊕ (Nat × Nat × Nat × List Int) :=
  match readM b with
  | .inl e => .inl e
  | .inr (form, l) =>
    if form ≠ waveW' then .inl 12
    else if (onlyM l fmtW).2 = 6 ∨ (onlyM l dataW).2 = 6 then .inl 6
    else if (onlyM l fmtW).2 ≠ 0 ∨ (onlyM l dataW).2 ≠ 0 ∨ (onlyM l dataW).1 < (onlyM l fmtW).1 then .inl 12
    else
      match readS (ckAt l (onlyM l fmtW).1) with
      | none => .inl 12
      | some (c, x, r) =>
        if (ckAt l (onlyM l dataW).1).length = 0 ∨ (ckAt l (onlyM l dataW).1).length % (c * x / 8) ≠ 0 then .inl 12
        else if 4000 < (ckAt l (onlyM l dataW).1).length / (x / 8) then .inl 4
        else if clipN c x r (smpL x (ckAt l (onlyM l dataW).1)) ≠ 0 then .inl 4
        else .inr (c, x, r, smpL x (ckAt l (onlyM l dataW).1))
def readWA : Nat ⊕ (Nat × Nat × Nat × List Int) → AV
  | .inl e => .tup [clA 0 0 0 [], .int .i64 e]
  | .inr (c, x, r, l) => .tup [clA c x r l, .int .i64 0]
theorem isD_readWA (o : Nat ⊕ (Nat × Nat × Nat × List Int)) : isD (readWA o) = true := by
  rcases o with e | ⟨c, x, r, l⟩ <;> simp [readWA, isD, isDL, isD_clA]

theorem smpD_range {x : Int} (hx : half x ≠ 0) {s : List UInt8} (hs : s.length = (x / 8).toNat) : -half x ≤ smpD x s ∧ smpD x s < half x := by
  have h1 := leN_lt s
  rw [hs] at h1
  rcases half_cases x with ⟨rfl, h⟩ | ⟨rfl, h⟩ | ⟨rfl, h⟩ | ⟨_, _, _, h⟩
  · have e : (2 : Nat) ^ (8 * ((8 : Int) / 8).toNat) = 256 := by decide
    rw [e] at h1
    rw [smpD8, h]; omega
  · have e : (2 : Nat) ^ (8 * ((16 : Int) / 8).toNat) = 65536 := by decide
    rw [e] at h1
    rw [smpD16, h]; split <;> omega
  · have e : (2 : Nat) ^ (8 * ((24 : Int) / 8).toNat) = 16777216 := by decide
    rw [e] at h1
    rw [smpD24, h]; split <;> omega
  · exact absurd h hx

theorem smpL_range {x : Int} (hx : half x ≠ 0) (l : List UInt8) : ∀ y ∈ smpL x l, -half x ≤ y ∧ y < half x := by
  intro y hy
  simp only [smpL, List.mem_map, List.mem_range] at hy
  obtain ⟨i, hi, rfl⟩ := hy
  refine smpD_range hx ?_
  generalize (x / 8).toNat = w at *
  have h0 : 0 < w := by
    rcases Nat.eq_zero_or_pos w with h | h
    · subst h; simp at hi
    · exact h
  have : (i + 1) * w ≤ l.length := Nat.le_trans (Nat.mul_le_mul_right w (by omega : i + 1 ≤ l.length / w)) (Nat.div_mul_le_self _ _)
  rw [Nat.add_mul, Nat.one_mul] at this
  rw [List.length_take, List.length_drop]
  omega

theorem smpL_I32 {x : Int} (hx : half x ≠ 0) (l : List UInt8) : I32 (smpL x l) := by
  intro y hy
  have h1 := smpL_range hx l y hy
  rcases half_cases x with ⟨_, h⟩ | ⟨_, h⟩ | ⟨_, h⟩ | ⟨_, _, _, h⟩ <;> omega

def S_WavRead (P : Prg) (f : Nat) : Prop := ∀ b : List UInt8, b.length < 140737488355328 → VC P f [bs b] (readWA (readW b))

theorem readS_ok {l : List UInt8} {c x r : Nat} (h : readS l = some (c, x, r)) : sndOk c x r := by
  rcases readS_cases l with ⟨h1, _⟩ | ⟨h1, h2, _⟩
  · rw [h1] at h; cases h
  · rw [h1] at h; cases h; exact h2

end Go.Am

namespace Go.Am
open Go.RowKit

theorem readM_mem {b form : List UInt8} {l : List Ck} (h : readM b = .inr (form, l)) : ∀ c ∈ l, c.2.length ≤ 100000 := by
  intro c hc
  obtain ⟨_, _, _, _, h5, h6, _⟩ := readM_back h
  have := sz_mem hc
  simp only [szC] at this
  omega

set_option maxRecDepth 20000 in
set_option maxHeartbeats 2000000 in
theorem wav_Read {P : Prg} {f fR fO fF fS fC t0 t1 : Nat} (bd : Body P f 116 [.cell 2 t0, .tmp 3] (ac_wav_Read fR fO fF fS fC t0 t1)) (hR : S_Read P fR) (hO : S_Only P fO) (hF : S_SRead P fF) (hS : S_Samples P fS) (hC : S_ClipCheck P fC) (ht : aggO P t0 = some (some 4)) : S_WavRead P f := by
  intro b hb
  refine VC.of_walk 2 (by simp [isDL, isD_bs]) (isD_readWA _) (ACall.of_body bd (by simp) ?_)
  have hR' := hR b hb
  simp (config := { maxSteps := 4000000 }) (disch := omega) only [step, stepv, ev, okW, onlyFr, Bool.false_and, Bool.true_and, sealw, wl, wn, wp, aop, cV, cV1, ↓reduceIte, Nat.reduceEqDiff, Nat.reduceAdd, Int.cast_ofNat_Int, if_true, if_false, AV.one, repCells, fillA, partCells, Nat.reduceLT, Nat.reduceLeDiff, Nat.reduceMul, Nat.reduceSub, Int.reduceLT, Int.reduceLE, Int.reduceAdd, Int.reduceSub, Int.reduceMul, Int.reduceToNat, sliceCells, cellsAt, srcA, app, reduceCtorEq, Int.reduceEq, Int.reduceNeg, Int.reducePow, Nat.reducePow, Int.reduceTDiv, Int.reduceDiv, Nat.reduceDiv, Nat.reduceMod, Int.reduceMod, Int.reduceTMod, ne_eq, subA, beq_iff_eq, unA, minA, maxA, eqFs, eqA1, beq_self_eq_true, Nat.reduceBEq, ac_wav_Read, bs]
  refine callQ.vc hR' ?_
  unfold readW
  cases hm : readM b with
  | inl e =>
    have hp := readM_pos hm
    have hp' : ((e : Int) = 0) = False := eq_false (by omega)
    simp (config := { maxSteps := 4000000 }) (disch := omega) only [step, stepv, ev, okW, onlyFr, Bool.false_and, Bool.true_and, sealw, wl, wn, wp, aop, cV, cV1, ↓reduceIte, Nat.reduceEqDiff, Nat.reduceAdd, Int.cast_ofNat_Int, if_true, if_false, AV.one, repCells, fillA, partCells, Nat.reduceLT, Nat.reduceLeDiff, Nat.reduceMul, Nat.reduceSub, Int.reduceLT, Int.reduceLE, Int.reduceAdd, Int.reduceSub, Int.reduceMul, Int.reduceToNat, sliceCells, cellsAt, srcA, app, reduceCtorEq, Int.reduceEq, Int.reduceNeg, Int.reducePow, Nat.reducePow, Int.reduceTDiv, Int.reduceDiv, Nat.reduceDiv, Nat.reduceMod, Int.reduceMod, Int.reduceTMod, ne_eq, subA, beq_iff_eq, unA, minA, maxA, eqFs, eqA1, beq_self_eq_true, Nat.reduceBEq, readA, hp', resA, ht, oneOf]
    simp [frzN, frzK, frzL, frzV, readWA, clA, il, ks]
  | inr p =>
    obtain ⟨form, l⟩ := p
    have h20 := readM_le hm
    have hmb := readM_mem hm
    by_cases hform : form = waveW'
    case neg =>
      have e1 : (form == [87, 65, 86, 69]) = false := by
        show (form == waveW') = false
        simpa using hform
      simp only [if_pos (show form ≠ waveW' from hform)]
      simp (config := { maxSteps := 4000000 }) (disch := omega) only [step, stepv, ev, okW, onlyFr, Bool.false_and, Bool.true_and, sealw, wl, wn, wp, aop, cV, cV1, ↓reduceIte, Nat.reduceEqDiff, Nat.reduceAdd, Int.cast_ofNat_Int, if_true, if_false, AV.one, repCells, fillA, partCells, Nat.reduceLT, Nat.reduceLeDiff, Nat.reduceMul, Nat.reduceSub, Int.reduceLT, Int.reduceLE, Int.reduceAdd, Int.reduceSub, Int.reduceMul, Int.reduceToNat, sliceCells, cellsAt, srcA, app, reduceCtorEq, Int.reduceEq, Int.reduceNeg, Int.reducePow, Nat.reducePow, Int.reduceTDiv, Int.reduceDiv, Nat.reduceDiv, Nat.reduceMod, Int.reduceMod, Int.reduceTMod, ne_eq, subA, beq_iff_eq, unA, minA, maxA, eqFs, eqA1, beq_self_eq_true, Nat.reduceBEq, readA, strA, e1, resA, ht, oneOf]
      simp [frzN, frzK, frzL, frzV, readWA, clA, il, ks]
    simp only [if_neg (show ¬ form ≠ waveW' by simp [hform])]
    subst hform
    have e1 : (waveW' == [87, 65, 86, 69]) = true := by decide
    simp (config := { maxSteps := 4000000 }) (disch := omega) only [step, stepv, ev, okW, onlyFr, Bool.false_and, Bool.true_and, sealw, wl, wn, wp, aop, cV, cV1, ↓reduceIte, Nat.reduceEqDiff, Nat.reduceAdd, Int.cast_ofNat_Int, if_true, if_false, AV.one, repCells, fillA, partCells, Nat.reduceLT, Nat.reduceLeDiff, Nat.reduceMul, Nat.reduceSub, Int.reduceLT, Int.reduceLE, Int.reduceAdd, Int.reduceSub, Int.reduceMul, Int.reduceToNat, sliceCells, cellsAt, srcA, app, reduceCtorEq, Int.reduceEq, Int.reduceNeg, Int.reducePow, Nat.reducePow, Int.reduceTDiv, Int.reduceDiv, Nat.reduceDiv, Nat.reduceMod, Int.reduceMod, Int.reduceTMod, ne_eq, subA, beq_iff_eq, unA, minA, maxA, eqFs, eqA1, beq_self_eq_true, Nat.reduceBEq, readA, strA, e1]
    refine callQ.vc (hO l fmtW (by omega)) ?_
    simp (config := { maxSteps := 4000000 }) (disch := omega) only [step, stepv, ev, okW, onlyFr, Bool.false_and, Bool.true_and, sealw, wl, wn, wp, aop, cV, cV1, ↓reduceIte, Nat.reduceEqDiff, Nat.reduceAdd, Int.cast_ofNat_Int, if_true, if_false, AV.one, repCells, fillA, partCells, Nat.reduceLT, Nat.reduceLeDiff, Nat.reduceMul, Nat.reduceSub, Int.reduceLT, Int.reduceLE, Int.reduceAdd, Int.reduceSub, Int.reduceMul, Int.reduceToNat, sliceCells, cellsAt, srcA, app, reduceCtorEq, Int.reduceEq, Int.reduceNeg, Int.reducePow, Nat.reducePow, Int.reduceTDiv, Int.reduceDiv, Nat.reduceDiv, Nat.reduceMod, Int.reduceMod, Int.reduceTMod, ne_eq, subA, beq_iff_eq, unA, minA, maxA, eqFs, eqA1, beq_self_eq_true, Nat.reduceBEq]
    refine callQ.vc (hO l dataW (by omega)) ?_
    have c1 := onlyM_cases l fmtW
    have c2 := onlyM_cases l dataW
    generalize onlyM l fmtW = q1 at *
    generalize onlyM l dataW = q2 at *
    obtain ⟨fi, fe⟩ := q1
    obtain ⟨di, de⟩ := q2
    simp only at c1 c2 ⊢
    by_cases h6 : fe = 6 ∨ de = 6
    · rw [if_pos h6]
      by_cases h6a : fe = 6
      · simp (config := { maxSteps := 4000000 }) (disch := omega) only [step, stepv, ev, okW, onlyFr, Bool.false_and, Bool.true_and, sealw, wl, wn, wp, aop, cV, cV1, ↓reduceIte, Nat.reduceEqDiff, Nat.reduceAdd, Int.cast_ofNat_Int, if_true, if_false, AV.one, repCells, fillA, partCells, Nat.reduceLT, Nat.reduceLeDiff, Nat.reduceMul, Nat.reduceSub, Int.reduceLT, Int.reduceLE, Int.reduceAdd, Int.reduceSub, Int.reduceMul, Int.reduceToNat, sliceCells, cellsAt, srcA, app, reduceCtorEq, Int.reduceEq, Int.reduceNeg, Int.reducePow, Nat.reducePow, Int.reduceTDiv, Int.reduceDiv, Nat.reduceDiv, Nat.reduceMod, Int.reduceMod, Int.reduceTMod, ne_eq, subA, beq_iff_eq, unA, minA, maxA, eqFs, eqA1, beq_self_eq_true, Nat.reduceBEq, resA, ht, oneOf]
        simp [frzN, frzK, frzL, frzV, readWA, clA, il, ks]
      · simp (config := { maxSteps := 4000000 }) (disch := omega) only [step, stepv, ev, okW, onlyFr, Bool.false_and, Bool.true_and, sealw, wl, wn, wp, aop, cV, cV1, ↓reduceIte, Nat.reduceEqDiff, Nat.reduceAdd, Int.cast_ofNat_Int, if_true, if_false, AV.one, repCells, fillA, partCells, Nat.reduceLT, Nat.reduceLeDiff, Nat.reduceMul, Nat.reduceSub, Int.reduceLT, Int.reduceLE, Int.reduceAdd, Int.reduceSub, Int.reduceMul, Int.reduceToNat, sliceCells, cellsAt, srcA, app, reduceCtorEq, Int.reduceEq, Int.reduceNeg, Int.reducePow, Nat.reducePow, Int.reduceTDiv, Int.reduceDiv, Nat.reduceDiv, Nat.reduceMod, Int.reduceMod, Int.reduceTMod, ne_eq, subA, beq_iff_eq, unA, minA, maxA, eqFs, eqA1, beq_self_eq_true, Nat.reduceBEq, resA, ht, oneOf]
        simp [frzN, frzK, frzL, frzV, readWA, clA, il, ks]
    rw [if_neg h6]
    by_cases h12 : fe ≠ 0 ∨ de ≠ 0 ∨ di < fi
    · rw [if_pos h12]
      by_cases h12a : fe = 0
      · by_cases h12b : de = 0
        · simp (config := { maxSteps := 4000000 }) (disch := omega) only [step, stepv, ev, okW, onlyFr, Bool.false_and, Bool.true_and, sealw, wl, wn, wp, aop, cV, cV1, ↓reduceIte, Nat.reduceEqDiff, Nat.reduceAdd, Int.cast_ofNat_Int, if_true, if_false, AV.one, repCells, fillA, partCells, Nat.reduceLT, Nat.reduceLeDiff, Nat.reduceMul, Nat.reduceSub, Int.reduceLT, Int.reduceLE, Int.reduceAdd, Int.reduceSub, Int.reduceMul, Int.reduceToNat, sliceCells, cellsAt, srcA, app, reduceCtorEq, Int.reduceEq, Int.reduceNeg, Int.reducePow, Nat.reducePow, Int.reduceTDiv, Int.reduceDiv, Nat.reduceDiv, Nat.reduceMod, Int.reduceMod, Int.reduceTMod, ne_eq, subA, beq_iff_eq, unA, minA, maxA, eqFs, eqA1, beq_self_eq_true, Nat.reduceBEq, resA, ht, oneOf]
          simp [frzN, frzK, frzL, frzV, readWA, clA, il, ks]
        · simp (config := { maxSteps := 4000000 }) (disch := omega) only [step, stepv, ev, okW, onlyFr, Bool.false_and, Bool.true_and, sealw, wl, wn, wp, aop, cV, cV1, ↓reduceIte, Nat.reduceEqDiff, Nat.reduceAdd, Int.cast_ofNat_Int, if_true, if_false, AV.one, repCells, fillA, partCells, Nat.reduceLT, Nat.reduceLeDiff, Nat.reduceMul, Nat.reduceSub, Int.reduceLT, Int.reduceLE, Int.reduceAdd, Int.reduceSub, Int.reduceMul, Int.reduceToNat, sliceCells, cellsAt, srcA, app, reduceCtorEq, Int.reduceEq, Int.reduceNeg, Int.reducePow, Nat.reducePow, Int.reduceTDiv, Int.reduceDiv, Nat.reduceDiv, Nat.reduceMod, Int.reduceMod, Int.reduceTMod, ne_eq, subA, beq_iff_eq, unA, minA, maxA, eqFs, eqA1, beq_self_eq_true, Nat.reduceBEq, resA, ht, oneOf]
          simp [frzN, frzK, frzL, frzV, readWA, clA, il, ks]
      · simp (config := { maxSteps := 4000000 }) (disch := omega) only [step, stepv, ev, okW, onlyFr, Bool.false_and, Bool.true_and, sealw, wl, wn, wp, aop, cV, cV1, ↓reduceIte, Nat.reduceEqDiff, Nat.reduceAdd, Int.cast_ofNat_Int, if_true, if_false, AV.one, repCells, fillA, partCells, Nat.reduceLT, Nat.reduceLeDiff, Nat.reduceMul, Nat.reduceSub, Int.reduceLT, Int.reduceLE, Int.reduceAdd, Int.reduceSub, Int.reduceMul, Int.reduceToNat, sliceCells, cellsAt, srcA, app, reduceCtorEq, Int.reduceEq, Int.reduceNeg, Int.reducePow, Nat.reducePow, Int.reduceTDiv, Int.reduceDiv, Nat.reduceDiv, Nat.reduceMod, Int.reduceMod, Int.reduceTMod, ne_eq, subA, beq_iff_eq, unA, minA, maxA, eqFs, eqA1, beq_self_eq_true, Nat.reduceBEq, resA, ht, oneOf]
        simp [frzN, frzK, frzL, frzV, readWA, clA, il, ks]
    rw [if_neg h12]
    have hfi : fi < l.length := by omega
    have hdi : di < l.length := by omega
    have e2 := ckL_length l
    have d1 := ckL_drop hfi
    have d2 := ckL_drop hdi
    have m1 := hmb _ (List.getElem_mem hfi)
    have m2 := hmb _ (List.getElem_mem hdi)
    rw [ckAt_eq hfi, ckAt_eq hdi]
    generalize (l[fi]).2 = F at *
    generalize (l[di]).2 = D at *
    simp (config := { maxSteps := 4000000 }) (disch := omega) only [step, stepv, ev, okW, onlyFr, Bool.false_and, Bool.true_and, sealw, wl, wn, wp, aop, cV, cV1, ↓reduceIte, Nat.reduceEqDiff, Nat.reduceAdd, Int.cast_ofNat_Int, if_true, if_false, AV.one, repCells, fillA, partCells, Nat.reduceLT, Nat.reduceLeDiff, Nat.reduceMul, Nat.reduceSub, Int.reduceLT, Int.reduceLE, Int.reduceAdd, Int.reduceSub, Int.reduceMul, Int.reduceToNat, sliceCells, cellsAt, srcA, app, reduceCtorEq, Int.reduceEq, Int.reduceNeg, Int.reducePow, Nat.reducePow, Int.reduceTDiv, Int.reduceDiv, Nat.reduceDiv, Nat.reduceMod, Int.reduceMod, Int.reduceTMod, ne_eq, subA, beq_iff_eq, unA, minA, maxA, eqFs, eqA1, beq_self_eq_true, Nat.reduceBEq, e2, d1]
    refine callQ.vc (hF F (by omega)) ?_
    cases hs : readS F with
    | none =>
      simp (config := { maxSteps := 4000000 }) (disch := omega) only [step, stepv, ev, okW, onlyFr, Bool.false_and, Bool.true_and, sealw, wl, wn, wp, aop, cV, cV1, ↓reduceIte, Nat.reduceEqDiff, Nat.reduceAdd, Int.cast_ofNat_Int, if_true, if_false, AV.one, repCells, fillA, partCells, Nat.reduceLT, Nat.reduceLeDiff, Nat.reduceMul, Nat.reduceSub, Int.reduceLT, Int.reduceLE, Int.reduceAdd, Int.reduceSub, Int.reduceMul, Int.reduceToNat, sliceCells, cellsAt, srcA, app, reduceCtorEq, Int.reduceEq, Int.reduceNeg, Int.reducePow, Nat.reducePow, Int.reduceTDiv, Int.reduceDiv, Nat.reduceDiv, Nat.reduceMod, Int.reduceMod, Int.reduceTMod, ne_eq, subA, beq_iff_eq, unA, minA, maxA, eqFs, eqA1, beq_self_eq_true, Nat.reduceBEq, readSA, sndA, resA, ht, oneOf]
      simp [frzN, frzK, frzL, frzV, readWA, clA, il, ks]
    | some q =>
      obtain ⟨c, x, r⟩ := q
      have hok := readS_ok hs
      obtain ⟨q1, q2, q3, q4, q5⟩ := hok
      have hx := (half_ne (x : Int)).1 q3
      have hw : ((x : Int) / 8).toNat = x / 8 := by omega
      have m0 : (c : Int) * x = ((c * x : Nat) : Int) := by simp
      have hcx : c * x / 8 = c * (x / 8) := by
        rcases hx with h | h | h
        · obtain rfl : x = 8 := by omega
          omega
        · obtain rfl : x = 16 := by omega
          omega
        · obtain rfl : x = 24 := by omega
          omega
      have hb0 : c * x ≤ 6 * 24 := Nat.mul_le_mul (by omega) (by omega)
      have hmS : ((c * x : Nat) : Int) / 8 = ((c * x / 8 : Nat) : Int) := by omega
      have hS1 : 0 < c * x / 8 := by rw [hcx]; exact Nat.mul_pos (by omega) (by omega)
      have hS' := hS x D (by omega)
      rw [samplesA, if_neg q3, hw] at hS'
      have hmm : (D.length : Int) % ((c * x / 8 : Nat) : Int) = ((D.length % (c * x / 8) : Nat) : Int) := (Int.natCast_emod _ _).symm
      by_cases hd0 : D.length = 0 ∨ D.length % (c * x / 8) ≠ 0
      · simp only [if_pos hd0]
        by_cases hd1 : D.length = 0
        · simp (config := { maxSteps := 4000000 }) (disch := omega) only [step, stepv, ev, okW, onlyFr, Bool.false_and, Bool.true_and, sealw, wl, wn, wp, aop, cV, cV1, ↓reduceIte, Nat.reduceEqDiff, Nat.reduceAdd, Int.cast_ofNat_Int, if_true, if_false, AV.one, repCells, fillA, partCells, Nat.reduceLT, Nat.reduceLeDiff, Nat.reduceMul, Nat.reduceSub, Int.reduceLT, Int.reduceLE, Int.reduceAdd, Int.reduceSub, Int.reduceMul, Int.reduceToNat, sliceCells, cellsAt, srcA, app, reduceCtorEq, Int.reduceEq, Int.reduceNeg, Int.reducePow, Nat.reducePow, Int.reduceTDiv, Int.reduceDiv, Nat.reduceDiv, Nat.reduceMod, Int.reduceMod, Int.reduceTMod, ne_eq, subA, beq_iff_eq, unA, minA, maxA, eqFs, eqA1, beq_self_eq_true, Nat.reduceBEq, readSA, sndA, e2, d2, bs, resA, ht, oneOf]
          simp [frzN, frzK, frzL, frzV, readWA, clA, il, ks]
        · have hd2 : 0 < D.length % (c * x / 8) := by omega
          generalize c * x / 8 = S at *
          generalize c * x = cx at *
          generalize D.length % S = R at *
          simp (config := { maxSteps := 4000000 }) (disch := omega) only [step, stepv, ev, okW, onlyFr, Bool.false_and, Bool.true_and, sealw, wl, wn, wp, aop, cV, cV1, ↓reduceIte, Nat.reduceEqDiff, Nat.reduceAdd, Int.cast_ofNat_Int, if_true, if_false, AV.one, repCells, fillA, partCells, Nat.reduceLT, Nat.reduceLeDiff, Nat.reduceMul, Nat.reduceSub, Int.reduceLT, Int.reduceLE, Int.reduceAdd, Int.reduceSub, Int.reduceMul, Int.reduceToNat, sliceCells, cellsAt, srcA, app, reduceCtorEq, Int.reduceEq, Int.reduceNeg, Int.reducePow, Nat.reducePow, Int.reduceTDiv, Int.reduceDiv, Nat.reduceDiv, Nat.reduceMod, Int.reduceMod, Int.reduceTMod, ne_eq, subA, beq_iff_eq, unA, minA, maxA, eqFs, eqA1, beq_self_eq_true, Nat.reduceBEq, readSA, sndA, e2, d2, bs, m0, hmS, hmm, resA, ht, oneOf]
          simp [frzN, frzK, frzL, frzV, readWA, clA, il, ks]
      simp only [if_neg hd0]
      have hd1 : D.length ≠ 0 := fun h => hd0 (.inl h)
      have hd2 : D.length % (c * x / 8) = 0 := by
        rcases Nat.eq_zero_or_pos (D.length % (c * x / 8)) with h | h
        · exact h
        · exact absurd (.inr (by omega)) hd0
      have hd3 : D.length % (x / 8) = 0 := by
        have h1 : x / 8 ∣ D.length := Nat.dvd_trans ⟨c, by rw [hcx]; exact Nat.mul_comm _ _⟩ (Nat.dvd_of_mod_eq_zero hd2)
        exact Nat.mod_eq_zero_of_dvd h1
      rw [if_neg (by omega)] at hS'
      have hI := smpL_I32 q3 D
      have hL := smpL_length x D
      rw [hw] at hL
      generalize smpL x D = L at *
      have hC' := hC c x r L hI (by rw [hL]; exact Nat.le_trans (Nat.div_le_self _ _) (by omega))
      rw [hd2] at hmm
      generalize c * x / 8 = S at *
      generalize c * x = cx at *
      generalize D.length / (x / 8) = M at *
      rw [il] at hS' hC'
      by_cases h4 : 4000 < M
      · rw [if_pos h4] at hS'
        simp only [if_pos h4]
        simp (config := { maxSteps := 4000000 }) (disch := omega) only [step, stepv, ev, okW, onlyFr, Bool.false_and, Bool.true_and, sealw, wl, wn, wp, aop, cV, cV1, ↓reduceIte, Nat.reduceEqDiff, Nat.reduceAdd, Int.cast_ofNat_Int, if_true, if_false, AV.one, repCells, fillA, partCells, Nat.reduceLT, Nat.reduceLeDiff, Nat.reduceMul, Nat.reduceSub, Int.reduceLT, Int.reduceLE, Int.reduceAdd, Int.reduceSub, Int.reduceMul, Int.reduceToNat, sliceCells, cellsAt, srcA, app, reduceCtorEq, Int.reduceEq, Int.reduceNeg, Int.reducePow, Nat.reducePow, Int.reduceTDiv, Int.reduceDiv, Nat.reduceDiv, Nat.reduceMod, Int.reduceMod, Int.reduceTMod, ne_eq, subA, beq_iff_eq, unA, minA, maxA, eqFs, eqA1, beq_self_eq_true, Nat.reduceBEq, readSA, sndA, e2, d2, bs, m0, hmS, hmm]
        refine callQ.vc hS' ?_
        simp (config := { maxSteps := 4000000 }) (disch := omega) only [step, stepv, ev, okW, onlyFr, Bool.false_and, Bool.true_and, sealw, wl, wn, wp, aop, cV, cV1, ↓reduceIte, Nat.reduceEqDiff, Nat.reduceAdd, Int.cast_ofNat_Int, if_true, if_false, AV.one, repCells, fillA, partCells, Nat.reduceLT, Nat.reduceLeDiff, Nat.reduceMul, Nat.reduceSub, Int.reduceLT, Int.reduceLE, Int.reduceAdd, Int.reduceSub, Int.reduceMul, Int.reduceToNat, sliceCells, cellsAt, srcA, app, reduceCtorEq, Int.reduceEq, Int.reduceNeg, Int.reducePow, Nat.reducePow, Int.reduceTDiv, Int.reduceDiv, Nat.reduceDiv, Nat.reduceMod, Int.reduceMod, Int.reduceTMod, ne_eq, subA, beq_iff_eq, unA, minA, maxA, eqFs, eqA1, beq_self_eq_true, Nat.reduceBEq, resA, ht, oneOf]
        simp [frzN, frzK, frzL, frzV, readWA, clA, il, ks]
      rw [if_neg h4] at hS'
      simp only [if_neg h4]
      simp (config := { maxSteps := 4000000 }) (disch := omega) only [step, stepv, ev, okW, onlyFr, Bool.false_and, Bool.true_and, sealw, wl, wn, wp, aop, cV, cV1, ↓reduceIte, Nat.reduceEqDiff, Nat.reduceAdd, Int.cast_ofNat_Int, if_true, if_false, AV.one, repCells, fillA, partCells, Nat.reduceLT, Nat.reduceLeDiff, Nat.reduceMul, Nat.reduceSub, Int.reduceLT, Int.reduceLE, Int.reduceAdd, Int.reduceSub, Int.reduceMul, Int.reduceToNat, sliceCells, cellsAt, srcA, app, reduceCtorEq, Int.reduceEq, Int.reduceNeg, Int.reducePow, Nat.reducePow, Int.reduceTDiv, Int.reduceDiv, Nat.reduceDiv, Nat.reduceMod, Int.reduceMod, Int.reduceTMod, ne_eq, subA, beq_iff_eq, unA, minA, maxA, eqFs, eqA1, beq_self_eq_true, Nat.reduceBEq, readSA, sndA, e2, d2, bs, m0, hmS, hmm]
      refine callQ.vc hS' ?_
      simp (config := { maxSteps := 4000000 }) (disch := omega) only [step, stepv, ev, okW, onlyFr, Bool.false_and, Bool.true_and, sealw, wl, wn, wp, aop, cV, cV1, ↓reduceIte, Nat.reduceEqDiff, Nat.reduceAdd, Int.cast_ofNat_Int, if_true, if_false, AV.one, repCells, fillA, partCells, Nat.reduceLT, Nat.reduceLeDiff, Nat.reduceMul, Nat.reduceSub, Int.reduceLT, Int.reduceLE, Int.reduceAdd, Int.reduceSub, Int.reduceMul, Int.reduceToNat, sliceCells, cellsAt, srcA, app, reduceCtorEq, Int.reduceEq, Int.reduceNeg, Int.reducePow, Nat.reducePow, Int.reduceTDiv, Int.reduceDiv, Nat.reduceDiv, Nat.reduceMod, Int.reduceMod, Int.reduceTMod, ne_eq, subA, beq_iff_eq, unA, minA, maxA, eqFs, eqA1, beq_self_eq_true, Nat.reduceBEq]
      refine callQ.vc hC' ?_
      by_cases h0 : clipN c x r L ≠ 0
      · simp only [if_pos h0]
        generalize clipN c x r L = e at *
        simp (config := { maxSteps := 4000000 }) (disch := omega) only [step, stepv, ev, okW, onlyFr, Bool.false_and, Bool.true_and, sealw, wl, wn, wp, aop, cV, cV1, ↓reduceIte, Nat.reduceEqDiff, Nat.reduceAdd, Int.cast_ofNat_Int, if_true, if_false, AV.one, repCells, fillA, partCells, Nat.reduceLT, Nat.reduceLeDiff, Nat.reduceMul, Nat.reduceSub, Int.reduceLT, Int.reduceLE, Int.reduceAdd, Int.reduceSub, Int.reduceMul, Int.reduceToNat, sliceCells, cellsAt, srcA, app, reduceCtorEq, Int.reduceEq, Int.reduceNeg, Int.reducePow, Nat.reducePow, Int.reduceTDiv, Int.reduceDiv, Nat.reduceDiv, Nat.reduceMod, Int.reduceMod, Int.reduceTMod, ne_eq, subA, beq_iff_eq, unA, minA, maxA, eqFs, eqA1, beq_self_eq_true, Nat.reduceBEq, resA, ht, oneOf]
        simp [frzN, frzK, frzL, frzV, readWA, clA, il, ks]
      · simp only [if_neg h0]
        have h0' : clipN c x r L = 0 := by omega
        rw [h0']
        simp (config := { maxSteps := 4000000 }) (disch := omega) only [step, stepv, ev, okW, onlyFr, Bool.false_and, Bool.true_and, sealw, wl, wn, wp, aop, cV, cV1, ↓reduceIte, Nat.reduceEqDiff, Nat.reduceAdd, Int.cast_ofNat_Int, if_true, if_false, AV.one, repCells, fillA, partCells, Nat.reduceLT, Nat.reduceLeDiff, Nat.reduceMul, Nat.reduceSub, Int.reduceLT, Int.reduceLE, Int.reduceAdd, Int.reduceSub, Int.reduceMul, Int.reduceToNat, sliceCells, cellsAt, srcA, app, reduceCtorEq, Int.reduceEq, Int.reduceNeg, Int.reducePow, Nat.reducePow, Int.reduceTDiv, Int.reduceDiv, Nat.reduceDiv, Nat.reduceMod, Int.reduceMod, Int.reduceTMod, ne_eq, subA, beq_iff_eq, unA, minA, maxA, eqFs, eqA1, beq_self_eq_true, Nat.reduceBEq, resA, ht, oneOf]
        simp [frzN, frzK, frzL, frzV, readWA, clA, il, frzL_T _ (isTL_ks _ _)]

end Go.Am

namespace Go.Am
open Go.RowKit

theorem cntM_append (a b : List Ck) (id : List UInt8) : cntM (a ++ b) id = cntM a id + cntM b id := by simp [cntM, List.filter_append]
theorem cntM_zero {l : List Ck} {id : List UInt8} (h : ∀ c ∈ l, ¬ c.1 = id) : cntM l id = 0 := by
  simp only [cntM, List.length_eq_zero_iff, List.filter_eq_nil_iff]
  intro c hc
  simpa using h c hc

theorem lastM_hit {l : List Ck} {id : List UInt8} (h : ∃ i, ∃ hi : i < l.length, l[i].1 = id) : ∃ hi : lastM l id < l.length, l[lastM l id].1 = id := by
  obtain ⟨i, hi, he⟩ := h
  have hne : (List.range l.length).filter (fun i => (l.getD i ([], [])).1 == id) ≠ [] := by
    intro h0
    have : i ∈ (List.range l.length).filter (fun i => (l.getD i ([], [])).1 == id) := by
      rw [List.mem_filter]
      exact ⟨by simpa using hi, by simp [List.getD_eq_getElem?_getD, hi, he]⟩
    rw [h0] at this
    cases this
  have hm := List.getLast_mem hne
  have e : lastM l id = ((List.range l.length).filter (fun i => (l.getD i ([], [])).1 == id)).getLast hne := by
    unfold lastM
    rw [List.getLast?_eq_some_getLast hne]
    rfl
  rw [← e, List.mem_filter] at hm
  have h1 : lastM l id < l.length := by simpa using hm.1
  refine ⟨h1, ?_⟩
  have := hm.2
  simpa [List.getD_eq_getElem?_getD, h1] using this

theorem only_count (l : List Ck) (id : List UInt8) :
    ((onlyM l id).2 = 6 ∧ cntM l id = 0) ∨ ((onlyM l id).2 = 12 ∧ 1 < cntM l id) ∨ ((onlyM l id).2 = 0 ∧ cntM l id = 1 ∧ lastM l id = (onlyM l id).1 ∧ (onlyM l id).1 < l.length) := by
  unfold onlyM
  cases hf : findM l id with
  | none =>
    refine .inl ⟨rfl, cntM_zero fun c hc => ?_⟩
    obtain ⟨j, hj, rfl⟩ := List.getElem_of_mem hc
    exact findM_none hf hj
  | some i =>
    obtain ⟨hi, h1, h2⟩ := findM_some hf
    have hsplit : l = l.take i ++ l[i] :: l.drop (i + 1) := by rw [← List.drop_eq_getElem_cons hi, List.take_append_drop]
    have hz : cntM (l.take i) id = 0 := cntM_zero fun c hc => by
      obtain ⟨j, hj, rfl⟩ := List.getElem_of_mem hc
      rw [List.length_take] at hj
      rw [List.getElem_take]
      exact h2 j (by omega)
    have hc : cntM l id = 1 + cntM (l.drop (i + 1)) id := by
      conv => lhs; rw [hsplit]
      rw [cntM_append, hz, show l[i] :: l.drop (i + 1) = [l[i]] ++ l.drop (i + 1) from rfl, cntM_append]
      simp [cntM, h1]
    simp only
    cases hf2 : findM (l.drop (i + 1)) id with
    | some j =>
      obtain ⟨hj, h3, _⟩ := findM_some hf2
      refine .inr (.inl ⟨rfl, ?_⟩)
      have : 0 < cntM (l.drop (i + 1)) id := by
        simp only [cntM, List.length_pos_iff, ne_eq, List.filter_eq_nil_iff]
        intro h
        exact h _ (List.getElem_mem hj) (by simpa using h3)
      omega
    | none =>
      have hz2 : cntM (l.drop (i + 1)) id = 0 := cntM_zero fun c hc => by
        obtain ⟨j, hj, rfl⟩ := List.getElem_of_mem hc
        exact findM_none hf2 hj
      obtain ⟨h4, h5⟩ := lastM_hit (l := l) (id := id) ⟨i, hi, h1⟩
      refine .inr (.inr ⟨rfl, by omega, ?_, hi⟩)
      rcases Nat.lt_trichotomy (lastM l id) i with h6 | h6 | h6
      · exact absurd h5 (h2 _ h6)
      · exact h6
      · exfalso
        have h7 : lastM l id - (i + 1) < (l.drop (i + 1)).length := by simp; omega
        refine findM_none hf2 h7 ?_
        rw [List.getElem_drop]
        have : i + 1 + (lastM l id - (i + 1)) = lastM l id := by omega
        simp only [this]
        exact h5

theorem smpL_one {x : Int} {s : List UInt8} (hx : half x ≠ 0) (hs : s.length = (x / 8).toNat) : smpL x s = [smpD x s] := by
  have h0 : 0 < (x / 8).toNat := by rcases (half_ne x).1 hx with h | h | h <;> subst h <;> decide
  simp only [smpL, hs, Nat.div_self h0]
  have : List.range 1 = [0] := rfl
  rw [this]
  simp only [List.map_cons, List.map_nil, Nat.zero_mul, List.drop_zero]
  rw [List.take_of_length_le (by omega)]

end Go.Am

namespace Go.Am
open Go.RowKit

set_option maxRecDepth 20000 in
set_option maxHeartbeats 4000000 in
theorem ref33_Read {P : Prg} {f fR fO fF fS fC t0 t1 t2 : Nat} (bd : Body P f 139 [.cell 2 t0, .tmp 3] (ac_cadenzaref33_Read fR fO fF fS fC t0 t1 t2)) (hR : S_Read P fR) (hO : S_Count33 P fO) (hF : S_SRead P fF) (hS : S_Samples P fS) (hC : S_ClipCheck P fC) (ht : aggO P t0 = some (some 4)) : S_WavRead P f := by
  intro b hb
  refine VC.of_walk 2 (by simp [isDL, isD_bs]) (isD_readWA _) (ACall.of_body bd (by simp) ?_)
  have hR' := hR b hb
  simp (config := { maxSteps := 4000000 }) (disch := omega) only [step, stepv, ev, okW, onlyFr, Bool.false_and, Bool.true_and, sealw, wl, wn, wp, aop, cV, cV1, ↓reduceIte, Nat.reduceEqDiff, Nat.reduceAdd, Int.cast_ofNat_Int, if_true, if_false, AV.one, repCells, fillA, partCells, Nat.reduceLT, Nat.reduceLeDiff, Nat.reduceMul, Nat.reduceSub, Int.reduceLT, Int.reduceLE, Int.reduceAdd, Int.reduceSub, Int.reduceMul, Int.reduceToNat, sliceCells, cellsAt, srcA, app, reduceCtorEq, Int.reduceEq, Int.reduceNeg, Int.reducePow, Nat.reducePow, Int.reduceTDiv, Int.reduceDiv, Nat.reduceDiv, Nat.reduceMod, Int.reduceMod, Int.reduceTMod, ne_eq, subA, beq_iff_eq, unA, minA, maxA, eqFs, eqA1, beq_self_eq_true, Nat.reduceBEq, ac_cadenzaref33_Read, bs]
  refine callQ.vc hR' ?_
  unfold readW
  cases hm : readM b with
  | inl e =>
    have hp := readM_pos hm
    have hp' : ((e : Int) = 0) = False := eq_false (by omega)
    simp (config := { maxSteps := 4000000 }) (disch := omega) only [step, stepv, ev, okW, onlyFr, Bool.false_and, Bool.true_and, sealw, wl, wn, wp, aop, cV, cV1, ↓reduceIte, Nat.reduceEqDiff, Nat.reduceAdd, Int.cast_ofNat_Int, if_true, if_false, AV.one, repCells, fillA, partCells, Nat.reduceLT, Nat.reduceLeDiff, Nat.reduceMul, Nat.reduceSub, Int.reduceLT, Int.reduceLE, Int.reduceAdd, Int.reduceSub, Int.reduceMul, Int.reduceToNat, sliceCells, cellsAt, srcA, app, reduceCtorEq, Int.reduceEq, Int.reduceNeg, Int.reducePow, Nat.reducePow, Int.reduceTDiv, Int.reduceDiv, Nat.reduceDiv, Nat.reduceMod, Int.reduceMod, Int.reduceTMod, ne_eq, subA, beq_iff_eq, unA, minA, maxA, eqFs, eqA1, beq_self_eq_true, Nat.reduceBEq, readA, hp', resA, ht, oneOf]
    simp [frzN, frzK, frzL, frzV, readWA, clA, il, ks]
  | inr p =>
    obtain ⟨form, l⟩ := p
    have h20 := readM_le hm
    have hmb := readM_mem hm
    by_cases hform : form = waveW'
    case neg =>
      have e1 : (form == [87, 65, 86, 69]) = false := by
        show (form == waveW') = false
        simpa using hform
      simp only [if_pos (show form ≠ waveW' from hform)]
      simp (config := { maxSteps := 4000000 }) (disch := omega) only [step, stepv, ev, okW, onlyFr, Bool.false_and, Bool.true_and, sealw, wl, wn, wp, aop, cV, cV1, ↓reduceIte, Nat.reduceEqDiff, Nat.reduceAdd, Int.cast_ofNat_Int, if_true, if_false, AV.one, repCells, fillA, partCells, Nat.reduceLT, Nat.reduceLeDiff, Nat.reduceMul, Nat.reduceSub, Int.reduceLT, Int.reduceLE, Int.reduceAdd, Int.reduceSub, Int.reduceMul, Int.reduceToNat, sliceCells, cellsAt, srcA, app, reduceCtorEq, Int.reduceEq, Int.reduceNeg, Int.reducePow, Nat.reducePow, Int.reduceTDiv, Int.reduceDiv, Nat.reduceDiv, Nat.reduceMod, Int.reduceMod, Int.reduceTMod, ne_eq, subA, beq_iff_eq, unA, minA, maxA, eqFs, eqA1, beq_self_eq_true, Nat.reduceBEq, readA, strA, e1, resA, ht, oneOf]
      simp [frzN, frzK, frzL, frzV, readWA, clA, il, ks]
    simp only [if_neg (show ¬ form ≠ waveW' by simp [hform])]
    subst hform
    have e1 : (waveW' == [87, 65, 86, 69]) = true := by decide
    simp (config := { maxSteps := 4000000 }) (disch := omega) only [step, stepv, ev, okW, onlyFr, Bool.false_and, Bool.true_and, sealw, wl, wn, wp, aop, cV, cV1, ↓reduceIte, Nat.reduceEqDiff, Nat.reduceAdd, Int.cast_ofNat_Int, if_true, if_false, AV.one, repCells, fillA, partCells, Nat.reduceLT, Nat.reduceLeDiff, Nat.reduceMul, Nat.reduceSub, Int.reduceLT, Int.reduceLE, Int.reduceAdd, Int.reduceSub, Int.reduceMul, Int.reduceToNat, sliceCells, cellsAt, srcA, app, reduceCtorEq, Int.reduceEq, Int.reduceNeg, Int.reducePow, Nat.reducePow, Int.reduceTDiv, Int.reduceDiv, Nat.reduceDiv, Nat.reduceMod, Int.reduceMod, Int.reduceTMod, ne_eq, subA, beq_iff_eq, unA, minA, maxA, eqFs, eqA1, beq_self_eq_true, Nat.reduceBEq, readA, strA, e1]
    refine callQ.vc (hO l fmtW (by omega)) ?_
    simp (config := { maxSteps := 4000000 }) (disch := omega) only [step, stepv, ev, okW, onlyFr, Bool.false_and, Bool.true_and, sealw, wl, wn, wp, aop, cV, cV1, ↓reduceIte, Nat.reduceEqDiff, Nat.reduceAdd, Int.cast_ofNat_Int, if_true, if_false, AV.one, repCells, fillA, partCells, Nat.reduceLT, Nat.reduceLeDiff, Nat.reduceMul, Nat.reduceSub, Int.reduceLT, Int.reduceLE, Int.reduceAdd, Int.reduceSub, Int.reduceMul, Int.reduceToNat, sliceCells, cellsAt, srcA, app, reduceCtorEq, Int.reduceEq, Int.reduceNeg, Int.reducePow, Nat.reducePow, Int.reduceTDiv, Int.reduceDiv, Nat.reduceDiv, Nat.reduceMod, Int.reduceMod, Int.reduceTMod, ne_eq, subA, beq_iff_eq, unA, minA, maxA, eqFs, eqA1, beq_self_eq_true, Nat.reduceBEq]
    refine callQ.vc (hO l dataW (by omega)) ?_
    have c1 := only_count l fmtW
    have c2 := only_count l dataW
    generalize onlyM l fmtW = q1 at *
    generalize onlyM l dataW = q2 at *
    generalize cntM l fmtW = n1 at *
    generalize cntM l dataW = n2 at *
    generalize lastM l fmtW = l1 at *
    generalize lastM l dataW = l2 at *
    obtain ⟨fi, fe⟩ := q1
    obtain ⟨di, de⟩ := q2
    simp only at c1 c2 ⊢
    by_cases h6 : fe = 6 ∨ de = 6
    · rw [if_pos h6]
      by_cases h6a : n1 = 0
      · simp (config := { maxSteps := 4000000 }) (disch := omega) only [step, stepv, ev, okW, onlyFr, Bool.false_and, Bool.true_and, sealw, wl, wn, wp, aop, cV, cV1, ↓reduceIte, Nat.reduceEqDiff, Nat.reduceAdd, Int.cast_ofNat_Int, if_true, if_false, AV.one, repCells, fillA, partCells, Nat.reduceLT, Nat.reduceLeDiff, Nat.reduceMul, Nat.reduceSub, Int.reduceLT, Int.reduceLE, Int.reduceAdd, Int.reduceSub, Int.reduceMul, Int.reduceToNat, sliceCells, cellsAt, srcA, app, reduceCtorEq, Int.reduceEq, Int.reduceNeg, Int.reducePow, Nat.reducePow, Int.reduceTDiv, Int.reduceDiv, Nat.reduceDiv, Nat.reduceMod, Int.reduceMod, Int.reduceTMod, ne_eq, subA, beq_iff_eq, unA, minA, maxA, eqFs, eqA1, beq_self_eq_true, Nat.reduceBEq, resA, ht, oneOf]
        simp [frzN, frzK, frzL, frzV, readWA, clA, il, ks]
      · have : n2 = 0 := by omega
        simp (config := { maxSteps := 4000000 }) (disch := omega) only [step, stepv, ev, okW, onlyFr, Bool.false_and, Bool.true_and, sealw, wl, wn, wp, aop, cV, cV1, ↓reduceIte, Nat.reduceEqDiff, Nat.reduceAdd, Int.cast_ofNat_Int, if_true, if_false, AV.one, repCells, fillA, partCells, Nat.reduceLT, Nat.reduceLeDiff, Nat.reduceMul, Nat.reduceSub, Int.reduceLT, Int.reduceLE, Int.reduceAdd, Int.reduceSub, Int.reduceMul, Int.reduceToNat, sliceCells, cellsAt, srcA, app, reduceCtorEq, Int.reduceEq, Int.reduceNeg, Int.reducePow, Nat.reducePow, Int.reduceTDiv, Int.reduceDiv, Nat.reduceDiv, Nat.reduceMod, Int.reduceMod, Int.reduceTMod, ne_eq, subA, beq_iff_eq, unA, minA, maxA, eqFs, eqA1, beq_self_eq_true, Nat.reduceBEq, resA, ht, oneOf]
        simp [frzN, frzK, frzL, frzV, readWA, clA, il, ks]
    rw [if_neg h6]
    by_cases h12 : fe ≠ 0 ∨ de ≠ 0 ∨ di < fi
    · rw [if_pos h12]
      by_cases h12a : n1 ≤ 1
      · by_cases h12b : n2 ≤ 1
        · simp (config := { maxSteps := 4000000 }) (disch := omega) only [step, stepv, ev, okW, onlyFr, Bool.false_and, Bool.true_and, sealw, wl, wn, wp, aop, cV, cV1, ↓reduceIte, Nat.reduceEqDiff, Nat.reduceAdd, Int.cast_ofNat_Int, if_true, if_false, AV.one, repCells, fillA, partCells, Nat.reduceLT, Nat.reduceLeDiff, Nat.reduceMul, Nat.reduceSub, Int.reduceLT, Int.reduceLE, Int.reduceAdd, Int.reduceSub, Int.reduceMul, Int.reduceToNat, sliceCells, cellsAt, srcA, app, reduceCtorEq, Int.reduceEq, Int.reduceNeg, Int.reducePow, Nat.reducePow, Int.reduceTDiv, Int.reduceDiv, Nat.reduceDiv, Nat.reduceMod, Int.reduceMod, Int.reduceTMod, ne_eq, subA, beq_iff_eq, unA, minA, maxA, eqFs, eqA1, beq_self_eq_true, Nat.reduceBEq, resA, ht, oneOf]
          simp [frzN, frzK, frzL, frzV, readWA, clA, il, ks]
        · simp (config := { maxSteps := 4000000 }) (disch := omega) only [step, stepv, ev, okW, onlyFr, Bool.false_and, Bool.true_and, sealw, wl, wn, wp, aop, cV, cV1, ↓reduceIte, Nat.reduceEqDiff, Nat.reduceAdd, Int.cast_ofNat_Int, if_true, if_false, AV.one, repCells, fillA, partCells, Nat.reduceLT, Nat.reduceLeDiff, Nat.reduceMul, Nat.reduceSub, Int.reduceLT, Int.reduceLE, Int.reduceAdd, Int.reduceSub, Int.reduceMul, Int.reduceToNat, sliceCells, cellsAt, srcA, app, reduceCtorEq, Int.reduceEq, Int.reduceNeg, Int.reducePow, Nat.reducePow, Int.reduceTDiv, Int.reduceDiv, Nat.reduceDiv, Nat.reduceMod, Int.reduceMod, Int.reduceTMod, ne_eq, subA, beq_iff_eq, unA, minA, maxA, eqFs, eqA1, beq_self_eq_true, Nat.reduceBEq, resA, ht, oneOf]
          simp [frzN, frzK, frzL, frzV, readWA, clA, il, ks]
      · simp (config := { maxSteps := 4000000 }) (disch := omega) only [step, stepv, ev, okW, onlyFr, Bool.false_and, Bool.true_and, sealw, wl, wn, wp, aop, cV, cV1, ↓reduceIte, Nat.reduceEqDiff, Nat.reduceAdd, Int.cast_ofNat_Int, if_true, if_false, AV.one, repCells, fillA, partCells, Nat.reduceLT, Nat.reduceLeDiff, Nat.reduceMul, Nat.reduceSub, Int.reduceLT, Int.reduceLE, Int.reduceAdd, Int.reduceSub, Int.reduceMul, Int.reduceToNat, sliceCells, cellsAt, srcA, app, reduceCtorEq, Int.reduceEq, Int.reduceNeg, Int.reducePow, Nat.reducePow, Int.reduceTDiv, Int.reduceDiv, Nat.reduceDiv, Nat.reduceMod, Int.reduceMod, Int.reduceTMod, ne_eq, subA, beq_iff_eq, unA, minA, maxA, eqFs, eqA1, beq_self_eq_true, Nat.reduceBEq, resA, ht, oneOf]
        simp [frzN, frzK, frzL, frzV, readWA, clA, il, ks]
    rw [if_neg h12]
    have hfi : fi < l.length := by omega
    have hdi : di < l.length := by omega
    obtain rfl : l1 = fi := by omega
    obtain rfl : l2 = di := by omega
    have e2 := ckL_length l
    have d1 := ckL_drop hfi
    have d2 := ckL_drop hdi
    have m1 := hmb _ (List.getElem_mem hfi)
    have m2 := hmb _ (List.getElem_mem hdi)
    rw [ckAt_eq hfi, ckAt_eq hdi]
    generalize (l[l1]).2 = F at *
    generalize (l[l2]).2 = D at *
    simp (config := { maxSteps := 4000000 }) (disch := omega) only [step, stepv, ev, okW, onlyFr, Bool.false_and, Bool.true_and, sealw, wl, wn, wp, aop, cV, cV1, ↓reduceIte, Nat.reduceEqDiff, Nat.reduceAdd, Int.cast_ofNat_Int, if_true, if_false, AV.one, repCells, fillA, partCells, Nat.reduceLT, Nat.reduceLeDiff, Nat.reduceMul, Nat.reduceSub, Int.reduceLT, Int.reduceLE, Int.reduceAdd, Int.reduceSub, Int.reduceMul, Int.reduceToNat, sliceCells, cellsAt, srcA, app, reduceCtorEq, Int.reduceEq, Int.reduceNeg, Int.reducePow, Nat.reducePow, Int.reduceTDiv, Int.reduceDiv, Nat.reduceDiv, Nat.reduceMod, Int.reduceMod, Int.reduceTMod, ne_eq, subA, beq_iff_eq, unA, minA, maxA, eqFs, eqA1, beq_self_eq_true, Nat.reduceBEq, e2, d1]
    refine callQ.vc (hF F (by omega)) ?_
    cases hs : readS F with
    | none =>
      simp (config := { maxSteps := 4000000 }) (disch := omega) only [step, stepv, ev, okW, onlyFr, Bool.false_and, Bool.true_and, sealw, wl, wn, wp, aop, cV, cV1, ↓reduceIte, Nat.reduceEqDiff, Nat.reduceAdd, Int.cast_ofNat_Int, if_true, if_false, AV.one, repCells, fillA, partCells, Nat.reduceLT, Nat.reduceLeDiff, Nat.reduceMul, Nat.reduceSub, Int.reduceLT, Int.reduceLE, Int.reduceAdd, Int.reduceSub, Int.reduceMul, Int.reduceToNat, sliceCells, cellsAt, srcA, app, reduceCtorEq, Int.reduceEq, Int.reduceNeg, Int.reducePow, Nat.reducePow, Int.reduceTDiv, Int.reduceDiv, Nat.reduceDiv, Nat.reduceMod, Int.reduceMod, Int.reduceTMod, ne_eq, subA, beq_iff_eq, unA, minA, maxA, eqFs, eqA1, beq_self_eq_true, Nat.reduceBEq, readSA, sndA, resA, ht, oneOf]
      simp [frzN, frzK, frzL, frzV, readWA, clA, il, ks]
    | some q =>
      obtain ⟨c, x, r⟩ := q
      have hok := readS_ok hs
      obtain ⟨q1, q2, q3, q4, q5⟩ := hok
      have hx := (half_ne (x : Int)).1 q3
      have hw : ((x : Int) / 8).toNat = x / 8 := by omega
      have m0 : (c : Int) * x = ((c * x : Nat) : Int) := by simp
      have hcx : c * x / 8 = c * (x / 8) := by
        rcases hx with h | h | h
        · obtain rfl : x = 8 := by omega
          omega
        · obtain rfl : x = 16 := by omega
          omega
        · obtain rfl : x = 24 := by omega
          omega
      have hb0 : c * x ≤ 6 * 24 := Nat.mul_le_mul (by omega) (by omega)
      have hmS : ((c * x : Nat) : Int) / 8 = ((c * x / 8 : Nat) : Int) := by omega
      have hS1 : 0 < c * x / 8 := by rw [hcx]; exact Nat.mul_pos (by omega) (by omega)
      have hmm : (D.length : Int) % ((c * x / 8 : Nat) : Int) = ((D.length % (c * x / 8) : Nat) : Int) := (Int.natCast_emod _ _).symm
      by_cases hd0 : D.length = 0 ∨ D.length % (c * x / 8) ≠ 0
      · simp only [if_pos hd0]
        by_cases hd1 : D.length = 0
        · simp (config := { maxSteps := 4000000 }) (disch := omega) only [step, stepv, ev, okW, onlyFr, Bool.false_and, Bool.true_and, sealw, wl, wn, wp, aop, cV, cV1, ↓reduceIte, Nat.reduceEqDiff, Nat.reduceAdd, Int.cast_ofNat_Int, if_true, if_false, AV.one, repCells, fillA, partCells, Nat.reduceLT, Nat.reduceLeDiff, Nat.reduceMul, Nat.reduceSub, Int.reduceLT, Int.reduceLE, Int.reduceAdd, Int.reduceSub, Int.reduceMul, Int.reduceToNat, sliceCells, cellsAt, srcA, app, reduceCtorEq, Int.reduceEq, Int.reduceNeg, Int.reducePow, Nat.reducePow, Int.reduceTDiv, Int.reduceDiv, Nat.reduceDiv, Nat.reduceMod, Int.reduceMod, Int.reduceTMod, ne_eq, subA, beq_iff_eq, unA, minA, maxA, eqFs, eqA1, beq_self_eq_true, Nat.reduceBEq, readSA, sndA, e2, d2, bs, resA, ht, oneOf]
          simp [frzN, frzK, frzL, frzV, readWA, clA, il, ks]
        · have hd2 : 0 < D.length % (c * x / 8) := by omega
          generalize c * x / 8 = S at *
          generalize c * x = cx at *
          generalize D.length % S = R at *
          simp (config := { maxSteps := 4000000 }) (disch := omega) only [step, stepv, ev, okW, onlyFr, Bool.false_and, Bool.true_and, sealw, wl, wn, wp, aop, cV, cV1, ↓reduceIte, Nat.reduceEqDiff, Nat.reduceAdd, Int.cast_ofNat_Int, if_true, if_false, AV.one, repCells, fillA, partCells, Nat.reduceLT, Nat.reduceLeDiff, Nat.reduceMul, Nat.reduceSub, Int.reduceLT, Int.reduceLE, Int.reduceAdd, Int.reduceSub, Int.reduceMul, Int.reduceToNat, sliceCells, cellsAt, srcA, app, reduceCtorEq, Int.reduceEq, Int.reduceNeg, Int.reducePow, Nat.reducePow, Int.reduceTDiv, Int.reduceDiv, Nat.reduceDiv, Nat.reduceMod, Int.reduceMod, Int.reduceTMod, ne_eq, subA, beq_iff_eq, unA, minA, maxA, eqFs, eqA1, beq_self_eq_true, Nat.reduceBEq, readSA, sndA, e2, d2, bs, m0, hmS, hmm, resA, ht, oneOf]
          simp [frzN, frzK, frzL, frzV, readWA, clA, il, ks]
      simp only [if_neg hd0]
      have hd1 : D.length ≠ 0 := fun h => hd0 (.inl h)
      have hd2 : D.length % (c * x / 8) = 0 := by
        rcases Nat.eq_zero_or_pos (D.length % (c * x / 8)) with h | h
        · exact h
        · exact absurd (.inr (by omega)) hd0
      have hd3 : D.length % (x / 8) = 0 := by
        have h1 : x / 8 ∣ D.length := Nat.dvd_trans ⟨c, by rw [hcx]; exact Nat.mul_comm _ _⟩ (Nat.dvd_of_mod_eq_zero hd2)
        exact Nat.mod_eq_zero_of_dvd h1
      have hI := smpL_I32 q3 D
      have hL := smpL_length x D
      have hT := fun i => @smpL_take x D i
      have hS1' : ∀ s : List UInt8, s.length = x / 8 → VC P fS [.int .i64 x, .list (x / 8) (u8 s)] (.tup [.list 1 [.int .i32 (smpD x s)], .int .i64 0]) := fun s hs => by
        have h1 := hS x s (by omega)
        have h2 := smpL_one q3 (s := s) (by omega)
        rw [samplesA, if_neg q3, hw, hs, h2, if_neg (by rw [Nat.mod_self]; omega), if_neg (by rw [Nat.div_self (by omega)]; omega), bs, hs] at h1
        exact h1
      simp only [hw] at hL hT
      generalize hSL : smpL x D = L at *
      have hC' := hC c x r L hI (by rw [hL]; exact Nat.le_trans (Nat.div_le_self _ _) (by omega))
      rw [hd2] at hmm
      have hw1 : (x : Int) / 8 = ((x / 8 : Nat) : Int) := by omega
      have hwp : 0 < x / 8 := by omega
      have hwd : (D.length : Int) / ((x / 8 : Nat) : Int) = ((D.length / (x / 8) : Nat) : Int) := by omega
      have hMle : D.length / (x / 8) ≤ D.length := Nat.div_le_self _ _
      have hDM : D.length / (x / 8) * (x / 8) = D.length := Nat.div_mul_cancel (Nat.dvd_of_mod_eq_zero hd3)
      generalize c * x / 8 = S at *
      generalize c * x = cx at *
      generalize hM : D.length / (x / 8) = M at *
      generalize hW : x / 8 = W at *
      rw [il] at hC'
      by_cases h4 : 4000 < M
      · simp only [if_pos h4]
        simp (config := { maxSteps := 4000000 }) (disch := omega) only [step, stepv, ev, okW, onlyFr, Bool.false_and, Bool.true_and, sealw, wl, wn, wp, aop, cV, cV1, ↓reduceIte, Nat.reduceEqDiff, Nat.reduceAdd, Int.cast_ofNat_Int, if_true, if_false, AV.one, repCells, fillA, partCells, Nat.reduceLT, Nat.reduceLeDiff, Nat.reduceMul, Nat.reduceSub, Int.reduceLT, Int.reduceLE, Int.reduceAdd, Int.reduceSub, Int.reduceMul, Int.reduceToNat, sliceCells, cellsAt, srcA, app, reduceCtorEq, Int.reduceEq, Int.reduceNeg, Int.reducePow, Nat.reducePow, Int.reduceTDiv, Int.reduceDiv, Nat.reduceDiv, Nat.reduceMod, Int.reduceMod, Int.reduceTMod, ne_eq, subA, beq_iff_eq, unA, minA, maxA, eqFs, eqA1, beq_self_eq_true, Nat.reduceBEq, readSA, sndA, e2, d2, bs, m0, hmS, hmm, hw1, hwd, resA, ht, oneOf]
        simp [frzN, frzK, frzL, frzV, readWA, clA, il, ks]
      simp only [if_neg h4]
      simp (config := { maxSteps := 4000000 }) (disch := omega) only [step, stepv, ev, okW, onlyFr, Bool.false_and, Bool.true_and, sealw, wl, wn, wp, aop, cV, cV1, ↓reduceIte, Nat.reduceEqDiff, Nat.reduceAdd, Int.cast_ofNat_Int, if_true, if_false, AV.one, repCells, fillA, partCells, Nat.reduceLT, Nat.reduceLeDiff, Nat.reduceMul, Nat.reduceSub, Int.reduceLT, Int.reduceLE, Int.reduceAdd, Int.reduceSub, Int.reduceMul, Int.reduceToNat, sliceCells, cellsAt, srcA, app, reduceCtorEq, Int.reduceEq, Int.reduceNeg, Int.reducePow, Nat.reducePow, Int.reduceTDiv, Int.reduceDiv, Nat.reduceDiv, Nat.reduceMod, Int.reduceMod, Int.reduceTMod, ne_eq, subA, beq_iff_eq, unA, minA, maxA, eqFs, eqA1, beq_self_eq_true, Nat.reduceBEq, readSA, sndA, e2, d2, bs, m0, hmS, hmm, hw1, hwd]
      have hM1 : 0 < M := by
        rcases Nat.eq_zero_or_pos M with h | h
        · subst h; omega
        · exact h
      refine ALoop.by (ι := Nat) (fun k => ⟨[(15, .int .i64 ((k * W : Nat) : Int)), (14, .int .i64 W), (13, .ref 2 1 0), (12, .list D.length (u8 D)), (11, .ref 1 1 0), (2, .ref 0 1 0)],
          [⟨t0, 4, 1, [.int .i64 0, .int .i64 0, .int .i64 0, .emp true], 0⟩, ⟨t1, 3, 1, [.int .i64 c, .int .i64 x, .int .i64 r], 0⟩] ++
          (match k with | 0 => [⟨t0, 4, 1, [.int .i64 c, .int .i64 x, .int .i64 r, .emp true], 0⟩] | k + 1 => [⟨t0, 4, 1, [.int .i64 c, .int .i64 x, .int .i64 r, .own 3 (k + 1)], 0⟩, ⟨t2, 1, k + 1, ks .i32 (L.take (k + 1)), 0⟩])⟩)
        (fun k => k ≤ M) (fun k => M - k) 0 (Le.slots (by simp [Am.look])) (by omega) ?_
      intro k hk
      by_cases hlt : k < M
      · have g1 : (k + 1) * W ≤ M * W := Nat.mul_le_mul_right W (by omega)
        rw [Nat.add_mul, Nat.one_mul] at g1
        have hTk := hT k hlt
        have hsl : ((D.drop (k * W)).take W).length = W := len_at (by omega)
        have hS2 := hS1' ((D.drop (k * W)).take W) hsl
        have hk1 : (k + 1) * W = k * W + W := by rw [Nat.add_mul, Nat.one_mul]
        generalize smpD x ((D.drop (k * W)).take W) = y at *
        generalize hat : k * W = at_ at *
        have z1 : ((at_ : Int) + W - at_).toNat = W := by omega
        have ul := u8_length D
        cases k with
        | zero =>
          simp only [List.take_zero, List.nil_append] at hTk
          simp (config := { maxSteps := 4000000 }) (disch := omega) only [step, stepv, ev, okW, onlyFr, Bool.false_and, Bool.true_and, sealw, wl, wn, wp, aop, cV, cV1, ↓reduceIte, Nat.reduceEqDiff, Nat.reduceAdd, Int.cast_ofNat_Int, if_true, if_false, AV.one, repCells, fillA, partCells, Nat.reduceLT, Nat.reduceLeDiff, Nat.reduceMul, Nat.reduceSub, Int.reduceLT, Int.reduceLE, Int.reduceAdd, Int.reduceSub, Int.reduceMul, Int.reduceToNat, sliceCells, cellsAt, srcA, app, reduceCtorEq, Int.reduceEq, Int.reduceNeg, Int.reducePow, Nat.reducePow, Int.reduceTDiv, Int.reduceDiv, Nat.reduceDiv, Nat.reduceMod, Int.reduceMod, Int.reduceTMod, ne_eq, subA, beq_iff_eq, unA, minA, maxA, eqFs, eqA1, beq_self_eq_true, Nat.reduceBEq, z1, u8_drop, u8_take, ul]
          refine callD.vc hS2 ?_
          simp (config := { maxSteps := 4000000 }) (disch := omega) only [step, stepv, ev, okW, onlyFr, Bool.false_and, Bool.true_and, sealw, wl, wn, wp, aop, cV, cV1, ↓reduceIte, Nat.reduceEqDiff, Nat.reduceAdd, Int.cast_ofNat_Int, if_true, if_false, AV.one, repCells, fillA, partCells, Nat.reduceLT, Nat.reduceLeDiff, Nat.reduceMul, Nat.reduceSub, Int.reduceLT, Int.reduceLE, Int.reduceAdd, Int.reduceSub, Int.reduceMul, Int.reduceToNat, sliceCells, cellsAt, srcA, app, reduceCtorEq, Int.reduceEq, Int.reduceNeg, Int.reducePow, Nat.reducePow, Int.reduceTDiv, Int.reduceDiv, Nat.reduceDiv, Nat.reduceMod, Int.reduceMod, Int.reduceTMod, ne_eq, subA, beq_iff_eq, unA, minA, maxA, eqFs, eqA1, beq_self_eq_true, Nat.reduceBEq]
          refine ⟨1, by omega, by omega, ?_⟩
          simp only [Nat.zero_add] at hTk hk1
          simp only [hk1, Nat.zero_add, hTk]
          exact Le.slots (by simp [Am.look])
        | succ k =>
          have lk : (ks .i32 (L.take (k + 1))).length = k + 1 := by rw [ks_length, List.length_take]; omega
          simp (config := { maxSteps := 4000000 }) (disch := omega) only [step, stepv, ev, okW, onlyFr, Bool.false_and, Bool.true_and, sealw, wl, wn, wp, aop, cV, cV1, ↓reduceIte, Nat.reduceEqDiff, Nat.reduceAdd, Int.cast_ofNat_Int, if_true, if_false, AV.one, repCells, fillA, partCells, Nat.reduceLT, Nat.reduceLeDiff, Nat.reduceMul, Nat.reduceSub, Int.reduceLT, Int.reduceLE, Int.reduceAdd, Int.reduceSub, Int.reduceMul, Int.reduceToNat, sliceCells, cellsAt, srcA, app, reduceCtorEq, Int.reduceEq, Int.reduceNeg, Int.reducePow, Nat.reducePow, Int.reduceTDiv, Int.reduceDiv, Nat.reduceDiv, Nat.reduceMod, Int.reduceMod, Int.reduceTMod, ne_eq, subA, beq_iff_eq, unA, minA, maxA, eqFs, eqA1, beq_self_eq_true, Nat.reduceBEq, z1, u8_drop, u8_take, ul, lk]
          refine callD.vc hS2 ?_
          simp (config := { maxSteps := 4000000 }) (disch := omega) only [step, stepv, ev, okW, onlyFr, Bool.false_and, Bool.true_and, sealw, wl, wn, wp, aop, cV, cV1, ↓reduceIte, Nat.reduceEqDiff, Nat.reduceAdd, Int.cast_ofNat_Int, if_true, if_false, AV.one, repCells, fillA, partCells, Nat.reduceLT, Nat.reduceLeDiff, Nat.reduceMul, Nat.reduceSub, Int.reduceLT, Int.reduceLE, Int.reduceAdd, Int.reduceSub, Int.reduceMul, Int.reduceToNat, sliceCells, cellsAt, srcA, app, reduceCtorEq, Int.reduceEq, Int.reduceNeg, Int.reducePow, Nat.reducePow, Int.reduceTDiv, Int.reduceDiv, Nat.reduceDiv, Nat.reduceMod, Int.reduceMod, Int.reduceTMod, ne_eq, subA, beq_iff_eq, unA, minA, maxA, eqFs, eqA1, beq_self_eq_true, Nat.reduceBEq, ks_snoc]
          rw [← hTk]
          refine ⟨k + 2, by omega, by omega, ?_⟩
          rw [show (k + 2) * W = at_ + W from hk1]
          exact Le.slots (by simp [Am.look])
      · have ek : k = M := by omega
        subst ek
        obtain ⟨k', rfl⟩ : ∃ k', k = k' + 1 := ⟨k - 1, by omega⟩
        have tL : L.take (k' + 1) = L := List.take_of_length_le (by omega)
        rw [hDM]
        simp only [tL]
        have lk : (ks .i32 L).length = k' + 1 := by rw [ks_length]; exact hL
        simp (config := { maxSteps := 4000000 }) (disch := omega) only [step, stepv, ev, okW, onlyFr, Bool.false_and, Bool.true_and, sealw, wl, wn, wp, aop, cV, cV1, ↓reduceIte, Nat.reduceEqDiff, Nat.reduceAdd, Int.cast_ofNat_Int, if_true, if_false, AV.one, repCells, fillA, partCells, Nat.reduceLT, Nat.reduceLeDiff, Nat.reduceMul, Nat.reduceSub, Int.reduceLT, Int.reduceLE, Int.reduceAdd, Int.reduceSub, Int.reduceMul, Int.reduceToNat, sliceCells, cellsAt, srcA, app, reduceCtorEq, Int.reduceEq, Int.reduceNeg, Int.reducePow, Nat.reducePow, Int.reduceTDiv, Int.reduceDiv, Nat.reduceDiv, Nat.reduceMod, Int.reduceMod, Int.reduceTMod, ne_eq, subA, beq_iff_eq, unA, minA, maxA, eqFs, eqA1, beq_self_eq_true, Nat.reduceBEq]
        refine callQ.flat 2 hC' rfl ?_ ?_
        · simp [frzN, frzK, frzL, frzV, frzL_T _ (isTL_ks _ _), hL]
        by_cases h0 : clipN c x r L ≠ 0
        · simp only [if_pos h0]
          generalize clipN c x r L = e at *
          simp (config := { maxSteps := 4000000 }) (disch := omega) only [step, stepv, ev, okW, onlyFr, Bool.false_and, Bool.true_and, sealw, wl, wn, wp, aop, cV, cV1, ↓reduceIte, Nat.reduceEqDiff, Nat.reduceAdd, Int.cast_ofNat_Int, if_true, if_false, AV.one, repCells, fillA, partCells, Nat.reduceLT, Nat.reduceLeDiff, Nat.reduceMul, Nat.reduceSub, Int.reduceLT, Int.reduceLE, Int.reduceAdd, Int.reduceSub, Int.reduceMul, Int.reduceToNat, sliceCells, cellsAt, srcA, app, reduceCtorEq, Int.reduceEq, Int.reduceNeg, Int.reducePow, Nat.reducePow, Int.reduceTDiv, Int.reduceDiv, Nat.reduceDiv, Nat.reduceMod, Int.reduceMod, Int.reduceTMod, ne_eq, subA, beq_iff_eq, unA, minA, maxA, eqFs, eqA1, beq_self_eq_true, Nat.reduceBEq, resA, ht, oneOf]
          simp [frzN, frzK, frzL, frzV, readWA, clA, il, ks]
        · simp only [if_neg h0]
          have h0' : clipN c x r L = 0 := by omega
          rw [h0']
          simp (config := { maxSteps := 4000000 }) (disch := omega) only [step, stepv, ev, okW, onlyFr, Bool.false_and, Bool.true_and, sealw, wl, wn, wp, aop, cV, cV1, ↓reduceIte, Nat.reduceEqDiff, Nat.reduceAdd, Int.cast_ofNat_Int, if_true, if_false, AV.one, repCells, fillA, partCells, Nat.reduceLT, Nat.reduceLeDiff, Nat.reduceMul, Nat.reduceSub, Int.reduceLT, Int.reduceLE, Int.reduceAdd, Int.reduceSub, Int.reduceMul, Int.reduceToNat, sliceCells, cellsAt, srcA, app, reduceCtorEq, Int.reduceEq, Int.reduceNeg, Int.reducePow, Nat.reducePow, Int.reduceTDiv, Int.reduceDiv, Nat.reduceDiv, Nat.reduceMod, Int.reduceMod, Int.reduceTMod, ne_eq, subA, beq_iff_eq, unA, minA, maxA, eqFs, eqA1, beq_self_eq_true, Nat.reduceBEq, resA, ht, oneOf]
          simp [frzN, frzK, frzL, frzV, readWA, clA, il, frzL_T _ (isTL_ks _ _), hL]

end Go.Am

namespace Go.Am
open Go.RowKit

theorem readW_len {b : List UInt8} {c x r : Nat} {l : List Int} (h : readW b = .inr (c, x, r, l)) : l.length ≤ 1000000 := by
  unfold readW at h
  split at h
  · cases h
  · split at h
    · cases h
    split at h
    · cases h
    split at h
    · cases h
    split at h
    · cases h
    rename_i c' x' r' hs
    split at h
    · cases h
    split at h
    · cases h
    rename_i h4
    split at h
    · cases h
    cases h
    rw [smpL_length]
    have : ((x : Int) / 8).toNat = x / 8 := by omega
    rw [this]
    omega

set_option maxRecDepth 20000 in
theorem law33_WavReads {P : Prg} {f fL fR fS fT t0 : Nat} (bd : Body P f 36 [.tmp 2] (ac_cadenzalaw33_WavReads fL fR fS fT t0)) (hL : S_Long33 P fL) (hR : S_WavRead P fR) (hS : S_WavRead P fS) (hT : S_Same33 P fT) : S_True1 P f := by
  intro l
  refine VC.of_acall (by simp [isDL, isD_bs]) rfl (ACall.of_body bd (by simp) ?_)
  have e0 : (l == l) = true := by simp
  have hL' := hL l
  simp only [bs] at hL'
  simp (config := { maxSteps := 4000000 }) (disch := omega) only [step, stepv, ev, okW, onlyFr, Bool.false_and, Bool.true_and, sealw, wl, wn, wp, aop, cV, cV1, ↓reduceIte, Nat.reduceEqDiff, Nat.reduceAdd, Int.cast_ofNat_Int, if_true, if_false, AV.one, repCells, fillA, partCells, Nat.reduceLT, Nat.reduceLeDiff, Nat.reduceMul, Nat.reduceSub, Int.reduceLT, Int.reduceLE, Int.reduceAdd, Int.reduceSub, Int.reduceMul, Int.reduceToNat, sliceCells, cellsAt, srcA, app, reduceCtorEq, Int.reduceEq, Int.reduceNeg, Int.reducePow, Nat.reducePow, Int.reduceTDiv, Int.reduceDiv, Nat.reduceDiv, Nat.reduceMod, Int.reduceMod, Int.reduceTMod, ne_eq, subA, beq_iff_eq, unA, minA, maxA, eqFs, eqA1, beq_self_eq_true, Nat.reduceBEq, ac_cadenzalaw33_WavReads, bs]
  refine callQ.vc hL' ?_
  cases hlong : (decide (2000 < l.length) && decide (l.length < 11900) || decide (13000 < l.length)) with
  | true => simp (config := { maxSteps := 4000000 }) (disch := omega) only [step, stepv, ev, okW, onlyFr, Bool.false_and, Bool.true_and, sealw, wl, wn, wp, aop, cV, cV1, ↓reduceIte, Nat.reduceEqDiff, Nat.reduceAdd, Int.cast_ofNat_Int, if_true, if_false, AV.one, repCells, fillA, partCells, Nat.reduceLT, Nat.reduceLeDiff, Nat.reduceMul, Nat.reduceSub, Int.reduceLT, Int.reduceLE, Int.reduceAdd, Int.reduceSub, Int.reduceMul, Int.reduceToNat, sliceCells, cellsAt, srcA, app, reduceCtorEq, Int.reduceEq, Int.reduceNeg, Int.reducePow, Nat.reducePow, Int.reduceTDiv, Int.reduceDiv, Nat.reduceDiv, Nat.reduceMod, Int.reduceMod, Int.reduceTMod, ne_eq, subA, beq_iff_eq, unA, minA, maxA, eqFs, eqA1, beq_self_eq_true, Nat.reduceBEq]
  | false =>
    have hl : l.length < 140737488355328 := by simp at hlong; omega
    have hR' := hR l hl
    have hS' := hS l hl
    simp only [bs] at hR' hS'
    simp (config := { maxSteps := 4000000 }) (disch := omega) only [step, stepv, ev, okW, onlyFr, Bool.false_and, Bool.true_and, sealw, wl, wn, wp, aop, cV, cV1, ↓reduceIte, Nat.reduceEqDiff, Nat.reduceAdd, Int.cast_ofNat_Int, if_true, if_false, AV.one, repCells, fillA, partCells, Nat.reduceLT, Nat.reduceLeDiff, Nat.reduceMul, Nat.reduceSub, Int.reduceLT, Int.reduceLE, Int.reduceAdd, Int.reduceSub, Int.reduceMul, Int.reduceToNat, sliceCells, cellsAt, srcA, app, reduceCtorEq, Int.reduceEq, Int.reduceNeg, Int.reducePow, Nat.reducePow, Int.reduceTDiv, Int.reduceDiv, Nat.reduceDiv, Nat.reduceMod, Int.reduceMod, Int.reduceTMod, ne_eq, subA, beq_iff_eq, unA, minA, maxA, eqFs, eqA1, beq_self_eq_true, Nat.reduceBEq]
    refine callQ.vc hR' ?_
    cases hm : readW l with
    | inl e =>
      rw [hm] at hS'
      have hT' := hT 0 0 0 0 0 0 [] [] (by simp) (by simp)
      simp only [clA, il] at hT'
      simp (config := { maxSteps := 4000000 }) (disch := omega) only [step, stepv, ev, okW, onlyFr, Bool.false_and, Bool.true_and, sealw, wl, wn, wp, aop, cV, cV1, ↓reduceIte, Nat.reduceEqDiff, Nat.reduceAdd, Int.cast_ofNat_Int, if_true, if_false, AV.one, repCells, fillA, partCells, Nat.reduceLT, Nat.reduceLeDiff, Nat.reduceMul, Nat.reduceSub, Int.reduceLT, Int.reduceLE, Int.reduceAdd, Int.reduceSub, Int.reduceMul, Int.reduceToNat, sliceCells, cellsAt, srcA, app, reduceCtorEq, Int.reduceEq, Int.reduceNeg, Int.reducePow, Nat.reducePow, Int.reduceTDiv, Int.reduceDiv, Nat.reduceDiv, Nat.reduceMod, Int.reduceMod, Int.reduceTMod, ne_eq, subA, beq_iff_eq, unA, minA, maxA, eqFs, eqA1, beq_self_eq_true, Nat.reduceBEq, readWA, clA, il]
      refine callQ.vc hS' ?_
      simp (config := { maxSteps := 4000000 }) (disch := omega) only [step, stepv, ev, okW, onlyFr, Bool.false_and, Bool.true_and, sealw, wl, wn, wp, aop, cV, cV1, ↓reduceIte, Nat.reduceEqDiff, Nat.reduceAdd, Int.cast_ofNat_Int, if_true, if_false, AV.one, repCells, fillA, partCells, Nat.reduceLT, Nat.reduceLeDiff, Nat.reduceMul, Nat.reduceSub, Int.reduceLT, Int.reduceLE, Int.reduceAdd, Int.reduceSub, Int.reduceMul, Int.reduceToNat, sliceCells, cellsAt, srcA, app, reduceCtorEq, Int.reduceEq, Int.reduceNeg, Int.reducePow, Nat.reducePow, Int.reduceTDiv, Int.reduceDiv, Nat.reduceDiv, Nat.reduceMod, Int.reduceMod, Int.reduceTMod, ne_eq, subA, beq_iff_eq, unA, minA, maxA, eqFs, eqA1, beq_self_eq_true, Nat.reduceBEq, readWA, clA, il]
      refine callQ.vc hT' ?_
      simp (config := { maxSteps := 4000000 }) (disch := omega) only [step, stepv, ev, okW, onlyFr, Bool.false_and, Bool.true_and, sealw, wl, wn, wp, aop, cV, cV1, ↓reduceIte, Nat.reduceEqDiff, Nat.reduceAdd, Int.cast_ofNat_Int, if_true, if_false, AV.one, repCells, fillA, partCells, Nat.reduceLT, Nat.reduceLeDiff, Nat.reduceMul, Nat.reduceSub, Int.reduceLT, Int.reduceLE, Int.reduceAdd, Int.reduceSub, Int.reduceMul, Int.reduceToNat, sliceCells, cellsAt, srcA, app, reduceCtorEq, Int.reduceEq, Int.reduceNeg, Int.reducePow, Nat.reducePow, Int.reduceTDiv, Int.reduceDiv, Nat.reduceDiv, Nat.reduceMod, Int.reduceMod, Int.reduceTMod, ne_eq, subA, beq_iff_eq, unA, minA, maxA, eqFs, eqA1, beq_self_eq_true, Nat.reduceBEq, strA, e0]
    | inr p =>
      obtain ⟨c, x, r, s⟩ := p
      have h20 := readW_len hm
      rw [hm] at hS'
      have hT' := hT c x r c x r s s h20 h20
      rw [show decide ((c : Int) = c ∧ (x : Int) = x ∧ (r : Int) = r ∧ s = s) = true by simp] at hT'
      simp only [clA, il] at hT'
      simp (config := { maxSteps := 4000000 }) (disch := omega) only [step, stepv, ev, okW, onlyFr, Bool.false_and, Bool.true_and, sealw, wl, wn, wp, aop, cV, cV1, ↓reduceIte, Nat.reduceEqDiff, Nat.reduceAdd, Int.cast_ofNat_Int, if_true, if_false, AV.one, repCells, fillA, partCells, Nat.reduceLT, Nat.reduceLeDiff, Nat.reduceMul, Nat.reduceSub, Int.reduceLT, Int.reduceLE, Int.reduceAdd, Int.reduceSub, Int.reduceMul, Int.reduceToNat, sliceCells, cellsAt, srcA, app, reduceCtorEq, Int.reduceEq, Int.reduceNeg, Int.reducePow, Nat.reducePow, Int.reduceTDiv, Int.reduceDiv, Nat.reduceDiv, Nat.reduceMod, Int.reduceMod, Int.reduceTMod, ne_eq, subA, beq_iff_eq, unA, minA, maxA, eqFs, eqA1, beq_self_eq_true, Nat.reduceBEq, readWA, clA, il]
      refine callQ.vc hS' ?_
      simp (config := { maxSteps := 4000000 }) (disch := omega) only [step, stepv, ev, okW, onlyFr, Bool.false_and, Bool.true_and, sealw, wl, wn, wp, aop, cV, cV1, ↓reduceIte, Nat.reduceEqDiff, Nat.reduceAdd, Int.cast_ofNat_Int, if_true, if_false, AV.one, repCells, fillA, partCells, Nat.reduceLT, Nat.reduceLeDiff, Nat.reduceMul, Nat.reduceSub, Int.reduceLT, Int.reduceLE, Int.reduceAdd, Int.reduceSub, Int.reduceMul, Int.reduceToNat, sliceCells, cellsAt, srcA, app, reduceCtorEq, Int.reduceEq, Int.reduceNeg, Int.reducePow, Nat.reducePow, Int.reduceTDiv, Int.reduceDiv, Nat.reduceDiv, Nat.reduceMod, Int.reduceMod, Int.reduceTMod, ne_eq, subA, beq_iff_eq, unA, minA, maxA, eqFs, eqA1, beq_self_eq_true, Nat.reduceBEq, readWA, clA, il]
      refine callQ.vc hT' ?_
      simp (config := { maxSteps := 4000000 }) (disch := omega) only [step, stepv, ev, okW, onlyFr, Bool.false_and, Bool.true_and, sealw, wl, wn, wp, aop, cV, cV1, ↓reduceIte, Nat.reduceEqDiff, Nat.reduceAdd, Int.cast_ofNat_Int, if_true, if_false, AV.one, repCells, fillA, partCells, Nat.reduceLT, Nat.reduceLeDiff, Nat.reduceMul, Nat.reduceSub, Int.reduceLT, Int.reduceLE, Int.reduceAdd, Int.reduceSub, Int.reduceMul, Int.reduceToNat, sliceCells, cellsAt, srcA, app, reduceCtorEq, Int.reduceEq, Int.reduceNeg, Int.reducePow, Nat.reducePow, Int.reduceTDiv, Int.reduceDiv, Nat.reduceDiv, Nat.reduceMod, Int.reduceMod, Int.reduceTMod, ne_eq, subA, beq_iff_eq, unA, minA, maxA, eqFs, eqA1, beq_self_eq_true, Nat.reduceBEq, strA, e0]

end Go.Am

namespace Go.Am
open Go.RowKit

theorem flatten_one {α : Type} (f : α → AV) : ∀ l : List α, (l.map fun x => [f x]).flatten = l.map f
  | [] => rfl
  | x :: l => by simp [flatten_one f l]

theorem fits_u8s {L : List (List AV)} (h : ∀ c ∈ L, Fits (.int .u8) c) : ∃ l : List UInt8, L.length = l.length ∧ AV.list L.length L.flatten = bs l := by
  obtain ⟨l, rfl, _⟩ := map_of_all (f := fun b : UInt8 => [AV.int .u8 b.toNat]) (q := fun _ => True) h (fun c hc => by
    simp only [Fits] at hc
    obtain ⟨n, rfl, h1, h2⟩ := hc
    simp only [IntKind.min, IntKind.max, IntKind.signed, IntKind.bits] at h1 h2
    refine ⟨UInt8.ofNat n.toNat, ?_, trivial⟩
    simp at h1 h2
    simp; omega)
  exact ⟨l, by simp, by simp [bs, u8, flatten_one]⟩

theorem fits_ints {K : IntKind} {L : List (List AV)} (h : ∀ c ∈ L, Fits (.int K) c) : ∃ l : List Int, L.length = l.length ∧ AV.list L.length L.flatten = .list l.length (ks K l) ∧ ∀ x ∈ l, K.min ≤ x ∧ x ≤ K.max := by
  obtain ⟨l, rfl, h2⟩ := map_of_all (f := fun n : Int => [AV.int K n]) (q := fun x => K.min ≤ x ∧ x ≤ K.max) h (fun c hc => by
    simp only [Fits] at hc
    obtain ⟨n, rfl, h1, h2⟩ := hc
    exact ⟨n, rfl, h1, h2⟩)
  exact ⟨l, by simp, by simp [ks, flatten_one], h2⟩

def isStr (P : Program) (t : TypeId) : Bool := match P.underlying t with | some (.struct _) => true | _ => false
def isArr (P : Program) (t : TypeId) : Bool := match P.underlying t with | some (.array _ _) => true | _ => false
def isSl (P : Program) (t : TypeId) : Bool := match P.underlying t with | some (.slice _) => true | _ => false
theorem isStr_eq {P : Program} {t : TypeId} (h : isStr P t = true) : ∃ fs, P.underlying t = some (.struct fs) := by
  unfold isStr at h; split at h
  · exact ⟨_, by assumption⟩
  · cases h
theorem isArr_eq {P : Program} {t : TypeId} (h : isArr P t = true) : ∃ n e, P.underlying t = some (.array n e) := by
  unfold isArr at h; split at h
  · exact ⟨_, _, by assumption⟩
  · cases h
theorem isSl_eq {P : Program} {t : TypeId} (h : isSl P t = true) : ∃ e, P.underlying t = some (.slice e) := by
  unfold isSl at h; split at h
  · exact ⟨_, by assumption⟩
  · cases h

end Go.Am
