/- What the functions that the law reaches return, for every program that has their code; the conditions stand in each statement. -/
import Derived.Test.YtjkgohbljmmmdaaDoorWavNamesL2
set_option linter.unusedSectionVars false
set_option linter.unusedSimpArgs false
set_option linter.unusedVariables false
namespace Go.Am
open Go.RowKit

def smpN (b x : Int) : Nat := (if b = 8 then x + 128 else if x < 0 then x + 2 * half b else x).toNat
def smpE (b x : Int) : List UInt8 := leB (smpN b x) (b / 8).toNat
def smpB (b : Int) (l : List Int) : List UInt8 := l.flatMap (smpE b)

def S_WBytes (P : Prg) (f : Nat) : Prop := ∀ (b : Int) (l : List Int), I32 l → VC P f [.int .i64 b, il l] (if checkN b l ≠ 0 then .tup [.list 0 [], .int .i64 (checkN b l)] else .tup [bs (smpB b l), .int .i64 0])

theorem smpE_length (b x : Int) : (smpE b x).length = (b / 8).toNat := leB_length _ _
theorem smpB_length (b : Int) : ∀ l : List Int, (smpB b l).length = l.length * (b / 8).toNat
  | [] => by simp [smpB]
  | x :: l => by
    have := smpB_length b l
    simp only [smpB, List.flatMap_cons, List.length_append, smpE_length, List.length_cons] at this ⊢
    rw [this, Nat.add_mul]; omega
theorem smpB_take {b : Int} {l : List Int} {k : Nat} (h : k < l.length) : smpB b (l.take (k + 1)) = smpB b (l.take k) ++ smpE b l[k] := by
  simp only [smpB]
  rw [List.take_succ_eq_append_getElem h, List.flatMap_append]; simp

theorem inR_of {b : Int} {l : List Int} (h : checkN b l = 0) {k : Nat} (hk : k < l.length) : -half b ≤ l[k] ∧ l[k] < half b := by
  unfold checkN at h
  split at h
  · omega
  split at h
  · omega
  split at h
  · rename_i h2
    have := List.all_eq_true.1 h2 _ (List.getElem_mem hk)
    simp [inR] at this
    exact this
  · omega

theorem check_len {b : Int} {l : List Int} (h : checkN b l = 0) : l.length ≤ 4000 ∧ half b ≠ 0 := by
  unfold checkN at h
  split at h
  · omega
  rename_i h0
  split at h
  · omega
  · exact ⟨by omega, h0⟩

theorem u8_ofNat {n : Nat} (h : n < 256) : (UInt8.ofNat n).toNat = n := by simp; omega

theorem smpE8 {x : Int} (h1 : -128 ≤ x) (h2 : x < 128) : u8 (smpE 8 x) = [.int .u8 (x + 128)] := by
  have e : (8 : Int) / 8 = 1 := rfl
  simp only [smpE, smpN, if_true, e, Int.toNat_one, leB, u8_cons, u8_nil]
  rw [u8_ofNat (by omega)]
  have : (((x + 128).toNat % 256 : Nat) : Int) = x + 128 := by omega
  rw [this]
theorem smpE16 {x : Int} (h1 : -32768 ≤ x) (h2 : x < 32768) : u8 (smpE 16 x) = [.int .u8 (x % 256), .int .u8 (x / 256 % 256)] := by
  have e : ((16 : Int) / 8).toNat = 2 := rfl
  have e2 : half 16 = 32768 := rfl
  simp only [smpE, smpN, e, e2, leB, u8_cons, u8_nil]
  rw [u8_ofNat (by omega), u8_ofNat (by omega), if_neg (by decide)]
  generalize hq : (if x < 0 then x + 2 * 32768 else x).toNat = n
  have h3 : (n : Int) = if x < 0 then x + 65536 else x := by rw [← hq]; split <;> omega
  have a1 : ((n % 256 : Nat) : Int) = x % 256 := by split at h3 <;> omega
  have a2 : ((n / 256 % 256 : Nat) : Int) = x / 256 % 256 := by split at h3 <;> omega
  rw [a1, a2]
theorem smpE24 {x : Int} (h1 : -8388608 ≤ x) (h2 : x < 8388608) : u8 (smpE 24 x) = [.int .u8 (x % 256), .int .u8 (x / 256 % 256), .int .u8 (x / 65536 % 256)] := by
  have e : ((24 : Int) / 8).toNat = 3 := rfl
  have e2 : half 24 = 8388608 := rfl
  simp only [smpE, smpN, e, e2, leB, u8_cons, u8_nil]
  rw [u8_ofNat (by omega), u8_ofNat (by omega), u8_ofNat (by omega), if_neg (by decide)]
  generalize hq : (if x < 0 then x + 2 * 8388608 else x).toNat = n
  have h3 : (n : Int) = if x < 0 then x + 16777216 else x := by rw [← hq]; split <;> omega
  have a1 : ((n % 256 : Nat) : Int) = x % 256 := by split at h3 <;> omega
  have a2 : ((n / 256 % 256 : Nat) : Int) = x / 256 % 256 := by split at h3 <;> omega
  have a3 : ((n / 256 / 256 % 256 : Nat) : Int) = x / 65536 % 256 := by split at h3 <;> omega
  rw [a1, a2, a3]

set_option maxRecDepth 20000 in
set_option maxHeartbeats 2000000 in
theorem width_Bytes {P : Prg} {f fC t0 : Nat} (bd : Body P f 43 [.tmp 4, .tmp 5] (ac_width_Bytes fC t0)) (hC : S_WCheck P fC) : S_WBytes P f := by
  intro b l hI
  have hC' := hC b l hI
  refine VC.of_walk 1 (by simp [isDL, isD, isD_il]) (by split <;> simp [isD, isDL, isD_bs]) (ACall.of_body bd (by simp) ?_)
  by_cases h0 : checkN b l ≠ 0
  · rw [if_pos h0]
    rw [il] at hC'
    simp (config := { maxSteps := 4000000 }) (disch := omega) only [step, stepv, ev, okW, onlyFr, Bool.false_and, Bool.true_and, sealw, wl, wn, wp, aop, cV, cV1, ↓reduceIte, Nat.reduceEqDiff, Nat.reduceAdd, Int.cast_ofNat_Int, if_true, if_false, AV.one, repCells, fillA, partCells, Nat.reduceLT, Nat.reduceLeDiff, Nat.reduceMul, Nat.reduceSub, Int.reduceLT, Int.reduceLE, Int.reduceAdd, Int.reduceSub, Int.reduceMul, Int.reduceToNat, sliceCells, cellsAt, srcA, app, reduceCtorEq, Int.reduceEq, Int.reduceNeg, Int.reducePow, Nat.reducePow, Int.reduceTDiv, Int.reduceDiv, Nat.reduceDiv, Nat.reduceMod, Int.reduceMod, Int.reduceTMod, ne_eq, subA, beq_iff_eq, unA, minA, maxA, eqFs, eqA1, beq_self_eq_true, Nat.reduceBEq, ac_width_Bytes, il]
    refine callQ.vc hC' ?_
    simp (config := { maxSteps := 4000000 }) (disch := omega) only [step, stepv, ev, okW, onlyFr, Bool.false_and, Bool.true_and, sealw, wl, wn, wp, aop, cV, cV1, ↓reduceIte, Nat.reduceEqDiff, Nat.reduceAdd, Int.cast_ofNat_Int, if_true, if_false, AV.one, repCells, fillA, partCells, Nat.reduceLT, Nat.reduceLeDiff, Nat.reduceMul, Nat.reduceSub, Int.reduceLT, Int.reduceLE, Int.reduceAdd, Int.reduceSub, Int.reduceMul, Int.reduceToNat, sliceCells, cellsAt, srcA, app, reduceCtorEq, Int.reduceEq, Int.reduceNeg, Int.reducePow, Nat.reducePow, Int.reduceTDiv, Int.reduceDiv, Nat.reduceDiv, Nat.reduceMod, Int.reduceMod, Int.reduceTMod, ne_eq, subA, beq_iff_eq, unA, minA, maxA, eqFs, eqA1, beq_self_eq_true, Nat.reduceBEq]
    simp [frzN, frzK, frzL, frzV]
  rw [if_neg h0]
  have h0' : checkN b l = 0 := by omega
  rw [h0', il] at hC'
  obtain ⟨h4, hh⟩ := check_len h0'
  have hin := fun k hk => @inR_of b l h0' k hk
  have hS := fun k => @smpB_take b l k
  have hB := fun k => smpB_length b (l.take k)
  have hB0 := smpB_length b l
  have hk0 := ks_length .i32 l
  rcases half_cases b with ⟨rfl, h⟩ | ⟨rfl, h⟩ | ⟨rfl, h⟩ | ⟨h1, h2, h3, h⟩
  case inr.inr.inr => omega
  · have hw : ((8 : Int) / 8).toNat = 1 := rfl
    simp only [hw] at hB hB0
    rw [h] at hin
    simp (config := { maxSteps := 4000000 }) (disch := omega) only [step, stepv, ev, okW, onlyFr, Bool.false_and, Bool.true_and, sealw, wl, wn, wp, aop, cV, cV1, ↓reduceIte, Nat.reduceEqDiff, Nat.reduceAdd, Int.cast_ofNat_Int, if_true, if_false, AV.one, repCells, fillA, partCells, Nat.reduceLT, Nat.reduceLeDiff, Nat.reduceMul, Nat.reduceSub, Int.reduceLT, Int.reduceLE, Int.reduceAdd, Int.reduceSub, Int.reduceMul, Int.reduceToNat, sliceCells, cellsAt, srcA, app, reduceCtorEq, Int.reduceEq, Int.reduceNeg, Int.reducePow, Nat.reducePow, Int.reduceTDiv, Int.reduceDiv, Nat.reduceDiv, Nat.reduceMod, Int.reduceMod, Int.reduceTMod, ne_eq, subA, beq_iff_eq, unA, minA, maxA, eqFs, eqA1, beq_self_eq_true, Nat.reduceBEq, ac_width_Bytes, il]
    refine callQ.vc hC' ?_
    simp (config := { maxSteps := 4000000 }) (disch := omega) only [step, stepv, ev, okW, onlyFr, Bool.false_and, Bool.true_and, sealw, wl, wn, wp, aop, cV, cV1, ↓reduceIte, Nat.reduceEqDiff, Nat.reduceAdd, Int.cast_ofNat_Int, if_true, if_false, AV.one, repCells, fillA, partCells, Nat.reduceLT, Nat.reduceLeDiff, Nat.reduceMul, Nat.reduceSub, Int.reduceLT, Int.reduceLE, Int.reduceAdd, Int.reduceSub, Int.reduceMul, Int.reduceToNat, sliceCells, cellsAt, srcA, app, reduceCtorEq, Int.reduceEq, Int.reduceNeg, Int.reducePow, Nat.reducePow, Int.reduceTDiv, Int.reduceDiv, Nat.reduceDiv, Nat.reduceMod, Int.reduceMod, Int.reduceTMod, ne_eq, subA, beq_iff_eq, unA, minA, maxA, eqFs, eqA1, beq_self_eq_true, Nat.reduceBEq]
    refine ALoop.by (ι := Nat) (fun k => ⟨[(19, .int .i64 k), (18, .int .i64 l.length), (17, .list l.length (ks .i32 l)), (7, .own 0 (smpB 8 (l.take k)).length), (0, .int .i64 8), (1, .list l.length (ks .i32 l))], [⟨t0, 1, (smpB 8 (l.take k)).length, u8 (smpB 8 (l.take k)), 0⟩]⟩) (fun k => k ≤ l.length) (fun k => l.length - k) 0 (Le.trans (Le.virt 7 t0 1 (by omega) rfl) (Le.slots (by simp [Am.look, smpB]))) (by omega) ?_
    intro k hk
    have hBk := hB k
    rw [List.length_take, Nat.min_eq_left hk] at hBk
    by_cases hlt : k < l.length
    · have e1 := drop_ks (K := .i32) hlt
      obtain ⟨i1, i2⟩ := hin k hlt
      have eT := hS k hlt
      have eE := smpE8 (x := l[k]) (by omega) (by omega)
      have eL := hB (k + 1)
      rw [List.length_take, Nat.min_eq_left (by omega : k + 1 ≤ l.length)] at eL
      generalize l[k] = x at *
      generalize hp : smpB 8 (l.take k) = pre at *
      generalize hp2 : smpB 8 (l.take (k + 1)) = pre2 at *
      have eU : u8 pre2 = u8 pre ++ [.int .u8 (x + 128)] := by rw [eT, ← u8_append, eE]
      have lp := u8_length pre
      simp (config := { maxSteps := 4000000 }) (disch := omega) only [step, stepv, ev, okW, onlyFr, Bool.false_and, Bool.true_and, sealw, wl, wn, wp, aop, cV, cV1, ↓reduceIte, Nat.reduceEqDiff, Nat.reduceAdd, Int.cast_ofNat_Int, if_true, if_false, AV.one, repCells, fillA, partCells, Nat.reduceLT, Nat.reduceLeDiff, Nat.reduceMul, Nat.reduceSub, Int.reduceLT, Int.reduceLE, Int.reduceAdd, Int.reduceSub, Int.reduceMul, Int.reduceToNat, sliceCells, cellsAt, srcA, app, reduceCtorEq, Int.reduceEq, Int.reduceNeg, Int.reducePow, Nat.reducePow, Int.reduceTDiv, Int.reduceDiv, Nat.reduceDiv, Nat.reduceMod, Int.reduceMod, Int.reduceTMod, ne_eq, subA, beq_iff_eq, unA, minA, maxA, eqFs, eqA1, beq_self_eq_true, Nat.reduceBEq, e1, hk0]
      refine ALoop.by (ι := Nat) (fun j => ⟨[(29, .int .i64 j), (28, .int .i64 1), (9, .int .i32 (x + 128)), (7, .own 0 (pre.length + j)), (19, .int .i64 k), (18, .int .i64 l.length), (17, .list l.length (ks .i32 l)), (0, .int .i64 8), (1, .list l.length (ks .i32 l))], [⟨t0, 1, pre.length + j, (match j with | 0 => u8 pre | _ => u8 pre ++ [.int .u8 (x + 128)]), 0⟩]⟩) (fun j => j ≤ 1) (fun j => 1 - j) 0 (Le.slots (by simp [Am.look])) (by omega) ?_
      intro j hj
      have s0 : shiftA false .i32 (x + 128) 0 = some (.int .i32 (x + 128)) := by simp [shiftA, Int.fdiv_one]
      have hj3 : j = 0 ∨ j = 1 := by omega
      rcases hj3 with rfl | rfl
      · simp (config := { maxSteps := 4000000 }) (disch := omega) only [step, stepv, ev, okW, onlyFr, Bool.false_and, Bool.true_and, sealw, wl, wn, wp, aop, cV, cV1, ↓reduceIte, Nat.reduceEqDiff, Nat.reduceAdd, Int.cast_ofNat_Int, if_true, if_false, AV.one, repCells, fillA, partCells, Nat.reduceLT, Nat.reduceLeDiff, Nat.reduceMul, Nat.reduceSub, Int.reduceLT, Int.reduceLE, Int.reduceAdd, Int.reduceSub, Int.reduceMul, Int.reduceToNat, sliceCells, cellsAt, srcA, app, reduceCtorEq, Int.reduceEq, Int.reduceNeg, Int.reducePow, Nat.reducePow, Int.reduceTDiv, Int.reduceDiv, Nat.reduceDiv, Nat.reduceMod, Int.reduceMod, Int.reduceTMod, ne_eq, subA, beq_iff_eq, unA, minA, maxA, eqFs, eqA1, beq_self_eq_true, Nat.reduceBEq, s0, lp, List.append_assoc]
        exact ⟨1, by omega, by omega, Le.dropT [_] (by simp [isTL_append, isT_u8, isTL, isT]) (by simp [Am.look, frzK, frzL, frzV, frzL_T _ (isTL_ks _ _)])⟩
      · simp (config := { maxSteps := 4000000 }) (disch := omega) only [step, stepv, ev, okW, onlyFr, Bool.false_and, Bool.true_and, sealw, wl, wn, wp, aop, cV, cV1, ↓reduceIte, Nat.reduceEqDiff, Nat.reduceAdd, Int.cast_ofNat_Int, if_true, if_false, AV.one, repCells, fillA, partCells, Nat.reduceLT, Nat.reduceLeDiff, Nat.reduceMul, Nat.reduceSub, Int.reduceLT, Int.reduceLE, Int.reduceAdd, Int.reduceSub, Int.reduceMul, Int.reduceToNat, sliceCells, cellsAt, srcA, app, reduceCtorEq, Int.reduceEq, Int.reduceNeg, Int.reducePow, Nat.reducePow, Int.reduceTDiv, Int.reduceDiv, Nat.reduceDiv, Nat.reduceMod, Int.reduceMod, Int.reduceTMod, ne_eq, subA, beq_iff_eq, unA, minA, maxA, eqFs, eqA1, beq_self_eq_true, Nat.reduceBEq]
        rw [← eU, show pre.length + 1 = pre2.length by omega]
        refine ⟨k + 1, by omega, by omega, ?_⟩
        rw [hp2]
        exact Le.slots (by simp [Am.look])
    · have ek : k = l.length := by omega
      subst ek
      rw [List.take_length]
      simp (config := { maxSteps := 4000000 }) (disch := omega) only [step, stepv, ev, okW, onlyFr, Bool.false_and, Bool.true_and, sealw, wl, wn, wp, aop, cV, cV1, ↓reduceIte, Nat.reduceEqDiff, Nat.reduceAdd, Int.cast_ofNat_Int, if_true, if_false, AV.one, repCells, fillA, partCells, Nat.reduceLT, Nat.reduceLeDiff, Nat.reduceMul, Nat.reduceSub, Int.reduceLT, Int.reduceLE, Int.reduceAdd, Int.reduceSub, Int.reduceMul, Int.reduceToNat, sliceCells, cellsAt, srcA, app, reduceCtorEq, Int.reduceEq, Int.reduceNeg, Int.reducePow, Nat.reducePow, Int.reduceTDiv, Int.reduceDiv, Nat.reduceDiv, Nat.reduceMod, Int.reduceMod, Int.reduceTMod, ne_eq, subA, beq_iff_eq, unA, minA, maxA, eqFs, eqA1, beq_self_eq_true, Nat.reduceBEq, hk0]
      simp [frzN, frzK, frzL, frzV, frzL_T _ (isT_u8 _), bs]
  · have hw : ((16 : Int) / 8).toNat = 2 := rfl
    simp only [hw] at hB hB0
    rw [h] at hin
    simp (config := { maxSteps := 4000000 }) (disch := omega) only [step, stepv, ev, okW, onlyFr, Bool.false_and, Bool.true_and, sealw, wl, wn, wp, aop, cV, cV1, ↓reduceIte, Nat.reduceEqDiff, Nat.reduceAdd, Int.cast_ofNat_Int, if_true, if_false, AV.one, repCells, fillA, partCells, Nat.reduceLT, Nat.reduceLeDiff, Nat.reduceMul, Nat.reduceSub, Int.reduceLT, Int.reduceLE, Int.reduceAdd, Int.reduceSub, Int.reduceMul, Int.reduceToNat, sliceCells, cellsAt, srcA, app, reduceCtorEq, Int.reduceEq, Int.reduceNeg, Int.reducePow, Nat.reducePow, Int.reduceTDiv, Int.reduceDiv, Nat.reduceDiv, Nat.reduceMod, Int.reduceMod, Int.reduceTMod, ne_eq, subA, beq_iff_eq, unA, minA, maxA, eqFs, eqA1, beq_self_eq_true, Nat.reduceBEq, ac_width_Bytes, il]
    refine callQ.vc hC' ?_
    simp (config := { maxSteps := 4000000 }) (disch := omega) only [step, stepv, ev, okW, onlyFr, Bool.false_and, Bool.true_and, sealw, wl, wn, wp, aop, cV, cV1, ↓reduceIte, Nat.reduceEqDiff, Nat.reduceAdd, Int.cast_ofNat_Int, if_true, if_false, AV.one, repCells, fillA, partCells, Nat.reduceLT, Nat.reduceLeDiff, Nat.reduceMul, Nat.reduceSub, Int.reduceLT, Int.reduceLE, Int.reduceAdd, Int.reduceSub, Int.reduceMul, Int.reduceToNat, sliceCells, cellsAt, srcA, app, reduceCtorEq, Int.reduceEq, Int.reduceNeg, Int.reducePow, Nat.reducePow, Int.reduceTDiv, Int.reduceDiv, Nat.reduceDiv, Nat.reduceMod, Int.reduceMod, Int.reduceTMod, ne_eq, subA, beq_iff_eq, unA, minA, maxA, eqFs, eqA1, beq_self_eq_true, Nat.reduceBEq]
    refine ALoop.by (ι := Nat) (fun k => ⟨[(19, .int .i64 k), (18, .int .i64 l.length), (17, .list l.length (ks .i32 l)), (7, .own 0 (smpB 16 (l.take k)).length), (0, .int .i64 16), (1, .list l.length (ks .i32 l))], [⟨t0, 1, (smpB 16 (l.take k)).length, u8 (smpB 16 (l.take k)), 0⟩]⟩) (fun k => k ≤ l.length) (fun k => l.length - k) 0 (Le.trans (Le.virt 7 t0 1 (by omega) rfl) (Le.slots (by simp [Am.look, smpB]))) (by omega) ?_
    intro k hk
    have hBk := hB k
    rw [List.length_take, Nat.min_eq_left hk] at hBk
    by_cases hlt : k < l.length
    · have e1 := drop_ks (K := .i32) hlt
      obtain ⟨i1, i2⟩ := hin k hlt
      have eT := hS k hlt
      have eE := smpE16 (x := l[k]) (by omega) (by omega)
      have eL := hB (k + 1)
      rw [List.length_take, Nat.min_eq_left (by omega : k + 1 ≤ l.length)] at eL
      generalize l[k] = x at *
      generalize hp : smpB 16 (l.take k) = pre at *
      generalize hp2 : smpB 16 (l.take (k + 1)) = pre2 at *
      have eU : u8 pre2 = u8 pre ++ [.int .u8 (x % 256), .int .u8 (x / 256 % 256)] := by rw [eT, ← u8_append, eE]
      have lp := u8_length pre
      simp (config := { maxSteps := 4000000 }) (disch := omega) only [step, stepv, ev, okW, onlyFr, Bool.false_and, Bool.true_and, sealw, wl, wn, wp, aop, cV, cV1, ↓reduceIte, Nat.reduceEqDiff, Nat.reduceAdd, Int.cast_ofNat_Int, if_true, if_false, AV.one, repCells, fillA, partCells, Nat.reduceLT, Nat.reduceLeDiff, Nat.reduceMul, Nat.reduceSub, Int.reduceLT, Int.reduceLE, Int.reduceAdd, Int.reduceSub, Int.reduceMul, Int.reduceToNat, sliceCells, cellsAt, srcA, app, reduceCtorEq, Int.reduceEq, Int.reduceNeg, Int.reducePow, Nat.reducePow, Int.reduceTDiv, Int.reduceDiv, Nat.reduceDiv, Nat.reduceMod, Int.reduceMod, Int.reduceTMod, ne_eq, subA, beq_iff_eq, unA, minA, maxA, eqFs, eqA1, beq_self_eq_true, Nat.reduceBEq, e1, hk0]
      refine ALoop.by (ι := Nat) (fun j => ⟨[(29, .int .i64 j), (28, .int .i64 2), (9, .int .i32 (x)), (7, .own 0 (pre.length + j)), (19, .int .i64 k), (18, .int .i64 l.length), (17, .list l.length (ks .i32 l)), (0, .int .i64 16), (1, .list l.length (ks .i32 l))], [⟨t0, 1, pre.length + j, (match j with | 0 => u8 pre | 1 => u8 pre ++ [.int .u8 (x % 256)] | _ => u8 pre ++ [.int .u8 (x % 256), .int .u8 (x / 256 % 256)]), 0⟩]⟩) (fun j => j ≤ 2) (fun j => 2 - j) 0 (Le.slots (by simp [Am.look])) (by omega) ?_
      intro j hj
      have s0 : shiftA false .i32 x 0 = some (.int .i32 x) := by simp [shiftA, Int.fdiv_one]
      have s1 : shiftA false .i32 x 8 = some (.int .i32 (x / 256)) := by simp [shiftA, IntKind.bits, Int.fdiv_eq_ediv_of_nonneg]
      have s2 : shiftA false .i32 x 16 = some (.int .i32 (x / 65536)) := by simp [shiftA, IntKind.bits, Int.fdiv_eq_ediv_of_nonneg]
      have w0 := wrap_u8_mod x
      have w1 := wrap_u8_mod (x / 256)
      have w2 := wrap_u8_mod (x / 65536)
      have hj3 : j = 0 ∨ j = 1 ∨ j = 2 := by omega
      rcases hj3 with rfl | rfl | rfl
      · simp (config := { maxSteps := 4000000 }) (disch := omega) only [step, stepv, ev, okW, onlyFr, Bool.false_and, Bool.true_and, sealw, wl, wn, wp, aop, cV, cV1, ↓reduceIte, Nat.reduceEqDiff, Nat.reduceAdd, Int.cast_ofNat_Int, if_true, if_false, AV.one, repCells, fillA, partCells, Nat.reduceLT, Nat.reduceLeDiff, Nat.reduceMul, Nat.reduceSub, Int.reduceLT, Int.reduceLE, Int.reduceAdd, Int.reduceSub, Int.reduceMul, Int.reduceToNat, sliceCells, cellsAt, srcA, app, reduceCtorEq, Int.reduceEq, Int.reduceNeg, Int.reducePow, Nat.reducePow, Int.reduceTDiv, Int.reduceDiv, Nat.reduceDiv, Nat.reduceMod, Int.reduceMod, Int.reduceTMod, ne_eq, subA, beq_iff_eq, unA, minA, maxA, eqFs, eqA1, beq_self_eq_true, Nat.reduceBEq, s0, s1, s2, w0, w1, w2, lp, List.append_assoc]
        exact ⟨1, by omega, by omega, Le.dropT [_] (by simp [isTL_append, isT_u8, isTL, isT]) (by simp [Am.look, frzK, frzL, frzV, frzL_T _ (isTL_ks _ _)])⟩
      · simp (config := { maxSteps := 4000000 }) (disch := omega) only [step, stepv, ev, okW, onlyFr, Bool.false_and, Bool.true_and, sealw, wl, wn, wp, aop, cV, cV1, ↓reduceIte, Nat.reduceEqDiff, Nat.reduceAdd, Int.cast_ofNat_Int, if_true, if_false, AV.one, repCells, fillA, partCells, Nat.reduceLT, Nat.reduceLeDiff, Nat.reduceMul, Nat.reduceSub, Int.reduceLT, Int.reduceLE, Int.reduceAdd, Int.reduceSub, Int.reduceMul, Int.reduceToNat, sliceCells, cellsAt, srcA, app, reduceCtorEq, Int.reduceEq, Int.reduceNeg, Int.reducePow, Nat.reducePow, Int.reduceTDiv, Int.reduceDiv, Nat.reduceDiv, Nat.reduceMod, Int.reduceMod, Int.reduceTMod, ne_eq, subA, beq_iff_eq, unA, minA, maxA, eqFs, eqA1, beq_self_eq_true, Nat.reduceBEq, s0, s1, s2, w0, w1, w2, lp, List.append_assoc]
        exact ⟨2, by omega, by omega, Le.dropT [_] (by simp [isTL_append, isT_u8, isTL, isT]) (by simp [Am.look, frzK, frzL, frzV, frzL_T _ (isTL_ks _ _)])⟩
      · simp (config := { maxSteps := 4000000 }) (disch := omega) only [step, stepv, ev, okW, onlyFr, Bool.false_and, Bool.true_and, sealw, wl, wn, wp, aop, cV, cV1, ↓reduceIte, Nat.reduceEqDiff, Nat.reduceAdd, Int.cast_ofNat_Int, if_true, if_false, AV.one, repCells, fillA, partCells, Nat.reduceLT, Nat.reduceLeDiff, Nat.reduceMul, Nat.reduceSub, Int.reduceLT, Int.reduceLE, Int.reduceAdd, Int.reduceSub, Int.reduceMul, Int.reduceToNat, sliceCells, cellsAt, srcA, app, reduceCtorEq, Int.reduceEq, Int.reduceNeg, Int.reducePow, Nat.reducePow, Int.reduceTDiv, Int.reduceDiv, Nat.reduceDiv, Nat.reduceMod, Int.reduceMod, Int.reduceTMod, ne_eq, subA, beq_iff_eq, unA, minA, maxA, eqFs, eqA1, beq_self_eq_true, Nat.reduceBEq]
        rw [← eU, show pre.length + 2 = pre2.length by omega]
        refine ⟨k + 1, by omega, by omega, ?_⟩
        rw [hp2]
        exact Le.slots (by simp [Am.look])
    · have ek : k = l.length := by omega
      subst ek
      rw [List.take_length]
      simp (config := { maxSteps := 4000000 }) (disch := omega) only [step, stepv, ev, okW, onlyFr, Bool.false_and, Bool.true_and, sealw, wl, wn, wp, aop, cV, cV1, ↓reduceIte, Nat.reduceEqDiff, Nat.reduceAdd, Int.cast_ofNat_Int, if_true, if_false, AV.one, repCells, fillA, partCells, Nat.reduceLT, Nat.reduceLeDiff, Nat.reduceMul, Nat.reduceSub, Int.reduceLT, Int.reduceLE, Int.reduceAdd, Int.reduceSub, Int.reduceMul, Int.reduceToNat, sliceCells, cellsAt, srcA, app, reduceCtorEq, Int.reduceEq, Int.reduceNeg, Int.reducePow, Nat.reducePow, Int.reduceTDiv, Int.reduceDiv, Nat.reduceDiv, Nat.reduceMod, Int.reduceMod, Int.reduceTMod, ne_eq, subA, beq_iff_eq, unA, minA, maxA, eqFs, eqA1, beq_self_eq_true, Nat.reduceBEq, hk0]
      simp [frzN, frzK, frzL, frzV, frzL_T _ (isT_u8 _), bs]
  · have hw : ((24 : Int) / 8).toNat = 3 := rfl
    simp only [hw] at hB hB0
    rw [h] at hin
    simp (config := { maxSteps := 4000000 }) (disch := omega) only [step, stepv, ev, okW, onlyFr, Bool.false_and, Bool.true_and, sealw, wl, wn, wp, aop, cV, cV1, ↓reduceIte, Nat.reduceEqDiff, Nat.reduceAdd, Int.cast_ofNat_Int, if_true, if_false, AV.one, repCells, fillA, partCells, Nat.reduceLT, Nat.reduceLeDiff, Nat.reduceMul, Nat.reduceSub, Int.reduceLT, Int.reduceLE, Int.reduceAdd, Int.reduceSub, Int.reduceMul, Int.reduceToNat, sliceCells, cellsAt, srcA, app, reduceCtorEq, Int.reduceEq, Int.reduceNeg, Int.reducePow, Nat.reducePow, Int.reduceTDiv, Int.reduceDiv, Nat.reduceDiv, Nat.reduceMod, Int.reduceMod, Int.reduceTMod, ne_eq, subA, beq_iff_eq, unA, minA, maxA, eqFs, eqA1, beq_self_eq_true, Nat.reduceBEq, ac_width_Bytes, il]
    refine callQ.vc hC' ?_
    simp (config := { maxSteps := 4000000 }) (disch := omega) only [step, stepv, ev, okW, onlyFr, Bool.false_and, Bool.true_and, sealw, wl, wn, wp, aop, cV, cV1, ↓reduceIte, Nat.reduceEqDiff, Nat.reduceAdd, Int.cast_ofNat_Int, if_true, if_false, AV.one, repCells, fillA, partCells, Nat.reduceLT, Nat.reduceLeDiff, Nat.reduceMul, Nat.reduceSub, Int.reduceLT, Int.reduceLE, Int.reduceAdd, Int.reduceSub, Int.reduceMul, Int.reduceToNat, sliceCells, cellsAt, srcA, app, reduceCtorEq, Int.reduceEq, Int.reduceNeg, Int.reducePow, Nat.reducePow, Int.reduceTDiv, Int.reduceDiv, Nat.reduceDiv, Nat.reduceMod, Int.reduceMod, Int.reduceTMod, ne_eq, subA, beq_iff_eq, unA, minA, maxA, eqFs, eqA1, beq_self_eq_true, Nat.reduceBEq]
    refine ALoop.by (ι := Nat) (fun k => ⟨[(19, .int .i64 k), (18, .int .i64 l.length), (17, .list l.length (ks .i32 l)), (7, .own 0 (smpB 24 (l.take k)).length), (0, .int .i64 24), (1, .list l.length (ks .i32 l))], [⟨t0, 1, (smpB 24 (l.take k)).length, u8 (smpB 24 (l.take k)), 0⟩]⟩) (fun k => k ≤ l.length) (fun k => l.length - k) 0 (Le.trans (Le.virt 7 t0 1 (by omega) rfl) (Le.slots (by simp [Am.look, smpB]))) (by omega) ?_
    intro k hk
    have hBk := hB k
    rw [List.length_take, Nat.min_eq_left hk] at hBk
    by_cases hlt : k < l.length
    · have e1 := drop_ks (K := .i32) hlt
      obtain ⟨i1, i2⟩ := hin k hlt
      have eT := hS k hlt
      have eE := smpE24 (x := l[k]) (by omega) (by omega)
      have eL := hB (k + 1)
      rw [List.length_take, Nat.min_eq_left (by omega : k + 1 ≤ l.length)] at eL
      generalize l[k] = x at *
      generalize hp : smpB 24 (l.take k) = pre at *
      generalize hp2 : smpB 24 (l.take (k + 1)) = pre2 at *
      have eU : u8 pre2 = u8 pre ++ [.int .u8 (x % 256), .int .u8 (x / 256 % 256), .int .u8 (x / 65536 % 256)] := by rw [eT, ← u8_append, eE]
      have lp := u8_length pre
      simp (config := { maxSteps := 4000000 }) (disch := omega) only [step, stepv, ev, okW, onlyFr, Bool.false_and, Bool.true_and, sealw, wl, wn, wp, aop, cV, cV1, ↓reduceIte, Nat.reduceEqDiff, Nat.reduceAdd, Int.cast_ofNat_Int, if_true, if_false, AV.one, repCells, fillA, partCells, Nat.reduceLT, Nat.reduceLeDiff, Nat.reduceMul, Nat.reduceSub, Int.reduceLT, Int.reduceLE, Int.reduceAdd, Int.reduceSub, Int.reduceMul, Int.reduceToNat, sliceCells, cellsAt, srcA, app, reduceCtorEq, Int.reduceEq, Int.reduceNeg, Int.reducePow, Nat.reducePow, Int.reduceTDiv, Int.reduceDiv, Nat.reduceDiv, Nat.reduceMod, Int.reduceMod, Int.reduceTMod, ne_eq, subA, beq_iff_eq, unA, minA, maxA, eqFs, eqA1, beq_self_eq_true, Nat.reduceBEq, e1, hk0]
      refine ALoop.by (ι := Nat) (fun j => ⟨[(29, .int .i64 j), (28, .int .i64 3), (9, .int .i32 (x)), (7, .own 0 (pre.length + j)), (19, .int .i64 k), (18, .int .i64 l.length), (17, .list l.length (ks .i32 l)), (0, .int .i64 24), (1, .list l.length (ks .i32 l))], [⟨t0, 1, pre.length + j, (match j with | 0 => u8 pre | 1 => u8 pre ++ [.int .u8 (x % 256)] | 2 => u8 pre ++ [.int .u8 (x % 256), .int .u8 (x / 256 % 256)] | _ => u8 pre ++ [.int .u8 (x % 256), .int .u8 (x / 256 % 256), .int .u8 (x / 65536 % 256)]), 0⟩]⟩) (fun j => j ≤ 3) (fun j => 3 - j) 0 (Le.slots (by simp [Am.look])) (by omega) ?_
      intro j hj
      have s0 : shiftA false .i32 x 0 = some (.int .i32 x) := by simp [shiftA, Int.fdiv_one]
      have s1 : shiftA false .i32 x 8 = some (.int .i32 (x / 256)) := by simp [shiftA, IntKind.bits, Int.fdiv_eq_ediv_of_nonneg]
      have s2 : shiftA false .i32 x 16 = some (.int .i32 (x / 65536)) := by simp [shiftA, IntKind.bits, Int.fdiv_eq_ediv_of_nonneg]
      have w0 := wrap_u8_mod x
      have w1 := wrap_u8_mod (x / 256)
      have w2 := wrap_u8_mod (x / 65536)
      have hj3 : j = 0 ∨ j = 1 ∨ j = 2 ∨ j = 3 := by omega
      rcases hj3 with rfl | rfl | rfl | rfl
      · simp (config := { maxSteps := 4000000 }) (disch := omega) only [step, stepv, ev, okW, onlyFr, Bool.false_and, Bool.true_and, sealw, wl, wn, wp, aop, cV, cV1, ↓reduceIte, Nat.reduceEqDiff, Nat.reduceAdd, Int.cast_ofNat_Int, if_true, if_false, AV.one, repCells, fillA, partCells, Nat.reduceLT, Nat.reduceLeDiff, Nat.reduceMul, Nat.reduceSub, Int.reduceLT, Int.reduceLE, Int.reduceAdd, Int.reduceSub, Int.reduceMul, Int.reduceToNat, sliceCells, cellsAt, srcA, app, reduceCtorEq, Int.reduceEq, Int.reduceNeg, Int.reducePow, Nat.reducePow, Int.reduceTDiv, Int.reduceDiv, Nat.reduceDiv, Nat.reduceMod, Int.reduceMod, Int.reduceTMod, ne_eq, subA, beq_iff_eq, unA, minA, maxA, eqFs, eqA1, beq_self_eq_true, Nat.reduceBEq, s0, s1, s2, w0, w1, w2, lp, List.append_assoc]
        exact ⟨1, by omega, by omega, Le.dropT [_] (by simp [isTL_append, isT_u8, isTL, isT]) (by simp [Am.look, frzK, frzL, frzV, frzL_T _ (isTL_ks _ _)])⟩
      · simp (config := { maxSteps := 4000000 }) (disch := omega) only [step, stepv, ev, okW, onlyFr, Bool.false_and, Bool.true_and, sealw, wl, wn, wp, aop, cV, cV1, ↓reduceIte, Nat.reduceEqDiff, Nat.reduceAdd, Int.cast_ofNat_Int, if_true, if_false, AV.one, repCells, fillA, partCells, Nat.reduceLT, Nat.reduceLeDiff, Nat.reduceMul, Nat.reduceSub, Int.reduceLT, Int.reduceLE, Int.reduceAdd, Int.reduceSub, Int.reduceMul, Int.reduceToNat, sliceCells, cellsAt, srcA, app, reduceCtorEq, Int.reduceEq, Int.reduceNeg, Int.reducePow, Nat.reducePow, Int.reduceTDiv, Int.reduceDiv, Nat.reduceDiv, Nat.reduceMod, Int.reduceMod, Int.reduceTMod, ne_eq, subA, beq_iff_eq, unA, minA, maxA, eqFs, eqA1, beq_self_eq_true, Nat.reduceBEq, s0, s1, s2, w0, w1, w2, lp, List.append_assoc]
        exact ⟨2, by omega, by omega, Le.dropT [_] (by simp [isTL_append, isT_u8, isTL, isT]) (by simp [Am.look, frzK, frzL, frzV, frzL_T _ (isTL_ks _ _)])⟩
      · simp (config := { maxSteps := 4000000 }) (disch := omega) only [step, stepv, ev, okW, onlyFr, Bool.false_and, Bool.true_and, sealw, wl, wn, wp, aop, cV, cV1, ↓reduceIte, Nat.reduceEqDiff, Nat.reduceAdd, Int.cast_ofNat_Int, if_true, if_false, AV.one, repCells, fillA, partCells, Nat.reduceLT, Nat.reduceLeDiff, Nat.reduceMul, Nat.reduceSub, Int.reduceLT, Int.reduceLE, Int.reduceAdd, Int.reduceSub, Int.reduceMul, Int.reduceToNat, sliceCells, cellsAt, srcA, app, reduceCtorEq, Int.reduceEq, Int.reduceNeg, Int.reducePow, Nat.reducePow, Int.reduceTDiv, Int.reduceDiv, Nat.reduceDiv, Nat.reduceMod, Int.reduceMod, Int.reduceTMod, ne_eq, subA, beq_iff_eq, unA, minA, maxA, eqFs, eqA1, beq_self_eq_true, Nat.reduceBEq, s0, s1, s2, w0, w1, w2, lp, List.append_assoc]
        exact ⟨3, by omega, by omega, Le.dropT [_] (by simp [isTL_append, isT_u8, isTL, isT]) (by simp [Am.look, frzK, frzL, frzV, frzL_T _ (isTL_ks _ _)])⟩
      · simp (config := { maxSteps := 4000000 }) (disch := omega) only [step, stepv, ev, okW, onlyFr, Bool.false_and, Bool.true_and, sealw, wl, wn, wp, aop, cV, cV1, ↓reduceIte, Nat.reduceEqDiff, Nat.reduceAdd, Int.cast_ofNat_Int, if_true, if_false, AV.one, repCells, fillA, partCells, Nat.reduceLT, Nat.reduceLeDiff, Nat.reduceMul, Nat.reduceSub, Int.reduceLT, Int.reduceLE, Int.reduceAdd, Int.reduceSub, Int.reduceMul, Int.reduceToNat, sliceCells, cellsAt, srcA, app, reduceCtorEq, Int.reduceEq, Int.reduceNeg, Int.reducePow, Nat.reducePow, Int.reduceTDiv, Int.reduceDiv, Nat.reduceDiv, Nat.reduceMod, Int.reduceMod, Int.reduceTMod, ne_eq, subA, beq_iff_eq, unA, minA, maxA, eqFs, eqA1, beq_self_eq_true, Nat.reduceBEq]
        rw [← eU, show pre.length + 3 = pre2.length by omega]
        refine ⟨k + 1, by omega, by omega, ?_⟩
        rw [hp2]
        exact Le.slots (by simp [Am.look])
    · have ek : k = l.length := by omega
      subst ek
      rw [List.take_length]
      simp (config := { maxSteps := 4000000 }) (disch := omega) only [step, stepv, ev, okW, onlyFr, Bool.false_and, Bool.true_and, sealw, wl, wn, wp, aop, cV, cV1, ↓reduceIte, Nat.reduceEqDiff, Nat.reduceAdd, Int.cast_ofNat_Int, if_true, if_false, AV.one, repCells, fillA, partCells, Nat.reduceLT, Nat.reduceLeDiff, Nat.reduceMul, Nat.reduceSub, Int.reduceLT, Int.reduceLE, Int.reduceAdd, Int.reduceSub, Int.reduceMul, Int.reduceToNat, sliceCells, cellsAt, srcA, app, reduceCtorEq, Int.reduceEq, Int.reduceNeg, Int.reducePow, Nat.reducePow, Int.reduceTDiv, Int.reduceDiv, Nat.reduceDiv, Nat.reduceMod, Int.reduceMod, Int.reduceTMod, ne_eq, subA, beq_iff_eq, unA, minA, maxA, eqFs, eqA1, beq_self_eq_true, Nat.reduceBEq, hk0]
      simp [frzN, frzK, frzL, frzV, frzL_T _ (isT_u8 _), bs]

end Go.Am

namespace Go.Am
open Go.RowKit

/-! ### WAV: writing -/

theorem isD_clA (c x r : Int) (l : List Int) : isD (clA c x r l) = true := by simp [clA, isD, isDL, isD_il]
def fmtW : List UInt8 := [102, 109, 116, 32]
def dataW : List UInt8 := [100, 97, 116, 97]
def waveW' : List UInt8 := [87, 65, 86, 69]
def wavL (c x r : Int) (l : List Int) : List Ck := [(fmtW, formW c x r), (dataW, smpB x l)]
def wavB (c x r : Int) (l : List Int) : List UInt8 := bytesM waveW' (wavL c x r l)
def wavA (c x r : Int) (l : List Int) : AV := if clipN c x r l ≠ 0 then .tup [.list 0 [], .int .i64 (clipN c x r l)] else .tup [bs (wavB c x r l), .int .i64 0]
theorem isD_wavA (c x r : Int) (l : List Int) : isD (wavA c x r l) = true := by unfold wavA; split <;> simp [isD, isDL, isD_bs]

theorem clip_ok {c x r : Int} {l : List Int} (h : clipN c x r l = 0) : sndOk c x r ∧ checkN x l = 0 ∧ (l.length : Int) % c = 0 ∧ headN c x r (l.length / c) = 0 := by
  unfold clipN at h
  split at h
  · omega
  split at h
  · omega
  split at h
  · omega
  split at h
  · omega
  rename_i h1 h2 h3 h4
  have h3' : headN c x r (l.length / c) = 0 := by omega
  refine ⟨?_, by omega, by omega, h3'⟩
  unfold headN at h3'
  split at h3'
  · omega
  rename_i e1
  split at h3'
  · omega
  split at h3'
  · omega
  split at h3'
  · omega
  rename_i e4
  have e4' : cntE r (l.length / c) = 0 := by omega
  have e1' : eCheck c x = 0 := by omega
  unfold cntE at e4'
  split at e4'
  · omega
  rename_i q1
  unfold eCheck at e1'
  split at e1'
  · omega
  rename_i q2
  refine ⟨?_, ?_, fun h => q2 (.inl h), ?_, ?_⟩ <;> omega

theorem formW_length (c x r : Int) : (formW c x r).length = 16 ∨ (formW c x r).length = 40 := by
  unfold formW; rw [formB_length]; split <;> simp

theorem wavL_ok {c x r : Int} {l : List Int} (h : clipN c x r l = 0) : okL (wavL c x r l) ∧ checkM waveW' (wavL c x r l) = 0 := by
  obtain ⟨h1, h2, _⟩ := clip_ok h
  obtain ⟨h4, h5⟩ := check_len h2
  have h6 := smpB_length x l
  have h7 : (x / 8).toNat ≤ 3 := by rcases (half_ne x).1 h5 with h | h | h <;> subst h <;> decide
  have h8 : l.length * (x / 8).toNat ≤ 4000 * 3 := Nat.mul_le_mul h4 h7
  have h9 := formW_length c x r
  refine ⟨⟨by simp [wavL], fun k hk => ?_⟩, ?_⟩
  · simp [wavL] at hk
    rcases hk with rfl | rfl
    · simp [fmtW]; omega
    · simp [dataW]; omega
  · have hs : szL (wavL c x r l) = (8 + (formW c x r).length + (formW c x r).length % 2) + (8 + (smpB x l).length + (smpB x l).length % 2) := by simp [wavL, szL, szC]
    unfold checkM
    rw [hs, if_neg (by simp [wavL]), if_neg]
    rintro (h' | h' | h')
    · revert h'; decide
    · omega
    · revert h'; simp [wavL]; decide

end Go.Am

namespace Go.Am
open Go.RowKit

def S_WavWrite (P : Prg) (f : Nat) : Prop := ∀ (c x r : Int) (l : List Int), I32 l → l.length ≤ 1000000 → VC P f [clA c x r l] (wavA c x r l)

theorem wav_Write {P : Prg} {f fC fF fW fR t0 t1 : Nat} (bd : Body P f 41 [.tmp 2, .tmp 3] (ac_wav_Write fC fF fW fR t0 t1)) (hC : S_ClipCheck P fC) (hF : S_SWrite P fF) (hW : S_WBytes P fW) (hR : S_Write P fR) : S_WavWrite P f := by
  intro c x r l hI hl
  refine VC.of_walk 1 (by simp [isDL, isD_clA]) (isD_wavA _ _ _ _) (ACall.of_body bd (by simp) ?_)
  have hC' := hC c x r l hI hl
  have hW0 := hW x l hI
  rw [il] at hC' hW0
  by_cases h0 : clipN c x r l = 0
  · obtain ⟨h1, h2, _⟩ := clip_ok h0
    obtain ⟨h3, h4⟩ := wavL_ok h0
    have hF' := hF c x r
    rw [if_pos h1, sndA] at hF'
    rw [if_neg (by omega)] at hW0
    rw [h0] at hC'
    have hR' := hR waveW' (wavL c x r l) (by decide) h3
    rw [writeA, if_pos h4, show bytesM waveW' (wavL c x r l) = wavB c x r l from rfl] at hR'
    simp only [wavL, ckL, List.length_cons, List.length_nil] at hR'
    simp only [wavA, h0]
    rw [if_neg (by omega)]
    generalize formW c x r = F at *
    generalize smpB x l = D at *
    generalize wavB c x r l = W at *
    simp (config := { maxSteps := 4000000 }) (disch := omega) only [step, stepv, ev, okW, onlyFr, Bool.false_and, Bool.true_and, sealw, wl, wn, wp, aop, cV, cV1, ↓reduceIte, Nat.reduceEqDiff, Nat.reduceAdd, Int.cast_ofNat_Int, if_true, if_false, AV.one, repCells, fillA, partCells, Nat.reduceLT, Nat.reduceLeDiff, Nat.reduceMul, Nat.reduceSub, Int.reduceLT, Int.reduceLE, Int.reduceAdd, Int.reduceSub, Int.reduceMul, Int.reduceToNat, sliceCells, cellsAt, srcA, app, reduceCtorEq, Int.reduceEq, Int.reduceNeg, Int.reducePow, Nat.reducePow, Int.reduceTDiv, Int.reduceDiv, Nat.reduceDiv, Nat.reduceMod, Int.reduceMod, Int.reduceTMod, ne_eq, subA, beq_iff_eq, unA, minA, maxA, eqFs, eqA1, beq_self_eq_true, Nat.reduceBEq, ac_wav_Write, clA, il]
    refine callQ.vc hC' ?_
    simp (config := { maxSteps := 4000000 }) (disch := omega) only [step, stepv, ev, okW, onlyFr, Bool.false_and, Bool.true_and, sealw, wl, wn, wp, aop, cV, cV1, ↓reduceIte, Nat.reduceEqDiff, Nat.reduceAdd, Int.cast_ofNat_Int, if_true, if_false, AV.one, repCells, fillA, partCells, Nat.reduceLT, Nat.reduceLeDiff, Nat.reduceMul, Nat.reduceSub, Int.reduceLT, Int.reduceLE, Int.reduceAdd, Int.reduceSub, Int.reduceMul, Int.reduceToNat, sliceCells, cellsAt, srcA, app, reduceCtorEq, Int.reduceEq, Int.reduceNeg, Int.reducePow, Nat.reducePow, Int.reduceTDiv, Int.reduceDiv, Nat.reduceDiv, Nat.reduceMod, Int.reduceMod, Int.reduceTMod, ne_eq, subA, beq_iff_eq, unA, minA, maxA, eqFs, eqA1, beq_self_eq_true, Nat.reduceBEq]
    refine callQ.vc hF' ?_
    simp (config := { maxSteps := 4000000 }) (disch := omega) only [step, stepv, ev, okW, onlyFr, Bool.false_and, Bool.true_and, sealw, wl, wn, wp, aop, cV, cV1, ↓reduceIte, Nat.reduceEqDiff, Nat.reduceAdd, Int.cast_ofNat_Int, if_true, if_false, AV.one, repCells, fillA, partCells, Nat.reduceLT, Nat.reduceLeDiff, Nat.reduceMul, Nat.reduceSub, Int.reduceLT, Int.reduceLE, Int.reduceAdd, Int.reduceSub, Int.reduceMul, Int.reduceToNat, sliceCells, cellsAt, srcA, app, reduceCtorEq, Int.reduceEq, Int.reduceNeg, Int.reducePow, Nat.reducePow, Int.reduceTDiv, Int.reduceDiv, Nat.reduceDiv, Nat.reduceMod, Int.reduceMod, Int.reduceTMod, ne_eq, subA, beq_iff_eq, unA, minA, maxA, eqFs, eqA1, beq_self_eq_true, Nat.reduceBEq]
    refine callQ.vc hW0 ?_
    simp (config := { maxSteps := 4000000 }) (disch := omega) only [step, stepv, ev, okW, onlyFr, Bool.false_and, Bool.true_and, sealw, wl, wn, wp, aop, cV, cV1, ↓reduceIte, Nat.reduceEqDiff, Nat.reduceAdd, Int.cast_ofNat_Int, if_true, if_false, AV.one, repCells, fillA, partCells, Nat.reduceLT, Nat.reduceLeDiff, Nat.reduceMul, Nat.reduceSub, Int.reduceLT, Int.reduceLE, Int.reduceAdd, Int.reduceSub, Int.reduceMul, Int.reduceToNat, sliceCells, cellsAt, srcA, app, reduceCtorEq, Int.reduceEq, Int.reduceNeg, Int.reducePow, Nat.reducePow, Int.reduceTDiv, Int.reduceDiv, Nat.reduceDiv, Nat.reduceMod, Int.reduceMod, Int.reduceTMod, ne_eq, subA, beq_iff_eq, unA, minA, maxA, eqFs, eqA1, beq_self_eq_true, Nat.reduceBEq, bs]
    refine callQ.still 1 [1] hR' ?_ ?_
    · simp [frzN, frzK, frzL, frzV, frzL_T _ (isT_u8 _), isDL, isD, isDL_u8, bs, fmtW, dataW, waveW']
    simp (config := { maxSteps := 4000000 }) (disch := omega) only [step, stepv, ev, okW, onlyFr, Bool.false_and, Bool.true_and, sealw, wl, wn, wp, aop, cV, cV1, ↓reduceIte, Nat.reduceEqDiff, Nat.reduceAdd, Int.cast_ofNat_Int, if_true, if_false, AV.one, repCells, fillA, partCells, Nat.reduceLT, Nat.reduceLeDiff, Nat.reduceMul, Nat.reduceSub, Int.reduceLT, Int.reduceLE, Int.reduceAdd, Int.reduceSub, Int.reduceMul, Int.reduceToNat, sliceCells, cellsAt, srcA, app, reduceCtorEq, Int.reduceEq, Int.reduceNeg, Int.reducePow, Nat.reducePow, Int.reduceTDiv, Int.reduceDiv, Nat.reduceDiv, Nat.reduceMod, Int.reduceMod, Int.reduceTMod, ne_eq, subA, beq_iff_eq, unA, minA, maxA, eqFs, eqA1, beq_self_eq_true, Nat.reduceBEq, bs]
    simp [frzN, frzK, frzL, frzV, frzL_T _ (isT_u8 _)]
  · simp only [wavA]
    rw [if_pos h0]
    simp (config := { maxSteps := 4000000 }) (disch := omega) only [step, stepv, ev, okW, onlyFr, Bool.false_and, Bool.true_and, sealw, wl, wn, wp, aop, cV, cV1, ↓reduceIte, Nat.reduceEqDiff, Nat.reduceAdd, Int.cast_ofNat_Int, if_true, if_false, AV.one, repCells, fillA, partCells, Nat.reduceLT, Nat.reduceLeDiff, Nat.reduceMul, Nat.reduceSub, Int.reduceLT, Int.reduceLE, Int.reduceAdd, Int.reduceSub, Int.reduceMul, Int.reduceToNat, sliceCells, cellsAt, srcA, app, reduceCtorEq, Int.reduceEq, Int.reduceNeg, Int.reducePow, Nat.reducePow, Int.reduceTDiv, Int.reduceDiv, Nat.reduceDiv, Nat.reduceMod, Int.reduceMod, Int.reduceTMod, ne_eq, subA, beq_iff_eq, unA, minA, maxA, eqFs, eqA1, beq_self_eq_true, Nat.reduceBEq, ac_wav_Write, clA, il]
    refine callQ.vc hC' ?_
    generalize clipN c x r l = e at *
    simp (config := { maxSteps := 4000000 }) (disch := omega) only [step, stepv, ev, okW, onlyFr, Bool.false_and, Bool.true_and, sealw, wl, wn, wp, aop, cV, cV1, ↓reduceIte, Nat.reduceEqDiff, Nat.reduceAdd, Int.cast_ofNat_Int, if_true, if_false, AV.one, repCells, fillA, partCells, Nat.reduceLT, Nat.reduceLeDiff, Nat.reduceMul, Nat.reduceSub, Int.reduceLT, Int.reduceLE, Int.reduceAdd, Int.reduceSub, Int.reduceMul, Int.reduceToNat, sliceCells, cellsAt, srcA, app, reduceCtorEq, Int.reduceEq, Int.reduceNeg, Int.reducePow, Nat.reducePow, Int.reduceTDiv, Int.reduceDiv, Nat.reduceDiv, Nat.reduceMod, Int.reduceMod, Int.reduceTMod, ne_eq, subA, beq_iff_eq, unA, minA, maxA, eqFs, eqA1, beq_self_eq_true, Nat.reduceBEq]
    simp [frzN, frzK, frzL, frzV]

def sizeWA (c x r : Int) (l : List Int) : AV := if clipN c x r l ≠ 0 then .tup [.int .i64 0, .int .i64 (clipN c x r l)] else .tup [.int .i64 (wavB c x r l).length, .int .i64 0]
def S_WavSize (P : Prg) (f : Nat) : Prop := ∀ (c x r : Int) (l : List Int), I32 l → l.length ≤ 1000000 → VC P f [clA c x r l] (sizeWA c x r l)
theorem wav_Size {P : Prg} {f fW t0 : Nat} (bd : Body P f 14 [.tmp 2, .tmp 3] (ac_wav_Size fW t0)) (hW : S_WavWrite P fW) : S_WavSize P f := by
  intro c x r l hI hl
  refine VC.of_acall (by simp [isDL, isD_clA]) (by unfold sizeWA; split <;> rfl) (ACall.of_body bd (by simp) ?_)
  have hW' := hW c x r l hI hl
  rw [clA, il] at hW'
  unfold wavA at hW'
  unfold sizeWA
  by_cases h0 : clipN c x r l = 0
  · rw [if_neg (by omega)] at hW' ⊢
    simp (config := { maxSteps := 4000000 }) (disch := omega) only [step, stepv, ev, okW, onlyFr, Bool.false_and, Bool.true_and, sealw, wl, wn, wp, aop, cV, cV1, ↓reduceIte, Nat.reduceEqDiff, Nat.reduceAdd, Int.cast_ofNat_Int, if_true, if_false, AV.one, repCells, fillA, partCells, Nat.reduceLT, Nat.reduceLeDiff, Nat.reduceMul, Nat.reduceSub, Int.reduceLT, Int.reduceLE, Int.reduceAdd, Int.reduceSub, Int.reduceMul, Int.reduceToNat, sliceCells, cellsAt, srcA, app, reduceCtorEq, Int.reduceEq, Int.reduceNeg, Int.reducePow, Nat.reducePow, Int.reduceTDiv, Int.reduceDiv, Nat.reduceDiv, Nat.reduceMod, Int.reduceMod, Int.reduceTMod, ne_eq, subA, beq_iff_eq, unA, minA, maxA, eqFs, eqA1, beq_self_eq_true, Nat.reduceBEq, ac_wav_Size, clA, il]
    refine callQ.vc hW' ?_
    simp (config := { maxSteps := 4000000 }) (disch := omega) only [step, stepv, ev, okW, onlyFr, Bool.false_and, Bool.true_and, sealw, wl, wn, wp, aop, cV, cV1, ↓reduceIte, Nat.reduceEqDiff, Nat.reduceAdd, Int.cast_ofNat_Int, if_true, if_false, AV.one, repCells, fillA, partCells, Nat.reduceLT, Nat.reduceLeDiff, Nat.reduceMul, Nat.reduceSub, Int.reduceLT, Int.reduceLE, Int.reduceAdd, Int.reduceSub, Int.reduceMul, Int.reduceToNat, sliceCells, cellsAt, srcA, app, reduceCtorEq, Int.reduceEq, Int.reduceNeg, Int.reducePow, Nat.reducePow, Int.reduceTDiv, Int.reduceDiv, Nat.reduceDiv, Nat.reduceMod, Int.reduceMod, Int.reduceTMod, ne_eq, subA, beq_iff_eq, unA, minA, maxA, eqFs, eqA1, beq_self_eq_true, Nat.reduceBEq, bs]
  · rw [if_pos h0] at hW' ⊢
    simp (config := { maxSteps := 4000000 }) (disch := omega) only [step, stepv, ev, okW, onlyFr, Bool.false_and, Bool.true_and, sealw, wl, wn, wp, aop, cV, cV1, ↓reduceIte, Nat.reduceEqDiff, Nat.reduceAdd, Int.cast_ofNat_Int, if_true, if_false, AV.one, repCells, fillA, partCells, Nat.reduceLT, Nat.reduceLeDiff, Nat.reduceMul, Nat.reduceSub, Int.reduceLT, Int.reduceLE, Int.reduceAdd, Int.reduceSub, Int.reduceMul, Int.reduceToNat, sliceCells, cellsAt, srcA, app, reduceCtorEq, Int.reduceEq, Int.reduceNeg, Int.reducePow, Nat.reducePow, Int.reduceTDiv, Int.reduceDiv, Nat.reduceDiv, Nat.reduceMod, Int.reduceMod, Int.reduceTMod, ne_eq, subA, beq_iff_eq, unA, minA, maxA, eqFs, eqA1, beq_self_eq_true, Nat.reduceBEq, ac_wav_Size, clA, il]
    refine callQ.vc hW' ?_
    simp (config := { maxSteps := 4000000 }) (disch := omega) only [step, stepv, ev, okW, onlyFr, Bool.false_and, Bool.true_and, sealw, wl, wn, wp, aop, cV, cV1, ↓reduceIte, Nat.reduceEqDiff, Nat.reduceAdd, Int.cast_ofNat_Int, if_true, if_false, AV.one, repCells, fillA, partCells, Nat.reduceLT, Nat.reduceLeDiff, Nat.reduceMul, Nat.reduceSub, Int.reduceLT, Int.reduceLE, Int.reduceAdd, Int.reduceSub, Int.reduceMul, Int.reduceToNat, sliceCells, cellsAt, srcA, app, reduceCtorEq, Int.reduceEq, Int.reduceNeg, Int.reducePow, Nat.reducePow, Int.reduceTDiv, Int.reduceDiv, Nat.reduceDiv, Nat.reduceMod, Int.reduceMod, Int.reduceTMod, ne_eq, subA, beq_iff_eq, unA, minA, maxA, eqFs, eqA1, beq_self_eq_true, Nat.reduceBEq, bs]
def S_Same33 (P : Prg) (f : Nat) : Prop := ∀ (c x r c' x' r' : Int) (l l' : List Int), l.length ≤ 1000000 → l'.length ≤ 1000000 → VC P f [clA c x r l, clA c' x' r' l'] (.bool (decide (c = c' ∧ x = x' ∧ r = r' ∧ l = l')))

end Go.Am

namespace Go.Am
open Go.RowKit

set_option maxRecDepth 20000 in
theorem ref33_Same {P : Prg} {f t0 : Nat} (bd : Body P f 52 [.tmp 4] (ac_cadenzaref33_Same t0)) : S_Same33 P f := by
  intro c x r c' x' r' l l' hl hl'
  refine VC.of_acall (by simp [isDL, isD_clA]) rfl (ACall.of_body bd (by simp) ?_)
  have hk := ks_length .i32 l
  have hk' := ks_length .i32 l'
  by_cases h1 : c = c'
  case neg =>
    have e : decide (c = c' ∧ x = x' ∧ r = r' ∧ l = l') = false := by simp [h1]
    simp (config := { maxSteps := 4000000 }) (disch := omega) only [step, stepv, ev, okW, onlyFr, Bool.false_and, Bool.true_and, sealw, wl, wn, wp, aop, cV, cV1, ↓reduceIte, Nat.reduceEqDiff, Nat.reduceAdd, Int.cast_ofNat_Int, if_true, if_false, AV.one, repCells, fillA, partCells, Nat.reduceLT, Nat.reduceLeDiff, Nat.reduceMul, Nat.reduceSub, Int.reduceLT, Int.reduceLE, Int.reduceAdd, Int.reduceSub, Int.reduceMul, Int.reduceToNat, sliceCells, cellsAt, srcA, app, reduceCtorEq, Int.reduceEq, Int.reduceNeg, Int.reducePow, Nat.reducePow, Int.reduceTDiv, Int.reduceDiv, Nat.reduceDiv, Nat.reduceMod, Int.reduceMod, Int.reduceTMod, ne_eq, subA, beq_iff_eq, unA, minA, maxA, eqFs, eqA1, beq_self_eq_true, Nat.reduceBEq, ac_cadenzaref33_Same, clA, il, e]
  by_cases h2 : x = x'
  case neg =>
    have e : decide (c = c' ∧ x = x' ∧ r = r' ∧ l = l') = false := by simp [h2]
    simp (config := { maxSteps := 4000000 }) (disch := omega) only [step, stepv, ev, okW, onlyFr, Bool.false_and, Bool.true_and, sealw, wl, wn, wp, aop, cV, cV1, ↓reduceIte, Nat.reduceEqDiff, Nat.reduceAdd, Int.cast_ofNat_Int, if_true, if_false, AV.one, repCells, fillA, partCells, Nat.reduceLT, Nat.reduceLeDiff, Nat.reduceMul, Nat.reduceSub, Int.reduceLT, Int.reduceLE, Int.reduceAdd, Int.reduceSub, Int.reduceMul, Int.reduceToNat, sliceCells, cellsAt, srcA, app, reduceCtorEq, Int.reduceEq, Int.reduceNeg, Int.reducePow, Nat.reducePow, Int.reduceTDiv, Int.reduceDiv, Nat.reduceDiv, Nat.reduceMod, Int.reduceMod, Int.reduceTMod, ne_eq, subA, beq_iff_eq, unA, minA, maxA, eqFs, eqA1, beq_self_eq_true, Nat.reduceBEq, ac_cadenzaref33_Same, clA, il, e]
  by_cases h3 : r = r'
  case neg =>
    have e : decide (c = c' ∧ x = x' ∧ r = r' ∧ l = l') = false := by simp [h3]
    simp (config := { maxSteps := 4000000 }) (disch := omega) only [step, stepv, ev, okW, onlyFr, Bool.false_and, Bool.true_and, sealw, wl, wn, wp, aop, cV, cV1, ↓reduceIte, Nat.reduceEqDiff, Nat.reduceAdd, Int.cast_ofNat_Int, if_true, if_false, AV.one, repCells, fillA, partCells, Nat.reduceLT, Nat.reduceLeDiff, Nat.reduceMul, Nat.reduceSub, Int.reduceLT, Int.reduceLE, Int.reduceAdd, Int.reduceSub, Int.reduceMul, Int.reduceToNat, sliceCells, cellsAt, srcA, app, reduceCtorEq, Int.reduceEq, Int.reduceNeg, Int.reducePow, Nat.reducePow, Int.reduceTDiv, Int.reduceDiv, Nat.reduceDiv, Nat.reduceMod, Int.reduceMod, Int.reduceTMod, ne_eq, subA, beq_iff_eq, unA, minA, maxA, eqFs, eqA1, beq_self_eq_true, Nat.reduceBEq, ac_cadenzaref33_Same, clA, il, e]
  subst h1; subst h2; subst h3
  have e0 : decide (c = c ∧ x = x ∧ r = r ∧ l = l') = decide (l = l') := by simp
  rw [e0]
  by_cases h4 : l.length = l'.length
  case neg =>
    have e : decide (l = l') = false := by simp; exact fun h => h4 (by rw [h])
    simp (config := { maxSteps := 4000000 }) (disch := omega) only [step, stepv, ev, okW, onlyFr, Bool.false_and, Bool.true_and, sealw, wl, wn, wp, aop, cV, cV1, ↓reduceIte, Nat.reduceEqDiff, Nat.reduceAdd, Int.cast_ofNat_Int, if_true, if_false, AV.one, repCells, fillA, partCells, Nat.reduceLT, Nat.reduceLeDiff, Nat.reduceMul, Nat.reduceSub, Int.reduceLT, Int.reduceLE, Int.reduceAdd, Int.reduceSub, Int.reduceMul, Int.reduceToNat, sliceCells, cellsAt, srcA, app, reduceCtorEq, Int.reduceEq, Int.reduceNeg, Int.reducePow, Nat.reducePow, Int.reduceTDiv, Int.reduceDiv, Nat.reduceDiv, Nat.reduceMod, Int.reduceMod, Int.reduceTMod, ne_eq, subA, beq_iff_eq, unA, minA, maxA, eqFs, eqA1, beq_self_eq_true, Nat.reduceBEq, ac_cadenzaref33_Same, clA, il, e]
  simp (config := { maxSteps := 4000000 }) (disch := omega) only [step, stepv, ev, okW, onlyFr, Bool.false_and, Bool.true_and, sealw, wl, wn, wp, aop, cV, cV1, ↓reduceIte, Nat.reduceEqDiff, Nat.reduceAdd, Int.cast_ofNat_Int, if_true, if_false, AV.one, repCells, fillA, partCells, Nat.reduceLT, Nat.reduceLeDiff, Nat.reduceMul, Nat.reduceSub, Int.reduceLT, Int.reduceLE, Int.reduceAdd, Int.reduceSub, Int.reduceMul, Int.reduceToNat, sliceCells, cellsAt, srcA, app, reduceCtorEq, Int.reduceEq, Int.reduceNeg, Int.reducePow, Nat.reducePow, Int.reduceTDiv, Int.reduceDiv, Nat.reduceDiv, Nat.reduceMod, Int.reduceMod, Int.reduceTMod, ne_eq, subA, beq_iff_eq, unA, minA, maxA, eqFs, eqA1, beq_self_eq_true, Nat.reduceBEq, ac_cadenzaref33_Same, clA, il]
  refine ALoop.by (ι := Nat) (fun k => ⟨[(5, .int .i64 k), (2, .ref 0 1 0), (3, .ref 1 1 0)], [⟨t0, 4, 1, [.int .i64 c, .int .i64 x, .int .i64 r, .list l.length (ks .i32 l)], 0⟩, ⟨t0, 4, 1, [.int .i64 c, .int .i64 x, .int .i64 r, .list l'.length (ks .i32 l')], 0⟩]⟩) (fun k => k ≤ l.length ∧ l.take k = l'.take k) (fun k => l.length - k) 0 (Le.slots (by simp [Am.look])) ⟨by omega, by simp⟩ ?_
  rintro k ⟨hk1, hk2⟩
  by_cases hlt : k < l.length
  · have d1 := drop_ks (K := .i32) hlt
    have d2 := drop_ks (K := .i32) (l := l') (k := k) (by omega)
    by_cases he : l[k] = l'[k]'(by omega)
    · rw [← he] at d2
      have e5 : l.take (k + 1) = l'.take (k + 1) := by
        rw [List.take_succ_eq_append_getElem hlt, List.take_succ_eq_append_getElem (by omega : k < l'.length), hk2, he]
      simp (config := { maxSteps := 4000000 }) (disch := omega) only [step, stepv, ev, okW, onlyFr, Bool.false_and, Bool.true_and, sealw, wl, wn, wp, aop, cV, cV1, ↓reduceIte, Nat.reduceEqDiff, Nat.reduceAdd, Int.cast_ofNat_Int, if_true, if_false, AV.one, repCells, fillA, partCells, Nat.reduceLT, Nat.reduceLeDiff, Nat.reduceMul, Nat.reduceSub, Int.reduceLT, Int.reduceLE, Int.reduceAdd, Int.reduceSub, Int.reduceMul, Int.reduceToNat, sliceCells, cellsAt, srcA, app, reduceCtorEq, Int.reduceEq, Int.reduceNeg, Int.reducePow, Nat.reducePow, Int.reduceTDiv, Int.reduceDiv, Nat.reduceDiv, Nat.reduceMod, Int.reduceMod, Int.reduceTMod, ne_eq, subA, beq_iff_eq, unA, minA, maxA, eqFs, eqA1, beq_self_eq_true, Nat.reduceBEq, hk, hk', d1, d2]
      exact ⟨k + 1, ⟨by omega, e5⟩, by omega, Le.slots (by simp [Am.look])⟩
    · have e : decide (l = l') = false := by
        simp
        intro h
        subst h
        exact he rfl
      rw [e]
      have he' : (l[k] = l'[k]'(by omega)) = False := eq_false he
      simp (config := { maxSteps := 4000000 }) (disch := omega) only [step, stepv, ev, okW, onlyFr, Bool.false_and, Bool.true_and, sealw, wl, wn, wp, aop, cV, cV1, ↓reduceIte, Nat.reduceEqDiff, Nat.reduceAdd, Int.cast_ofNat_Int, if_true, if_false, AV.one, repCells, fillA, partCells, Nat.reduceLT, Nat.reduceLeDiff, Nat.reduceMul, Nat.reduceSub, Int.reduceLT, Int.reduceLE, Int.reduceAdd, Int.reduceSub, Int.reduceMul, Int.reduceToNat, sliceCells, cellsAt, srcA, app, reduceCtorEq, Int.reduceEq, Int.reduceNeg, Int.reducePow, Nat.reducePow, Int.reduceTDiv, Int.reduceDiv, Nat.reduceDiv, Nat.reduceMod, Int.reduceMod, Int.reduceTMod, ne_eq, subA, beq_iff_eq, unA, minA, maxA, eqFs, eqA1, beq_self_eq_true, Nat.reduceBEq, hk, hk', d1, d2, he']
  · have ek : k = l.length := by omega
    subst ek
    have e : decide (l = l') = true := by
      simp
      rw [List.take_length, h4, List.take_length] at hk2
      exact hk2
    rw [e]
    simp (config := { maxSteps := 4000000 }) (disch := omega) only [step, stepv, ev, okW, onlyFr, Bool.false_and, Bool.true_and, sealw, wl, wn, wp, aop, cV, cV1, ↓reduceIte, Nat.reduceEqDiff, Nat.reduceAdd, Int.cast_ofNat_Int, if_true, if_false, AV.one, repCells, fillA, partCells, Nat.reduceLT, Nat.reduceLeDiff, Nat.reduceMul, Nat.reduceSub, Int.reduceLT, Int.reduceLE, Int.reduceAdd, Int.reduceSub, Int.reduceMul, Int.reduceToNat, sliceCells, cellsAt, srcA, app, reduceCtorEq, Int.reduceEq, Int.reduceNeg, Int.reducePow, Nat.reducePow, Int.reduceTDiv, Int.reduceDiv, Nat.reduceDiv, Nat.reduceMod, Int.reduceMod, Int.reduceTMod, ne_eq, subA, beq_iff_eq, unA, minA, maxA, eqFs, eqA1, beq_self_eq_true, Nat.reduceBEq, hk, hk']

/-- The only chunk with a name. -/
def onlyM (l : List Ck) (id : List UInt8) : Nat × Nat :=
  match findM l id with
  | none => (0, 6)
  | some i => match findM (l.drop (i + 1)) id with
    | some _ => (0, 12)
    | none => (i, 0)
def S_Only (P : Prg) (f : Nat) : Prop := ∀ (l : List Ck) (id : List UInt8), l.length ≤ 1000000 → VC P f [.list l.length (ckL l), .str id] (.tup [.int .i64 (onlyM l id).1, .int .i64 (onlyM l id).2])

end Go.Am

namespace Go.Am
open Go.RowKit

theorem ckL_dropk : ∀ (l : List Ck) (k : Nat), (ckL l).drop (k * 2) = ckL (l.drop k)
  | l, 0 => by simp
  | [], k + 1 => by simp [ckL]
  | c :: l, k + 1 => by
    have := ckL_dropk l k
    rw [Nat.add_mul, Nat.one_mul]
    simpa [ckL] using this

set_option maxRecDepth 20000 in
theorem wav_only {P : Prg} {f fF : Nat} (bd : Body P f 31 [.tmp 4, .tmp 5] (ac_wav_only fF)) (hF : S_Find P fF) : S_Only P f := by
  intro l id hl
  refine VC.of_acall (by simp [isDL, isD, isDL_ckL]) rfl (ACall.of_body bd (by simp) ?_)
  have e2 := ckL_length l
  have hF1 := hF l id (by omega)
  simp (config := { maxSteps := 4000000 }) (disch := omega) only [step, stepv, ev, okW, onlyFr, Bool.false_and, Bool.true_and, sealw, wl, wn, wp, aop, cV, cV1, ↓reduceIte, Nat.reduceEqDiff, Nat.reduceAdd, Int.cast_ofNat_Int, if_true, if_false, AV.one, repCells, fillA, partCells, Nat.reduceLT, Nat.reduceLeDiff, Nat.reduceMul, Nat.reduceSub, Int.reduceLT, Int.reduceLE, Int.reduceAdd, Int.reduceSub, Int.reduceMul, Int.reduceToNat, sliceCells, cellsAt, srcA, app, reduceCtorEq, Int.reduceEq, Int.reduceNeg, Int.reducePow, Nat.reducePow, Int.reduceTDiv, Int.reduceDiv, Nat.reduceDiv, Nat.reduceMod, Int.reduceMod, Int.reduceTMod, ne_eq, subA, beq_iff_eq, unA, minA, maxA, eqFs, eqA1, beq_self_eq_true, Nat.reduceBEq, ac_wav_only]
  refine callQ.vc hF1 ?_
  unfold onlyM
  cases hf : findM l id with
  | none =>
    simp (config := { maxSteps := 4000000 }) (disch := omega) only [step, stepv, ev, okW, onlyFr, Bool.false_and, Bool.true_and, sealw, wl, wn, wp, aop, cV, cV1, ↓reduceIte, Nat.reduceEqDiff, Nat.reduceAdd, Int.cast_ofNat_Int, if_true, if_false, AV.one, repCells, fillA, partCells, Nat.reduceLT, Nat.reduceLeDiff, Nat.reduceMul, Nat.reduceSub, Int.reduceLT, Int.reduceLE, Int.reduceAdd, Int.reduceSub, Int.reduceMul, Int.reduceToNat, sliceCells, cellsAt, srcA, app, reduceCtorEq, Int.reduceEq, Int.reduceNeg, Int.reducePow, Nat.reducePow, Int.reduceTDiv, Int.reduceDiv, Nat.reduceDiv, Nat.reduceMod, Int.reduceMod, Int.reduceTMod, ne_eq, subA, beq_iff_eq, unA, minA, maxA, eqFs, eqA1, beq_self_eq_true, Nat.reduceBEq, findA]
  | some i =>
    have hi := findM_lt hf
    have hF2 := hF (l.drop (i + 1)) id (by simp; omega)
    have hln : (l.drop (i + 1)).length = l.length - (i + 1) := by simp
    have htk : (ckL (l.drop (i + 1))).take ((l.length - (i + 1)) * 2) = ckL (l.drop (i + 1)) := List.take_of_length_le (by rw [ckL_length, hln]; exact Nat.le_refl _)
    rw [hln] at hF2
    have e3 : (l.length * 2 = (ckL l).length) = True := eq_true (by omega)
    simp (config := { maxSteps := 4000000 }) (disch := omega) only [step, stepv, ev, okW, onlyFr, Bool.false_and, Bool.true_and, sealw, wl, wn, wp, aop, cV, cV1, ↓reduceIte, Nat.reduceEqDiff, Nat.reduceAdd, Int.cast_ofNat_Int, if_true, if_false, AV.one, repCells, fillA, partCells, Nat.reduceLT, Nat.reduceLeDiff, Nat.reduceMul, Nat.reduceSub, Int.reduceLT, Int.reduceLE, Int.reduceAdd, Int.reduceSub, Int.reduceMul, Int.reduceToNat, sliceCells, cellsAt, srcA, app, reduceCtorEq, Int.reduceEq, Int.reduceNeg, Int.reducePow, Nat.reducePow, Int.reduceTDiv, Int.reduceDiv, Nat.reduceDiv, Nat.reduceMod, Int.reduceMod, Int.reduceTMod, ne_eq, subA, beq_iff_eq, unA, minA, maxA, eqFs, eqA1, beq_self_eq_true, Nat.reduceBEq, findA, ckL_dropk, htk, e3]
    refine callQ.vc hF2 ?_
    cases hf2 : findM (l.drop (i + 1)) id with
    | none =>
      simp (config := { maxSteps := 4000000 }) (disch := omega) only [step, stepv, ev, okW, onlyFr, Bool.false_and, Bool.true_and, sealw, wl, wn, wp, aop, cV, cV1, ↓reduceIte, Nat.reduceEqDiff, Nat.reduceAdd, Int.cast_ofNat_Int, if_true, if_false, AV.one, repCells, fillA, partCells, Nat.reduceLT, Nat.reduceLeDiff, Nat.reduceMul, Nat.reduceSub, Int.reduceLT, Int.reduceLE, Int.reduceAdd, Int.reduceSub, Int.reduceMul, Int.reduceToNat, sliceCells, cellsAt, srcA, app, reduceCtorEq, Int.reduceEq, Int.reduceNeg, Int.reducePow, Nat.reducePow, Int.reduceTDiv, Int.reduceDiv, Nat.reduceDiv, Nat.reduceMod, Int.reduceMod, Int.reduceTMod, ne_eq, subA, beq_iff_eq, unA, minA, maxA, eqFs, eqA1, beq_self_eq_true, Nat.reduceBEq, findA]
    | some j =>
      simp (config := { maxSteps := 4000000 }) (disch := omega) only [step, stepv, ev, okW, onlyFr, Bool.false_and, Bool.true_and, sealw, wl, wn, wp, aop, cV, cV1, ↓reduceIte, Nat.reduceEqDiff, Nat.reduceAdd, Int.cast_ofNat_Int, if_true, if_false, AV.one, repCells, fillA, partCells, Nat.reduceLT, Nat.reduceLeDiff, Nat.reduceMul, Nat.reduceSub, Int.reduceLT, Int.reduceLE, Int.reduceAdd, Int.reduceSub, Int.reduceMul, Int.reduceToNat, sliceCells, cellsAt, srcA, app, reduceCtorEq, Int.reduceEq, Int.reduceNeg, Int.reducePow, Nat.reducePow, Int.reduceTDiv, Int.reduceDiv, Nat.reduceDiv, Nat.reduceMod, Int.reduceMod, Int.reduceTMod, ne_eq, subA, beq_iff_eq, unA, minA, maxA, eqFs, eqA1, beq_self_eq_true, Nat.reduceBEq, findA]

def ckAt (l : List Ck) (i : Nat) : List UInt8 := (l.getD i ([], [])).2
theorem ckAt_eq {l : List Ck} {i : Nat} (h : i < l.length) : ckAt l i = (l[i]).2 := by simp [ckAt, List.getD_eq_getElem?_getD, List.getElem?_eq_getElem h]

theorem onlyM_cases (l : List Ck) (id : List UInt8) : ((onlyM l id).2 = 6) ∨ ((onlyM l id).2 = 12) ∨ ((onlyM l id).2 = 0 ∧ (onlyM l id).1 < l.length) := by
  unfold onlyM
  cases hf : findM l id with
  | none => exact .inl rfl
  | some i =>
    simp only
    cases hf2 : findM (l.drop (i + 1)) id with
    | none => exact .inr (.inr ⟨rfl, findM_lt hf⟩)
    | some j => exact .inr (.inl rfl)

/-- What a WAV reads as: an error, or a clip. -/
def readW (b : List UInt8) : Nat ⊕ (Nat × Nat × Nat × List Int) :=
  match readM b with
  | .inl e => .inl e
  | .inr (form, l) =>
    if form ≠ waveW' then .inl 12
    else if (onlyM l fmtW).2 = 6 ∨ (onlyM l dataW).2 = 6 then .inl 6
    else if (onlyM l fmtW).2 ≠ 0 ∨ (onlyM l dataW).2 ≠ 0 ∨ (onlyM l dataW).1 < (onlyM l fmtW).1 then .inl 12
    else
      match readS (ckAt l (onlyM l fmtW).1) with
      | none => .inl 12
      | some (c, x, r) =>
        if (ckAt l (onlyM l dataW).1).length = 0 ∨ (ckAt l (onlyM l dataW).1).length % (c * x / 8) ≠ 0 then .inl 12
        else if 4000 < (ckAt l (onlyM l dataW).1).length / (x / 8) then .inl 4
        else if clipN c x r (smpL x (ckAt l (onlyM l dataW).1)) ≠ 0 then .inl 4
        else .inr (c, x, r, smpL x (ckAt l (onlyM l dataW).1))
def readWA : Nat ⊕ (Nat × Nat × Nat × List Int) → AV
  | .inl e => .tup [clA 0 0 0 [], .int .i64 e]
  | .inr (c, x, r, l) => .tup [clA c x r l, .int .i64 0]
theorem isD_readWA (o : Nat ⊕ (Nat × Nat × Nat × List Int)) : isD (readWA o) = true := by
  rcases o with e | ⟨c, x, r, l⟩ <;> simp [readWA, isD, isDL, isD_clA]

theorem smpD_range {x : Int} (hx : half x ≠ 0) {s : List UInt8} (hs : s.length = (x / 8).toNat) : -half x ≤ smpD x s ∧ smpD x s < half x := by
  have h1 := leN_lt s
  rw [hs] at h1
  rcases half_cases x with ⟨rfl, h⟩ | ⟨rfl, h⟩ | ⟨rfl, h⟩ | ⟨_, _, _, h⟩
  · have e : (2 : Nat) ^ (8 * ((8 : Int) / 8).toNat) = 256 := by decide
    rw [e] at h1
    rw [smpD8, h]; omega
  · have e : (2 : Nat) ^ (8 * ((16 : Int) / 8).toNat) = 65536 := by decide
    rw [e] at h1
    rw [smpD16, h]; split <;> omega
  · have e : (2 : Nat) ^ (8 * ((24 : Int) / 8).toNat) = 16777216 := by decide
    rw [e] at h1
    rw [smpD24, h]; split <;> omega
  · exact absurd h hx

theorem smpL_range {x : Int} (hx : half x ≠ 0) (l : List UInt8) : ∀ y ∈ smpL x l, -half x ≤ y ∧ y < half x := by
  intro y hy
  simp only [smpL, List.mem_map, List.mem_range] at hy
  obtain ⟨i, hi, rfl⟩ := hy
  refine smpD_range hx ?_
  generalize (x / 8).toNat = w at *
  have h0 : 0 < w := by
    rcases Nat.eq_zero_or_pos w with h | h
    · subst h; simp at hi
    · exact h
  have : (i + 1) * w ≤ l.length := Nat.le_trans (Nat.mul_le_mul_right w (by omega : i + 1 ≤ l.length / w)) (Nat.div_mul_le_self _ _)
  rw [Nat.add_mul, Nat.one_mul] at this
  rw [List.length_take, List.length_drop]
  omega

theorem smpL_I32 {x : Int} (hx : half x ≠ 0) (l : List UInt8) : I32 (smpL x l) := by
  intro y hy
  have h1 := smpL_range hx l y hy
  rcases half_cases x with ⟨_, h⟩ | ⟨_, h⟩ | ⟨_, h⟩ | ⟨_, _, _, h⟩ <;> omega

def S_WavRead (P : Prg) (f : Nat) : Prop := ∀ b : List UInt8, b.length < 140737488355328 → VC P f [bs b] (readWA (readW b))

theorem readS_ok {l : List UInt8} {c x r : Nat} (h : readS l = some (c, x, r)) : sndOk c x r := by
  rcases readS_cases l with ⟨h1, _⟩ | ⟨h1, h2, _⟩
  · rw [h1] at h; cases h
  · rw [h1] at h; cases h; exact h2

end Go.Am

namespace Go.Am
open Go.RowKit

theorem readM_mem {b form : List UInt8} {l : List Ck} (h : readM b = .inr (form, l)) : ∀ c ∈ l, c.2.length ≤ 100000 := by
  intro c hc
  obtain ⟨_, _, _, _, h5, h6, _⟩ := readM_back h
  have := sz_mem hc
  simp only [szC] at this
  omega

set_option maxRecDepth 20000 in
set_option maxHeartbeats 2000000 in
theorem wav_Read {P : Prg} {f fR fO fF fS fC t0 t1 : Nat} (bd : Body P f 116 [.cell 2 t0, .tmp 3] (ac_wav_Read fR fO fF fS fC t0 t1)) (hR : S_Read P fR) (hO : S_Only P fO) (hF : S_SRead P fF) (hS : S_Samples P fS) (hC : S_ClipCheck P fC) (ht : aggO P t0 = some (some 4)) : S_WavRead P f := by
  intro b hb
  refine VC.of_walk 2 (by simp [isDL, isD_bs]) (isD_readWA _) (ACall.of_body bd (by simp) ?_)
  have hR' := hR b hb
  simp (config := { maxSteps := 4000000 }) (disch := omega) only [step, stepv, ev, okW, onlyFr, Bool.false_and, Bool.true_and, sealw, wl, wn, wp, aop, cV, cV1, ↓reduceIte, Nat.reduceEqDiff, Nat.reduceAdd, Int.cast_ofNat_Int, if_true, if_false, AV.one, repCells, fillA, partCells, Nat.reduceLT, Nat.reduceLeDiff, Nat.reduceMul, Nat.reduceSub, Int.reduceLT, Int.reduceLE, Int.reduceAdd, Int.reduceSub, Int.reduceMul, Int.reduceToNat, sliceCells, cellsAt, srcA, app, reduceCtorEq, Int.reduceEq, Int.reduceNeg, Int.reducePow, Nat.reducePow, Int.reduceTDiv, Int.reduceDiv, Nat.reduceDiv, Nat.reduceMod, Int.reduceMod, Int.reduceTMod, ne_eq, subA, beq_iff_eq, unA, minA, maxA, eqFs, eqA1, beq_self_eq_true, Nat.reduceBEq, ac_wav_Read, bs]
  refine callQ.vc hR' ?_
  unfold readW
  cases hm : readM b with
  | inl e =>
    have hp := readM_pos hm
    have hp' : ((e : Int) = 0) = False := eq_false (by omega)
    simp (config := { maxSteps := 4000000 }) (disch := omega) only [step, stepv, ev, okW, onlyFr, Bool.false_and, Bool.true_and, sealw, wl, wn, wp, aop, cV, cV1, ↓reduceIte, Nat.reduceEqDiff, Nat.reduceAdd, Int.cast_ofNat_Int, if_true, if_false, AV.one, repCells, fillA, partCells, Nat.reduceLT, Nat.reduceLeDiff, Nat.reduceMul, Nat.reduceSub, Int.reduceLT, Int.reduceLE, Int.reduceAdd, Int.reduceSub, Int.reduceMul, Int.reduceToNat, sliceCells, cellsAt, srcA, app, reduceCtorEq, Int.reduceEq, Int.reduceNeg, Int.reducePow, Nat.reducePow, Int.reduceTDiv, Int.reduceDiv, Nat.reduceDiv, Nat.reduceMod, Int.reduceMod, Int.reduceTMod, ne_eq, subA, beq_iff_eq, unA, minA, maxA, eqFs, eqA1, beq_self_eq_true, Nat.reduceBEq, readA, hp', resA, ht, oneOf]
    simp [frzN, frzK, frzL, frzV, readWA, clA, il, ks]
  | inr p =>
    obtain ⟨form, l⟩ := p
    have h20 := readM_le hm
    have hmb := readM_mem hm
    by_cases hform : form = waveW'
    case neg =>
      have e1 : (form == [87, 65, 86, 69]) = false := by
        show (form == waveW') = false
        simpa using hform
      simp only [if_pos (show form ≠ waveW' from hform)]
      simp (config := { maxSteps := 4000000 }) (disch := omega) only [step, stepv, ev, okW, onlyFr, Bool.false_and, Bool.true_and, sealw, wl, wn, wp, aop, cV, cV1, ↓reduceIte, Nat.reduceEqDiff, Nat.reduceAdd, Int.cast_ofNat_Int, if_true, if_false, AV.one, repCells, fillA, partCells, Nat.reduceLT, Nat.reduceLeDiff, Nat.reduceMul, Nat.reduceSub, Int.reduceLT, Int.reduceLE, Int.reduceAdd, Int.reduceSub, Int.reduceMul, Int.reduceToNat, sliceCells, cellsAt, srcA, app, reduceCtorEq, Int.reduceEq, Int.reduceNeg, Int.reducePow, Nat.reducePow, Int.reduceTDiv, Int.reduceDiv, Nat.reduceDiv, Nat.reduceMod, Int.reduceMod, Int.reduceTMod, ne_eq, subA, beq_iff_eq, unA, minA, maxA, eqFs, eqA1, beq_self_eq_true, Nat.reduceBEq, readA, strA, e1, resA, ht, oneOf]
      simp [frzN, frzK, frzL, frzV, readWA, clA, il, ks]
    simp only [if_neg (show ¬ form ≠ waveW' by simp [hform])]
    subst hform
    have e1 : (waveW' == [87, 65, 86, 69]) = true := by decide
    simp (config := { maxSteps := 4000000 }) (disch := omega) only [step, stepv, ev, okW, onlyFr, Bool.false_and, Bool.true_and, sealw, wl, wn, wp, aop, cV, cV1, ↓reduceIte, Nat.reduceEqDiff, Nat.reduceAdd, Int.cast_ofNat_Int, if_true, if_false, AV.one, repCells, fillA, partCells, Nat.reduceLT, Nat.reduceLeDiff, Nat.reduceMul, Nat.reduceSub, Int.reduceLT, Int.reduceLE, Int.reduceAdd, Int.reduceSub, Int.reduceMul, Int.reduceToNat, sliceCells, cellsAt, srcA, app, reduceCtorEq, Int.reduceEq, Int.reduceNeg, Int.reducePow, Nat.reducePow, Int.reduceTDiv, Int.reduceDiv, Nat.reduceDiv, Nat.reduceMod, Int.reduceMod, Int.reduceTMod, ne_eq, subA, beq_iff_eq, unA, minA, maxA, eqFs, eqA1, beq_self_eq_true, Nat.reduceBEq, readA, strA, e1]
    refine callQ.vc (hO l fmtW (by omega)) ?_
    simp (config := { maxSteps := 4000000 }) (disch := omega) only [step, stepv, ev, okW, onlyFr, Bool.false_and, Bool.true_and, sealw, wl, wn, wp, aop, cV, cV1, ↓reduceIte, Nat.reduceEqDiff, Nat.reduceAdd, Int.cast_ofNat_Int, if_true, if_false, AV.one, repCells, fillA, partCells, Nat.reduceLT, Nat.reduceLeDiff, Nat.reduceMul, Nat.reduceSub, Int.reduceLT, Int.reduceLE, Int.reduceAdd, Int.reduceSub, Int.reduceMul, Int.reduceToNat, sliceCells, cellsAt, srcA, app, reduceCtorEq, Int.reduceEq, Int.reduceNeg, Int.reducePow, Nat.reducePow, Int.reduceTDiv, Int.reduceDiv, Nat.reduceDiv, Nat.reduceMod, Int.reduceMod, Int.reduceTMod, ne_eq, subA, beq_iff_eq, unA, minA, maxA, eqFs, eqA1, beq_self_eq_true, Nat.reduceBEq]
    refine callQ.vc (hO l dataW (by omega)) ?_
    have c1 := onlyM_cases l fmtW
    have c2 := onlyM_cases l dataW
    generalize onlyM l fmtW = q1 at *
    generalize onlyM l dataW = q2 at *
    obtain ⟨fi, fe⟩ := q1
    obtain ⟨di, de⟩ := q2
    simp only at c1 c2 ⊢
    by_cases h6 : fe = 6 ∨ de = 6
    · rw [if_pos h6]
      by_cases h6a : fe = 6
      · simp (config := { maxSteps := 4000000 }) (disch := omega) only [step, stepv, ev, okW, onlyFr, Bool.false_and, Bool.true_and, sealw, wl, wn, wp, aop, cV, cV1, ↓reduceIte, Nat.reduceEqDiff, Nat.reduceAdd, Int.cast_ofNat_Int, if_true, if_false, AV.one, repCells, fillA, partCells, Nat.reduceLT, Nat.reduceLeDiff, Nat.reduceMul, Nat.reduceSub, Int.reduceLT, Int.reduceLE, Int.reduceAdd, Int.reduceSub, Int.reduceMul, Int.reduceToNat, sliceCells, cellsAt, srcA, app, reduceCtorEq, Int.reduceEq, Int.reduceNeg, Int.reducePow, Nat.reducePow, Int.reduceTDiv, Int.reduceDiv, Nat.reduceDiv, Nat.reduceMod, Int.reduceMod, Int.reduceTMod, ne_eq, subA, beq_iff_eq, unA, minA, maxA, eqFs, eqA1, beq_self_eq_true, Nat.reduceBEq, resA, ht, oneOf]
        simp [frzN, frzK, frzL, frzV, readWA, clA, il, ks]
      · simp (config := { maxSteps := 4000000 }) (disch := omega) only [step, stepv, ev, okW, onlyFr, Bool.false_and, Bool.true_and, sealw, wl, wn, wp, aop, cV, cV1, ↓reduceIte, Nat.reduceEqDiff, Nat.reduceAdd, Int.cast_ofNat_Int, if_true, if_false, AV.one, repCells, fillA, partCells, Nat.reduceLT, Nat.reduceLeDiff, Nat.reduceMul, Nat.reduceSub, Int.reduceLT, Int.reduceLE, Int.reduceAdd, Int.reduceSub, Int.reduceMul, Int.reduceToNat, sliceCells, cellsAt, srcA, app, reduceCtorEq, Int.reduceEq, Int.reduceNeg, Int.reducePow, Nat.reducePow, Int.reduceTDiv, Int.reduceDiv, Nat.reduceDiv, Nat.reduceMod, Int.reduceMod, Int.reduceTMod, ne_eq, subA, beq_iff_eq, unA, minA, maxA, eqFs, eqA1, beq_self_eq_true, Nat.reduceBEq, resA, ht, oneOf]
        simp [frzN, frzK, frzL, frzV, readWA, clA, il, ks]
    rw [if_neg h6]
    by_cases h12 : fe ≠ 0 ∨ de ≠ 0 ∨ di < fi
    · rw [if_pos h12]
      by_cases h12a : fe = 0
      · by_cases h12b : de = 0
        · simp (config := { maxSteps := 4000000 }) (disch := omega) only [step, stepv, ev, okW, onlyFr, Bool.false_and, Bool.true_and, sealw, wl, wn, wp, aop, cV, cV1, ↓reduceIte, Nat.reduceEqDiff, Nat.reduceAdd, Int.cast_ofNat_Int, if_true, if_false, AV.one, repCells, fillA, partCells, Nat.reduceLT, Nat.reduceLeDiff, Nat.reduceMul, Nat.reduceSub, Int.reduceLT, Int.reduceLE, Int.reduceAdd, Int.reduceSub, Int.reduceMul, Int.reduceToNat, sliceCells, cellsAt, srcA, app, reduceCtorEq, Int.reduceEq, Int.reduceNeg, Int.reducePow, Nat.reducePow, Int.reduceTDiv, Int.reduceDiv, Nat.reduceDiv, Nat.reduceMod, Int.reduceMod, Int.reduceTMod, ne_eq, subA, beq_iff_eq, unA, minA, maxA, eqFs, eqA1, beq_self_eq_true, Nat.reduceBEq, resA, ht, oneOf]
          simp [frzN, frzK, frzL, frzV, readWA, clA, il, ks]
        · simp (config := { maxSteps := 4000000 }) (disch := omega) only [step, stepv, ev, okW, onlyFr, Bool.false_and, Bool.true_and, sealw, wl, wn, wp, aop, cV, cV1, ↓reduceIte, Nat.reduceEqDiff, Nat.reduceAdd, Int.cast_ofNat_Int, if_true, if_false, AV.one, repCells, fillA, partCells, Nat.reduceLT, Nat.reduceLeDiff, Nat.reduceMul, Nat.reduceSub, Int.reduceLT, Int.reduceLE, Int.reduceAdd, Int.reduceSub, Int.reduceMul, Int.reduceToNat, sliceCells, cellsAt, srcA, app, reduceCtorEq, Int.reduceEq, Int.reduceNeg, Int.reducePow, Nat.reducePow, Int.reduceTDiv, Int.reduceDiv, Nat.reduceDiv, Nat.reduceMod, Int.reduceMod, Int.reduceTMod, ne_eq, subA, beq_iff_eq, unA, minA, maxA, eqFs, eqA1, beq_self_eq_true, Nat.reduceBEq, resA, ht, oneOf]
          simp [frzN, frzK, frzL, frzV, readWA, clA, il, ks]
      · simp (config := { maxSteps := 4000000 }) (disch := omega) only [step, stepv, ev, okW, onlyFr, Bool.false_and, Bool.true_and, sealw, wl, wn, wp, aop, cV, cV1, ↓reduceIte, Nat.reduceEqDiff, Nat.reduceAdd, Int.cast_ofNat_Int, if_true, if_false, AV.one, repCells, fillA, partCells, Nat.reduceLT, Nat.reduceLeDiff, Nat.reduceMul, Nat.reduceSub, Int.reduceLT, Int.reduceLE, Int.reduceAdd, Int.reduceSub, Int.reduceMul, Int.reduceToNat, sliceCells, cellsAt, srcA, app, reduceCtorEq, Int.reduceEq, Int.reduceNeg, Int.reducePow, Nat.reducePow, Int.reduceTDiv, Int.reduceDiv, Nat.reduceDiv, Nat.reduceMod, Int.reduceMod, Int.reduceTMod, ne_eq, subA, beq_iff_eq, unA, minA, maxA, eqFs, eqA1, beq_self_eq_true, Nat.reduceBEq, resA, ht, oneOf]
        simp [frzN, frzK, frzL, frzV, readWA, clA, il, ks]
    rw [if_neg h12]
    have hfi : fi < l.length := by omega
    have hdi : di < l.length := by omega
    have e2 := ckL_length l
    have d1 := ckL_drop hfi
    have d2 := ckL_drop hdi
    have m1 := hmb _ (List.getElem_mem hfi)
    have m2 := hmb _ (List.getElem_mem hdi)
    rw [ckAt_eq hfi, ckAt_eq hdi]
    generalize (l[fi]).2 = F at *
    generalize (l[di]).2 = D at *
    simp (config := { maxSteps := 4000000 }) (disch := omega) only [step, stepv, ev, okW, onlyFr, Bool.false_and, Bool.true_and, sealw, wl, wn, wp, aop, cV, cV1, ↓reduceIte, Nat.reduceEqDiff, Nat.reduceAdd, Int.cast_ofNat_Int, if_true, if_false, AV.one, repCells, fillA, partCells, Nat.reduceLT, Nat.reduceLeDiff, Nat.reduceMul, Nat.reduceSub, Int.reduceLT, Int.reduceLE, Int.reduceAdd, Int.reduceSub, Int.reduceMul, Int.reduceToNat, sliceCells, cellsAt, srcA, app, reduceCtorEq, Int.reduceEq, Int.reduceNeg, Int.reducePow, Nat.reducePow, Int.reduceTDiv, Int.reduceDiv, Nat.reduceDiv, Nat.reduceMod, Int.reduceMod, Int.reduceTMod, ne_eq, subA, beq_iff_eq, unA, minA, maxA, eqFs, eqA1, beq_self_eq_true, Nat.reduceBEq, e2, d1]
    refine callQ.vc (hF F (by omega)) ?_
    cases hs : readS F with
    | none =>
      simp (config := { maxSteps := 4000000 }) (disch := omega) only [step, stepv, ev, okW, onlyFr, Bool.false_and, Bool.true_and, sealw, wl, wn, wp, aop, cV, cV1, ↓reduceIte, Nat.reduceEqDiff, Nat.reduceAdd, Int.cast_ofNat_Int, if_true, if_false, AV.one, repCells, fillA, partCells, Nat.reduceLT, Nat.reduceLeDiff, Nat.reduceMul, Nat.reduceSub, Int.reduceLT, Int.reduceLE, Int.reduceAdd, Int.reduceSub, Int.reduceMul, Int.reduceToNat, sliceCells, cellsAt, srcA, app, reduceCtorEq, Int.reduceEq, Int.reduceNeg, Int.reducePow, Nat.reducePow, Int.reduceTDiv, Int.reduceDiv, Nat.reduceDiv, Nat.reduceMod, Int.reduceMod, Int.reduceTMod, ne_eq, subA, beq_iff_eq, unA, minA, maxA, eqFs, eqA1, beq_self_eq_true, Nat.reduceBEq, readSA, sndA, resA, ht, oneOf]
      simp [frzN, frzK, frzL, frzV, readWA, clA, il, ks]
    | some q =>
      obtain ⟨c, x, r⟩ := q
      have hok := readS_ok hs
      obtain ⟨q1, q2, q3, q4, q5⟩ := hok
      have hx := (half_ne (x : Int)).1 q3
      have hw : ((x : Int) / 8).toNat = x / 8 := by omega
      have m0 : (c : Int) * x = ((c * x : Nat) : Int) := by simp
      have hcx : c * x / 8 = c * (x / 8) := by
        rcases hx with h | h | h
        · obtain rfl : x = 8 := by omega
          omega
        · obtain rfl : x = 16 := by omega
          omega
        · obtain rfl : x = 24 := by omega
          omega
      have hb0 : c * x ≤ 6 * 24 := Nat.mul_le_mul (by omega) (by omega)
      have hmS : ((c * x : Nat) : Int) / 8 = ((c * x / 8 : Nat) : Int) := by omega
      have hS1 : 0 < c * x / 8 := by rw [hcx]; exact Nat.mul_pos (by omega) (by omega)
      have hS' := hS x D (by omega)
      rw [samplesA, if_neg q3, hw] at hS'
      have hmm : (D.length : Int) % ((c * x / 8 : Nat) : Int) = ((D.length % (c * x / 8) : Nat) : Int) := (Int.natCast_emod _ _).symm
      by_cases hd0 : D.length = 0 ∨ D.length % (c * x / 8) ≠ 0
      · simp only [if_pos hd0]
        by_cases hd1 : D.length = 0
        · simp (config := { maxSteps := 4000000 }) (disch := omega) only [step, stepv, ev, okW, onlyFr, Bool.false_and, Bool.true_and, sealw, wl, wn, wp, aop, cV, cV1, ↓reduceIte, Nat.reduceEqDiff, Nat.reduceAdd, Int.cast_ofNat_Int, if_true, if_false, AV.one, repCells, fillA, partCells, Nat.reduceLT, Nat.reduceLeDiff, Nat.reduceMul, Nat.reduceSub, Int.reduceLT, Int.reduceLE, Int.reduceAdd, Int.reduceSub, Int.reduceMul, Int.reduceToNat, sliceCells, cellsAt, srcA, app, reduceCtorEq, Int.reduceEq, Int.reduceNeg, Int.reducePow, Nat.reducePow, Int.reduceTDiv, Int.reduceDiv, Nat.reduceDiv, Nat.reduceMod, Int.reduceMod, Int.reduceTMod, ne_eq, subA, beq_iff_eq, unA, minA, maxA, eqFs, eqA1, beq_self_eq_true, Nat.reduceBEq, readSA, sndA, e2, d2, bs, resA, ht, oneOf]
          simp [frzN, frzK, frzL, frzV, readWA, clA, il, ks]
        · have hd2 : 0 < D.length % (c * x / 8) := by omega
          generalize c * x / 8 = S at *
          generalize c * x = cx at *
          generalize D.length % S = R at *
          simp (config := { maxSteps := 4000000 }) (disch := omega) only [step, stepv, ev, okW, onlyFr, Bool.false_and, Bool.true_and, sealw, wl, wn, wp, aop, cV, cV1, ↓reduceIte, Nat.reduceEqDiff, Nat.reduceAdd, Int.cast_ofNat_Int, if_true, if_false, AV.one, repCells, fillA, partCells, Nat.reduceLT, Nat.reduceLeDiff, Nat.reduceMul, Nat.reduceSub, Int.reduceLT, Int.reduceLE, Int.reduceAdd, Int.reduceSub, Int.reduceMul, Int.reduceToNat, sliceCells, cellsAt, srcA, app, reduceCtorEq, Int.reduceEq, Int.reduceNeg, Int.reducePow, Nat.reducePow, Int.reduceTDiv, Int.reduceDiv, Nat.reduceDiv, Nat.reduceMod, Int.reduceMod, Int.reduceTMod, ne_eq, subA, beq_iff_eq, unA, minA, maxA, eqFs, eqA1, beq_self_eq_true, Nat.reduceBEq, readSA, sndA, e2, d2, bs, m0, hmS, hmm, resA, ht, oneOf]
          simp [frzN, frzK, frzL, frzV, readWA, clA, il, ks]
      simp only [if_neg hd0]
      have hd1 : D.length ≠ 0 := fun h => hd0 (.inl h)
      have hd2 : D.length % (c * x / 8) = 0 := by
        rcases Nat.eq_zero_or_pos (D.length % (c * x / 8)) with h | h
        · exact h
        · exact absurd (.inr (by omega)) hd0
      have hd3 : D.length % (x / 8) = 0 := by
        have h1 : x / 8 ∣ D.length := Nat.dvd_trans ⟨c, by rw [hcx]; exact Nat.mul_comm _ _⟩ (Nat.dvd_of_mod_eq_zero hd2)
        exact Nat.mod_eq_zero_of_dvd h1
      rw [if_neg (by omega)] at hS'
      have hI := smpL_I32 q3 D
      have hL := smpL_length x D
      rw [hw] at hL
      generalize smpL x D = L at *
      have hC' := hC c x r L hI (by rw [hL]; exact Nat.le_trans (Nat.div_le_self _ _) (by omega))
      rw [hd2] at hmm
      generalize c * x / 8 = S at *
      generalize c * x = cx at *
      generalize D.length / (x / 8) = M at *
      rw [il] at hS' hC'
      by_cases h4 : 4000 < M
      · rw [if_pos h4] at hS'
        simp only [if_pos h4]
        simp (config := { maxSteps := 4000000 }) (disch := omega) only [step, stepv, ev, okW, onlyFr, Bool.false_and, Bool.true_and, sealw, wl, wn, wp, aop, cV, cV1, ↓reduceIte, Nat.reduceEqDiff, Nat.reduceAdd, Int.cast_ofNat_Int, if_true, if_false, AV.one, repCells, fillA, partCells, Nat.reduceLT, Nat.reduceLeDiff, Nat.reduceMul, Nat.reduceSub, Int.reduceLT, Int.reduceLE, Int.reduceAdd, Int.reduceSub, Int.reduceMul, Int.reduceToNat, sliceCells, cellsAt, srcA, app, reduceCtorEq, Int.reduceEq, Int.reduceNeg, Int.reducePow, Nat.reducePow, Int.reduceTDiv, Int.reduceDiv, Nat.reduceDiv, Nat.reduceMod, Int.reduceMod, Int.reduceTMod, ne_eq, subA, beq_iff_eq, unA, minA, maxA, eqFs, eqA1, beq_self_eq_true, Nat.reduceBEq, readSA, sndA, e2, d2, bs, m0, hmS, hmm]
        refine callQ.vc hS' ?_
        simp (config := { maxSteps := 4000000 }) (disch := omega) only [step, stepv, ev, okW, onlyFr, Bool.false_and, Bool.true_and, sealw, wl, wn, wp, aop, cV, cV1, ↓reduceIte, Nat.reduceEqDiff, Nat.reduceAdd, Int.cast_ofNat_Int, if_true, if_false, AV.one, repCells, fillA, partCells, Nat.reduceLT, Nat.reduceLeDiff, Nat.reduceMul, Nat.reduceSub, Int.reduceLT, Int.reduceLE, Int.reduceAdd, Int.reduceSub, Int.reduceMul, Int.reduceToNat, sliceCells, cellsAt, srcA, app, reduceCtorEq, Int.reduceEq, Int.reduceNeg, Int.reducePow, Nat.reducePow, Int.reduceTDiv, Int.reduceDiv, Nat.reduceDiv, Nat.reduceMod, Int.reduceMod, Int.reduceTMod, ne_eq, subA, beq_iff_eq, unA, minA, maxA, eqFs, eqA1, beq_self_eq_true, Nat.reduceBEq, resA, ht, oneOf]
        simp [frzN, frzK, frzL, frzV, readWA, clA, il, ks]
      rw [if_neg h4] at hS'
      simp only [if_neg h4]
      simp (config := { maxSteps := 4000000 }) (disch := omega) only [step, stepv, ev, okW, onlyFr, Bool.false_and, Bool.true_and, sealw, wl, wn, wp, aop, cV, cV1, ↓reduceIte, Nat.reduceEqDiff, Nat.reduceAdd, Int.cast_ofNat_Int, if_true, if_false, AV.one, repCells, fillA, partCells, Nat.reduceLT, Nat.reduceLeDiff, Nat.reduceMul, Nat.reduceSub, Int.reduceLT, Int.reduceLE, Int.reduceAdd, Int.reduceSub, Int.reduceMul, Int.reduceToNat, sliceCells, cellsAt, srcA, app, reduceCtorEq, Int.reduceEq, Int.reduceNeg, Int.reducePow, Nat.reducePow, Int.reduceTDiv, Int.reduceDiv, Nat.reduceDiv, Nat.reduceMod, Int.reduceMod, Int.reduceTMod, ne_eq, subA, beq_iff_eq, unA, minA, maxA, eqFs, eqA1, beq_self_eq_true, Nat.reduceBEq, readSA, sndA, e2, d2, bs, m0, hmS, hmm]
      refine callQ.vc hS' ?_
      simp (config := { maxSteps := 4000000 }) (disch := omega) only [step, stepv, ev, okW, onlyFr, Bool.false_and, Bool.true_and, sealw, wl, wn, wp, aop, cV, cV1, ↓reduceIte, Nat.reduceEqDiff, Nat.reduceAdd, Int.cast_ofNat_Int, if_true, if_false, AV.one, repCells, fillA, partCells, Nat.reduceLT, Nat.reduceLeDiff, Nat.reduceMul, Nat.reduceSub, Int.reduceLT, Int.reduceLE, Int.reduceAdd, Int.reduceSub, Int.reduceMul, Int.reduceToNat, sliceCells, cellsAt, srcA, app, reduceCtorEq, Int.reduceEq, Int.reduceNeg, Int.reducePow, Nat.reducePow, Int.reduceTDiv, Int.reduceDiv, Nat.reduceDiv, Nat.reduceMod, Int.reduceMod, Int.reduceTMod, ne_eq, subA, beq_iff_eq, unA, minA, maxA, eqFs, eqA1, beq_self_eq_true, Nat.reduceBEq]
      refine callQ.vc hC' ?_
      by_cases h0 : clipN c x r L ≠ 0
      · simp only [if_pos h0]
        generalize clipN c x r L = e at *
        simp (config := { maxSteps := 4000000 }) (disch := omega) only [step, stepv, ev, okW, onlyFr, Bool.false_and, Bool.true_and, sealw, wl, wn, wp, aop, cV, cV1, ↓reduceIte, Nat.reduceEqDiff, Nat.reduceAdd, Int.cast_ofNat_Int, if_true, if_false, AV.one, repCells, fillA, partCells, Nat.reduceLT, Nat.reduceLeDiff, Nat.reduceMul, Nat.reduceSub, Int.reduceLT, Int.reduceLE, Int.reduceAdd, Int.reduceSub, Int.reduceMul, Int.reduceToNat, sliceCells, cellsAt, srcA, app, reduceCtorEq, Int.reduceEq, Int.reduceNeg, Int.reducePow, Nat.reducePow, Int.reduceTDiv, Int.reduceDiv, Nat.reduceDiv, Nat.reduceMod, Int.reduceMod, Int.reduceTMod, ne_eq, subA, beq_iff_eq, unA, minA, maxA, eqFs, eqA1, beq_self_eq_true, Nat.reduceBEq, resA, ht, oneOf]
        simp [frzN, frzK, frzL, frzV, readWA, clA, il, ks]
      · simp only [if_neg h0]
        have h0' : clipN c x r L = 0 := by omega
        rw [h0']
        simp (config := { maxSteps := 4000000 }) (disch := omega) only [step, stepv, ev, okW, onlyFr, Bool.false_and, Bool.true_and, sealw, wl, wn, wp, aop, cV, cV1, ↓reduceIte, Nat.reduceEqDiff, Nat.reduceAdd, Int.cast_ofNat_Int, if_true, if_false, AV.one, repCells, fillA, partCells, Nat.reduceLT, Nat.reduceLeDiff, Nat.reduceMul, Nat.reduceSub, Int.reduceLT, Int.reduceLE, Int.reduceAdd, Int.reduceSub, Int.reduceMul, Int.reduceToNat, sliceCells, cellsAt, srcA, app, reduceCtorEq, Int.reduceEq, Int.reduceNeg, Int.reducePow, Nat.reducePow, Int.reduceTDiv, Int.reduceDiv, Nat.reduceDiv, Nat.reduceMod, Int.reduceMod, Int.reduceTMod, ne_eq, subA, beq_iff_eq, unA, minA, maxA, eqFs, eqA1, beq_self_eq_true, Nat.reduceBEq, resA, ht, oneOf]
        simp [frzN, frzK, frzL, frzV, readWA, clA, il, frzL_T _ (isTL_ks _ _)]

end Go.Am

namespace Go.Am
open Go.RowKit

end Go.Am

namespace Go.Am
open Go.RowKit

end Go.Am

namespace Go.Am
open Go.RowKit

theorem readW_len {b : List UInt8} {c x r : Nat} {l : List Int} (h : readW b = .inr (c, x, r, l)) : l.length ≤ 1000000 := by
  unfold readW at h
  split at h
  · cases h
  · split at h
    · cases h
    split at h
    · cases h
    split at h
    · cases h
    split at h
    · cases h
    rename_i c' x' r' hs
    split at h
    · cases h
    split at h
    · cases h
    rename_i h4
    split at h
    · cases h
    cases h
    rw [smpL_length]
    have : ((x : Int) / 8).toNat = x / 8 := by omega
    rw [this]
    omega

end Go.Am

namespace Go.Am
open Go.RowKit

/-! ### What is written is read (plain) -/

theorem fld_at {a rest : List UInt8} {i k n : Nat} (ha : a.length = i) (hn : n < 256 ^ k) : fld (a ++ (leB n k ++ rest)) i k = n := by
  rw [fld, List.drop_left' ha, List.take_left' (leB_length k n), leN_leB2 k n hn]

theorem formB_flds {c b r m : Nat} {w : Bool} (hc : c < 65536) (hb : b < 65536) (hr : r < 4294967296) :
    fld (formB c b r w m) 2 2 = c ∧ fld (formB c b r w m) 14 2 = b ∧ fld (formB c b r w m) 4 4 = r := by
  have key : ∀ (tag : Nat) (rest : List UInt8), fld (firstB c b r tag ++ rest) 2 2 = c ∧ fld (firstB c b r tag ++ rest) 14 2 = b ∧ fld (firstB c b r tag ++ rest) 4 4 = r := by
    intro tag rest
    refine ⟨?_, ?_, ?_⟩
    · have := fld_at (a := leB tag 2) (rest := leB r 4 ++ (leB (r * (c * b / 8)) 4 ++ (leB (c * b / 8) 2 ++ (leB b 2 ++ rest)))) (i := 2) (k := 2) (n := c) (by simp [leB_length]) (by omega)
      simpa [firstB, List.append_assoc] using this
    · have := fld_at (a := leB tag 2 ++ leB c 2 ++ leB r 4 ++ leB (r * (c * b / 8)) 4 ++ leB (c * b / 8) 2) (rest := rest) (i := 14) (k := 2) (n := b) (by simp [leB_length]) (by omega)
      simpa [firstB, List.append_assoc] using this
    · have := fld_at (a := leB tag 2 ++ leB c 2) (rest := leB (r * (c * b / 8)) 4 ++ (leB (c * b / 8) 2 ++ (leB b 2 ++ rest))) (i := 4) (k := 4) (n := r) (by simp [leB_length]) (by omega)
      simpa [firstB, List.append_assoc] using this
  cases w with
  | false => have := key 1 []; simpa [formB] using this
  | true => have := key 65534 (leB 22 2 ++ (leB b 2 ++ (leB m 4 ++ guidB))); simpa [formB, maskB, List.append_assoc] using this

theorem formB_mask {c b r m : Nat} (hm : m < 4294967296) : fld (formB c b r true m) 20 4 = m := by
  have := fld_at (a := firstB c b r 65534 ++ leB 22 2 ++ leB b 2) (rest := guidB) (i := 20) (k := 4) (n := m) (by simp [leB_length, firstB_length]) (by omega)
  simpa [formB, maskB, List.append_assoc] using this

theorem readS_formB {c b r m : Nat} {w : Bool} (h : sndOk c b r) (hm : m < 4294967296) : readS (formB c b r w m) = some (c, b, r) := by
  have h' := h
  obtain ⟨h1, h2, h3, h4, h5⟩ := h'
  have hb : b < 65536 := by rcases (half_ne _).1 h3 with h | h | h <;> omega
  obtain ⟨e1, e2, e3⟩ := formB_flds (c := c) (b := b) (r := r) (m := m) (w := w) (by omega) hb (by omega)
  rw [readS, e1, e2, e3, if_pos]
  refine ⟨h, ?_⟩
  cases w with
  | false => exact .inl rfl
  | true => exact .inr (by rw [formB_mask hm])

theorem pow_le6 {c : Nat} (h : c ≤ 6) : 2 ^ c - 1 < 4294967296 := by
  have : 2 ^ c ≤ 2 ^ 6 := Nat.pow_le_pow_right (by omega) h
  omega

theorem readS_formW {c x r : Int} (h : sndOk c x r) : readS (formW c x r) = some (c.toNat, x.toNat, r.toNat) := by
  obtain ⟨c, x, r, rfl, rfl, rfl⟩ := sndOk_nat h
  unfold formW
  simp only [Int.toNat_natCast]
  exact readS_formB h (pow_le6 (by have := h.2.1; omega))

theorem smpN_back {x y : Int} (hx : half x ≠ 0) (h1 : -half x ≤ y) (h2 : y < half x) : smpD x (smpE x y) = y := by
  unfold smpE
  rcases half_cases x with ⟨rfl, h⟩ | ⟨rfl, h⟩ | ⟨rfl, h⟩ | ⟨_, _, _, h⟩
  · rw [h] at h1 h2
    have e : ((8 : Int) / 8).toNat = 1 := by decide
    rw [smpD8, e, leN_leB2 1 _ (by unfold smpN; rw [if_pos rfl]; omega)]
    unfold smpN; rw [if_pos rfl]; omega
  · rw [h] at h1 h2
    have e : ((16 : Int) / 8).toNat = 2 := by decide
    have e3 : smpN 16 y = (if y < 0 then y + 65536 else y).toNat := by unfold smpN; rw [if_neg (by decide), h]; rfl
    have e4 : smpN 16 y < 256 ^ 2 := by rw [e3]; split <;> omega
    rw [smpD16, e, leN_leB2 2 _ e4, e3]
    split <;> split <;> omega
  · rw [h] at h1 h2
    have e : ((24 : Int) / 8).toNat = 3 := by decide
    have e3 : smpN 24 y = (if y < 0 then y + 16777216 else y).toNat := by unfold smpN; rw [if_neg (by decide), h]; rfl
    have e4 : smpN 24 y < 256 ^ 3 := by rw [e3]; split <;> omega
    rw [smpD24, e, leN_leB2 3 _ e4, e3]
    split <;> split <;> omega
  · exact absurd h hx

theorem width_pos {x : Int} (hx : half x ≠ 0) : 0 < (x / 8).toNat ∧ (x / 8).toNat ≤ 3 ∧ (x / 8).toNat * 8 = x.toNat ∧ ((x / 8).toNat : Int) * 8 = x := by
  rcases (half_ne x).1 hx with h | h | h <;> subst h <;> decide

theorem smpB_chunk {x : Int} : ∀ {l : List Int} {i : Nat} (h : i < l.length), ((smpB x l).drop (i * (x / 8).toNat)).take (x / 8).toNat = smpE x l[i]
  | [], i, h => by simp at h
  | y :: l, 0, h => by
    simp only [smpB, List.flatMap_cons, Nat.zero_mul, List.drop_zero, List.getElem_cons_zero]
    exact List.take_left' (smpE_length x y)
  | y :: l, i + 1, h => by
    have := smpB_chunk (x := x) (l := l) (i := i) (by simpa using h)
    simp only [smpB, List.flatMap_cons, List.getElem_cons_succ] at this ⊢
    rw [show (i + 1) * (x / 8).toNat = (smpE x y).length + i * (x / 8).toNat by rw [smpE_length, Nat.add_mul]; omega, List.drop_append]
    rw [List.drop_of_length_le (by omega), Nat.add_sub_cancel_left, List.nil_append, this]

theorem smpL_back {x : Int} {l : List Int} (h : checkN x l = 0) : smpL x (smpB x l) = l := by
  obtain ⟨h1, h2⟩ := check_len h
  obtain ⟨hp, _⟩ := width_pos h2
  have hlen : (smpL x (smpB x l)).length = l.length := by rw [smpL_length, smpB_length, Nat.mul_div_cancel _ hp]
  refine List.ext_getElem hlen fun i ha hb => ?_
  rw [smpL_get, smpB_chunk hb]
  obtain ⟨q1, q2⟩ := inR_of h hb
  exact smpN_back h2 q1 q2

theorem onlyM_wav {c x r : Int} {l : List Int} : onlyM (wavL c x r l) fmtW = (0, 0) ∧ onlyM (wavL c x r l) dataW = (1, 0) := by
  constructor <;> simp [onlyM, wavL, findM, fmtW, dataW, List.findIdx?_cons]

theorem nonempty_of {c x r : Int} {l : List Int} (h : clipN c x r l = 0) : 0 < l.length := by
  obtain ⟨h1, h2, h3, h4⟩ := clip_ok h
  unfold headN at h4
  split at h4
  · omega
  split at h4
  · omega
  rename_i h5
  have : 1 ≤ (l.length : Int) / c := by omega
  rcases Nat.eq_zero_or_pos l.length with h6 | h6
  · rw [h6] at this; simp at this
  · exact h6

theorem cx8 {c x : Int} (hc : 1 ≤ c) (hx : half x ≠ 0) : c.toNat * x.toNat / 8 = c.toNat * (x / 8).toNat := by
  obtain ⟨_, _, h, _⟩ := width_pos hx
  rw [← h, ← Nat.mul_assoc, Nat.mul_div_cancel _ (by omega)]

/-- Any list of chunks whose only sound is the clip's and whose only data the clip's, the sound first. -/
theorem readW_chunks {b form : List UInt8} {L : List Ck} {c x r : Int} {l : List Int} {i j : Nat} (h : clipN c x r l = 0) (hr : readM b = .inr (waveW', L))
    (h1 : onlyM L fmtW = (i, 0)) (h2 : onlyM L dataW = (j, 0)) (hij : i ≤ j) (h3 : ckAt L i = formW c x r) (h4 : ckAt L j = smpB x l) :
    readW b = .inr (c.toNat, x.toNat, r.toNat, l) := by
  obtain ⟨k1, k2, k3, k4⟩ := clip_ok h
  have k1' := k1
  obtain ⟨c1, c2, c3, c4, c5⟩ := k1'
  obtain ⟨l1, _⟩ := check_len k2
  obtain ⟨w1, w2, w3, w4⟩ := width_pos c3
  have hne := nonempty_of h
  unfold readW
  rw [hr]
  simp only [ne_eq, not_true_eq_false, if_false, h1, h2, h3, h4]
  rw [if_neg (by simp), if_neg (by simp; omega)]
  rw [readS_formW k1]
  have hx : ((x.toNat : Nat) : Int) = x := by omega
  have hc : ((c.toNat : Nat) : Int) = c := by omega
  have hrr : ((r.toNat : Nat) : Int) = r := by omega
  simp only [hx, hc, hrr, smpL_back k2, h]
  have hlen := smpB_length x l
  have e1 : (smpB x l).length % (c.toNat * x.toNat / 8) = 0 := by
    rw [cx8 c1 c3, hlen]
    refine Nat.mod_eq_zero_of_dvd (Nat.mul_dvd_mul ?_ (Nat.dvd_refl _))
    have : (c.toNat : Int) ∣ (l.length : Int) := by rw [hc]; exact Int.dvd_of_emod_eq_zero k3
    exact_mod_cast this
  have e2 : (smpB x l).length ≠ 0 := by
    rw [hlen]; exact Nat.mul_ne_zero (by omega) (by omega)
  have e3 : (smpB x l).length / (x.toNat / 8) = l.length := by
    rw [hlen, show x.toNat / 8 = (x / 8).toNat by omega, Nat.mul_div_cancel _ w1]
  rw [e3, if_neg (by simp [e1, e2]), if_neg (by omega)]
  simp

theorem readW_back {c x r : Int} {l : List Int} (h : clipN c x r l = 0) : readW (wavB c x r l) = .inr (c.toNat, x.toNat, r.toNat, l) := by
  obtain ⟨h1, h2⟩ := wavL_ok h
  have h3 := (checkM_sz h2).1
  have h4 := readM_written h2 [] h3
  rw [List.append_nil, if_pos rfl] at h4
  exact readW_chunks (form := []) h h4 onlyM_wav.1 onlyM_wav.2 (by omega) rfl rfl

end Go.Am

namespace Go.Am
open Go.RowKit

/-! ### The laws of chapter 33 -/

def S_example33 (P : Prg) (f : Nat) : Prop := VC P f [] (clA 1 8 8000 [0, -1])
theorem law33_example {P : Prg} {f t0 t1 : Nat} (bd : Body P f 3 [.cell 0 t0] (ac_cadenzalaw33_example t0 t1)) (ht : aggO P t0 = some (some 4)) : S_example33 P f := by
  refine VC.of_walk 2 rfl (isD_clA _ _ _ _) (ACall.of_body bd (by simp) ?_)
  simp (config := { maxSteps := 4000000 }) (disch := omega) only [step, stepv, ev, okW, onlyFr, Bool.false_and, Bool.true_and, sealw, wl, wn, wp, aop, cV, cV1, ↓reduceIte, Nat.reduceEqDiff, Nat.reduceAdd, Int.cast_ofNat_Int, if_true, if_false, AV.one, repCells, fillA, partCells, Nat.reduceLT, Nat.reduceLeDiff, Nat.reduceMul, Nat.reduceSub, Int.reduceLT, Int.reduceLE, Int.reduceAdd, Int.reduceSub, Int.reduceMul, Int.reduceToNat, sliceCells, cellsAt, srcA, app, reduceCtorEq, Int.reduceEq, Int.reduceNeg, Int.reducePow, Nat.reducePow, Int.reduceTDiv, Int.reduceDiv, Nat.reduceDiv, Nat.reduceMod, Int.reduceMod, Int.reduceTMod, ne_eq, subA, beq_iff_eq, unA, minA, maxA, eqFs, eqA1, beq_self_eq_true, Nat.reduceBEq, ac_cadenzalaw33_example, clA, il, resA, ht, oneOf]
  simp [frzN, frzK, frzL, frzV, isDL, isD, ks]

def S_reads33 (P : Prg) (f : Nat) : Prop := ∀ (b : List UInt8) (c x r : Nat) (l : List Int), b.length < 140737488355328 → readW b = .inr (c, x, r, l) → VC P f [bs b, clA c x r l] (.bool true)
theorem law33_reads {P : Prg} {f fR fS t0 : Nat} (bd : Body P f 19 [.tmp 4] (ac_cadenzalaw33_reads fR fS t0)) (hR : S_WavRead P fR) (hS : S_Same33 P fS) : S_reads33 P f := by
  intro b c x r l hb hr
  refine VC.of_acall (by simp [isDL, isD_bs, isD_clA]) rfl (ACall.of_body bd (by simp) ?_)
  have hR' := hR b hb
  rw [hr] at hR'
  have hl := readW_len hr
  have hS' := hS c x r c x r l l hl hl
  rw [show decide ((c : Int) = c ∧ (x : Int) = x ∧ (r : Int) = r ∧ l = l) = true by simp] at hS'
  simp only [bs, clA, il] at hR' hS'
  simp (config := { maxSteps := 4000000 }) (disch := omega) only [step, stepv, ev, okW, onlyFr, Bool.false_and, Bool.true_and, sealw, wl, wn, wp, aop, cV, cV1, ↓reduceIte, Nat.reduceEqDiff, Nat.reduceAdd, Int.cast_ofNat_Int, if_true, if_false, AV.one, repCells, fillA, partCells, Nat.reduceLT, Nat.reduceLeDiff, Nat.reduceMul, Nat.reduceSub, Int.reduceLT, Int.reduceLE, Int.reduceAdd, Int.reduceSub, Int.reduceMul, Int.reduceToNat, sliceCells, cellsAt, srcA, app, reduceCtorEq, Int.reduceEq, Int.reduceNeg, Int.reducePow, Nat.reducePow, Int.reduceTDiv, Int.reduceDiv, Nat.reduceDiv, Nat.reduceMod, Int.reduceMod, Int.reduceTMod, ne_eq, subA, beq_iff_eq, unA, minA, maxA, eqFs, eqA1, beq_self_eq_true, Nat.reduceBEq, ac_cadenzalaw33_reads, bs, clA, il]
  refine callQ.vc hR' ?_
  simp (config := { maxSteps := 4000000 }) (disch := omega) only [step, stepv, ev, okW, onlyFr, Bool.false_and, Bool.true_and, sealw, wl, wn, wp, aop, cV, cV1, ↓reduceIte, Nat.reduceEqDiff, Nat.reduceAdd, Int.cast_ofNat_Int, if_true, if_false, AV.one, repCells, fillA, partCells, Nat.reduceLT, Nat.reduceLeDiff, Nat.reduceMul, Nat.reduceSub, Int.reduceLT, Int.reduceLE, Int.reduceAdd, Int.reduceSub, Int.reduceMul, Int.reduceToNat, sliceCells, cellsAt, srcA, app, reduceCtorEq, Int.reduceEq, Int.reduceNeg, Int.reducePow, Nat.reducePow, Int.reduceTDiv, Int.reduceDiv, Nat.reduceDiv, Nat.reduceMod, Int.reduceMod, Int.reduceTMod, ne_eq, subA, beq_iff_eq, unA, minA, maxA, eqFs, eqA1, beq_self_eq_true, Nat.reduceBEq, readWA, clA, il]
  refine callQ.vc hS' ?_
  simp (config := { maxSteps := 4000000 }) (disch := omega) only [step, stepv, ev, okW, onlyFr, Bool.false_and, Bool.true_and, sealw, wl, wn, wp, aop, cV, cV1, ↓reduceIte, Nat.reduceEqDiff, Nat.reduceAdd, Int.cast_ofNat_Int, if_true, if_false, AV.one, repCells, fillA, partCells, Nat.reduceLT, Nat.reduceLeDiff, Nat.reduceMul, Nat.reduceSub, Int.reduceLT, Int.reduceLE, Int.reduceAdd, Int.reduceSub, Int.reduceMul, Int.reduceToNat, sliceCells, cellsAt, srcA, app, reduceCtorEq, Int.reduceEq, Int.reduceNeg, Int.reducePow, Nat.reducePow, Int.reduceTDiv, Int.reduceDiv, Nat.reduceDiv, Nat.reduceMod, Int.reduceMod, Int.reduceTMod, ne_eq, subA, beq_iff_eq, unA, minA, maxA, eqFs, eqA1, beq_self_eq_true, Nat.reduceBEq]

def S_fails33 (P : Prg) (f : Nat) : Prop := ∀ (b : List UInt8) (e : Nat), b.length < 140737488355328 → readW b = .inl e → VC P f [bs b, .int .i64 e] (.bool true)
theorem law33_fails {P : Prg} {f fR fS t0 : Nat} (bd : Body P f 20 [.tmp 4] (ac_cadenzalaw33_fails fR fS t0)) (hR : S_WavRead P fR) (hS : S_Same33 P fS) : S_fails33 P f := by
  intro b e hb hr
  refine VC.of_acall (by simp [isDL, isD_bs, isD]) rfl (ACall.of_body bd (by simp) ?_)
  have hR' := hR b hb
  rw [hr] at hR'
  have hS' := hS 0 0 0 0 0 0 [] [] (by simp) (by simp)
  simp only [bs, clA, il] at hR' hS'
  simp (config := { maxSteps := 4000000 }) (disch := omega) only [step, stepv, ev, okW, onlyFr, Bool.false_and, Bool.true_and, sealw, wl, wn, wp, aop, cV, cV1, ↓reduceIte, Nat.reduceEqDiff, Nat.reduceAdd, Int.cast_ofNat_Int, if_true, if_false, AV.one, repCells, fillA, partCells, Nat.reduceLT, Nat.reduceLeDiff, Nat.reduceMul, Nat.reduceSub, Int.reduceLT, Int.reduceLE, Int.reduceAdd, Int.reduceSub, Int.reduceMul, Int.reduceToNat, sliceCells, cellsAt, srcA, app, reduceCtorEq, Int.reduceEq, Int.reduceNeg, Int.reducePow, Nat.reducePow, Int.reduceTDiv, Int.reduceDiv, Nat.reduceDiv, Nat.reduceMod, Int.reduceMod, Int.reduceTMod, ne_eq, subA, beq_iff_eq, unA, minA, maxA, eqFs, eqA1, beq_self_eq_true, Nat.reduceBEq, ac_cadenzalaw33_fails, bs]
  refine callQ.vc hR' ?_
  simp (config := { maxSteps := 4000000 }) (disch := omega) only [step, stepv, ev, okW, onlyFr, Bool.false_and, Bool.true_and, sealw, wl, wn, wp, aop, cV, cV1, ↓reduceIte, Nat.reduceEqDiff, Nat.reduceAdd, Int.cast_ofNat_Int, if_true, if_false, AV.one, repCells, fillA, partCells, Nat.reduceLT, Nat.reduceLeDiff, Nat.reduceMul, Nat.reduceSub, Int.reduceLT, Int.reduceLE, Int.reduceAdd, Int.reduceSub, Int.reduceMul, Int.reduceToNat, sliceCells, cellsAt, srcA, app, reduceCtorEq, Int.reduceEq, Int.reduceNeg, Int.reducePow, Nat.reducePow, Int.reduceTDiv, Int.reduceDiv, Nat.reduceDiv, Nat.reduceMod, Int.reduceMod, Int.reduceTMod, ne_eq, subA, beq_iff_eq, unA, minA, maxA, eqFs, eqA1, beq_self_eq_true, Nat.reduceBEq, readWA, clA, il]
  refine callQ.flat 1 hS' rfl ?_ ?_
  · simp [frzN, frzK, frzL, frzV, ks]
  simp (config := { maxSteps := 4000000 }) (disch := omega) only [step, stepv, ev, okW, onlyFr, Bool.false_and, Bool.true_and, sealw, wl, wn, wp, aop, cV, cV1, ↓reduceIte, Nat.reduceEqDiff, Nat.reduceAdd, Int.cast_ofNat_Int, if_true, if_false, AV.one, repCells, fillA, partCells, Nat.reduceLT, Nat.reduceLeDiff, Nat.reduceMul, Nat.reduceSub, Int.reduceLT, Int.reduceLE, Int.reduceAdd, Int.reduceSub, Int.reduceMul, Int.reduceToNat, sliceCells, cellsAt, srcA, app, reduceCtorEq, Int.reduceEq, Int.reduceNeg, Int.reducePow, Nat.reducePow, Int.reduceTDiv, Int.reduceDiv, Nat.reduceDiv, Nat.reduceMod, Int.reduceMod, Int.reduceTMod, ne_eq, subA, beq_iff_eq, unA, minA, maxA, eqFs, eqA1, beq_self_eq_true, Nat.reduceBEq]

theorem ex_clip : clipN 1 8 8000 [0, -1] = 0 := by decide +kernel
theorem ex_wav : (wavB 1 8 8000 [0, -1]).length = 46 ∧ (wavB 1 8 8000 [0, -1]).drop 44 = [128, 127] := by decide +kernel

theorem law33_alive {P : Prg} {f fE fW fR : Nat} (bd : Body P f 32 [.tmp 0] (ac_cadenzalaw33_alive fE fW fR)) (hE : S_example33 P fE) (hW : S_WavWrite P fW) (hR : S_reads33 P fR) : S_alive P f := by
  refine VC.of_acall rfl rfl (ACall.of_body bd (by simp) ?_)
  have hW' := hW 1 8 8000 [0, -1] (by intro x hx; simp at hx; omega) (by simp)
  rw [wavA, if_neg (by rw [ex_clip]; simp)] at hW'
  obtain ⟨e1, e2⟩ := ex_wav
  have hr := readW_back ex_clip
  generalize hB : wavB 1 8 8000 [0, -1] = B at *
  have hR' := hR B 1 8 8000 [0, -1] (by omega) hr
  have d1 : B[44]'(by omega) = 128 := by
    have := congrArg (fun l : List UInt8 => l[0]?) e2
    simp [List.getElem?_drop, List.getElem?_eq_getElem (show 44 < B.length by omega)] at this
    exact this
  have d2 : B[45]'(by omega) = 127 := by
    have := congrArg (fun l : List UInt8 => l[1]?) e2
    simp [List.getElem?_drop, List.getElem?_eq_getElem (show 45 < B.length by omega)] at this
    exact this
  have u1 := u8_at (l := B) (k := 44) (by omega)
  have u2 := u8_at (l := B) (k := 45) (by omega)
  rw [d1, show (((128 : UInt8).toNat : Nat) : Int) = 128 from rfl] at u1
  rw [d2, show (((127 : UInt8).toNat : Nat) : Int) = 127 from rfl] at u2
  simp only [bs, e1] at hW' hR'
  simp (config := { maxSteps := 4000000 }) (disch := omega) only [step, stepv, ev, okW, onlyFr, Bool.false_and, Bool.true_and, sealw, wl, wn, wp, aop, cV, cV1, ↓reduceIte, Nat.reduceEqDiff, Nat.reduceAdd, Int.cast_ofNat_Int, if_true, if_false, AV.one, repCells, fillA, partCells, Nat.reduceLT, Nat.reduceLeDiff, Nat.reduceMul, Nat.reduceSub, Int.reduceLT, Int.reduceLE, Int.reduceAdd, Int.reduceSub, Int.reduceMul, Int.reduceToNat, sliceCells, cellsAt, srcA, app, reduceCtorEq, Int.reduceEq, Int.reduceNeg, Int.reducePow, Nat.reducePow, Int.reduceTDiv, Int.reduceDiv, Nat.reduceDiv, Nat.reduceMod, Int.reduceMod, Int.reduceTMod, ne_eq, subA, beq_iff_eq, unA, minA, maxA, eqFs, eqA1, beq_self_eq_true, Nat.reduceBEq, ac_cadenzalaw33_alive]
  refine callQ.vc hE ?_
  simp (config := { maxSteps := 4000000 }) (disch := omega) only [step, stepv, ev, okW, onlyFr, Bool.false_and, Bool.true_and, sealw, wl, wn, wp, aop, cV, cV1, ↓reduceIte, Nat.reduceEqDiff, Nat.reduceAdd, Int.cast_ofNat_Int, if_true, if_false, AV.one, repCells, fillA, partCells, Nat.reduceLT, Nat.reduceLeDiff, Nat.reduceMul, Nat.reduceSub, Int.reduceLT, Int.reduceLE, Int.reduceAdd, Int.reduceSub, Int.reduceMul, Int.reduceToNat, sliceCells, cellsAt, srcA, app, reduceCtorEq, Int.reduceEq, Int.reduceNeg, Int.reducePow, Nat.reducePow, Int.reduceTDiv, Int.reduceDiv, Nat.reduceDiv, Nat.reduceMod, Int.reduceMod, Int.reduceTMod, ne_eq, subA, beq_iff_eq, unA, minA, maxA, eqFs, eqA1, beq_self_eq_true, Nat.reduceBEq]
  refine callQ.vc hW' ?_
  simp (config := { maxSteps := 4000000 }) (disch := omega) only [step, stepv, ev, okW, onlyFr, Bool.false_and, Bool.true_and, sealw, wl, wn, wp, aop, cV, cV1, ↓reduceIte, Nat.reduceEqDiff, Nat.reduceAdd, Int.cast_ofNat_Int, if_true, if_false, AV.one, repCells, fillA, partCells, Nat.reduceLT, Nat.reduceLeDiff, Nat.reduceMul, Nat.reduceSub, Int.reduceLT, Int.reduceLE, Int.reduceAdd, Int.reduceSub, Int.reduceMul, Int.reduceToNat, sliceCells, cellsAt, srcA, app, reduceCtorEq, Int.reduceEq, Int.reduceNeg, Int.reducePow, Nat.reducePow, Int.reduceTDiv, Int.reduceDiv, Nat.reduceDiv, Nat.reduceMod, Int.reduceMod, Int.reduceTMod, ne_eq, subA, beq_iff_eq, unA, minA, maxA, eqFs, eqA1, beq_self_eq_true, Nat.reduceBEq, u1, u2]
  refine callQ.vc hE ?_
  simp (config := { maxSteps := 4000000 }) (disch := omega) only [step, stepv, ev, okW, onlyFr, Bool.false_and, Bool.true_and, sealw, wl, wn, wp, aop, cV, cV1, ↓reduceIte, Nat.reduceEqDiff, Nat.reduceAdd, Int.cast_ofNat_Int, if_true, if_false, AV.one, repCells, fillA, partCells, Nat.reduceLT, Nat.reduceLeDiff, Nat.reduceMul, Nat.reduceSub, Int.reduceLT, Int.reduceLE, Int.reduceAdd, Int.reduceSub, Int.reduceMul, Int.reduceToNat, sliceCells, cellsAt, srcA, app, reduceCtorEq, Int.reduceEq, Int.reduceNeg, Int.reducePow, Nat.reducePow, Int.reduceTDiv, Int.reduceDiv, Nat.reduceDiv, Nat.reduceMod, Int.reduceMod, Int.reduceTMod, ne_eq, subA, beq_iff_eq, unA, minA, maxA, eqFs, eqA1, beq_self_eq_true, Nat.reduceBEq]
  refine callQ.vc hR' ?_
  simp (config := { maxSteps := 4000000 }) (disch := omega) only [step, stepv, ev, okW, onlyFr, Bool.false_and, Bool.true_and, sealw, wl, wn, wp, aop, cV, cV1, ↓reduceIte, Nat.reduceEqDiff, Nat.reduceAdd, Int.cast_ofNat_Int, if_true, if_false, AV.one, repCells, fillA, partCells, Nat.reduceLT, Nat.reduceLeDiff, Nat.reduceMul, Nat.reduceSub, Int.reduceLT, Int.reduceLE, Int.reduceAdd, Int.reduceSub, Int.reduceMul, Int.reduceToNat, sliceCells, cellsAt, srcA, app, reduceCtorEq, Int.reduceEq, Int.reduceNeg, Int.reducePow, Nat.reducePow, Int.reduceTDiv, Int.reduceDiv, Nat.reduceDiv, Nat.reduceMod, Int.reduceMod, Int.reduceTMod, ne_eq, subA, beq_iff_eq, unA, minA, maxA, eqFs, eqA1, beq_self_eq_true, Nat.reduceBEq]

end Go.Am

namespace Go.Am
open Go.RowKit

end Go.Am

namespace Go.Am
open Go.RowKit

theorem u8_app (a b : List UInt8) : u8 (a ++ b) = u8 a ++ u8 b := by simp [u8]

end Go.Am

namespace Go.Am
open Go.RowKit

end Go.Am

namespace Go.Am
open Go.RowKit

def nmL : List Ck → List AV
  | [] => []
  | c :: l => .str c.1 :: .str c.2 :: nmL l
theorem nmL_length : ∀ l : List Ck, (nmL l).length = 2 * l.length
  | [] => rfl
  | c :: l => by simp [nmL, nmL_length l]; omega
theorem nmL_drop : ∀ {l : List Ck} {k : Nat} (h : k < l.length), (nmL l).drop (2 * k) = .str l[k].1 :: .str l[k].2 :: (nmL l).drop (2 * k + 2)
  | c :: l, 0, _ => rfl
  | c :: l, k + 1, h => by
    have := nmL_drop (l := l) (k := k) (by simpa using h)
    rw [show 2 * (k + 1) = 2 * k + 1 + 1 by omega]
    simpa [nmL] using this
theorem nmL_drop1 {l : List Ck} {k : Nat} (h : k < l.length) : (nmL l).drop (2 * k + 1) = .str l[k].2 :: (nmL l).drop (2 * k + 2) := by
  have := nmL_drop h
  rw [← List.drop_drop, this]; rfl
theorem isDL_nmL : ∀ l : List Ck, isDL (nmL l) = true
  | [] => rfl
  | c :: l => by simp [nmL, isDL, isD, isDL_nmL l]
theorem isTL_nmL : ∀ l : List Ck, isTL (nmL l) = true
  | [] => rfl
  | c :: l => by simp [nmL, isTL, isT, isTL_nmL l]
theorem ckL_take_succ {l : List Ck} {k : Nat} (h : k < l.length) : ckL (l.take (k + 1)) = ckL (l.take k) ++ [.str l[k].1, bs l[k].2] := by
  rw [List.take_succ_eq_append_getElem h, ← ckL_append]; rfl

def S_file33 (P : Prg) (f : Nat) : Prop := ∀ (form : List UInt8) (L : List Ck), form.length ≤ 20 → okL L → checkM form L = 0 → VC P f [.str form, .list (2 * L.length) (nmL L)] (bs (bytesM form L))
set_option maxRecDepth 20000 in
theorem law33_file {P : Prg} {f fV t0 : Nat} (bd : Body P f 37 [.tmp 4] (ac_cadenzalaw33_file fV t0)) (hV : S_Write P fV) : S_file33 P f := by
  intro form L hf ho hc
  refine VC.of_acall (by simp [isDL, isD, isDL_nmL]) (isD_bs _) (ACall.of_body bd (by simp) ?_)
  have hV' := hV form L hf ho
  rw [writeA, if_pos hc] at hV'
  have hL := ho.1
  have e2 := nmL_length L
  simp (config := { maxSteps := 4000000 }) (disch := omega) only [step, stepv, ev, okW, onlyFr, Bool.false_and, Bool.true_and, sealw, wl, wn, wp, aop, cV, cV1, ↓reduceIte, Nat.reduceEqDiff, Nat.reduceAdd, Int.cast_ofNat_Int, if_true, if_false, AV.one, repCells, fillA, partCells, Nat.reduceLT, Nat.reduceLeDiff, Nat.reduceMul, Nat.reduceSub, Int.reduceLT, Int.reduceLE, Int.reduceAdd, Int.reduceSub, Int.reduceMul, Int.reduceToNat, sliceCells, cellsAt, srcA, app, reduceCtorEq, Int.reduceEq, Int.reduceNeg, Int.reducePow, Nat.reducePow, Int.reduceTDiv, Int.reduceDiv, Nat.reduceDiv, Nat.reduceMod, Int.reduceMod, Int.reduceTMod, ne_eq, subA, beq_iff_eq, unA, minA, maxA, eqFs, eqA1, beq_self_eq_true, Nat.reduceBEq, ac_cadenzalaw33_file]
  refine ALoop.by (ι := Nat) (fun k => ⟨[(6, .int .i64 (2 * k : Nat)), (5, .own 0 k), (0, .str form), (1, .list (2 * L.length) (nmL L))], [⟨t0, 2, k, ckL (L.take k), 0⟩]⟩) (fun k => k ≤ L.length) (fun k => L.length - k) 0 ?_ (by omega) ?_
  · exact Le.trans (Le.virt 5 t0 2 (by omega) rfl) (Le.slots (by simp [Am.look, ckL]))
  intro k hk
  by_cases hlt : k < L.length
  · have e1 := nmL_drop hlt
    have e1' := nmL_drop1 hlt
    have e4 : ckL (L.take k) ++ [.str L[k].1, .list L[k].2.length (u8 L[k].2)] = ckL (L.take (k + 1)) := (ckL_take_succ hlt).symm
    simp (config := { maxSteps := 4000000 }) (disch := omega) only [step, stepv, ev, okW, onlyFr, Bool.false_and, Bool.true_and, sealw, wl, wn, wp, aop, cV, cV1, ↓reduceIte, Nat.reduceEqDiff, Nat.reduceAdd, Int.cast_ofNat_Int, if_true, if_false, AV.one, repCells, fillA, partCells, Nat.reduceLT, Nat.reduceLeDiff, Nat.reduceMul, Nat.reduceSub, Int.reduceLT, Int.reduceLE, Int.reduceAdd, Int.reduceSub, Int.reduceMul, Int.reduceToNat, sliceCells, cellsAt, srcA, app, reduceCtorEq, Int.reduceEq, Int.reduceNeg, Int.reducePow, Nat.reducePow, Int.reduceTDiv, Int.reduceDiv, Nat.reduceDiv, Nat.reduceMod, Int.reduceMod, Int.reduceTMod, ne_eq, subA, beq_iff_eq, unA, minA, maxA, eqFs, eqA1, beq_self_eq_true, Nat.reduceBEq, e1, e1', e2, e4, isDL, isD, isDL_u8]
    exact ⟨k + 1, by omega, by omega, Le.dropT [_] (by simp [isT_ckL]) (by simp [Am.look, frzK, frzL, frzV, frzL_T _ (isTL_nmL L)]; omega)⟩
  · have ek : k = L.length := by omega
    subst ek
    rw [List.take_length]
    simp (config := { maxSteps := 4000000 }) (disch := omega) only [step, stepv, ev, okW, onlyFr, Bool.false_and, Bool.true_and, sealw, wl, wn, wp, aop, cV, cV1, ↓reduceIte, Nat.reduceEqDiff, Nat.reduceAdd, Int.cast_ofNat_Int, if_true, if_false, AV.one, repCells, fillA, partCells, Nat.reduceLT, Nat.reduceLeDiff, Nat.reduceMul, Nat.reduceSub, Int.reduceLT, Int.reduceLE, Int.reduceAdd, Int.reduceSub, Int.reduceMul, Int.reduceToNat, sliceCells, cellsAt, srcA, app, reduceCtorEq, Int.reduceEq, Int.reduceNeg, Int.reducePow, Nat.reducePow, Int.reduceTDiv, Int.reduceDiv, Nat.reduceDiv, Nat.reduceMod, Int.reduceMod, Int.reduceTMod, ne_eq, subA, beq_iff_eq, unA, minA, maxA, eqFs, eqA1, beq_self_eq_true, Nat.reduceBEq, e2]
    refine callQ.still 1 [0] hV' ?_ ?_
    · simp [frzN, frzK, frzL, frzV, frzL_T _ (isT_ckL L)]
    simp (config := { maxSteps := 4000000 }) (disch := omega) only [step, stepv, ev, okW, onlyFr, Bool.false_and, Bool.true_and, sealw, wl, wn, wp, aop, cV, cV1, ↓reduceIte, Nat.reduceEqDiff, Nat.reduceAdd, Int.cast_ofNat_Int, if_true, if_false, AV.one, repCells, fillA, partCells, Nat.reduceLT, Nat.reduceLeDiff, Nat.reduceMul, Nat.reduceSub, Int.reduceLT, Int.reduceLE, Int.reduceAdd, Int.reduceSub, Int.reduceMul, Int.reduceToNat, sliceCells, cellsAt, srcA, app, reduceCtorEq, Int.reduceEq, Int.reduceNeg, Int.reducePow, Nat.reducePow, Int.reduceTDiv, Int.reduceDiv, Nat.reduceDiv, Nat.reduceMod, Int.reduceMod, Int.reduceTMod, ne_eq, subA, beq_iff_eq, unA, minA, maxA, eqFs, eqA1, beq_self_eq_true, Nat.reduceBEq, bs]

def S_file33O (ty : Nat) (P : Prg) (f : Nat) : Prop := ∀ (form : List UInt8) (L : List Ck), form.length ≤ 20 → okL L → checkM form L = 0 → VO P f [.str form, .list (2 * L.length) (nmL L)] (.own 0 (bytesM form L).length) ⟨ty, 1, (bytesM form L).length, u8 (bytesM form L), 0⟩
set_option maxRecDepth 20000 in
theorem law33_fileO {P : Prg} {f fV t0 ty : Nat} (bd : Body P f 37 [.tmp 4] (ac_cadenzalaw33_file fV t0)) (hV : S_WriteO ty P fV) : S_file33O ty P f := by
  intro form L hf ho hc
  refine VO.of_walk (by simp [isDL, isD, isDL_nmL]) (isDL_u8 _) (by simp [okr]) (ACall.of_body bd (by simp) ?_)
  have hV' := hV form L hf ho hc
  have hL := ho.1
  have e2 := nmL_length L
  simp (config := { maxSteps := 4000000 }) (disch := omega) only [step, stepv, ev, okW, onlyFr, Bool.false_and, Bool.true_and, sealw, wl, wn, wp, aop, cV, cV1, ↓reduceIte, Nat.reduceEqDiff, Nat.reduceAdd, Int.cast_ofNat_Int, if_true, if_false, AV.one, repCells, fillA, partCells, Nat.reduceLT, Nat.reduceLeDiff, Nat.reduceMul, Nat.reduceSub, Int.reduceLT, Int.reduceLE, Int.reduceAdd, Int.reduceSub, Int.reduceMul, Int.reduceToNat, sliceCells, cellsAt, srcA, app, reduceCtorEq, Int.reduceEq, Int.reduceNeg, Int.reducePow, Nat.reducePow, Int.reduceTDiv, Int.reduceDiv, Nat.reduceDiv, Nat.reduceMod, Int.reduceMod, Int.reduceTMod, ne_eq, subA, beq_iff_eq, unA, minA, maxA, eqFs, eqA1, beq_self_eq_true, Nat.reduceBEq, ac_cadenzalaw33_file]
  refine ALoop.by (ι := Nat) (fun k => ⟨[(6, .int .i64 (2 * k : Nat)), (5, .own 0 k), (0, .str form), (1, .list (2 * L.length) (nmL L))], [⟨t0, 2, k, ckL (L.take k), 0⟩]⟩) (fun k => k ≤ L.length) (fun k => L.length - k) 0 ?_ (by omega) ?_
  · exact Le.trans (Le.virt 5 t0 2 (by omega) rfl) (Le.slots (by simp [Am.look, ckL]))
  intro k hk
  by_cases hlt : k < L.length
  · have e1 := nmL_drop hlt
    have e1' := nmL_drop1 hlt
    have e4 : ckL (L.take k) ++ [.str L[k].1, .list L[k].2.length (u8 L[k].2)] = ckL (L.take (k + 1)) := (ckL_take_succ hlt).symm
    simp (config := { maxSteps := 4000000 }) (disch := omega) only [step, stepv, ev, okW, onlyFr, Bool.false_and, Bool.true_and, sealw, wl, wn, wp, aop, cV, cV1, ↓reduceIte, Nat.reduceEqDiff, Nat.reduceAdd, Int.cast_ofNat_Int, if_true, if_false, AV.one, repCells, fillA, partCells, Nat.reduceLT, Nat.reduceLeDiff, Nat.reduceMul, Nat.reduceSub, Int.reduceLT, Int.reduceLE, Int.reduceAdd, Int.reduceSub, Int.reduceMul, Int.reduceToNat, sliceCells, cellsAt, srcA, app, reduceCtorEq, Int.reduceEq, Int.reduceNeg, Int.reducePow, Nat.reducePow, Int.reduceTDiv, Int.reduceDiv, Nat.reduceDiv, Nat.reduceMod, Int.reduceMod, Int.reduceTMod, ne_eq, subA, beq_iff_eq, unA, minA, maxA, eqFs, eqA1, beq_self_eq_true, Nat.reduceBEq, e1, e1', e2, e4, isDL, isD, isDL_u8]
    exact ⟨k + 1, by omega, by omega, Le.dropT [_] (by simp [isT_ckL]) (by simp [Am.look, frzK, frzL, frzV, frzL_T _ (isTL_nmL L)]; omega)⟩
  · have ek : k = L.length := by omega
    subst ek
    rw [List.take_length]
    simp (config := { maxSteps := 4000000 }) (disch := omega) only [step, stepv, ev, okW, onlyFr, Bool.false_and, Bool.true_and, sealw, wl, wn, wp, aop, cV, cV1, ↓reduceIte, Nat.reduceEqDiff, Nat.reduceAdd, Int.cast_ofNat_Int, if_true, if_false, AV.one, repCells, fillA, partCells, Nat.reduceLT, Nat.reduceLeDiff, Nat.reduceMul, Nat.reduceSub, Int.reduceLT, Int.reduceLE, Int.reduceAdd, Int.reduceSub, Int.reduceMul, Int.reduceToNat, sliceCells, cellsAt, srcA, app, reduceCtorEq, Int.reduceEq, Int.reduceNeg, Int.reducePow, Nat.reducePow, Int.reduceTDiv, Int.reduceDiv, Nat.reduceDiv, Nat.reduceMod, Int.reduceMod, Int.reduceTMod, ne_eq, subA, beq_iff_eq, unA, minA, maxA, eqFs, eqA1, beq_self_eq_true, Nat.reduceBEq, e2]
    refine callQ.vo_still 1 [0] hV' ?_ ?_
    · simp [frzN, frzK, frzL, frzV, frzL_T _ (isT_ckL L)]
    simp (config := { maxSteps := 4000000 }) (disch := omega) only [step, stepv, ev, okW, onlyFr, Bool.false_and, Bool.true_and, sealw, wl, wn, wp, aop, cV, cV1, ↓reduceIte, Nat.reduceEqDiff, Nat.reduceAdd, Int.cast_ofNat_Int, if_true, if_false, AV.one, repCells, fillA, partCells, Nat.reduceLT, Nat.reduceLeDiff, Nat.reduceMul, Nat.reduceSub, Int.reduceLT, Int.reduceLE, Int.reduceAdd, Int.reduceSub, Int.reduceMul, Int.reduceToNat, sliceCells, cellsAt, srcA, app, reduceCtorEq, Int.reduceEq, Int.reduceNeg, Int.reducePow, Nat.reducePow, Int.reduceTDiv, Int.reduceDiv, Nat.reduceDiv, Nat.reduceMod, Int.reduceMod, Int.reduceTMod, ne_eq, subA, beq_iff_eq, unA, minA, maxA, eqFs, eqA1, beq_self_eq_true, Nat.reduceBEq, shr, stillAt]
    exact ⟨1, rfl, rfl⟩

def S_said33 (P : Prg) (f : Nat) : Prop := ∀ (c b r : Int), sndOk c b r → VC P f [.int .i64 c, .int .i64 b, .int .i64 r] (.str (formW c b r))
theorem law33_said {P : Prg} {f fW : Nat} (bd : Body P f 19 [.tmp 6] (ac_cadenzalaw33_said fW)) (hW : S_SWrite P fW) : S_said33 P f := by
  intro c b r h
  refine VC.of_acall rfl rfl (ACall.of_body bd (by simp) ?_)
  have hW' := hW c b r
  rw [if_pos h, sndA] at hW'
  simp (config := { maxSteps := 4000000 }) (disch := omega) only [step, stepv, ev, okW, onlyFr, Bool.false_and, Bool.true_and, sealw, wl, wn, wp, aop, cV, cV1, ↓reduceIte, Nat.reduceEqDiff, Nat.reduceAdd, Int.cast_ofNat_Int, if_true, if_false, AV.one, repCells, fillA, partCells, Nat.reduceLT, Nat.reduceLeDiff, Nat.reduceMul, Nat.reduceSub, Int.reduceLT, Int.reduceLE, Int.reduceAdd, Int.reduceSub, Int.reduceMul, Int.reduceToNat, sliceCells, cellsAt, srcA, app, reduceCtorEq, Int.reduceEq, Int.reduceNeg, Int.reducePow, Nat.reducePow, Int.reduceTDiv, Int.reduceDiv, Nat.reduceDiv, Nat.reduceMod, Int.reduceMod, Int.reduceTMod, ne_eq, subA, beq_iff_eq, unA, minA, maxA, eqFs, eqA1, beq_self_eq_true, Nat.reduceBEq, ac_cadenzalaw33_said]
  refine callQ.vc hW' ?_
  simp (config := { maxSteps := 4000000 }) (disch := omega) only [step, stepv, ev, okW, onlyFr, Bool.false_and, Bool.true_and, sealw, wl, wn, wp, aop, cV, cV1, ↓reduceIte, Nat.reduceEqDiff, Nat.reduceAdd, Int.cast_ofNat_Int, if_true, if_false, AV.one, repCells, fillA, partCells, Nat.reduceLT, Nat.reduceLeDiff, Nat.reduceMul, Nat.reduceSub, Int.reduceLT, Int.reduceLE, Int.reduceAdd, Int.reduceSub, Int.reduceMul, Int.reduceToNat, sliceCells, cellsAt, srcA, app, reduceCtorEq, Int.reduceEq, Int.reduceNeg, Int.reducePow, Nat.reducePow, Int.reduceTDiv, Int.reduceDiv, Nat.reduceDiv, Nat.reduceMod, Int.reduceMod, Int.reduceTMod, ne_eq, subA, beq_iff_eq, unA, minA, maxA, eqFs, eqA1, beq_self_eq_true, Nat.reduceBEq, bs, strA]

end Go.Am

namespace Go.Am
open Go.RowKit

theorem smpL_zero (n : Nat) : smpL 8 (List.replicate n 0) = List.replicate n (-128) := by
  have hl : (smpL 8 (List.replicate n 0)).length = n := by
    rw [smpL_length, List.length_replicate, show ((8 : Int) / 8).toNat = 1 by decide, Nat.div_one]
  refine List.ext_getElem (by simpa using hl) fun i h1 h2 => ?_
  rw [smpL_get, smpD8, show ((8 : Int) / 8).toNat = 1 by decide, leN1 (by simp; omega)]
  simp

theorem checkM_two {F D : List UInt8} (hF : F.length ≤ 40) (hD : D.length ≤ 90000) : okL [(fmtW, F), (dataW, D)] ∧ checkM waveW' [(fmtW, F), (dataW, D)] = 0 := by
  refine ⟨⟨by simp, fun q hq => ?_⟩, ?_⟩
  · simp at hq
    rcases hq with rfl | rfl
    · simp [fmtW]; omega
    · simp [dataW]; omega
  · have hs : szL [(fmtW, F), (dataW, D)] = (8 + F.length + F.length % 2) + (8 + D.length + D.length % 2) := by simp [szL, szC]
    unfold checkM
    rw [hs, if_neg (by simp), if_neg]
    rintro (h' | h' | h')
    · revert h'; decide
    · omega
    · revert h'; simp; decide

theorem readW_two {F D : List UInt8} {c x r : Nat} (hF : F.length ≤ 40) (hD : D.length ≤ 90000) (hs : readS F = some (c, x, r)) :
    readW (bytesM waveW' [(fmtW, F), (dataW, D)]) = if D.length = 0 ∨ D.length % (c * x / 8) ≠ 0 then .inl 12 else if 4000 < D.length / (x / 8) then .inl 4 else if clipN c x r (smpL x D) ≠ 0 then .inl 4 else .inr (c, x, r, smpL x D) := by
  obtain ⟨h1, h2⟩ := checkM_two hF hD
  have h3 := readM_written h2 [] (checkM_sz h2).1
  rw [List.append_nil, if_pos rfl] at h3
  have o1 : onlyM [(fmtW, F), (dataW, D)] fmtW = (0, 0) := by simp [onlyM, findM, fmtW, dataW, List.findIdx?_cons]
  have o2 : onlyM [(fmtW, F), (dataW, D)] dataW = (1, 0) := by simp [onlyM, findM, fmtW, dataW, List.findIdx?_cons]
  have c1 : ckAt [(fmtW, F), (dataW, D)] 0 = F := rfl
  have c2 : ckAt [(fmtW, F), (dataW, D)] 1 = D := rfl
  unfold readW
  rw [h3]
  simp only [ne_eq, not_true_eq_false, if_false, o1, o2, c1, c2, hs]
  simp

theorem checkN_zero {n : Nat} (h : n ≤ 4000) : checkN 8 (List.replicate n (-128)) = 0 := by
  unfold checkN
  rw [if_neg (by decide), if_neg (by simp; omega), if_pos]
  rw [List.all_replicate]
  split
  · rfl
  · decide

theorem len_two {F D : List UInt8} (hF : F.length ≤ 40) (hD : D.length ≤ 90000) : (bytesM waveW' [(fmtW, F), (dataW, D)]).length < 140737488355328 := by
  obtain ⟨h1, h2⟩ := checkM_two hF hD
  rw [bytesM_length (by decide) fun q hq => name4 ((checkM_names h2).2 q hq)]
  have := (checkM_sz h2).1
  omega
theorem rs1 : readS (formW 1 8 8000) = some (1, 8, 8000) ∧ (formW 1 8 8000).length ≤ 40 := by decide +kernel
theorem rs2 : readS (formW 1 8 1) = some (1, 8, 1) ∧ (formW 1 8 1).length ≤ 40 := by decide +kernel
theorem read_many {n : Nat} (h : 4000 < n) (h2 : n ≤ 90000) : readW (bytesM waveW' [(fmtW, formW 1 8 8000), (dataW, List.replicate n 0)]) = .inl 4 := by
  rw [readW_two rs1.2 (by rw [List.length_replicate]; exact h2) rs1.1]
  simp only [List.length_replicate, Nat.reduceMul, Nat.reduceDiv, Nat.mod_one, Nat.div_one]
  rw [if_neg (by omega), if_pos h]
theorem read_thou {n : Nat} (h : n = 1001) : readW (bytesM waveW' [(fmtW, formW 1 8 1), (dataW, List.replicate n 0)]) = .inl 4 := by
  rw [readW_two rs2.2 (by rw [List.length_replicate]; omega) rs2.1]
  simp only [List.length_replicate, Nat.reduceMul, Nat.reduceDiv, Nat.mod_one, Nat.div_one]
  rw [if_neg (by omega), if_neg (by omega), if_pos]
  have hl : (smpL 8 (List.replicate n 0)).length = 1001 := by rw [smpL_zero, List.length_replicate, h]
  show clipN 1 8 1 (smpL 8 (List.replicate n 0)) ≠ 0
  generalize smpL 8 (List.replicate n 0) = s at *
  unfold clipN
  rw [hl, if_neg (by decide), if_neg (by decide), if_pos (by decide)]
  decide
theorem read_whole {n : Nat} (h : n = 4000) : readW (bytesM waveW' [(fmtW, formW 1 8 8000), (dataW, List.replicate n 0)]) = .inr (1, 8, 8000, List.replicate n (-128)) := by
  rw [readW_two rs1.2 (by rw [List.length_replicate]; omega) rs1.1]
  simp only [List.length_replicate, Nat.reduceMul, Nat.reduceDiv, Nat.mod_one, Nat.div_one]
  rw [if_neg (by omega), if_neg (by omega), if_neg]
  · show Sum.inr (1, 8, 8000, smpL 8 (List.replicate n 0)) = _
    rw [smpL_zero]
  · show ¬ clipN 1 8 8000 (smpL 8 (List.replicate n 0)) ≠ 0
    rw [smpL_zero]
    unfold clipN
    rw [checkN_zero (by omega), List.length_replicate, h]
    decide

set_option maxRecDepth 20000 in
set_option maxHeartbeats 8000000 in
theorem law33_WavNames {P : Prg} {f fS fF fE fR fK fL fW fV fZ fA fC t0 t1 t2 t3 : Nat} (bd : Body P f 214 [.tmp 0] (ac_cadenzalaw33_WavNames fS fF fE fR fK fL fW fV fZ fA fC t0 t1 t2 t3)) (hS : S_said33 P fS) (hF : S_file33 P fF) (hE : S_example33 P fE) (hR : S_reads33 P fR) (hK : S_SMask P fK) (hL : S_fails33 P fL) (hW : S_WavRead P fW) (hV : S_WavWrite P fV) (hZ : S_WavSize P fZ) (hA : S_alive P fA) (hC : S_ClipCheck P fC) (hO : S_file33O t2 P fF) : S_alive P f := by
  refine VC.of_acall rfl rfl (ACall.of_body bd (by simp) ?_)
  have F : ∀ (form : List UInt8) (L : List Ck) (b : List UInt8), form.length ≤ 20 → okL L → checkM form L = 0 → bytesM form L = b → VC P fF [.str form, .list (2 * L.length) (nmL L)] (.list b.length (u8 b)) := fun form L b h1 h2 h3 h4 => by
    subst h4; exact hF form L h1 h2 h3
  have fl : ∀ (b : List UInt8) (e : Nat), b.length < 140737488355328 → readW b = .inl e → VC P fL [.list b.length (u8 b), .int .i64 e] (.bool true) := hL
  have re : ∀ (b : List UInt8) (c x r : Nat) (l : List Int), b.length < 140737488355328 → readW b = .inr (c, x, r, l) → VC P fR [.list b.length (u8 b), clA c x r l] (.bool true) := hR
  have hs1 := hS 1 8 8000 (by decide)
  have hs2 := hS 2 24 1 (by decide)
  have hs3 := hS 2 8 1 (by decide)
  have hs4 := hS 1 24 1 (by decide)
  have hs5 := hS 1 8 1 (by decide)
  have hk := hK 1 8 8000 0 (by decide) (by decide)
  have rm := fun n h => @read_many n h
  have rt := fun n h => @read_thou n h
  have rw' := fun n h => @read_whole n h
  have lm : (formW 1 8 8000).length = 16 := by decide +kernel
  have lx : (formW 1 8 1).length = 16 := by decide +kernel
  obtain ⟨mono, hm⟩ : ∃ m, m = formW 1 8 8000 := ⟨_, rfl⟩
  obtain ⟨sx, hx⟩ : ∃ m, m = formW 1 8 1 := ⟨_, rfl⟩
  obtain ⟨s2, hm2⟩ : ∃ m, m = formW 2 24 1 := ⟨_, rfl⟩
  obtain ⟨s1, hm1⟩ : ∃ m, m = formW 2 8 1 := ⟨_, rfl⟩
  obtain ⟨s3, hm3⟩ : ∃ m, m = formW 1 24 1 := ⟨_, rfl⟩
  obtain ⟨mk, hmk⟩ : ∃ m, m = formB 1 8 8000 true 0 := ⟨_, rfl⟩
  rw [← hm] at hs1 lm rm rw'
  rw [← hm2] at hs2
  rw [← hm1] at hs3
  rw [← hm3] at hs4
  rw [← hx] at hs5 lx rt
  rw [← hmk, sndA, bs] at hk
  obtain ⟨bg1, hbg1⟩ : ∃ b, bytesM [87, 65, 86, 69] [([102, 109, 116, 32], mono), ([100, 97, 116, 97], [128, 127])] = b := ⟨_, rfl⟩
  have fg1 : VC P fF [.str [87, 65, 86, 69], .list 4 [.str [102, 109, 116, 32], .str mono, .str [100, 97, 116, 97], .str [128, 127]]] (.list bg1.length (u8 bg1)) := F [87, 65, 86, 69] [([102, 109, 116, 32], mono), ([100, 97, 116, 97], [128, 127])] bg1 (by decide) (by unfold okL; subst hm hx hm2 hm1 hm3 hmk; decide +kernel) (by subst hm hx hm2 hm1 hm3 hmk; decide +kernel) hbg1
  have lg1 : bg1.length < 140737488355328 := by subst hbg1 hm hx hm2 hm1 hm3 hmk; decide +kernel
  have rg1 : readW bg1 = .inr (1, 8, 8000, [0, -1]) := by subst hbg1 hm hx hm2 hm1 hm3 hmk; decide +kernel
  obtain ⟨bg2, hbg2⟩ : ∃ b, bytesM [87, 65, 86, 69] [([76, 73, 83, 84], [120]), ([102, 109, 116, 32], mono), ([102, 97, 99, 116], []), ([100, 97, 116, 97], [128, 127]), ([76, 73, 83, 84], [121, 122])] = b := ⟨_, rfl⟩
  have fg2 : VC P fF [.str [87, 65, 86, 69], .list 10 [.str [76, 73, 83, 84], .str [120], .str [102, 109, 116, 32], .str mono, .str [102, 97, 99, 116], .str [], .str [100, 97, 116, 97], .str [128, 127], .str [76, 73, 83, 84], .str [121, 122]]] (.list bg2.length (u8 bg2)) := F [87, 65, 86, 69] [([76, 73, 83, 84], [120]), ([102, 109, 116, 32], mono), ([102, 97, 99, 116], []), ([100, 97, 116, 97], [128, 127]), ([76, 73, 83, 84], [121, 122])] bg2 (by decide) (by unfold okL; subst hm hx hm2 hm1 hm3 hmk; decide +kernel) (by subst hm hx hm2 hm1 hm3 hmk; decide +kernel) hbg2
  have lg2 : bg2.length < 140737488355328 := by subst hbg2 hm hx hm2 hm1 hm3 hmk; decide +kernel
  have rg2 : readW bg2 = .inr (1, 8, 8000, [0, -1]) := by subst hbg2 hm hx hm2 hm1 hm3 hmk; decide +kernel
  obtain ⟨bg3, hbg3⟩ : ∃ b, bytesM [87, 65, 86, 69] [([102, 109, 116, 32], s2), ([100, 97, 116, 97], [0, 0, 128, 255, 255, 127])] = b := ⟨_, rfl⟩
  have fg3 : VC P fF [.str [87, 65, 86, 69], .list 4 [.str [102, 109, 116, 32], .str s2, .str [100, 97, 116, 97], .str [0, 0, 128, 255, 255, 127]]] (.list bg3.length (u8 bg3)) := F [87, 65, 86, 69] [([102, 109, 116, 32], s2), ([100, 97, 116, 97], [0, 0, 128, 255, 255, 127])] bg3 (by decide) (by unfold okL; subst hm hx hm2 hm1 hm3 hmk; decide +kernel) (by subst hm hx hm2 hm1 hm3 hmk; decide +kernel) hbg3
  have lg3 : bg3.length < 140737488355328 := by subst hbg3 hm hx hm2 hm1 hm3 hmk; decide +kernel
  have rg3 : readW bg3 = .inr (2, 24, 1, [-8388608, 8388607]) := by subst hbg3 hm hx hm2 hm1 hm3 hmk; decide +kernel
  obtain ⟨bg4, hbg4⟩ : ∃ b, bytesM [87, 65, 86, 69] [([102, 109, 116, 32], mk), ([100, 97, 116, 97], [128, 127])] = b := ⟨_, rfl⟩
  have fg4 : VC P fF [.str [87, 65, 86, 69], .list 4 [.str [102, 109, 116, 32], .str mk, .str [100, 97, 116, 97], .str [128, 127]]] (.list bg4.length (u8 bg4)) := F [87, 65, 86, 69] [([102, 109, 116, 32], mk), ([100, 97, 116, 97], [128, 127])] bg4 (by decide) (by unfold okL; subst hm hx hm2 hm1 hm3 hmk; decide +kernel) (by subst hm hx hm2 hm1 hm3 hmk; decide +kernel) hbg4
  have lg4 : bg4.length < 140737488355328 := by subst hbg4 hm hx hm2 hm1 hm3 hmk; decide +kernel
  have rg4 : readW bg4 = .inr (1, 8, 8000, [0, -1]) := by subst hbg4 hm hx hm2 hm1 hm3 hmk; decide +kernel
  have qg1 := re bg1 1 8 8000 [0, -1] lg1 rg1
  have qg2 := re bg2 1 8 8000 [0, -1] lg2 rg2
  have qg3 := re bg3 2 24 1 [-8388608, 8388607] lg3 rg3
  simp only [clA, il, ks, List.map_cons, List.map_nil, List.length_cons, List.length_nil] at qg3
  have qg4 := re bg4 1 8 8000 [0, -1] lg4 rg4
  obtain ⟨ba1, hba1⟩ : ∃ b, bytesM [87, 65, 86, 88] [([102, 109, 116, 32], mono), ([100, 97, 116, 97], [128])] = b := ⟨_, rfl⟩
  have fa1 : VC P fF [.str [87, 65, 86, 88], .list 4 [.str [102, 109, 116, 32], .str mono, .str [100, 97, 116, 97], .str [128]]] (.list ba1.length (u8 ba1)) := F [87, 65, 86, 88] [([102, 109, 116, 32], mono), ([100, 97, 116, 97], [128])] ba1 (by decide) (by unfold okL; subst hm hx hm2 hm1 hm3 hmk; decide +kernel) (by subst hm hx hm2 hm1 hm3 hmk; decide +kernel) hba1
  have la1 : ba1.length < 140737488355328 := by subst hba1 hm hx hm2 hm1 hm3 hmk; decide +kernel
  have ra1 : readW ba1 = .inl 12 := by subst hba1 hm hx hm2 hm1 hm3 hmk; decide +kernel
  have qa1 := fl ba1 12 la1 ra1
  obtain ⟨ba2, hba2⟩ : ∃ b, bytesM [87, 65, 86, 69] [([100, 97, 116, 97], [128]), ([102, 109, 116, 32], mono)] = b := ⟨_, rfl⟩
  have fa2 : VC P fF [.str [87, 65, 86, 69], .list 4 [.str [100, 97, 116, 97], .str [128], .str [102, 109, 116, 32], .str mono]] (.list ba2.length (u8 ba2)) := F [87, 65, 86, 69] [([100, 97, 116, 97], [128]), ([102, 109, 116, 32], mono)] ba2 (by decide) (by unfold okL; subst hm hx hm2 hm1 hm3 hmk; decide +kernel) (by subst hm hx hm2 hm1 hm3 hmk; decide +kernel) hba2
  have la2 : ba2.length < 140737488355328 := by subst hba2 hm hx hm2 hm1 hm3 hmk; decide +kernel
  have ra2 : readW ba2 = .inl 12 := by subst hba2 hm hx hm2 hm1 hm3 hmk; decide +kernel
  have qa2 := fl ba2 12 la2 ra2
  obtain ⟨ba3, hba3⟩ : ∃ b, bytesM [87, 65, 86, 69] [([102, 109, 116, 32], mono), ([102, 109, 116, 32], mono), ([100, 97, 116, 97], [128])] = b := ⟨_, rfl⟩
  have fa3 : VC P fF [.str [87, 65, 86, 69], .list 6 [.str [102, 109, 116, 32], .str mono, .str [102, 109, 116, 32], .str mono, .str [100, 97, 116, 97], .str [128]]] (.list ba3.length (u8 ba3)) := F [87, 65, 86, 69] [([102, 109, 116, 32], mono), ([102, 109, 116, 32], mono), ([100, 97, 116, 97], [128])] ba3 (by decide) (by unfold okL; subst hm hx hm2 hm1 hm3 hmk; decide +kernel) (by subst hm hx hm2 hm1 hm3 hmk; decide +kernel) hba3
  have la3 : ba3.length < 140737488355328 := by subst hba3 hm hx hm2 hm1 hm3 hmk; decide +kernel
  have ra3 : readW ba3 = .inl 12 := by subst hba3 hm hx hm2 hm1 hm3 hmk; decide +kernel
  have qa3 := fl ba3 12 la3 ra3
  obtain ⟨ba4, hba4⟩ : ∃ b, bytesM [87, 65, 86, 69] [([102, 109, 116, 32], mono), ([100, 97, 116, 97], [128]), ([100, 97, 116, 97], [128])] = b := ⟨_, rfl⟩
  have fa4 : VC P fF [.str [87, 65, 86, 69], .list 6 [.str [102, 109, 116, 32], .str mono, .str [100, 97, 116, 97], .str [128], .str [100, 97, 116, 97], .str [128]]] (.list ba4.length (u8 ba4)) := F [87, 65, 86, 69] [([102, 109, 116, 32], mono), ([100, 97, 116, 97], [128]), ([100, 97, 116, 97], [128])] ba4 (by decide) (by unfold okL; subst hm hx hm2 hm1 hm3 hmk; decide +kernel) (by subst hm hx hm2 hm1 hm3 hmk; decide +kernel) hba4
  have la4 : ba4.length < 140737488355328 := by subst hba4 hm hx hm2 hm1 hm3 hmk; decide +kernel
  have ra4 : readW ba4 = .inl 12 := by subst hba4 hm hx hm2 hm1 hm3 hmk; decide +kernel
  have qa4 := fl ba4 12 la4 ra4
  obtain ⟨ba5, hba5⟩ : ∃ b, bytesM [87, 65, 86, 69] [([102, 109, 116, 32], (mono.take 15)), ([100, 97, 116, 97], [128])] = b := ⟨_, rfl⟩
  have fa5 : VC P fF [.str [87, 65, 86, 69], .list 4 [.str [102, 109, 116, 32], .str (mono.take 15), .str [100, 97, 116, 97], .str [128]]] (.list ba5.length (u8 ba5)) := F [87, 65, 86, 69] [([102, 109, 116, 32], (mono.take 15)), ([100, 97, 116, 97], [128])] ba5 (by decide) (by unfold okL; subst hm hx hm2 hm1 hm3 hmk; decide +kernel) (by subst hm hx hm2 hm1 hm3 hmk; decide +kernel) hba5
  have la5 : ba5.length < 140737488355328 := by subst hba5 hm hx hm2 hm1 hm3 hmk; decide +kernel
  have ra5 : readW ba5 = .inl 12 := by subst hba5 hm hx hm2 hm1 hm3 hmk; decide +kernel
  have qa5 := fl ba5 12 la5 ra5
  obtain ⟨ba6, hba6⟩ : ∃ b, bytesM [87, 65, 86, 69] [([102, 109, 116, 32], mono), ([100, 97, 116, 97], [])] = b := ⟨_, rfl⟩
  have fa6 : VC P fF [.str [87, 65, 86, 69], .list 4 [.str [102, 109, 116, 32], .str mono, .str [100, 97, 116, 97], .str []]] (.list ba6.length (u8 ba6)) := F [87, 65, 86, 69] [([102, 109, 116, 32], mono), ([100, 97, 116, 97], [])] ba6 (by decide) (by unfold okL; subst hm hx hm2 hm1 hm3 hmk; decide +kernel) (by subst hm hx hm2 hm1 hm3 hmk; decide +kernel) hba6
  have la6 : ba6.length < 140737488355328 := by subst hba6 hm hx hm2 hm1 hm3 hmk; decide +kernel
  have ra6 : readW ba6 = .inl 12 := by subst hba6 hm hx hm2 hm1 hm3 hmk; decide +kernel
  have qa6 := fl ba6 12 la6 ra6
  obtain ⟨ba7, hba7⟩ : ∃ b, bytesM [87, 65, 86, 69] [([102, 109, 116, 32], s1), ([100, 97, 116, 97], [97, 98, 99])] = b := ⟨_, rfl⟩
  have fa7 : VC P fF [.str [87, 65, 86, 69], .list 4 [.str [102, 109, 116, 32], .str s1, .str [100, 97, 116, 97], .str [97, 98, 99]]] (.list ba7.length (u8 ba7)) := F [87, 65, 86, 69] [([102, 109, 116, 32], s1), ([100, 97, 116, 97], [97, 98, 99])] ba7 (by decide) (by unfold okL; subst hm hx hm2 hm1 hm3 hmk; decide +kernel) (by subst hm hx hm2 hm1 hm3 hmk; decide +kernel) hba7
  have la7 : ba7.length < 140737488355328 := by subst hba7 hm hx hm2 hm1 hm3 hmk; decide +kernel
  have ra7 : readW ba7 = .inl 12 := by subst hba7 hm hx hm2 hm1 hm3 hmk; decide +kernel
  have qa7 := fl ba7 12 la7 ra7
  obtain ⟨ba8, hba8⟩ : ∃ b, bytesM [87, 65, 86, 69] [([102, 109, 116, 32], s3), ([100, 97, 116, 97], [97, 98, 99, 100])] = b := ⟨_, rfl⟩
  have fa8 : VC P fF [.str [87, 65, 86, 69], .list 4 [.str [102, 109, 116, 32], .str s3, .str [100, 97, 116, 97], .str [97, 98, 99, 100]]] (.list ba8.length (u8 ba8)) := F [87, 65, 86, 69] [([102, 109, 116, 32], s3), ([100, 97, 116, 97], [97, 98, 99, 100])] ba8 (by decide) (by unfold okL; subst hm hx hm2 hm1 hm3 hmk; decide +kernel) (by subst hm hx hm2 hm1 hm3 hmk; decide +kernel) hba8
  have la8 : ba8.length < 140737488355328 := by subst hba8 hm hx hm2 hm1 hm3 hmk; decide +kernel
  have ra8 : readW ba8 = .inl 12 := by subst hba8 hm hx hm2 hm1 hm3 hmk; decide +kernel
  have qa8 := fl ba8 12 la8 ra8
  obtain ⟨bn1, hbn1⟩ : ∃ b, bytesM [87, 65, 86, 69] [] = b := ⟨_, rfl⟩
  have fn1 : VC P fF [.str [87, 65, 86, 69], .list 0 []] (.list bn1.length (u8 bn1)) := F [87, 65, 86, 69] [] bn1 (by decide) (by unfold okL; subst hm hx hm2 hm1 hm3 hmk; decide +kernel) (by subst hm hx hm2 hm1 hm3 hmk; decide +kernel) hbn1
  have ln1 : bn1.length < 140737488355328 := by subst hbn1 hm hx hm2 hm1 hm3 hmk; decide +kernel
  have rn1 : readW bn1 = .inl 6 := by subst hbn1 hm hx hm2 hm1 hm3 hmk; decide +kernel
  have qn1 := fl bn1 6 ln1 rn1
  obtain ⟨bn2, hbn2⟩ : ∃ b, bytesM [87, 65, 86, 69] [([102, 109, 116, 32], [120])] = b := ⟨_, rfl⟩
  have fn2 : VC P fF [.str [87, 65, 86, 69], .list 2 [.str [102, 109, 116, 32], .str [120]]] (.list bn2.length (u8 bn2)) := F [87, 65, 86, 69] [([102, 109, 116, 32], [120])] bn2 (by decide) (by unfold okL; subst hm hx hm2 hm1 hm3 hmk; decide +kernel) (by subst hm hx hm2 hm1 hm3 hmk; decide +kernel) hbn2
  have ln2 : bn2.length < 140737488355328 := by subst hbn2 hm hx hm2 hm1 hm3 hmk; decide +kernel
  have rn2 : readW bn2 = .inl 6 := by subst hbn2 hm hx hm2 hm1 hm3 hmk; decide +kernel
  have qn2 := fl bn2 6 ln2 rn2
  obtain ⟨bn3, hbn3⟩ : ∃ b, bytesM [87, 65, 86, 69] [([100, 97, 116, 97], [120])] = b := ⟨_, rfl⟩
  have fn3 : VC P fF [.str [87, 65, 86, 69], .list 2 [.str [100, 97, 116, 97], .str [120]]] (.list bn3.length (u8 bn3)) := F [87, 65, 86, 69] [([100, 97, 116, 97], [120])] bn3 (by decide) (by unfold okL; subst hm hx hm2 hm1 hm3 hmk; decide +kernel) (by subst hm hx hm2 hm1 hm3 hmk; decide +kernel) hbn3
  have ln3 : bn3.length < 140737488355328 := by subst hbn3 hm hx hm2 hm1 hm3 hmk; decide +kernel
  have rn3 : readW bn3 = .inl 6 := by subst hbn3 hm hx hm2 hm1 hm3 hmk; decide +kernel
  have qn3 := fl bn3 6 ln3 rn3
  obtain ⟨bm0, hbm0⟩ : ∃ b, bytesM [87, 65, 86, 69] [([102, 109, 116, 32], mono), ([100, 97, 116, 97], [128])] = b := ⟨_, rfl⟩
  have fm0 : VC P fF [.str [87, 65, 86, 69], .list 4 [.str [102, 109, 116, 32], .str mono, .str [100, 97, 116, 97], .str [128]]] (.list bm0.length (u8 bm0)) := F [87, 65, 86, 69] [([102, 109, 116, 32], mono), ([100, 97, 116, 97], [128])] bm0 (by decide) (by unfold okL; subst hm hx hm2 hm1 hm3 hmk; decide +kernel) (by subst hm hx hm2 hm1 hm3 hmk; decide +kernel) hbm0
  have lm0 : bm0.length < 140737488355328 := by subst hbm0 hm hx hm2 hm1 hm3 hmk; decide +kernel
  have rm0 : readW (bm0 ++ [0]) = .inl 38 := by subst hbm0 hm hx hm2 hm1 hm3 hmk; decide +kernel
  have fm0O : VO P fF [.str [87, 65, 86, 69], .list 4 [.str [102, 109, 116, 32], .str mono, .str [100, 97, 116, 97], .str [128]]] (.own 0 bm0.length) ⟨t2, 1, bm0.length, u8 bm0, 0⟩ := by
    have := hO [87, 65, 86, 69] [([102, 109, 116, 32], mono), ([100, 97, 116, 97], [128])] (by decide) (by unfold okL; subst hm hx hm2 hm1 hm3 hmk; decide +kernel) (by subst hm hx hm2 hm1 hm3 hmk; decide +kernel)
    rwa [hbm0] at this
  have qm0 := fl (bm0 ++ [0]) 38 (by simp only [List.length_append, List.length_cons, List.length_nil]; subst hbm0 hm hx hm2 hm1 hm3 hmk; decide +kernel) rm0
  rw [u8_app, List.length_append, show u8 [0] = [.int .u8 0] from rfl, show ([0] : List UInt8).length = 1 from rfl] at qm0
  have Fm : ∀ (G D b : List UInt8), G.length ≤ 40 → D.length ≤ 90000 → bytesM waveW' [(fmtW, G), (dataW, D)] = b → VC P fF [.str [87, 65, 86, 69], .list 4 [.str [102, 109, 116, 32], .str G, .str [100, 97, 116, 97], .str D]] (.list b.length (u8 b)) ∧ b.length < 140737488355328 := by
    intro G D b h1 h2 h3
    obtain ⟨k1, k2⟩ := checkM_two h1 h2
    refine ⟨F waveW' [(fmtW, G), (dataW, D)] b (by decide) k1 k2 h3, ?_⟩
    subst h3
    exact len_two h1 h2
  clear hm hx hm2 hm1 hm3 hmk
  obtain ⟨M, hM⟩ : ∃ M : Nat, (4001 : Int) = (M : Int) := ⟨4001, rfl⟩
  obtain ⟨K1, hK1⟩ : ∃ M : Nat, (1001 : Int) = (M : Int) := ⟨1001, rfl⟩
  obtain ⟨N, hN⟩ : ∃ M : Nat, (4000 : Int) = (M : Int) := ⟨4000, rfl⟩
  unfold ac_cadenzalaw33_WavNames
  rw [hM, hK1, hN]
  simp (config := { maxSteps := 4000000 }) (disch := omega) only [step, stepv, ev, okW, onlyFr, Bool.false_and, Bool.true_and, sealw, wl, wn, wp, aop, cV, cV1, ↓reduceIte, Nat.reduceEqDiff, Nat.reduceAdd, Int.cast_ofNat_Int, if_true, if_false, AV.one, repCells, fillA, partCells, Nat.reduceLT, Nat.reduceLeDiff, Nat.reduceMul, Nat.reduceSub, Int.reduceLT, Int.reduceLE, Int.reduceAdd, Int.reduceSub, Int.reduceMul, Int.reduceToNat, sliceCells, cellsAt, srcA, app, reduceCtorEq, Int.reduceEq, Int.reduceNeg, Int.reducePow, Nat.reducePow, Int.reduceTDiv, Int.reduceDiv, Nat.reduceDiv, Nat.reduceMod, Int.reduceMod, Int.reduceTMod, ne_eq, subA, beq_iff_eq, unA, minA, maxA, eqFs, eqA1, beq_self_eq_true, Nat.reduceBEq]
  refine callQ.vc hs1 ?_
  simp (config := { maxSteps := 4000000 }) (disch := omega) only [step, stepv, ev, okW, onlyFr, Bool.false_and, Bool.true_and, sealw, wl, wn, wp, aop, cV, cV1, ↓reduceIte, Nat.reduceEqDiff, Nat.reduceAdd, Int.cast_ofNat_Int, if_true, if_false, AV.one, repCells, fillA, partCells, Nat.reduceLT, Nat.reduceLeDiff, Nat.reduceMul, Nat.reduceSub, Int.reduceLT, Int.reduceLE, Int.reduceAdd, Int.reduceSub, Int.reduceMul, Int.reduceToNat, sliceCells, cellsAt, srcA, app, reduceCtorEq, Int.reduceEq, Int.reduceNeg, Int.reducePow, Nat.reducePow, Int.reduceTDiv, Int.reduceDiv, Nat.reduceDiv, Nat.reduceMod, Int.reduceMod, Int.reduceTMod, ne_eq, subA, beq_iff_eq, unA, minA, maxA, eqFs, eqA1, beq_self_eq_true, Nat.reduceBEq, stillAt]
  refine callQ.still 1 [0] fg1 ?_ ?_
  · simp [stillAt, frzN, frzK, frzL, frzV]
  simp (config := { maxSteps := 4000000 }) (disch := omega) only [step, stepv, ev, okW, onlyFr, Bool.false_and, Bool.true_and, sealw, wl, wn, wp, aop, cV, cV1, ↓reduceIte, Nat.reduceEqDiff, Nat.reduceAdd, Int.cast_ofNat_Int, if_true, if_false, AV.one, repCells, fillA, partCells, Nat.reduceLT, Nat.reduceLeDiff, Nat.reduceMul, Nat.reduceSub, Int.reduceLT, Int.reduceLE, Int.reduceAdd, Int.reduceSub, Int.reduceMul, Int.reduceToNat, sliceCells, cellsAt, srcA, app, reduceCtorEq, Int.reduceEq, Int.reduceNeg, Int.reducePow, Nat.reducePow, Int.reduceTDiv, Int.reduceDiv, Nat.reduceDiv, Nat.reduceMod, Int.reduceMod, Int.reduceTMod, ne_eq, subA, beq_iff_eq, unA, minA, maxA, eqFs, eqA1, beq_self_eq_true, Nat.reduceBEq, stillAt]
  refine callQ.vc hE ?_
  simp (config := { maxSteps := 4000000 }) (disch := omega) only [step, stepv, ev, okW, onlyFr, Bool.false_and, Bool.true_and, sealw, wl, wn, wp, aop, cV, cV1, ↓reduceIte, Nat.reduceEqDiff, Nat.reduceAdd, Int.cast_ofNat_Int, if_true, if_false, AV.one, repCells, fillA, partCells, Nat.reduceLT, Nat.reduceLeDiff, Nat.reduceMul, Nat.reduceSub, Int.reduceLT, Int.reduceLE, Int.reduceAdd, Int.reduceSub, Int.reduceMul, Int.reduceToNat, sliceCells, cellsAt, srcA, app, reduceCtorEq, Int.reduceEq, Int.reduceNeg, Int.reducePow, Nat.reducePow, Int.reduceTDiv, Int.reduceDiv, Nat.reduceDiv, Nat.reduceMod, Int.reduceMod, Int.reduceTMod, ne_eq, subA, beq_iff_eq, unA, minA, maxA, eqFs, eqA1, beq_self_eq_true, Nat.reduceBEq, stillAt]
  refine callQ.vc qg1 ?_
  simp (config := { maxSteps := 4000000 }) (disch := omega) only [step, stepv, ev, okW, onlyFr, Bool.false_and, Bool.true_and, sealw, wl, wn, wp, aop, cV, cV1, ↓reduceIte, Nat.reduceEqDiff, Nat.reduceAdd, Int.cast_ofNat_Int, if_true, if_false, AV.one, repCells, fillA, partCells, Nat.reduceLT, Nat.reduceLeDiff, Nat.reduceMul, Nat.reduceSub, Int.reduceLT, Int.reduceLE, Int.reduceAdd, Int.reduceSub, Int.reduceMul, Int.reduceToNat, sliceCells, cellsAt, srcA, app, reduceCtorEq, Int.reduceEq, Int.reduceNeg, Int.reducePow, Nat.reducePow, Int.reduceTDiv, Int.reduceDiv, Nat.reduceDiv, Nat.reduceMod, Int.reduceMod, Int.reduceTMod, ne_eq, subA, beq_iff_eq, unA, minA, maxA, eqFs, eqA1, beq_self_eq_true, Nat.reduceBEq, stillAt]
  refine callQ.still 1 [1] fg2 ?_ ?_
  · simp [stillAt, frzN, frzK, frzL, frzV]
  simp (config := { maxSteps := 4000000 }) (disch := omega) only [step, stepv, ev, okW, onlyFr, Bool.false_and, Bool.true_and, sealw, wl, wn, wp, aop, cV, cV1, ↓reduceIte, Nat.reduceEqDiff, Nat.reduceAdd, Int.cast_ofNat_Int, if_true, if_false, AV.one, repCells, fillA, partCells, Nat.reduceLT, Nat.reduceLeDiff, Nat.reduceMul, Nat.reduceSub, Int.reduceLT, Int.reduceLE, Int.reduceAdd, Int.reduceSub, Int.reduceMul, Int.reduceToNat, sliceCells, cellsAt, srcA, app, reduceCtorEq, Int.reduceEq, Int.reduceNeg, Int.reducePow, Nat.reducePow, Int.reduceTDiv, Int.reduceDiv, Nat.reduceDiv, Nat.reduceMod, Int.reduceMod, Int.reduceTMod, ne_eq, subA, beq_iff_eq, unA, minA, maxA, eqFs, eqA1, beq_self_eq_true, Nat.reduceBEq, stillAt]
  refine callQ.vc hE ?_
  simp (config := { maxSteps := 4000000 }) (disch := omega) only [step, stepv, ev, okW, onlyFr, Bool.false_and, Bool.true_and, sealw, wl, wn, wp, aop, cV, cV1, ↓reduceIte, Nat.reduceEqDiff, Nat.reduceAdd, Int.cast_ofNat_Int, if_true, if_false, AV.one, repCells, fillA, partCells, Nat.reduceLT, Nat.reduceLeDiff, Nat.reduceMul, Nat.reduceSub, Int.reduceLT, Int.reduceLE, Int.reduceAdd, Int.reduceSub, Int.reduceMul, Int.reduceToNat, sliceCells, cellsAt, srcA, app, reduceCtorEq, Int.reduceEq, Int.reduceNeg, Int.reducePow, Nat.reducePow, Int.reduceTDiv, Int.reduceDiv, Nat.reduceDiv, Nat.reduceMod, Int.reduceMod, Int.reduceTMod, ne_eq, subA, beq_iff_eq, unA, minA, maxA, eqFs, eqA1, beq_self_eq_true, Nat.reduceBEq, stillAt]
  refine callQ.vc qg2 ?_
  simp (config := { maxSteps := 4000000 }) (disch := omega) only [step, stepv, ev, okW, onlyFr, Bool.false_and, Bool.true_and, sealw, wl, wn, wp, aop, cV, cV1, ↓reduceIte, Nat.reduceEqDiff, Nat.reduceAdd, Int.cast_ofNat_Int, if_true, if_false, AV.one, repCells, fillA, partCells, Nat.reduceLT, Nat.reduceLeDiff, Nat.reduceMul, Nat.reduceSub, Int.reduceLT, Int.reduceLE, Int.reduceAdd, Int.reduceSub, Int.reduceMul, Int.reduceToNat, sliceCells, cellsAt, srcA, app, reduceCtorEq, Int.reduceEq, Int.reduceNeg, Int.reducePow, Nat.reducePow, Int.reduceTDiv, Int.reduceDiv, Nat.reduceDiv, Nat.reduceMod, Int.reduceMod, Int.reduceTMod, ne_eq, subA, beq_iff_eq, unA, minA, maxA, eqFs, eqA1, beq_self_eq_true, Nat.reduceBEq, stillAt]
  refine callQ.vc hs2 ?_
  simp (config := { maxSteps := 4000000 }) (disch := omega) only [step, stepv, ev, okW, onlyFr, Bool.false_and, Bool.true_and, sealw, wl, wn, wp, aop, cV, cV1, ↓reduceIte, Nat.reduceEqDiff, Nat.reduceAdd, Int.cast_ofNat_Int, if_true, if_false, AV.one, repCells, fillA, partCells, Nat.reduceLT, Nat.reduceLeDiff, Nat.reduceMul, Nat.reduceSub, Int.reduceLT, Int.reduceLE, Int.reduceAdd, Int.reduceSub, Int.reduceMul, Int.reduceToNat, sliceCells, cellsAt, srcA, app, reduceCtorEq, Int.reduceEq, Int.reduceNeg, Int.reducePow, Nat.reducePow, Int.reduceTDiv, Int.reduceDiv, Nat.reduceDiv, Nat.reduceMod, Int.reduceMod, Int.reduceTMod, ne_eq, subA, beq_iff_eq, unA, minA, maxA, eqFs, eqA1, beq_self_eq_true, Nat.reduceBEq, stillAt]
  refine callQ.still 1 [2] fg3 ?_ ?_
  · simp [stillAt, frzN, frzK, frzL, frzV]
  simp (config := { maxSteps := 4000000 }) (disch := omega) only [step, stepv, ev, okW, onlyFr, Bool.false_and, Bool.true_and, sealw, wl, wn, wp, aop, cV, cV1, ↓reduceIte, Nat.reduceEqDiff, Nat.reduceAdd, Int.cast_ofNat_Int, if_true, if_false, AV.one, repCells, fillA, partCells, Nat.reduceLT, Nat.reduceLeDiff, Nat.reduceMul, Nat.reduceSub, Int.reduceLT, Int.reduceLE, Int.reduceAdd, Int.reduceSub, Int.reduceMul, Int.reduceToNat, sliceCells, cellsAt, srcA, app, reduceCtorEq, Int.reduceEq, Int.reduceNeg, Int.reducePow, Nat.reducePow, Int.reduceTDiv, Int.reduceDiv, Nat.reduceDiv, Nat.reduceMod, Int.reduceMod, Int.reduceTMod, ne_eq, subA, beq_iff_eq, unA, minA, maxA, eqFs, eqA1, beq_self_eq_true, Nat.reduceBEq, stillAt]
  refine callQ.flat 2 qg3 rfl ?_ ?_
  · simp [stillAt, frzN, frzK, frzL, frzV, frzL_T _ (isT_u8 _)]
  simp (config := { maxSteps := 4000000 }) (disch := omega) only [step, stepv, ev, okW, onlyFr, Bool.false_and, Bool.true_and, sealw, wl, wn, wp, aop, cV, cV1, ↓reduceIte, Nat.reduceEqDiff, Nat.reduceAdd, Int.cast_ofNat_Int, if_true, if_false, AV.one, repCells, fillA, partCells, Nat.reduceLT, Nat.reduceLeDiff, Nat.reduceMul, Nat.reduceSub, Int.reduceLT, Int.reduceLE, Int.reduceAdd, Int.reduceSub, Int.reduceMul, Int.reduceToNat, sliceCells, cellsAt, srcA, app, reduceCtorEq, Int.reduceEq, Int.reduceNeg, Int.reducePow, Nat.reducePow, Int.reduceTDiv, Int.reduceDiv, Nat.reduceDiv, Nat.reduceMod, Int.reduceMod, Int.reduceTMod, ne_eq, subA, beq_iff_eq, unA, minA, maxA, eqFs, eqA1, beq_self_eq_true, Nat.reduceBEq, stillAt]
  refine callQ.vc hk ?_
  simp (config := { maxSteps := 4000000 }) (disch := omega) only [step, stepv, ev, okW, onlyFr, Bool.false_and, Bool.true_and, sealw, wl, wn, wp, aop, cV, cV1, ↓reduceIte, Nat.reduceEqDiff, Nat.reduceAdd, Int.cast_ofNat_Int, if_true, if_false, AV.one, repCells, fillA, partCells, Nat.reduceLT, Nat.reduceLeDiff, Nat.reduceMul, Nat.reduceSub, Int.reduceLT, Int.reduceLE, Int.reduceAdd, Int.reduceSub, Int.reduceMul, Int.reduceToNat, sliceCells, cellsAt, srcA, app, reduceCtorEq, Int.reduceEq, Int.reduceNeg, Int.reducePow, Nat.reducePow, Int.reduceTDiv, Int.reduceDiv, Nat.reduceDiv, Nat.reduceMod, Int.reduceMod, Int.reduceTMod, ne_eq, subA, beq_iff_eq, unA, minA, maxA, eqFs, eqA1, beq_self_eq_true, Nat.reduceBEq, stillAt]
  refine callQ.still 1 [4] fg4 ?_ ?_
  · simp [stillAt, frzN, frzK, frzL, frzV]
  simp (config := { maxSteps := 4000000 }) (disch := omega) only [step, stepv, ev, okW, onlyFr, Bool.false_and, Bool.true_and, sealw, wl, wn, wp, aop, cV, cV1, ↓reduceIte, Nat.reduceEqDiff, Nat.reduceAdd, Int.cast_ofNat_Int, if_true, if_false, AV.one, repCells, fillA, partCells, Nat.reduceLT, Nat.reduceLeDiff, Nat.reduceMul, Nat.reduceSub, Int.reduceLT, Int.reduceLE, Int.reduceAdd, Int.reduceSub, Int.reduceMul, Int.reduceToNat, sliceCells, cellsAt, srcA, app, reduceCtorEq, Int.reduceEq, Int.reduceNeg, Int.reducePow, Nat.reducePow, Int.reduceTDiv, Int.reduceDiv, Nat.reduceDiv, Nat.reduceMod, Int.reduceMod, Int.reduceTMod, ne_eq, subA, beq_iff_eq, unA, minA, maxA, eqFs, eqA1, beq_self_eq_true, Nat.reduceBEq, stillAt]
  refine callQ.vc hE ?_
  simp (config := { maxSteps := 4000000 }) (disch := omega) only [step, stepv, ev, okW, onlyFr, Bool.false_and, Bool.true_and, sealw, wl, wn, wp, aop, cV, cV1, ↓reduceIte, Nat.reduceEqDiff, Nat.reduceAdd, Int.cast_ofNat_Int, if_true, if_false, AV.one, repCells, fillA, partCells, Nat.reduceLT, Nat.reduceLeDiff, Nat.reduceMul, Nat.reduceSub, Int.reduceLT, Int.reduceLE, Int.reduceAdd, Int.reduceSub, Int.reduceMul, Int.reduceToNat, sliceCells, cellsAt, srcA, app, reduceCtorEq, Int.reduceEq, Int.reduceNeg, Int.reducePow, Nat.reducePow, Int.reduceTDiv, Int.reduceDiv, Nat.reduceDiv, Nat.reduceMod, Int.reduceMod, Int.reduceTMod, ne_eq, subA, beq_iff_eq, unA, minA, maxA, eqFs, eqA1, beq_self_eq_true, Nat.reduceBEq, stillAt]
  refine callQ.vc qg4 ?_
  simp (config := { maxSteps := 4000000 }) (disch := omega) only [step, stepv, ev, okW, onlyFr, Bool.false_and, Bool.true_and, sealw, wl, wn, wp, aop, cV, cV1, ↓reduceIte, Nat.reduceEqDiff, Nat.reduceAdd, Int.cast_ofNat_Int, if_true, if_false, AV.one, repCells, fillA, partCells, Nat.reduceLT, Nat.reduceLeDiff, Nat.reduceMul, Nat.reduceSub, Int.reduceLT, Int.reduceLE, Int.reduceAdd, Int.reduceSub, Int.reduceMul, Int.reduceToNat, sliceCells, cellsAt, srcA, app, reduceCtorEq, Int.reduceEq, Int.reduceNeg, Int.reducePow, Nat.reducePow, Int.reduceTDiv, Int.reduceDiv, Nat.reduceDiv, Nat.reduceMod, Int.reduceMod, Int.reduceTMod, ne_eq, subA, beq_iff_eq, unA, minA, maxA, eqFs, eqA1, beq_self_eq_true, Nat.reduceBEq, stillAt]
  refine callQ.still 1 [5] fa1 ?_ ?_
  · simp [stillAt, frzN, frzK, frzL, frzV]
  simp (config := { maxSteps := 4000000 }) (disch := omega) only [step, stepv, ev, okW, onlyFr, Bool.false_and, Bool.true_and, sealw, wl, wn, wp, aop, cV, cV1, ↓reduceIte, Nat.reduceEqDiff, Nat.reduceAdd, Int.cast_ofNat_Int, if_true, if_false, AV.one, repCells, fillA, partCells, Nat.reduceLT, Nat.reduceLeDiff, Nat.reduceMul, Nat.reduceSub, Int.reduceLT, Int.reduceLE, Int.reduceAdd, Int.reduceSub, Int.reduceMul, Int.reduceToNat, sliceCells, cellsAt, srcA, app, reduceCtorEq, Int.reduceEq, Int.reduceNeg, Int.reducePow, Nat.reducePow, Int.reduceTDiv, Int.reduceDiv, Nat.reduceDiv, Nat.reduceMod, Int.reduceMod, Int.reduceTMod, ne_eq, subA, beq_iff_eq, unA, minA, maxA, eqFs, eqA1, beq_self_eq_true, Nat.reduceBEq, stillAt]
  refine callQ.vc qa1 ?_
  simp (config := { maxSteps := 4000000 }) (disch := omega) only [step, stepv, ev, okW, onlyFr, Bool.false_and, Bool.true_and, sealw, wl, wn, wp, aop, cV, cV1, ↓reduceIte, Nat.reduceEqDiff, Nat.reduceAdd, Int.cast_ofNat_Int, if_true, if_false, AV.one, repCells, fillA, partCells, Nat.reduceLT, Nat.reduceLeDiff, Nat.reduceMul, Nat.reduceSub, Int.reduceLT, Int.reduceLE, Int.reduceAdd, Int.reduceSub, Int.reduceMul, Int.reduceToNat, sliceCells, cellsAt, srcA, app, reduceCtorEq, Int.reduceEq, Int.reduceNeg, Int.reducePow, Nat.reducePow, Int.reduceTDiv, Int.reduceDiv, Nat.reduceDiv, Nat.reduceMod, Int.reduceMod, Int.reduceTMod, ne_eq, subA, beq_iff_eq, unA, minA, maxA, eqFs, eqA1, beq_self_eq_true, Nat.reduceBEq, stillAt]
  refine callQ.still 1 [6] fa2 ?_ ?_
  · simp [stillAt, frzN, frzK, frzL, frzV]
  simp (config := { maxSteps := 4000000 }) (disch := omega) only [step, stepv, ev, okW, onlyFr, Bool.false_and, Bool.true_and, sealw, wl, wn, wp, aop, cV, cV1, ↓reduceIte, Nat.reduceEqDiff, Nat.reduceAdd, Int.cast_ofNat_Int, if_true, if_false, AV.one, repCells, fillA, partCells, Nat.reduceLT, Nat.reduceLeDiff, Nat.reduceMul, Nat.reduceSub, Int.reduceLT, Int.reduceLE, Int.reduceAdd, Int.reduceSub, Int.reduceMul, Int.reduceToNat, sliceCells, cellsAt, srcA, app, reduceCtorEq, Int.reduceEq, Int.reduceNeg, Int.reducePow, Nat.reducePow, Int.reduceTDiv, Int.reduceDiv, Nat.reduceDiv, Nat.reduceMod, Int.reduceMod, Int.reduceTMod, ne_eq, subA, beq_iff_eq, unA, minA, maxA, eqFs, eqA1, beq_self_eq_true, Nat.reduceBEq, stillAt]
  refine callQ.vc qa2 ?_
  simp (config := { maxSteps := 4000000 }) (disch := omega) only [step, stepv, ev, okW, onlyFr, Bool.false_and, Bool.true_and, sealw, wl, wn, wp, aop, cV, cV1, ↓reduceIte, Nat.reduceEqDiff, Nat.reduceAdd, Int.cast_ofNat_Int, if_true, if_false, AV.one, repCells, fillA, partCells, Nat.reduceLT, Nat.reduceLeDiff, Nat.reduceMul, Nat.reduceSub, Int.reduceLT, Int.reduceLE, Int.reduceAdd, Int.reduceSub, Int.reduceMul, Int.reduceToNat, sliceCells, cellsAt, srcA, app, reduceCtorEq, Int.reduceEq, Int.reduceNeg, Int.reducePow, Nat.reducePow, Int.reduceTDiv, Int.reduceDiv, Nat.reduceDiv, Nat.reduceMod, Int.reduceMod, Int.reduceTMod, ne_eq, subA, beq_iff_eq, unA, minA, maxA, eqFs, eqA1, beq_self_eq_true, Nat.reduceBEq, stillAt]
  refine callQ.still 1 [7] fa3 ?_ ?_
  · simp [stillAt, frzN, frzK, frzL, frzV]
  simp (config := { maxSteps := 4000000 }) (disch := omega) only [step, stepv, ev, okW, onlyFr, Bool.false_and, Bool.true_and, sealw, wl, wn, wp, aop, cV, cV1, ↓reduceIte, Nat.reduceEqDiff, Nat.reduceAdd, Int.cast_ofNat_Int, if_true, if_false, AV.one, repCells, fillA, partCells, Nat.reduceLT, Nat.reduceLeDiff, Nat.reduceMul, Nat.reduceSub, Int.reduceLT, Int.reduceLE, Int.reduceAdd, Int.reduceSub, Int.reduceMul, Int.reduceToNat, sliceCells, cellsAt, srcA, app, reduceCtorEq, Int.reduceEq, Int.reduceNeg, Int.reducePow, Nat.reducePow, Int.reduceTDiv, Int.reduceDiv, Nat.reduceDiv, Nat.reduceMod, Int.reduceMod, Int.reduceTMod, ne_eq, subA, beq_iff_eq, unA, minA, maxA, eqFs, eqA1, beq_self_eq_true, Nat.reduceBEq, stillAt]
  refine callQ.vc qa3 ?_
  simp (config := { maxSteps := 4000000 }) (disch := omega) only [step, stepv, ev, okW, onlyFr, Bool.false_and, Bool.true_and, sealw, wl, wn, wp, aop, cV, cV1, ↓reduceIte, Nat.reduceEqDiff, Nat.reduceAdd, Int.cast_ofNat_Int, if_true, if_false, AV.one, repCells, fillA, partCells, Nat.reduceLT, Nat.reduceLeDiff, Nat.reduceMul, Nat.reduceSub, Int.reduceLT, Int.reduceLE, Int.reduceAdd, Int.reduceSub, Int.reduceMul, Int.reduceToNat, sliceCells, cellsAt, srcA, app, reduceCtorEq, Int.reduceEq, Int.reduceNeg, Int.reducePow, Nat.reducePow, Int.reduceTDiv, Int.reduceDiv, Nat.reduceDiv, Nat.reduceMod, Int.reduceMod, Int.reduceTMod, ne_eq, subA, beq_iff_eq, unA, minA, maxA, eqFs, eqA1, beq_self_eq_true, Nat.reduceBEq, stillAt]
  refine callQ.still 1 [8] fa4 ?_ ?_
  · simp [stillAt, frzN, frzK, frzL, frzV]
  simp (config := { maxSteps := 4000000 }) (disch := omega) only [step, stepv, ev, okW, onlyFr, Bool.false_and, Bool.true_and, sealw, wl, wn, wp, aop, cV, cV1, ↓reduceIte, Nat.reduceEqDiff, Nat.reduceAdd, Int.cast_ofNat_Int, if_true, if_false, AV.one, repCells, fillA, partCells, Nat.reduceLT, Nat.reduceLeDiff, Nat.reduceMul, Nat.reduceSub, Int.reduceLT, Int.reduceLE, Int.reduceAdd, Int.reduceSub, Int.reduceMul, Int.reduceToNat, sliceCells, cellsAt, srcA, app, reduceCtorEq, Int.reduceEq, Int.reduceNeg, Int.reducePow, Nat.reducePow, Int.reduceTDiv, Int.reduceDiv, Nat.reduceDiv, Nat.reduceMod, Int.reduceMod, Int.reduceTMod, ne_eq, subA, beq_iff_eq, unA, minA, maxA, eqFs, eqA1, beq_self_eq_true, Nat.reduceBEq, stillAt]
  refine callQ.vc qa4 ?_
  simp (config := { maxSteps := 4000000 }) (disch := omega) only [step, stepv, ev, okW, onlyFr, Bool.false_and, Bool.true_and, sealw, wl, wn, wp, aop, cV, cV1, ↓reduceIte, Nat.reduceEqDiff, Nat.reduceAdd, Int.cast_ofNat_Int, if_true, if_false, AV.one, repCells, fillA, partCells, Nat.reduceLT, Nat.reduceLeDiff, Nat.reduceMul, Nat.reduceSub, Int.reduceLT, Int.reduceLE, Int.reduceAdd, Int.reduceSub, Int.reduceMul, Int.reduceToNat, sliceCells, cellsAt, srcA, app, reduceCtorEq, Int.reduceEq, Int.reduceNeg, Int.reducePow, Nat.reducePow, Int.reduceTDiv, Int.reduceDiv, Nat.reduceDiv, Nat.reduceMod, Int.reduceMod, Int.reduceTMod, ne_eq, subA, beq_iff_eq, unA, minA, maxA, eqFs, eqA1, beq_self_eq_true, Nat.reduceBEq, stillAt]
  refine callQ.still 1 [9] fa5 ?_ ?_
  · simp [stillAt, frzN, frzK, frzL, frzV]
  simp (config := { maxSteps := 4000000 }) (disch := omega) only [step, stepv, ev, okW, onlyFr, Bool.false_and, Bool.true_and, sealw, wl, wn, wp, aop, cV, cV1, ↓reduceIte, Nat.reduceEqDiff, Nat.reduceAdd, Int.cast_ofNat_Int, if_true, if_false, AV.one, repCells, fillA, partCells, Nat.reduceLT, Nat.reduceLeDiff, Nat.reduceMul, Nat.reduceSub, Int.reduceLT, Int.reduceLE, Int.reduceAdd, Int.reduceSub, Int.reduceMul, Int.reduceToNat, sliceCells, cellsAt, srcA, app, reduceCtorEq, Int.reduceEq, Int.reduceNeg, Int.reducePow, Nat.reducePow, Int.reduceTDiv, Int.reduceDiv, Nat.reduceDiv, Nat.reduceMod, Int.reduceMod, Int.reduceTMod, ne_eq, subA, beq_iff_eq, unA, minA, maxA, eqFs, eqA1, beq_self_eq_true, Nat.reduceBEq, stillAt]
  refine callQ.vc qa5 ?_
  simp (config := { maxSteps := 4000000 }) (disch := omega) only [step, stepv, ev, okW, onlyFr, Bool.false_and, Bool.true_and, sealw, wl, wn, wp, aop, cV, cV1, ↓reduceIte, Nat.reduceEqDiff, Nat.reduceAdd, Int.cast_ofNat_Int, if_true, if_false, AV.one, repCells, fillA, partCells, Nat.reduceLT, Nat.reduceLeDiff, Nat.reduceMul, Nat.reduceSub, Int.reduceLT, Int.reduceLE, Int.reduceAdd, Int.reduceSub, Int.reduceMul, Int.reduceToNat, sliceCells, cellsAt, srcA, app, reduceCtorEq, Int.reduceEq, Int.reduceNeg, Int.reducePow, Nat.reducePow, Int.reduceTDiv, Int.reduceDiv, Nat.reduceDiv, Nat.reduceMod, Int.reduceMod, Int.reduceTMod, ne_eq, subA, beq_iff_eq, unA, minA, maxA, eqFs, eqA1, beq_self_eq_true, Nat.reduceBEq, stillAt]
  refine callQ.still 1 [10] fa6 ?_ ?_
  · simp [stillAt, frzN, frzK, frzL, frzV]
  simp (config := { maxSteps := 4000000 }) (disch := omega) only [step, stepv, ev, okW, onlyFr, Bool.false_and, Bool.true_and, sealw, wl, wn, wp, aop, cV, cV1, ↓reduceIte, Nat.reduceEqDiff, Nat.reduceAdd, Int.cast_ofNat_Int, if_true, if_false, AV.one, repCells, fillA, partCells, Nat.reduceLT, Nat.reduceLeDiff, Nat.reduceMul, Nat.reduceSub, Int.reduceLT, Int.reduceLE, Int.reduceAdd, Int.reduceSub, Int.reduceMul, Int.reduceToNat, sliceCells, cellsAt, srcA, app, reduceCtorEq, Int.reduceEq, Int.reduceNeg, Int.reducePow, Nat.reducePow, Int.reduceTDiv, Int.reduceDiv, Nat.reduceDiv, Nat.reduceMod, Int.reduceMod, Int.reduceTMod, ne_eq, subA, beq_iff_eq, unA, minA, maxA, eqFs, eqA1, beq_self_eq_true, Nat.reduceBEq, stillAt]
  refine callQ.vc qa6 ?_
  simp (config := { maxSteps := 4000000 }) (disch := omega) only [step, stepv, ev, okW, onlyFr, Bool.false_and, Bool.true_and, sealw, wl, wn, wp, aop, cV, cV1, ↓reduceIte, Nat.reduceEqDiff, Nat.reduceAdd, Int.cast_ofNat_Int, if_true, if_false, AV.one, repCells, fillA, partCells, Nat.reduceLT, Nat.reduceLeDiff, Nat.reduceMul, Nat.reduceSub, Int.reduceLT, Int.reduceLE, Int.reduceAdd, Int.reduceSub, Int.reduceMul, Int.reduceToNat, sliceCells, cellsAt, srcA, app, reduceCtorEq, Int.reduceEq, Int.reduceNeg, Int.reducePow, Nat.reducePow, Int.reduceTDiv, Int.reduceDiv, Nat.reduceDiv, Nat.reduceMod, Int.reduceMod, Int.reduceTMod, ne_eq, subA, beq_iff_eq, unA, minA, maxA, eqFs, eqA1, beq_self_eq_true, Nat.reduceBEq, stillAt]
  refine callQ.vc hs3 ?_
  simp (config := { maxSteps := 4000000 }) (disch := omega) only [step, stepv, ev, okW, onlyFr, Bool.false_and, Bool.true_and, sealw, wl, wn, wp, aop, cV, cV1, ↓reduceIte, Nat.reduceEqDiff, Nat.reduceAdd, Int.cast_ofNat_Int, if_true, if_false, AV.one, repCells, fillA, partCells, Nat.reduceLT, Nat.reduceLeDiff, Nat.reduceMul, Nat.reduceSub, Int.reduceLT, Int.reduceLE, Int.reduceAdd, Int.reduceSub, Int.reduceMul, Int.reduceToNat, sliceCells, cellsAt, srcA, app, reduceCtorEq, Int.reduceEq, Int.reduceNeg, Int.reducePow, Nat.reducePow, Int.reduceTDiv, Int.reduceDiv, Nat.reduceDiv, Nat.reduceMod, Int.reduceMod, Int.reduceTMod, ne_eq, subA, beq_iff_eq, unA, minA, maxA, eqFs, eqA1, beq_self_eq_true, Nat.reduceBEq, stillAt]
  refine callQ.still 1 [11] fa7 ?_ ?_
  · simp [stillAt, frzN, frzK, frzL, frzV]
  simp (config := { maxSteps := 4000000 }) (disch := omega) only [step, stepv, ev, okW, onlyFr, Bool.false_and, Bool.true_and, sealw, wl, wn, wp, aop, cV, cV1, ↓reduceIte, Nat.reduceEqDiff, Nat.reduceAdd, Int.cast_ofNat_Int, if_true, if_false, AV.one, repCells, fillA, partCells, Nat.reduceLT, Nat.reduceLeDiff, Nat.reduceMul, Nat.reduceSub, Int.reduceLT, Int.reduceLE, Int.reduceAdd, Int.reduceSub, Int.reduceMul, Int.reduceToNat, sliceCells, cellsAt, srcA, app, reduceCtorEq, Int.reduceEq, Int.reduceNeg, Int.reducePow, Nat.reducePow, Int.reduceTDiv, Int.reduceDiv, Nat.reduceDiv, Nat.reduceMod, Int.reduceMod, Int.reduceTMod, ne_eq, subA, beq_iff_eq, unA, minA, maxA, eqFs, eqA1, beq_self_eq_true, Nat.reduceBEq, stillAt]
  refine callQ.vc qa7 ?_
  simp (config := { maxSteps := 4000000 }) (disch := omega) only [step, stepv, ev, okW, onlyFr, Bool.false_and, Bool.true_and, sealw, wl, wn, wp, aop, cV, cV1, ↓reduceIte, Nat.reduceEqDiff, Nat.reduceAdd, Int.cast_ofNat_Int, if_true, if_false, AV.one, repCells, fillA, partCells, Nat.reduceLT, Nat.reduceLeDiff, Nat.reduceMul, Nat.reduceSub, Int.reduceLT, Int.reduceLE, Int.reduceAdd, Int.reduceSub, Int.reduceMul, Int.reduceToNat, sliceCells, cellsAt, srcA, app, reduceCtorEq, Int.reduceEq, Int.reduceNeg, Int.reducePow, Nat.reducePow, Int.reduceTDiv, Int.reduceDiv, Nat.reduceDiv, Nat.reduceMod, Int.reduceMod, Int.reduceTMod, ne_eq, subA, beq_iff_eq, unA, minA, maxA, eqFs, eqA1, beq_self_eq_true, Nat.reduceBEq, stillAt]
  refine callQ.vc hs4 ?_
  simp (config := { maxSteps := 4000000 }) (disch := omega) only [step, stepv, ev, okW, onlyFr, Bool.false_and, Bool.true_and, sealw, wl, wn, wp, aop, cV, cV1, ↓reduceIte, Nat.reduceEqDiff, Nat.reduceAdd, Int.cast_ofNat_Int, if_true, if_false, AV.one, repCells, fillA, partCells, Nat.reduceLT, Nat.reduceLeDiff, Nat.reduceMul, Nat.reduceSub, Int.reduceLT, Int.reduceLE, Int.reduceAdd, Int.reduceSub, Int.reduceMul, Int.reduceToNat, sliceCells, cellsAt, srcA, app, reduceCtorEq, Int.reduceEq, Int.reduceNeg, Int.reducePow, Nat.reducePow, Int.reduceTDiv, Int.reduceDiv, Nat.reduceDiv, Nat.reduceMod, Int.reduceMod, Int.reduceTMod, ne_eq, subA, beq_iff_eq, unA, minA, maxA, eqFs, eqA1, beq_self_eq_true, Nat.reduceBEq, stillAt]
  refine callQ.still 1 [12] fa8 ?_ ?_
  · simp [stillAt, frzN, frzK, frzL, frzV]
  simp (config := { maxSteps := 4000000 }) (disch := omega) only [step, stepv, ev, okW, onlyFr, Bool.false_and, Bool.true_and, sealw, wl, wn, wp, aop, cV, cV1, ↓reduceIte, Nat.reduceEqDiff, Nat.reduceAdd, Int.cast_ofNat_Int, if_true, if_false, AV.one, repCells, fillA, partCells, Nat.reduceLT, Nat.reduceLeDiff, Nat.reduceMul, Nat.reduceSub, Int.reduceLT, Int.reduceLE, Int.reduceAdd, Int.reduceSub, Int.reduceMul, Int.reduceToNat, sliceCells, cellsAt, srcA, app, reduceCtorEq, Int.reduceEq, Int.reduceNeg, Int.reducePow, Nat.reducePow, Int.reduceTDiv, Int.reduceDiv, Nat.reduceDiv, Nat.reduceMod, Int.reduceMod, Int.reduceTMod, ne_eq, subA, beq_iff_eq, unA, minA, maxA, eqFs, eqA1, beq_self_eq_true, Nat.reduceBEq, stillAt]
  refine callQ.vc qa8 ?_
  simp (config := { maxSteps := 4000000 }) (disch := omega) only [step, stepv, ev, okW, onlyFr, Bool.false_and, Bool.true_and, sealw, wl, wn, wp, aop, cV, cV1, ↓reduceIte, Nat.reduceEqDiff, Nat.reduceAdd, Int.cast_ofNat_Int, if_true, if_false, AV.one, repCells, fillA, partCells, Nat.reduceLT, Nat.reduceLeDiff, Nat.reduceMul, Nat.reduceSub, Int.reduceLT, Int.reduceLE, Int.reduceAdd, Int.reduceSub, Int.reduceMul, Int.reduceToNat, sliceCells, cellsAt, srcA, app, reduceCtorEq, Int.reduceEq, Int.reduceNeg, Int.reducePow, Nat.reducePow, Int.reduceTDiv, Int.reduceDiv, Nat.reduceDiv, Nat.reduceMod, Int.reduceMod, Int.reduceTMod, ne_eq, subA, beq_iff_eq, unA, minA, maxA, eqFs, eqA1, beq_self_eq_true, Nat.reduceBEq, stillAt]
  refine callQ.still 1 [] fn1 ?_ ?_
  · simp [stillAt, frzN, frzK, frzL, frzV]
  simp (config := { maxSteps := 4000000 }) (disch := omega) only [step, stepv, ev, okW, onlyFr, Bool.false_and, Bool.true_and, sealw, wl, wn, wp, aop, cV, cV1, ↓reduceIte, Nat.reduceEqDiff, Nat.reduceAdd, Int.cast_ofNat_Int, if_true, if_false, AV.one, repCells, fillA, partCells, Nat.reduceLT, Nat.reduceLeDiff, Nat.reduceMul, Nat.reduceSub, Int.reduceLT, Int.reduceLE, Int.reduceAdd, Int.reduceSub, Int.reduceMul, Int.reduceToNat, sliceCells, cellsAt, srcA, app, reduceCtorEq, Int.reduceEq, Int.reduceNeg, Int.reducePow, Nat.reducePow, Int.reduceTDiv, Int.reduceDiv, Nat.reduceDiv, Nat.reduceMod, Int.reduceMod, Int.reduceTMod, ne_eq, subA, beq_iff_eq, unA, minA, maxA, eqFs, eqA1, beq_self_eq_true, Nat.reduceBEq, stillAt]
  refine callQ.vc qn1 ?_
  simp (config := { maxSteps := 4000000 }) (disch := omega) only [step, stepv, ev, okW, onlyFr, Bool.false_and, Bool.true_and, sealw, wl, wn, wp, aop, cV, cV1, ↓reduceIte, Nat.reduceEqDiff, Nat.reduceAdd, Int.cast_ofNat_Int, if_true, if_false, AV.one, repCells, fillA, partCells, Nat.reduceLT, Nat.reduceLeDiff, Nat.reduceMul, Nat.reduceSub, Int.reduceLT, Int.reduceLE, Int.reduceAdd, Int.reduceSub, Int.reduceMul, Int.reduceToNat, sliceCells, cellsAt, srcA, app, reduceCtorEq, Int.reduceEq, Int.reduceNeg, Int.reducePow, Nat.reducePow, Int.reduceTDiv, Int.reduceDiv, Nat.reduceDiv, Nat.reduceMod, Int.reduceMod, Int.reduceTMod, ne_eq, subA, beq_iff_eq, unA, minA, maxA, eqFs, eqA1, beq_self_eq_true, Nat.reduceBEq, stillAt]
  refine callQ.still 1 [13] fn2 ?_ ?_
  · simp [stillAt, frzN, frzK, frzL, frzV]
  simp (config := { maxSteps := 4000000 }) (disch := omega) only [step, stepv, ev, okW, onlyFr, Bool.false_and, Bool.true_and, sealw, wl, wn, wp, aop, cV, cV1, ↓reduceIte, Nat.reduceEqDiff, Nat.reduceAdd, Int.cast_ofNat_Int, if_true, if_false, AV.one, repCells, fillA, partCells, Nat.reduceLT, Nat.reduceLeDiff, Nat.reduceMul, Nat.reduceSub, Int.reduceLT, Int.reduceLE, Int.reduceAdd, Int.reduceSub, Int.reduceMul, Int.reduceToNat, sliceCells, cellsAt, srcA, app, reduceCtorEq, Int.reduceEq, Int.reduceNeg, Int.reducePow, Nat.reducePow, Int.reduceTDiv, Int.reduceDiv, Nat.reduceDiv, Nat.reduceMod, Int.reduceMod, Int.reduceTMod, ne_eq, subA, beq_iff_eq, unA, minA, maxA, eqFs, eqA1, beq_self_eq_true, Nat.reduceBEq, stillAt]
  refine callQ.vc qn2 ?_
  simp (config := { maxSteps := 4000000 }) (disch := omega) only [step, stepv, ev, okW, onlyFr, Bool.false_and, Bool.true_and, sealw, wl, wn, wp, aop, cV, cV1, ↓reduceIte, Nat.reduceEqDiff, Nat.reduceAdd, Int.cast_ofNat_Int, if_true, if_false, AV.one, repCells, fillA, partCells, Nat.reduceLT, Nat.reduceLeDiff, Nat.reduceMul, Nat.reduceSub, Int.reduceLT, Int.reduceLE, Int.reduceAdd, Int.reduceSub, Int.reduceMul, Int.reduceToNat, sliceCells, cellsAt, srcA, app, reduceCtorEq, Int.reduceEq, Int.reduceNeg, Int.reducePow, Nat.reducePow, Int.reduceTDiv, Int.reduceDiv, Nat.reduceDiv, Nat.reduceMod, Int.reduceMod, Int.reduceTMod, ne_eq, subA, beq_iff_eq, unA, minA, maxA, eqFs, eqA1, beq_self_eq_true, Nat.reduceBEq, stillAt]
  refine callQ.still 1 [14] fn3 ?_ ?_
  · simp [stillAt, frzN, frzK, frzL, frzV]
  simp (config := { maxSteps := 4000000 }) (disch := omega) only [step, stepv, ev, okW, onlyFr, Bool.false_and, Bool.true_and, sealw, wl, wn, wp, aop, cV, cV1, ↓reduceIte, Nat.reduceEqDiff, Nat.reduceAdd, Int.cast_ofNat_Int, if_true, if_false, AV.one, repCells, fillA, partCells, Nat.reduceLT, Nat.reduceLeDiff, Nat.reduceMul, Nat.reduceSub, Int.reduceLT, Int.reduceLE, Int.reduceAdd, Int.reduceSub, Int.reduceMul, Int.reduceToNat, sliceCells, cellsAt, srcA, app, reduceCtorEq, Int.reduceEq, Int.reduceNeg, Int.reducePow, Nat.reducePow, Int.reduceTDiv, Int.reduceDiv, Nat.reduceDiv, Nat.reduceMod, Int.reduceMod, Int.reduceTMod, ne_eq, subA, beq_iff_eq, unA, minA, maxA, eqFs, eqA1, beq_self_eq_true, Nat.reduceBEq, stillAt]
  refine callQ.vc qn3 ?_
  simp (config := { maxSteps := 4000000 }) (disch := omega) only [step, stepv, ev, okW, onlyFr, Bool.false_and, Bool.true_and, sealw, wl, wn, wp, aop, cV, cV1, ↓reduceIte, Nat.reduceEqDiff, Nat.reduceAdd, Int.cast_ofNat_Int, if_true, if_false, AV.one, repCells, fillA, partCells, Nat.reduceLT, Nat.reduceLeDiff, Nat.reduceMul, Nat.reduceSub, Int.reduceLT, Int.reduceLE, Int.reduceAdd, Int.reduceSub, Int.reduceMul, Int.reduceToNat, sliceCells, cellsAt, srcA, app, reduceCtorEq, Int.reduceEq, Int.reduceNeg, Int.reducePow, Nat.reducePow, Int.reduceTDiv, Int.reduceDiv, Nat.reduceDiv, Nat.reduceMod, Int.reduceMod, Int.reduceTMod, ne_eq, subA, beq_iff_eq, unA, minA, maxA, eqFs, eqA1, beq_self_eq_true, Nat.reduceBEq, stillAt]
  have z1 := rep_zero M
  have rM := rm M (by omega) (by omega)
  have rT : readW (bytesM waveW' [(fmtW, sx), (dataW, (List.replicate M 0).take K1)]) = .inl 4 := by rw [List.take_replicate, Nat.min_eq_left (by omega)]; exact rt K1 (by omega)
  have rW : readW (bytesM waveW' [(fmtW, mono), (dataW, (List.replicate M 0).take N)]) = .inr (1, 8, 8000, List.replicate N (-128)) := by rw [List.take_replicate, Nat.min_eq_left (by omega)]; exact rw' N (by omega)
  have zl : (u8 (List.replicate M 0)).length = M := by simp [u8]
  have zl' : (List.replicate M (0 : UInt8)).length = M := by simp
  generalize List.replicate M (0 : UInt8) = Z at *
  obtain ⟨bM, hbM⟩ : ∃ b, bytesM waveW' [(fmtW, mono), (dataW, Z)] = b := ⟨_, rfl⟩
  obtain ⟨fM, lM⟩ := Fm mono Z bM (by omega) (by omega) hbM
  rw [hbM] at rM
  have qM := fl bM 4 lM rM
  obtain ⟨bT, hbT⟩ : ∃ b, bytesM waveW' [(fmtW, sx), (dataW, Z.take K1)] = b := ⟨_, rfl⟩
  obtain ⟨fT, lT⟩ := Fm sx (Z.take K1) bT (by omega) (by simp; omega) hbT
  rw [hbT] at rT
  have qT := fl bT 4 lT rT
  obtain ⟨bW, hbW⟩ : ∃ b, bytesM waveW' [(fmtW, mono), (dataW, Z.take N)] = b := ⟨_, rfl⟩
  obtain ⟨fW', lW⟩ := Fm mono (Z.take N) bW (by omega) (by simp; omega) hbW
  rw [hbW] at rW
  simp (config := { maxSteps := 4000000 }) (disch := omega) only [step, stepv, ev, okW, onlyFr, Bool.false_and, Bool.true_and, sealw, wl, wn, wp, aop, cV, cV1, ↓reduceIte, Nat.reduceEqDiff, Nat.reduceAdd, Int.cast_ofNat_Int, if_true, if_false, AV.one, repCells, fillA, partCells, Nat.reduceLT, Nat.reduceLeDiff, Nat.reduceMul, Nat.reduceSub, Int.reduceLT, Int.reduceLE, Int.reduceAdd, Int.reduceSub, Int.reduceMul, Int.reduceToNat, sliceCells, cellsAt, srcA, app, reduceCtorEq, Int.reduceEq, Int.reduceNeg, Int.reducePow, Nat.reducePow, Int.reduceTDiv, Int.reduceDiv, Nat.reduceDiv, Nat.reduceMod, Int.reduceMod, Int.reduceTMod, ne_eq, subA, beq_iff_eq, unA, minA, maxA, eqFs, eqA1, beq_self_eq_true, Nat.reduceBEq, z1, zl, strA, zl', isDL, isD]
  refine callD.vc fM ?_
  simp (config := { maxSteps := 4000000 }) (disch := omega) only [step, stepv, ev, okW, onlyFr, Bool.false_and, Bool.true_and, sealw, wl, wn, wp, aop, cV, cV1, ↓reduceIte, Nat.reduceEqDiff, Nat.reduceAdd, Int.cast_ofNat_Int, if_true, if_false, AV.one, repCells, fillA, partCells, Nat.reduceLT, Nat.reduceLeDiff, Nat.reduceMul, Nat.reduceSub, Int.reduceLT, Int.reduceLE, Int.reduceAdd, Int.reduceSub, Int.reduceMul, Int.reduceToNat, sliceCells, cellsAt, srcA, app, reduceCtorEq, Int.reduceEq, Int.reduceNeg, Int.reducePow, Nat.reducePow, Int.reduceTDiv, Int.reduceDiv, Nat.reduceDiv, Nat.reduceMod, Int.reduceMod, Int.reduceTMod, ne_eq, subA, beq_iff_eq, unA, minA, maxA, eqFs, eqA1, beq_self_eq_true, Nat.reduceBEq, stillAt, isDL, isD, zl']
  refine callD.vc qM ?_
  simp (config := { maxSteps := 4000000 }) (disch := omega) only [step, stepv, ev, okW, onlyFr, Bool.false_and, Bool.true_and, sealw, wl, wn, wp, aop, cV, cV1, ↓reduceIte, Nat.reduceEqDiff, Nat.reduceAdd, Int.cast_ofNat_Int, if_true, if_false, AV.one, repCells, fillA, partCells, Nat.reduceLT, Nat.reduceLeDiff, Nat.reduceMul, Nat.reduceSub, Int.reduceLT, Int.reduceLE, Int.reduceAdd, Int.reduceSub, Int.reduceMul, Int.reduceToNat, sliceCells, cellsAt, srcA, app, reduceCtorEq, Int.reduceEq, Int.reduceNeg, Int.reducePow, Nat.reducePow, Int.reduceTDiv, Int.reduceDiv, Nat.reduceDiv, Nat.reduceMod, Int.reduceMod, Int.reduceTMod, ne_eq, subA, beq_iff_eq, unA, minA, maxA, eqFs, eqA1, beq_self_eq_true, Nat.reduceBEq, stillAt, isDL, isD, zl']
  refine callD.vc hs5 ?_
  simp (config := { maxSteps := 4000000 }) (disch := omega) only [step, stepv, ev, okW, onlyFr, Bool.false_and, Bool.true_and, sealw, wl, wn, wp, aop, cV, cV1, ↓reduceIte, Nat.reduceEqDiff, Nat.reduceAdd, Int.cast_ofNat_Int, if_true, if_false, AV.one, repCells, fillA, partCells, Nat.reduceLT, Nat.reduceLeDiff, Nat.reduceMul, Nat.reduceSub, Int.reduceLT, Int.reduceLE, Int.reduceAdd, Int.reduceSub, Int.reduceMul, Int.reduceToNat, sliceCells, cellsAt, srcA, app, reduceCtorEq, Int.reduceEq, Int.reduceNeg, Int.reducePow, Nat.reducePow, Int.reduceTDiv, Int.reduceDiv, Nat.reduceDiv, Nat.reduceMod, Int.reduceMod, Int.reduceTMod, ne_eq, subA, beq_iff_eq, unA, minA, maxA, eqFs, eqA1, beq_self_eq_true, Nat.reduceBEq, stillAt, isDL, isD, zl']
  refine callD.vc fT ?_
  simp (config := { maxSteps := 4000000 }) (disch := omega) only [step, stepv, ev, okW, onlyFr, Bool.false_and, Bool.true_and, sealw, wl, wn, wp, aop, cV, cV1, ↓reduceIte, Nat.reduceEqDiff, Nat.reduceAdd, Int.cast_ofNat_Int, if_true, if_false, AV.one, repCells, fillA, partCells, Nat.reduceLT, Nat.reduceLeDiff, Nat.reduceMul, Nat.reduceSub, Int.reduceLT, Int.reduceLE, Int.reduceAdd, Int.reduceSub, Int.reduceMul, Int.reduceToNat, sliceCells, cellsAt, srcA, app, reduceCtorEq, Int.reduceEq, Int.reduceNeg, Int.reducePow, Nat.reducePow, Int.reduceTDiv, Int.reduceDiv, Nat.reduceDiv, Nat.reduceMod, Int.reduceMod, Int.reduceTMod, ne_eq, subA, beq_iff_eq, unA, minA, maxA, eqFs, eqA1, beq_self_eq_true, Nat.reduceBEq, stillAt, isDL, isD, zl']
  refine callD.vc qT ?_
  simp (config := { maxSteps := 4000000 }) (disch := omega) only [step, stepv, ev, okW, onlyFr, Bool.false_and, Bool.true_and, sealw, wl, wn, wp, aop, cV, cV1, ↓reduceIte, Nat.reduceEqDiff, Nat.reduceAdd, Int.cast_ofNat_Int, if_true, if_false, AV.one, repCells, fillA, partCells, Nat.reduceLT, Nat.reduceLeDiff, Nat.reduceMul, Nat.reduceSub, Int.reduceLT, Int.reduceLE, Int.reduceAdd, Int.reduceSub, Int.reduceMul, Int.reduceToNat, sliceCells, cellsAt, srcA, app, reduceCtorEq, Int.reduceEq, Int.reduceNeg, Int.reducePow, Nat.reducePow, Int.reduceTDiv, Int.reduceDiv, Nat.reduceDiv, Nat.reduceMod, Int.reduceMod, Int.reduceTMod, ne_eq, subA, beq_iff_eq, unA, minA, maxA, eqFs, eqA1, beq_self_eq_true, Nat.reduceBEq, stillAt, isDL, isD, zl']
  have hWW := hW bW lW
  rw [rW] at hWW
  obtain ⟨S', hS'⟩ : ∃ S', ks .i32 (List.replicate N (-128)) = .int .i32 (-128) :: S' := by
    obtain ⟨k, rfl⟩ : ∃ k, N = k + 1 := ⟨N - 1, by omega⟩
    exact ⟨_, rfl⟩
  have hSl : S'.length + 1 = N := by have := congrArg List.length hS'; simp [ks] at this; omega
  simp only [readWA, clA, il, bs, List.length_replicate, hS'] at hWW
  have hV0 := hV 0 0 0 [] (by intro x hx; simp at hx) (by simp)
  rw [wavA, show clipN 0 0 0 [] = 8 by decide, if_pos (by decide)] at hV0
  have hC0 := hC 0 0 0 [] (by intro x hx; simp at hx) (by simp)
  rw [show clipN 0 0 0 [] = 8 by decide] at hC0
  have hZ1 := hZ 1 8 1 [128] (by intro x hx; simp at hx; omega) (by simp)
  rw [sizeWA, show clipN 1 8 1 [128] = 8 by decide, if_pos (by decide)] at hZ1
  have hZ2 := hZ 1 24 1 [5] (by intro x hx; simp at hx; omega) (by simp)
  rw [sizeWA, show clipN 1 24 1 [5] = 0 by decide, if_neg (by decide), show (wavB 1 24 1 [5]).length = 72 by decide +kernel] at hZ2
  simp only [clA, il, ks, List.map_cons, List.map_nil, List.length_cons, List.length_nil] at hV0 hC0 hZ1 hZ2
  have qnil : VC P fL [.list 0 [], .int .i64 24] (.bool true) := fl [] 24 (by decide) (by decide +kernel)
  refine callQ.still 1 [18] fW' ?_ ?_
  · simp [stillAt, frzN, frzK, frzL, frzV]
  simp (config := { maxSteps := 4000000 }) (disch := omega) only [step, stepv, ev, okW, onlyFr, Bool.false_and, Bool.true_and, sealw, wl, wn, wp, aop, cV, cV1, ↓reduceIte, Nat.reduceEqDiff, Nat.reduceAdd, Int.cast_ofNat_Int, if_true, if_false, AV.one, repCells, fillA, partCells, Nat.reduceLT, Nat.reduceLeDiff, Nat.reduceMul, Nat.reduceSub, Int.reduceLT, Int.reduceLE, Int.reduceAdd, Int.reduceSub, Int.reduceMul, Int.reduceToNat, sliceCells, cellsAt, srcA, app, reduceCtorEq, Int.reduceEq, Int.reduceNeg, Int.reducePow, Nat.reducePow, Int.reduceTDiv, Int.reduceDiv, Nat.reduceDiv, Nat.reduceMod, Int.reduceMod, Int.reduceTMod, ne_eq, subA, beq_iff_eq, unA, minA, maxA, eqFs, eqA1, beq_self_eq_true, Nat.reduceBEq, stillAt, zl']
  refine callQ.vc hWW ?_
  simp (config := { maxSteps := 4000000 }) (disch := omega) only [step, stepv, ev, okW, onlyFr, Bool.false_and, Bool.true_and, sealw, wl, wn, wp, aop, cV, cV1, ↓reduceIte, Nat.reduceEqDiff, Nat.reduceAdd, Int.cast_ofNat_Int, if_true, if_false, AV.one, repCells, fillA, partCells, Nat.reduceLT, Nat.reduceLeDiff, Nat.reduceMul, Nat.reduceSub, Int.reduceLT, Int.reduceLE, Int.reduceAdd, Int.reduceSub, Int.reduceMul, Int.reduceToNat, sliceCells, cellsAt, srcA, app, reduceCtorEq, Int.reduceEq, Int.reduceNeg, Int.reducePow, Nat.reducePow, Int.reduceTDiv, Int.reduceDiv, Nat.reduceDiv, Nat.reduceMod, Int.reduceMod, Int.reduceTMod, ne_eq, subA, beq_iff_eq, unA, minA, maxA, eqFs, eqA1, beq_self_eq_true, Nat.reduceBEq, stillAt]
  refine callQ.still 2 [] hV0 ?_ ?_
  · simp [stillAt, frzN, frzK, frzL, frzV, frzL_T _ (isT_u8 _)]
  simp (config := { maxSteps := 4000000 }) (disch := omega) only [step, stepv, ev, okW, onlyFr, Bool.false_and, Bool.true_and, sealw, wl, wn, wp, aop, cV, cV1, ↓reduceIte, Nat.reduceEqDiff, Nat.reduceAdd, Int.cast_ofNat_Int, if_true, if_false, AV.one, repCells, fillA, partCells, Nat.reduceLT, Nat.reduceLeDiff, Nat.reduceMul, Nat.reduceSub, Int.reduceLT, Int.reduceLE, Int.reduceAdd, Int.reduceSub, Int.reduceMul, Int.reduceToNat, sliceCells, cellsAt, srcA, app, reduceCtorEq, Int.reduceEq, Int.reduceNeg, Int.reducePow, Nat.reducePow, Int.reduceTDiv, Int.reduceDiv, Nat.reduceDiv, Nat.reduceMod, Int.reduceMod, Int.reduceTMod, ne_eq, subA, beq_iff_eq, unA, minA, maxA, eqFs, eqA1, beq_self_eq_true, Nat.reduceBEq, stillAt, zl',]
  refine callQ.flat 2 hZ1 rfl ?_ ?_
  · simp [stillAt, frzN, frzK, frzL, frzV, frzL_T _ (isT_u8 _)]
  simp (config := { maxSteps := 4000000 }) (disch := omega) only [step, stepv, ev, okW, onlyFr, Bool.false_and, Bool.true_and, sealw, wl, wn, wp, aop, cV, cV1, ↓reduceIte, Nat.reduceEqDiff, Nat.reduceAdd, Int.cast_ofNat_Int, if_true, if_false, AV.one, repCells, fillA, partCells, Nat.reduceLT, Nat.reduceLeDiff, Nat.reduceMul, Nat.reduceSub, Int.reduceLT, Int.reduceLE, Int.reduceAdd, Int.reduceSub, Int.reduceMul, Int.reduceToNat, sliceCells, cellsAt, srcA, app, reduceCtorEq, Int.reduceEq, Int.reduceNeg, Int.reducePow, Nat.reducePow, Int.reduceTDiv, Int.reduceDiv, Nat.reduceDiv, Nat.reduceMod, Int.reduceMod, Int.reduceTMod, ne_eq, subA, beq_iff_eq, unA, minA, maxA, eqFs, eqA1, beq_self_eq_true, Nat.reduceBEq, stillAt, zl',]
  refine callQ.flat 2 hZ2 rfl ?_ ?_
  · simp [stillAt, frzN, frzK, frzL, frzV, frzL_T _ (isT_u8 _)]
  simp (config := { maxSteps := 4000000 }) (disch := omega) only [step, stepv, ev, okW, onlyFr, Bool.false_and, Bool.true_and, sealw, wl, wn, wp, aop, cV, cV1, ↓reduceIte, Nat.reduceEqDiff, Nat.reduceAdd, Int.cast_ofNat_Int, if_true, if_false, AV.one, repCells, fillA, partCells, Nat.reduceLT, Nat.reduceLeDiff, Nat.reduceMul, Nat.reduceSub, Int.reduceLT, Int.reduceLE, Int.reduceAdd, Int.reduceSub, Int.reduceMul, Int.reduceToNat, sliceCells, cellsAt, srcA, app, reduceCtorEq, Int.reduceEq, Int.reduceNeg, Int.reducePow, Nat.reducePow, Int.reduceTDiv, Int.reduceDiv, Nat.reduceDiv, Nat.reduceMod, Int.reduceMod, Int.reduceTMod, ne_eq, subA, beq_iff_eq, unA, minA, maxA, eqFs, eqA1, beq_self_eq_true, Nat.reduceBEq, stillAt, zl',]
  refine callQ.vc hA ?_
  simp (config := { maxSteps := 4000000 }) (disch := omega) only [step, stepv, ev, okW, onlyFr, Bool.false_and, Bool.true_and, sealw, wl, wn, wp, aop, cV, cV1, ↓reduceIte, Nat.reduceEqDiff, Nat.reduceAdd, Int.cast_ofNat_Int, if_true, if_false, AV.one, repCells, fillA, partCells, Nat.reduceLT, Nat.reduceLeDiff, Nat.reduceMul, Nat.reduceSub, Int.reduceLT, Int.reduceLE, Int.reduceAdd, Int.reduceSub, Int.reduceMul, Int.reduceToNat, sliceCells, cellsAt, srcA, app, reduceCtorEq, Int.reduceEq, Int.reduceNeg, Int.reducePow, Nat.reducePow, Int.reduceTDiv, Int.reduceDiv, Nat.reduceDiv, Nat.reduceMod, Int.reduceMod, Int.reduceTMod, ne_eq, subA, beq_iff_eq, unA, minA, maxA, eqFs, eqA1, beq_self_eq_true, Nat.reduceBEq, stillAt]
  refine callQ.flat 2 qnil rfl ?_ ?_
  · simp [stillAt, frzN, frzK, frzL, frzV, frzL_T _ (isT_u8 _)]
  simp (config := { maxSteps := 4000000 }) (disch := omega) only [step, stepv, ev, okW, onlyFr, Bool.false_and, Bool.true_and, sealw, wl, wn, wp, aop, cV, cV1, ↓reduceIte, Nat.reduceEqDiff, Nat.reduceAdd, Int.cast_ofNat_Int, if_true, if_false, AV.one, repCells, fillA, partCells, Nat.reduceLT, Nat.reduceLeDiff, Nat.reduceMul, Nat.reduceSub, Int.reduceLT, Int.reduceLE, Int.reduceAdd, Int.reduceSub, Int.reduceMul, Int.reduceToNat, sliceCells, cellsAt, srcA, app, reduceCtorEq, Int.reduceEq, Int.reduceNeg, Int.reducePow, Nat.reducePow, Int.reduceTDiv, Int.reduceDiv, Nat.reduceDiv, Nat.reduceMod, Int.reduceMod, Int.reduceTMod, ne_eq, subA, beq_iff_eq, unA, minA, maxA, eqFs, eqA1, beq_self_eq_true, Nat.reduceBEq, stillAt, zl',]
  refine callQ.vo_still 2 [22] fm0O ?_ ?_
  · simp [stillAt, frzN, frzK, frzL, frzV, frzL_T _ (isT_u8 _)]
  simp (config := { maxSteps := 4000000 }) (disch := omega) only [step, stepv, ev, okW, onlyFr, Bool.false_and, Bool.true_and, sealw, wl, wn, wp, aop, cV, cV1, ↓reduceIte, Nat.reduceEqDiff, Nat.reduceAdd, Int.cast_ofNat_Int, if_true, if_false, AV.one, repCells, fillA, partCells, Nat.reduceLT, Nat.reduceLeDiff, Nat.reduceMul, Nat.reduceSub, Int.reduceLT, Int.reduceLE, Int.reduceAdd, Int.reduceSub, Int.reduceMul, Int.reduceToNat, sliceCells, cellsAt, srcA, app, reduceCtorEq, Int.reduceEq, Int.reduceNeg, Int.reducePow, Nat.reducePow, Int.reduceTDiv, Int.reduceDiv, Nat.reduceDiv, Nat.reduceMod, Int.reduceMod, Int.reduceTMod, ne_eq, subA, beq_iff_eq, unA, minA, maxA, eqFs, eqA1, beq_self_eq_true, Nat.reduceBEq, stillAt, zl', shr]
  have ht9 : isTL (u8 bm0 ++ [.int .u8 0]) = true := by simp [isTL_append, isT_u8, isTL, isT]
  refine callQ.flat 2 qm0 rfl ?_ ?_
  · simp [stillAt, frzN, frzK, frzL, frzV, frzL_T _ ht9]
  simp (config := { maxSteps := 4000000 }) (disch := omega) only [step, stepv, ev, okW, onlyFr, Bool.false_and, Bool.true_and, sealw, wl, wn, wp, aop, cV, cV1, ↓reduceIte, Nat.reduceEqDiff, Nat.reduceAdd, Int.cast_ofNat_Int, if_true, if_false, AV.one, repCells, fillA, partCells, Nat.reduceLT, Nat.reduceLeDiff, Nat.reduceMul, Nat.reduceSub, Int.reduceLT, Int.reduceLE, Int.reduceAdd, Int.reduceSub, Int.reduceMul, Int.reduceToNat, sliceCells, cellsAt, srcA, app, reduceCtorEq, Int.reduceEq, Int.reduceNeg, Int.reducePow, Nat.reducePow, Int.reduceTDiv, Int.reduceDiv, Nat.reduceDiv, Nat.reduceMod, Int.reduceMod, Int.reduceTMod, ne_eq, subA, beq_iff_eq, unA, minA, maxA, eqFs, eqA1, beq_self_eq_true, Nat.reduceBEq, stillAt, zl']
  refine callQ.flat 2 hC0 rfl ?_ ?_
  · simp [stillAt, frzN, frzK, frzL, frzV, frzL_T _ (isT_u8 _)]
  simp (config := { maxSteps := 4000000 }) (disch := omega) only [step, stepv, ev, okW, onlyFr, Bool.false_and, Bool.true_and, sealw, wl, wn, wp, aop, cV, cV1, ↓reduceIte, Nat.reduceEqDiff, Nat.reduceAdd, Int.cast_ofNat_Int, if_true, if_false, AV.one, repCells, fillA, partCells, Nat.reduceLT, Nat.reduceLeDiff, Nat.reduceMul, Nat.reduceSub, Int.reduceLT, Int.reduceLE, Int.reduceAdd, Int.reduceSub, Int.reduceMul, Int.reduceToNat, sliceCells, cellsAt, srcA, app, reduceCtorEq, Int.reduceEq, Int.reduceNeg, Int.reducePow, Nat.reducePow, Int.reduceTDiv, Int.reduceDiv, Nat.reduceDiv, Nat.reduceMod, Int.reduceMod, Int.reduceTMod, ne_eq, subA, beq_iff_eq, unA, minA, maxA, eqFs, eqA1, beq_self_eq_true, Nat.reduceBEq, stillAt, zl',]

end Go.Am

namespace Go.Am
open Go.RowKit

theorem flatten_one {α : Type} (f : α → AV) : ∀ l : List α, (l.map fun x => [f x]).flatten = l.map f
  | [] => rfl
  | x :: l => by simp [flatten_one f l]

theorem fits_u8s {L : List (List AV)} (h : ∀ c ∈ L, Fits (.int .u8) c) : ∃ l : List UInt8, L.length = l.length ∧ AV.list L.length L.flatten = bs l := by
  obtain ⟨l, rfl, _⟩ := map_of_all (f := fun b : UInt8 => [AV.int .u8 b.toNat]) (q := fun _ => True) h (fun c hc => by
    simp only [Fits] at hc
    obtain ⟨n, rfl, h1, h2⟩ := hc
    simp only [IntKind.min, IntKind.max, IntKind.signed, IntKind.bits] at h1 h2
    refine ⟨UInt8.ofNat n.toNat, ?_, trivial⟩
    simp at h1 h2
    simp; omega)
  exact ⟨l, by simp, by simp [bs, u8, flatten_one]⟩

theorem fits_ints {K : IntKind} {L : List (List AV)} (h : ∀ c ∈ L, Fits (.int K) c) : ∃ l : List Int, L.length = l.length ∧ AV.list L.length L.flatten = .list l.length (ks K l) ∧ ∀ x ∈ l, K.min ≤ x ∧ x ≤ K.max := by
  obtain ⟨l, rfl, h2⟩ := map_of_all (f := fun n : Int => [AV.int K n]) (q := fun x => K.min ≤ x ∧ x ≤ K.max) h (fun c hc => by
    simp only [Fits] at hc
    obtain ⟨n, rfl, h1, h2⟩ := hc
    exact ⟨n, rfl, h1, h2⟩)
  exact ⟨l, by simp, by simp [ks, flatten_one], h2⟩

def isStr (P : Program) (t : TypeId) : Bool := match P.underlying t with | some (.struct _) => true | _ => false
def isArr (P : Program) (t : TypeId) : Bool := match P.underlying t with | some (.array _ _) => true | _ => false
def isSl (P : Program) (t : TypeId) : Bool := match P.underlying t with | some (.slice _) => true | _ => false
theorem isStr_eq {P : Program} {t : TypeId} (h : isStr P t = true) : ∃ fs, P.underlying t = some (.struct fs) := by
  unfold isStr at h; split at h
  · exact ⟨_, by assumption⟩
  · cases h
theorem isArr_eq {P : Program} {t : TypeId} (h : isArr P t = true) : ∃ n e, P.underlying t = some (.array n e) := by
  unfold isArr at h; split at h
  · exact ⟨_, _, by assumption⟩
  · cases h
theorem isSl_eq {P : Program} {t : TypeId} (h : isSl P t = true) : ∃ e, P.underlying t = some (.slice e) := by
  unfold isSl at h; split at h
  · exact ⟨_, by assumption⟩
  · cases h

end Go.Am
