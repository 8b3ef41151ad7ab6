/- What the functions that the law reaches return, for every program that has their code; the conditions stand in each statement. -/
import Derived.Test.YtjkgohbljmmmdaaDoorWavWritesL1
set_option linter.unusedSectionVars false
set_option linter.unusedSimpArgs false
set_option linter.unusedVariables false
namespace Go.Am
open Go.RowKit

def S_Bytes31 (P : Prg) (f : Nat) : Prop := ∀ (form : List UInt8) (l : List Ck), form.length ≤ 20 → okL l → VC P f [.str form, .list l.length (ckL l)] (bs (bytesM form l))

theorem ckB_even {c : Ck} (h : c.2.length % 2 = 0) : ckB c = c.1 ++ leB c.2.length 4 ++ c.2 := by simp [ckB, h]
theorem ckB_odd {c : Ck} (h : c.2.length % 2 = 1) : ckB c = c.1 ++ leB c.2.length 4 ++ c.2 ++ [0] := by simp [ckB, h]

set_option maxHeartbeats 1000000 in
theorem ref31_Bytes {P : Prg} {f fS fW t0 : Nat} (b : Body P f 60 [.tmp 4] (ac_cadenzaref31_Bytes fS fW t0)) (hS : S_size P fS 12) (hW : S_Written P fW) : S_Bytes31 P f := by
  intro form l hf hl
  refine VC.of_walk 1 (by simp [isDL, isD, isDL_ckL]) (isD_bs _) (ACall.of_body b (by simp) ?_)
  have h25 := hl.1
  have hsz := okL_sz hl
  simp (config := { maxSteps := 4000000 }) (disch := omega) only [step, stepv, ev, okW, onlyFr, Bool.false_and, Bool.true_and, sealw, wl, wn, wp, aop, cV, cV1, ↓reduceIte, Nat.reduceEqDiff, Nat.reduceAdd, Int.cast_ofNat_Int, if_true, if_false, AV.one, repCells, fillA, partCells, Nat.reduceLT, Nat.reduceLeDiff, Nat.reduceMul, Nat.reduceSub, Int.reduceLT, Int.reduceLE, Int.reduceAdd, Int.reduceSub, Int.reduceMul, Int.reduceToNat, sliceCells, cellsAt, srcA, app, reduceCtorEq, Int.reduceEq, Int.reduceNeg, Int.reducePow, Nat.reducePow, Int.reduceTDiv, Int.reduceDiv, Nat.reduceDiv, Nat.reduceMod, Int.reduceMod, Int.reduceTMod, ne_eq, subA, beq_iff_eq, unA, minA, maxA, eqFs, eqA1, beq_self_eq_true, Nat.reduceBEq, ac_cadenzaref31_Bytes]
  refine callQ.vc (hS l hl) ?_
  have z1' : (12 : Int) + (szL l : Int) - 8 = ((4 + szL l : Nat) : Int) := by omega
  have z1 : ((12 + szL l : Nat) : Int) - 8 = ((4 + szL l : Nat) : Int) := by omega
  have z2 : IntKind.i64.wrap (((12 + szL l : Nat) : Int) - 8) = ((4 + szL l : Nat) : Int) := by rw [wrap_i64] <;> omega
  have z3 : IntKind.u64.wrap ((4 + szL l : Nat) : Int) = ((4 + szL l : Nat) : Int) := by rw [wrap_u64] <;> omega
  simp (config := { maxSteps := 4000000 }) (disch := omega) only [step, stepv, ev, okW, onlyFr, Bool.false_and, Bool.true_and, sealw, wl, wn, wp, aop, cV, cV1, ↓reduceIte, Nat.reduceEqDiff, Nat.reduceAdd, Int.cast_ofNat_Int, if_true, if_false, AV.one, repCells, fillA, partCells, Nat.reduceLT, Nat.reduceLeDiff, Nat.reduceMul, Nat.reduceSub, Int.reduceLT, Int.reduceLE, Int.reduceAdd, Int.reduceSub, Int.reduceMul, Int.reduceToNat, sliceCells, cellsAt, srcA, app, reduceCtorEq, Int.reduceEq, Int.reduceNeg, Int.reducePow, Nat.reducePow, Int.reduceTDiv, Int.reduceDiv, Nat.reduceDiv, Nat.reduceMod, Int.reduceMod, Int.reduceTMod, ne_eq, subA, beq_iff_eq, unA, minA, maxA, eqFs, eqA1, beq_self_eq_true, Nat.reduceBEq]
  rw [z1']
  refine callQ.vc (hW (4 + szL l) 4 (by omega) (by omega)) ?_
  have e0 : ∀ r, AV.int .u8 82 :: .int .u8 73 :: .int .u8 70 :: .int .u8 70 :: r = u8 riffW ++ r := fun _ => rfl
  have e1 : (leB (4 + szL l) 4).length = 4 := leB_length _ _
  simp (config := { maxSteps := 4000000 }) (disch := omega) only [step, stepv, ev, okW, onlyFr, Bool.false_and, Bool.true_and, sealw, wl, wn, wp, aop, cV, cV1, ↓reduceIte, Nat.reduceEqDiff, Nat.reduceAdd, Int.cast_ofNat_Int, if_true, if_false, AV.one, repCells, fillA, partCells, Nat.reduceLT, Nat.reduceLeDiff, Nat.reduceMul, Nat.reduceSub, Int.reduceLT, Int.reduceLE, Int.reduceAdd, Int.reduceSub, Int.reduceMul, Int.reduceToNat, sliceCells, cellsAt, srcA, app, reduceCtorEq, Int.reduceEq, Int.reduceNeg, Int.reducePow, Nat.reducePow, Int.reduceTDiv, Int.reduceDiv, Nat.reduceDiv, Nat.reduceMod, Int.reduceMod, Int.reduceTMod, ne_eq, subA, beq_iff_eq, unA, minA, maxA, eqFs, eqA1, beq_self_eq_true, Nat.reduceBEq, bs, e1]
  rw [e0, u8_append]
  have p0 : riffW ++ (leB (4 + szL l) 4 ++ form) = preM form l 0 := by simp [preM]
  have p1 : 8 + form.length = (preM form l 0).length := by rw [preM_len]; simp
  rw [p0, p1]
  refine ALoop.by (ι := Nat) (fun k => ⟨[(6, .int .i64 k), (5, .own 0 (preM form l k).length), (1, .list l.length (ckL l))], [⟨t0, 1, (preM form l k).length, u8 (preM form l k), 1⟩]⟩) (fun k => k ≤ l.length) (fun k => l.length - k) 0
    (Le.slots (by simp [Am.look])) (by omega) ?_
  intro k hk
  have hpl := preM_len (form := form) (l := l) k
  have hfl := flat_len hl k hk
  by_cases hlt : k < l.length
  · obtain ⟨o1, o2⟩ := okL_at hl hlt
    have d1 := ckL_drop hlt
    have d2 := ckL_length l
    simp (config := { maxSteps := 4000000 }) (disch := omega) only [step, stepv, ev, okW, onlyFr, Bool.false_and, Bool.true_and, sealw, wl, wn, wp, aop, cV, cV1, ↓reduceIte, Nat.reduceEqDiff, Nat.reduceAdd, Int.cast_ofNat_Int, if_true, if_false, AV.one, repCells, fillA, partCells, Nat.reduceLT, Nat.reduceLeDiff, Nat.reduceMul, Nat.reduceSub, Int.reduceLT, Int.reduceLE, Int.reduceAdd, Int.reduceSub, Int.reduceMul, Int.reduceToNat, sliceCells, cellsAt, srcA, app, reduceCtorEq, Int.reduceEq, Int.reduceNeg, Int.reducePow, Nat.reducePow, Int.reduceTDiv, Int.reduceDiv, Nat.reduceDiv, Nat.reduceMod, Int.reduceMod, Int.reduceTMod, ne_eq, subA, beq_iff_eq, unA, minA, maxA, eqFs, eqA1, beq_self_eq_true, Nat.reduceBEq, d1, d2, bs]
    refine callQ.vc (hW (l[k]).2.length 4 (by omega) (by omega)) ?_
    have e2 : (leB (l[k]).2.length 4).length = 4 := leB_length _ _
    simp (config := { maxSteps := 4000000 }) (disch := omega) only [step, stepv, ev, okW, onlyFr, Bool.false_and, Bool.true_and, sealw, wl, wn, wp, aop, cV, cV1, ↓reduceIte, Nat.reduceEqDiff, Nat.reduceAdd, Int.cast_ofNat_Int, if_true, if_false, AV.one, repCells, fillA, partCells, Nat.reduceLT, Nat.reduceLeDiff, Nat.reduceMul, Nat.reduceSub, Int.reduceLT, Int.reduceLE, Int.reduceAdd, Int.reduceSub, Int.reduceMul, Int.reduceToNat, sliceCells, cellsAt, srcA, app, reduceCtorEq, Int.reduceEq, Int.reduceNeg, Int.reducePow, Nat.reducePow, Int.reduceTDiv, Int.reduceDiv, Nat.reduceDiv, Nat.reduceMod, Int.reduceMod, Int.reduceTMod, ne_eq, subA, beq_iff_eq, unA, minA, maxA, eqFs, eqA1, beq_self_eq_true, Nat.reduceBEq, bs, e2, d1]
    generalize hq2 : preM form l k ++ (l[k]).1 ++ leB (l[k]).2.length 4 ++ (l[k]).2 = q2
    have hl2 : (preM form l k).length + (l[k]).1.length + 4 + (l[k]).2.length = q2.length := by rw [← hq2]; simp only [List.length_append, leB_length]
    have e9 := flat_take_succ hlt
    by_cases hodd : (l[k]).2.length % 2 = 1
    · have e10 : preM form l (k + 1) = q2 ++ [0] := by
        rw [← hq2]; simp only [preM, e9, ckB_odd hodd, List.append_assoc]
      have e11 : u8 q2 ++ [AV.int .u8 0] = u8 (preM form l (k + 1)) := by rw [e10, ← u8_append]; rfl
      have e12 : q2.length + 1 = (preM form l (k + 1)).length := by rw [e10]; simp
      simp (config := { maxSteps := 4000000 }) (disch := omega) only [step, stepv, ev, okW, onlyFr, Bool.false_and, Bool.true_and, sealw, wl, wn, wp, aop, cV, cV1, ↓reduceIte, Nat.reduceEqDiff, Nat.reduceAdd, Int.cast_ofNat_Int, if_true, if_false, AV.one, repCells, fillA, partCells, Nat.reduceLT, Nat.reduceLeDiff, Nat.reduceMul, Nat.reduceSub, Int.reduceLT, Int.reduceLE, Int.reduceAdd, Int.reduceSub, Int.reduceMul, Int.reduceToNat, sliceCells, cellsAt, srcA, app, reduceCtorEq, Int.reduceEq, Int.reduceNeg, Int.reducePow, Nat.reducePow, Int.reduceTDiv, Int.reduceDiv, Nat.reduceDiv, Nat.reduceMod, Int.reduceMod, Int.reduceTMod, ne_eq, subA, beq_iff_eq, unA, minA, maxA, eqFs, eqA1, beq_self_eq_true, Nat.reduceBEq, hl2]
      rw [e11, e12]
      refine ⟨k + 1, by omega, by omega, Le.drop 1 2 (by omega) rfl ?_ ?_⟩
      · simp [Am.look, frzK, frzL, frzV, frzL_T _ (isT_ckL l)]
      · intro i y hy
        match i, hy with
        | 0, hy =>
          simp at hy
          subst hy
          exact ⟨u8 (preM form l (k + 1)), by simp, by simp only [frzK]; exact frzL_T _ (isT_u8 _)⟩
        | i + 1, hy => simp at hy
    · have e10 : preM form l (k + 1) = q2 := by
        rw [← hq2]; simp only [preM, e9, ckB_even (by omega : (l[k]).2.length % 2 = 0), List.append_assoc]
      simp (config := { maxSteps := 4000000 }) (disch := omega) only [step, stepv, ev, okW, onlyFr, Bool.false_and, Bool.true_and, sealw, wl, wn, wp, aop, cV, cV1, ↓reduceIte, Nat.reduceEqDiff, Nat.reduceAdd, Int.cast_ofNat_Int, if_true, if_false, AV.one, repCells, fillA, partCells, Nat.reduceLT, Nat.reduceLeDiff, Nat.reduceMul, Nat.reduceSub, Int.reduceLT, Int.reduceLE, Int.reduceAdd, Int.reduceSub, Int.reduceMul, Int.reduceToNat, sliceCells, cellsAt, srcA, app, reduceCtorEq, Int.reduceEq, Int.reduceNeg, Int.reducePow, Nat.reducePow, Int.reduceTDiv, Int.reduceDiv, Nat.reduceDiv, Nat.reduceMod, Int.reduceMod, Int.reduceTMod, ne_eq, subA, beq_iff_eq, unA, minA, maxA, eqFs, eqA1, beq_self_eq_true, Nat.reduceBEq, hl2]
      rw [← e10]
      exact ⟨k + 1, by omega, by omega, Le.slots (by simp [Am.look])⟩
  · have ek : k = l.length := by omega
    subst ek
    have e2 : preM form l l.length = bytesM form l := by simp only [preM, bytesM, List.take_length]
    rw [e2] at hpl ⊢
    simp (config := { maxSteps := 4000000 }) (disch := omega) only [step, stepv, ev, okW, onlyFr, Bool.false_and, Bool.true_and, sealw, wl, wn, wp, aop, cV, cV1, ↓reduceIte, Nat.reduceEqDiff, Nat.reduceAdd, Int.cast_ofNat_Int, if_true, if_false, AV.one, repCells, fillA, partCells, Nat.reduceLT, Nat.reduceLeDiff, Nat.reduceMul, Nat.reduceSub, Int.reduceLT, Int.reduceLE, Int.reduceAdd, Int.reduceSub, Int.reduceMul, Int.reduceToNat, sliceCells, cellsAt, srcA, app, reduceCtorEq, Int.reduceEq, Int.reduceNeg, Int.reducePow, Nat.reducePow, Int.reduceTDiv, Int.reduceDiv, Nat.reduceDiv, Nat.reduceMod, Int.reduceMod, Int.reduceTMod, ne_eq, subA, beq_iff_eq, unA, minA, maxA, eqFs, eqA1, beq_self_eq_true, Nat.reduceBEq]
    simp [frzN, frzK, frzL, frzV, frzL_T _ (isT_u8 _), bs]

/-! ### Great -/

end Go.Am

namespace Go.Am
open Go.RowKit

end Go.Am

namespace Go.Am
open Go.RowKit

/-! ### Read is what was written: without a program -/

end Go.Am

namespace Go.Am
open Go.RowKit

end Go.Am

namespace Go.Am
open Go.RowKit

end Go.Am

namespace Go.Am
open Go.RowKit

end Go.Am

namespace Go.Am
open Go.RowKit

/-! ### The chunk that tells the form: without a program -/

def sndOk (c b r : Int) : Prop := 1 ≤ c ∧ c ≤ 6 ∧ half b ≠ 0 ∧ 1 ≤ r ∧ r ≤ 1048576
instance (c b r : Int) : Decidable (sndOk c b r) := by unfold sndOk; exact inferInstance
def chkS (c b r : Int) : Int := if sndOk c b r then 0 else 8
def sndA (c b r : Int) : AV := .agg [.int .i64 c, .int .i64 b, .int .i64 r]

def guidB : List UInt8 := [1, 0, 0, 0, 0, 0, 16, 0, 128, 0, 0, 170, 0, 56, 155, 113]
def widN : List Nat := [2, 2, 4, 4, 2, 2, 2, 2, 4]
def valN (c b r tag m : Nat) : List Nat := [tag, c, r, r * (c * b / 8), c * b / 8, b, 22, b, m]
def preB (l : List (Nat × Nat)) : List UInt8 := l.flatMap fun p => leB p.1 p.2
def firstB (c b r tag : Nat) : List UInt8 := leB tag 2 ++ leB c 2 ++ leB r 4 ++ leB (r * (c * b / 8)) 4 ++ leB (c * b / 8) 2 ++ leB b 2
def maskB (c b r m : Nat) : List UInt8 := firstB c b r 65534 ++ leB 22 2 ++ leB b 2 ++ leB m 4 ++ guidB
def formB (c b r : Nat) (wide : Bool) (m : Nat) : List UInt8 := if wide then maskB c b r m else firstB c b r 1

theorem preB_form (c b r : Nat) (wide : Bool) (m : Nat) : formB c b r wide m = preB (((valN c b r (if wide then 65534 else 1) m).zip widN).take (if wide then 9 else 6)) ++ (if wide then guidB else []) := by
  cases wide <;> simp [formB, maskB, firstB, preB, valN, widN]

def widG : List AV := [.int .i64 2, .int .i64 2, .int .i64 4, .int .i64 4, .int .i64 2, .int .i64 2, .int .i64 2, .int .i64 2, .int .i64 4]
def guidG : List AV := [.int .u8 1, .int .u8 0, .int .u8 0, .int .u8 0, .int .u8 0, .int .u8 0, .int .u8 16, .int .u8 0, .int .u8 128, .int .u8 0, .int .u8 0, .int .u8 170, .int .u8 0, .int .u8 56, .int .u8 155, .int .u8 113]
theorem widG_ks : widG = ks .i64 (widN.map fun n : Nat => (n : Int)) := by simp [widG, widN, ks]
theorem guidG_u8 : guidG = u8 guidB := by simp [guidG, guidB, u8]

/-! ### Check, Wide -/

def S_SCheck (P : Prg) (f : Nat) : Prop := ∀ c b r : Int, VC P f [sndA c b r] (.int .i64 (chkS c b r))
theorem half_ne (b : Int) : half b ≠ 0 ↔ b = 8 ∨ b = 16 ∨ b = 24 := by
  rcases half_cases b with ⟨rfl, h⟩ | ⟨rfl, h⟩ | ⟨rfl, h⟩ | ⟨h1, h2, h3, h⟩ <;> simp [h] <;> omega

theorem fmt_Check {P : Prg} {f t0 : Nat} (b : Body P f 27 [.tmp 2] (ac_fmtchunk_Check t0)) : S_SCheck P f := by
  intro c x r
  refine VC.of_acall rfl rfl (ACall.of_body b (by simp) ?_)
  by_cases h : sndOk c x r
  · obtain ⟨h1, h2, h3, h4, h5⟩ := h
    have e : chkS c x r = 0 := by simp [chkS, sndOk, h1, h2, h3, h4, h5]
    rw [e]
    rcases (half_ne x).1 h3 with rfl | rfl | rfl
    · simp (config := { maxSteps := 4000000 }) (disch := omega) only [step, stepv, ev, okW, onlyFr, Bool.false_and, Bool.true_and, sealw, wl, wn, wp, aop, cV, cV1, ↓reduceIte, Nat.reduceEqDiff, Nat.reduceAdd, Int.cast_ofNat_Int, if_true, if_false, AV.one, repCells, fillA, partCells, Nat.reduceLT, Nat.reduceLeDiff, Nat.reduceMul, Nat.reduceSub, Int.reduceLT, Int.reduceLE, Int.reduceAdd, Int.reduceSub, Int.reduceMul, Int.reduceToNat, sliceCells, cellsAt, srcA, app, reduceCtorEq, Int.reduceEq, Int.reduceNeg, Int.reducePow, Nat.reducePow, Int.reduceTDiv, Int.reduceDiv, Nat.reduceDiv, Nat.reduceMod, Int.reduceMod, Int.reduceTMod, ne_eq, subA, beq_iff_eq, unA, minA, maxA, eqFs, eqA1, beq_self_eq_true, Nat.reduceBEq, ac_fmtchunk_Check, sndA]
    · simp (config := { maxSteps := 4000000 }) (disch := omega) only [step, stepv, ev, okW, onlyFr, Bool.false_and, Bool.true_and, sealw, wl, wn, wp, aop, cV, cV1, ↓reduceIte, Nat.reduceEqDiff, Nat.reduceAdd, Int.cast_ofNat_Int, if_true, if_false, AV.one, repCells, fillA, partCells, Nat.reduceLT, Nat.reduceLeDiff, Nat.reduceMul, Nat.reduceSub, Int.reduceLT, Int.reduceLE, Int.reduceAdd, Int.reduceSub, Int.reduceMul, Int.reduceToNat, sliceCells, cellsAt, srcA, app, reduceCtorEq, Int.reduceEq, Int.reduceNeg, Int.reducePow, Nat.reducePow, Int.reduceTDiv, Int.reduceDiv, Nat.reduceDiv, Nat.reduceMod, Int.reduceMod, Int.reduceTMod, ne_eq, subA, beq_iff_eq, unA, minA, maxA, eqFs, eqA1, beq_self_eq_true, Nat.reduceBEq, ac_fmtchunk_Check, sndA]
    · simp (config := { maxSteps := 4000000 }) (disch := omega) only [step, stepv, ev, okW, onlyFr, Bool.false_and, Bool.true_and, sealw, wl, wn, wp, aop, cV, cV1, ↓reduceIte, Nat.reduceEqDiff, Nat.reduceAdd, Int.cast_ofNat_Int, if_true, if_false, AV.one, repCells, fillA, partCells, Nat.reduceLT, Nat.reduceLeDiff, Nat.reduceMul, Nat.reduceSub, Int.reduceLT, Int.reduceLE, Int.reduceAdd, Int.reduceSub, Int.reduceMul, Int.reduceToNat, sliceCells, cellsAt, srcA, app, reduceCtorEq, Int.reduceEq, Int.reduceNeg, Int.reducePow, Nat.reducePow, Int.reduceTDiv, Int.reduceDiv, Nat.reduceDiv, Nat.reduceMod, Int.reduceMod, Int.reduceTMod, ne_eq, subA, beq_iff_eq, unA, minA, maxA, eqFs, eqA1, beq_self_eq_true, Nat.reduceBEq, ac_fmtchunk_Check, sndA]
  · have e : chkS c x r = 8 := by simp [chkS, h]
    rw [e]
    by_cases h1 : c < 1
    · simp (config := { maxSteps := 4000000 }) (disch := omega) only [step, stepv, ev, okW, onlyFr, Bool.false_and, Bool.true_and, sealw, wl, wn, wp, aop, cV, cV1, ↓reduceIte, Nat.reduceEqDiff, Nat.reduceAdd, Int.cast_ofNat_Int, if_true, if_false, AV.one, repCells, fillA, partCells, Nat.reduceLT, Nat.reduceLeDiff, Nat.reduceMul, Nat.reduceSub, Int.reduceLT, Int.reduceLE, Int.reduceAdd, Int.reduceSub, Int.reduceMul, Int.reduceToNat, sliceCells, cellsAt, srcA, app, reduceCtorEq, Int.reduceEq, Int.reduceNeg, Int.reducePow, Nat.reducePow, Int.reduceTDiv, Int.reduceDiv, Nat.reduceDiv, Nat.reduceMod, Int.reduceMod, Int.reduceTMod, ne_eq, subA, beq_iff_eq, unA, minA, maxA, eqFs, eqA1, beq_self_eq_true, Nat.reduceBEq, ac_fmtchunk_Check, sndA]
    by_cases h2 : 6 < c
    · simp (config := { maxSteps := 4000000 }) (disch := omega) only [step, stepv, ev, okW, onlyFr, Bool.false_and, Bool.true_and, sealw, wl, wn, wp, aop, cV, cV1, ↓reduceIte, Nat.reduceEqDiff, Nat.reduceAdd, Int.cast_ofNat_Int, if_true, if_false, AV.one, repCells, fillA, partCells, Nat.reduceLT, Nat.reduceLeDiff, Nat.reduceMul, Nat.reduceSub, Int.reduceLT, Int.reduceLE, Int.reduceAdd, Int.reduceSub, Int.reduceMul, Int.reduceToNat, sliceCells, cellsAt, srcA, app, reduceCtorEq, Int.reduceEq, Int.reduceNeg, Int.reducePow, Nat.reducePow, Int.reduceTDiv, Int.reduceDiv, Nat.reduceDiv, Nat.reduceMod, Int.reduceMod, Int.reduceTMod, ne_eq, subA, beq_iff_eq, unA, minA, maxA, eqFs, eqA1, beq_self_eq_true, Nat.reduceBEq, ac_fmtchunk_Check, sndA]
    by_cases h3 : r < 1
    · simp (config := { maxSteps := 4000000 }) (disch := omega) only [step, stepv, ev, okW, onlyFr, Bool.false_and, Bool.true_and, sealw, wl, wn, wp, aop, cV, cV1, ↓reduceIte, Nat.reduceEqDiff, Nat.reduceAdd, Int.cast_ofNat_Int, if_true, if_false, AV.one, repCells, fillA, partCells, Nat.reduceLT, Nat.reduceLeDiff, Nat.reduceMul, Nat.reduceSub, Int.reduceLT, Int.reduceLE, Int.reduceAdd, Int.reduceSub, Int.reduceMul, Int.reduceToNat, sliceCells, cellsAt, srcA, app, reduceCtorEq, Int.reduceEq, Int.reduceNeg, Int.reducePow, Nat.reducePow, Int.reduceTDiv, Int.reduceDiv, Nat.reduceDiv, Nat.reduceMod, Int.reduceMod, Int.reduceTMod, ne_eq, subA, beq_iff_eq, unA, minA, maxA, eqFs, eqA1, beq_self_eq_true, Nat.reduceBEq, ac_fmtchunk_Check, sndA]
    by_cases h4 : 1048576 < r
    · simp (config := { maxSteps := 4000000 }) (disch := omega) only [step, stepv, ev, okW, onlyFr, Bool.false_and, Bool.true_and, sealw, wl, wn, wp, aop, cV, cV1, ↓reduceIte, Nat.reduceEqDiff, Nat.reduceAdd, Int.cast_ofNat_Int, if_true, if_false, AV.one, repCells, fillA, partCells, Nat.reduceLT, Nat.reduceLeDiff, Nat.reduceMul, Nat.reduceSub, Int.reduceLT, Int.reduceLE, Int.reduceAdd, Int.reduceSub, Int.reduceMul, Int.reduceToNat, sliceCells, cellsAt, srcA, app, reduceCtorEq, Int.reduceEq, Int.reduceNeg, Int.reducePow, Nat.reducePow, Int.reduceTDiv, Int.reduceDiv, Nat.reduceDiv, Nat.reduceMod, Int.reduceMod, Int.reduceTMod, ne_eq, subA, beq_iff_eq, unA, minA, maxA, eqFs, eqA1, beq_self_eq_true, Nat.reduceBEq, ac_fmtchunk_Check, sndA]
    have h5 : ¬ half x ≠ 0 := fun h5 => h ⟨by omega, by omega, h5, by omega, by omega⟩
    rw [half_ne] at h5
    by_cases h6 : x = 8
    · omega
    by_cases h7 : x = 16
    · omega
    by_cases h8 : x = 24
    · omega
    simp (config := { maxSteps := 4000000 }) (disch := omega) only [step, stepv, ev, okW, onlyFr, Bool.false_and, Bool.true_and, sealw, wl, wn, wp, aop, cV, cV1, ↓reduceIte, Nat.reduceEqDiff, Nat.reduceAdd, Int.cast_ofNat_Int, if_true, if_false, AV.one, repCells, fillA, partCells, Nat.reduceLT, Nat.reduceLeDiff, Nat.reduceMul, Nat.reduceSub, Int.reduceLT, Int.reduceLE, Int.reduceAdd, Int.reduceSub, Int.reduceMul, Int.reduceToNat, sliceCells, cellsAt, srcA, app, reduceCtorEq, Int.reduceEq, Int.reduceNeg, Int.reducePow, Nat.reducePow, Int.reduceTDiv, Int.reduceDiv, Nat.reduceDiv, Nat.reduceMod, Int.reduceMod, Int.reduceTMod, ne_eq, subA, beq_iff_eq, unA, minA, maxA, eqFs, eqA1, beq_self_eq_true, Nat.reduceBEq, ac_fmtchunk_Check, sndA]

def broadS (c b : Int) : Bool := decide (2 < c) || decide (16 < b)
def S_SWide (P : Prg) (f : Nat) : Prop := ∀ c b r : Int, VC P f [sndA c b r] (if sndOk c b r then .tup [.bool (broadS c b), .int .i64 0] else .tup [.bool false, .int .i64 8])
theorem fmt_Wide {P : Prg} {f fC t0 : Nat} (b : Body P f 18 [.tmp 2, .tmp 3] (ac_fmtchunk_Wide fC t0)) (hC : S_SCheck P fC) : S_SWide P f := by
  intro c x r
  refine VC.of_acall rfl (by split <;> rfl) (ACall.of_body b (by simp) ?_)
  have hC' := hC c x r
  rw [sndA] at hC'
  simp (config := { maxSteps := 4000000 }) (disch := omega) only [step, stepv, ev, okW, onlyFr, Bool.false_and, Bool.true_and, sealw, wl, wn, wp, aop, cV, cV1, ↓reduceIte, Nat.reduceEqDiff, Nat.reduceAdd, Int.cast_ofNat_Int, if_true, if_false, AV.one, repCells, fillA, partCells, Nat.reduceLT, Nat.reduceLeDiff, Nat.reduceMul, Nat.reduceSub, Int.reduceLT, Int.reduceLE, Int.reduceAdd, Int.reduceSub, Int.reduceMul, Int.reduceToNat, sliceCells, cellsAt, srcA, app, reduceCtorEq, Int.reduceEq, Int.reduceNeg, Int.reducePow, Nat.reducePow, Int.reduceTDiv, Int.reduceDiv, Nat.reduceDiv, Nat.reduceMod, Int.reduceMod, Int.reduceTMod, ne_eq, subA, beq_iff_eq, unA, minA, maxA, eqFs, eqA1, beq_self_eq_true, Nat.reduceBEq, ac_fmtchunk_Wide, sndA]
  refine callQ.vc hC' ?_
  by_cases h : sndOk c x r
  · simp only [chkS, if_pos h]
    by_cases h2 : 2 < c
    · have e : broadS c x = true := by simp [broadS, h2]
      simp (config := { maxSteps := 4000000 }) (disch := omega) only [step, stepv, ev, okW, onlyFr, Bool.false_and, Bool.true_and, sealw, wl, wn, wp, aop, cV, cV1, ↓reduceIte, Nat.reduceEqDiff, Nat.reduceAdd, Int.cast_ofNat_Int, if_true, if_false, AV.one, repCells, fillA, partCells, Nat.reduceLT, Nat.reduceLeDiff, Nat.reduceMul, Nat.reduceSub, Int.reduceLT, Int.reduceLE, Int.reduceAdd, Int.reduceSub, Int.reduceMul, Int.reduceToNat, sliceCells, cellsAt, srcA, app, reduceCtorEq, Int.reduceEq, Int.reduceNeg, Int.reducePow, Nat.reducePow, Int.reduceTDiv, Int.reduceDiv, Nat.reduceDiv, Nat.reduceMod, Int.reduceMod, Int.reduceTMod, ne_eq, subA, beq_iff_eq, unA, minA, maxA, eqFs, eqA1, beq_self_eq_true, Nat.reduceBEq, e]
    · by_cases h3 : 16 < x
      · have e : broadS c x = true := by simp [broadS, h3]
        simp (config := { maxSteps := 4000000 }) (disch := omega) only [step, stepv, ev, okW, onlyFr, Bool.false_and, Bool.true_and, sealw, wl, wn, wp, aop, cV, cV1, ↓reduceIte, Nat.reduceEqDiff, Nat.reduceAdd, Int.cast_ofNat_Int, if_true, if_false, AV.one, repCells, fillA, partCells, Nat.reduceLT, Nat.reduceLeDiff, Nat.reduceMul, Nat.reduceSub, Int.reduceLT, Int.reduceLE, Int.reduceAdd, Int.reduceSub, Int.reduceMul, Int.reduceToNat, sliceCells, cellsAt, srcA, app, reduceCtorEq, Int.reduceEq, Int.reduceNeg, Int.reducePow, Nat.reducePow, Int.reduceTDiv, Int.reduceDiv, Nat.reduceDiv, Nat.reduceMod, Int.reduceMod, Int.reduceTMod, ne_eq, subA, beq_iff_eq, unA, minA, maxA, eqFs, eqA1, beq_self_eq_true, Nat.reduceBEq, e]
      · have e : broadS c x = false := by simp [broadS, h2, h3]
        simp (config := { maxSteps := 4000000 }) (disch := omega) only [step, stepv, ev, okW, onlyFr, Bool.false_and, Bool.true_and, sealw, wl, wn, wp, aop, cV, cV1, ↓reduceIte, Nat.reduceEqDiff, Nat.reduceAdd, Int.cast_ofNat_Int, if_true, if_false, AV.one, repCells, fillA, partCells, Nat.reduceLT, Nat.reduceLeDiff, Nat.reduceMul, Nat.reduceSub, Int.reduceLT, Int.reduceLE, Int.reduceAdd, Int.reduceSub, Int.reduceMul, Int.reduceToNat, sliceCells, cellsAt, srcA, app, reduceCtorEq, Int.reduceEq, Int.reduceNeg, Int.reducePow, Nat.reducePow, Int.reduceTDiv, Int.reduceDiv, Nat.reduceDiv, Nat.reduceMod, Int.reduceMod, Int.reduceTMod, ne_eq, subA, beq_iff_eq, unA, minA, maxA, eqFs, eqA1, beq_self_eq_true, Nat.reduceBEq, e]
  · simp only [chkS, if_neg h]
    simp (config := { maxSteps := 4000000 }) (disch := omega) only [step, stepv, ev, okW, onlyFr, Bool.false_and, Bool.true_and, sealw, wl, wn, wp, aop, cV, cV1, ↓reduceIte, Nat.reduceEqDiff, Nat.reduceAdd, Int.cast_ofNat_Int, if_true, if_false, AV.one, repCells, fillA, partCells, Nat.reduceLT, Nat.reduceLeDiff, Nat.reduceMul, Nat.reduceSub, Int.reduceLT, Int.reduceLE, Int.reduceAdd, Int.reduceSub, Int.reduceMul, Int.reduceToNat, sliceCells, cellsAt, srcA, app, reduceCtorEq, Int.reduceEq, Int.reduceNeg, Int.reducePow, Nat.reducePow, Int.reduceTDiv, Int.reduceDiv, Nat.reduceDiv, Nat.reduceMod, Int.reduceMod, Int.reduceTMod, ne_eq, subA, beq_iff_eq, unA, minA, maxA, eqFs, eqA1, beq_self_eq_true, Nat.reduceBEq]

def S_Broad (P : Prg) (f : Nat) : Prop := ∀ c x r : Int, VC P f [sndA c x r] (.bool (broadS c x))
theorem ref32_Broad {P : Prg} {f t0 : Nat} (b : Body P f 11 [.tmp 2] (ac_cadenzaref32_Broad t0)) : S_Broad P f := by
  intro c x r
  refine VC.of_acall rfl rfl (ACall.of_body b (by simp) ?_)
  by_cases h2 : 2 < c
  · have e : broadS c x = true := by simp [broadS, h2]
    simp (config := { maxSteps := 4000000 }) (disch := omega) only [step, stepv, ev, okW, onlyFr, Bool.false_and, Bool.true_and, sealw, wl, wn, wp, aop, cV, cV1, ↓reduceIte, Nat.reduceEqDiff, Nat.reduceAdd, Int.cast_ofNat_Int, if_true, if_false, AV.one, repCells, fillA, partCells, Nat.reduceLT, Nat.reduceLeDiff, Nat.reduceMul, Nat.reduceSub, Int.reduceLT, Int.reduceLE, Int.reduceAdd, Int.reduceSub, Int.reduceMul, Int.reduceToNat, sliceCells, cellsAt, srcA, app, reduceCtorEq, Int.reduceEq, Int.reduceNeg, Int.reducePow, Nat.reducePow, Int.reduceTDiv, Int.reduceDiv, Nat.reduceDiv, Nat.reduceMod, Int.reduceMod, Int.reduceTMod, ne_eq, subA, beq_iff_eq, unA, minA, maxA, eqFs, eqA1, beq_self_eq_true, Nat.reduceBEq, ac_cadenzaref32_Broad, sndA, e]
  · by_cases h3 : 16 < x
    · have e : broadS c x = true := by simp [broadS, h3]
      simp (config := { maxSteps := 4000000 }) (disch := omega) only [step, stepv, ev, okW, onlyFr, Bool.false_and, Bool.true_and, sealw, wl, wn, wp, aop, cV, cV1, ↓reduceIte, Nat.reduceEqDiff, Nat.reduceAdd, Int.cast_ofNat_Int, if_true, if_false, AV.one, repCells, fillA, partCells, Nat.reduceLT, Nat.reduceLeDiff, Nat.reduceMul, Nat.reduceSub, Int.reduceLT, Int.reduceLE, Int.reduceAdd, Int.reduceSub, Int.reduceMul, Int.reduceToNat, sliceCells, cellsAt, srcA, app, reduceCtorEq, Int.reduceEq, Int.reduceNeg, Int.reducePow, Nat.reducePow, Int.reduceTDiv, Int.reduceDiv, Nat.reduceDiv, Nat.reduceMod, Int.reduceMod, Int.reduceTMod, ne_eq, subA, beq_iff_eq, unA, minA, maxA, eqFs, eqA1, beq_self_eq_true, Nat.reduceBEq, ac_cadenzaref32_Broad, sndA, e]
    · have e : broadS c x = false := by simp [broadS, h2, h3]
      simp (config := { maxSteps := 4000000 }) (disch := omega) only [step, stepv, ev, okW, onlyFr, Bool.false_and, Bool.true_and, sealw, wl, wn, wp, aop, cV, cV1, ↓reduceIte, Nat.reduceEqDiff, Nat.reduceAdd, Int.cast_ofNat_Int, if_true, if_false, AV.one, repCells, fillA, partCells, Nat.reduceLT, Nat.reduceLeDiff, Nat.reduceMul, Nat.reduceSub, Int.reduceLT, Int.reduceLE, Int.reduceAdd, Int.reduceSub, Int.reduceMul, Int.reduceToNat, sliceCells, cellsAt, srcA, app, reduceCtorEq, Int.reduceEq, Int.reduceNeg, Int.reducePow, Nat.reducePow, Int.reduceTDiv, Int.reduceDiv, Nat.reduceDiv, Nat.reduceMod, Int.reduceMod, Int.reduceTMod, ne_eq, subA, beq_iff_eq, unA, minA, maxA, eqFs, eqA1, beq_self_eq_true, Nat.reduceBEq, ac_cadenzaref32_Broad, sndA, e]

end Go.Am

namespace Go.Am
open Go.RowKit

def S_FForm (P : Prg) (f : Nat) : Prop := ∀ (c b r : Nat) (wide : Bool) (m : Nat), sndOk c b r → m < 4294967296 → VC P f [sndA c b r, .bool wide, .int .u64 m] (bs (formB c b r wide m))

def FitL (V : List Nat) : Prop := ∀ k (h : k < V.length) (h' : k < widN.length), V[k] < 256 ^ widN[k] ∧ 1 ≤ widN[k] ∧ widN[k] ≤ 8
theorem valN_fit {c b r tag m : Nat} (h : sndOk c b r) (hm : m < 4294967296) (ht : tag < 65536) : FitL (valN c b r tag m) := by
  obtain ⟨h1, h2, h3, h4, h5⟩ := h
  have hb : b ≤ 24 := by rcases (half_ne b).1 h3 with h | h | h <;> omega
  have e1 : c * b ≤ 6 * 24 := Nat.mul_le_mul (by omega) hb
  have e2 : r * (c * b / 8) ≤ 1048576 * 18 := Nat.mul_le_mul (by omega) (by omega)
  intro k hk _
  have hk : k < 9 := hk
  match k, hk with
  | 0, _ => simp [valN, widN]; omega
  | 1, _ => simp [valN, widN]; omega
  | 2, _ => simp [valN, widN]; omega
  | 3, _ => simp [valN, widN]; omega
  | 4, _ => simp [valN, widN]; omega
  | 5, _ => simp [valN, widN]; omega
  | 6, _ => simp [valN, widN]
  | 7, _ => simp [valN, widN]; omega
  | 8, _ => simp [valN, widN]; omega

theorem preB_succ {l : List (Nat × Nat)} {k : Nat} (h : k < l.length) : preB (l.take (k + 1)) = preB (l.take k) ++ leB (l[k]).1 (l[k]).2 := by
  rw [preB, List.take_succ_eq_append_getElem h, List.flatMap_append]; simp [preB]

theorem preB_le {V : List Nat} (k : Nat) : (preB ((V.zip widN).take k)).length ≤ 36 := by
  have h : ∀ l : List (Nat × Nat), (∀ p ∈ l, p.2 ≤ 4) → (preB l).length ≤ l.length * 4 := by
    intro l
    induction l with
    | nil => simp [preB]
    | cons p l ih =>
      intro h
      have h1 := h p (by simp)
      have h2 := ih fun q hq => h q (by simp [hq])
      have e : preB (p :: l) = leB p.1 p.2 ++ preB l := rfl
      rw [e, List.length_append, leB_length, List.length_cons]
      omega
  have h2 := h ((V.zip widN).take k) fun p hp => by
    have h3 := (List.of_mem_zip (List.mem_of_mem_take hp)).2
    simp [widN] at h3; omega
  have h4 : ((V.zip widN).take k).length ≤ 9 := by simp [widN]; omega
  omega

set_option maxRecDepth 20000 in
set_option maxHeartbeats 1000000 in
theorem fmt_form {P : Prg} {f fB t0 t1 t2 g0 g1 : Nat} (bd : Body P f 67 [.tmp 6] (ac_fmtchunk_form fB t0 t1 t2 g0 g1)) (hB : S_leBytes P fB) (h0 : P.G.lookup g0 = some widG) (h1 : P.G.lookup g1 = some guidG) : S_FForm P f := by
  intro c b r wide m hok hm
  have hok0 := hok
  obtain ⟨q1, q2, q3, q4, q5⟩ := hok0
  have hb : b ≤ 24 := by rcases (half_ne b).1 q3 with h | h | h <;> omega
  have e1 : c * b ≤ 6 * 24 := Nat.mul_le_mul (by omega) hb
  have e2 : r * (c * b / 8) ≤ 1048576 * 18 := Nat.mul_le_mul (by omega) (by omega)
  have hpre := preB_form c b r wide m
  have hfit : ∀ tag : Nat, tag < 65536 → FitL (valN c b r tag m) := fun tag ht => valN_fit hok hm ht
  simp only [valN] at hpre hfit
  generalize hS : c * b / 8 = S at *
  generalize hT : r * S = T at *
  have m1 : (c : Int) * b = ((c * b : Nat) : Int) := by simp
  have m2 : ((c * b : Nat) : Int) / 8 = (S : Int) := by omega
  have m3 : (r : Int) * (S : Int) = (T : Int) := by rw [← hT]; simp
  generalize c * b = cb at *
  refine VC.of_walk 1 rfl (isD_bs _) (ACall.of_body bd (by simp) ?_)
  have g0' : glob P.G g0 = .cell widG := by simp [glob, h0]
  have g1' : glob P.G g1 = .cell guidG := by simp [glob, h1]
  cases wide with
  | false =>
    simp (config := { maxSteps := 4000000 }) (disch := omega) only [step, stepv, ev, okW, onlyFr, Bool.false_and, Bool.true_and, sealw, wl, wn, wp, aop, cV, cV1, ↓reduceIte, Nat.reduceEqDiff, Nat.reduceAdd, Int.cast_ofNat_Int, if_true, if_false, AV.one, repCells, fillA, partCells, Nat.reduceLT, Nat.reduceLeDiff, Nat.reduceMul, Nat.reduceSub, Int.reduceLT, Int.reduceLE, Int.reduceAdd, Int.reduceSub, Int.reduceMul, Int.reduceToNat, sliceCells, cellsAt, srcA, app, reduceCtorEq, Int.reduceEq, Int.reduceNeg, Int.reducePow, Nat.reducePow, Int.reduceTDiv, Int.reduceDiv, Nat.reduceDiv, Nat.reduceMod, Int.reduceMod, Int.reduceTMod, ne_eq, subA, beq_iff_eq, unA, minA, maxA, eqFs, eqA1, beq_self_eq_true, Nat.reduceBEq, ac_fmtchunk_form, sndA, m1, m2, m3]
    obtain ⟨V, hV⟩ : ∃ V : List Nat, V = [1, c, r, T, S, b, 22, b, m] := ⟨_, rfl⟩
    have hl9 : V.length = 9 := by rw [hV]; rfl
    have hc9 : ([.int .u64 1, .int .u64 c, .int .u64 r, .int .u64 T, .int .u64 S, .int .u64 b, .int .u64 22, .int .u64 b, .int .u64 m] : List AV) = ks .u64 (V.map fun n : Nat => (n : Int)) := by rw [hV]; simp [ks]
    have f1 := hfit 1 (by omega)
    rw [← hV] at f1
    have hp : formB c b r false m = preB ((V.zip widN).take 6) := by rw [hpre, hV]; simp
    rw [hc9, hp]
    refine ALoop.by (ι := Nat) (fun k => ⟨[(45, .int .i64 k), (44, .int .i64 6), (10, .own 2 (preB ((V.zip widN).take k)).length), (8, .ref 1 1 0), (1, .bool false)], [⟨t0, 3, 1, [.int .i64 c, .int .i64 b, .int .i64 r], 0⟩, ⟨t1, 9, 1, ks .u64 (V.map fun n : Nat => (n : Int)), 0⟩, ⟨t2, 1, (preB ((V.zip widN).take k)).length, u8 (preB ((V.zip widN).take k)), 0⟩]⟩) (fun k => k ≤ 6) (fun k => 6 - k) 0 (Le.trans (Le.virt 10 t2 1 (by omega) rfl) (Le.slots (by simp [Am.look, preB]))) (by omega) ?_
    intro k hk
    have hs := preB_le (V := V) k
    by_cases hlt : k < 6
    · have f1 := f1 k (by omega) (by simp [widN]; omega)
      have d1 := drop_ks (K := .u64) (l := V.map fun n : Nat => (n : Int)) (k := k) (by simp; omega)
      have d2 := drop_ks (K := .i64) (l := widN.map fun n : Nat => (n : Int)) (k := k) (by simp [widN]; omega)
      have d3 := preB_succ (l := V.zip widN) (k := k) (by simp [widN]; omega)
      have d4 : (ks .u64 (V.map fun n : Nat => (n : Int))).length = 9 := by rw [ks_length]; simpa using hl9
      have d5 : (ks .i64 (widN.map fun n : Nat => (n : Int))).length = 9 := by rw [ks_length]; rfl
      rw [List.getElem_map] at d1 d2
      rw [List.getElem_zip] at d3
      obtain ⟨f1, f2, f3⟩ := f1
      rw [widG_ks] at g0'
      generalize V[k]'_ = v at *
      generalize widN[k]'_ = w at *
      obtain ⟨W, hW⟩ : ∃ W, (widN.map fun n : Nat => (n : Int)) = W := ⟨_, rfl⟩
      rw [hW] at d2 d5 g0'
      simp (config := { maxSteps := 4000000 }) (disch := omega) only [step, stepv, ev, okW, onlyFr, Bool.false_and, Bool.true_and, sealw, wl, wn, wp, aop, cV, cV1, ↓reduceIte, Nat.reduceEqDiff, Nat.reduceAdd, Int.cast_ofNat_Int, if_true, if_false, AV.one, repCells, fillA, partCells, Nat.reduceLT, Nat.reduceLeDiff, Nat.reduceMul, Nat.reduceSub, Int.reduceLT, Int.reduceLE, Int.reduceAdd, Int.reduceSub, Int.reduceMul, Int.reduceToNat, sliceCells, cellsAt, srcA, app, reduceCtorEq, Int.reduceEq, Int.reduceNeg, Int.reducePow, Nat.reducePow, Int.reduceTDiv, Int.reduceDiv, Nat.reduceDiv, Nat.reduceMod, Int.reduceMod, Int.reduceTMod, ne_eq, subA, beq_iff_eq, unA, minA, maxA, eqFs, eqA1, beq_self_eq_true, Nat.reduceBEq, g0', d1, d2, d4, d5]
      refine callD.vc (hB v w f2 f3 f1) ?_
      simp (config := { maxSteps := 4000000 }) (disch := omega) only [step, stepv, ev, okW, onlyFr, Bool.false_and, Bool.true_and, sealw, wl, wn, wp, aop, cV, cV1, ↓reduceIte, Nat.reduceEqDiff, Nat.reduceAdd, Int.cast_ofNat_Int, if_true, if_false, AV.one, repCells, fillA, partCells, Nat.reduceLT, Nat.reduceLeDiff, Nat.reduceMul, Nat.reduceSub, Int.reduceLT, Int.reduceLE, Int.reduceAdd, Int.reduceSub, Int.reduceMul, Int.reduceToNat, sliceCells, cellsAt, srcA, app, reduceCtorEq, Int.reduceEq, Int.reduceNeg, Int.reducePow, Nat.reducePow, Int.reduceTDiv, Int.reduceDiv, Nat.reduceDiv, Nat.reduceMod, Int.reduceMod, Int.reduceTMod, ne_eq, subA, beq_iff_eq, unA, minA, maxA, eqFs, eqA1, beq_self_eq_true, Nat.reduceBEq, bs, leB_length]
      refine ⟨k + 1, by omega, by omega, ?_⟩
      rw [d3, ← u8_append, List.length_append, leB_length]
      exact Le.slots (by simp [Am.look])
    · have ek : k = 6 := by omega
      subst ek
      simp (config := { maxSteps := 4000000 }) (disch := omega) only [step, stepv, ev, okW, onlyFr, Bool.false_and, Bool.true_and, sealw, wl, wn, wp, aop, cV, cV1, ↓reduceIte, Nat.reduceEqDiff, Nat.reduceAdd, Int.cast_ofNat_Int, if_true, if_false, AV.one, repCells, fillA, partCells, Nat.reduceLT, Nat.reduceLeDiff, Nat.reduceMul, Nat.reduceSub, Int.reduceLT, Int.reduceLE, Int.reduceAdd, Int.reduceSub, Int.reduceMul, Int.reduceToNat, sliceCells, cellsAt, srcA, app, reduceCtorEq, Int.reduceEq, Int.reduceNeg, Int.reducePow, Nat.reducePow, Int.reduceTDiv, Int.reduceDiv, Nat.reduceDiv, Nat.reduceMod, Int.reduceMod, Int.reduceTMod, ne_eq, subA, beq_iff_eq, unA, minA, maxA, eqFs, eqA1, beq_self_eq_true, Nat.reduceBEq]
      simp [frzN, frzK, frzL, frzV, frzL_T _ (isT_u8 _), bs]
  | true =>
    simp (config := { maxSteps := 4000000 }) (disch := omega) only [step, stepv, ev, okW, onlyFr, Bool.false_and, Bool.true_and, sealw, wl, wn, wp, aop, cV, cV1, ↓reduceIte, Nat.reduceEqDiff, Nat.reduceAdd, Int.cast_ofNat_Int, if_true, if_false, AV.one, repCells, fillA, partCells, Nat.reduceLT, Nat.reduceLeDiff, Nat.reduceMul, Nat.reduceSub, Int.reduceLT, Int.reduceLE, Int.reduceAdd, Int.reduceSub, Int.reduceMul, Int.reduceToNat, sliceCells, cellsAt, srcA, app, reduceCtorEq, Int.reduceEq, Int.reduceNeg, Int.reducePow, Nat.reducePow, Int.reduceTDiv, Int.reduceDiv, Nat.reduceDiv, Nat.reduceMod, Int.reduceMod, Int.reduceTMod, ne_eq, subA, beq_iff_eq, unA, minA, maxA, eqFs, eqA1, beq_self_eq_true, Nat.reduceBEq, ac_fmtchunk_form, sndA, m1, m2, m3]
    obtain ⟨V, hV⟩ : ∃ V : List Nat, V = [65534, c, r, T, S, b, 22, b, m] := ⟨_, rfl⟩
    have hl9 : V.length = 9 := by rw [hV]; rfl
    have hc9 : ([.int .u64 65534, .int .u64 c, .int .u64 r, .int .u64 T, .int .u64 S, .int .u64 b, .int .u64 22, .int .u64 b, .int .u64 m] : List AV) = ks .u64 (V.map fun n : Nat => (n : Int)) := by rw [hV]; simp [ks]
    have f1 := hfit 65534 (by omega)
    rw [← hV] at f1
    have hp : formB c b r true m = preB ((V.zip widN).take 9) ++ guidB := by rw [hpre, hV]; simp
    rw [hc9, hp]
    refine ALoop.by (ι := Nat) (fun k => ⟨[(45, .int .i64 k), (44, .int .i64 9), (10, .own 2 (preB ((V.zip widN).take k)).length), (8, .ref 1 1 0), (1, .bool true)], [⟨t0, 3, 1, [.int .i64 c, .int .i64 b, .int .i64 r], 0⟩, ⟨t1, 9, 1, ks .u64 (V.map fun n : Nat => (n : Int)), 0⟩, ⟨t2, 1, (preB ((V.zip widN).take k)).length, u8 (preB ((V.zip widN).take k)), 0⟩]⟩) (fun k => k ≤ 9) (fun k => 9 - k) 0 (Le.trans (Le.virt 10 t2 1 (by omega) rfl) (Le.slots (by simp [Am.look, preB]))) (by omega) ?_
    intro k hk
    have hs := preB_le (V := V) k
    by_cases hlt : k < 9
    · have f1 := f1 k (by omega) (by simp [widN]; omega)
      have d1 := drop_ks (K := .u64) (l := V.map fun n : Nat => (n : Int)) (k := k) (by simp; omega)
      have d2 := drop_ks (K := .i64) (l := widN.map fun n : Nat => (n : Int)) (k := k) (by simp [widN]; omega)
      have d3 := preB_succ (l := V.zip widN) (k := k) (by simp [widN]; omega)
      have d4 : (ks .u64 (V.map fun n : Nat => (n : Int))).length = 9 := by rw [ks_length]; simpa using hl9
      have d5 : (ks .i64 (widN.map fun n : Nat => (n : Int))).length = 9 := by rw [ks_length]; rfl
      rw [List.getElem_map] at d1 d2
      rw [List.getElem_zip] at d3
      obtain ⟨f1, f2, f3⟩ := f1
      rw [widG_ks] at g0'
      generalize V[k]'_ = v at *
      generalize widN[k]'_ = w at *
      obtain ⟨W, hW⟩ : ∃ W, (widN.map fun n : Nat => (n : Int)) = W := ⟨_, rfl⟩
      rw [hW] at d2 d5 g0'
      simp (config := { maxSteps := 4000000 }) (disch := omega) only [step, stepv, ev, okW, onlyFr, Bool.false_and, Bool.true_and, sealw, wl, wn, wp, aop, cV, cV1, ↓reduceIte, Nat.reduceEqDiff, Nat.reduceAdd, Int.cast_ofNat_Int, if_true, if_false, AV.one, repCells, fillA, partCells, Nat.reduceLT, Nat.reduceLeDiff, Nat.reduceMul, Nat.reduceSub, Int.reduceLT, Int.reduceLE, Int.reduceAdd, Int.reduceSub, Int.reduceMul, Int.reduceToNat, sliceCells, cellsAt, srcA, app, reduceCtorEq, Int.reduceEq, Int.reduceNeg, Int.reducePow, Nat.reducePow, Int.reduceTDiv, Int.reduceDiv, Nat.reduceDiv, Nat.reduceMod, Int.reduceMod, Int.reduceTMod, ne_eq, subA, beq_iff_eq, unA, minA, maxA, eqFs, eqA1, beq_self_eq_true, Nat.reduceBEq, g0', d1, d2, d4, d5]
      refine callD.vc (hB v w f2 f3 f1) ?_
      simp (config := { maxSteps := 4000000 }) (disch := omega) only [step, stepv, ev, okW, onlyFr, Bool.false_and, Bool.true_and, sealw, wl, wn, wp, aop, cV, cV1, ↓reduceIte, Nat.reduceEqDiff, Nat.reduceAdd, Int.cast_ofNat_Int, if_true, if_false, AV.one, repCells, fillA, partCells, Nat.reduceLT, Nat.reduceLeDiff, Nat.reduceMul, Nat.reduceSub, Int.reduceLT, Int.reduceLE, Int.reduceAdd, Int.reduceSub, Int.reduceMul, Int.reduceToNat, sliceCells, cellsAt, srcA, app, reduceCtorEq, Int.reduceEq, Int.reduceNeg, Int.reducePow, Nat.reducePow, Int.reduceTDiv, Int.reduceDiv, Nat.reduceDiv, Nat.reduceMod, Int.reduceMod, Int.reduceTMod, ne_eq, subA, beq_iff_eq, unA, minA, maxA, eqFs, eqA1, beq_self_eq_true, Nat.reduceBEq, bs, leB_length]
      refine ⟨k + 1, by omega, by omega, ?_⟩
      rw [d3, ← u8_append, List.length_append, leB_length]
      exact Le.slots (by simp [Am.look])
    · have ek : k = 9 := by omega
      subst ek
      have z1 : (min 16 guidG.length = 16) = True := eq_true rfl
      have z2 : List.take 16 guidG = u8 guidB := by rw [guidG_u8]; rfl
      have z3 : guidB.length = 16 := rfl
      have z4 : (guidB.length = 16) = True := eq_true rfl
      simp (config := { maxSteps := 4000000 }) (disch := omega) only [step, stepv, ev, okW, onlyFr, Bool.false_and, Bool.true_and, sealw, wl, wn, wp, aop, cV, cV1, ↓reduceIte, Nat.reduceEqDiff, Nat.reduceAdd, Int.cast_ofNat_Int, if_true, if_false, AV.one, repCells, fillA, partCells, Nat.reduceLT, Nat.reduceLeDiff, Nat.reduceMul, Nat.reduceSub, Int.reduceLT, Int.reduceLE, Int.reduceAdd, Int.reduceSub, Int.reduceMul, Int.reduceToNat, sliceCells, cellsAt, srcA, app, reduceCtorEq, Int.reduceEq, Int.reduceNeg, Int.reducePow, Nat.reducePow, Int.reduceTDiv, Int.reduceDiv, Nat.reduceDiv, Nat.reduceMod, Int.reduceMod, Int.reduceTMod, ne_eq, subA, beq_iff_eq, unA, minA, maxA, eqFs, eqA1, beq_self_eq_true, Nat.reduceBEq, g1', z1, z2, z4]
      simp [frzN, frzK, frzL, frzV, u8_append, frzL_T _ (isT_u8 _), bs, z3]

end Go.Am

namespace Go.Am
open Go.RowKit

def S_WrittenO (t : Nat) (P : Prg) (f : Nat) : Prop := ∀ n w : Nat, w ≤ 8 → n < 18446744073709551616 → VO P f [.int .u64 n, .int .i64 w] (.own 0 w) ⟨t, 1, w, u8 (leB n w), 0⟩

theorem ref01_WrittenO {P : Prg} {f t0 : Nat} (b : Body P f 21 [.tmp 4] (ac_cadenzaref01_Written t0)) : S_WrittenO t0 P f := by
  intro n w hw hn
  refine VO.of_walk rfl (by simp [isDL_u8]) (by simp [okr]) (ACall.of_body b (by simp) ?_)
  simp (config := { maxSteps := 4000000 }) (disch := omega) only [step, stepv, ev, okW, onlyFr, Bool.false_and, Bool.true_and, sealw, wl, wn, wp, aop, cV, cV1, ↓reduceIte, Nat.reduceEqDiff, Nat.reduceAdd, Int.cast_ofNat_Int, if_true, if_false, AV.one, repCells, fillA, partCells, Nat.reduceLT, Nat.reduceLeDiff, Nat.reduceMul, Nat.reduceSub, Int.reduceLT, Int.reduceLE, Int.reduceAdd, Int.reduceSub, Int.reduceMul, Int.reduceToNat, sliceCells, cellsAt, srcA, app, reduceCtorEq, Int.reduceEq, Int.reduceNeg, Int.reducePow, Nat.reducePow, Int.reduceTDiv, Int.reduceDiv, Nat.reduceDiv, Nat.reduceMod, Int.reduceMod, Int.reduceTMod, ne_eq, subA, beq_iff_eq, unA, minA, maxA, eqFs, eqA1, beq_self_eq_true, Nat.reduceBEq, ac_cadenzaref01_Written]
  refine ALoop.by (ι := Nat) (fun k => ⟨[(6, .int .i64 k), (5, .own 0 k), (1, .int .i64 w), (0, .int .u64 ((n / 256 ^ k : Nat) : Int))], [⟨t0, 1, k, u8 ((leB n w).take k), 0⟩]⟩) (fun k => k ≤ w) (fun k => w - k) 0
    (Le.trans (Le.virt 5 t0 1 (by omega) rfl) (Le.slots (by simp [Am.look]))) (by omega) ?_
  intro k hk
  have hdiv : n / 256 ^ k ≤ n := Nat.div_le_self _ _
  by_cases hlt : k < w
  · have hl : (u8 ((leB n w).take k)).length = k := by simp [u8_length, leB_length]; omega
    have e6 := leB_take_succ (n := n) hlt
    have e2 : n / 256 ^ (k + 1) = n / 256 ^ k / 256 := by rw [Nat.pow_succ, ← Nat.div_div_eq_div_mul]
    generalize hm : n / 256 ^ k = m at *
    have e3 : (UInt8.ofNat (m % 256)).toNat = m % 256 := by simp
    have e5 : ((m : Int) % 256) = ((m % 256 : Nat) : Int) := by omega
    have e7 : u8 ((leB n w).take k) ++ [AV.int .u8 ((m : Int) % 256)] = u8 ((leB n w).take (k + 1)) := by
      rw [e6, ← u8_append, u8_cons, u8_nil, e3, e5]
    simp (config := { maxSteps := 4000000 }) (disch := omega) only [step, stepv, ev, okW, onlyFr, Bool.false_and, Bool.true_and, sealw, wl, wn, wp, aop, cV, cV1, ↓reduceIte, Nat.reduceEqDiff, Nat.reduceAdd, Int.cast_ofNat_Int, if_true, if_false, AV.one, repCells, fillA, partCells, Nat.reduceLT, Nat.reduceLeDiff, Nat.reduceMul, Nat.reduceSub, Int.reduceLT, Int.reduceLE, Int.reduceAdd, Int.reduceSub, Int.reduceMul, Int.reduceToNat, sliceCells, cellsAt, srcA, app, reduceCtorEq, Int.reduceEq, Int.reduceNeg, Int.reducePow, Nat.reducePow, Int.reduceTDiv, Int.reduceDiv, Nat.reduceDiv, Nat.reduceMod, Int.reduceMod, Int.reduceTMod, ne_eq, subA, beq_iff_eq, unA, minA, maxA, eqFs, eqA1, beq_self_eq_true, Nat.reduceBEq, hl]
    rw [e7]
    refine ⟨k + 1, by omega, by omega, Le.drop 1 2 (by omega) rfl ?_ ?_⟩
    · rw [e2]; simp [Am.look, frzK, frzL, frzV]
    · intro i y hy
      match i, hy with
      | 0, hy =>
        simp at hy
        subst hy
        exact ⟨u8 ((leB n w).take (k + 1)), by simp, by simp only [frzK]; exact frzL_T _ (isT_u8 _)⟩
      | i + 1, hy => simp at hy
  · have ek : k = w := by omega
    subst ek
    have e7 : (leB n k).take k = leB n k := List.take_of_length_le (by rw [leB_length]; exact Nat.le_refl _)
    simp (config := { maxSteps := 4000000 }) (disch := omega) only [step, stepv, ev, okW, onlyFr, Bool.false_and, Bool.true_and, sealw, wl, wn, wp, aop, cV, cV1, ↓reduceIte, Nat.reduceEqDiff, Nat.reduceAdd, Int.cast_ofNat_Int, if_true, if_false, AV.one, repCells, fillA, partCells, Nat.reduceLT, Nat.reduceLeDiff, Nat.reduceMul, Nat.reduceSub, Int.reduceLT, Int.reduceLE, Int.reduceAdd, Int.reduceSub, Int.reduceMul, Int.reduceToNat, sliceCells, cellsAt, srcA, app, reduceCtorEq, Int.reduceEq, Int.reduceNeg, Int.reducePow, Nat.reducePow, Int.reduceTDiv, Int.reduceDiv, Nat.reduceDiv, Nat.reduceMod, Int.reduceMod, Int.reduceTMod, ne_eq, subA, beq_iff_eq, unA, minA, maxA, eqFs, eqA1, beq_self_eq_true, Nat.reduceBEq, e7]
    exact ⟨0, rfl, rfl⟩

def S_First (t : Nat) (P : Prg) (f : Nat) : Prop := ∀ (c b r tag : Nat), sndOk c b r → tag < 65536 → VO P f [sndA c b r, .int .u64 tag] (.own 0 16) ⟨t, 1, 16, u8 (firstB c b r tag), 0⟩

theorem firstB_length (c b r tag : Nat) : (firstB c b r tag).length = 16 := by simp [firstB, leB_length]

set_option maxRecDepth 20000 in
theorem ref32_first {P : Prg} {f fW t0 t1 : Nat} (bd : Body P f 46 [.tmp 4] (ac_cadenzaref32_first fW t0 t1)) (hO : S_WrittenO t1 P fW) (hW : S_Written P fW) : S_First t1 P f := by
  intro c b r tag hok ht
  obtain ⟨q1, q2, q3, q4, q5⟩ := hok
  have hb : b ≤ 24 := by rcases (half_ne b).1 q3 with h | h | h <;> omega
  have e1 : c * b ≤ 6 * 24 := Nat.mul_le_mul (by omega) hb
  have e2 : r * (c * b / 8) ≤ 1048576 * 18 := Nat.mul_le_mul (by omega) (by omega)
  have hfb : firstB c b r tag = firstB c b r tag := rfl
  conv at hfb => rhs; unfold firstB
  generalize firstB c b r tag = F at hfb
  generalize hS : c * b / 8 = S at *
  generalize hT : r * S = T at *
  have m1 : (c : Int) * b = ((c * b : Nat) : Int) := by simp
  have m2 : ((c * b : Nat) : Int) / 8 = (S : Int) := by omega
  have m3 : (r : Int) * (S : Int) = (T : Int) := by rw [← hT]; simp
  generalize c * b = cb at *
  refine VO.of_walk (by simp [isDL, isD, sndA]) (by simp [isDL_u8]) (by simp [okr]) (ACall.of_body bd (by simp) ?_)
  simp (config := { maxSteps := 4000000 }) (disch := omega) only [step, stepv, ev, okW, onlyFr, Bool.false_and, Bool.true_and, sealw, wl, wn, wp, aop, cV, cV1, ↓reduceIte, Nat.reduceEqDiff, Nat.reduceAdd, Int.cast_ofNat_Int, if_true, if_false, AV.one, repCells, fillA, partCells, Nat.reduceLT, Nat.reduceLeDiff, Nat.reduceMul, Nat.reduceSub, Int.reduceLT, Int.reduceLE, Int.reduceAdd, Int.reduceSub, Int.reduceMul, Int.reduceToNat, sliceCells, cellsAt, srcA, app, reduceCtorEq, Int.reduceEq, Int.reduceNeg, Int.reducePow, Nat.reducePow, Int.reduceTDiv, Int.reduceDiv, Nat.reduceDiv, Nat.reduceMod, Int.reduceMod, Int.reduceTMod, ne_eq, subA, beq_iff_eq, unA, minA, maxA, eqFs, eqA1, beq_self_eq_true, Nat.reduceBEq, ac_cadenzaref32_first, sndA, m1, m2]
  refine callQ.vo (hO tag 2 (by omega) (by omega)) ?_
  simp (config := { maxSteps := 4000000 }) (disch := omega) only [step, stepv, ev, okW, onlyFr, Bool.false_and, Bool.true_and, sealw, wl, wn, wp, aop, cV, cV1, ↓reduceIte, Nat.reduceEqDiff, Nat.reduceAdd, Int.cast_ofNat_Int, if_true, if_false, AV.one, repCells, fillA, partCells, Nat.reduceLT, Nat.reduceLeDiff, Nat.reduceMul, Nat.reduceSub, Int.reduceLT, Int.reduceLE, Int.reduceAdd, Int.reduceSub, Int.reduceMul, Int.reduceToNat, sliceCells, cellsAt, srcA, app, reduceCtorEq, Int.reduceEq, Int.reduceNeg, Int.reducePow, Nat.reducePow, Int.reduceTDiv, Int.reduceDiv, Nat.reduceDiv, Nat.reduceMod, Int.reduceMod, Int.reduceTMod, ne_eq, subA, beq_iff_eq, unA, minA, maxA, eqFs, eqA1, beq_self_eq_true, Nat.reduceBEq, shr]
  refine callQ.vc (hW c 2 (by omega) (by omega)) ?_
  simp (config := { maxSteps := 4000000 }) (disch := omega) only [step, stepv, ev, okW, onlyFr, Bool.false_and, Bool.true_and, sealw, wl, wn, wp, aop, cV, cV1, ↓reduceIte, Nat.reduceEqDiff, Nat.reduceAdd, Int.cast_ofNat_Int, if_true, if_false, AV.one, repCells, fillA, partCells, Nat.reduceLT, Nat.reduceLeDiff, Nat.reduceMul, Nat.reduceSub, Int.reduceLT, Int.reduceLE, Int.reduceAdd, Int.reduceSub, Int.reduceMul, Int.reduceToNat, sliceCells, cellsAt, srcA, app, reduceCtorEq, Int.reduceEq, Int.reduceNeg, Int.reducePow, Nat.reducePow, Int.reduceTDiv, Int.reduceDiv, Nat.reduceDiv, Nat.reduceMod, Int.reduceMod, Int.reduceTMod, ne_eq, subA, beq_iff_eq, unA, minA, maxA, eqFs, eqA1, beq_self_eq_true, Nat.reduceBEq, bs, leB_length]
  refine callQ.vc (hW r 4 (by omega) (by omega)) ?_
  simp (config := { maxSteps := 4000000 }) (disch := omega) only [step, stepv, ev, okW, onlyFr, Bool.false_and, Bool.true_and, sealw, wl, wn, wp, aop, cV, cV1, ↓reduceIte, Nat.reduceEqDiff, Nat.reduceAdd, Int.cast_ofNat_Int, if_true, if_false, AV.one, repCells, fillA, partCells, Nat.reduceLT, Nat.reduceLeDiff, Nat.reduceMul, Nat.reduceSub, Int.reduceLT, Int.reduceLE, Int.reduceAdd, Int.reduceSub, Int.reduceMul, Int.reduceToNat, sliceCells, cellsAt, srcA, app, reduceCtorEq, Int.reduceEq, Int.reduceNeg, Int.reducePow, Nat.reducePow, Int.reduceTDiv, Int.reduceDiv, Nat.reduceDiv, Nat.reduceMod, Int.reduceMod, Int.reduceTMod, ne_eq, subA, beq_iff_eq, unA, minA, maxA, eqFs, eqA1, beq_self_eq_true, Nat.reduceBEq, bs, leB_length, m3]
  refine callQ.vc (hW T 4 (by omega) (by omega)) ?_
  simp (config := { maxSteps := 4000000 }) (disch := omega) only [step, stepv, ev, okW, onlyFr, Bool.false_and, Bool.true_and, sealw, wl, wn, wp, aop, cV, cV1, ↓reduceIte, Nat.reduceEqDiff, Nat.reduceAdd, Int.cast_ofNat_Int, if_true, if_false, AV.one, repCells, fillA, partCells, Nat.reduceLT, Nat.reduceLeDiff, Nat.reduceMul, Nat.reduceSub, Int.reduceLT, Int.reduceLE, Int.reduceAdd, Int.reduceSub, Int.reduceMul, Int.reduceToNat, sliceCells, cellsAt, srcA, app, reduceCtorEq, Int.reduceEq, Int.reduceNeg, Int.reducePow, Nat.reducePow, Int.reduceTDiv, Int.reduceDiv, Nat.reduceDiv, Nat.reduceMod, Int.reduceMod, Int.reduceTMod, ne_eq, subA, beq_iff_eq, unA, minA, maxA, eqFs, eqA1, beq_self_eq_true, Nat.reduceBEq, bs, leB_length]
  refine callQ.vc (hW S 2 (by omega) (by omega)) ?_
  simp (config := { maxSteps := 4000000 }) (disch := omega) only [step, stepv, ev, okW, onlyFr, Bool.false_and, Bool.true_and, sealw, wl, wn, wp, aop, cV, cV1, ↓reduceIte, Nat.reduceEqDiff, Nat.reduceAdd, Int.cast_ofNat_Int, if_true, if_false, AV.one, repCells, fillA, partCells, Nat.reduceLT, Nat.reduceLeDiff, Nat.reduceMul, Nat.reduceSub, Int.reduceLT, Int.reduceLE, Int.reduceAdd, Int.reduceSub, Int.reduceMul, Int.reduceToNat, sliceCells, cellsAt, srcA, app, reduceCtorEq, Int.reduceEq, Int.reduceNeg, Int.reducePow, Nat.reducePow, Int.reduceTDiv, Int.reduceDiv, Nat.reduceDiv, Nat.reduceMod, Int.reduceMod, Int.reduceTMod, ne_eq, subA, beq_iff_eq, unA, minA, maxA, eqFs, eqA1, beq_self_eq_true, Nat.reduceBEq, bs, leB_length]
  refine callQ.vc (hW b 2 (by omega) (by omega)) ?_
  simp (config := { maxSteps := 4000000 }) (disch := omega) only [step, stepv, ev, okW, onlyFr, Bool.false_and, Bool.true_and, sealw, wl, wn, wp, aop, cV, cV1, ↓reduceIte, Nat.reduceEqDiff, Nat.reduceAdd, Int.cast_ofNat_Int, if_true, if_false, AV.one, repCells, fillA, partCells, Nat.reduceLT, Nat.reduceLeDiff, Nat.reduceMul, Nat.reduceSub, Int.reduceLT, Int.reduceLE, Int.reduceAdd, Int.reduceSub, Int.reduceMul, Int.reduceToNat, sliceCells, cellsAt, srcA, app, reduceCtorEq, Int.reduceEq, Int.reduceNeg, Int.reducePow, Nat.reducePow, Int.reduceTDiv, Int.reduceDiv, Nat.reduceDiv, Nat.reduceMod, Int.reduceMod, Int.reduceTMod, ne_eq, subA, beq_iff_eq, unA, minA, maxA, eqFs, eqA1, beq_self_eq_true, Nat.reduceBEq, bs, leB_length]
  refine ⟨1, ?_, rfl⟩
  simp [hfb]

def S_SPlain (P : Prg) (f : Nat) : Prop := ∀ (c b r : Nat), sndOk c b r → VC P f [sndA c b r] (bs (formB c b r false 0))
theorem ref32_Plain {P : Prg} {f fF t0 : Nat} (bd : Body P f 5 [.tmp 2] (ac_cadenzaref32_Plain fF t0)) (t : Nat) (hF : S_First t P fF) : S_SPlain P f := by
  intro c b r hok
  refine VC.of_walk 1 rfl (isD_bs _) (ACall.of_body bd (by simp) ?_)
  have := hF c b r 1 hok (by omega)
  rw [sndA] at this
  simp (config := { maxSteps := 4000000 }) (disch := omega) only [step, stepv, ev, okW, onlyFr, Bool.false_and, Bool.true_and, sealw, wl, wn, wp, aop, cV, cV1, ↓reduceIte, Nat.reduceEqDiff, Nat.reduceAdd, Int.cast_ofNat_Int, if_true, if_false, AV.one, repCells, fillA, partCells, Nat.reduceLT, Nat.reduceLeDiff, Nat.reduceMul, Nat.reduceSub, Int.reduceLT, Int.reduceLE, Int.reduceAdd, Int.reduceSub, Int.reduceMul, Int.reduceToNat, sliceCells, cellsAt, srcA, app, reduceCtorEq, Int.reduceEq, Int.reduceNeg, Int.reducePow, Nat.reducePow, Int.reduceTDiv, Int.reduceDiv, Nat.reduceDiv, Nat.reduceMod, Int.reduceMod, Int.reduceTMod, ne_eq, subA, beq_iff_eq, unA, minA, maxA, eqFs, eqA1, beq_self_eq_true, Nat.reduceBEq, ac_cadenzaref32_Plain, sndA]
  refine callQ.vo this ?_
  simp (config := { maxSteps := 4000000 }) (disch := omega) only [step, stepv, ev, okW, onlyFr, Bool.false_and, Bool.true_and, sealw, wl, wn, wp, aop, cV, cV1, ↓reduceIte, Nat.reduceEqDiff, Nat.reduceAdd, Int.cast_ofNat_Int, if_true, if_false, AV.one, repCells, fillA, partCells, Nat.reduceLT, Nat.reduceLeDiff, Nat.reduceMul, Nat.reduceSub, Int.reduceLT, Int.reduceLE, Int.reduceAdd, Int.reduceSub, Int.reduceMul, Int.reduceToNat, sliceCells, cellsAt, srcA, app, reduceCtorEq, Int.reduceEq, Int.reduceNeg, Int.reducePow, Nat.reducePow, Int.reduceTDiv, Int.reduceDiv, Nat.reduceDiv, Nat.reduceMod, Int.reduceMod, Int.reduceTMod, ne_eq, subA, beq_iff_eq, unA, minA, maxA, eqFs, eqA1, beq_self_eq_true, Nat.reduceBEq, shr]
  simp [frzN, frzK, frzL, frzV, frzL_T _ (isT_u8 _), bs, formB, firstB_length]

def S_SMask (P : Prg) (f : Nat) : Prop := ∀ (c b r m : Nat), sndOk c b r → m < 4294967296 → VC P f [sndA c b r, .int .u32 m] (bs (formB c b r true m))
theorem ref32_Masked {P : Prg} {f fF fW t0 t1 : Nat} (bd : Body P f 25 [.tmp 4] (ac_cadenzaref32_Masked fF fW t0 t1)) (hF : S_First t1 P fF) (hW : S_Written P fW) : S_SMask P f := by
  intro c b r m hok hm
  obtain ⟨q1, q2, q3, q4, q5⟩ := hok
  have hb : b ≤ 24 := by rcases (half_ne b).1 q3 with h | h | h <;> omega
  refine VC.of_walk 1 rfl (isD_bs _) (ACall.of_body bd (by simp) ?_)
  have := hF c b r 65534 ⟨q1, q2, q3, q4, q5⟩ (by omega)
  rw [sndA] at this
  simp (config := { maxSteps := 4000000 }) (disch := omega) only [step, stepv, ev, okW, onlyFr, Bool.false_and, Bool.true_and, sealw, wl, wn, wp, aop, cV, cV1, ↓reduceIte, Nat.reduceEqDiff, Nat.reduceAdd, Int.cast_ofNat_Int, if_true, if_false, AV.one, repCells, fillA, partCells, Nat.reduceLT, Nat.reduceLeDiff, Nat.reduceMul, Nat.reduceSub, Int.reduceLT, Int.reduceLE, Int.reduceAdd, Int.reduceSub, Int.reduceMul, Int.reduceToNat, sliceCells, cellsAt, srcA, app, reduceCtorEq, Int.reduceEq, Int.reduceNeg, Int.reducePow, Nat.reducePow, Int.reduceTDiv, Int.reduceDiv, Nat.reduceDiv, Nat.reduceMod, Int.reduceMod, Int.reduceTMod, ne_eq, subA, beq_iff_eq, unA, minA, maxA, eqFs, eqA1, beq_self_eq_true, Nat.reduceBEq, ac_cadenzaref32_Masked, sndA]
  refine callQ.vo this ?_
  simp (config := { maxSteps := 4000000 }) (disch := omega) only [step, stepv, ev, okW, onlyFr, Bool.false_and, Bool.true_and, sealw, wl, wn, wp, aop, cV, cV1, ↓reduceIte, Nat.reduceEqDiff, Nat.reduceAdd, Int.cast_ofNat_Int, if_true, if_false, AV.one, repCells, fillA, partCells, Nat.reduceLT, Nat.reduceLeDiff, Nat.reduceMul, Nat.reduceSub, Int.reduceLT, Int.reduceLE, Int.reduceAdd, Int.reduceSub, Int.reduceMul, Int.reduceToNat, sliceCells, cellsAt, srcA, app, reduceCtorEq, Int.reduceEq, Int.reduceNeg, Int.reducePow, Nat.reducePow, Int.reduceTDiv, Int.reduceDiv, Nat.reduceDiv, Nat.reduceMod, Int.reduceMod, Int.reduceTMod, ne_eq, subA, beq_iff_eq, unA, minA, maxA, eqFs, eqA1, beq_self_eq_true, Nat.reduceBEq, shr]
  refine callQ.vc (hW b 2 (by omega) (by omega)) ?_
  simp (config := { maxSteps := 4000000 }) (disch := omega) only [step, stepv, ev, okW, onlyFr, Bool.false_and, Bool.true_and, sealw, wl, wn, wp, aop, cV, cV1, ↓reduceIte, Nat.reduceEqDiff, Nat.reduceAdd, Int.cast_ofNat_Int, if_true, if_false, AV.one, repCells, fillA, partCells, Nat.reduceLT, Nat.reduceLeDiff, Nat.reduceMul, Nat.reduceSub, Int.reduceLT, Int.reduceLE, Int.reduceAdd, Int.reduceSub, Int.reduceMul, Int.reduceToNat, sliceCells, cellsAt, srcA, app, reduceCtorEq, Int.reduceEq, Int.reduceNeg, Int.reducePow, Nat.reducePow, Int.reduceTDiv, Int.reduceDiv, Nat.reduceDiv, Nat.reduceMod, Int.reduceMod, Int.reduceTMod, ne_eq, subA, beq_iff_eq, unA, minA, maxA, eqFs, eqA1, beq_self_eq_true, Nat.reduceBEq, bs, leB_length]
  refine callQ.vc (hW m 4 (by omega) (by omega)) ?_
  simp (config := { maxSteps := 4000000 }) (disch := omega) only [step, stepv, ev, okW, onlyFr, Bool.false_and, Bool.true_and, sealw, wl, wn, wp, aop, cV, cV1, ↓reduceIte, Nat.reduceEqDiff, Nat.reduceAdd, Int.cast_ofNat_Int, if_true, if_false, AV.one, repCells, fillA, partCells, Nat.reduceLT, Nat.reduceLeDiff, Nat.reduceMul, Nat.reduceSub, Int.reduceLT, Int.reduceLE, Int.reduceAdd, Int.reduceSub, Int.reduceMul, Int.reduceToNat, sliceCells, cellsAt, srcA, app, reduceCtorEq, Int.reduceEq, Int.reduceNeg, Int.reducePow, Nat.reducePow, Int.reduceTDiv, Int.reduceDiv, Nat.reduceDiv, Nat.reduceMod, Int.reduceMod, Int.reduceTMod, ne_eq, subA, beq_iff_eq, unA, minA, maxA, eqFs, eqA1, beq_self_eq_true, Nat.reduceBEq, bs, leB_length]
  have hc : u8 (maskB c b r m) = u8 (firstB c b r 65534) ++ [.int .u8 22, .int .u8 0] ++ u8 (leB b 2) ++ u8 (leB m 4) ++ guidG := by
    rw [guidG_u8, maskB, show leB 22 2 = [22, 0] by decide]
    simp only [← u8_append]
    rfl
  have hl : (maskB c b r m).length = 40 := by simp [maskB, firstB_length, leB_length, guidB]
  rw [guidG] at hc
  rw [← hc]
  simp [frzN, frzK, frzL, frzV, frzL_T _ (isT_u8 _), formB, hl]

def S_SForm (P : Prg) (f : Nat) : Prop := ∀ (c b r : Nat), sndOk c b r → VC P f [sndA c b r] (bs (formB c b r (broadS c b) (2 ^ c - 1)))
theorem form_false (c b r m : Nat) : formB c b r false m = formB c b r false 0 := rfl
theorem ref32_Form {P : Prg} {f fB fM fP t0 : Nat} (bd : Body P f 14 [.tmp 2] (ac_cadenzaref32_Form fB fM fP t0)) (hB : S_Broad P fB) (hM : S_SMask P fM) (hP : S_SPlain P fP) : S_SForm P f := by
  intro c b r hok
  refine VC.of_acall rfl (isD_bs _) (ACall.of_body bd (by simp) ?_)
  have hB' := hB c b r
  have hP' := hP c b r hok
  have hM' := hM c b r (2 ^ c - 1) hok (by
    have := Nat.pow_le_pow_right (n := 2) (by omega) (show c ≤ 6 by have := hok.2.1; omega)
    omega)
  have hc1 := hok.1
  have hc6 := hok.2.1
  rw [sndA] at hB' hP' hM'
  simp (config := { maxSteps := 4000000 }) (disch := omega) only [step, stepv, ev, okW, onlyFr, Bool.false_and, Bool.true_and, sealw, wl, wn, wp, aop, cV, cV1, ↓reduceIte, Nat.reduceEqDiff, Nat.reduceAdd, Int.cast_ofNat_Int, if_true, if_false, AV.one, repCells, fillA, partCells, Nat.reduceLT, Nat.reduceLeDiff, Nat.reduceMul, Nat.reduceSub, Int.reduceLT, Int.reduceLE, Int.reduceAdd, Int.reduceSub, Int.reduceMul, Int.reduceToNat, sliceCells, cellsAt, srcA, app, reduceCtorEq, Int.reduceEq, Int.reduceNeg, Int.reducePow, Nat.reducePow, Int.reduceTDiv, Int.reduceDiv, Nat.reduceDiv, Nat.reduceMod, Int.reduceMod, Int.reduceTMod, ne_eq, subA, beq_iff_eq, unA, minA, maxA, eqFs, eqA1, beq_self_eq_true, Nat.reduceBEq, ac_cadenzaref32_Form, sndA]
  refine callQ.vc hB' ?_
  cases hbr : broadS c b with
  | false =>
    rw [form_false]
    simp (config := { maxSteps := 4000000 }) (disch := omega) only [step, stepv, ev, okW, onlyFr, Bool.false_and, Bool.true_and, sealw, wl, wn, wp, aop, cV, cV1, ↓reduceIte, Nat.reduceEqDiff, Nat.reduceAdd, Int.cast_ofNat_Int, if_true, if_false, AV.one, repCells, fillA, partCells, Nat.reduceLT, Nat.reduceLeDiff, Nat.reduceMul, Nat.reduceSub, Int.reduceLT, Int.reduceLE, Int.reduceAdd, Int.reduceSub, Int.reduceMul, Int.reduceToNat, sliceCells, cellsAt, srcA, app, reduceCtorEq, Int.reduceEq, Int.reduceNeg, Int.reducePow, Nat.reducePow, Int.reduceTDiv, Int.reduceDiv, Nat.reduceDiv, Nat.reduceMod, Int.reduceMod, Int.reduceTMod, ne_eq, subA, beq_iff_eq, unA, minA, maxA, eqFs, eqA1, beq_self_eq_true, Nat.reduceBEq]
    refine callQ.vc hP' ?_
    simp (config := { maxSteps := 4000000 }) (disch := omega) only [step, stepv, ev, okW, onlyFr, Bool.false_and, Bool.true_and, sealw, wl, wn, wp, aop, cV, cV1, ↓reduceIte, Nat.reduceEqDiff, Nat.reduceAdd, Int.cast_ofNat_Int, if_true, if_false, AV.one, repCells, fillA, partCells, Nat.reduceLT, Nat.reduceLeDiff, Nat.reduceMul, Nat.reduceSub, Int.reduceLT, Int.reduceLE, Int.reduceAdd, Int.reduceSub, Int.reduceMul, Int.reduceToNat, sliceCells, cellsAt, srcA, app, reduceCtorEq, Int.reduceEq, Int.reduceNeg, Int.reducePow, Nat.reducePow, Int.reduceTDiv, Int.reduceDiv, Nat.reduceDiv, Nat.reduceMod, Int.reduceMod, Int.reduceTMod, ne_eq, subA, beq_iff_eq, unA, minA, maxA, eqFs, eqA1, beq_self_eq_true, Nat.reduceBEq]
  | true =>
    have hc : c = 1 ∨ c = 2 ∨ c = 3 ∨ c = 4 ∨ c = 5 ∨ c = 6 := by omega
    rcases hc with rfl | rfl | rfl | rfl | rfl | rfl
    all_goals
      simp (config := { maxSteps := 4000000 }) (disch := omega) only [step, stepv, ev, okW, onlyFr, Bool.false_and, Bool.true_and, sealw, wl, wn, wp, aop, cV, cV1, ↓reduceIte, Nat.reduceEqDiff, Nat.reduceAdd, Int.cast_ofNat_Int, if_true, if_false, AV.one, repCells, fillA, partCells, Nat.reduceLT, Nat.reduceLeDiff, Nat.reduceMul, Nat.reduceSub, Int.reduceLT, Int.reduceLE, Int.reduceAdd, Int.reduceSub, Int.reduceMul, Int.reduceToNat, sliceCells, cellsAt, srcA, app, reduceCtorEq, Int.reduceEq, Int.reduceNeg, Int.reducePow, Nat.reducePow, Int.reduceTDiv, Int.reduceDiv, Nat.reduceDiv, Nat.reduceMod, Int.reduceMod, Int.reduceTMod, ne_eq, subA, beq_iff_eq, unA, minA, maxA, eqFs, eqA1, beq_self_eq_true, Nat.reduceBEq]
      refine callQ.vc hM' ?_
      simp (config := { maxSteps := 4000000 }) (disch := omega) only [step, stepv, ev, okW, onlyFr, Bool.false_and, Bool.true_and, sealw, wl, wn, wp, aop, cV, cV1, ↓reduceIte, Nat.reduceEqDiff, Nat.reduceAdd, Int.cast_ofNat_Int, if_true, if_false, AV.one, repCells, fillA, partCells, Nat.reduceLT, Nat.reduceLeDiff, Nat.reduceMul, Nat.reduceSub, Int.reduceLT, Int.reduceLE, Int.reduceAdd, Int.reduceSub, Int.reduceMul, Int.reduceToNat, sliceCells, cellsAt, srcA, app, reduceCtorEq, Int.reduceEq, Int.reduceNeg, Int.reducePow, Nat.reducePow, Int.reduceTDiv, Int.reduceDiv, Nat.reduceDiv, Nat.reduceMod, Int.reduceMod, Int.reduceTMod, ne_eq, subA, beq_iff_eq, unA, minA, maxA, eqFs, eqA1, beq_self_eq_true, Nat.reduceBEq]

end Go.Am

namespace Go.Am
open Go.RowKit

/-! ### fmtchunk.Write, Read -/

def formW (c b r : Int) : List UInt8 := formB c.toNat b.toNat r.toNat (broadS c b) (2 ^ c.toNat - 1)
def S_SWrite (P : Prg) (f : Nat) : Prop := ∀ (c b r : Int), VC P f [sndA c b r] (if sndOk c b r then .tup [bs (formW c b r), .int .i64 0] else .tup [.list 0 [], .int .i64 8])

theorem sndOk_nat {c b r : Int} (h : sndOk c b r) : ∃ c' b' r' : Nat, c = c' ∧ b = b' ∧ r = r' := by
  obtain ⟨h1, h2, h3, h4, h5⟩ := h
  rw [half_ne] at h3
  exact ⟨c.toNat, b.toNat, r.toNat, by omega, by omega, by omega⟩

theorem fmt_Write {P : Prg} {f fF fW t0 : Nat} (bd : Body P f 21 [.tmp 2, .tmp 3] (ac_fmtchunk_Write fW fF t0)) (hF : S_FForm P fF) (hW : S_SWide P fW) : S_SWrite P f := by
  intro c b r
  have hW' := hW c b r
  rw [sndA] at hW'
  by_cases hok : sndOk c b r
  · rw [if_pos hok] at hW' ⊢
    obtain ⟨c, b, r, rfl, rfl, rfl⟩ := sndOk_nat hok
    refine VC.of_acall rfl (by simp [isD, isDL, isD_bs]) (ACall.of_body bd (by simp) ?_)
    have hF' := hF c b r (broadS c b) (2 ^ c - 1) hok (by
      have := Nat.pow_le_pow_right (n := 2) (by omega) (show c ≤ 6 by have := hok.2.1; omega)
      omega)
    have hc1 := hok.1
    have hc6 := hok.2.1
    rw [sndA] at hF'
    simp only [formW, Int.toNat_natCast]
    simp (config := { maxSteps := 4000000 }) (disch := omega) only [step, stepv, ev, okW, onlyFr, Bool.false_and, Bool.true_and, sealw, wl, wn, wp, aop, cV, cV1, ↓reduceIte, Nat.reduceEqDiff, Nat.reduceAdd, Int.cast_ofNat_Int, if_true, if_false, AV.one, repCells, fillA, partCells, Nat.reduceLT, Nat.reduceLeDiff, Nat.reduceMul, Nat.reduceSub, Int.reduceLT, Int.reduceLE, Int.reduceAdd, Int.reduceSub, Int.reduceMul, Int.reduceToNat, sliceCells, cellsAt, srcA, app, reduceCtorEq, Int.reduceEq, Int.reduceNeg, Int.reducePow, Nat.reducePow, Int.reduceTDiv, Int.reduceDiv, Nat.reduceDiv, Nat.reduceMod, Int.reduceMod, Int.reduceTMod, ne_eq, subA, beq_iff_eq, unA, minA, maxA, eqFs, eqA1, beq_self_eq_true, Nat.reduceBEq, ac_fmtchunk_Write, sndA]
    refine callQ.vc hW' ?_
    have sh1 : shiftA true .u64 1 1 = some (.int .u64 2) := rfl
    have sh2 : shiftA true .u64 1 2 = some (.int .u64 4) := rfl
    have sh3 : shiftA true .u64 1 3 = some (.int .u64 8) := rfl
    have sh4 : shiftA true .u64 1 4 = some (.int .u64 16) := rfl
    have sh5 : shiftA true .u64 1 5 = some (.int .u64 32) := rfl
    have sh6 : shiftA true .u64 1 6 = some (.int .u64 64) := rfl
    have hc : c = 1 ∨ c = 2 ∨ c = 3 ∨ c = 4 ∨ c = 5 ∨ c = 6 := by omega
    rcases hc with rfl | rfl | rfl | rfl | rfl | rfl
    all_goals
      simp (config := { maxSteps := 4000000 }) (disch := omega) only [step, stepv, ev, okW, onlyFr, Bool.false_and, Bool.true_and, sealw, wl, wn, wp, aop, cV, cV1, ↓reduceIte, Nat.reduceEqDiff, Nat.reduceAdd, Int.cast_ofNat_Int, if_true, if_false, AV.one, repCells, fillA, partCells, Nat.reduceLT, Nat.reduceLeDiff, Nat.reduceMul, Nat.reduceSub, Int.reduceLT, Int.reduceLE, Int.reduceAdd, Int.reduceSub, Int.reduceMul, Int.reduceToNat, sliceCells, cellsAt, srcA, app, reduceCtorEq, Int.reduceEq, Int.reduceNeg, Int.reducePow, Nat.reducePow, Int.reduceTDiv, Int.reduceDiv, Nat.reduceDiv, Nat.reduceMod, Int.reduceMod, Int.reduceTMod, ne_eq, subA, beq_iff_eq, unA, minA, maxA, eqFs, eqA1, beq_self_eq_true, Nat.reduceBEq, sh1, sh2, sh3, sh4, sh5, sh6]
      refine callD.vc hF' ?_
      simp (config := { maxSteps := 4000000 }) (disch := omega) only [step, stepv, ev, okW, onlyFr, Bool.false_and, Bool.true_and, sealw, wl, wn, wp, aop, cV, cV1, ↓reduceIte, Nat.reduceEqDiff, Nat.reduceAdd, Int.cast_ofNat_Int, if_true, if_false, AV.one, repCells, fillA, partCells, Nat.reduceLT, Nat.reduceLeDiff, Nat.reduceMul, Nat.reduceSub, Int.reduceLT, Int.reduceLE, Int.reduceAdd, Int.reduceSub, Int.reduceMul, Int.reduceToNat, sliceCells, cellsAt, srcA, app, reduceCtorEq, Int.reduceEq, Int.reduceNeg, Int.reducePow, Nat.reducePow, Int.reduceTDiv, Int.reduceDiv, Nat.reduceDiv, Nat.reduceMod, Int.reduceMod, Int.reduceTMod, ne_eq, subA, beq_iff_eq, unA, minA, maxA, eqFs, eqA1, beq_self_eq_true, Nat.reduceBEq]
  · rw [if_neg hok] at hW' ⊢
    refine VC.of_walk 1 rfl rfl (ACall.of_body bd (by simp) ?_)
    simp (config := { maxSteps := 4000000 }) (disch := omega) only [step, stepv, ev, okW, onlyFr, Bool.false_and, Bool.true_and, sealw, wl, wn, wp, aop, cV, cV1, ↓reduceIte, Nat.reduceEqDiff, Nat.reduceAdd, Int.cast_ofNat_Int, if_true, if_false, AV.one, repCells, fillA, partCells, Nat.reduceLT, Nat.reduceLeDiff, Nat.reduceMul, Nat.reduceSub, Int.reduceLT, Int.reduceLE, Int.reduceAdd, Int.reduceSub, Int.reduceMul, Int.reduceToNat, sliceCells, cellsAt, srcA, app, reduceCtorEq, Int.reduceEq, Int.reduceNeg, Int.reducePow, Nat.reducePow, Int.reduceTDiv, Int.reduceDiv, Nat.reduceDiv, Nat.reduceMod, Int.reduceMod, Int.reduceTMod, ne_eq, subA, beq_iff_eq, unA, minA, maxA, eqFs, eqA1, beq_self_eq_true, Nat.reduceBEq, ac_fmtchunk_Write, sndA]
    refine callQ.vc hW' ?_
    simp (config := { maxSteps := 4000000 }) (disch := omega) only [step, stepv, ev, okW, onlyFr, Bool.false_and, Bool.true_and, sealw, wl, wn, wp, aop, cV, cV1, ↓reduceIte, Nat.reduceEqDiff, Nat.reduceAdd, Int.cast_ofNat_Int, if_true, if_false, AV.one, repCells, fillA, partCells, Nat.reduceLT, Nat.reduceLeDiff, Nat.reduceMul, Nat.reduceSub, Int.reduceLT, Int.reduceLE, Int.reduceAdd, Int.reduceSub, Int.reduceMul, Int.reduceToNat, sliceCells, cellsAt, srcA, app, reduceCtorEq, Int.reduceEq, Int.reduceNeg, Int.reducePow, Nat.reducePow, Int.reduceTDiv, Int.reduceDiv, Nat.reduceDiv, Nat.reduceMod, Int.reduceMod, Int.reduceTMod, ne_eq, subA, beq_iff_eq, unA, minA, maxA, eqFs, eqA1, beq_self_eq_true, Nat.reduceBEq]
    simp [frzN, frzK, frzL, frzV]

theorem formB_length (c b r : Nat) (w : Bool) (m : Nat) : (formB c b r w m).length = if w then 40 else 16 := by
  cases w <;> simp [formB, maskB, firstB_length, leB_length, guidB]

end Go.Am

namespace Go.Am
open Go.RowKit

end Go.Am

namespace Go.Am
open Go.RowKit

/-! ### Samples as bytes: without a program -/

end Go.Am

namespace Go.Am
open Go.RowKit

end Go.Am

namespace Go.Am
open Go.RowKit

def smpN (b x : Int) : Nat := (if b = 8 then x + 128 else if x < 0 then x + 2 * half b else x).toNat
def smpE (b x : Int) : List UInt8 := leB (smpN b x) (b / 8).toNat
def smpB (b : Int) (l : List Int) : List UInt8 := l.flatMap (smpE b)

def S_WBytes (P : Prg) (f : Nat) : Prop := ∀ (b : Int) (l : List Int), I32 l → VC P f [.int .i64 b, il l] (if checkN b l ≠ 0 then .tup [.list 0 [], .int .i64 (checkN b l)] else .tup [bs (smpB b l), .int .i64 0])

theorem smpE_length (b x : Int) : (smpE b x).length = (b / 8).toNat := leB_length _ _
theorem smpB_length (b : Int) : ∀ l : List Int, (smpB b l).length = l.length * (b / 8).toNat
  | [] => by simp [smpB]
  | x :: l => by
    have := smpB_length b l
    simp only [smpB, List.flatMap_cons, List.length_append, smpE_length, List.length_cons] at this ⊢
    rw [this, Nat.add_mul]; omega
theorem smpB_take {b : Int} {l : List Int} {k : Nat} (h : k < l.length) : smpB b (l.take (k + 1)) = smpB b (l.take k) ++ smpE b l[k] := by
  simp only [smpB]
  rw [List.take_succ_eq_append_getElem h, List.flatMap_append]; simp

theorem inR_of {b : Int} {l : List Int} (h : checkN b l = 0) {k : Nat} (hk : k < l.length) : -half b ≤ l[k] ∧ l[k] < half b := by
  unfold checkN at h
  split at h
  · omega
  split at h
  · omega
  split at h
  · rename_i h2
    have := List.all_eq_true.1 h2 _ (List.getElem_mem hk)
    simp [inR] at this
    exact this
  · omega

theorem check_len {b : Int} {l : List Int} (h : checkN b l = 0) : l.length ≤ 4000 ∧ half b ≠ 0 := by
  unfold checkN at h
  split at h
  · omega
  rename_i h0
  split at h
  · omega
  · exact ⟨by omega, h0⟩

theorem u8_ofNat {n : Nat} (h : n < 256) : (UInt8.ofNat n).toNat = n := by simp; omega

theorem smpE8 {x : Int} (h1 : -128 ≤ x) (h2 : x < 128) : u8 (smpE 8 x) = [.int .u8 (x + 128)] := by
  have e : (8 : Int) / 8 = 1 := rfl
  simp only [smpE, smpN, if_true, e, Int.toNat_one, leB, u8_cons, u8_nil]
  rw [u8_ofNat (by omega)]
  have : (((x + 128).toNat % 256 : Nat) : Int) = x + 128 := by omega
  rw [this]
theorem smpE16 {x : Int} (h1 : -32768 ≤ x) (h2 : x < 32768) : u8 (smpE 16 x) = [.int .u8 (x % 256), .int .u8 (x / 256 % 256)] := by
  have e : ((16 : Int) / 8).toNat = 2 := rfl
  have e2 : half 16 = 32768 := rfl
  simp only [smpE, smpN, e, e2, leB, u8_cons, u8_nil]
  rw [u8_ofNat (by omega), u8_ofNat (by omega), if_neg (by decide)]
  generalize hq : (if x < 0 then x + 2 * 32768 else x).toNat = n
  have h3 : (n : Int) = if x < 0 then x + 65536 else x := by rw [← hq]; split <;> omega
  have a1 : ((n % 256 : Nat) : Int) = x % 256 := by split at h3 <;> omega
  have a2 : ((n / 256 % 256 : Nat) : Int) = x / 256 % 256 := by split at h3 <;> omega
  rw [a1, a2]
theorem smpE24 {x : Int} (h1 : -8388608 ≤ x) (h2 : x < 8388608) : u8 (smpE 24 x) = [.int .u8 (x % 256), .int .u8 (x / 256 % 256), .int .u8 (x / 65536 % 256)] := by
  have e : ((24 : Int) / 8).toNat = 3 := rfl
  have e2 : half 24 = 8388608 := rfl
  simp only [smpE, smpN, e, e2, leB, u8_cons, u8_nil]
  rw [u8_ofNat (by omega), u8_ofNat (by omega), u8_ofNat (by omega), if_neg (by decide)]
  generalize hq : (if x < 0 then x + 2 * 8388608 else x).toNat = n
  have h3 : (n : Int) = if x < 0 then x + 16777216 else x := by rw [← hq]; split <;> omega
  have a1 : ((n % 256 : Nat) : Int) = x % 256 := by split at h3 <;> omega
  have a2 : ((n / 256 % 256 : Nat) : Int) = x / 256 % 256 := by split at h3 <;> omega
  have a3 : ((n / 256 / 256 % 256 : Nat) : Int) = x / 65536 % 256 := by split at h3 <;> omega
  rw [a1, a2, a3]

set_option maxRecDepth 20000 in
set_option maxHeartbeats 2000000 in
theorem width_Bytes {P : Prg} {f fC t0 : Nat} (bd : Body P f 43 [.tmp 4, .tmp 5] (ac_width_Bytes fC t0)) (hC : S_WCheck P fC) : S_WBytes P f := by
  intro b l hI
  have hC' := hC b l hI
  refine VC.of_walk 1 (by simp [isDL, isD, isD_il]) (by split <;> simp [isD, isDL, isD_bs]) (ACall.of_body bd (by simp) ?_)
  by_cases h0 : checkN b l ≠ 0
  · rw [if_pos h0]
    rw [il] at hC'
    simp (config := { maxSteps := 4000000 }) (disch := omega) only [step, stepv, ev, okW, onlyFr, Bool.false_and, Bool.true_and, sealw, wl, wn, wp, aop, cV, cV1, ↓reduceIte, Nat.reduceEqDiff, Nat.reduceAdd, Int.cast_ofNat_Int, if_true, if_false, AV.one, repCells, fillA, partCells, Nat.reduceLT, Nat.reduceLeDiff, Nat.reduceMul, Nat.reduceSub, Int.reduceLT, Int.reduceLE, Int.reduceAdd, Int.reduceSub, Int.reduceMul, Int.reduceToNat, sliceCells, cellsAt, srcA, app, reduceCtorEq, Int.reduceEq, Int.reduceNeg, Int.reducePow, Nat.reducePow, Int.reduceTDiv, Int.reduceDiv, Nat.reduceDiv, Nat.reduceMod, Int.reduceMod, Int.reduceTMod, ne_eq, subA, beq_iff_eq, unA, minA, maxA, eqFs, eqA1, beq_self_eq_true, Nat.reduceBEq, ac_width_Bytes, il]
    refine callQ.vc hC' ?_
    simp (config := { maxSteps := 4000000 }) (disch := omega) only [step, stepv, ev, okW, onlyFr, Bool.false_and, Bool.true_and, sealw, wl, wn, wp, aop, cV, cV1, ↓reduceIte, Nat.reduceEqDiff, Nat.reduceAdd, Int.cast_ofNat_Int, if_true, if_false, AV.one, repCells, fillA, partCells, Nat.reduceLT, Nat.reduceLeDiff, Nat.reduceMul, Nat.reduceSub, Int.reduceLT, Int.reduceLE, Int.reduceAdd, Int.reduceSub, Int.reduceMul, Int.reduceToNat, sliceCells, cellsAt, srcA, app, reduceCtorEq, Int.reduceEq, Int.reduceNeg, Int.reducePow, Nat.reducePow, Int.reduceTDiv, Int.reduceDiv, Nat.reduceDiv, Nat.reduceMod, Int.reduceMod, Int.reduceTMod, ne_eq, subA, beq_iff_eq, unA, minA, maxA, eqFs, eqA1, beq_self_eq_true, Nat.reduceBEq]
    simp [frzN, frzK, frzL, frzV]
  rw [if_neg h0]
  have h0' : checkN b l = 0 := by omega
  rw [h0', il] at hC'
  obtain ⟨h4, hh⟩ := check_len h0'
  have hin := fun k hk => @inR_of b l h0' k hk
  have hS := fun k => @smpB_take b l k
  have hB := fun k => smpB_length b (l.take k)
  have hB0 := smpB_length b l
  have hk0 := ks_length .i32 l
  rcases half_cases b with ⟨rfl, h⟩ | ⟨rfl, h⟩ | ⟨rfl, h⟩ | ⟨h1, h2, h3, h⟩
  case inr.inr.inr => omega
  · have hw : ((8 : Int) / 8).toNat = 1 := rfl
    simp only [hw] at hB hB0
    rw [h] at hin
    simp (config := { maxSteps := 4000000 }) (disch := omega) only [step, stepv, ev, okW, onlyFr, Bool.false_and, Bool.true_and, sealw, wl, wn, wp, aop, cV, cV1, ↓reduceIte, Nat.reduceEqDiff, Nat.reduceAdd, Int.cast_ofNat_Int, if_true, if_false, AV.one, repCells, fillA, partCells, Nat.reduceLT, Nat.reduceLeDiff, Nat.reduceMul, Nat.reduceSub, Int.reduceLT, Int.reduceLE, Int.reduceAdd, Int.reduceSub, Int.reduceMul, Int.reduceToNat, sliceCells, cellsAt, srcA, app, reduceCtorEq, Int.reduceEq, Int.reduceNeg, Int.reducePow, Nat.reducePow, Int.reduceTDiv, Int.reduceDiv, Nat.reduceDiv, Nat.reduceMod, Int.reduceMod, Int.reduceTMod, ne_eq, subA, beq_iff_eq, unA, minA, maxA, eqFs, eqA1, beq_self_eq_true, Nat.reduceBEq, ac_width_Bytes, il]
    refine callQ.vc hC' ?_
    simp (config := { maxSteps := 4000000 }) (disch := omega) only [step, stepv, ev, okW, onlyFr, Bool.false_and, Bool.true_and, sealw, wl, wn, wp, aop, cV, cV1, ↓reduceIte, Nat.reduceEqDiff, Nat.reduceAdd, Int.cast_ofNat_Int, if_true, if_false, AV.one, repCells, fillA, partCells, Nat.reduceLT, Nat.reduceLeDiff, Nat.reduceMul, Nat.reduceSub, Int.reduceLT, Int.reduceLE, Int.reduceAdd, Int.reduceSub, Int.reduceMul, Int.reduceToNat, sliceCells, cellsAt, srcA, app, reduceCtorEq, Int.reduceEq, Int.reduceNeg, Int.reducePow, Nat.reducePow, Int.reduceTDiv, Int.reduceDiv, Nat.reduceDiv, Nat.reduceMod, Int.reduceMod, Int.reduceTMod, ne_eq, subA, beq_iff_eq, unA, minA, maxA, eqFs, eqA1, beq_self_eq_true, Nat.reduceBEq]
    refine ALoop.by (ι := Nat) (fun k => ⟨[(19, .int .i64 k), (18, .int .i64 l.length), (17, .list l.length (ks .i32 l)), (7, .own 0 (smpB 8 (l.take k)).length), (0, .int .i64 8), (1, .list l.length (ks .i32 l))], [⟨t0, 1, (smpB 8 (l.take k)).length, u8 (smpB 8 (l.take k)), 0⟩]⟩) (fun k => k ≤ l.length) (fun k => l.length - k) 0 (Le.trans (Le.virt 7 t0 1 (by omega) rfl) (Le.slots (by simp [Am.look, smpB]))) (by omega) ?_
    intro k hk
    have hBk := hB k
    rw [List.length_take, Nat.min_eq_left hk] at hBk
    by_cases hlt : k < l.length
    · have e1 := drop_ks (K := .i32) hlt
      obtain ⟨i1, i2⟩ := hin k hlt
      have eT := hS k hlt
      have eE := smpE8 (x := l[k]) (by omega) (by omega)
      have eL := hB (k + 1)
      rw [List.length_take, Nat.min_eq_left (by omega : k + 1 ≤ l.length)] at eL
      generalize l[k] = x at *
      generalize hp : smpB 8 (l.take k) = pre at *
      generalize hp2 : smpB 8 (l.take (k + 1)) = pre2 at *
      have eU : u8 pre2 = u8 pre ++ [.int .u8 (x + 128)] := by rw [eT, ← u8_append, eE]
      have lp := u8_length pre
      simp (config := { maxSteps := 4000000 }) (disch := omega) only [step, stepv, ev, okW, onlyFr, Bool.false_and, Bool.true_and, sealw, wl, wn, wp, aop, cV, cV1, ↓reduceIte, Nat.reduceEqDiff, Nat.reduceAdd, Int.cast_ofNat_Int, if_true, if_false, AV.one, repCells, fillA, partCells, Nat.reduceLT, Nat.reduceLeDiff, Nat.reduceMul, Nat.reduceSub, Int.reduceLT, Int.reduceLE, Int.reduceAdd, Int.reduceSub, Int.reduceMul, Int.reduceToNat, sliceCells, cellsAt, srcA, app, reduceCtorEq, Int.reduceEq, Int.reduceNeg, Int.reducePow, Nat.reducePow, Int.reduceTDiv, Int.reduceDiv, Nat.reduceDiv, Nat.reduceMod, Int.reduceMod, Int.reduceTMod, ne_eq, subA, beq_iff_eq, unA, minA, maxA, eqFs, eqA1, beq_self_eq_true, Nat.reduceBEq, e1, hk0]
      refine ALoop.by (ι := Nat) (fun j => ⟨[(29, .int .i64 j), (28, .int .i64 1), (9, .int .i32 (x + 128)), (7, .own 0 (pre.length + j)), (19, .int .i64 k), (18, .int .i64 l.length), (17, .list l.length (ks .i32 l)), (0, .int .i64 8), (1, .list l.length (ks .i32 l))], [⟨t0, 1, pre.length + j, (match j with | 0 => u8 pre | _ => u8 pre ++ [.int .u8 (x + 128)]), 0⟩]⟩) (fun j => j ≤ 1) (fun j => 1 - j) 0 (Le.slots (by simp [Am.look])) (by omega) ?_
      intro j hj
      have s0 : shiftA false .i32 (x + 128) 0 = some (.int .i32 (x + 128)) := by simp [shiftA, Int.fdiv_one]
      have hj3 : j = 0 ∨ j = 1 := by omega
      rcases hj3 with rfl | rfl
      · simp (config := { maxSteps := 4000000 }) (disch := omega) only [step, stepv, ev, okW, onlyFr, Bool.false_and, Bool.true_and, sealw, wl, wn, wp, aop, cV, cV1, ↓reduceIte, Nat.reduceEqDiff, Nat.reduceAdd, Int.cast_ofNat_Int, if_true, if_false, AV.one, repCells, fillA, partCells, Nat.reduceLT, Nat.reduceLeDiff, Nat.reduceMul, Nat.reduceSub, Int.reduceLT, Int.reduceLE, Int.reduceAdd, Int.reduceSub, Int.reduceMul, Int.reduceToNat, sliceCells, cellsAt, srcA, app, reduceCtorEq, Int.reduceEq, Int.reduceNeg, Int.reducePow, Nat.reducePow, Int.reduceTDiv, Int.reduceDiv, Nat.reduceDiv, Nat.reduceMod, Int.reduceMod, Int.reduceTMod, ne_eq, subA, beq_iff_eq, unA, minA, maxA, eqFs, eqA1, beq_self_eq_true, Nat.reduceBEq, s0, lp, List.append_assoc]
        exact ⟨1, by omega, by omega, Le.dropT [_] (by simp [isTL_append, isT_u8, isTL, isT]) (by simp [Am.look, frzK, frzL, frzV, frzL_T _ (isTL_ks _ _)])⟩
      · simp (config := { maxSteps := 4000000 }) (disch := omega) only [step, stepv, ev, okW, onlyFr, Bool.false_and, Bool.true_and, sealw, wl, wn, wp, aop, cV, cV1, ↓reduceIte, Nat.reduceEqDiff, Nat.reduceAdd, Int.cast_ofNat_Int, if_true, if_false, AV.one, repCells, fillA, partCells, Nat.reduceLT, Nat.reduceLeDiff, Nat.reduceMul, Nat.reduceSub, Int.reduceLT, Int.reduceLE, Int.reduceAdd, Int.reduceSub, Int.reduceMul, Int.reduceToNat, sliceCells, cellsAt, srcA, app, reduceCtorEq, Int.reduceEq, Int.reduceNeg, Int.reducePow, Nat.reducePow, Int.reduceTDiv, Int.reduceDiv, Nat.reduceDiv, Nat.reduceMod, Int.reduceMod, Int.reduceTMod, ne_eq, subA, beq_iff_eq, unA, minA, maxA, eqFs, eqA1, beq_self_eq_true, Nat.reduceBEq]
        rw [← eU, show pre.length + 1 = pre2.length by omega]
        refine ⟨k + 1, by omega, by omega, ?_⟩
        rw [hp2]
        exact Le.slots (by simp [Am.look])
    · have ek : k = l.length := by omega
      subst ek
      rw [List.take_length]
      simp (config := { maxSteps := 4000000 }) (disch := omega) only [step, stepv, ev, okW, onlyFr, Bool.false_and, Bool.true_and, sealw, wl, wn, wp, aop, cV, cV1, ↓reduceIte, Nat.reduceEqDiff, Nat.reduceAdd, Int.cast_ofNat_Int, if_true, if_false, AV.one, repCells, fillA, partCells, Nat.reduceLT, Nat.reduceLeDiff, Nat.reduceMul, Nat.reduceSub, Int.reduceLT, Int.reduceLE, Int.reduceAdd, Int.reduceSub, Int.reduceMul, Int.reduceToNat, sliceCells, cellsAt, srcA, app, reduceCtorEq, Int.reduceEq, Int.reduceNeg, Int.reducePow, Nat.reducePow, Int.reduceTDiv, Int.reduceDiv, Nat.reduceDiv, Nat.reduceMod, Int.reduceMod, Int.reduceTMod, ne_eq, subA, beq_iff_eq, unA, minA, maxA, eqFs, eqA1, beq_self_eq_true, Nat.reduceBEq, hk0]
      simp [frzN, frzK, frzL, frzV, frzL_T _ (isT_u8 _), bs]
  · have hw : ((16 : Int) / 8).toNat = 2 := rfl
    simp only [hw] at hB hB0
    rw [h] at hin
    simp (config := { maxSteps := 4000000 }) (disch := omega) only [step, stepv, ev, okW, onlyFr, Bool.false_and, Bool.true_and, sealw, wl, wn, wp, aop, cV, cV1, ↓reduceIte, Nat.reduceEqDiff, Nat.reduceAdd, Int.cast_ofNat_Int, if_true, if_false, AV.one, repCells, fillA, partCells, Nat.reduceLT, Nat.reduceLeDiff, Nat.reduceMul, Nat.reduceSub, Int.reduceLT, Int.reduceLE, Int.reduceAdd, Int.reduceSub, Int.reduceMul, Int.reduceToNat, sliceCells, cellsAt, srcA, app, reduceCtorEq, Int.reduceEq, Int.reduceNeg, Int.reducePow, Nat.reducePow, Int.reduceTDiv, Int.reduceDiv, Nat.reduceDiv, Nat.reduceMod, Int.reduceMod, Int.reduceTMod, ne_eq, subA, beq_iff_eq, unA, minA, maxA, eqFs, eqA1, beq_self_eq_true, Nat.reduceBEq, ac_width_Bytes, il]
    refine callQ.vc hC' ?_
    simp (config := { maxSteps := 4000000 }) (disch := omega) only [step, stepv, ev, okW, onlyFr, Bool.false_and, Bool.true_and, sealw, wl, wn, wp, aop, cV, cV1, ↓reduceIte, Nat.reduceEqDiff, Nat.reduceAdd, Int.cast_ofNat_Int, if_true, if_false, AV.one, repCells, fillA, partCells, Nat.reduceLT, Nat.reduceLeDiff, Nat.reduceMul, Nat.reduceSub, Int.reduceLT, Int.reduceLE, Int.reduceAdd, Int.reduceSub, Int.reduceMul, Int.reduceToNat, sliceCells, cellsAt, srcA, app, reduceCtorEq, Int.reduceEq, Int.reduceNeg, Int.reducePow, Nat.reducePow, Int.reduceTDiv, Int.reduceDiv, Nat.reduceDiv, Nat.reduceMod, Int.reduceMod, Int.reduceTMod, ne_eq, subA, beq_iff_eq, unA, minA, maxA, eqFs, eqA1, beq_self_eq_true, Nat.reduceBEq]
    refine ALoop.by (ι := Nat) (fun k => ⟨[(19, .int .i64 k), (18, .int .i64 l.length), (17, .list l.length (ks .i32 l)), (7, .own 0 (smpB 16 (l.take k)).length), (0, .int .i64 16), (1, .list l.length (ks .i32 l))], [⟨t0, 1, (smpB 16 (l.take k)).length, u8 (smpB 16 (l.take k)), 0⟩]⟩) (fun k => k ≤ l.length) (fun k => l.length - k) 0 (Le.trans (Le.virt 7 t0 1 (by omega) rfl) (Le.slots (by simp [Am.look, smpB]))) (by omega) ?_
    intro k hk
    have hBk := hB k
    rw [List.length_take, Nat.min_eq_left hk] at hBk
    by_cases hlt : k < l.length
    · have e1 := drop_ks (K := .i32) hlt
      obtain ⟨i1, i2⟩ := hin k hlt
      have eT := hS k hlt
      have eE := smpE16 (x := l[k]) (by omega) (by omega)
      have eL := hB (k + 1)
      rw [List.length_take, Nat.min_eq_left (by omega : k + 1 ≤ l.length)] at eL
      generalize l[k] = x at *
      generalize hp : smpB 16 (l.take k) = pre at *
      generalize hp2 : smpB 16 (l.take (k + 1)) = pre2 at *
      have eU : u8 pre2 = u8 pre ++ [.int .u8 (x % 256), .int .u8 (x / 256 % 256)] := by rw [eT, ← u8_append, eE]
      have lp := u8_length pre
      simp (config := { maxSteps := 4000000 }) (disch := omega) only [step, stepv, ev, okW, onlyFr, Bool.false_and, Bool.true_and, sealw, wl, wn, wp, aop, cV, cV1, ↓reduceIte, Nat.reduceEqDiff, Nat.reduceAdd, Int.cast_ofNat_Int, if_true, if_false, AV.one, repCells, fillA, partCells, Nat.reduceLT, Nat.reduceLeDiff, Nat.reduceMul, Nat.reduceSub, Int.reduceLT, Int.reduceLE, Int.reduceAdd, Int.reduceSub, Int.reduceMul, Int.reduceToNat, sliceCells, cellsAt, srcA, app, reduceCtorEq, Int.reduceEq, Int.reduceNeg, Int.reducePow, Nat.reducePow, Int.reduceTDiv, Int.reduceDiv, Nat.reduceDiv, Nat.reduceMod, Int.reduceMod, Int.reduceTMod, ne_eq, subA, beq_iff_eq, unA, minA, maxA, eqFs, eqA1, beq_self_eq_true, Nat.reduceBEq, e1, hk0]
      refine ALoop.by (ι := Nat) (fun j => ⟨[(29, .int .i64 j), (28, .int .i64 2), (9, .int .i32 (x)), (7, .own 0 (pre.length + j)), (19, .int .i64 k), (18, .int .i64 l.length), (17, .list l.length (ks .i32 l)), (0, .int .i64 16), (1, .list l.length (ks .i32 l))], [⟨t0, 1, pre.length + j, (match j with | 0 => u8 pre | 1 => u8 pre ++ [.int .u8 (x % 256)] | _ => u8 pre ++ [.int .u8 (x % 256), .int .u8 (x / 256 % 256)]), 0⟩]⟩) (fun j => j ≤ 2) (fun j => 2 - j) 0 (Le.slots (by simp [Am.look])) (by omega) ?_
      intro j hj
      have s0 : shiftA false .i32 x 0 = some (.int .i32 x) := by simp [shiftA, Int.fdiv_one]
      have s1 : shiftA false .i32 x 8 = some (.int .i32 (x / 256)) := by simp [shiftA, IntKind.bits, Int.fdiv_eq_ediv_of_nonneg]
      have s2 : shiftA false .i32 x 16 = some (.int .i32 (x / 65536)) := by simp [shiftA, IntKind.bits, Int.fdiv_eq_ediv_of_nonneg]
      have w0 := wrap_u8_mod x
      have w1 := wrap_u8_mod (x / 256)
      have w2 := wrap_u8_mod (x / 65536)
      have hj3 : j = 0 ∨ j = 1 ∨ j = 2 := by omega
      rcases hj3 with rfl | rfl | rfl
      · simp (config := { maxSteps := 4000000 }) (disch := omega) only [step, stepv, ev, okW, onlyFr, Bool.false_and, Bool.true_and, sealw, wl, wn, wp, aop, cV, cV1, ↓reduceIte, Nat.reduceEqDiff, Nat.reduceAdd, Int.cast_ofNat_Int, if_true, if_false, AV.one, repCells, fillA, partCells, Nat.reduceLT, Nat.reduceLeDiff, Nat.reduceMul, Nat.reduceSub, Int.reduceLT, Int.reduceLE, Int.reduceAdd, Int.reduceSub, Int.reduceMul, Int.reduceToNat, sliceCells, cellsAt, srcA, app, reduceCtorEq, Int.reduceEq, Int.reduceNeg, Int.reducePow, Nat.reducePow, Int.reduceTDiv, Int.reduceDiv, Nat.reduceDiv, Nat.reduceMod, Int.reduceMod, Int.reduceTMod, ne_eq, subA, beq_iff_eq, unA, minA, maxA, eqFs, eqA1, beq_self_eq_true, Nat.reduceBEq, s0, s1, s2, w0, w1, w2, lp, List.append_assoc]
        exact ⟨1, by omega, by omega, Le.dropT [_] (by simp [isTL_append, isT_u8, isTL, isT]) (by simp [Am.look, frzK, frzL, frzV, frzL_T _ (isTL_ks _ _)])⟩
      · simp (config := { maxSteps := 4000000 }) (disch := omega) only [step, stepv, ev, okW, onlyFr, Bool.false_and, Bool.true_and, sealw, wl, wn, wp, aop, cV, cV1, ↓reduceIte, Nat.reduceEqDiff, Nat.reduceAdd, Int.cast_ofNat_Int, if_true, if_false, AV.one, repCells, fillA, partCells, Nat.reduceLT, Nat.reduceLeDiff, Nat.reduceMul, Nat.reduceSub, Int.reduceLT, Int.reduceLE, Int.reduceAdd, Int.reduceSub, Int.reduceMul, Int.reduceToNat, sliceCells, cellsAt, srcA, app, reduceCtorEq, Int.reduceEq, Int.reduceNeg, Int.reducePow, Nat.reducePow, Int.reduceTDiv, Int.reduceDiv, Nat.reduceDiv, Nat.reduceMod, Int.reduceMod, Int.reduceTMod, ne_eq, subA, beq_iff_eq, unA, minA, maxA, eqFs, eqA1, beq_self_eq_true, Nat.reduceBEq, s0, s1, s2, w0, w1, w2, lp, List.append_assoc]
        exact ⟨2, by omega, by omega, Le.dropT [_] (by simp [isTL_append, isT_u8, isTL, isT]) (by simp [Am.look, frzK, frzL, frzV, frzL_T _ (isTL_ks _ _)])⟩
      · simp (config := { maxSteps := 4000000 }) (disch := omega) only [step, stepv, ev, okW, onlyFr, Bool.false_and, Bool.true_and, sealw, wl, wn, wp, aop, cV, cV1, ↓reduceIte, Nat.reduceEqDiff, Nat.reduceAdd, Int.cast_ofNat_Int, if_true, if_false, AV.one, repCells, fillA, partCells, Nat.reduceLT, Nat.reduceLeDiff, Nat.reduceMul, Nat.reduceSub, Int.reduceLT, Int.reduceLE, Int.reduceAdd, Int.reduceSub, Int.reduceMul, Int.reduceToNat, sliceCells, cellsAt, srcA, app, reduceCtorEq, Int.reduceEq, Int.reduceNeg, Int.reducePow, Nat.reducePow, Int.reduceTDiv, Int.reduceDiv, Nat.reduceDiv, Nat.reduceMod, Int.reduceMod, Int.reduceTMod, ne_eq, subA, beq_iff_eq, unA, minA, maxA, eqFs, eqA1, beq_self_eq_true, Nat.reduceBEq]
        rw [← eU, show pre.length + 2 = pre2.length by omega]
        refine ⟨k + 1, by omega, by omega, ?_⟩
        rw [hp2]
        exact Le.slots (by simp [Am.look])
    · have ek : k = l.length := by omega
      subst ek
      rw [List.take_length]
      simp (config := { maxSteps := 4000000 }) (disch := omega) only [step, stepv, ev, okW, onlyFr, Bool.false_and, Bool.true_and, sealw, wl, wn, wp, aop, cV, cV1, ↓reduceIte, Nat.reduceEqDiff, Nat.reduceAdd, Int.cast_ofNat_Int, if_true, if_false, AV.one, repCells, fillA, partCells, Nat.reduceLT, Nat.reduceLeDiff, Nat.reduceMul, Nat.reduceSub, Int.reduceLT, Int.reduceLE, Int.reduceAdd, Int.reduceSub, Int.reduceMul, Int.reduceToNat, sliceCells, cellsAt, srcA, app, reduceCtorEq, Int.reduceEq, Int.reduceNeg, Int.reducePow, Nat.reducePow, Int.reduceTDiv, Int.reduceDiv, Nat.reduceDiv, Nat.reduceMod, Int.reduceMod, Int.reduceTMod, ne_eq, subA, beq_iff_eq, unA, minA, maxA, eqFs, eqA1, beq_self_eq_true, Nat.reduceBEq, hk0]
      simp [frzN, frzK, frzL, frzV, frzL_T _ (isT_u8 _), bs]
  · have hw : ((24 : Int) / 8).toNat = 3 := rfl
    simp only [hw] at hB hB0
    rw [h] at hin
    simp (config := { maxSteps := 4000000 }) (disch := omega) only [step, stepv, ev, okW, onlyFr, Bool.false_and, Bool.true_and, sealw, wl, wn, wp, aop, cV, cV1, ↓reduceIte, Nat.reduceEqDiff, Nat.reduceAdd, Int.cast_ofNat_Int, if_true, if_false, AV.one, repCells, fillA, partCells, Nat.reduceLT, Nat.reduceLeDiff, Nat.reduceMul, Nat.reduceSub, Int.reduceLT, Int.reduceLE, Int.reduceAdd, Int.reduceSub, Int.reduceMul, Int.reduceToNat, sliceCells, cellsAt, srcA, app, reduceCtorEq, Int.reduceEq, Int.reduceNeg, Int.reducePow, Nat.reducePow, Int.reduceTDiv, Int.reduceDiv, Nat.reduceDiv, Nat.reduceMod, Int.reduceMod, Int.reduceTMod, ne_eq, subA, beq_iff_eq, unA, minA, maxA, eqFs, eqA1, beq_self_eq_true, Nat.reduceBEq, ac_width_Bytes, il]
    refine callQ.vc hC' ?_
    simp (config := { maxSteps := 4000000 }) (disch := omega) only [step, stepv, ev, okW, onlyFr, Bool.false_and, Bool.true_and, sealw, wl, wn, wp, aop, cV, cV1, ↓reduceIte, Nat.reduceEqDiff, Nat.reduceAdd, Int.cast_ofNat_Int, if_true, if_false, AV.one, repCells, fillA, partCells, Nat.reduceLT, Nat.reduceLeDiff, Nat.reduceMul, Nat.reduceSub, Int.reduceLT, Int.reduceLE, Int.reduceAdd, Int.reduceSub, Int.reduceMul, Int.reduceToNat, sliceCells, cellsAt, srcA, app, reduceCtorEq, Int.reduceEq, Int.reduceNeg, Int.reducePow, Nat.reducePow, Int.reduceTDiv, Int.reduceDiv, Nat.reduceDiv, Nat.reduceMod, Int.reduceMod, Int.reduceTMod, ne_eq, subA, beq_iff_eq, unA, minA, maxA, eqFs, eqA1, beq_self_eq_true, Nat.reduceBEq]
    refine ALoop.by (ι := Nat) (fun k => ⟨[(19, .int .i64 k), (18, .int .i64 l.length), (17, .list l.length (ks .i32 l)), (7, .own 0 (smpB 24 (l.take k)).length), (0, .int .i64 24), (1, .list l.length (ks .i32 l))], [⟨t0, 1, (smpB 24 (l.take k)).length, u8 (smpB 24 (l.take k)), 0⟩]⟩) (fun k => k ≤ l.length) (fun k => l.length - k) 0 (Le.trans (Le.virt 7 t0 1 (by omega) rfl) (Le.slots (by simp [Am.look, smpB]))) (by omega) ?_
    intro k hk
    have hBk := hB k
    rw [List.length_take, Nat.min_eq_left hk] at hBk
    by_cases hlt : k < l.length
    · have e1 := drop_ks (K := .i32) hlt
      obtain ⟨i1, i2⟩ := hin k hlt
      have eT := hS k hlt
      have eE := smpE24 (x := l[k]) (by omega) (by omega)
      have eL := hB (k + 1)
      rw [List.length_take, Nat.min_eq_left (by omega : k + 1 ≤ l.length)] at eL
      generalize l[k] = x at *
      generalize hp : smpB 24 (l.take k) = pre at *
      generalize hp2 : smpB 24 (l.take (k + 1)) = pre2 at *
      have eU : u8 pre2 = u8 pre ++ [.int .u8 (x % 256), .int .u8 (x / 256 % 256), .int .u8 (x / 65536 % 256)] := by rw [eT, ← u8_append, eE]
      have lp := u8_length pre
      simp (config := { maxSteps := 4000000 }) (disch := omega) only [step, stepv, ev, okW, onlyFr, Bool.false_and, Bool.true_and, sealw, wl, wn, wp, aop, cV, cV1, ↓reduceIte, Nat.reduceEqDiff, Nat.reduceAdd, Int.cast_ofNat_Int, if_true, if_false, AV.one, repCells, fillA, partCells, Nat.reduceLT, Nat.reduceLeDiff, Nat.reduceMul, Nat.reduceSub, Int.reduceLT, Int.reduceLE, Int.reduceAdd, Int.reduceSub, Int.reduceMul, Int.reduceToNat, sliceCells, cellsAt, srcA, app, reduceCtorEq, Int.reduceEq, Int.reduceNeg, Int.reducePow, Nat.reducePow, Int.reduceTDiv, Int.reduceDiv, Nat.reduceDiv, Nat.reduceMod, Int.reduceMod, Int.reduceTMod, ne_eq, subA, beq_iff_eq, unA, minA, maxA, eqFs, eqA1, beq_self_eq_true, Nat.reduceBEq, e1, hk0]
      refine ALoop.by (ι := Nat) (fun j => ⟨[(29, .int .i64 j), (28, .int .i64 3), (9, .int .i32 (x)), (7, .own 0 (pre.length + j)), (19, .int .i64 k), (18, .int .i64 l.length), (17, .list l.length (ks .i32 l)), (0, .int .i64 24), (1, .list l.length (ks .i32 l))], [⟨t0, 1, pre.length + j, (match j with | 0 => u8 pre | 1 => u8 pre ++ [.int .u8 (x % 256)] | 2 => u8 pre ++ [.int .u8 (x % 256), .int .u8 (x / 256 % 256)] | _ => u8 pre ++ [.int .u8 (x % 256), .int .u8 (x / 256 % 256), .int .u8 (x / 65536 % 256)]), 0⟩]⟩) (fun j => j ≤ 3) (fun j => 3 - j) 0 (Le.slots (by simp [Am.look])) (by omega) ?_
      intro j hj
      have s0 : shiftA false .i32 x 0 = some (.int .i32 x) := by simp [shiftA, Int.fdiv_one]
      have s1 : shiftA false .i32 x 8 = some (.int .i32 (x / 256)) := by simp [shiftA, IntKind.bits, Int.fdiv_eq_ediv_of_nonneg]
      have s2 : shiftA false .i32 x 16 = some (.int .i32 (x / 65536)) := by simp [shiftA, IntKind.bits, Int.fdiv_eq_ediv_of_nonneg]
      have w0 := wrap_u8_mod x
      have w1 := wrap_u8_mod (x / 256)
      have w2 := wrap_u8_mod (x / 65536)
      have hj3 : j = 0 ∨ j = 1 ∨ j = 2 ∨ j = 3 := by omega
      rcases hj3 with rfl | rfl | rfl | rfl
      · simp (config := { maxSteps := 4000000 }) (disch := omega) only [step, stepv, ev, okW, onlyFr, Bool.false_and, Bool.true_and, sealw, wl, wn, wp, aop, cV, cV1, ↓reduceIte, Nat.reduceEqDiff, Nat.reduceAdd, Int.cast_ofNat_Int, if_true, if_false, AV.one, repCells, fillA, partCells, Nat.reduceLT, Nat.reduceLeDiff, Nat.reduceMul, Nat.reduceSub, Int.reduceLT, Int.reduceLE, Int.reduceAdd, Int.reduceSub, Int.reduceMul, Int.reduceToNat, sliceCells, cellsAt, srcA, app, reduceCtorEq, Int.reduceEq, Int.reduceNeg, Int.reducePow, Nat.reducePow, Int.reduceTDiv, Int.reduceDiv, Nat.reduceDiv, Nat.reduceMod, Int.reduceMod, Int.reduceTMod, ne_eq, subA, beq_iff_eq, unA, minA, maxA, eqFs, eqA1, beq_self_eq_true, Nat.reduceBEq, s0, s1, s2, w0, w1, w2, lp, List.append_assoc]
        exact ⟨1, by omega, by omega, Le.dropT [_] (by simp [isTL_append, isT_u8, isTL, isT]) (by simp [Am.look, frzK, frzL, frzV, frzL_T _ (isTL_ks _ _)])⟩
      · simp (config := { maxSteps := 4000000 }) (disch := omega) only [step, stepv, ev, okW, onlyFr, Bool.false_and, Bool.true_and, sealw, wl, wn, wp, aop, cV, cV1, ↓reduceIte, Nat.reduceEqDiff, Nat.reduceAdd, Int.cast_ofNat_Int, if_true, if_false, AV.one, repCells, fillA, partCells, Nat.reduceLT, Nat.reduceLeDiff, Nat.reduceMul, Nat.reduceSub, Int.reduceLT, Int.reduceLE, Int.reduceAdd, Int.reduceSub, Int.reduceMul, Int.reduceToNat, sliceCells, cellsAt, srcA, app, reduceCtorEq, Int.reduceEq, Int.reduceNeg, Int.reducePow, Nat.reducePow, Int.reduceTDiv, Int.reduceDiv, Nat.reduceDiv, Nat.reduceMod, Int.reduceMod, Int.reduceTMod, ne_eq, subA, beq_iff_eq, unA, minA, maxA, eqFs, eqA1, beq_self_eq_true, Nat.reduceBEq, s0, s1, s2, w0, w1, w2, lp, List.append_assoc]
        exact ⟨2, by omega, by omega, Le.dropT [_] (by simp [isTL_append, isT_u8, isTL, isT]) (by simp [Am.look, frzK, frzL, frzV, frzL_T _ (isTL_ks _ _)])⟩
      · simp (config := { maxSteps := 4000000 }) (disch := omega) only [step, stepv, ev, okW, onlyFr, Bool.false_and, Bool.true_and, sealw, wl, wn, wp, aop, cV, cV1, ↓reduceIte, Nat.reduceEqDiff, Nat.reduceAdd, Int.cast_ofNat_Int, if_true, if_false, AV.one, repCells, fillA, partCells, Nat.reduceLT, Nat.reduceLeDiff, Nat.reduceMul, Nat.reduceSub, Int.reduceLT, Int.reduceLE, Int.reduceAdd, Int.reduceSub, Int.reduceMul, Int.reduceToNat, sliceCells, cellsAt, srcA, app, reduceCtorEq, Int.reduceEq, Int.reduceNeg, Int.reducePow, Nat.reducePow, Int.reduceTDiv, Int.reduceDiv, Nat.reduceDiv, Nat.reduceMod, Int.reduceMod, Int.reduceTMod, ne_eq, subA, beq_iff_eq, unA, minA, maxA, eqFs, eqA1, beq_self_eq_true, Nat.reduceBEq, s0, s1, s2, w0, w1, w2, lp, List.append_assoc]
        exact ⟨3, by omega, by omega, Le.dropT [_] (by simp [isTL_append, isT_u8, isTL, isT]) (by simp [Am.look, frzK, frzL, frzV, frzL_T _ (isTL_ks _ _)])⟩
      · simp (config := { maxSteps := 4000000 }) (disch := omega) only [step, stepv, ev, okW, onlyFr, Bool.false_and, Bool.true_and, sealw, wl, wn, wp, aop, cV, cV1, ↓reduceIte, Nat.reduceEqDiff, Nat.reduceAdd, Int.cast_ofNat_Int, if_true, if_false, AV.one, repCells, fillA, partCells, Nat.reduceLT, Nat.reduceLeDiff, Nat.reduceMul, Nat.reduceSub, Int.reduceLT, Int.reduceLE, Int.reduceAdd, Int.reduceSub, Int.reduceMul, Int.reduceToNat, sliceCells, cellsAt, srcA, app, reduceCtorEq, Int.reduceEq, Int.reduceNeg, Int.reducePow, Nat.reducePow, Int.reduceTDiv, Int.reduceDiv, Nat.reduceDiv, Nat.reduceMod, Int.reduceMod, Int.reduceTMod, ne_eq, subA, beq_iff_eq, unA, minA, maxA, eqFs, eqA1, beq_self_eq_true, Nat.reduceBEq]
        rw [← eU, show pre.length + 3 = pre2.length by omega]
        refine ⟨k + 1, by omega, by omega, ?_⟩
        rw [hp2]
        exact Le.slots (by simp [Am.look])
    · have ek : k = l.length := by omega
      subst ek
      rw [List.take_length]
      simp (config := { maxSteps := 4000000 }) (disch := omega) only [step, stepv, ev, okW, onlyFr, Bool.false_and, Bool.true_and, sealw, wl, wn, wp, aop, cV, cV1, ↓reduceIte, Nat.reduceEqDiff, Nat.reduceAdd, Int.cast_ofNat_Int, if_true, if_false, AV.one, repCells, fillA, partCells, Nat.reduceLT, Nat.reduceLeDiff, Nat.reduceMul, Nat.reduceSub, Int.reduceLT, Int.reduceLE, Int.reduceAdd, Int.reduceSub, Int.reduceMul, Int.reduceToNat, sliceCells, cellsAt, srcA, app, reduceCtorEq, Int.reduceEq, Int.reduceNeg, Int.reducePow, Nat.reducePow, Int.reduceTDiv, Int.reduceDiv, Nat.reduceDiv, Nat.reduceMod, Int.reduceMod, Int.reduceTMod, ne_eq, subA, beq_iff_eq, unA, minA, maxA, eqFs, eqA1, beq_self_eq_true, Nat.reduceBEq, hk0]
      simp [frzN, frzK, frzL, frzV, frzL_T _ (isT_u8 _), bs]

end Go.Am

namespace Go.Am
open Go.RowKit

/-! ### WAV: writing -/

theorem isD_clA (c x r : Int) (l : List Int) : isD (clA c x r l) = true := by simp [clA, isD, isDL, isD_il]
def fmtW : List UInt8 := [102, 109, 116, 32]
def dataW : List UInt8 := [100, 97, 116, 97]
def waveW' : List UInt8 := [87, 65, 86, 69]
def wavL (c x r : Int) (l : List Int) : List Ck := [(fmtW, formW c x r), (dataW, smpB x l)]
def wavB (c x r : Int) (l : List Int) : List UInt8 := bytesM waveW' (wavL c x r l)
def wavA (c x r : Int) (l : List Int) : AV := if clipN c x r l ≠ 0 then .tup [.list 0 [], .int .i64 (clipN c x r l)] else .tup [bs (wavB c x r l), .int .i64 0]
theorem isD_wavA (c x r : Int) (l : List Int) : isD (wavA c x r l) = true := by unfold wavA; split <;> simp [isD, isDL, isD_bs]

theorem clip_ok {c x r : Int} {l : List Int} (h : clipN c x r l = 0) : sndOk c x r ∧ checkN x l = 0 ∧ (l.length : Int) % c = 0 ∧ headN c x r (l.length / c) = 0 := by
  unfold clipN at h
  split at h
  · omega
  split at h
  · omega
  split at h
  · omega
  split at h
  · omega
  rename_i h1 h2 h3 h4
  have h3' : headN c x r (l.length / c) = 0 := by omega
  refine ⟨?_, by omega, by omega, h3'⟩
  unfold headN at h3'
  split at h3'
  · omega
  rename_i e1
  split at h3'
  · omega
  split at h3'
  · omega
  split at h3'
  · omega
  rename_i e4
  have e4' : cntE r (l.length / c) = 0 := by omega
  have e1' : eCheck c x = 0 := by omega
  unfold cntE at e4'
  split at e4'
  · omega
  rename_i q1
  unfold eCheck at e1'
  split at e1'
  · omega
  rename_i q2
  refine ⟨?_, ?_, fun h => q2 (.inl h), ?_, ?_⟩ <;> omega

theorem formW_length (c x r : Int) : (formW c x r).length = 16 ∨ (formW c x r).length = 40 := by
  unfold formW; rw [formB_length]; split <;> simp

theorem wavL_ok {c x r : Int} {l : List Int} (h : clipN c x r l = 0) : okL (wavL c x r l) ∧ checkM waveW' (wavL c x r l) = 0 := by
  obtain ⟨h1, h2, _⟩ := clip_ok h
  obtain ⟨h4, h5⟩ := check_len h2
  have h6 := smpB_length x l
  have h7 : (x / 8).toNat ≤ 3 := by rcases (half_ne x).1 h5 with h | h | h <;> subst h <;> decide
  have h8 : l.length * (x / 8).toNat ≤ 4000 * 3 := Nat.mul_le_mul h4 h7
  have h9 := formW_length c x r
  refine ⟨⟨by simp [wavL], fun k hk => ?_⟩, ?_⟩
  · simp [wavL] at hk
    rcases hk with rfl | rfl
    · simp [fmtW]; omega
    · simp [dataW]; omega
  · have hs : szL (wavL c x r l) = (8 + (formW c x r).length + (formW c x r).length % 2) + (8 + (smpB x l).length + (smpB x l).length % 2) := by simp [wavL, szL, szC]
    unfold checkM
    rw [hs, if_neg (by simp [wavL]), if_neg]
    rintro (h' | h' | h')
    · revert h'; decide
    · omega
    · revert h'; simp [wavL]; decide

def S_One18 (P : Prg) (f : Nat) : Prop := ∀ b x : Int, half b ≠ 0 → -half b ≤ x → x < half b → VC P f [.int .i64 b, .int .i32 x] (bs (smpE b x))

theorem list_of {n : Nat} {b : List UInt8} {cs : List AV} (h : u8 b = cs) (hn : b.length = n) : bs b = .list n cs := by rw [← h, ← hn]; rfl

set_option maxRecDepth 20000 in
theorem ref18_One {P : Prg} {f fH t0 : Nat} (bd : Body P f 39 [.tmp 4] (ac_cadenzaref18_One fH t0)) (hH : S_Half P fH) : S_One18 P f := by
  intro b x hb h1 h2
  refine VC.of_walk 1 rfl (isD_bs _) (ACall.of_body bd (by simp) ?_)
  have hH' := hH b
  rcases half_cases b with ⟨rfl, h⟩ | ⟨rfl, h⟩ | ⟨rfl, h⟩ | ⟨_, _, _, h⟩
  case inr.inr.inr => exact absurd h hb
  · rw [h] at h1 h2
    rw [list_of (smpE8 h1 h2) (smpE_length 8 x)]
    simp (config := { maxSteps := 4000000 }) (disch := omega) only [step, stepv, ev, okW, onlyFr, Bool.false_and, Bool.true_and, sealw, wl, wn, wp, aop, cV, cV1, ↓reduceIte, Nat.reduceEqDiff, Nat.reduceAdd, Int.cast_ofNat_Int, if_true, if_false, AV.one, repCells, fillA, partCells, Nat.reduceLT, Nat.reduceLeDiff, Nat.reduceMul, Nat.reduceSub, Int.reduceLT, Int.reduceLE, Int.reduceAdd, Int.reduceSub, Int.reduceMul, Int.reduceToNat, sliceCells, cellsAt, srcA, app, reduceCtorEq, Int.reduceEq, Int.reduceNeg, Int.reducePow, Nat.reducePow, Int.reduceTDiv, Int.reduceDiv, Nat.reduceDiv, Nat.reduceMod, Int.reduceMod, Int.reduceTMod, ne_eq, subA, beq_iff_eq, unA, minA, maxA, eqFs, eqA1, beq_self_eq_true, Nat.reduceBEq, ac_cadenzaref18_One]
    simp [frzN, frzK, frzL, frzV, isDL, isD]
  · rw [h] at h1 h2 hH'
    have hl := list_of (smpE16 h1 h2) (smpE_length 16 x)
    rw [hl]
    by_cases hx : x < 0
    · simp (config := { maxSteps := 4000000 }) (disch := omega) only [step, stepv, ev, okW, onlyFr, Bool.false_and, Bool.true_and, sealw, wl, wn, wp, aop, cV, cV1, ↓reduceIte, Nat.reduceEqDiff, Nat.reduceAdd, Int.cast_ofNat_Int, if_true, if_false, AV.one, repCells, fillA, partCells, Nat.reduceLT, Nat.reduceLeDiff, Nat.reduceMul, Nat.reduceSub, Int.reduceLT, Int.reduceLE, Int.reduceAdd, Int.reduceSub, Int.reduceMul, Int.reduceToNat, sliceCells, cellsAt, srcA, app, reduceCtorEq, Int.reduceEq, Int.reduceNeg, Int.reducePow, Nat.reducePow, Int.reduceTDiv, Int.reduceDiv, Nat.reduceDiv, Nat.reduceMod, Int.reduceMod, Int.reduceTMod, ne_eq, subA, beq_iff_eq, unA, minA, maxA, eqFs, eqA1, beq_self_eq_true, Nat.reduceBEq, ac_cadenzaref18_One]
      refine callQ.vc hH' ?_
      have q1 : (x + 65536) % 256 = x % 256 := by omega
      have q2 : (x + 65536) / 256 % 256 = x / 256 % 256 := by omega
      simp (config := { maxSteps := 4000000 }) (disch := omega) only [step, stepv, ev, okW, onlyFr, Bool.false_and, Bool.true_and, sealw, wl, wn, wp, aop, cV, cV1, ↓reduceIte, Nat.reduceEqDiff, Nat.reduceAdd, Int.cast_ofNat_Int, if_true, if_false, AV.one, repCells, fillA, partCells, Nat.reduceLT, Nat.reduceLeDiff, Nat.reduceMul, Nat.reduceSub, Int.reduceLT, Int.reduceLE, Int.reduceAdd, Int.reduceSub, Int.reduceMul, Int.reduceToNat, sliceCells, cellsAt, srcA, app, reduceCtorEq, Int.reduceEq, Int.reduceNeg, Int.reducePow, Nat.reducePow, Int.reduceTDiv, Int.reduceDiv, Nat.reduceDiv, Nat.reduceMod, Int.reduceMod, Int.reduceTMod, ne_eq, subA, beq_iff_eq, unA, minA, maxA, eqFs, eqA1, beq_self_eq_true, Nat.reduceBEq, q1, q2]
      simp [frzN, frzK, frzL, frzV, isDL, isD]
    · simp (config := { maxSteps := 4000000 }) (disch := omega) only [step, stepv, ev, okW, onlyFr, Bool.false_and, Bool.true_and, sealw, wl, wn, wp, aop, cV, cV1, ↓reduceIte, Nat.reduceEqDiff, Nat.reduceAdd, Int.cast_ofNat_Int, if_true, if_false, AV.one, repCells, fillA, partCells, Nat.reduceLT, Nat.reduceLeDiff, Nat.reduceMul, Nat.reduceSub, Int.reduceLT, Int.reduceLE, Int.reduceAdd, Int.reduceSub, Int.reduceMul, Int.reduceToNat, sliceCells, cellsAt, srcA, app, reduceCtorEq, Int.reduceEq, Int.reduceNeg, Int.reducePow, Nat.reducePow, Int.reduceTDiv, Int.reduceDiv, Nat.reduceDiv, Nat.reduceMod, Int.reduceMod, Int.reduceTMod, ne_eq, subA, beq_iff_eq, unA, minA, maxA, eqFs, eqA1, beq_self_eq_true, Nat.reduceBEq, ac_cadenzaref18_One]
      simp [frzN, frzK, frzL, frzV, isDL, isD]
  · rw [h] at h1 h2 hH'
    have hl := list_of (smpE24 h1 h2) (smpE_length 24 x)
    rw [hl]
    by_cases hx : x < 0
    · simp (config := { maxSteps := 4000000 }) (disch := omega) only [step, stepv, ev, okW, onlyFr, Bool.false_and, Bool.true_and, sealw, wl, wn, wp, aop, cV, cV1, ↓reduceIte, Nat.reduceEqDiff, Nat.reduceAdd, Int.cast_ofNat_Int, if_true, if_false, AV.one, repCells, fillA, partCells, Nat.reduceLT, Nat.reduceLeDiff, Nat.reduceMul, Nat.reduceSub, Int.reduceLT, Int.reduceLE, Int.reduceAdd, Int.reduceSub, Int.reduceMul, Int.reduceToNat, sliceCells, cellsAt, srcA, app, reduceCtorEq, Int.reduceEq, Int.reduceNeg, Int.reducePow, Nat.reducePow, Int.reduceTDiv, Int.reduceDiv, Nat.reduceDiv, Nat.reduceMod, Int.reduceMod, Int.reduceTMod, ne_eq, subA, beq_iff_eq, unA, minA, maxA, eqFs, eqA1, beq_self_eq_true, Nat.reduceBEq, ac_cadenzaref18_One]
      refine callQ.vc hH' ?_
      have q1 : (x + 16777216) % 256 = x % 256 := by omega
      have q2 : (x + 16777216) / 256 % 256 = x / 256 % 256 := by omega
      have q3 : (x + 16777216) / 65536 = x / 65536 % 256 := by omega
      simp (config := { maxSteps := 4000000 }) (disch := omega) only [step, stepv, ev, okW, onlyFr, Bool.false_and, Bool.true_and, sealw, wl, wn, wp, aop, cV, cV1, ↓reduceIte, Nat.reduceEqDiff, Nat.reduceAdd, Int.cast_ofNat_Int, if_true, if_false, AV.one, repCells, fillA, partCells, Nat.reduceLT, Nat.reduceLeDiff, Nat.reduceMul, Nat.reduceSub, Int.reduceLT, Int.reduceLE, Int.reduceAdd, Int.reduceSub, Int.reduceMul, Int.reduceToNat, sliceCells, cellsAt, srcA, app, reduceCtorEq, Int.reduceEq, Int.reduceNeg, Int.reducePow, Nat.reducePow, Int.reduceTDiv, Int.reduceDiv, Nat.reduceDiv, Nat.reduceMod, Int.reduceMod, Int.reduceTMod, ne_eq, subA, beq_iff_eq, unA, minA, maxA, eqFs, eqA1, beq_self_eq_true, Nat.reduceBEq, q1, q2, q3]
      simp [frzN, frzK, frzL, frzV, isDL, isD]
    · have q3 : x / 65536 % 256 = x / 65536 := by omega
      simp (config := { maxSteps := 4000000 }) (disch := omega) only [step, stepv, ev, okW, onlyFr, Bool.false_and, Bool.true_and, sealw, wl, wn, wp, aop, cV, cV1, ↓reduceIte, Nat.reduceEqDiff, Nat.reduceAdd, Int.cast_ofNat_Int, if_true, if_false, AV.one, repCells, fillA, partCells, Nat.reduceLT, Nat.reduceLeDiff, Nat.reduceMul, Nat.reduceSub, Int.reduceLT, Int.reduceLE, Int.reduceAdd, Int.reduceSub, Int.reduceMul, Int.reduceToNat, sliceCells, cellsAt, srcA, app, reduceCtorEq, Int.reduceEq, Int.reduceNeg, Int.reducePow, Nat.reducePow, Int.reduceTDiv, Int.reduceDiv, Nat.reduceDiv, Nat.reduceMod, Int.reduceMod, Int.reduceTMod, ne_eq, subA, beq_iff_eq, unA, minA, maxA, eqFs, eqA1, beq_self_eq_true, Nat.reduceBEq, ac_cadenzaref18_One, q3]
      simp [frzN, frzK, frzL, frzV, isDL, isD]

def S_Data33 (P : Prg) (f : Nat) : Prop := ∀ (c x r : Int) (l : List Int), checkN x l = 0 → VC P f [clA c x r l] (bs (smpB x l))
theorem ref33_Data {P : Prg} {f fO t0 t1 : Nat} (bd : Body P f 23 [.tmp 2] (ac_cadenzaref33_Data fO t0 t1)) (hO : S_One18 P fO) : S_Data33 P f := by
  intro c x r l h0
  refine VC.of_walk 1 (by simp [isDL, isD_clA]) (isD_bs _) (ACall.of_body bd (by simp) ?_)
  obtain ⟨h4, hh⟩ := check_len h0
  have hin := fun k hk => @inR_of x l h0 k hk
  have hS := fun k => @smpB_take x l k
  have hw : (x / 8).toNat ≤ 3 := by rcases (half_ne x).1 hh with h | h | h <;> subst h <;> decide
  have hk0 := ks_length .i32 l
  simp (config := { maxSteps := 4000000 }) (disch := omega) only [step, stepv, ev, okW, onlyFr, Bool.false_and, Bool.true_and, sealw, wl, wn, wp, aop, cV, cV1, ↓reduceIte, Nat.reduceEqDiff, Nat.reduceAdd, Int.cast_ofNat_Int, if_true, if_false, AV.one, repCells, fillA, partCells, Nat.reduceLT, Nat.reduceLeDiff, Nat.reduceMul, Nat.reduceSub, Int.reduceLT, Int.reduceLE, Int.reduceAdd, Int.reduceSub, Int.reduceMul, Int.reduceToNat, sliceCells, cellsAt, srcA, app, reduceCtorEq, Int.reduceEq, Int.reduceNeg, Int.reducePow, Nat.reducePow, Int.reduceTDiv, Int.reduceDiv, Nat.reduceDiv, Nat.reduceMod, Int.reduceMod, Int.reduceTMod, ne_eq, subA, beq_iff_eq, unA, minA, maxA, eqFs, eqA1, beq_self_eq_true, Nat.reduceBEq, ac_cadenzaref33_Data, clA, il]
  refine ALoop.by (ι := Nat) (fun k => ⟨[(4, .int .i64 k), (3, .own 1 (smpB x (l.take k)).length), (1, .ref 0 1 0)], [⟨t0, 4, 1, [.int .i64 c, .int .i64 x, .int .i64 r, .list l.length (ks .i32 l)], 0⟩, ⟨t1, 1, (smpB x (l.take k)).length, u8 (smpB x (l.take k)), 0⟩]⟩) (fun k => k ≤ l.length) (fun k => l.length - k) 0 (Le.trans (Le.virt 3 t1 1 (by omega) rfl) (Le.slots (by simp [Am.look, smpB]))) (by omega) ?_
  intro k hk
  have hBk := smpB_length x (l.take k)
  rw [List.length_take, Nat.min_eq_left hk] at hBk
  have hm : k * (x / 8).toNat ≤ 4000 * 3 := Nat.mul_le_mul (by omega) hw
  by_cases hlt : k < l.length
  · have e1 := drop_ks (K := .i32) hlt
    obtain ⟨i1, i2⟩ := hin k hlt
    have eT := hS k hlt
    have hO' := hO x l[k] hh i1 i2
    have hEl := smpE_length x l[k]
    generalize smpE x l[k] = E at *
    generalize l[k] = y at *
    simp (config := { maxSteps := 4000000 }) (disch := omega) only [step, stepv, ev, okW, onlyFr, Bool.false_and, Bool.true_and, sealw, wl, wn, wp, aop, cV, cV1, ↓reduceIte, Nat.reduceEqDiff, Nat.reduceAdd, Int.cast_ofNat_Int, if_true, if_false, AV.one, repCells, fillA, partCells, Nat.reduceLT, Nat.reduceLeDiff, Nat.reduceMul, Nat.reduceSub, Int.reduceLT, Int.reduceLE, Int.reduceAdd, Int.reduceSub, Int.reduceMul, Int.reduceToNat, sliceCells, cellsAt, srcA, app, reduceCtorEq, Int.reduceEq, Int.reduceNeg, Int.reducePow, Nat.reducePow, Int.reduceTDiv, Int.reduceDiv, Nat.reduceDiv, Nat.reduceMod, Int.reduceMod, Int.reduceTMod, ne_eq, subA, beq_iff_eq, unA, minA, maxA, eqFs, eqA1, beq_self_eq_true, Nat.reduceBEq, e1, hk0]
    refine callD.vc hO' ?_
    simp (config := { maxSteps := 4000000 }) (disch := omega) only [step, stepv, ev, okW, onlyFr, Bool.false_and, Bool.true_and, sealw, wl, wn, wp, aop, cV, cV1, ↓reduceIte, Nat.reduceEqDiff, Nat.reduceAdd, Int.cast_ofNat_Int, if_true, if_false, AV.one, repCells, fillA, partCells, Nat.reduceLT, Nat.reduceLeDiff, Nat.reduceMul, Nat.reduceSub, Int.reduceLT, Int.reduceLE, Int.reduceAdd, Int.reduceSub, Int.reduceMul, Int.reduceToNat, sliceCells, cellsAt, srcA, app, reduceCtorEq, Int.reduceEq, Int.reduceNeg, Int.reducePow, Nat.reducePow, Int.reduceTDiv, Int.reduceDiv, Nat.reduceDiv, Nat.reduceMod, Int.reduceMod, Int.reduceTMod, ne_eq, subA, beq_iff_eq, unA, minA, maxA, eqFs, eqA1, beq_self_eq_true, Nat.reduceBEq, bs, u8_append]
    rw [← eT]
    have el : (smpB x (l.take k)).length + E.length = (smpB x (l.take (k + 1))).length := by rw [eT, List.length_append]
    rw [el]
    exact ⟨k + 1, by omega, by omega, Le.dropT [_, _] (by simp [isTL, isT, isTL_ks, isT_u8]) (by simp [Am.look, frzK, frzL, frzV])⟩
  · have ek : k = l.length := by omega
    subst ek
    rw [List.take_length]
    simp (config := { maxSteps := 4000000 }) (disch := omega) only [step, stepv, ev, okW, onlyFr, Bool.false_and, Bool.true_and, sealw, wl, wn, wp, aop, cV, cV1, ↓reduceIte, Nat.reduceEqDiff, Nat.reduceAdd, Int.cast_ofNat_Int, if_true, if_false, AV.one, repCells, fillA, partCells, Nat.reduceLT, Nat.reduceLeDiff, Nat.reduceMul, Nat.reduceSub, Int.reduceLT, Int.reduceLE, Int.reduceAdd, Int.reduceSub, Int.reduceMul, Int.reduceToNat, sliceCells, cellsAt, srcA, app, reduceCtorEq, Int.reduceEq, Int.reduceNeg, Int.reducePow, Nat.reducePow, Int.reduceTDiv, Int.reduceDiv, Nat.reduceDiv, Nat.reduceMod, Int.reduceMod, Int.reduceTMod, ne_eq, subA, beq_iff_eq, unA, minA, maxA, eqFs, eqA1, beq_self_eq_true, Nat.reduceBEq, hk0]
    simp [frzN, frzK, frzL, frzV, frzL_T _ (isT_u8 _), bs]

def S_Sound33 (P : Prg) (f : Nat) : Prop := ∀ (c x r : Int) (l : List Int), VC P f [clA c x r l] (sndA c x r)
theorem ref33_Sound {P : Prg} {f t0 t1 : Nat} (bd : Body P f 10 [.cell 2 t1] (ac_cadenzaref33_Sound t0 t1)) (ht : aggO P t1 = some (some 3)) : S_Sound33 P f := by
  intro c x r l
  refine VC.of_acall (by simp [isDL, isD_clA]) rfl (ACall.of_body bd (by simp) ?_)
  simp (config := { maxSteps := 4000000 }) (disch := omega) only [step, stepv, ev, okW, onlyFr, Bool.false_and, Bool.true_and, sealw, wl, wn, wp, aop, cV, cV1, ↓reduceIte, Nat.reduceEqDiff, Nat.reduceAdd, Int.cast_ofNat_Int, if_true, if_false, AV.one, repCells, fillA, partCells, Nat.reduceLT, Nat.reduceLeDiff, Nat.reduceMul, Nat.reduceSub, Int.reduceLT, Int.reduceLE, Int.reduceAdd, Int.reduceSub, Int.reduceMul, Int.reduceToNat, sliceCells, cellsAt, srcA, app, reduceCtorEq, Int.reduceEq, Int.reduceNeg, Int.reducePow, Nat.reducePow, Int.reduceTDiv, Int.reduceDiv, Nat.reduceDiv, Nat.reduceMod, Int.reduceMod, Int.reduceTMod, ne_eq, subA, beq_iff_eq, unA, minA, maxA, eqFs, eqA1, beq_self_eq_true, Nat.reduceBEq, ac_cadenzaref33_Sound, clA, il, sndA, resA, ht, oneOf]

def S_Bytes33 (P : Prg) (f : Nat) : Prop := ∀ (c x r : Int) (l : List Int), clipN c x r l = 0 → VC P f [clA c x r l] (bs (wavB c x r l))
theorem ref33_Bytes {P : Prg} {f fS fF fD fB t0 t1 : Nat} (bd : Body P f 12 [.tmp 2] (ac_cadenzaref33_Bytes fS fF fD fB t0 t1)) (hS : S_Sound33 P fS) (hF : S_SForm P fF) (hD : S_Data33 P fD) (hB : S_Bytes31 P fB) : S_Bytes33 P f := by
  intro c x r l h0
  obtain ⟨h1, h2, _⟩ := clip_ok h0
  obtain ⟨h3, _⟩ := wavL_ok h0
  have hS' := hS c x r l
  have hD' := hD c x r l h2
  rw [clA, il] at hS' hD'
  have hW := hB waveW' (wavL c x r l) (by decide) h3
  rw [show bytesM waveW' (wavL c x r l) = wavB c x r l from rfl] at hW
  simp only [wavL, ckL, List.length_cons, List.length_nil] at hW
  obtain ⟨c, x, r, rfl, rfl, rfl⟩ := sndOk_nat h1
  have hF' := hF c x r h1
  rw [show formB c x r (broadS c x) (2 ^ c - 1) = formW c x r from by simp [formW]] at hF'
  generalize formW c x r = F at *
  generalize smpB x l = D at *
  generalize wavB c x r l = W at *
  refine VC.of_walk 1 (by simp [isDL, isD_clA]) (isD_bs _) (ACall.of_body bd (by simp) ?_)
  simp (config := { maxSteps := 4000000 }) (disch := omega) only [step, stepv, ev, okW, onlyFr, Bool.false_and, Bool.true_and, sealw, wl, wn, wp, aop, cV, cV1, ↓reduceIte, Nat.reduceEqDiff, Nat.reduceAdd, Int.cast_ofNat_Int, if_true, if_false, AV.one, repCells, fillA, partCells, Nat.reduceLT, Nat.reduceLeDiff, Nat.reduceMul, Nat.reduceSub, Int.reduceLT, Int.reduceLE, Int.reduceAdd, Int.reduceSub, Int.reduceMul, Int.reduceToNat, sliceCells, cellsAt, srcA, app, reduceCtorEq, Int.reduceEq, Int.reduceNeg, Int.reducePow, Nat.reducePow, Int.reduceTDiv, Int.reduceDiv, Nat.reduceDiv, Nat.reduceMod, Int.reduceMod, Int.reduceTMod, ne_eq, subA, beq_iff_eq, unA, minA, maxA, eqFs, eqA1, beq_self_eq_true, Nat.reduceBEq, ac_cadenzaref33_Bytes, clA, il]
  refine callD.vc hS' ?_
  simp (config := { maxSteps := 4000000 }) (disch := omega) only [step, stepv, ev, okW, onlyFr, Bool.false_and, Bool.true_and, sealw, wl, wn, wp, aop, cV, cV1, ↓reduceIte, Nat.reduceEqDiff, Nat.reduceAdd, Int.cast_ofNat_Int, if_true, if_false, AV.one, repCells, fillA, partCells, Nat.reduceLT, Nat.reduceLeDiff, Nat.reduceMul, Nat.reduceSub, Int.reduceLT, Int.reduceLE, Int.reduceAdd, Int.reduceSub, Int.reduceMul, Int.reduceToNat, sliceCells, cellsAt, srcA, app, reduceCtorEq, Int.reduceEq, Int.reduceNeg, Int.reducePow, Nat.reducePow, Int.reduceTDiv, Int.reduceDiv, Nat.reduceDiv, Nat.reduceMod, Int.reduceMod, Int.reduceTMod, ne_eq, subA, beq_iff_eq, unA, minA, maxA, eqFs, eqA1, beq_self_eq_true, Nat.reduceBEq]
  refine callD.vc hF' ?_
  simp (config := { maxSteps := 4000000 }) (disch := omega) only [step, stepv, ev, okW, onlyFr, Bool.false_and, Bool.true_and, sealw, wl, wn, wp, aop, cV, cV1, ↓reduceIte, Nat.reduceEqDiff, Nat.reduceAdd, Int.cast_ofNat_Int, if_true, if_false, AV.one, repCells, fillA, partCells, Nat.reduceLT, Nat.reduceLeDiff, Nat.reduceMul, Nat.reduceSub, Int.reduceLT, Int.reduceLE, Int.reduceAdd, Int.reduceSub, Int.reduceMul, Int.reduceToNat, sliceCells, cellsAt, srcA, app, reduceCtorEq, Int.reduceEq, Int.reduceNeg, Int.reducePow, Nat.reducePow, Int.reduceTDiv, Int.reduceDiv, Nat.reduceDiv, Nat.reduceMod, Int.reduceMod, Int.reduceTMod, ne_eq, subA, beq_iff_eq, unA, minA, maxA, eqFs, eqA1, beq_self_eq_true, Nat.reduceBEq, bs]
  refine callD.vc hD' ?_
  simp (config := { maxSteps := 4000000 }) (disch := omega) only [step, stepv, ev, okW, onlyFr, Bool.false_and, Bool.true_and, sealw, wl, wn, wp, aop, cV, cV1, ↓reduceIte, Nat.reduceEqDiff, Nat.reduceAdd, Int.cast_ofNat_Int, if_true, if_false, AV.one, repCells, fillA, partCells, Nat.reduceLT, Nat.reduceLeDiff, Nat.reduceMul, Nat.reduceSub, Int.reduceLT, Int.reduceLE, Int.reduceAdd, Int.reduceSub, Int.reduceMul, Int.reduceToNat, sliceCells, cellsAt, srcA, app, reduceCtorEq, Int.reduceEq, Int.reduceNeg, Int.reducePow, Nat.reducePow, Int.reduceTDiv, Int.reduceDiv, Nat.reduceDiv, Nat.reduceMod, Int.reduceMod, Int.reduceTMod, ne_eq, subA, beq_iff_eq, unA, minA, maxA, eqFs, eqA1, beq_self_eq_true, Nat.reduceBEq, bs, isDL, isD, isDL_u8]
  refine callD.vc hW ?_
  simp (config := { maxSteps := 4000000 }) (disch := omega) only [step, stepv, ev, okW, onlyFr, Bool.false_and, Bool.true_and, sealw, wl, wn, wp, aop, cV, cV1, ↓reduceIte, Nat.reduceEqDiff, Nat.reduceAdd, Int.cast_ofNat_Int, if_true, if_false, AV.one, repCells, fillA, partCells, Nat.reduceLT, Nat.reduceLeDiff, Nat.reduceMul, Nat.reduceSub, Int.reduceLT, Int.reduceLE, Int.reduceAdd, Int.reduceSub, Int.reduceMul, Int.reduceToNat, sliceCells, cellsAt, srcA, app, reduceCtorEq, Int.reduceEq, Int.reduceNeg, Int.reducePow, Nat.reducePow, Int.reduceTDiv, Int.reduceDiv, Nat.reduceDiv, Nat.reduceMod, Int.reduceMod, Int.reduceTMod, ne_eq, subA, beq_iff_eq, unA, minA, maxA, eqFs, eqA1, beq_self_eq_true, Nat.reduceBEq, bs]
  simp [frzN, frzK, frzL, frzV, frzL_T _ (isT_u8 _)]

end Go.Am

namespace Go.Am
open Go.RowKit

def S_WavWrite (P : Prg) (f : Nat) : Prop := ∀ (c x r : Int) (l : List Int), I32 l → l.length ≤ 1000000 → VC P f [clA c x r l] (wavA c x r l)

theorem ref33_Write {P : Prg} {f fC fB t0 : Nat} (bd : Body P f 12 [.tmp 2, .tmp 3] (ac_cadenzaref33_Write fC fB t0)) (hC : S_ClipCheck P fC) (hB : S_Bytes33 P fB) : S_WavWrite P f := by
  intro c x r l hI hl
  refine VC.of_walk 1 (by simp [isDL, isD_clA]) (isD_wavA _ _ _ _) (ACall.of_body bd (by simp) ?_)
  have hC' := hC c x r l hI hl
  rw [il] at hC'
  by_cases h0 : clipN c x r l = 0
  · have hB' := hB c x r l h0
    rw [clA, il] at hB'
    rw [h0] at hC'
    simp only [wavA, h0]
    rw [if_neg (by omega)]
    simp (config := { maxSteps := 4000000 }) (disch := omega) only [step, stepv, ev, okW, onlyFr, Bool.false_and, Bool.true_and, sealw, wl, wn, wp, aop, cV, cV1, ↓reduceIte, Nat.reduceEqDiff, Nat.reduceAdd, Int.cast_ofNat_Int, if_true, if_false, AV.one, repCells, fillA, partCells, Nat.reduceLT, Nat.reduceLeDiff, Nat.reduceMul, Nat.reduceSub, Int.reduceLT, Int.reduceLE, Int.reduceAdd, Int.reduceSub, Int.reduceMul, Int.reduceToNat, sliceCells, cellsAt, srcA, app, reduceCtorEq, Int.reduceEq, Int.reduceNeg, Int.reducePow, Nat.reducePow, Int.reduceTDiv, Int.reduceDiv, Nat.reduceDiv, Nat.reduceMod, Int.reduceMod, Int.reduceTMod, ne_eq, subA, beq_iff_eq, unA, minA, maxA, eqFs, eqA1, beq_self_eq_true, Nat.reduceBEq, ac_cadenzaref33_Write, clA, il]
    refine callQ.vc hC' ?_
    simp (config := { maxSteps := 4000000 }) (disch := omega) only [step, stepv, ev, okW, onlyFr, Bool.false_and, Bool.true_and, sealw, wl, wn, wp, aop, cV, cV1, ↓reduceIte, Nat.reduceEqDiff, Nat.reduceAdd, Int.cast_ofNat_Int, if_true, if_false, AV.one, repCells, fillA, partCells, Nat.reduceLT, Nat.reduceLeDiff, Nat.reduceMul, Nat.reduceSub, Int.reduceLT, Int.reduceLE, Int.reduceAdd, Int.reduceSub, Int.reduceMul, Int.reduceToNat, sliceCells, cellsAt, srcA, app, reduceCtorEq, Int.reduceEq, Int.reduceNeg, Int.reducePow, Nat.reducePow, Int.reduceTDiv, Int.reduceDiv, Nat.reduceDiv, Nat.reduceMod, Int.reduceMod, Int.reduceTMod, ne_eq, subA, beq_iff_eq, unA, minA, maxA, eqFs, eqA1, beq_self_eq_true, Nat.reduceBEq]
    refine callQ.vc hB' ?_
    simp (config := { maxSteps := 4000000 }) (disch := omega) only [step, stepv, ev, okW, onlyFr, Bool.false_and, Bool.true_and, sealw, wl, wn, wp, aop, cV, cV1, ↓reduceIte, Nat.reduceEqDiff, Nat.reduceAdd, Int.cast_ofNat_Int, if_true, if_false, AV.one, repCells, fillA, partCells, Nat.reduceLT, Nat.reduceLeDiff, Nat.reduceMul, Nat.reduceSub, Int.reduceLT, Int.reduceLE, Int.reduceAdd, Int.reduceSub, Int.reduceMul, Int.reduceToNat, sliceCells, cellsAt, srcA, app, reduceCtorEq, Int.reduceEq, Int.reduceNeg, Int.reducePow, Nat.reducePow, Int.reduceTDiv, Int.reduceDiv, Nat.reduceDiv, Nat.reduceMod, Int.reduceMod, Int.reduceTMod, ne_eq, subA, beq_iff_eq, unA, minA, maxA, eqFs, eqA1, beq_self_eq_true, Nat.reduceBEq, bs]
    simp [frzN, frzK, frzL, frzV, frzL_T _ (isT_u8 _)]
  · simp only [wavA]
    rw [if_pos h0]
    simp (config := { maxSteps := 4000000 }) (disch := omega) only [step, stepv, ev, okW, onlyFr, Bool.false_and, Bool.true_and, sealw, wl, wn, wp, aop, cV, cV1, ↓reduceIte, Nat.reduceEqDiff, Nat.reduceAdd, Int.cast_ofNat_Int, if_true, if_false, AV.one, repCells, fillA, partCells, Nat.reduceLT, Nat.reduceLeDiff, Nat.reduceMul, Nat.reduceSub, Int.reduceLT, Int.reduceLE, Int.reduceAdd, Int.reduceSub, Int.reduceMul, Int.reduceToNat, sliceCells, cellsAt, srcA, app, reduceCtorEq, Int.reduceEq, Int.reduceNeg, Int.reducePow, Nat.reducePow, Int.reduceTDiv, Int.reduceDiv, Nat.reduceDiv, Nat.reduceMod, Int.reduceMod, Int.reduceTMod, ne_eq, subA, beq_iff_eq, unA, minA, maxA, eqFs, eqA1, beq_self_eq_true, Nat.reduceBEq, ac_cadenzaref33_Write, clA, il]
    refine callQ.vc hC' ?_
    generalize clipN c x r l = e at *
    simp (config := { maxSteps := 4000000 }) (disch := omega) only [step, stepv, ev, okW, onlyFr, Bool.false_and, Bool.true_and, sealw, wl, wn, wp, aop, cV, cV1, ↓reduceIte, Nat.reduceEqDiff, Nat.reduceAdd, Int.cast_ofNat_Int, if_true, if_false, AV.one, repCells, fillA, partCells, Nat.reduceLT, Nat.reduceLeDiff, Nat.reduceMul, Nat.reduceSub, Int.reduceLT, Int.reduceLE, Int.reduceAdd, Int.reduceSub, Int.reduceMul, Int.reduceToNat, sliceCells, cellsAt, srcA, app, reduceCtorEq, Int.reduceEq, Int.reduceNeg, Int.reducePow, Nat.reducePow, Int.reduceTDiv, Int.reduceDiv, Nat.reduceDiv, Nat.reduceMod, Int.reduceMod, Int.reduceTMod, ne_eq, subA, beq_iff_eq, unA, minA, maxA, eqFs, eqA1, beq_self_eq_true, Nat.reduceBEq]
    simp [frzN, frzK, frzL, frzV]

theorem wav_Write {P : Prg} {f fC fF fW fR t0 t1 : Nat} (bd : Body P f 41 [.tmp 2, .tmp 3] (ac_wav_Write fC fF fW fR t0 t1)) (hC : S_ClipCheck P fC) (hF : S_SWrite P fF) (hW : S_WBytes P fW) (hR : S_Write P fR) : S_WavWrite P f := by
  intro c x r l hI hl
  refine VC.of_walk 1 (by simp [isDL, isD_clA]) (isD_wavA _ _ _ _) (ACall.of_body bd (by simp) ?_)
  have hC' := hC c x r l hI hl
  have hW0 := hW x l hI
  rw [il] at hC' hW0
  by_cases h0 : clipN c x r l = 0
  · obtain ⟨h1, h2, _⟩ := clip_ok h0
    obtain ⟨h3, h4⟩ := wavL_ok h0
    have hF' := hF c x r
    rw [if_pos h1, sndA] at hF'
    rw [if_neg (by omega)] at hW0
    rw [h0] at hC'
    have hR' := hR waveW' (wavL c x r l) (by decide) h3
    rw [writeA, if_pos h4, show bytesM waveW' (wavL c x r l) = wavB c x r l from rfl] at hR'
    simp only [wavL, ckL, List.length_cons, List.length_nil] at hR'
    simp only [wavA, h0]
    rw [if_neg (by omega)]
    generalize formW c x r = F at *
    generalize smpB x l = D at *
    generalize wavB c x r l = W at *
    simp (config := { maxSteps := 4000000 }) (disch := omega) only [step, stepv, ev, okW, onlyFr, Bool.false_and, Bool.true_and, sealw, wl, wn, wp, aop, cV, cV1, ↓reduceIte, Nat.reduceEqDiff, Nat.reduceAdd, Int.cast_ofNat_Int, if_true, if_false, AV.one, repCells, fillA, partCells, Nat.reduceLT, Nat.reduceLeDiff, Nat.reduceMul, Nat.reduceSub, Int.reduceLT, Int.reduceLE, Int.reduceAdd, Int.reduceSub, Int.reduceMul, Int.reduceToNat, sliceCells, cellsAt, srcA, app, reduceCtorEq, Int.reduceEq, Int.reduceNeg, Int.reducePow, Nat.reducePow, Int.reduceTDiv, Int.reduceDiv, Nat.reduceDiv, Nat.reduceMod, Int.reduceMod, Int.reduceTMod, ne_eq, subA, beq_iff_eq, unA, minA, maxA, eqFs, eqA1, beq_self_eq_true, Nat.reduceBEq, ac_wav_Write, clA, il]
    refine callQ.vc hC' ?_
    simp (config := { maxSteps := 4000000 }) (disch := omega) only [step, stepv, ev, okW, onlyFr, Bool.false_and, Bool.true_and, sealw, wl, wn, wp, aop, cV, cV1, ↓reduceIte, Nat.reduceEqDiff, Nat.reduceAdd, Int.cast_ofNat_Int, if_true, if_false, AV.one, repCells, fillA, partCells, Nat.reduceLT, Nat.reduceLeDiff, Nat.reduceMul, Nat.reduceSub, Int.reduceLT, Int.reduceLE, Int.reduceAdd, Int.reduceSub, Int.reduceMul, Int.reduceToNat, sliceCells, cellsAt, srcA, app, reduceCtorEq, Int.reduceEq, Int.reduceNeg, Int.reducePow, Nat.reducePow, Int.reduceTDiv, Int.reduceDiv, Nat.reduceDiv, Nat.reduceMod, Int.reduceMod, Int.reduceTMod, ne_eq, subA, beq_iff_eq, unA, minA, maxA, eqFs, eqA1, beq_self_eq_true, Nat.reduceBEq]
    refine callQ.vc hF' ?_
    simp (config := { maxSteps := 4000000 }) (disch := omega) only [step, stepv, ev, okW, onlyFr, Bool.false_and, Bool.true_and, sealw, wl, wn, wp, aop, cV, cV1, ↓reduceIte, Nat.reduceEqDiff, Nat.reduceAdd, Int.cast_ofNat_Int, if_true, if_false, AV.one, repCells, fillA, partCells, Nat.reduceLT, Nat.reduceLeDiff, Nat.reduceMul, Nat.reduceSub, Int.reduceLT, Int.reduceLE, Int.reduceAdd, Int.reduceSub, Int.reduceMul, Int.reduceToNat, sliceCells, cellsAt, srcA, app, reduceCtorEq, Int.reduceEq, Int.reduceNeg, Int.reducePow, Nat.reducePow, Int.reduceTDiv, Int.reduceDiv, Nat.reduceDiv, Nat.reduceMod, Int.reduceMod, Int.reduceTMod, ne_eq, subA, beq_iff_eq, unA, minA, maxA, eqFs, eqA1, beq_self_eq_true, Nat.reduceBEq]
    refine callQ.vc hW0 ?_
    simp (config := { maxSteps := 4000000 }) (disch := omega) only [step, stepv, ev, okW, onlyFr, Bool.false_and, Bool.true_and, sealw, wl, wn, wp, aop, cV, cV1, ↓reduceIte, Nat.reduceEqDiff, Nat.reduceAdd, Int.cast_ofNat_Int, if_true, if_false, AV.one, repCells, fillA, partCells, Nat.reduceLT, Nat.reduceLeDiff, Nat.reduceMul, Nat.reduceSub, Int.reduceLT, Int.reduceLE, Int.reduceAdd, Int.reduceSub, Int.reduceMul, Int.reduceToNat, sliceCells, cellsAt, srcA, app, reduceCtorEq, Int.reduceEq, Int.reduceNeg, Int.reducePow, Nat.reducePow, Int.reduceTDiv, Int.reduceDiv, Nat.reduceDiv, Nat.reduceMod, Int.reduceMod, Int.reduceTMod, ne_eq, subA, beq_iff_eq, unA, minA, maxA, eqFs, eqA1, beq_self_eq_true, Nat.reduceBEq, bs]
    refine callQ.still 1 [1] hR' ?_ ?_
    · simp [frzN, frzK, frzL, frzV, frzL_T _ (isT_u8 _), isDL, isD, isDL_u8, bs, fmtW, dataW, waveW']
    simp (config := { maxSteps := 4000000 }) (disch := omega) only [step, stepv, ev, okW, onlyFr, Bool.false_and, Bool.true_and, sealw, wl, wn, wp, aop, cV, cV1, ↓reduceIte, Nat.reduceEqDiff, Nat.reduceAdd, Int.cast_ofNat_Int, if_true, if_false, AV.one, repCells, fillA, partCells, Nat.reduceLT, Nat.reduceLeDiff, Nat.reduceMul, Nat.reduceSub, Int.reduceLT, Int.reduceLE, Int.reduceAdd, Int.reduceSub, Int.reduceMul, Int.reduceToNat, sliceCells, cellsAt, srcA, app, reduceCtorEq, Int.reduceEq, Int.reduceNeg, Int.reducePow, Nat.reducePow, Int.reduceTDiv, Int.reduceDiv, Nat.reduceDiv, Nat.reduceMod, Int.reduceMod, Int.reduceTMod, ne_eq, subA, beq_iff_eq, unA, minA, maxA, eqFs, eqA1, beq_self_eq_true, Nat.reduceBEq, bs]
    simp [frzN, frzK, frzL, frzV, frzL_T _ (isT_u8 _)]
  · simp only [wavA]
    rw [if_pos h0]
    simp (config := { maxSteps := 4000000 }) (disch := omega) only [step, stepv, ev, okW, onlyFr, Bool.false_and, Bool.true_and, sealw, wl, wn, wp, aop, cV, cV1, ↓reduceIte, Nat.reduceEqDiff, Nat.reduceAdd, Int.cast_ofNat_Int, if_true, if_false, AV.one, repCells, fillA, partCells, Nat.reduceLT, Nat.reduceLeDiff, Nat.reduceMul, Nat.reduceSub, Int.reduceLT, Int.reduceLE, Int.reduceAdd, Int.reduceSub, Int.reduceMul, Int.reduceToNat, sliceCells, cellsAt, srcA, app, reduceCtorEq, Int.reduceEq, Int.reduceNeg, Int.reducePow, Nat.reducePow, Int.reduceTDiv, Int.reduceDiv, Nat.reduceDiv, Nat.reduceMod, Int.reduceMod, Int.reduceTMod, ne_eq, subA, beq_iff_eq, unA, minA, maxA, eqFs, eqA1, beq_self_eq_true, Nat.reduceBEq, ac_wav_Write, clA, il]
    refine callQ.vc hC' ?_
    generalize clipN c x r l = e at *
    simp (config := { maxSteps := 4000000 }) (disch := omega) only [step, stepv, ev, okW, onlyFr, Bool.false_and, Bool.true_and, sealw, wl, wn, wp, aop, cV, cV1, ↓reduceIte, Nat.reduceEqDiff, Nat.reduceAdd, Int.cast_ofNat_Int, if_true, if_false, AV.one, repCells, fillA, partCells, Nat.reduceLT, Nat.reduceLeDiff, Nat.reduceMul, Nat.reduceSub, Int.reduceLT, Int.reduceLE, Int.reduceAdd, Int.reduceSub, Int.reduceMul, Int.reduceToNat, sliceCells, cellsAt, srcA, app, reduceCtorEq, Int.reduceEq, Int.reduceNeg, Int.reducePow, Nat.reducePow, Int.reduceTDiv, Int.reduceDiv, Nat.reduceDiv, Nat.reduceMod, Int.reduceMod, Int.reduceTMod, ne_eq, subA, beq_iff_eq, unA, minA, maxA, eqFs, eqA1, beq_self_eq_true, Nat.reduceBEq]
    simp [frzN, frzK, frzL, frzV]

def sizeWA (c x r : Int) (l : List Int) : AV := if clipN c x r l ≠ 0 then .tup [.int .i64 0, .int .i64 (clipN c x r l)] else .tup [.int .i64 (wavB c x r l).length, .int .i64 0]
def S_WavSize (P : Prg) (f : Nat) : Prop := ∀ (c x r : Int) (l : List Int), I32 l → l.length ≤ 1000000 → VC P f [clA c x r l] (sizeWA c x r l)
theorem wav_Size {P : Prg} {f fW t0 : Nat} (bd : Body P f 14 [.tmp 2, .tmp 3] (ac_wav_Size fW t0)) (hW : S_WavWrite P fW) : S_WavSize P f := by
  intro c x r l hI hl
  refine VC.of_acall (by simp [isDL, isD_clA]) (by unfold sizeWA; split <;> rfl) (ACall.of_body bd (by simp) ?_)
  have hW' := hW c x r l hI hl
  rw [clA, il] at hW'
  unfold wavA at hW'
  unfold sizeWA
  by_cases h0 : clipN c x r l = 0
  · rw [if_neg (by omega)] at hW' ⊢
    simp (config := { maxSteps := 4000000 }) (disch := omega) only [step, stepv, ev, okW, onlyFr, Bool.false_and, Bool.true_and, sealw, wl, wn, wp, aop, cV, cV1, ↓reduceIte, Nat.reduceEqDiff, Nat.reduceAdd, Int.cast_ofNat_Int, if_true, if_false, AV.one, repCells, fillA, partCells, Nat.reduceLT, Nat.reduceLeDiff, Nat.reduceMul, Nat.reduceSub, Int.reduceLT, Int.reduceLE, Int.reduceAdd, Int.reduceSub, Int.reduceMul, Int.reduceToNat, sliceCells, cellsAt, srcA, app, reduceCtorEq, Int.reduceEq, Int.reduceNeg, Int.reducePow, Nat.reducePow, Int.reduceTDiv, Int.reduceDiv, Nat.reduceDiv, Nat.reduceMod, Int.reduceMod, Int.reduceTMod, ne_eq, subA, beq_iff_eq, unA, minA, maxA, eqFs, eqA1, beq_self_eq_true, Nat.reduceBEq, ac_wav_Size, clA, il]
    refine callQ.vc hW' ?_
    simp (config := { maxSteps := 4000000 }) (disch := omega) only [step, stepv, ev, okW, onlyFr, Bool.false_and, Bool.true_and, sealw, wl, wn, wp, aop, cV, cV1, ↓reduceIte, Nat.reduceEqDiff, Nat.reduceAdd, Int.cast_ofNat_Int, if_true, if_false, AV.one, repCells, fillA, partCells, Nat.reduceLT, Nat.reduceLeDiff, Nat.reduceMul, Nat.reduceSub, Int.reduceLT, Int.reduceLE, Int.reduceAdd, Int.reduceSub, Int.reduceMul, Int.reduceToNat, sliceCells, cellsAt, srcA, app, reduceCtorEq, Int.reduceEq, Int.reduceNeg, Int.reducePow, Nat.reducePow, Int.reduceTDiv, Int.reduceDiv, Nat.reduceDiv, Nat.reduceMod, Int.reduceMod, Int.reduceTMod, ne_eq, subA, beq_iff_eq, unA, minA, maxA, eqFs, eqA1, beq_self_eq_true, Nat.reduceBEq, bs]
  · rw [if_pos h0] at hW' ⊢
    simp (config := { maxSteps := 4000000 }) (disch := omega) only [step, stepv, ev, okW, onlyFr, Bool.false_and, Bool.true_and, sealw, wl, wn, wp, aop, cV, cV1, ↓reduceIte, Nat.reduceEqDiff, Nat.reduceAdd, Int.cast_ofNat_Int, if_true, if_false, AV.one, repCells, fillA, partCells, Nat.reduceLT, Nat.reduceLeDiff, Nat.reduceMul, Nat.reduceSub, Int.reduceLT, Int.reduceLE, Int.reduceAdd, Int.reduceSub, Int.reduceMul, Int.reduceToNat, sliceCells, cellsAt, srcA, app, reduceCtorEq, Int.reduceEq, Int.reduceNeg, Int.reducePow, Nat.reducePow, Int.reduceTDiv, Int.reduceDiv, Nat.reduceDiv, Nat.reduceMod, Int.reduceMod, Int.reduceTMod, ne_eq, subA, beq_iff_eq, unA, minA, maxA, eqFs, eqA1, beq_self_eq_true, Nat.reduceBEq, ac_wav_Size, clA, il]
    refine callQ.vc hW' ?_
    simp (config := { maxSteps := 4000000 }) (disch := omega) only [step, stepv, ev, okW, onlyFr, Bool.false_and, Bool.true_and, sealw, wl, wn, wp, aop, cV, cV1, ↓reduceIte, Nat.reduceEqDiff, Nat.reduceAdd, Int.cast_ofNat_Int, if_true, if_false, AV.one, repCells, fillA, partCells, Nat.reduceLT, Nat.reduceLeDiff, Nat.reduceMul, Nat.reduceSub, Int.reduceLT, Int.reduceLE, Int.reduceAdd, Int.reduceSub, Int.reduceMul, Int.reduceToNat, sliceCells, cellsAt, srcA, app, reduceCtorEq, Int.reduceEq, Int.reduceNeg, Int.reducePow, Nat.reducePow, Int.reduceTDiv, Int.reduceDiv, Nat.reduceDiv, Nat.reduceMod, Int.reduceMod, Int.reduceTMod, ne_eq, subA, beq_iff_eq, unA, minA, maxA, eqFs, eqA1, beq_self_eq_true, Nat.reduceBEq, bs]
theorem ref33_Size {P : Prg} {f fW t0 : Nat} (bd : Body P f 14 [.tmp 2, .tmp 3] (ac_cadenzaref33_Size fW t0)) (hW : S_WavWrite P fW) : S_WavSize P f := by
  intro c x r l hI hl
  refine VC.of_acall (by simp [isDL, isD_clA]) (by unfold sizeWA; split <;> rfl) (ACall.of_body bd (by simp) ?_)
  have hW' := hW c x r l hI hl
  rw [clA, il] at hW'
  unfold wavA at hW'
  unfold sizeWA
  by_cases h0 : clipN c x r l = 0
  · rw [if_neg (by omega)] at hW' ⊢
    simp (config := { maxSteps := 4000000 }) (disch := omega) only [step, stepv, ev, okW, onlyFr, Bool.false_and, Bool.true_and, sealw, wl, wn, wp, aop, cV, cV1, ↓reduceIte, Nat.reduceEqDiff, Nat.reduceAdd, Int.cast_ofNat_Int, if_true, if_false, AV.one, repCells, fillA, partCells, Nat.reduceLT, Nat.reduceLeDiff, Nat.reduceMul, Nat.reduceSub, Int.reduceLT, Int.reduceLE, Int.reduceAdd, Int.reduceSub, Int.reduceMul, Int.reduceToNat, sliceCells, cellsAt, srcA, app, reduceCtorEq, Int.reduceEq, Int.reduceNeg, Int.reducePow, Nat.reducePow, Int.reduceTDiv, Int.reduceDiv, Nat.reduceDiv, Nat.reduceMod, Int.reduceMod, Int.reduceTMod, ne_eq, subA, beq_iff_eq, unA, minA, maxA, eqFs, eqA1, beq_self_eq_true, Nat.reduceBEq, ac_cadenzaref33_Size, clA, il]
    refine callQ.vc hW' ?_
    simp (config := { maxSteps := 4000000 }) (disch := omega) only [step, stepv, ev, okW, onlyFr, Bool.false_and, Bool.true_and, sealw, wl, wn, wp, aop, cV, cV1, ↓reduceIte, Nat.reduceEqDiff, Nat.reduceAdd, Int.cast_ofNat_Int, if_true, if_false, AV.one, repCells, fillA, partCells, Nat.reduceLT, Nat.reduceLeDiff, Nat.reduceMul, Nat.reduceSub, Int.reduceLT, Int.reduceLE, Int.reduceAdd, Int.reduceSub, Int.reduceMul, Int.reduceToNat, sliceCells, cellsAt, srcA, app, reduceCtorEq, Int.reduceEq, Int.reduceNeg, Int.reducePow, Nat.reducePow, Int.reduceTDiv, Int.reduceDiv, Nat.reduceDiv, Nat.reduceMod, Int.reduceMod, Int.reduceTMod, ne_eq, subA, beq_iff_eq, unA, minA, maxA, eqFs, eqA1, beq_self_eq_true, Nat.reduceBEq, bs]
  · rw [if_pos h0] at hW' ⊢
    simp (config := { maxSteps := 4000000 }) (disch := omega) only [step, stepv, ev, okW, onlyFr, Bool.false_and, Bool.true_and, sealw, wl, wn, wp, aop, cV, cV1, ↓reduceIte, Nat.reduceEqDiff, Nat.reduceAdd, Int.cast_ofNat_Int, if_true, if_false, AV.one, repCells, fillA, partCells, Nat.reduceLT, Nat.reduceLeDiff, Nat.reduceMul, Nat.reduceSub, Int.reduceLT, Int.reduceLE, Int.reduceAdd, Int.reduceSub, Int.reduceMul, Int.reduceToNat, sliceCells, cellsAt, srcA, app, reduceCtorEq, Int.reduceEq, Int.reduceNeg, Int.reducePow, Nat.reducePow, Int.reduceTDiv, Int.reduceDiv, Nat.reduceDiv, Nat.reduceMod, Int.reduceMod, Int.reduceTMod, ne_eq, subA, beq_iff_eq, unA, minA, maxA, eqFs, eqA1, beq_self_eq_true, Nat.reduceBEq, ac_cadenzaref33_Size, clA, il]
    refine callQ.vc hW' ?_
    simp (config := { maxSteps := 4000000 }) (disch := omega) only [step, stepv, ev, okW, onlyFr, Bool.false_and, Bool.true_and, sealw, wl, wn, wp, aop, cV, cV1, ↓reduceIte, Nat.reduceEqDiff, Nat.reduceAdd, Int.cast_ofNat_Int, if_true, if_false, AV.one, repCells, fillA, partCells, Nat.reduceLT, Nat.reduceLeDiff, Nat.reduceMul, Nat.reduceSub, Int.reduceLT, Int.reduceLE, Int.reduceAdd, Int.reduceSub, Int.reduceMul, Int.reduceToNat, sliceCells, cellsAt, srcA, app, reduceCtorEq, Int.reduceEq, Int.reduceNeg, Int.reducePow, Nat.reducePow, Int.reduceTDiv, Int.reduceDiv, Nat.reduceDiv, Nat.reduceMod, Int.reduceMod, Int.reduceTMod, ne_eq, subA, beq_iff_eq, unA, minA, maxA, eqFs, eqA1, beq_self_eq_true, Nat.reduceBEq, bs]

def S_Same33 (P : Prg) (f : Nat) : Prop := ∀ (c x r c' x' r' : Int) (l l' : List Int), l.length ≤ 1000000 → l'.length ≤ 1000000 → VC P f [clA c x r l, clA c' x' r' l'] (.bool (decide (c = c' ∧ x = x' ∧ r = r' ∧ l = l')))

def S_Large25 (P : Prg) (f : Nat) : Prop := ∀ (c x r : Int) (l : List Int), VC P f [clA c x r l] (.bool (decide (300 < l.length) && decide (l.length ≤ 4000) || decide (4010 < l.length)))
theorem ref25_Large {P : Prg} {f t0 : Nat} (bd : Body P f 19 [.tmp 2] (ac_cadenzaref25_Large t0)) : S_Large25 P f := by
  intro c x r l
  refine VC.of_acall (by simp [isDL, isD_clA]) rfl (ACall.of_body bd (by simp) ?_)
  by_cases h1 : 300 < l.length
  · by_cases h2 : l.length ≤ 4000
    · have e : (decide (300 < l.length) && decide (l.length ≤ 4000) || decide (4010 < l.length)) = true := by simp [h1, h2]
      simp (config := { maxSteps := 4000000 }) (disch := omega) only [step, stepv, ev, okW, onlyFr, Bool.false_and, Bool.true_and, sealw, wl, wn, wp, aop, cV, cV1, ↓reduceIte, Nat.reduceEqDiff, Nat.reduceAdd, Int.cast_ofNat_Int, if_true, if_false, AV.one, repCells, fillA, partCells, Nat.reduceLT, Nat.reduceLeDiff, Nat.reduceMul, Nat.reduceSub, Int.reduceLT, Int.reduceLE, Int.reduceAdd, Int.reduceSub, Int.reduceMul, Int.reduceToNat, sliceCells, cellsAt, srcA, app, reduceCtorEq, Int.reduceEq, Int.reduceNeg, Int.reducePow, Nat.reducePow, Int.reduceTDiv, Int.reduceDiv, Nat.reduceDiv, Nat.reduceMod, Int.reduceMod, Int.reduceTMod, ne_eq, subA, beq_iff_eq, unA, minA, maxA, eqFs, eqA1, beq_self_eq_true, Nat.reduceBEq, ac_cadenzaref25_Large, clA, il, e]
    · by_cases h3 : 4010 < l.length
      · have e : (decide (300 < l.length) && decide (l.length ≤ 4000) || decide (4010 < l.length)) = true := by simp [h3]
        simp (config := { maxSteps := 4000000 }) (disch := omega) only [step, stepv, ev, okW, onlyFr, Bool.false_and, Bool.true_and, sealw, wl, wn, wp, aop, cV, cV1, ↓reduceIte, Nat.reduceEqDiff, Nat.reduceAdd, Int.cast_ofNat_Int, if_true, if_false, AV.one, repCells, fillA, partCells, Nat.reduceLT, Nat.reduceLeDiff, Nat.reduceMul, Nat.reduceSub, Int.reduceLT, Int.reduceLE, Int.reduceAdd, Int.reduceSub, Int.reduceMul, Int.reduceToNat, sliceCells, cellsAt, srcA, app, reduceCtorEq, Int.reduceEq, Int.reduceNeg, Int.reducePow, Nat.reducePow, Int.reduceTDiv, Int.reduceDiv, Nat.reduceDiv, Nat.reduceMod, Int.reduceMod, Int.reduceTMod, ne_eq, subA, beq_iff_eq, unA, minA, maxA, eqFs, eqA1, beq_self_eq_true, Nat.reduceBEq, ac_cadenzaref25_Large, clA, il, e]
      · have e : (decide (300 < l.length) && decide (l.length ≤ 4000) || decide (4010 < l.length)) = false := by simp; omega
        simp (config := { maxSteps := 4000000 }) (disch := omega) only [step, stepv, ev, okW, onlyFr, Bool.false_and, Bool.true_and, sealw, wl, wn, wp, aop, cV, cV1, ↓reduceIte, Nat.reduceEqDiff, Nat.reduceAdd, Int.cast_ofNat_Int, if_true, if_false, AV.one, repCells, fillA, partCells, Nat.reduceLT, Nat.reduceLeDiff, Nat.reduceMul, Nat.reduceSub, Int.reduceLT, Int.reduceLE, Int.reduceAdd, Int.reduceSub, Int.reduceMul, Int.reduceToNat, sliceCells, cellsAt, srcA, app, reduceCtorEq, Int.reduceEq, Int.reduceNeg, Int.reducePow, Nat.reducePow, Int.reduceTDiv, Int.reduceDiv, Nat.reduceDiv, Nat.reduceMod, Int.reduceMod, Int.reduceTMod, ne_eq, subA, beq_iff_eq, unA, minA, maxA, eqFs, eqA1, beq_self_eq_true, Nat.reduceBEq, ac_cadenzaref25_Large, clA, il, e]
  · have e : (decide (300 < l.length) && decide (l.length ≤ 4000) || decide (4010 < l.length)) = false := by simp; omega
    simp (config := { maxSteps := 4000000 }) (disch := omega) only [step, stepv, ev, okW, onlyFr, Bool.false_and, Bool.true_and, sealw, wl, wn, wp, aop, cV, cV1, ↓reduceIte, Nat.reduceEqDiff, Nat.reduceAdd, Int.cast_ofNat_Int, if_true, if_false, AV.one, repCells, fillA, partCells, Nat.reduceLT, Nat.reduceLeDiff, Nat.reduceMul, Nat.reduceSub, Int.reduceLT, Int.reduceLE, Int.reduceAdd, Int.reduceSub, Int.reduceMul, Int.reduceToNat, sliceCells, cellsAt, srcA, app, reduceCtorEq, Int.reduceEq, Int.reduceNeg, Int.reducePow, Nat.reducePow, Int.reduceTDiv, Int.reduceDiv, Nat.reduceDiv, Nat.reduceMod, Int.reduceMod, Int.reduceTMod, ne_eq, subA, beq_iff_eq, unA, minA, maxA, eqFs, eqA1, beq_self_eq_true, Nat.reduceBEq, ac_cadenzaref25_Large, clA, il, e]

def S_Twin33 (P : Prg) (f : Nat) : Prop := ∀ (c x r : Int) (l : List Int), l.length ≤ 1000000 → VC P f [clA c x r l] (clA c x r l)
theorem ref33_Twin {P : Prg} {f t0 t1 : Nat} (bd : Body P f 9 [.cell 2 t0] (ac_cadenzaref33_Twin t0 t1)) (ht : aggO P t0 = some (some 4)) : S_Twin33 P f := by
  intro c x r l hl
  refine VC.of_walk 2 (by simp [isDL, isD_clA]) (isD_clA _ _ _ _) (ACall.of_body bd (by simp) ?_)
  have hk := ks_length .i32 l
  simp (config := { maxSteps := 4000000 }) (disch := omega) only [step, stepv, ev, okW, onlyFr, Bool.false_and, Bool.true_and, sealw, wl, wn, wp, aop, cV, cV1, ↓reduceIte, Nat.reduceEqDiff, Nat.reduceAdd, Int.cast_ofNat_Int, if_true, if_false, AV.one, repCells, fillA, partCells, Nat.reduceLT, Nat.reduceLeDiff, Nat.reduceMul, Nat.reduceSub, Int.reduceLT, Int.reduceLE, Int.reduceAdd, Int.reduceSub, Int.reduceMul, Int.reduceToNat, sliceCells, cellsAt, srcA, app, reduceCtorEq, Int.reduceEq, Int.reduceNeg, Int.reducePow, Nat.reducePow, Int.reduceTDiv, Int.reduceDiv, Nat.reduceDiv, Nat.reduceMod, Int.reduceMod, Int.reduceTMod, ne_eq, subA, beq_iff_eq, unA, minA, maxA, eqFs, eqA1, beq_self_eq_true, Nat.reduceBEq, ac_cadenzaref33_Twin, clA, il, hk, resA, ht, oneOf]
  simp [frzN, frzK, frzL, frzV, frzL_T _ (isTL_ks _ _)]

end Go.Am

namespace Go.Am
open Go.RowKit

set_option maxRecDepth 20000 in
theorem ref33_Same {P : Prg} {f t0 : Nat} (bd : Body P f 52 [.tmp 4] (ac_cadenzaref33_Same t0)) : S_Same33 P f := by
  intro c x r c' x' r' l l' hl hl'
  refine VC.of_acall (by simp [isDL, isD_clA]) rfl (ACall.of_body bd (by simp) ?_)
  have hk := ks_length .i32 l
  have hk' := ks_length .i32 l'
  by_cases h1 : c = c'
  case neg =>
    have e : decide (c = c' ∧ x = x' ∧ r = r' ∧ l = l') = false := by simp [h1]
    simp (config := { maxSteps := 4000000 }) (disch := omega) only [step, stepv, ev, okW, onlyFr, Bool.false_and, Bool.true_and, sealw, wl, wn, wp, aop, cV, cV1, ↓reduceIte, Nat.reduceEqDiff, Nat.reduceAdd, Int.cast_ofNat_Int, if_true, if_false, AV.one, repCells, fillA, partCells, Nat.reduceLT, Nat.reduceLeDiff, Nat.reduceMul, Nat.reduceSub, Int.reduceLT, Int.reduceLE, Int.reduceAdd, Int.reduceSub, Int.reduceMul, Int.reduceToNat, sliceCells, cellsAt, srcA, app, reduceCtorEq, Int.reduceEq, Int.reduceNeg, Int.reducePow, Nat.reducePow, Int.reduceTDiv, Int.reduceDiv, Nat.reduceDiv, Nat.reduceMod, Int.reduceMod, Int.reduceTMod, ne_eq, subA, beq_iff_eq, unA, minA, maxA, eqFs, eqA1, beq_self_eq_true, Nat.reduceBEq, ac_cadenzaref33_Same, clA, il, e]
  by_cases h2 : x = x'
  case neg =>
    have e : decide (c = c' ∧ x = x' ∧ r = r' ∧ l = l') = false := by simp [h2]
    simp (config := { maxSteps := 4000000 }) (disch := omega) only [step, stepv, ev, okW, onlyFr, Bool.false_and, Bool.true_and, sealw, wl, wn, wp, aop, cV, cV1, ↓reduceIte, Nat.reduceEqDiff, Nat.reduceAdd, Int.cast_ofNat_Int, if_true, if_false, AV.one, repCells, fillA, partCells, Nat.reduceLT, Nat.reduceLeDiff, Nat.reduceMul, Nat.reduceSub, Int.reduceLT, Int.reduceLE, Int.reduceAdd, Int.reduceSub, Int.reduceMul, Int.reduceToNat, sliceCells, cellsAt, srcA, app, reduceCtorEq, Int.reduceEq, Int.reduceNeg, Int.reducePow, Nat.reducePow, Int.reduceTDiv, Int.reduceDiv, Nat.reduceDiv, Nat.reduceMod, Int.reduceMod, Int.reduceTMod, ne_eq, subA, beq_iff_eq, unA, minA, maxA, eqFs, eqA1, beq_self_eq_true, Nat.reduceBEq, ac_cadenzaref33_Same, clA, il, e]
  by_cases h3 : r = r'
  case neg =>
    have e : decide (c = c' ∧ x = x' ∧ r = r' ∧ l = l') = false := by simp [h3]
    simp (config := { maxSteps := 4000000 }) (disch := omega) only [step, stepv, ev, okW, onlyFr, Bool.false_and, Bool.true_and, sealw, wl, wn, wp, aop, cV, cV1, ↓reduceIte, Nat.reduceEqDiff, Nat.reduceAdd, Int.cast_ofNat_Int, if_true, if_false, AV.one, repCells, fillA, partCells, Nat.reduceLT, Nat.reduceLeDiff, Nat.reduceMul, Nat.reduceSub, Int.reduceLT, Int.reduceLE, Int.reduceAdd, Int.reduceSub, Int.reduceMul, Int.reduceToNat, sliceCells, cellsAt, srcA, app, reduceCtorEq, Int.reduceEq, Int.reduceNeg, Int.reducePow, Nat.reducePow, Int.reduceTDiv, Int.reduceDiv, Nat.reduceDiv, Nat.reduceMod, Int.reduceMod, Int.reduceTMod, ne_eq, subA, beq_iff_eq, unA, minA, maxA, eqFs, eqA1, beq_self_eq_true, Nat.reduceBEq, ac_cadenzaref33_Same, clA, il, e]
  subst h1; subst h2; subst h3
  have e0 : decide (c = c ∧ x = x ∧ r = r ∧ l = l') = decide (l = l') := by simp
  rw [e0]
  by_cases h4 : l.length = l'.length
  case neg =>
    have e : decide (l = l') = false := by simp; exact fun h => h4 (by rw [h])
    simp (config := { maxSteps := 4000000 }) (disch := omega) only [step, stepv, ev, okW, onlyFr, Bool.false_and, Bool.true_and, sealw, wl, wn, wp, aop, cV, cV1, ↓reduceIte, Nat.reduceEqDiff, Nat.reduceAdd, Int.cast_ofNat_Int, if_true, if_false, AV.one, repCells, fillA, partCells, Nat.reduceLT, Nat.reduceLeDiff, Nat.reduceMul, Nat.reduceSub, Int.reduceLT, Int.reduceLE, Int.reduceAdd, Int.reduceSub, Int.reduceMul, Int.reduceToNat, sliceCells, cellsAt, srcA, app, reduceCtorEq, Int.reduceEq, Int.reduceNeg, Int.reducePow, Nat.reducePow, Int.reduceTDiv, Int.reduceDiv, Nat.reduceDiv, Nat.reduceMod, Int.reduceMod, Int.reduceTMod, ne_eq, subA, beq_iff_eq, unA, minA, maxA, eqFs, eqA1, beq_self_eq_true, Nat.reduceBEq, ac_cadenzaref33_Same, clA, il, e]
  simp (config := { maxSteps := 4000000 }) (disch := omega) only [step, stepv, ev, okW, onlyFr, Bool.false_and, Bool.true_and, sealw, wl, wn, wp, aop, cV, cV1, ↓reduceIte, Nat.reduceEqDiff, Nat.reduceAdd, Int.cast_ofNat_Int, if_true, if_false, AV.one, repCells, fillA, partCells, Nat.reduceLT, Nat.reduceLeDiff, Nat.reduceMul, Nat.reduceSub, Int.reduceLT, Int.reduceLE, Int.reduceAdd, Int.reduceSub, Int.reduceMul, Int.reduceToNat, sliceCells, cellsAt, srcA, app, reduceCtorEq, Int.reduceEq, Int.reduceNeg, Int.reducePow, Nat.reducePow, Int.reduceTDiv, Int.reduceDiv, Nat.reduceDiv, Nat.reduceMod, Int.reduceMod, Int.reduceTMod, ne_eq, subA, beq_iff_eq, unA, minA, maxA, eqFs, eqA1, beq_self_eq_true, Nat.reduceBEq, ac_cadenzaref33_Same, clA, il]
  refine ALoop.by (ι := Nat) (fun k => ⟨[(5, .int .i64 k), (2, .ref 0 1 0), (3, .ref 1 1 0)], [⟨t0, 4, 1, [.int .i64 c, .int .i64 x, .int .i64 r, .list l.length (ks .i32 l)], 0⟩, ⟨t0, 4, 1, [.int .i64 c, .int .i64 x, .int .i64 r, .list l'.length (ks .i32 l')], 0⟩]⟩) (fun k => k ≤ l.length ∧ l.take k = l'.take k) (fun k => l.length - k) 0 (Le.slots (by simp [Am.look])) ⟨by omega, by simp⟩ ?_
  rintro k ⟨hk1, hk2⟩
  by_cases hlt : k < l.length
  · have d1 := drop_ks (K := .i32) hlt
    have d2 := drop_ks (K := .i32) (l := l') (k := k) (by omega)
    by_cases he : l[k] = l'[k]'(by omega)
    · rw [← he] at d2
      have e5 : l.take (k + 1) = l'.take (k + 1) := by
        rw [List.take_succ_eq_append_getElem hlt, List.take_succ_eq_append_getElem (by omega : k < l'.length), hk2, he]
      simp (config := { maxSteps := 4000000 }) (disch := omega) only [step, stepv, ev, okW, onlyFr, Bool.false_and, Bool.true_and, sealw, wl, wn, wp, aop, cV, cV1, ↓reduceIte, Nat.reduceEqDiff, Nat.reduceAdd, Int.cast_ofNat_Int, if_true, if_false, AV.one, repCells, fillA, partCells, Nat.reduceLT, Nat.reduceLeDiff, Nat.reduceMul, Nat.reduceSub, Int.reduceLT, Int.reduceLE, Int.reduceAdd, Int.reduceSub, Int.reduceMul, Int.reduceToNat, sliceCells, cellsAt, srcA, app, reduceCtorEq, Int.reduceEq, Int.reduceNeg, Int.reducePow, Nat.reducePow, Int.reduceTDiv, Int.reduceDiv, Nat.reduceDiv, Nat.reduceMod, Int.reduceMod, Int.reduceTMod, ne_eq, subA, beq_iff_eq, unA, minA, maxA, eqFs, eqA1, beq_self_eq_true, Nat.reduceBEq, hk, hk', d1, d2]
      exact ⟨k + 1, ⟨by omega, e5⟩, by omega, Le.slots (by simp [Am.look])⟩
    · have e : decide (l = l') = false := by
        simp
        intro h
        subst h
        exact he rfl
      rw [e]
      have he' : (l[k] = l'[k]'(by omega)) = False := eq_false he
      simp (config := { maxSteps := 4000000 }) (disch := omega) only [step, stepv, ev, okW, onlyFr, Bool.false_and, Bool.true_and, sealw, wl, wn, wp, aop, cV, cV1, ↓reduceIte, Nat.reduceEqDiff, Nat.reduceAdd, Int.cast_ofNat_Int, if_true, if_false, AV.one, repCells, fillA, partCells, Nat.reduceLT, Nat.reduceLeDiff, Nat.reduceMul, Nat.reduceSub, Int.reduceLT, Int.reduceLE, Int.reduceAdd, Int.reduceSub, Int.reduceMul, Int.reduceToNat, sliceCells, cellsAt, srcA, app, reduceCtorEq, Int.reduceEq, Int.reduceNeg, Int.reducePow, Nat.reducePow, Int.reduceTDiv, Int.reduceDiv, Nat.reduceDiv, Nat.reduceMod, Int.reduceMod, Int.reduceTMod, ne_eq, subA, beq_iff_eq, unA, minA, maxA, eqFs, eqA1, beq_self_eq_true, Nat.reduceBEq, hk, hk', d1, d2, he']
  · have ek : k = l.length := by omega
    subst ek
    have e : decide (l = l') = true := by
      simp
      rw [List.take_length, h4, List.take_length] at hk2
      exact hk2
    rw [e]
    simp (config := { maxSteps := 4000000 }) (disch := omega) only [step, stepv, ev, okW, onlyFr, Bool.false_and, Bool.true_and, sealw, wl, wn, wp, aop, cV, cV1, ↓reduceIte, Nat.reduceEqDiff, Nat.reduceAdd, Int.cast_ofNat_Int, if_true, if_false, AV.one, repCells, fillA, partCells, Nat.reduceLT, Nat.reduceLeDiff, Nat.reduceMul, Nat.reduceSub, Int.reduceLT, Int.reduceLE, Int.reduceAdd, Int.reduceSub, Int.reduceMul, Int.reduceToNat, sliceCells, cellsAt, srcA, app, reduceCtorEq, Int.reduceEq, Int.reduceNeg, Int.reducePow, Nat.reducePow, Int.reduceTDiv, Int.reduceDiv, Nat.reduceDiv, Nat.reduceMod, Int.reduceMod, Int.reduceTMod, ne_eq, subA, beq_iff_eq, unA, minA, maxA, eqFs, eqA1, beq_self_eq_true, Nat.reduceBEq, hk, hk']

end Go.Am

namespace Go.Am
open Go.RowKit

end Go.Am

namespace Go.Am
open Go.RowKit

end Go.Am

namespace Go.Am
open Go.RowKit

end Go.Am

namespace Go.Am
open Go.RowKit

end Go.Am

namespace Go.Am
open Go.RowKit

def S_LawClip (P : Prg) (f : Nat) : Prop := ∀ (c x r : Int) (l : List Int), I32 l → VC P f [clA c x r l] (.bool true)

theorem u8_eq (a : List UInt8) : (a == a) = true := by simp

set_option maxRecDepth 20000 in
theorem law33_WavWrites {P : Prg} {f fL fT fW gW fS gS fE t0 : Nat} (bd : Body P f 61 [.tmp 2] (ac_cadenzalaw33_WavWrites fL fT fW gW fS gS fE t0)) (hL : S_Large25 P fL) (hT : S_Twin33 P fT) (hW : S_WavWrite P fW) (hW2 : S_WavWrite P gW) (hS : S_WavSize P fS) (hS2 : S_WavSize P gS) (hE : S_Same33 P fE) : S_LawClip P f := by
  intro c x r l hI
  refine VC.of_acall (by simp [isDL, isD_clA]) rfl (ACall.of_body bd (by simp) ?_)
  have hL' := hL c x r l
  rw [clA, il] at hL'
  simp (config := { maxSteps := 4000000 }) (disch := omega) only [step, stepv, ev, okW, onlyFr, Bool.false_and, Bool.true_and, sealw, wl, wn, wp, aop, cV, cV1, ↓reduceIte, Nat.reduceEqDiff, Nat.reduceAdd, Int.cast_ofNat_Int, if_true, if_false, AV.one, repCells, fillA, partCells, Nat.reduceLT, Nat.reduceLeDiff, Nat.reduceMul, Nat.reduceSub, Int.reduceLT, Int.reduceLE, Int.reduceAdd, Int.reduceSub, Int.reduceMul, Int.reduceToNat, sliceCells, cellsAt, srcA, app, reduceCtorEq, Int.reduceEq, Int.reduceNeg, Int.reducePow, Nat.reducePow, Int.reduceTDiv, Int.reduceDiv, Nat.reduceDiv, Nat.reduceMod, Int.reduceMod, Int.reduceTMod, ne_eq, subA, beq_iff_eq, unA, minA, maxA, eqFs, eqA1, beq_self_eq_true, Nat.reduceBEq, ac_cadenzalaw33_WavWrites, clA, il]
  refine callQ.vc hL' ?_
  cases hlong : (decide (300 < l.length) && decide (l.length ≤ 4000) || decide (4010 < l.length)) with
  | true => simp (config := { maxSteps := 4000000 }) (disch := omega) only [step, stepv, ev, okW, onlyFr, Bool.false_and, Bool.true_and, sealw, wl, wn, wp, aop, cV, cV1, ↓reduceIte, Nat.reduceEqDiff, Nat.reduceAdd, Int.cast_ofNat_Int, if_true, if_false, AV.one, repCells, fillA, partCells, Nat.reduceLT, Nat.reduceLeDiff, Nat.reduceMul, Nat.reduceSub, Int.reduceLT, Int.reduceLE, Int.reduceAdd, Int.reduceSub, Int.reduceMul, Int.reduceToNat, sliceCells, cellsAt, srcA, app, reduceCtorEq, Int.reduceEq, Int.reduceNeg, Int.reducePow, Nat.reducePow, Int.reduceTDiv, Int.reduceDiv, Nat.reduceDiv, Nat.reduceMod, Int.reduceMod, Int.reduceTMod, ne_eq, subA, beq_iff_eq, unA, minA, maxA, eqFs, eqA1, beq_self_eq_true, Nat.reduceBEq]
  | false =>
    have hl : l.length ≤ 1000000 := by simp at hlong; omega
    have hT' := hT c x r l hl
    have hW' := hW c x r l hI hl
    have hW2' := hW2 c x r l hI hl
    have hS' := hS c x r l hI hl
    have hS2' := hS2 c x r l hI hl
    have hE' := hE c x r c x r l l hl hl
    rw [show decide (c = c ∧ x = x ∧ r = r ∧ l = l) = true by simp] at hE'
    simp only [clA, il] at hT' hW' hW2' hS' hS2' hE'
    simp (config := { maxSteps := 4000000 }) (disch := omega) only [step, stepv, ev, okW, onlyFr, Bool.false_and, Bool.true_and, sealw, wl, wn, wp, aop, cV, cV1, ↓reduceIte, Nat.reduceEqDiff, Nat.reduceAdd, Int.cast_ofNat_Int, if_true, if_false, AV.one, repCells, fillA, partCells, Nat.reduceLT, Nat.reduceLeDiff, Nat.reduceMul, Nat.reduceSub, Int.reduceLT, Int.reduceLE, Int.reduceAdd, Int.reduceSub, Int.reduceMul, Int.reduceToNat, sliceCells, cellsAt, srcA, app, reduceCtorEq, Int.reduceEq, Int.reduceNeg, Int.reducePow, Nat.reducePow, Int.reduceTDiv, Int.reduceDiv, Nat.reduceDiv, Nat.reduceMod, Int.reduceMod, Int.reduceTMod, ne_eq, subA, beq_iff_eq, unA, minA, maxA, eqFs, eqA1, beq_self_eq_true, Nat.reduceBEq]
    refine callQ.vc hT' ?_
    simp (config := { maxSteps := 4000000 }) (disch := omega) only [step, stepv, ev, okW, onlyFr, Bool.false_and, Bool.true_and, sealw, wl, wn, wp, aop, cV, cV1, ↓reduceIte, Nat.reduceEqDiff, Nat.reduceAdd, Int.cast_ofNat_Int, if_true, if_false, AV.one, repCells, fillA, partCells, Nat.reduceLT, Nat.reduceLeDiff, Nat.reduceMul, Nat.reduceSub, Int.reduceLT, Int.reduceLE, Int.reduceAdd, Int.reduceSub, Int.reduceMul, Int.reduceToNat, sliceCells, cellsAt, srcA, app, reduceCtorEq, Int.reduceEq, Int.reduceNeg, Int.reducePow, Nat.reducePow, Int.reduceTDiv, Int.reduceDiv, Nat.reduceDiv, Nat.reduceMod, Int.reduceMod, Int.reduceTMod, ne_eq, subA, beq_iff_eq, unA, minA, maxA, eqFs, eqA1, beq_self_eq_true, Nat.reduceBEq]
    refine callQ.vc hW' ?_
    unfold wavA at hW2' ⊢
    unfold sizeWA at hS' hS2'
    by_cases h0 : clipN c x r l = 0
    · rw [if_neg (by omega)] at hW2' hS' hS2' ⊢
      simp (config := { maxSteps := 4000000 }) (disch := omega) only [step, stepv, ev, okW, onlyFr, Bool.false_and, Bool.true_and, sealw, wl, wn, wp, aop, cV, cV1, ↓reduceIte, Nat.reduceEqDiff, Nat.reduceAdd, Int.cast_ofNat_Int, if_true, if_false, AV.one, repCells, fillA, partCells, Nat.reduceLT, Nat.reduceLeDiff, Nat.reduceMul, Nat.reduceSub, Int.reduceLT, Int.reduceLE, Int.reduceAdd, Int.reduceSub, Int.reduceMul, Int.reduceToNat, sliceCells, cellsAt, srcA, app, reduceCtorEq, Int.reduceEq, Int.reduceNeg, Int.reducePow, Nat.reducePow, Int.reduceTDiv, Int.reduceDiv, Nat.reduceDiv, Nat.reduceMod, Int.reduceMod, Int.reduceTMod, ne_eq, subA, beq_iff_eq, unA, minA, maxA, eqFs, eqA1, beq_self_eq_true, Nat.reduceBEq, bs]
      refine callQ.vc hW2' ?_
      simp (config := { maxSteps := 4000000 }) (disch := omega) only [step, stepv, ev, okW, onlyFr, Bool.false_and, Bool.true_and, sealw, wl, wn, wp, aop, cV, cV1, ↓reduceIte, Nat.reduceEqDiff, Nat.reduceAdd, Int.cast_ofNat_Int, if_true, if_false, AV.one, repCells, fillA, partCells, Nat.reduceLT, Nat.reduceLeDiff, Nat.reduceMul, Nat.reduceSub, Int.reduceLT, Int.reduceLE, Int.reduceAdd, Int.reduceSub, Int.reduceMul, Int.reduceToNat, sliceCells, cellsAt, srcA, app, reduceCtorEq, Int.reduceEq, Int.reduceNeg, Int.reducePow, Nat.reducePow, Int.reduceTDiv, Int.reduceDiv, Nat.reduceDiv, Nat.reduceMod, Int.reduceMod, Int.reduceTMod, ne_eq, subA, beq_iff_eq, unA, minA, maxA, eqFs, eqA1, beq_self_eq_true, Nat.reduceBEq, bs]
      refine callQ.vc hS' ?_
      simp (config := { maxSteps := 4000000 }) (disch := omega) only [step, stepv, ev, okW, onlyFr, Bool.false_and, Bool.true_and, sealw, wl, wn, wp, aop, cV, cV1, ↓reduceIte, Nat.reduceEqDiff, Nat.reduceAdd, Int.cast_ofNat_Int, if_true, if_false, AV.one, repCells, fillA, partCells, Nat.reduceLT, Nat.reduceLeDiff, Nat.reduceMul, Nat.reduceSub, Int.reduceLT, Int.reduceLE, Int.reduceAdd, Int.reduceSub, Int.reduceMul, Int.reduceToNat, sliceCells, cellsAt, srcA, app, reduceCtorEq, Int.reduceEq, Int.reduceNeg, Int.reducePow, Nat.reducePow, Int.reduceTDiv, Int.reduceDiv, Nat.reduceDiv, Nat.reduceMod, Int.reduceMod, Int.reduceTMod, ne_eq, subA, beq_iff_eq, unA, minA, maxA, eqFs, eqA1, beq_self_eq_true, Nat.reduceBEq]
      refine callQ.vc hS2' ?_
      simp (config := { maxSteps := 4000000 }) (disch := omega) only [step, stepv, ev, okW, onlyFr, Bool.false_and, Bool.true_and, sealw, wl, wn, wp, aop, cV, cV1, ↓reduceIte, Nat.reduceEqDiff, Nat.reduceAdd, Int.cast_ofNat_Int, if_true, if_false, AV.one, repCells, fillA, partCells, Nat.reduceLT, Nat.reduceLeDiff, Nat.reduceMul, Nat.reduceSub, Int.reduceLT, Int.reduceLE, Int.reduceAdd, Int.reduceSub, Int.reduceMul, Int.reduceToNat, sliceCells, cellsAt, srcA, app, reduceCtorEq, Int.reduceEq, Int.reduceNeg, Int.reducePow, Nat.reducePow, Int.reduceTDiv, Int.reduceDiv, Nat.reduceDiv, Nat.reduceMod, Int.reduceMod, Int.reduceTMod, ne_eq, subA, beq_iff_eq, unA, minA, maxA, eqFs, eqA1, beq_self_eq_true, Nat.reduceBEq, strA, u8_eq]
      refine callQ.vc hE' ?_
      simp (config := { maxSteps := 4000000 }) (disch := omega) only [step, stepv, ev, okW, onlyFr, Bool.false_and, Bool.true_and, sealw, wl, wn, wp, aop, cV, cV1, ↓reduceIte, Nat.reduceEqDiff, Nat.reduceAdd, Int.cast_ofNat_Int, if_true, if_false, AV.one, repCells, fillA, partCells, Nat.reduceLT, Nat.reduceLeDiff, Nat.reduceMul, Nat.reduceSub, Int.reduceLT, Int.reduceLE, Int.reduceAdd, Int.reduceSub, Int.reduceMul, Int.reduceToNat, sliceCells, cellsAt, srcA, app, reduceCtorEq, Int.reduceEq, Int.reduceNeg, Int.reducePow, Nat.reducePow, Int.reduceTDiv, Int.reduceDiv, Nat.reduceDiv, Nat.reduceMod, Int.reduceMod, Int.reduceTMod, ne_eq, subA, beq_iff_eq, unA, minA, maxA, eqFs, eqA1, beq_self_eq_true, Nat.reduceBEq]
    · rw [if_pos h0] at hW2' hS' hS2' ⊢
      simp (config := { maxSteps := 4000000 }) (disch := omega) only [step, stepv, ev, okW, onlyFr, Bool.false_and, Bool.true_and, sealw, wl, wn, wp, aop, cV, cV1, ↓reduceIte, Nat.reduceEqDiff, Nat.reduceAdd, Int.cast_ofNat_Int, if_true, if_false, AV.one, repCells, fillA, partCells, Nat.reduceLT, Nat.reduceLeDiff, Nat.reduceMul, Nat.reduceSub, Int.reduceLT, Int.reduceLE, Int.reduceAdd, Int.reduceSub, Int.reduceMul, Int.reduceToNat, sliceCells, cellsAt, srcA, app, reduceCtorEq, Int.reduceEq, Int.reduceNeg, Int.reducePow, Nat.reducePow, Int.reduceTDiv, Int.reduceDiv, Nat.reduceDiv, Nat.reduceMod, Int.reduceMod, Int.reduceTMod, ne_eq, subA, beq_iff_eq, unA, minA, maxA, eqFs, eqA1, beq_self_eq_true, Nat.reduceBEq, bs]
      refine callQ.vc hW2' ?_
      simp (config := { maxSteps := 4000000 }) (disch := omega) only [step, stepv, ev, okW, onlyFr, Bool.false_and, Bool.true_and, sealw, wl, wn, wp, aop, cV, cV1, ↓reduceIte, Nat.reduceEqDiff, Nat.reduceAdd, Int.cast_ofNat_Int, if_true, if_false, AV.one, repCells, fillA, partCells, Nat.reduceLT, Nat.reduceLeDiff, Nat.reduceMul, Nat.reduceSub, Int.reduceLT, Int.reduceLE, Int.reduceAdd, Int.reduceSub, Int.reduceMul, Int.reduceToNat, sliceCells, cellsAt, srcA, app, reduceCtorEq, Int.reduceEq, Int.reduceNeg, Int.reducePow, Nat.reducePow, Int.reduceTDiv, Int.reduceDiv, Nat.reduceDiv, Nat.reduceMod, Int.reduceMod, Int.reduceTMod, ne_eq, subA, beq_iff_eq, unA, minA, maxA, eqFs, eqA1, beq_self_eq_true, Nat.reduceBEq, bs]
      refine callQ.vc hS' ?_
      simp (config := { maxSteps := 4000000 }) (disch := omega) only [step, stepv, ev, okW, onlyFr, Bool.false_and, Bool.true_and, sealw, wl, wn, wp, aop, cV, cV1, ↓reduceIte, Nat.reduceEqDiff, Nat.reduceAdd, Int.cast_ofNat_Int, if_true, if_false, AV.one, repCells, fillA, partCells, Nat.reduceLT, Nat.reduceLeDiff, Nat.reduceMul, Nat.reduceSub, Int.reduceLT, Int.reduceLE, Int.reduceAdd, Int.reduceSub, Int.reduceMul, Int.reduceToNat, sliceCells, cellsAt, srcA, app, reduceCtorEq, Int.reduceEq, Int.reduceNeg, Int.reducePow, Nat.reducePow, Int.reduceTDiv, Int.reduceDiv, Nat.reduceDiv, Nat.reduceMod, Int.reduceMod, Int.reduceTMod, ne_eq, subA, beq_iff_eq, unA, minA, maxA, eqFs, eqA1, beq_self_eq_true, Nat.reduceBEq]
      refine callQ.vc hS2' ?_
      have z0 : decU8 [] = some [] := rfl
      have z1 : (([] : List UInt8) == []) = true := rfl
      simp (config := { maxSteps := 4000000 }) (disch := omega) only [step, stepv, ev, okW, onlyFr, Bool.false_and, Bool.true_and, sealw, wl, wn, wp, aop, cV, cV1, ↓reduceIte, Nat.reduceEqDiff, Nat.reduceAdd, Int.cast_ofNat_Int, if_true, if_false, AV.one, repCells, fillA, partCells, Nat.reduceLT, Nat.reduceLeDiff, Nat.reduceMul, Nat.reduceSub, Int.reduceLT, Int.reduceLE, Int.reduceAdd, Int.reduceSub, Int.reduceMul, Int.reduceToNat, sliceCells, cellsAt, srcA, app, reduceCtorEq, Int.reduceEq, Int.reduceNeg, Int.reducePow, Nat.reducePow, Int.reduceTDiv, Int.reduceDiv, Nat.reduceDiv, Nat.reduceMod, Int.reduceMod, Int.reduceTMod, ne_eq, subA, beq_iff_eq, unA, minA, maxA, eqFs, eqA1, beq_self_eq_true, Nat.reduceBEq, strA, z0, z1]
      refine callQ.vc hE' ?_
      simp (config := { maxSteps := 4000000 }) (disch := omega) only [step, stepv, ev, okW, onlyFr, Bool.false_and, Bool.true_and, sealw, wl, wn, wp, aop, cV, cV1, ↓reduceIte, Nat.reduceEqDiff, Nat.reduceAdd, Int.cast_ofNat_Int, if_true, if_false, AV.one, repCells, fillA, partCells, Nat.reduceLT, Nat.reduceLeDiff, Nat.reduceMul, Nat.reduceSub, Int.reduceLT, Int.reduceLE, Int.reduceAdd, Int.reduceSub, Int.reduceMul, Int.reduceToNat, sliceCells, cellsAt, srcA, app, reduceCtorEq, Int.reduceEq, Int.reduceNeg, Int.reducePow, Nat.reducePow, Int.reduceTDiv, Int.reduceDiv, Nat.reduceDiv, Nat.reduceMod, Int.reduceMod, Int.reduceTMod, ne_eq, subA, beq_iff_eq, unA, minA, maxA, eqFs, eqA1, beq_self_eq_true, Nat.reduceBEq]

end Go.Am

namespace Go.Am
open Go.RowKit

/-! ### A clip cs0 an argument -/

def clSh : Sh := .tuple [.int .i64, .int .i64, .int .i64, .slice (.int .i32)]
theorem fits_clip {cs0 : List AV} (h : Fits clSh cs0) : ∃ (c x r : Int) (l : List Int), cs0 = [.int .i64 c, .int .i64 x, .int .i64 r, il l] ∧ I32 l := by
  simp only [clSh, Fits, FitsL] at h
  obtain ⟨_, _, rfl, ⟨c, rfl, _⟩, _, _, rfl, ⟨x, rfl, _⟩, _, _, rfl, ⟨r, rfl, _⟩, _, _, rfl, ⟨L, rfl, _, h2⟩, rfl⟩ := h
  obtain ⟨l, _, e2, hi⟩ := fits_i32s (L := L) (fun c hc => by simp only [Fits]; exact h2 c hc)
  exact ⟨c, x, r, l, by simp [e2], hi⟩
end Go.Am
