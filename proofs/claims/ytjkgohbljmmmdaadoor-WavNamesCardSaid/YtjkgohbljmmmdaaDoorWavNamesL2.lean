/- What the functions that the law reaches return, for every program that has their code; the conditions stand in each statement. -/
import Derived.Test.YtjkgohbljmmmdaaDoorWavNamesL1
set_option linter.unusedSectionVars false
set_option linter.unusedSimpArgs false
set_option linter.unusedVariables false
namespace Go.Am
open Go.RowKit

/-! ### Written -/

def S_Written (P : Prg) (f : Nat) : Prop := ∀ n w : Nat, w ≤ 8 → n < 18446744073709551616 → VC P f [.int .u64 n, .int .i64 w] (bs (leB n w))

theorem ref01_Written {P : Prg} {f t0 : Nat} (b : Body P f 21 [.tmp 4] (ac_cadenzaref01_Written t0)) : S_Written P f := by
  intro n w hw hn
  refine VC.of_walk 1 rfl (isD_bs _) (ACall.of_body b (by simp) ?_)
  simp (config := { maxSteps := 4000000 }) (disch := omega) only [step, stepv, ev, okW, onlyFr, Bool.false_and, Bool.true_and, sealw, wl, wn, wp, aop, cV, cV1, ↓reduceIte, Nat.reduceEqDiff, Nat.reduceAdd, Int.cast_ofNat_Int, if_true, if_false, AV.one, repCells, fillA, partCells, Nat.reduceLT, Nat.reduceLeDiff, Nat.reduceMul, Nat.reduceSub, Int.reduceLT, Int.reduceLE, Int.reduceAdd, Int.reduceSub, Int.reduceMul, Int.reduceToNat, sliceCells, cellsAt, srcA, app, reduceCtorEq, Int.reduceEq, Int.reduceNeg, Int.reducePow, Nat.reducePow, Int.reduceTDiv, Int.reduceDiv, Nat.reduceDiv, Nat.reduceMod, Int.reduceMod, Int.reduceTMod, ne_eq, subA, beq_iff_eq, unA, minA, maxA, eqFs, eqA1, beq_self_eq_true, Nat.reduceBEq, ac_cadenzaref01_Written]
  refine ALoop.by (ι := Nat) (fun k => ⟨[(6, .int .i64 k), (5, .own 0 k), (1, .int .i64 w), (0, .int .u64 ((n / 256 ^ k : Nat) : Int))], [⟨t0, 1, k, u8 ((leB n w).take k), 0⟩]⟩) (fun k => k ≤ w) (fun k => w - k) 0
    (Le.trans (Le.virt 5 t0 1 (by omega) rfl) (Le.slots (by simp [Am.look]))) (by omega) ?_
  intro k hk
  have hdiv : n / 256 ^ k ≤ n := Nat.div_le_self _ _
  by_cases hlt : k < w
  · have hl : (u8 ((leB n w).take k)).length = k := by simp [u8_length, leB_length]; omega
    have e6 := leB_take_succ (n := n) hlt
    have e2 : n / 256 ^ (k + 1) = n / 256 ^ k / 256 := by rw [Nat.pow_succ, ← Nat.div_div_eq_div_mul]
    generalize hm : n / 256 ^ k = m at *
    have e3 : (UInt8.ofNat (m % 256)).toNat = m % 256 := by simp
    have e5 : ((m : Int) % 256) = ((m % 256 : Nat) : Int) := by omega
    have e7 : u8 ((leB n w).take k) ++ [AV.int .u8 ((m : Int) % 256)] = u8 ((leB n w).take (k + 1)) := by
      rw [e6, ← u8_append, u8_cons, u8_nil, e3, e5]
    simp (config := { maxSteps := 4000000 }) (disch := omega) only [step, stepv, ev, okW, onlyFr, Bool.false_and, Bool.true_and, sealw, wl, wn, wp, aop, cV, cV1, ↓reduceIte, Nat.reduceEqDiff, Nat.reduceAdd, Int.cast_ofNat_Int, if_true, if_false, AV.one, repCells, fillA, partCells, Nat.reduceLT, Nat.reduceLeDiff, Nat.reduceMul, Nat.reduceSub, Int.reduceLT, Int.reduceLE, Int.reduceAdd, Int.reduceSub, Int.reduceMul, Int.reduceToNat, sliceCells, cellsAt, srcA, app, reduceCtorEq, Int.reduceEq, Int.reduceNeg, Int.reducePow, Nat.reducePow, Int.reduceTDiv, Int.reduceDiv, Nat.reduceDiv, Nat.reduceMod, Int.reduceMod, Int.reduceTMod, ne_eq, subA, beq_iff_eq, unA, minA, maxA, eqFs, eqA1, beq_self_eq_true, Nat.reduceBEq, hl]
    rw [e7]
    refine ⟨k + 1, by omega, by omega, Le.drop 1 2 (by omega) rfl ?_ ?_⟩
    · rw [e2]; simp [Am.look, frzK, frzL, frzV]
    · intro i y hy
      match i, hy with
      | 0, hy =>
        simp at hy
        subst hy
        exact ⟨u8 ((leB n w).take (k + 1)), by simp, by simp only [frzK]; exact frzL_T _ (isT_u8 _)⟩
      | i + 1, hy => simp at hy
  · have ek : k = w := by omega
    subst ek
    have e7 : (leB n k).take k = leB n k := List.take_of_length_le (by rw [leB_length]; exact Nat.le_refl _)
    simp (config := { maxSteps := 4000000 }) (disch := omega) only [step, stepv, ev, okW, onlyFr, Bool.false_and, Bool.true_and, sealw, wl, wn, wp, aop, cV, cV1, ↓reduceIte, Nat.reduceEqDiff, Nat.reduceAdd, Int.cast_ofNat_Int, if_true, if_false, AV.one, repCells, fillA, partCells, Nat.reduceLT, Nat.reduceLeDiff, Nat.reduceMul, Nat.reduceSub, Int.reduceLT, Int.reduceLE, Int.reduceAdd, Int.reduceSub, Int.reduceMul, Int.reduceToNat, sliceCells, cellsAt, srcA, app, reduceCtorEq, Int.reduceEq, Int.reduceNeg, Int.reducePow, Nat.reducePow, Int.reduceTDiv, Int.reduceDiv, Nat.reduceDiv, Nat.reduceMod, Int.reduceMod, Int.reduceTMod, ne_eq, subA, beq_iff_eq, unA, minA, maxA, eqFs, eqA1, beq_self_eq_true, Nat.reduceBEq, e7]
    have e9 : k = (leB n k).length := (leB_length k n).symm
    simp only [frzN, frzK, frzL, frzV, Bool.false_eq_true, if_false, List.getElem?_cons_zero, and_self, if_true, frzL_T _ (isT_u8 _), Option.map_some, bs, leB_length]

/-! ### Sizes -/

/-- A list of chunks that is not great: its length, names, data. -/
def okL (l : List Ck) : Prop := l.length ≤ 25 ∧ ∀ c ∈ l, c.1.length ≤ 20 ∧ c.2.length ≤ 100200

def szC (c : Ck) : Nat := 8 + c.2.length + c.2.length % 2
def szL (l : List Ck) : Nat := (l.map szC).sum

theorem okL_at {l : List Ck} (h : okL l) {k : Nat} (hk : k < l.length) : (l[k]).1.length ≤ 20 ∧ (l[k]).2.length ≤ 100200 := h.2 _ (List.getElem_mem hk)
theorem szL_take {l : List Ck} {k : Nat} (h : k < l.length) : szL (l.take (k + 1)) = szL (l.take k) + szC l[k] := by
  simp only [szL]
  rw [List.take_succ_eq_append_getElem h, List.map_append, List.sum_append]
  simp
theorem szL_le {l : List Ck} (h : okL l) : ∀ k, k ≤ l.length → szL (l.take k) ≤ k * 100209
  | 0, _ => by simp [szL]
  | k + 1, hk => by
    have h1 := szL_le h k (by omega)
    have h2 := okL_at h (k := k) (by omega)
    rw [szL_take (by omega)]
    simp only [szC]
    omega
theorem okL_sz {l : List Ck} (h : okL l) : szL l ≤ 2505225 := by
  have := szL_le h l.length (Nat.le_refl _)
  rw [List.take_length] at this
  have := h.1
  omega

theorem and1_i64 {n : Nat} (h : n < 9223372036854775808) : IntKind.i64.wrap (BitVec.ofInt IntKind.i64.bits (n : Int) &&& BitVec.ofInt IntKind.i64.bits 1).toNat = ((n % 2 : Nat) : Int) := by
  have e1 : (BitVec.ofInt 64 (n : Int)).toNat = n := by
    rw [BitVec.toNat_ofInt]
    show ((n : Int) % 18446744073709551616).toNat = n
    omega
  have e2 : (BitVec.ofInt 64 1).toNat = 1 := by decide
  have : (BitVec.ofInt 64 (n : Int) &&& BitVec.ofInt 64 1).toNat = n % 2 := by
    rw [BitVec.toNat_and, e1, e2, Nat.and_one_is_mod]
  show IntKind.i64.wrap ((BitVec.ofInt 64 (n : Int) &&& BitVec.ofInt 64 1).toNat : Int) = _
  rw [this, wrap_i64] <;> omega

def S_size (P : Prg) (f a : Nat) : Prop := ∀ l : List Ck, okL l → VC P f [.list l.length (ckL l)] (.int .i64 ((a + szL l : Nat) : Int))

theorem isDL_ckL (l : List Ck) : isDL (ckL l) = true := isTL_D (isT_ckL l)

theorem riff_size {P : Prg} {f t0 : Nat} (b : Body P f 25 [.tmp 2] (ac_riff_size t0)) : S_size P f 4 := by
  intro l hl
  refine VC.of_acall (by simp [isDL, isD, isDL_ckL]) rfl (ACall.of_body b (by simp) ?_)
  have h25 := hl.1
  simp (config := { maxSteps := 4000000 }) (disch := omega) only [step, stepv, ev, okW, onlyFr, Bool.false_and, Bool.true_and, sealw, wl, wn, wp, aop, cV, cV1, ↓reduceIte, Nat.reduceEqDiff, Nat.reduceAdd, Int.cast_ofNat_Int, if_true, if_false, AV.one, repCells, fillA, partCells, Nat.reduceLT, Nat.reduceLeDiff, Nat.reduceMul, Nat.reduceSub, Int.reduceLT, Int.reduceLE, Int.reduceAdd, Int.reduceSub, Int.reduceMul, Int.reduceToNat, sliceCells, cellsAt, srcA, app, reduceCtorEq, Int.reduceEq, Int.reduceNeg, Int.reducePow, Nat.reducePow, Int.reduceTDiv, Int.reduceDiv, Nat.reduceDiv, Nat.reduceMod, Int.reduceMod, Int.reduceTMod, ne_eq, subA, beq_iff_eq, unA, minA, maxA, eqFs, eqA1, beq_self_eq_true, Nat.reduceBEq, ac_riff_size]
  refine ALoop.by (ι := Nat) (fun k => ⟨[(8, .int .i64 k), (7, .int .i64 l.length), (6, .list l.length (ckL l)), (3, .int .i64 ((4 + szL (l.take k) : Nat) : Int))], []⟩) (fun k => k ≤ l.length) (fun k => l.length - k) 0 (Le.slots (by simp [Am.look, szL])) (by omega) ?_
  intro k hk
  have hs := szL_le hl k hk
  by_cases hlt : k < l.length
  · obtain ⟨o1, o2⟩ := okL_at hl hlt
    have e1 := ckL_drop hlt
    have e2 := ckL_length l
    have e3 := and1_i64 (n := (l[k]).2.length) (by omega)
    have e4 := szL_take hlt
    simp only [szC] at e4
    simp (config := { maxSteps := 4000000 }) (disch := omega) only [step, stepv, ev, okW, onlyFr, Bool.false_and, Bool.true_and, sealw, wl, wn, wp, aop, cV, cV1, ↓reduceIte, Nat.reduceEqDiff, Nat.reduceAdd, Int.cast_ofNat_Int, if_true, if_false, AV.one, repCells, fillA, partCells, Nat.reduceLT, Nat.reduceLeDiff, Nat.reduceMul, Nat.reduceSub, Int.reduceLT, Int.reduceLE, Int.reduceAdd, Int.reduceSub, Int.reduceMul, Int.reduceToNat, sliceCells, cellsAt, srcA, app, reduceCtorEq, Int.reduceEq, Int.reduceNeg, Int.reducePow, Nat.reducePow, Int.reduceTDiv, Int.reduceDiv, Nat.reduceDiv, Nat.reduceMod, Int.reduceMod, Int.reduceTMod, ne_eq, subA, beq_iff_eq, unA, minA, maxA, eqFs, eqA1, beq_self_eq_true, Nat.reduceBEq, e1, e2, bs, e3]
    refine ⟨k + 1, by omega, by omega, Le.drop 0 1 (by omega) rfl ?_ ?_⟩
    · have e5 : (4 : Int) + szL (l.take k) + (8 + (l[k]).2.length + ((l[k]).2.length % 2 : Nat)) = ((4 + szL (l.take (k + 1)) : Nat) : Int) := by omega
      simp [Am.look, frzK, frzL, frzV, frzL_T _ (isT_ckL l)]
      omega
    · intro i y hy; simp at hy
  · have ek : k = l.length := by omega
    subst ek
    rw [List.take_length]
    simp (config := { maxSteps := 4000000 }) (disch := omega) only [step, stepv, ev, okW, onlyFr, Bool.false_and, Bool.true_and, sealw, wl, wn, wp, aop, cV, cV1, ↓reduceIte, Nat.reduceEqDiff, Nat.reduceAdd, Int.cast_ofNat_Int, if_true, if_false, AV.one, repCells, fillA, partCells, Nat.reduceLT, Nat.reduceLeDiff, Nat.reduceMul, Nat.reduceSub, Int.reduceLT, Int.reduceLE, Int.reduceAdd, Int.reduceSub, Int.reduceMul, Int.reduceToNat, sliceCells, cellsAt, srcA, app, reduceCtorEq, Int.reduceEq, Int.reduceNeg, Int.reducePow, Nat.reducePow, Int.reduceTDiv, Int.reduceDiv, Nat.reduceDiv, Nat.reduceMod, Int.reduceMod, Int.reduceTMod, ne_eq, subA, beq_iff_eq, unA, minA, maxA, eqFs, eqA1, beq_self_eq_true, Nat.reduceBEq]

end Go.Am

namespace Go.Am
open Go.RowKit

/-! ### Check, Find -/

def S_IndexF2 (P : Prg) (f : Nat) : Prop := ∀ (l : List Ck) (p : Ck → Bool) (g : Nat) (cs : List AV), isDL cs = true → l.length ≤ 4611686018427387904 →
  (∀ x ∈ l, VC P g ([ckA x] ++ cs) (.bool (p x))) → VC P f [.list l.length (ckL l), .fn (.func g) [] cs] (.int .i64 (idxI p l))

theorem index_func2 {P : Prg} {f : Nat} (b : Body P f 19 [.tmp 4] ac_slices_IndexFunc_api_Chunk_api_Chunk) : S_IndexF2 P f := by
  intro l p g cs h2 hlen hp
  refine VC.of_acall (by simp [isDL, isD, h2, isDL_ckL]) rfl (ACall.of_body b (by simp) ?_)
  simp (config := { maxSteps := 4000000 }) (disch := omega) only [step, stepv, ev, okW, onlyFr, Bool.false_and, Bool.true_and, sealw, wl, wn, wp, aop, cV, cV1, ↓reduceIte, Nat.reduceEqDiff, Nat.reduceAdd, Int.cast_ofNat_Int, if_true, if_false, AV.one, repCells, fillA, partCells, Nat.reduceLT, Nat.reduceLeDiff, Nat.reduceMul, Nat.reduceSub, Int.reduceLT, Int.reduceLE, Int.reduceAdd, Int.reduceSub, Int.reduceMul, Int.reduceToNat, sliceCells, cellsAt, srcA, app, reduceCtorEq, Int.reduceEq, Int.reduceNeg, Int.reducePow, Nat.reducePow, Int.reduceTDiv, Int.reduceDiv, Nat.reduceDiv, Nat.reduceMod, Int.reduceMod, Int.reduceTMod, ne_eq, subA, beq_iff_eq, unA, minA, maxA, eqFs, eqA1, beq_self_eq_true, Nat.reduceBEq, ac_slices_IndexFunc_api_Chunk_api_Chunk]
  refine ALoop.by (ι := Nat) (fun k => ⟨[(8, .int .i64 k), (7, .int .i64 l.length), (1, .fn (.func g) [] cs), (0, .list l.length (ckL l))], []⟩) (fun k => k ≤ l.length ∧ (l.take k).all (fun x => !p x) = true) (fun k => l.length - k) 0 (Le.slots (by simp [Am.look])) ⟨by omega, by simp⟩ ?_
  intro k ⟨hk, hg⟩
  by_cases hlt : k < l.length
  · have e1 := ckL_drop hlt
    have e2 := ckL_length l
    simp (config := { maxSteps := 4000000 }) (disch := omega) only [step, stepv, ev, okW, onlyFr, Bool.false_and, Bool.true_and, sealw, wl, wn, wp, aop, cV, cV1, ↓reduceIte, Nat.reduceEqDiff, Nat.reduceAdd, Int.cast_ofNat_Int, if_true, if_false, AV.one, repCells, fillA, partCells, Nat.reduceLT, Nat.reduceLeDiff, Nat.reduceMul, Nat.reduceSub, Int.reduceLT, Int.reduceLE, Int.reduceAdd, Int.reduceSub, Int.reduceMul, Int.reduceToNat, sliceCells, cellsAt, srcA, app, reduceCtorEq, Int.reduceEq, Int.reduceNeg, Int.reducePow, Nat.reducePow, Int.reduceTDiv, Int.reduceDiv, Nat.reduceDiv, Nat.reduceMod, Int.reduceMod, Int.reduceTMod, ne_eq, subA, beq_iff_eq, unA, minA, maxA, eqFs, eqA1, beq_self_eq_true, Nat.reduceBEq, e1, e2]
    refine callQ.vc (hp _ (List.getElem_mem hlt)) ?_
    cases hpk : p l[k] with
    | true => simp (config := { maxSteps := 4000000 }) (disch := omega) only [step, stepv, ev, okW, onlyFr, Bool.false_and, Bool.true_and, sealw, wl, wn, wp, aop, cV, cV1, ↓reduceIte, Nat.reduceEqDiff, Nat.reduceAdd, Int.cast_ofNat_Int, if_true, if_false, AV.one, repCells, fillA, partCells, Nat.reduceLT, Nat.reduceLeDiff, Nat.reduceMul, Nat.reduceSub, Int.reduceLT, Int.reduceLE, Int.reduceAdd, Int.reduceSub, Int.reduceMul, Int.reduceToNat, sliceCells, cellsAt, srcA, app, reduceCtorEq, Int.reduceEq, Int.reduceNeg, Int.reducePow, Nat.reducePow, Int.reduceTDiv, Int.reduceDiv, Nat.reduceDiv, Nat.reduceMod, Int.reduceMod, Int.reduceTMod, ne_eq, subA, beq_iff_eq, unA, minA, maxA, eqFs, eqA1, beq_self_eq_true, Nat.reduceBEq, hpk, idxI, find_at hlt hg hpk]
    | false =>
      simp (config := { maxSteps := 4000000 }) (disch := omega) only [step, stepv, ev, okW, onlyFr, Bool.false_and, Bool.true_and, sealw, wl, wn, wp, aop, cV, cV1, ↓reduceIte, Nat.reduceEqDiff, Nat.reduceAdd, Int.cast_ofNat_Int, if_true, if_false, AV.one, repCells, fillA, partCells, Nat.reduceLT, Nat.reduceLeDiff, Nat.reduceMul, Nat.reduceSub, Int.reduceLT, Int.reduceLE, Int.reduceAdd, Int.reduceSub, Int.reduceMul, Int.reduceToNat, sliceCells, cellsAt, srcA, app, reduceCtorEq, Int.reduceEq, Int.reduceNeg, Int.reducePow, Nat.reducePow, Int.reduceTDiv, Int.reduceDiv, Nat.reduceDiv, Nat.reduceMod, Int.reduceMod, Int.reduceTMod, ne_eq, subA, beq_iff_eq, unA, minA, maxA, eqFs, eqA1, beq_self_eq_true, Nat.reduceBEq, hpk]
      exact ⟨k + 1, ⟨by omega, by rw [all_take_go hlt, hg, hpk]; rfl⟩, by omega, Le.slots (by simp [Am.look])⟩
  · have e2 : k = l.length := by omega
    subst e2
    rw [List.take_length] at hg
    simp (config := { maxSteps := 4000000 }) (disch := omega) only [step, stepv, ev, okW, onlyFr, Bool.false_and, Bool.true_and, sealw, wl, wn, wp, aop, cV, cV1, ↓reduceIte, Nat.reduceEqDiff, Nat.reduceAdd, Int.cast_ofNat_Int, if_true, if_false, AV.one, repCells, fillA, partCells, Nat.reduceLT, Nat.reduceLeDiff, Nat.reduceMul, Nat.reduceSub, Int.reduceLT, Int.reduceLE, Int.reduceAdd, Int.reduceSub, Int.reduceMul, Int.reduceToNat, sliceCells, cellsAt, srcA, app, reduceCtorEq, Int.reduceEq, Int.reduceNeg, Int.reducePow, Nat.reducePow, Int.reduceTDiv, Int.reduceDiv, Nat.reduceDiv, Nat.reduceMod, Int.reduceMod, Int.reduceTMod, ne_eq, subA, beq_iff_eq, unA, minA, maxA, eqFs, eqA1, beq_self_eq_true, Nat.reduceBEq, idxI, find_none hg]

def S_ContainsF2 (P : Prg) (f : Nat) : Prop := ∀ (l : List Ck) (p : Ck → Bool) (g : Nat) (cs : List AV), isDL cs = true → l.length ≤ 4611686018427387904 →
  (∀ x ∈ l, VC P g ([ckA x] ++ cs) (.bool (p x))) → VC P f [.list l.length (ckL l), .fn (.func g) [] cs] (.bool (l.any p))

theorem contains_func2 {P : Prg} {f fI : Nat} (b : Body P f 9 [.tmp 4] (ac_slices_ContainsFunc_api_Chunk_api_Chunk fI)) (hI : S_IndexF2 P fI) : S_ContainsF2 P f := by
  intro l p g cs h2 hlen hp
  refine VC.of_acall (by simp [isDL, isD, h2, isDL_ckL]) rfl (ACall.of_body b (by simp) ?_)
  have hi := hI l p g cs h2 hlen hp
  simp (config := { maxSteps := 4000000 }) (disch := omega) only [step, stepv, ev, okW, onlyFr, Bool.false_and, Bool.true_and, sealw, wl, wn, wp, aop, cV, cV1, ↓reduceIte, Nat.reduceEqDiff, Nat.reduceAdd, Int.cast_ofNat_Int, if_true, if_false, AV.one, repCells, fillA, partCells, Nat.reduceLT, Nat.reduceLeDiff, Nat.reduceMul, Nat.reduceSub, Int.reduceLT, Int.reduceLE, Int.reduceAdd, Int.reduceSub, Int.reduceMul, Int.reduceToNat, sliceCells, cellsAt, srcA, app, reduceCtorEq, Int.reduceEq, Int.reduceNeg, Int.reducePow, Nat.reducePow, Int.reduceTDiv, Int.reduceDiv, Nat.reduceDiv, Nat.reduceMod, Int.reduceMod, Int.reduceTMod, ne_eq, subA, beq_iff_eq, unA, minA, maxA, eqFs, eqA1, beq_self_eq_true, Nat.reduceBEq, ac_slices_ContainsFunc_api_Chunk_api_Chunk]
  refine callQ.vc hi ?_
  simp (config := { maxSteps := 4000000 }) (disch := omega) only [step, stepv, ev, okW, onlyFr, Bool.false_and, Bool.true_and, sealw, wl, wn, wp, aop, cV, cV1, ↓reduceIte, Nat.reduceEqDiff, Nat.reduceAdd, Int.cast_ofNat_Int, if_true, if_false, AV.one, repCells, fillA, partCells, Nat.reduceLT, Nat.reduceLeDiff, Nat.reduceMul, Nat.reduceSub, Int.reduceLT, Int.reduceLE, Int.reduceAdd, Int.reduceSub, Int.reduceMul, Int.reduceToNat, sliceCells, cellsAt, srcA, app, reduceCtorEq, Int.reduceEq, Int.reduceNeg, Int.reducePow, Nat.reducePow, Int.reduceTDiv, Int.reduceDiv, Nat.reduceDiv, Nat.reduceMod, Int.reduceMod, Int.reduceTMod, ne_eq, subA, beq_iff_eq, unA, minA, maxA, eqFs, eqA1, beq_self_eq_true, Nat.reduceBEq, idx_any]

def S_Check1 (P : Prg) (f : Nat) : Prop := ∀ c : Ck, c.1.length < 4611686018427387904 → VC P f [ckA c] (.bool (!nameB c.1))
theorem riff_Check1 {P : Prg} {f fN t0 : Nat} (b : Body P f 7 [.tmp 2] (ac_riff_Check_1 fN t0)) (hN : S_isName P fN) : S_Check1 P f := by
  intro c hc
  refine VC.of_acall (by simp [isDL, isD, ckA, isD_bs]) rfl (ACall.of_body b (by simp) ?_)
  simp (config := { maxSteps := 4000000 }) (disch := omega) only [step, stepv, ev, okW, onlyFr, Bool.false_and, Bool.true_and, sealw, wl, wn, wp, aop, cV, cV1, ↓reduceIte, Nat.reduceEqDiff, Nat.reduceAdd, Int.cast_ofNat_Int, if_true, if_false, AV.one, repCells, fillA, partCells, Nat.reduceLT, Nat.reduceLeDiff, Nat.reduceMul, Nat.reduceSub, Int.reduceLT, Int.reduceLE, Int.reduceAdd, Int.reduceSub, Int.reduceMul, Int.reduceToNat, sliceCells, cellsAt, srcA, app, reduceCtorEq, Int.reduceEq, Int.reduceNeg, Int.reducePow, Nat.reducePow, Int.reduceTDiv, Int.reduceDiv, Nat.reduceDiv, Nat.reduceMod, Int.reduceMod, Int.reduceTMod, ne_eq, subA, beq_iff_eq, unA, minA, maxA, eqFs, eqA1, beq_self_eq_true, Nat.reduceBEq, ac_riff_Check_1, ckA, bs]
  refine callQ.vc (hN c.1 hc) ?_
  simp (config := { maxSteps := 4000000 }) (disch := omega) only [step, stepv, ev, okW, onlyFr, Bool.false_and, Bool.true_and, sealw, wl, wn, wp, aop, cV, cV1, ↓reduceIte, Nat.reduceEqDiff, Nat.reduceAdd, Int.cast_ofNat_Int, if_true, if_false, AV.one, repCells, fillA, partCells, Nat.reduceLT, Nat.reduceLeDiff, Nat.reduceMul, Nat.reduceSub, Int.reduceLT, Int.reduceLE, Int.reduceAdd, Int.reduceSub, Int.reduceMul, Int.reduceToNat, sliceCells, cellsAt, srcA, app, reduceCtorEq, Int.reduceEq, Int.reduceNeg, Int.reducePow, Nat.reducePow, Int.reduceTDiv, Int.reduceDiv, Nat.reduceDiv, Nat.reduceMod, Int.reduceMod, Int.reduceTMod, ne_eq, subA, beq_iff_eq, unA, minA, maxA, eqFs, eqA1, beq_self_eq_true, Nat.reduceBEq]

def checkM (form : List UInt8) (l : List Ck) : Nat :=
  if 20 < l.length then 4 else if nameB form = false ∨ 100000 < 12 + szL l ∨ l.any (fun c => !nameB c.1) = true then 8 else 0

def S_Check (P : Prg) (f : Nat) : Prop := ∀ (form : List UInt8) (l : List Ck), form.length ≤ 20 → okL l → VC P f [.str form, .list l.length (ckL l)] (.int .i64 (checkM form l))

theorem riff_Check {P : Prg} {f fN fS fC f1 : Nat} (b : Body P f 21 [.tmp 4] (ac_riff_Check fN fS fC f1)) (hN : S_isName P fN) (hS : S_size P fS 4) (hC : S_ContainsF2 P fC) (h1 : S_Check1 P f1) : S_Check P f := by
  intro form l hf hl
  refine VC.of_acall (by simp [isDL, isD, isDL_ckL]) rfl (ACall.of_body b (by simp) ?_)
  have h25 := hl.1
  have hsz := okL_sz hl
  by_cases h20 : 20 < l.length
  · have e0 : checkM form l = 4 := by simp [checkM, h20]
    rw [e0]
    simp (config := { maxSteps := 4000000 }) (disch := omega) only [step, stepv, ev, okW, onlyFr, Bool.false_and, Bool.true_and, sealw, wl, wn, wp, aop, cV, cV1, ↓reduceIte, Nat.reduceEqDiff, Nat.reduceAdd, Int.cast_ofNat_Int, if_true, if_false, AV.one, repCells, fillA, partCells, Nat.reduceLT, Nat.reduceLeDiff, Nat.reduceMul, Nat.reduceSub, Int.reduceLT, Int.reduceLE, Int.reduceAdd, Int.reduceSub, Int.reduceMul, Int.reduceToNat, sliceCells, cellsAt, srcA, app, reduceCtorEq, Int.reduceEq, Int.reduceNeg, Int.reducePow, Nat.reducePow, Int.reduceTDiv, Int.reduceDiv, Nat.reduceDiv, Nat.reduceMod, Int.reduceMod, Int.reduceTMod, ne_eq, subA, beq_iff_eq, unA, minA, maxA, eqFs, eqA1, beq_self_eq_true, Nat.reduceBEq, ac_riff_Check]
  · simp (config := { maxSteps := 4000000 }) (disch := omega) only [step, stepv, ev, okW, onlyFr, Bool.false_and, Bool.true_and, sealw, wl, wn, wp, aop, cV, cV1, ↓reduceIte, Nat.reduceEqDiff, Nat.reduceAdd, Int.cast_ofNat_Int, if_true, if_false, AV.one, repCells, fillA, partCells, Nat.reduceLT, Nat.reduceLeDiff, Nat.reduceMul, Nat.reduceSub, Int.reduceLT, Int.reduceLE, Int.reduceAdd, Int.reduceSub, Int.reduceMul, Int.reduceToNat, sliceCells, cellsAt, srcA, app, reduceCtorEq, Int.reduceEq, Int.reduceNeg, Int.reducePow, Nat.reducePow, Int.reduceTDiv, Int.reduceDiv, Nat.reduceDiv, Nat.reduceMod, Int.reduceMod, Int.reduceTMod, ne_eq, subA, beq_iff_eq, unA, minA, maxA, eqFs, eqA1, beq_self_eq_true, Nat.reduceBEq, ac_riff_Check]
    refine callQ.vc (hN form (by omega)) ?_
    cases hn : nameB form with
    | false =>
      have e0 : checkM form l = 8 := by simp [checkM, h20, hn]
      rw [e0]
      simp (config := { maxSteps := 4000000 }) (disch := omega) only [step, stepv, ev, okW, onlyFr, Bool.false_and, Bool.true_and, sealw, wl, wn, wp, aop, cV, cV1, ↓reduceIte, Nat.reduceEqDiff, Nat.reduceAdd, Int.cast_ofNat_Int, if_true, if_false, AV.one, repCells, fillA, partCells, Nat.reduceLT, Nat.reduceLeDiff, Nat.reduceMul, Nat.reduceSub, Int.reduceLT, Int.reduceLE, Int.reduceAdd, Int.reduceSub, Int.reduceMul, Int.reduceToNat, sliceCells, cellsAt, srcA, app, reduceCtorEq, Int.reduceEq, Int.reduceNeg, Int.reducePow, Nat.reducePow, Int.reduceTDiv, Int.reduceDiv, Nat.reduceDiv, Nat.reduceMod, Int.reduceMod, Int.reduceTMod, ne_eq, subA, beq_iff_eq, unA, minA, maxA, eqFs, eqA1, beq_self_eq_true, Nat.reduceBEq, hn]
    | true =>
      simp (config := { maxSteps := 4000000 }) (disch := omega) only [step, stepv, ev, okW, onlyFr, Bool.false_and, Bool.true_and, sealw, wl, wn, wp, aop, cV, cV1, ↓reduceIte, Nat.reduceEqDiff, Nat.reduceAdd, Int.cast_ofNat_Int, if_true, if_false, AV.one, repCells, fillA, partCells, Nat.reduceLT, Nat.reduceLeDiff, Nat.reduceMul, Nat.reduceSub, Int.reduceLT, Int.reduceLE, Int.reduceAdd, Int.reduceSub, Int.reduceMul, Int.reduceToNat, sliceCells, cellsAt, srcA, app, reduceCtorEq, Int.reduceEq, Int.reduceNeg, Int.reducePow, Nat.reducePow, Int.reduceTDiv, Int.reduceDiv, Nat.reduceDiv, Nat.reduceMod, Int.reduceMod, Int.reduceTMod, ne_eq, subA, beq_iff_eq, unA, minA, maxA, eqFs, eqA1, beq_self_eq_true, Nat.reduceBEq, hn]
      refine callQ.vc (hS l hl) ?_
      by_cases hbig : 100000 < 12 + szL l
      · have e0 : checkM form l = 8 := by simp [checkM, h20, hbig]
        rw [e0]
        simp (config := { maxSteps := 4000000 }) (disch := omega) only [step, stepv, ev, okW, onlyFr, Bool.false_and, Bool.true_and, sealw, wl, wn, wp, aop, cV, cV1, ↓reduceIte, Nat.reduceEqDiff, Nat.reduceAdd, Int.cast_ofNat_Int, if_true, if_false, AV.one, repCells, fillA, partCells, Nat.reduceLT, Nat.reduceLeDiff, Nat.reduceMul, Nat.reduceSub, Int.reduceLT, Int.reduceLE, Int.reduceAdd, Int.reduceSub, Int.reduceMul, Int.reduceToNat, sliceCells, cellsAt, srcA, app, reduceCtorEq, Int.reduceEq, Int.reduceNeg, Int.reducePow, Nat.reducePow, Int.reduceTDiv, Int.reduceDiv, Nat.reduceDiv, Nat.reduceMod, Int.reduceMod, Int.reduceTMod, ne_eq, subA, beq_iff_eq, unA, minA, maxA, eqFs, eqA1, beq_self_eq_true, Nat.reduceBEq]
      · simp (config := { maxSteps := 4000000 }) (disch := omega) only [step, stepv, ev, okW, onlyFr, Bool.false_and, Bool.true_and, sealw, wl, wn, wp, aop, cV, cV1, ↓reduceIte, Nat.reduceEqDiff, Nat.reduceAdd, Int.cast_ofNat_Int, if_true, if_false, AV.one, repCells, fillA, partCells, Nat.reduceLT, Nat.reduceLeDiff, Nat.reduceMul, Nat.reduceSub, Int.reduceLT, Int.reduceLE, Int.reduceAdd, Int.reduceSub, Int.reduceMul, Int.reduceToNat, sliceCells, cellsAt, srcA, app, reduceCtorEq, Int.reduceEq, Int.reduceNeg, Int.reducePow, Nat.reducePow, Int.reduceTDiv, Int.reduceDiv, Nat.reduceDiv, Nat.reduceMod, Int.reduceMod, Int.reduceTMod, ne_eq, subA, beq_iff_eq, unA, minA, maxA, eqFs, eqA1, beq_self_eq_true, Nat.reduceBEq]
        refine callQ.vc (hC l (fun c => !nameB c.1) f1 [] rfl (by omega) (fun x hx => h1 x (by have := (hl.2 x hx).1; omega))) ?_
        cases ha : l.any (fun c => !nameB c.1) with
        | true =>
          have e0 : checkM form l = 8 := by simp only [checkM, ha]; simp [h20]
          rw [e0]
          simp (config := { maxSteps := 4000000 }) (disch := omega) only [step, stepv, ev, okW, onlyFr, Bool.false_and, Bool.true_and, sealw, wl, wn, wp, aop, cV, cV1, ↓reduceIte, Nat.reduceEqDiff, Nat.reduceAdd, Int.cast_ofNat_Int, if_true, if_false, AV.one, repCells, fillA, partCells, Nat.reduceLT, Nat.reduceLeDiff, Nat.reduceMul, Nat.reduceSub, Int.reduceLT, Int.reduceLE, Int.reduceAdd, Int.reduceSub, Int.reduceMul, Int.reduceToNat, sliceCells, cellsAt, srcA, app, reduceCtorEq, Int.reduceEq, Int.reduceNeg, Int.reducePow, Nat.reducePow, Int.reduceTDiv, Int.reduceDiv, Nat.reduceDiv, Nat.reduceMod, Int.reduceMod, Int.reduceTMod, ne_eq, subA, beq_iff_eq, unA, minA, maxA, eqFs, eqA1, beq_self_eq_true, Nat.reduceBEq]
        | false =>
          have e0 : checkM form l = 0 := by simp only [checkM, ha, hn]; simp [h20, hbig]
          rw [e0]
          simp (config := { maxSteps := 4000000 }) (disch := omega) only [step, stepv, ev, okW, onlyFr, Bool.false_and, Bool.true_and, sealw, wl, wn, wp, aop, cV, cV1, ↓reduceIte, Nat.reduceEqDiff, Nat.reduceAdd, Int.cast_ofNat_Int, if_true, if_false, AV.one, repCells, fillA, partCells, Nat.reduceLT, Nat.reduceLeDiff, Nat.reduceMul, Nat.reduceSub, Int.reduceLT, Int.reduceLE, Int.reduceAdd, Int.reduceSub, Int.reduceMul, Int.reduceToNat, sliceCells, cellsAt, srcA, app, reduceCtorEq, Int.reduceEq, Int.reduceNeg, Int.reducePow, Nat.reducePow, Int.reduceTDiv, Int.reduceDiv, Nat.reduceDiv, Nat.reduceMod, Int.reduceMod, Int.reduceTMod, ne_eq, subA, beq_iff_eq, unA, minA, maxA, eqFs, eqA1, beq_self_eq_true, Nat.reduceBEq]

/-- The first chunk with a name. -/
def findM (l : List Ck) (id : List UInt8) : Option Nat := l.findIdx? (fun c => c.1 == id)
def findA : Option Nat → AV
  | none => .tup [.int .i64 0, .int .i64 6]
  | some i => .tup [.int .i64 i, .int .i64 0]
theorem isD_find (r : Option Nat) : isD (findA r) = true := by cases r <;> rfl

def S_Find1 (P : Prg) (f : Nat) : Prop := ∀ (c : Ck) (id : List UInt8), VC P f [ckA c, .cell [.str id]] (.bool (c.1 == id))
theorem riff_Find1 {P : Prg} {f t0 : Nat} (b : Body P f 8 [.tmp 3] (ac_riff_Find_1 t0)) : S_Find1 P f := by
  intro c id
  refine VC.of_acall (by simp [isDL, isD, ckA, isD_bs]) rfl (ACall.of_body b (by simp) ?_)
  simp (config := { maxSteps := 4000000 }) (disch := omega) only [step, stepv, ev, okW, onlyFr, Bool.false_and, Bool.true_and, sealw, wl, wn, wp, aop, cV, cV1, ↓reduceIte, Nat.reduceEqDiff, Nat.reduceAdd, Int.cast_ofNat_Int, if_true, if_false, AV.one, repCells, fillA, partCells, Nat.reduceLT, Nat.reduceLeDiff, Nat.reduceMul, Nat.reduceSub, Int.reduceLT, Int.reduceLE, Int.reduceAdd, Int.reduceSub, Int.reduceMul, Int.reduceToNat, sliceCells, cellsAt, srcA, app, reduceCtorEq, Int.reduceEq, Int.reduceNeg, Int.reducePow, Nat.reducePow, Int.reduceTDiv, Int.reduceDiv, Nat.reduceDiv, Nat.reduceMod, Int.reduceMod, Int.reduceTMod, ne_eq, subA, beq_iff_eq, unA, minA, maxA, eqFs, eqA1, beq_self_eq_true, Nat.reduceBEq, ac_riff_Find_1, ckA, bs, strA]

def S_Find (P : Prg) (f : Nat) : Prop := ∀ (l : List Ck) (id : List UInt8), l.length ≤ 4611686018427387904 → VC P f [.list l.length (ckL l), .str id] (findA (findM l id))

theorem findM_lt {l : List Ck} {id : List UInt8} {i : Nat} (h : findM l id = some i) : i < l.length := by
  have := List.findIdx?_eq_some_iff_getElem.1 h
  exact this.1

theorem riff_Find {P : Prg} {f f1 fI t0 : Nat} (b : Body P f 13 [.tmp 4, .tmp 5] (ac_riff_Find f1 fI t0)) (h1 : S_Find1 P f1) (hI : S_IndexF2 P fI) : S_Find P f := by
  intro l id hl
  refine VC.of_walk 1 (by simp [isDL, isD, isDL_ckL]) (isD_find _) (ACall.of_body b (by simp) ?_)
  simp (config := { maxSteps := 4000000 }) (disch := omega) only [step, stepv, ev, okW, onlyFr, Bool.false_and, Bool.true_and, sealw, wl, wn, wp, aop, cV, cV1, ↓reduceIte, Nat.reduceEqDiff, Nat.reduceAdd, Int.cast_ofNat_Int, if_true, if_false, AV.one, repCells, fillA, partCells, Nat.reduceLT, Nat.reduceLeDiff, Nat.reduceMul, Nat.reduceSub, Int.reduceLT, Int.reduceLE, Int.reduceAdd, Int.reduceSub, Int.reduceMul, Int.reduceToNat, sliceCells, cellsAt, srcA, app, reduceCtorEq, Int.reduceEq, Int.reduceNeg, Int.reducePow, Nat.reducePow, Int.reduceTDiv, Int.reduceDiv, Nat.reduceDiv, Nat.reduceMod, Int.reduceMod, Int.reduceTMod, ne_eq, subA, beq_iff_eq, unA, minA, maxA, eqFs, eqA1, beq_self_eq_true, Nat.reduceBEq, ac_riff_Find]
  have hv := hI l (fun c => c.1 == id) f1 [.cell [.str id]] rfl hl (fun x _ => h1 x id)
  refine callQ.flat 1 hv rfl ?_ ?_
  · simp [frzN, frzK, frzL, frzV, frzL_T _ (isT_ckL l), isDL, isD]
  · cases hf : findM l id with
    | none =>
      have e1 : idxI (fun c : Ck => c.1 == id) l = -1 := by simp only [idxI]; rw [show List.findIdx? (fun c : Ck => c.1 == id) l = none from hf]
      rw [e1]
      simp (config := { maxSteps := 4000000 }) (disch := omega) only [step, stepv, ev, okW, onlyFr, Bool.false_and, Bool.true_and, sealw, wl, wn, wp, aop, cV, cV1, ↓reduceIte, Nat.reduceEqDiff, Nat.reduceAdd, Int.cast_ofNat_Int, if_true, if_false, AV.one, repCells, fillA, partCells, Nat.reduceLT, Nat.reduceLeDiff, Nat.reduceMul, Nat.reduceSub, Int.reduceLT, Int.reduceLE, Int.reduceAdd, Int.reduceSub, Int.reduceMul, Int.reduceToNat, sliceCells, cellsAt, srcA, app, reduceCtorEq, Int.reduceEq, Int.reduceNeg, Int.reducePow, Nat.reducePow, Int.reduceTDiv, Int.reduceDiv, Nat.reduceDiv, Nat.reduceMod, Int.reduceMod, Int.reduceTMod, ne_eq, subA, beq_iff_eq, unA, minA, maxA, eqFs, eqA1, beq_self_eq_true, Nat.reduceBEq]
      simp [frzN, frzK, frzL, frzV, findA]
    | some i =>
      have e1 : idxI (fun c : Ck => c.1 == id) l = i := by simp only [idxI]; rw [show List.findIdx? (fun c : Ck => c.1 == id) l = some i from hf]
      have hi := findM_lt hf
      rw [e1]
      simp (config := { maxSteps := 4000000 }) (disch := omega) only [step, stepv, ev, okW, onlyFr, Bool.false_and, Bool.true_and, sealw, wl, wn, wp, aop, cV, cV1, ↓reduceIte, Nat.reduceEqDiff, Nat.reduceAdd, Int.cast_ofNat_Int, if_true, if_false, AV.one, repCells, fillA, partCells, Nat.reduceLT, Nat.reduceLeDiff, Nat.reduceMul, Nat.reduceSub, Int.reduceLT, Int.reduceLE, Int.reduceAdd, Int.reduceSub, Int.reduceMul, Int.reduceToNat, sliceCells, cellsAt, srcA, app, reduceCtorEq, Int.reduceEq, Int.reduceNeg, Int.reducePow, Nat.reducePow, Int.reduceTDiv, Int.reduceDiv, Nat.reduceDiv, Nat.reduceMod, Int.reduceMod, Int.reduceTMod, ne_eq, subA, beq_iff_eq, unA, minA, maxA, eqFs, eqA1, beq_self_eq_true, Nat.reduceBEq]
      simp [frzN, frzK, frzL, frzV, findA]

end Go.Am

namespace Go.Am
open Go.RowKit Go.Shelf Go.Proofs

/-! ### Write -/

def ckB (c : Ck) : List UInt8 := c.1 ++ leB c.2.length 4 ++ c.2 ++ List.replicate (c.2.length % 2) 0
def bytesM (form : List UInt8) (l : List Ck) : List UInt8 := riffW ++ leB (4 + szL l) 4 ++ form ++ l.flatMap ckB

/-- How the given program's own library is laid. -/
structure BufW (P : Prg) (ρ : Ren) (fT fL fR fS g0 fW fX fB : Nat) : Prop where
  L : LaysM.n252 P.prog ρ
  B : BufB P fT (ρ.f 252) fL fR fS (ρ.t 5) g0
  W : Body P fW 32 [.tmp 4, .tmp 5] (ac_bytes_Buffer_WriteString fT (ρ.f 252))
  X : Body P fX 32 [.tmp 4, .tmp 5] (ac_bytes_Buffer_Write fT (ρ.f 252))
  Y : Body P fB 12 [.tmp 2] ac_bytes_Buffer_Bytes

section
variable {P : Prg} {ρ : Ren} {fT fL fR fS g0 fW fX fB : Nat}

theorem buf_Bytes (A : BufW P ρ fT fL fR fS g0 fW fX fB) {ob : List Ob} {p o n tB t5 : Nat} {lr : Int} {cs : List AV} (hp : ob[p]? = some (bufO tB (.own o n) lr)) (ho : ob[o]? = some ⟨t5, 1, n, cs, 0⟩) (hn : 0 < n) {K : AV → List Ob → Prop} (hK : K (.view o n 0 n) ob) :
    ACall P fB [.ref p 1 0] ob K := by
  refine ACall.of_body A.Y (by simp) ?_
  simp only [bufO] at hp
  have nz : (n = 0) = False := eq_false (by omega)
  have z : ((n : Int) - 0).toNat = n := by omega
  simp (config := { maxSteps := 4000000 }) (disch := omega) only [step, stepv, ev, okW, onlyFr, Bool.false_and, Bool.true_and, sealw, wl, wn, wp, aop, cV, cV1, ↓reduceIte, Nat.reduceEqDiff, Nat.reduceAdd, Int.cast_ofNat_Int, if_true, if_false, AV.one, repCells, fillA, partCells, Nat.reduceLT, Nat.reduceLeDiff, Nat.reduceMul, Nat.reduceSub, Int.reduceLT, Int.reduceLE, Int.reduceAdd, Int.reduceSub, Int.reduceMul, Int.reduceToNat, sliceCells, cellsAt, srcA, app, reduceCtorEq, Int.reduceEq, Int.reduceNeg, Int.reducePow, Nat.reducePow, Int.reduceTDiv, Int.reduceDiv, Nat.reduceDiv, Nat.reduceMod, Int.reduceMod, Int.reduceTMod, ne_eq, subA, beq_iff_eq, unA, minA, maxA, eqFs, eqA1, beq_self_eq_true, Nat.reduceBEq, ac_bytes_Buffer_Bytes, hp, ho, nz, z, not_false_eq_true, and_true]
  exact hK

/-- head, into a buffer that holds nothing yet. -/
theorem head_emp {f fLe : Nat} (A : BufW P ρ fT fL fR fS g0 fW fX fB) (b : Body P f 17 [] (ac_riff_Write_1 fLe fW fX)) (hLe : S_leBytes P fLe)
    {ob : List Ob} {p tB n : Nat} {lr : Int} {s : List UInt8} (hp : ob[p]? = some (bufO tB (.emp true) lr)) (h0 : 0 < s.length) (h64 : s.length ≤ 64) (hn : n < 4294967296)
    {K : AV → List Ob → Prop} (hK : K (.tup []) ((ob ++ ([⟨ρ.t 5, 1, s.length + 4, u8 (s ++ leB n 4), 0⟩] : List Ob)).set p (bufO tB (.own ob.length (s.length + 4)) 0))) : ACall P f [.str s, .int .i64 n, .ref p 1 0] ob K := by
  refine ACall.of_body b (by simp) ?_
  have hpl : p < ob.length := (List.getElem?_eq_some_iff.1 hp).1
  simp (config := { maxSteps := 4000000 }) (disch := omega) only [step, stepv, ev, okW, onlyFr, Bool.false_and, Bool.true_and, sealw, wl, wn, wp, aop, cV, cV1, ↓reduceIte, Nat.reduceEqDiff, Nat.reduceAdd, Int.cast_ofNat_Int, if_true, if_false, AV.one, repCells, fillA, partCells, Nat.reduceLT, Nat.reduceLeDiff, Nat.reduceMul, Nat.reduceSub, Int.reduceLT, Int.reduceLE, Int.reduceAdd, Int.reduceSub, Int.reduceMul, Int.reduceToNat, sliceCells, cellsAt, srcA, app, reduceCtorEq, Int.reduceEq, Int.reduceNeg, Int.reducePow, Nat.reducePow, Int.reduceTDiv, Int.reduceDiv, Nat.reduceDiv, Nat.reduceMod, Int.reduceMod, Int.reduceTMod, ne_eq, subA, beq_iff_eq, unA, minA, maxA, eqFs, eqA1, beq_self_eq_true, Nat.reduceBEq, ac_riff_Write_1]
  refine callQ.vc (hLe n 4 (by omega) (by omega) (by omega)) ?_
  simp (config := { maxSteps := 4000000 }) (disch := omega) only [step, stepv, ev, okW, onlyFr, Bool.false_and, Bool.true_and, sealw, wl, wn, wp, aop, cV, cV1, ↓reduceIte, Nat.reduceEqDiff, Nat.reduceAdd, Int.cast_ofNat_Int, if_true, if_false, AV.one, repCells, fillA, partCells, Nat.reduceLT, Nat.reduceLeDiff, Nat.reduceMul, Nat.reduceSub, Int.reduceLT, Int.reduceLE, Int.reduceAdd, Int.reduceSub, Int.reduceMul, Int.reduceToNat, sliceCells, cellsAt, srcA, app, reduceCtorEq, Int.reduceEq, Int.reduceNeg, Int.reducePow, Nat.reducePow, Int.reduceTDiv, Int.reduceDiv, Nat.reduceDiv, Nat.reduceMod, Int.reduceMod, Int.reduceTMod, ne_eq, subA, beq_iff_eq, unA, minA, maxA, eqFs, eqA1, beq_self_eq_true, Nat.reduceBEq, bs]
  refine writeString_emp A.B A.W hp h0 h64 ?_
  simp (config := { maxSteps := 4000000 }) (disch := omega) only [step, stepv, ev, okW, onlyFr, Bool.false_and, Bool.true_and, sealw, wl, wn, wp, aop, cV, cV1, ↓reduceIte, Nat.reduceEqDiff, Nat.reduceAdd, Int.cast_ofNat_Int, if_true, if_false, AV.one, repCells, fillA, partCells, Nat.reduceLT, Nat.reduceLeDiff, Nat.reduceMul, Nat.reduceSub, Int.reduceLT, Int.reduceLE, Int.reduceAdd, Int.reduceSub, Int.reduceMul, Int.reduceToNat, sliceCells, cellsAt, srcA, app, reduceCtorEq, Int.reduceEq, Int.reduceNeg, Int.reducePow, Nat.reducePow, Int.reduceTDiv, Int.reduceDiv, Nat.reduceDiv, Nat.reduceMod, Int.reduceMod, Int.reduceTMod, ne_eq, subA, beq_iff_eq, unA, minA, maxA, eqFs, eqA1, beq_self_eq_true, Nat.reduceBEq, leB_length]
  have g1 : ((ob ++ ([⟨ρ.t 5, 1, s.length, u8 s, 0⟩] : List Ob)).set p (bufO tB (.own ob.length s.length) 0))[p]? = some (bufO tB (.own ob.length s.length) 0) := by rw [List.getElem?_set_self (by simp; omega)]
  have g2 : ((ob ++ ([⟨ρ.t 5, 1, s.length, u8 s, 0⟩] : List Ob)).set p (bufO tB (.own ob.length s.length) 0))[ob.length]? = some ⟨ρ.t 5, 1, s.length, u8 s, 0⟩ := by
    rw [List.getElem?_set_ne (by omega), List.getElem?_append_right (by omega)]; simp
  have hw := write_list (K := fun r ob' => wpQ P [] (endA P [] K) ⟨putA ([(15, .list 4 (u8 (leB n 4))), (14, .tup [.int .i64 s.length, .lit .nilIface]), (13, .str s), (6, .int .i64 0), (5, .list 4 (u8 (leB n 4))), (12, .int .i64 0), (11, .list 4 (u8 (leB n 4))), (7, .tup [.list 4 (u8 (leB n 4)), .int .i64 0]), (10, .tup [.list 4 (u8 (leB n 4)), .int .i64 0]), (9, .int .u64 n), (8, .int .i64 n), (0, .str s), (1, .int .i64 n), (2, .ref p 1 0)]) (some 16) r, ob'⟩)
    A.L A.B A.X (s := leB n 4) g1 g2 (by rw [u8_length]) (by omega) h0 (by rw [leB_length]; omega)
  rw [leB_length] at hw
  refine hw ?_
  simp (config := { maxSteps := 4000000 }) (disch := omega) only [step, stepv, ev, okW, onlyFr, Bool.false_and, Bool.true_and, sealw, wl, wn, wp, aop, cV, cV1, ↓reduceIte, Nat.reduceEqDiff, Nat.reduceAdd, Int.cast_ofNat_Int, if_true, if_false, AV.one, repCells, fillA, partCells, Nat.reduceLT, Nat.reduceLeDiff, Nat.reduceMul, Nat.reduceSub, Int.reduceLT, Int.reduceLE, Int.reduceAdd, Int.reduceSub, Int.reduceMul, Int.reduceToNat, sliceCells, cellsAt, srcA, app, reduceCtorEq, Int.reduceEq, Int.reduceNeg, Int.reducePow, Nat.reducePow, Int.reduceTDiv, Int.reduceDiv, Nat.reduceDiv, Nat.reduceMod, Int.reduceMod, Int.reduceTMod, ne_eq, subA, beq_iff_eq, unA, minA, maxA, eqFs, eqA1, beq_self_eq_true, Nat.reduceBEq]
  have e1 : upd2 ((ob ++ ([⟨ρ.t 5, 1, s.length, u8 s, 0⟩] : List Ob)).set p (bufO tB (.own ob.length s.length) 0)) ob.length p ⟨ρ.t 5, 1, s.length + 4, u8 s ++ u8 (leB n 4), 0⟩ (bufO tB (.own ob.length (s.length + 4)) 0) = (ob ++ ([⟨ρ.t 5, 1, s.length + 4, u8 (s ++ leB n 4), 0⟩] : List Ob)).set p (bufO tB (.own ob.length (s.length + 4)) 0) := by
    unfold upd2
    rw [List.set_comm _ _ (by omega : p ≠ ob.length), List.set_set, u8_append]
    congr 1
    rw [List.set_append_right _ _ (by omega)]
    simp
  simp only [u8_append] at e1 ⊢
  rw [e1]
  exact hK

/-- head, into a buffer that holds something. -/
theorem head_own {f fLe : Nat} (A : BufW P ρ fT fL fR fS g0 fW fX fB) (b : Body P f 17 [] (ac_riff_Write_1 fLe fW fX)) (hLe : S_leBytes P fLe)
    {ob : List Ob} {p o tB n : Nat} {lr : Int} {s pre : List UInt8} (hp : ob[p]? = some (bufO tB (.own o pre.length) lr)) (ho : ob[o]? = some ⟨ρ.t 5, 1, pre.length, u8 pre, 0⟩) (hpo : p ≠ o) (h0 : 0 < pre.length) (hl : pre.length + s.length ≤ 140737488355320) (hn : n < 4294967296)
    {K : AV → List Ob → Prop} (hK : K (.tup []) (upd2 ob o p ⟨ρ.t 5, 1, (pre ++ s ++ leB n 4).length, u8 (pre ++ s ++ leB n 4), 0⟩ (bufO tB (.own o (pre ++ s ++ leB n 4).length) 0))) : ACall P f [.str s, .int .i64 n, .ref p 1 0] ob K := by
  refine ACall.of_body b (by simp) ?_
  have hpl : p < ob.length := (List.getElem?_eq_some_iff.1 hp).1
  have hol : o < ob.length := (List.getElem?_eq_some_iff.1 ho).1
  simp (config := { maxSteps := 4000000 }) (disch := omega) only [step, stepv, ev, okW, onlyFr, Bool.false_and, Bool.true_and, sealw, wl, wn, wp, aop, cV, cV1, ↓reduceIte, Nat.reduceEqDiff, Nat.reduceAdd, Int.cast_ofNat_Int, if_true, if_false, AV.one, repCells, fillA, partCells, Nat.reduceLT, Nat.reduceLeDiff, Nat.reduceMul, Nat.reduceSub, Int.reduceLT, Int.reduceLE, Int.reduceAdd, Int.reduceSub, Int.reduceMul, Int.reduceToNat, sliceCells, cellsAt, srcA, app, reduceCtorEq, Int.reduceEq, Int.reduceNeg, Int.reducePow, Nat.reducePow, Int.reduceTDiv, Int.reduceDiv, Nat.reduceDiv, Nat.reduceMod, Int.reduceMod, Int.reduceTMod, ne_eq, subA, beq_iff_eq, unA, minA, maxA, eqFs, eqA1, beq_self_eq_true, Nat.reduceBEq, ac_riff_Write_1]
  refine callQ.vc (hLe n 4 (by omega) (by omega) (by omega)) ?_
  simp (config := { maxSteps := 4000000 }) (disch := omega) only [step, stepv, ev, okW, onlyFr, Bool.false_and, Bool.true_and, sealw, wl, wn, wp, aop, cV, cV1, ↓reduceIte, Nat.reduceEqDiff, Nat.reduceAdd, Int.cast_ofNat_Int, if_true, if_false, AV.one, repCells, fillA, partCells, Nat.reduceLT, Nat.reduceLeDiff, Nat.reduceMul, Nat.reduceSub, Int.reduceLT, Int.reduceLE, Int.reduceAdd, Int.reduceSub, Int.reduceMul, Int.reduceToNat, sliceCells, cellsAt, srcA, app, reduceCtorEq, Int.reduceEq, Int.reduceNeg, Int.reducePow, Nat.reducePow, Int.reduceTDiv, Int.reduceDiv, Nat.reduceDiv, Nat.reduceMod, Int.reduceMod, Int.reduceTMod, ne_eq, subA, beq_iff_eq, unA, minA, maxA, eqFs, eqA1, beq_self_eq_true, Nat.reduceBEq, bs]
  refine writeString_own A.L A.B A.W hp ho (by rw [u8_length]) hpo h0 (by omega) ?_
  simp (config := { maxSteps := 4000000 }) (disch := omega) only [step, stepv, ev, okW, onlyFr, Bool.false_and, Bool.true_and, sealw, wl, wn, wp, aop, cV, cV1, ↓reduceIte, Nat.reduceEqDiff, Nat.reduceAdd, Int.cast_ofNat_Int, if_true, if_false, AV.one, repCells, fillA, partCells, Nat.reduceLT, Nat.reduceLeDiff, Nat.reduceMul, Nat.reduceSub, Int.reduceLT, Int.reduceLE, Int.reduceAdd, Int.reduceSub, Int.reduceMul, Int.reduceToNat, sliceCells, cellsAt, srcA, app, reduceCtorEq, Int.reduceEq, Int.reduceNeg, Int.reducePow, Nat.reducePow, Int.reduceTDiv, Int.reduceDiv, Nat.reduceDiv, Nat.reduceMod, Int.reduceMod, Int.reduceTMod, ne_eq, subA, beq_iff_eq, unA, minA, maxA, eqFs, eqA1, beq_self_eq_true, Nat.reduceBEq, leB_length]
  have hw := write_list (K := fun r ob' => wpQ P [] (endA P [] K) ⟨putA ([(15, .list 4 (u8 (leB n 4))), (14, .tup [.int .i64 s.length, .lit .nilIface]), (13, .str s), (6, .int .i64 0), (5, .list 4 (u8 (leB n 4))), (12, .int .i64 0), (11, .list 4 (u8 (leB n 4))), (7, .tup [.list 4 (u8 (leB n 4)), .int .i64 0]), (10, .tup [.list 4 (u8 (leB n 4)), .int .i64 0]), (9, .int .u64 n), (8, .int .i64 n), (0, .str s), (1, .int .i64 n), (2, .ref p 1 0)]) (some 16) r, ob'⟩)
    (ob := upd2 ob o p ⟨ρ.t 5, 1, pre.length + s.length, u8 (pre ++ s), 0⟩ (bufO tB (.own o (pre.length + s.length)) 0)) (cs := u8 (pre ++ s)) (n := pre.length + s.length) A.L A.B A.X (s := leB n 4) (upd2_gp hpl) (upd2_go hol hpo) (by rw [u8_length, List.length_append]) hpo (by omega) (by rw [leB_length]; omega)
  rw [leB_length] at hw
  simp only [u8_append] at hw ⊢
  refine hw ?_
  simp (config := { maxSteps := 4000000 }) (disch := omega) only [step, stepv, ev, okW, onlyFr, Bool.false_and, Bool.true_and, sealw, wl, wn, wp, aop, cV, cV1, ↓reduceIte, Nat.reduceEqDiff, Nat.reduceAdd, Int.cast_ofNat_Int, if_true, if_false, AV.one, repCells, fillA, partCells, Nat.reduceLT, Nat.reduceLeDiff, Nat.reduceMul, Nat.reduceSub, Int.reduceLT, Int.reduceLE, Int.reduceAdd, Int.reduceSub, Int.reduceMul, Int.reduceToNat, sliceCells, cellsAt, srcA, app, reduceCtorEq, Int.reduceEq, Int.reduceNeg, Int.reducePow, Nat.reducePow, Int.reduceTDiv, Int.reduceDiv, Nat.reduceDiv, Nat.reduceMod, Int.reduceMod, Int.reduceTMod, ne_eq, subA, beq_iff_eq, unA, minA, maxA, eqFs, eqA1, beq_self_eq_true, Nat.reduceBEq]
  have e1 : upd2 (upd2 ob o p ⟨ρ.t 5, 1, pre.length + s.length, u8 (pre ++ s), 0⟩ (bufO tB (.own o (pre.length + s.length)) 0)) o p ⟨ρ.t 5, 1, pre.length + s.length + 4, u8 (pre ++ s) ++ u8 (leB n 4), 0⟩ (bufO tB (.own o (pre.length + s.length + 4)) 0)
      = upd2 ob o p ⟨ρ.t 5, 1, (pre ++ s ++ leB n 4).length, u8 (pre ++ s ++ leB n 4), 0⟩ (bufO tB (.own o (pre ++ s ++ leB n 4).length) 0) := by
    rw [show upd2 (upd2 ob o p ⟨ρ.t 5, 1, pre.length + s.length, u8 (pre ++ s), 0⟩ (bufO tB (.own o (pre.length + s.length)) 0)) o p ⟨ρ.t 5, 1, pre.length + s.length + 4, u8 (pre ++ s) ++ u8 (leB n 4), 0⟩ (bufO tB (.own o (pre.length + s.length + 4)) 0) = ((upd2 ob o p ⟨ρ.t 5, 1, pre.length + s.length, u8 (pre ++ s), 0⟩ (bufO tB (.own o (pre.length + s.length)) 0)).set o ⟨ρ.t 5, 1, pre.length + s.length + 4, u8 (pre ++ s) ++ u8 (leB n 4), 0⟩).set p (bufO tB (.own o (pre.length + s.length + 4)) 0) from rfl, upd2_o hpo, upd2_p, u8_append]
    simp only [List.length_append, leB_length]
  simp only [u8_append] at e1
  rw [e1]
  exact hK
end
end Go.Am

namespace Go.Am
open Go.RowKit Go.Shelf Go.Proofs

theorem ckB_length (c : Ck) : (ckB c).length = c.1.length + c.2.length + c.2.length % 2 + 4 := by
  simp only [ckB, List.length_append, leB_length, List.length_replicate]; omega

theorem flat_take_succ {l : List Ck} {k : Nat} (h : k < l.length) : (l.take (k + 1)).flatMap ckB = (l.take k).flatMap ckB ++ ckB l[k] := by
  rw [List.take_succ_eq_append_getElem h, List.flatMap_append]; simp

theorem flat_len {l : List Ck} (h : okL l) : ∀ k, k ≤ l.length → ((l.take k).flatMap ckB).length ≤ k * 100300
  | 0, _ => by simp
  | k + 1, hk => by
    have h1 := flat_len h k (by omega)
    obtain ⟨h2, h3⟩ := okL_at h (k := k) (by omega)
    rw [flat_take_succ (by omega), List.length_append, ckB_length]
    omega

/-- What is written so far. -/
def preM (form : List UInt8) (l : List Ck) (k : Nat) : List UInt8 := riffW ++ leB (4 + szL l) 4 ++ form ++ (l.take k).flatMap ckB

theorem preM_len {form : List UInt8} {l : List Ck} (k : Nat) : (preM form l k).length = 8 + form.length + ((l.take k).flatMap ckB).length := by
  simp only [preM, List.length_append, leB_length, riffW, List.length_cons, List.length_nil]

def writeA (form : List UInt8) (l : List Ck) : AV := if checkM form l = 0 then .tup [bs (bytesM form l), .int .i64 0] else .tup [bs [], .int .i64 (checkM form l)]
theorem isD_write (form : List UInt8) (l : List Ck) : isD (writeA form l) = true := by
  unfold writeA; split <;> simp [isD, isDL, isD_bs]

def S_Write (P : Prg) (f : Nat) : Prop := ∀ (form : List UInt8) (l : List Ck), form.length ≤ 20 → okL l → VC P f [.str form, .list l.length (ckL l)] (writeA form l)

theorem rep0 (k : Nat) : repCells [AV.int .u8 0] k = u8 (List.replicate k 0) := by
  induction k with
  | zero => rfl
  | succ k ih => simp [repCells, ih, List.replicate_succ, u8]

set_option maxHeartbeats 1000000 in
theorem riff_Write {P : Prg} {ρ : Ren} {fT fL fR fS g0 fW fX fB f fC f1 fZ fLe t0 t1 t2 : Nat} (A : BufW P ρ fT fL fR fS g0 fW fX fB) (b : Body P f 48 [.tmp 4, .tmp 5] (ac_riff_Write fC f1 fZ fW fX fB t0 t1 t2))
    (hC : S_Check P fC) (b1 : Body P f1 17 [] (ac_riff_Write_1 fLe fW fX)) (hLe : S_leBytes P fLe) (hZ : S_size P fZ 4) : S_Write P f := by
  intro form l hf hl
  refine VC.of_walk 1 (by simp [isDL, isD, isDL_ckL]) (isD_write _ _) (ACall.of_body b (by simp) ?_)
  have h25 := hl.1
  have hsz := okL_sz hl
  simp (config := { maxSteps := 4000000 }) (disch := omega) only [step, stepv, ev, okW, onlyFr, Bool.false_and, Bool.true_and, sealw, wl, wn, wp, aop, cV, cV1, ↓reduceIte, Nat.reduceEqDiff, Nat.reduceAdd, Int.cast_ofNat_Int, if_true, if_false, AV.one, repCells, fillA, partCells, Nat.reduceLT, Nat.reduceLeDiff, Nat.reduceMul, Nat.reduceSub, Int.reduceLT, Int.reduceLE, Int.reduceAdd, Int.reduceSub, Int.reduceMul, Int.reduceToNat, sliceCells, cellsAt, srcA, app, reduceCtorEq, Int.reduceEq, Int.reduceNeg, Int.reducePow, Nat.reducePow, Int.reduceTDiv, Int.reduceDiv, Nat.reduceDiv, Nat.reduceMod, Int.reduceMod, Int.reduceTMod, ne_eq, subA, beq_iff_eq, unA, minA, maxA, eqFs, eqA1, beq_self_eq_true, Nat.reduceBEq, ac_riff_Write]
  refine callQ.vc (hC form l hf hl) ?_
  by_cases h0 : checkM form l = 0
  · simp only [writeA, if_pos h0]
    rw [h0]
    simp (config := { maxSteps := 4000000 }) (disch := omega) only [step, stepv, ev, okW, onlyFr, Bool.false_and, Bool.true_and, sealw, wl, wn, wp, aop, cV, cV1, ↓reduceIte, Nat.reduceEqDiff, Nat.reduceAdd, Int.cast_ofNat_Int, if_true, if_false, AV.one, repCells, fillA, partCells, Nat.reduceLT, Nat.reduceLeDiff, Nat.reduceMul, Nat.reduceSub, Int.reduceLT, Int.reduceLE, Int.reduceAdd, Int.reduceSub, Int.reduceMul, Int.reduceToNat, sliceCells, cellsAt, srcA, app, reduceCtorEq, Int.reduceEq, Int.reduceNeg, Int.reducePow, Nat.reducePow, Int.reduceTDiv, Int.reduceDiv, Nat.reduceDiv, Nat.reduceMod, Int.reduceMod, Int.reduceTMod, ne_eq, subA, beq_iff_eq, unA, minA, maxA, eqFs, eqA1, beq_self_eq_true, Nat.reduceBEq]
    refine callQ.vc (hZ l hl) ?_
    simp (config := { maxSteps := 4000000 }) (disch := omega) only [step, stepv, ev, okW, onlyFr, Bool.false_and, Bool.true_and, sealw, wl, wn, wp, aop, cV, cV1, ↓reduceIte, Nat.reduceEqDiff, Nat.reduceAdd, Int.cast_ofNat_Int, if_true, if_false, AV.one, repCells, fillA, partCells, Nat.reduceLT, Nat.reduceLeDiff, Nat.reduceMul, Nat.reduceSub, Int.reduceLT, Int.reduceLE, Int.reduceAdd, Int.reduceSub, Int.reduceMul, Int.reduceToNat, sliceCells, cellsAt, srcA, app, reduceCtorEq, Int.reduceEq, Int.reduceNeg, Int.reducePow, Nat.reducePow, Int.reduceTDiv, Int.reduceDiv, Nat.reduceDiv, Nat.reduceMod, Int.reduceMod, Int.reduceTMod, ne_eq, subA, beq_iff_eq, unA, minA, maxA, eqFs, eqA1, beq_self_eq_true, Nat.reduceBEq]
    have e0 : ([82, 73, 70, 70] : List UInt8) = riffW := rfl
    rw [e0]
    refine head_emp A b1 hLe (ob := [bufO t0 (.emp true) 0]) rfl (by decide) (by decide) (n := 4 + szL l) (by omega) ?_
    simp (config := { maxSteps := 4000000 }) (disch := omega) only [step, stepv, ev, okW, onlyFr, Bool.false_and, Bool.true_and, sealw, wl, wn, wp, aop, cV, cV1, ↓reduceIte, Nat.reduceEqDiff, Nat.reduceAdd, Int.cast_ofNat_Int, if_true, if_false, AV.one, repCells, fillA, partCells, Nat.reduceLT, Nat.reduceLeDiff, Nat.reduceMul, Nat.reduceSub, Int.reduceLT, Int.reduceLE, Int.reduceAdd, Int.reduceSub, Int.reduceMul, Int.reduceToNat, sliceCells, cellsAt, srcA, app, reduceCtorEq, Int.reduceEq, Int.reduceNeg, Int.reducePow, Nat.reducePow, Int.reduceTDiv, Int.reduceDiv, Nat.reduceDiv, Nat.reduceMod, Int.reduceMod, Int.reduceTMod, ne_eq, subA, beq_iff_eq, unA, minA, maxA, eqFs, eqA1, beq_self_eq_true, Nat.reduceBEq, bufO]
    have e1 : riffW.length + 4 = (riffW ++ leB (4 + szL l) 4).length := by rw [List.length_append, leB_length]
    rw [e1]
    refine writeString_own (cs := u8 (riffW ++ leB (4 + szL l) 4)) (o := 1) A.L A.B A.W rfl rfl (u8_length _) (by decide) (by rw [List.length_append, leB_length]; omega) (by rw [List.length_append, leB_length]; simp [riffW]; omega) ?_
    simp only [upd2, bufO, List.set_cons_succ, List.set_cons_zero, u8_append]
    rw [← List.length_append]
    simp (config := { maxSteps := 4000000 }) (disch := omega) only [step, stepv, ev, okW, onlyFr, Bool.false_and, Bool.true_and, sealw, wl, wn, wp, aop, cV, cV1, ↓reduceIte, Nat.reduceEqDiff, Nat.reduceAdd, Int.cast_ofNat_Int, if_true, if_false, AV.one, repCells, fillA, partCells, Nat.reduceLT, Nat.reduceLeDiff, Nat.reduceMul, Nat.reduceSub, Int.reduceLT, Int.reduceLE, Int.reduceAdd, Int.reduceSub, Int.reduceMul, Int.reduceToNat, sliceCells, cellsAt, srcA, app, reduceCtorEq, Int.reduceEq, Int.reduceNeg, Int.reducePow, Nat.reducePow, Int.reduceTDiv, Int.reduceDiv, Nat.reduceDiv, Nat.reduceMod, Int.reduceMod, Int.reduceTMod, ne_eq, subA, beq_iff_eq, unA, minA, maxA, eqFs, eqA1, beq_self_eq_true, Nat.reduceBEq]
    have p0 : riffW ++ leB (4 + szL l) 4 ++ form = preM form l 0 := by simp [preM]
    have p1 : riffW.length + (leB (4 + szL l) 4).length + form.length = (preM form l 0).length := by rw [← p0]; simp only [List.length_append]
    rw [p0, p1]
    refine ALoop.by (ι := Nat) (fun k => ⟨[(26, .int .i64 k), (25, .int .i64 l.length), (24, .list l.length (ckL l)), (8, .fn (.func f1) [] [.ref 0 1 0]), (7, .ref 0 1 0)],
        [⟨t0, 3, 1, [.own 1 (preM form l k).length, .int .i64 0, .int .i8 0], 0⟩, ⟨ρ.t 5, 1, (preM form l k).length, u8 (preM form l k), 0⟩]⟩) (fun k => k ≤ l.length) (fun k => l.length - k) 0
        (Le.slots (by simp [Am.look])) (by omega) ?_
    intro k hk
    have hpl := preM_len (form := form) (l := l) k
    have hfl := flat_len hl k hk
    by_cases hlt : k < l.length
    · obtain ⟨o1, o2⟩ := okL_at hl hlt
      have d1 := ckL_drop hlt
      have d2 := ckL_length l
      have d3 := and1_i64 (n := (l[k]).2.length) (by omega)
      simp (config := { maxSteps := 4000000 }) (disch := omega) only [step, stepv, ev, okW, onlyFr, Bool.false_and, Bool.true_and, sealw, wl, wn, wp, aop, cV, cV1, ↓reduceIte, Nat.reduceEqDiff, Nat.reduceAdd, Int.cast_ofNat_Int, if_true, if_false, AV.one, repCells, fillA, partCells, Nat.reduceLT, Nat.reduceLeDiff, Nat.reduceMul, Nat.reduceSub, Int.reduceLT, Int.reduceLE, Int.reduceAdd, Int.reduceSub, Int.reduceMul, Int.reduceToNat, sliceCells, cellsAt, srcA, app, reduceCtorEq, Int.reduceEq, Int.reduceNeg, Int.reducePow, Nat.reducePow, Int.reduceTDiv, Int.reduceDiv, Nat.reduceDiv, Nat.reduceMod, Int.reduceMod, Int.reduceTMod, ne_eq, subA, beq_iff_eq, unA, minA, maxA, eqFs, eqA1, beq_self_eq_true, Nat.reduceBEq, d1, d2, bs]
      refine head_own A b1 hLe (ob := _) (p := 0) (o := 1) (tB := t0) (lr := 0) (n := (l[k]).2.length) (s := (l[k]).1) (pre := preM form l k) rfl rfl (by decide) (by omega) (by omega) (by omega) ?_
      simp only [upd2, bufO, List.set_cons_succ, List.set_cons_zero]
      generalize hq1 : preM form l k ++ (l[k]).1 ++ leB (l[k]).2.length 4 = q1
      have hl1 : q1.length = (preM form l k).length + (l[k]).1.length + 4 := by rw [← hq1]; simp only [List.length_append, leB_length]
      simp (config := { maxSteps := 4000000 }) (disch := omega) only [step, stepv, ev, okW, onlyFr, Bool.false_and, Bool.true_and, sealw, wl, wn, wp, aop, cV, cV1, ↓reduceIte, Nat.reduceEqDiff, Nat.reduceAdd, Int.cast_ofNat_Int, if_true, if_false, AV.one, repCells, fillA, partCells, Nat.reduceLT, Nat.reduceLeDiff, Nat.reduceMul, Nat.reduceSub, Int.reduceLT, Int.reduceLE, Int.reduceAdd, Int.reduceSub, Int.reduceMul, Int.reduceToNat, sliceCells, cellsAt, srcA, app, reduceCtorEq, Int.reduceEq, Int.reduceNeg, Int.reducePow, Nat.reducePow, Int.reduceTDiv, Int.reduceDiv, Nat.reduceDiv, Nat.reduceMod, Int.reduceMod, Int.reduceTMod, ne_eq, subA, beq_iff_eq, unA, minA, maxA, eqFs, eqA1, beq_self_eq_true, Nat.reduceBEq]
      refine write_list (o := 1) (cs := u8 q1) A.L A.B A.X rfl rfl (u8_length _) (by decide) (by omega) (by omega) ?_
      simp only [upd2, bufO, List.set_cons_succ, List.set_cons_zero, u8_append]
      rw [← List.length_append]
      generalize hq2 : q1 ++ (l[k]).2 = q2
      have hl2 : q2.length = q1.length + (l[k]).2.length := by rw [← hq2, List.length_append]
      have hm : (l[k]).2.length % 2 < 2 := Nat.mod_lt _ (by decide)
      simp (config := { maxSteps := 4000000 }) (disch := omega) only [step, stepv, ev, okW, onlyFr, Bool.false_and, Bool.true_and, sealw, wl, wn, wp, aop, cV, cV1, ↓reduceIte, Nat.reduceEqDiff, Nat.reduceAdd, Int.cast_ofNat_Int, if_true, if_false, AV.one, repCells, fillA, partCells, Nat.reduceLT, Nat.reduceLeDiff, Nat.reduceMul, Nat.reduceSub, Int.reduceLT, Int.reduceLE, Int.reduceAdd, Int.reduceSub, Int.reduceMul, Int.reduceToNat, sliceCells, cellsAt, srcA, app, reduceCtorEq, Int.reduceEq, Int.reduceNeg, Int.reducePow, Nat.reducePow, Int.reduceTDiv, Int.reduceDiv, Nat.reduceDiv, Nat.reduceMod, Int.reduceMod, Int.reduceTMod, ne_eq, subA, beq_iff_eq, unA, minA, maxA, eqFs, eqA1, beq_self_eq_true, Nat.reduceBEq, d3, rep0]
      have hw := fun (K : AV → List Ob → Prop) (hK : K _ _) => write_obj (K := K) (q := 3) (t := t2) (o := 1) (p := 0) (s := List.replicate ((l[k]).2.length % 2) 0) (cs := u8 q2) A.L A.B A.X
        (ob := [⟨t0, 3, 1, [.own 1 q2.length, .int .i64 0, .int .i8 0], 0⟩, ⟨ρ.t 5, 1, q2.length, u8 q2, 0⟩, ⟨t1, 2, 1, [.str (l[k]).1, .list (l[k]).2.length (u8 (l[k]).2)], 0⟩, ⟨t2, 1, (l[k]).2.length % 2, u8 (List.replicate ((l[k]).2.length % 2) 0), 0⟩])
        (n := q2.length) (tB := t0) (lr := 0) rfl rfl (u8_length _) (by decide) (by omega) (by simp) (by decide) (by decide) (by rw [List.length_replicate]; omega) hK
      rw [List.length_replicate] at hw
      refine hw _ ?_
      simp only [upd2, bufO, List.set_cons_succ, List.set_cons_zero, u8_append]
      have e9 : q2 ++ List.replicate ((l[k]).2.length % 2) 0 = preM form l (k + 1) := by
        rw [← hq2, ← hq1]
        simp only [preM, flat_take_succ hlt, ckB, List.append_assoc]
      have e10 : q2.length + (l[k]).2.length % 2 = (preM form l (k + 1)).length := by
        rw [← e9, List.length_append, List.length_replicate]
      rw [e9, e10]
      simp (config := { maxSteps := 4000000 }) (disch := omega) only [step, stepv, ev, okW, onlyFr, Bool.false_and, Bool.true_and, sealw, wl, wn, wp, aop, cV, cV1, ↓reduceIte, Nat.reduceEqDiff, Nat.reduceAdd, Int.cast_ofNat_Int, if_true, if_false, AV.one, repCells, fillA, partCells, Nat.reduceLT, Nat.reduceLeDiff, Nat.reduceMul, Nat.reduceSub, Int.reduceLT, Int.reduceLE, Int.reduceAdd, Int.reduceSub, Int.reduceMul, Int.reduceToNat, sliceCells, cellsAt, srcA, app, reduceCtorEq, Int.reduceEq, Int.reduceNeg, Int.reducePow, Nat.reducePow, Int.reduceTDiv, Int.reduceDiv, Nat.reduceDiv, Nat.reduceMod, Int.reduceMod, Int.reduceTMod, ne_eq, subA, beq_iff_eq, unA, minA, maxA, eqFs, eqA1, beq_self_eq_true, Nat.reduceBEq]
      refine ⟨k + 1, by omega, by omega, Le.drop 2 2 (by omega) rfl ?_ ?_⟩
      · simp [Am.look, frzK, frzL, frzV, frzL_T _ (isT_ckL l)]
      · intro i y hy
        match i, hy with
        | 0, hy =>
          simp at hy
          subst hy
          exact ⟨[.own 1 (preM form l (k + 1)).length, .int .i64 0, .int .i8 0], by simp, by simp [frzK, frzL, frzV]⟩
        | 1, hy =>
          simp at hy
          subst hy
          exact ⟨u8 (preM form l (k + 1)), by simp, by simp only [frzK]; exact frzL_T _ (isT_u8 _)⟩
        | i + 2, hy => simp at hy
    · have ek : k = l.length := by omega
      subst ek
      have e2 : preM form l l.length = bytesM form l := by simp only [preM, bytesM, List.take_length]
      rw [e2] at hpl ⊢
      simp (config := { maxSteps := 4000000 }) (disch := omega) only [step, stepv, ev, okW, onlyFr, Bool.false_and, Bool.true_and, sealw, wl, wn, wp, aop, cV, cV1, ↓reduceIte, Nat.reduceEqDiff, Nat.reduceAdd, Int.cast_ofNat_Int, if_true, if_false, AV.one, repCells, fillA, partCells, Nat.reduceLT, Nat.reduceLeDiff, Nat.reduceMul, Nat.reduceSub, Int.reduceLT, Int.reduceLE, Int.reduceAdd, Int.reduceSub, Int.reduceMul, Int.reduceToNat, sliceCells, cellsAt, srcA, app, reduceCtorEq, Int.reduceEq, Int.reduceNeg, Int.reducePow, Nat.reducePow, Int.reduceTDiv, Int.reduceDiv, Nat.reduceDiv, Nat.reduceMod, Int.reduceMod, Int.reduceTMod, ne_eq, subA, beq_iff_eq, unA, minA, maxA, eqFs, eqA1, beq_self_eq_true, Nat.reduceBEq]
      refine buf_Bytes A (o := 1) (n := (bytesM form l).length) (cs := u8 (bytesM form l)) rfl rfl (by omega) ?_
      simp (config := { maxSteps := 4000000 }) (disch := omega) only [step, stepv, ev, okW, onlyFr, Bool.false_and, Bool.true_and, sealw, wl, wn, wp, aop, cV, cV1, ↓reduceIte, Nat.reduceEqDiff, Nat.reduceAdd, Int.cast_ofNat_Int, if_true, if_false, AV.one, repCells, fillA, partCells, Nat.reduceLT, Nat.reduceLeDiff, Nat.reduceMul, Nat.reduceSub, Int.reduceLT, Int.reduceLE, Int.reduceAdd, Int.reduceSub, Int.reduceMul, Int.reduceToNat, sliceCells, cellsAt, srcA, app, reduceCtorEq, Int.reduceEq, Int.reduceNeg, Int.reducePow, Nat.reducePow, Int.reduceTDiv, Int.reduceDiv, Nat.reduceDiv, Nat.reduceMod, Int.reduceMod, Int.reduceTMod, ne_eq, subA, beq_iff_eq, unA, minA, maxA, eqFs, eqA1, beq_self_eq_true, Nat.reduceBEq]
      have n0 : (bytesM form l).length ≠ 0 := by omega
      have n1 : (bytesM form l).length ≠ 1 := by omega
      have e3 : (u8 (bytesM form l)).take (bytesM form l).length = u8 (bytesM form l) := List.take_of_length_le (by rw [u8_length]; exact Nat.le_refl _)
      simp [frzN, frzK, frzL, frzV, n0, n1, e3, frzL_T _ (isT_u8 _), bs]
  · simp only [writeA, if_neg h0]
    simp (config := { maxSteps := 4000000 }) (disch := omega) only [step, stepv, ev, okW, onlyFr, Bool.false_and, Bool.true_and, sealw, wl, wn, wp, aop, cV, cV1, ↓reduceIte, Nat.reduceEqDiff, Nat.reduceAdd, Int.cast_ofNat_Int, if_true, if_false, AV.one, repCells, fillA, partCells, Nat.reduceLT, Nat.reduceLeDiff, Nat.reduceMul, Nat.reduceSub, Int.reduceLT, Int.reduceLE, Int.reduceAdd, Int.reduceSub, Int.reduceMul, Int.reduceToNat, sliceCells, cellsAt, srcA, app, reduceCtorEq, Int.reduceEq, Int.reduceNeg, Int.reducePow, Nat.reducePow, Int.reduceTDiv, Int.reduceDiv, Nat.reduceDiv, Nat.reduceMod, Int.reduceMod, Int.reduceTMod, ne_eq, subA, beq_iff_eq, unA, minA, maxA, eqFs, eqA1, beq_self_eq_true, Nat.reduceBEq]
    simp [frzN, frzK, frzL, frzV, bs, u8_nil]

end Go.Am

namespace Go.Am
open Go.RowKit Go.Shelf Go.Proofs

section
variable {P : Prg} {ρ : Ren} {fT fL fR fS g0 fW fX fB : Nat}
theorem buf_BytesO (A : BufW P ρ fT fL fR fS g0 fW fX fB) {ob : List Ob} {p o n tB t5 : Nat} {lr : Int} {cs : List AV} (hp : ob[p]? = some (bufO tB (.own o n) lr)) (ho : ob[o]? = some ⟨t5, 1, n, cs, 0⟩) (hn : 0 < n) {K : AV → List Ob → Prop} (hK : K (.own o n) ob) :
    ACall P fB [.ref p 1 0] ob K := by
  have hpl : p < ob.length := (List.getElem?_eq_some_iff.1 hp).1
  have hpo : p ≠ o := fun e => by
    subst e; rw [hp] at ho; simp [bufO] at ho
  refine ACall.cap (x := bufO tB (.own o n) lr) (rest := [.int .i64 0, .int .i8 lr]) hp rfl ho rfl A.Y.enters fun c hc hc2 => ?_
  refine ACall.uncap ?_
  refine ACall.uncapR ?_
  refine ACall.of_body A.Y (by simp) ?_
  have hp' : (ob.set p { bufO tB (.own o n) lr with cs := [.ownc o n c, .int .i64 0, .int .i8 lr] })[p]? = some { bufO tB (.own o n) lr with cs := [.ownc o n c, .int .i64 0, .int .i8 lr] } := by simp [hpl]
  have ho' : (ob.set p { bufO tB (.own o n) lr with cs := [.ownc o n c, .int .i64 0, .int .i8 lr] })[o]? = some ⟨t5, 1, n, cs, 0⟩ := by rw [List.getElem?_set_ne hpo]; exact ho
  have hback : ((ob.set p { bufO tB (.own o n) lr with cs := [.ownc o n c, .int .i64 0, .int .i8 lr] }).set o ⟨t5, 1, n, cs, 0⟩).set p (bufO tB (.own o n) lr) = ob := by
    rw [List.set_comm _ _ hpo, List.set_set, set_same ho, set_same hp]
  have hp2 : ((ob.set p { bufO tB (.own o n) lr with cs := [.ownc o n c, .int .i64 0, .int .i8 lr] }).set o ⟨t5, 1, n, cs, 0⟩)[p]? = some { bufO tB (.own o n) lr with cs := [.ownc o n c, .int .i64 0, .int .i8 lr] } := by rw [List.getElem?_set_ne (Ne.symm hpo)]; exact hp'
  simp only [bufO] at hp' ho' hback hp2 ⊢
  have hre : reslA (ob.set p { ty := tB, sz := 3, n := 1, cs := [.ownc o n c, .int .i64 0, .int .i8 lr], fz := 0 }) 1 o n c 0 (n : Int) = some (.ownc o n c, none) := by
    unfold reslA
    rw [if_pos ⟨rfl, Int.le_refl _⟩, ho']
    simp; omega
  have hq : (ob.set p { ty := tB, sz := 3, n := 1, cs := [.ownc o n c, .int .i64 0, .int .i8 lr], fz := 0 }).set p { ty := tB, sz := 3, n := 1, cs := [.own o n, .int .i64 0, .int .i8 lr], fz := 0 } = ob := by
    rw [List.set_set]; exact set_same hp
  simp (config := { maxSteps := 4000000 }) (disch := omega) only [step, stepv, ev, okW, onlyFr, Bool.false_and, Bool.true_and, sealw, wl, wn, wp, aop, cV, cV1, ↓reduceIte, Nat.reduceEqDiff, Nat.reduceAdd, Int.cast_ofNat_Int, if_true, if_false, AV.one, repCells, fillA, partCells, Nat.reduceLT, Nat.reduceLeDiff, Nat.reduceMul, Nat.reduceSub, Int.reduceLT, Int.reduceLE, Int.reduceAdd, Int.reduceSub, Int.reduceMul, Int.reduceToNat, sliceCells, cellsAt, srcA, app, reduceCtorEq, Int.reduceEq, Int.reduceNeg, Int.reducePow, Nat.reducePow, Int.reduceTDiv, Int.reduceDiv, Nat.reduceDiv, Nat.reduceMod, Int.reduceMod, Int.reduceTMod, ne_eq, subA, beq_iff_eq, unA, minA, maxA, eqFs, eqA1, beq_self_eq_true, Nat.reduceBEq, ac_bytes_Buffer_Bytes, hp', ho', hre]
  exact ⟨o, n, c, rfl, .inr ⟨p, _, o, n, c, _, hp', rfl, by rw [hq]; exact hK⟩⟩
end

def S_WriteO (t : Nat) (P : Prg) (f : Nat) : Prop := ∀ (form : List UInt8) (l : List Ck), form.length ≤ 20 → okL l → checkM form l = 0 → VO P f [.str form, .list l.length (ckL l)] (.tup [.own 0 (bytesM form l).length, .int .i64 0]) ⟨t, 1, (bytesM form l).length, u8 (bytesM form l), 0⟩

set_option maxHeartbeats 1000000 in
theorem riff_WriteO {P : Prg} {ρ : Ren} {fT fL fR fS g0 fW fX fB f fC f1 fZ fLe t0 t1 t2 : Nat} (A : BufW P ρ fT fL fR fS g0 fW fX fB) (b : Body P f 48 [.tmp 4, .tmp 5] (ac_riff_Write fC f1 fZ fW fX fB t0 t1 t2))
    (hC : S_Check P fC) (b1 : Body P f1 17 [] (ac_riff_Write_1 fLe fW fX)) (hLe : S_leBytes P fLe) (hZ : S_size P fZ 4) : S_WriteO (ρ.t 5) P f := by
  intro form l hf hl h0
  refine VO.of_walk (by simp [isDL, isD, isDL_ckL]) (isDL_u8 _) (by simp [okr, flat]) (ACall.of_body b (by simp) ?_)
  have h25 := hl.1
  have hsz := okL_sz hl
  simp (config := { maxSteps := 4000000 }) (disch := omega) only [step, stepv, ev, okW, onlyFr, Bool.false_and, Bool.true_and, sealw, wl, wn, wp, aop, cV, cV1, ↓reduceIte, Nat.reduceEqDiff, Nat.reduceAdd, Int.cast_ofNat_Int, if_true, if_false, AV.one, repCells, fillA, partCells, Nat.reduceLT, Nat.reduceLeDiff, Nat.reduceMul, Nat.reduceSub, Int.reduceLT, Int.reduceLE, Int.reduceAdd, Int.reduceSub, Int.reduceMul, Int.reduceToNat, sliceCells, cellsAt, srcA, app, reduceCtorEq, Int.reduceEq, Int.reduceNeg, Int.reducePow, Nat.reducePow, Int.reduceTDiv, Int.reduceDiv, Nat.reduceDiv, Nat.reduceMod, Int.reduceMod, Int.reduceTMod, ne_eq, subA, beq_iff_eq, unA, minA, maxA, eqFs, eqA1, beq_self_eq_true, Nat.reduceBEq, ac_riff_Write]
  refine callQ.vc (hC form l hf hl) ?_
  rw [h0]
  simp (config := { maxSteps := 4000000 }) (disch := omega) only [step, stepv, ev, okW, onlyFr, Bool.false_and, Bool.true_and, sealw, wl, wn, wp, aop, cV, cV1, ↓reduceIte, Nat.reduceEqDiff, Nat.reduceAdd, Int.cast_ofNat_Int, if_true, if_false, AV.one, repCells, fillA, partCells, Nat.reduceLT, Nat.reduceLeDiff, Nat.reduceMul, Nat.reduceSub, Int.reduceLT, Int.reduceLE, Int.reduceAdd, Int.reduceSub, Int.reduceMul, Int.reduceToNat, sliceCells, cellsAt, srcA, app, reduceCtorEq, Int.reduceEq, Int.reduceNeg, Int.reducePow, Nat.reducePow, Int.reduceTDiv, Int.reduceDiv, Nat.reduceDiv, Nat.reduceMod, Int.reduceMod, Int.reduceTMod, ne_eq, subA, beq_iff_eq, unA, minA, maxA, eqFs, eqA1, beq_self_eq_true, Nat.reduceBEq]
  refine callQ.vc (hZ l hl) ?_
  simp (config := { maxSteps := 4000000 }) (disch := omega) only [step, stepv, ev, okW, onlyFr, Bool.false_and, Bool.true_and, sealw, wl, wn, wp, aop, cV, cV1, ↓reduceIte, Nat.reduceEqDiff, Nat.reduceAdd, Int.cast_ofNat_Int, if_true, if_false, AV.one, repCells, fillA, partCells, Nat.reduceLT, Nat.reduceLeDiff, Nat.reduceMul, Nat.reduceSub, Int.reduceLT, Int.reduceLE, Int.reduceAdd, Int.reduceSub, Int.reduceMul, Int.reduceToNat, sliceCells, cellsAt, srcA, app, reduceCtorEq, Int.reduceEq, Int.reduceNeg, Int.reducePow, Nat.reducePow, Int.reduceTDiv, Int.reduceDiv, Nat.reduceDiv, Nat.reduceMod, Int.reduceMod, Int.reduceTMod, ne_eq, subA, beq_iff_eq, unA, minA, maxA, eqFs, eqA1, beq_self_eq_true, Nat.reduceBEq]
  have e0 : ([82, 73, 70, 70] : List UInt8) = riffW := rfl
  rw [e0]
  refine head_emp A b1 hLe (ob := [bufO t0 (.emp true) 0]) rfl (by decide) (by decide) (n := 4 + szL l) (by omega) ?_
  simp (config := { maxSteps := 4000000 }) (disch := omega) only [step, stepv, ev, okW, onlyFr, Bool.false_and, Bool.true_and, sealw, wl, wn, wp, aop, cV, cV1, ↓reduceIte, Nat.reduceEqDiff, Nat.reduceAdd, Int.cast_ofNat_Int, if_true, if_false, AV.one, repCells, fillA, partCells, Nat.reduceLT, Nat.reduceLeDiff, Nat.reduceMul, Nat.reduceSub, Int.reduceLT, Int.reduceLE, Int.reduceAdd, Int.reduceSub, Int.reduceMul, Int.reduceToNat, sliceCells, cellsAt, srcA, app, reduceCtorEq, Int.reduceEq, Int.reduceNeg, Int.reducePow, Nat.reducePow, Int.reduceTDiv, Int.reduceDiv, Nat.reduceDiv, Nat.reduceMod, Int.reduceMod, Int.reduceTMod, ne_eq, subA, beq_iff_eq, unA, minA, maxA, eqFs, eqA1, beq_self_eq_true, Nat.reduceBEq, bufO]
  have e1 : riffW.length + 4 = (riffW ++ leB (4 + szL l) 4).length := by rw [List.length_append, leB_length]
  rw [e1]
  refine writeString_own (cs := u8 (riffW ++ leB (4 + szL l) 4)) (o := 1) A.L A.B A.W rfl rfl (u8_length _) (by decide) (by rw [List.length_append, leB_length]; omega) (by rw [List.length_append, leB_length]; simp [riffW]; omega) ?_
  simp only [upd2, bufO, List.set_cons_succ, List.set_cons_zero, u8_append]
  rw [← List.length_append]
  simp (config := { maxSteps := 4000000 }) (disch := omega) only [step, stepv, ev, okW, onlyFr, Bool.false_and, Bool.true_and, sealw, wl, wn, wp, aop, cV, cV1, ↓reduceIte, Nat.reduceEqDiff, Nat.reduceAdd, Int.cast_ofNat_Int, if_true, if_false, AV.one, repCells, fillA, partCells, Nat.reduceLT, Nat.reduceLeDiff, Nat.reduceMul, Nat.reduceSub, Int.reduceLT, Int.reduceLE, Int.reduceAdd, Int.reduceSub, Int.reduceMul, Int.reduceToNat, sliceCells, cellsAt, srcA, app, reduceCtorEq, Int.reduceEq, Int.reduceNeg, Int.reducePow, Nat.reducePow, Int.reduceTDiv, Int.reduceDiv, Nat.reduceDiv, Nat.reduceMod, Int.reduceMod, Int.reduceTMod, ne_eq, subA, beq_iff_eq, unA, minA, maxA, eqFs, eqA1, beq_self_eq_true, Nat.reduceBEq]
  have p0 : riffW ++ leB (4 + szL l) 4 ++ form = preM form l 0 := by simp [preM]
  have p1 : riffW.length + (leB (4 + szL l) 4).length + form.length = (preM form l 0).length := by rw [← p0]; simp only [List.length_append]
  rw [p0, p1]
  refine ALoop.by (ι := Nat) (fun k => ⟨[(26, .int .i64 k), (25, .int .i64 l.length), (24, .list l.length (ckL l)), (8, .fn (.func f1) [] [.ref 0 1 0]), (7, .ref 0 1 0)],
      [⟨t0, 3, 1, [.own 1 (preM form l k).length, .int .i64 0, .int .i8 0], 0⟩, ⟨ρ.t 5, 1, (preM form l k).length, u8 (preM form l k), 0⟩]⟩) (fun k => k ≤ l.length) (fun k => l.length - k) 0
      (Le.slots (by simp [Am.look])) (by omega) ?_
  intro k hk
  have hpl := preM_len (form := form) (l := l) k
  have hfl := flat_len hl k hk
  by_cases hlt : k < l.length
  · obtain ⟨o1, o2⟩ := okL_at hl hlt
    have d1 := ckL_drop hlt
    have d2 := ckL_length l
    have d3 := and1_i64 (n := (l[k]).2.length) (by omega)
    simp (config := { maxSteps := 4000000 }) (disch := omega) only [step, stepv, ev, okW, onlyFr, Bool.false_and, Bool.true_and, sealw, wl, wn, wp, aop, cV, cV1, ↓reduceIte, Nat.reduceEqDiff, Nat.reduceAdd, Int.cast_ofNat_Int, if_true, if_false, AV.one, repCells, fillA, partCells, Nat.reduceLT, Nat.reduceLeDiff, Nat.reduceMul, Nat.reduceSub, Int.reduceLT, Int.reduceLE, Int.reduceAdd, Int.reduceSub, Int.reduceMul, Int.reduceToNat, sliceCells, cellsAt, srcA, app, reduceCtorEq, Int.reduceEq, Int.reduceNeg, Int.reducePow, Nat.reducePow, Int.reduceTDiv, Int.reduceDiv, Nat.reduceDiv, Nat.reduceMod, Int.reduceMod, Int.reduceTMod, ne_eq, subA, beq_iff_eq, unA, minA, maxA, eqFs, eqA1, beq_self_eq_true, Nat.reduceBEq, d1, d2, bs]
    refine head_own A b1 hLe (ob := _) (p := 0) (o := 1) (tB := t0) (lr := 0) (n := (l[k]).2.length) (s := (l[k]).1) (pre := preM form l k) rfl rfl (by decide) (by omega) (by omega) (by omega) ?_
    simp only [upd2, bufO, List.set_cons_succ, List.set_cons_zero]
    generalize hq1 : preM form l k ++ (l[k]).1 ++ leB (l[k]).2.length 4 = q1
    have hl1 : q1.length = (preM form l k).length + (l[k]).1.length + 4 := by rw [← hq1]; simp only [List.length_append, leB_length]
    simp (config := { maxSteps := 4000000 }) (disch := omega) only [step, stepv, ev, okW, onlyFr, Bool.false_and, Bool.true_and, sealw, wl, wn, wp, aop, cV, cV1, ↓reduceIte, Nat.reduceEqDiff, Nat.reduceAdd, Int.cast_ofNat_Int, if_true, if_false, AV.one, repCells, fillA, partCells, Nat.reduceLT, Nat.reduceLeDiff, Nat.reduceMul, Nat.reduceSub, Int.reduceLT, Int.reduceLE, Int.reduceAdd, Int.reduceSub, Int.reduceMul, Int.reduceToNat, sliceCells, cellsAt, srcA, app, reduceCtorEq, Int.reduceEq, Int.reduceNeg, Int.reducePow, Nat.reducePow, Int.reduceTDiv, Int.reduceDiv, Nat.reduceDiv, Nat.reduceMod, Int.reduceMod, Int.reduceTMod, ne_eq, subA, beq_iff_eq, unA, minA, maxA, eqFs, eqA1, beq_self_eq_true, Nat.reduceBEq]
    refine write_list (o := 1) (cs := u8 q1) A.L A.B A.X rfl rfl (u8_length _) (by decide) (by omega) (by omega) ?_
    simp only [upd2, bufO, List.set_cons_succ, List.set_cons_zero, u8_append]
    rw [← List.length_append]
    generalize hq2 : q1 ++ (l[k]).2 = q2
    have hl2 : q2.length = q1.length + (l[k]).2.length := by rw [← hq2, List.length_append]
    have hm : (l[k]).2.length % 2 < 2 := Nat.mod_lt _ (by decide)
    simp (config := { maxSteps := 4000000 }) (disch := omega) only [step, stepv, ev, okW, onlyFr, Bool.false_and, Bool.true_and, sealw, wl, wn, wp, aop, cV, cV1, ↓reduceIte, Nat.reduceEqDiff, Nat.reduceAdd, Int.cast_ofNat_Int, if_true, if_false, AV.one, repCells, fillA, partCells, Nat.reduceLT, Nat.reduceLeDiff, Nat.reduceMul, Nat.reduceSub, Int.reduceLT, Int.reduceLE, Int.reduceAdd, Int.reduceSub, Int.reduceMul, Int.reduceToNat, sliceCells, cellsAt, srcA, app, reduceCtorEq, Int.reduceEq, Int.reduceNeg, Int.reducePow, Nat.reducePow, Int.reduceTDiv, Int.reduceDiv, Nat.reduceDiv, Nat.reduceMod, Int.reduceMod, Int.reduceTMod, ne_eq, subA, beq_iff_eq, unA, minA, maxA, eqFs, eqA1, beq_self_eq_true, Nat.reduceBEq, d3, rep0]
    have hw := fun (K : AV → List Ob → Prop) (hK : K _ _) => write_obj (K := K) (q := 3) (t := t2) (o := 1) (p := 0) (s := List.replicate ((l[k]).2.length % 2) 0) (cs := u8 q2) A.L A.B A.X
      (ob := [⟨t0, 3, 1, [.own 1 q2.length, .int .i64 0, .int .i8 0], 0⟩, ⟨ρ.t 5, 1, q2.length, u8 q2, 0⟩, ⟨t1, 2, 1, [.str (l[k]).1, .list (l[k]).2.length (u8 (l[k]).2)], 0⟩, ⟨t2, 1, (l[k]).2.length % 2, u8 (List.replicate ((l[k]).2.length % 2) 0), 0⟩])
      (n := q2.length) (tB := t0) (lr := 0) rfl rfl (u8_length _) (by decide) (by omega) (by simp) (by decide) (by decide) (by rw [List.length_replicate]; omega) hK
    rw [List.length_replicate] at hw
    refine hw _ ?_
    simp only [upd2, bufO, List.set_cons_succ, List.set_cons_zero, u8_append]
    have e9 : q2 ++ List.replicate ((l[k]).2.length % 2) 0 = preM form l (k + 1) := by
      rw [← hq2, ← hq1]
      simp only [preM, flat_take_succ hlt, ckB, List.append_assoc]
    have e10 : q2.length + (l[k]).2.length % 2 = (preM form l (k + 1)).length := by
      rw [← e9, List.length_append, List.length_replicate]
    rw [e9, e10]
    simp (config := { maxSteps := 4000000 }) (disch := omega) only [step, stepv, ev, okW, onlyFr, Bool.false_and, Bool.true_and, sealw, wl, wn, wp, aop, cV, cV1, ↓reduceIte, Nat.reduceEqDiff, Nat.reduceAdd, Int.cast_ofNat_Int, if_true, if_false, AV.one, repCells, fillA, partCells, Nat.reduceLT, Nat.reduceLeDiff, Nat.reduceMul, Nat.reduceSub, Int.reduceLT, Int.reduceLE, Int.reduceAdd, Int.reduceSub, Int.reduceMul, Int.reduceToNat, sliceCells, cellsAt, srcA, app, reduceCtorEq, Int.reduceEq, Int.reduceNeg, Int.reducePow, Nat.reducePow, Int.reduceTDiv, Int.reduceDiv, Nat.reduceDiv, Nat.reduceMod, Int.reduceMod, Int.reduceTMod, ne_eq, subA, beq_iff_eq, unA, minA, maxA, eqFs, eqA1, beq_self_eq_true, Nat.reduceBEq]
    refine ⟨k + 1, by omega, by omega, Le.drop 2 2 (by omega) rfl ?_ ?_⟩
    · simp [Am.look, frzK, frzL, frzV, frzL_T _ (isT_ckL l)]
    · intro i y hy
      match i, hy with
      | 0, hy =>
        simp at hy
        subst hy
        exact ⟨[.own 1 (preM form l (k + 1)).length, .int .i64 0, .int .i8 0], by simp, by simp [frzK, frzL, frzV]⟩
      | 1, hy =>
        simp at hy
        subst hy
        exact ⟨u8 (preM form l (k + 1)), by simp, by simp only [frzK]; exact frzL_T _ (isT_u8 _)⟩
      | i + 2, hy => simp at hy
  · have ek : k = l.length := by omega
    subst ek
    have e2 : preM form l l.length = bytesM form l := by simp only [preM, bytesM, List.take_length]
    rw [e2] at hpl ⊢
    simp (config := { maxSteps := 4000000 }) (disch := omega) only [step, stepv, ev, okW, onlyFr, Bool.false_and, Bool.true_and, sealw, wl, wn, wp, aop, cV, cV1, ↓reduceIte, Nat.reduceEqDiff, Nat.reduceAdd, Int.cast_ofNat_Int, if_true, if_false, AV.one, repCells, fillA, partCells, Nat.reduceLT, Nat.reduceLeDiff, Nat.reduceMul, Nat.reduceSub, Int.reduceLT, Int.reduceLE, Int.reduceAdd, Int.reduceSub, Int.reduceMul, Int.reduceToNat, sliceCells, cellsAt, srcA, app, reduceCtorEq, Int.reduceEq, Int.reduceNeg, Int.reducePow, Nat.reducePow, Int.reduceTDiv, Int.reduceDiv, Nat.reduceDiv, Nat.reduceMod, Int.reduceMod, Int.reduceTMod, ne_eq, subA, beq_iff_eq, unA, minA, maxA, eqFs, eqA1, beq_self_eq_true, Nat.reduceBEq]
    refine buf_BytesO A (o := 1) (n := (bytesM form l).length) (cs := u8 (bytesM form l)) rfl rfl (by omega) ?_
    simp (config := { maxSteps := 4000000 }) (disch := omega) only [step, stepv, ev, okW, onlyFr, Bool.false_and, Bool.true_and, sealw, wl, wn, wp, aop, cV, cV1, ↓reduceIte, Nat.reduceEqDiff, Nat.reduceAdd, Int.cast_ofNat_Int, if_true, if_false, AV.one, repCells, fillA, partCells, Nat.reduceLT, Nat.reduceLeDiff, Nat.reduceMul, Nat.reduceSub, Int.reduceLT, Int.reduceLE, Int.reduceAdd, Int.reduceSub, Int.reduceMul, Int.reduceToNat, sliceCells, cellsAt, srcA, app, reduceCtorEq, Int.reduceEq, Int.reduceNeg, Int.reducePow, Nat.reducePow, Int.reduceTDiv, Int.reduceDiv, Nat.reduceDiv, Nat.reduceMod, Int.reduceMod, Int.reduceTMod, ne_eq, subA, beq_iff_eq, unA, minA, maxA, eqFs, eqA1, beq_self_eq_true, Nat.reduceBEq]
    exact ⟨1, rfl, rfl⟩

end Go.Am

namespace Go.Am
open Go.RowKit

/-! ### Great -/

end Go.Am

namespace Go.Am
open Go.RowKit

end Go.Am

namespace Go.Am
open Go.RowKit

/-! ### Read is what was written: without a program -/

theorem leN_leB : ∀ (k n : Nat), n < 256 ^ k → leN (leB n k) = n
  | 0, n, h => by simp at h; subst h; rfl
  | k + 1, n, h => by
    have h1 : n / 256 < 256 ^ k := by rw [Nat.pow_succ] at h; exact Nat.div_lt_of_lt_mul (by omega)
    have h2 : (UInt8.ofNat (n % 256)).toNat = n % 256 := by simp
    simp only [leB, leN, leN_leB k _ h1, h2]
    omega

theorem leB_leN : ∀ l : List UInt8, leB (leN l) l.length = l
  | [] => rfl
  | b :: l => by
    have h1 := b.toNat_lt
    have e1 : (b.toNat + 256 * leN l) % 256 = b.toNat := by omega
    have e2 : (b.toNat + 256 * leN l) / 256 = leN l := by omega
    simp only [leN, List.length_cons, leB, e1, e2, leB_leN l]
    simp

theorem name4 {s : List UInt8} (h : nameB s = true) : s.length = 4 := by
  simp only [nameB, Bool.and_eq_true, beq_iff_eq] at h; exact h.2

theorem nextM_ck {c : Ck} (hn : nameB c.1 = true) (hl : c.2.length < 4294967296) (r : List UInt8) : nextM (ckB c ++ r) = some (c, r) := by
  have h4 := name4 hn
  obtain ⟨s, d⟩ := c
  simp only at hn hl h4
  generalize hm : d.length = m at hl
  have hB := leB_length 4 m
  have e0 : ckB (s, d) ++ r = s ++ (leB m 4 ++ (d ++ (List.replicate (m % 2) 0 ++ r))) := by simp [ckB, List.append_assoc, hm]
  rw [e0]
  have t1 : (s ++ (leB m 4 ++ (d ++ (List.replicate (m % 2) 0 ++ r)))).take 4 = s := List.take_left' h4
  have t2 : (s ++ (leB m 4 ++ (d ++ (List.replicate (m % 2) 0 ++ r)))).drop 4 = leB m 4 ++ (d ++ (List.replicate (m % 2) 0 ++ r)) := List.drop_left' h4
  have t3 : (leB m 4 ++ (d ++ (List.replicate (m % 2) 0 ++ r))).take 4 = leB m 4 := List.take_left' hB
  have t4 : (s ++ (leB m 4 ++ (d ++ (List.replicate (m % 2) 0 ++ r)))).drop 8 = d ++ (List.replicate (m % 2) 0 ++ r) := by
    rw [show 8 = 4 + 4 by rfl, ← List.drop_drop, t2, List.drop_left' hB]
  have t5 : ∀ j, (s ++ (leB m 4 ++ (d ++ (List.replicate (m % 2) 0 ++ r)))).drop (8 + m + j) = (List.replicate (m % 2) 0 ++ r).drop j := fun j => by
    rw [show 8 + m + j = 8 + (m + j) by omega, ← List.drop_drop, t4, ← List.drop_drop, List.drop_left' hm]
  have tl : (s ++ (leB m 4 ++ (d ++ (List.replicate (m % 2) 0 ++ r)))).length = 8 + m + (m % 2 + r.length) := by simp [hB, hm, h4]; omega
  unfold nextM
  rw [t1, t2, t3, leN_leB 4 m (by omega), tl, t4]
  rw [if_neg (by rintro (h | h); omega; rw [hn] at h; cases h)]
  simp only
  rw [if_neg (by omega), List.take_left' hm]
  by_cases hodd : m % 2 = 1
  · have g0 : (s ++ (leB m 4 ++ (d ++ (List.replicate (m % 2) 0 ++ r)))).getD (8 + m) 0 = 0 := by
      have := congrArg (·[0]?) (t5 0)
      simp only [List.getElem?_drop, Nat.add_zero, List.drop_zero] at this
      rw [List.getD_eq_getElem?_getD, this, hodd]
      rfl
    rw [if_pos hodd, if_neg (by rintro (h | h); omega; exact h g0), show 9 + m = 8 + m + 1 by omega, t5 1, hodd]
    rfl
  · have h0 : m % 2 = 0 := by omega
    have := t5 0
    rw [Nat.add_zero] at this
    rw [if_neg hodd, this, h0]
    rfl

theorem nextM_inv {l r : List UInt8} {c : Ck} (h : nextM l = some (c, r)) : l = ckB c ++ r ∧ nameB c.1 = true ∧ c.2.length < 4294967296 := by
  unfold nextM at h
  split at h
  · cases h
  rename_i h0
  have h8 : 8 ≤ l.length := by
    rcases Nat.lt_or_ge l.length 8 with h' | h'
    · exact absurd (.inl h') h0
    · exact h'
  have hn : nameB (l.take 4) = true := by
    cases hb : nameB (l.take 4) with
    | true => rfl
    | false => exact absurd (.inr hb) h0
  simp only at h
  generalize hm : leN ((l.drop 4).take 4) = m at h
  have hB : (l.drop 4).take 4 = leB m 4 := by
    have := leB_leN ((l.drop 4).take 4)
    rw [hm, len_at (by omega)] at this
    exact this.symm
  have hm4 : m < 4294967296 := by
    have := leN_lt ((l.drop 4).take 4)
    rw [hm, len_at (by omega)] at this
    exact this
  split at h
  · cases h
  rename_i hs
  have d1 : ((l.drop 8).take m).length = m := by simp; omega
  have key : l = l.take 4 ++ ((l.drop 4).take 4 ++ ((l.drop 8).take m ++ l.drop (8 + m))) := by
    conv => lhs; rw [← List.take_append_drop 4 l]
    congr 1
    conv => lhs; rw [← List.take_append_drop 4 (l.drop 4)]
    congr 1
    rw [List.drop_drop]
    conv => lhs; rw [← List.take_append_drop m (l.drop 8)]
    congr 1
    rw [List.drop_drop]
  split at h
  · rename_i hodd
    split at h
    · cases h
    rename_i hz
    cases h
    refine ⟨?_, hn, by simp only [d1]; exact hm4⟩
    have hlen : 8 + m < l.length := by
      rcases Nat.lt_or_ge (8 + m) l.length with h' | h'
      · exact h'
      · exact absurd (.inl (by omega)) hz
    have hz0 : l[8 + m] = 0 := by
      by_cases h' : l.getD (8 + m) 0 = 0
      · rwa [List.getD_eq_getElem?_getD, List.getElem?_eq_getElem hlen] at h'
      · exact absurd (.inr h') hz
    have e : l.drop (8 + m) = 0 :: l.drop (9 + m) := by
      rw [List.drop_eq_getElem_cons hlen, hz0, show 8 + m + 1 = 9 + m by omega]
    simp only [ckB, d1, hodd]
    rw [e, hB] at key
    simpa [List.append_assoc] using key
  · rename_i hodd
    cases h
    refine ⟨?_, hn, by simp only [d1]; exact hm4⟩
    have h0 : m % 2 = 0 := by omega
    simp only [ckB, d1, h0]
    rw [hB] at key
    simpa [List.append_assoc] using key

def goodL (l : List Ck) : Prop := ∀ c ∈ l, nameB c.1 = true ∧ c.2.length < 4294967296

theorem chunksM_flat : ∀ (l : List Ck) (k : Nat) (out : List Ck), goodL l → out.length + l.length ≤ 20 → l.length < k → chunksM k out (l.flatMap ckB) = .inr (out ++ l)
  | [], k + 1, out, _, _, _ => by simp [chunksM]
  | c :: l, k + 1, out, hg, h20, hk => by
    obtain ⟨h1, h2⟩ := hg c (by simp)
    have h4 := name4 h1
    have hne : ckB c ++ l.flatMap ckB ≠ [] := by
      intro h
      have := congrArg List.length h
      rw [List.length_append, ckB_length] at this
      simp at this
      try omega
    simp only [List.flatMap_cons, chunksM, if_neg hne]
    simp only [List.length_cons] at h20
    rw [if_neg (by omega), nextM_ck h1 h2]
    simp only
    rw [chunksM_flat l k (out ++ [c]) (fun x hx => hg x (by simp [hx])) (by simp; omega) (by simp at hk; omega)]
    simp

theorem chunksM_inv : ∀ (k : Nat) (out : List Ck) (rest : List UInt8) (r : List Ck), chunksM k out rest = .inr r → out.length ≤ 20 → ∃ l, r = out ++ l ∧ rest = l.flatMap ckB ∧ goodL l ∧ r.length ≤ 20
  | 0, _, _, _, h, _ => by simp [chunksM] at h
  | k + 1, out, rest, r, h, hl => by
    simp only [chunksM] at h
    split at h
    · rename_i he
      cases h
      exact ⟨[], by simp, by simp [he], (fun x hx => by cases hx), hl⟩
    · split at h
      · cases h
      rename_i h20
      split at h
      · cases h
      · rename_i c left hnx
        obtain ⟨e1, e2, e3⟩ := nextM_inv hnx
        obtain ⟨l, q1, q2, q3, q4⟩ := chunksM_inv k _ _ _ h (by simp; omega)
        refine ⟨c :: l, by rw [q1]; simp, by rw [e1, q2]; simp, fun x hx => ?_, q4⟩
        rcases List.mem_cons.1 hx with rfl | hx
        · exact ⟨e2, e3⟩
        · exact q3 x hx

theorem flat_sz : ∀ {l : List Ck}, (∀ c ∈ l, c.1.length = 4) → (l.flatMap ckB).length = szL l
  | [], _ => rfl
  | c :: l, h => by
    have h1 := h c (by simp)
    have h2 := flat_sz (l := l) fun x hx => h x (by simp [hx])
    have h3 : szL (c :: l) = szC c + szL l := by simp [szL]
    simp only [List.flatMap_cons, List.length_append, ckB_length, h2, h3, szC]
    omega

theorem sz_mem : ∀ {l : List Ck} {c : Ck}, c ∈ l → szC c ≤ szL l
  | x :: l, c, h => by
    have e : szL (x :: l) = szC x + szL l := by simp [szL]
    rcases List.mem_cons.1 h with rfl | h
    · omega
    · have := sz_mem h; omega

theorem len_sz : ∀ l : List Ck, l.length * 8 ≤ szL l
  | [] => by simp [szL]
  | x :: l => by
    have e : szL (x :: l) = szC x + szL l := by simp [szL]
    have := len_sz l
    simp only [List.length_cons, e, szC]
    omega

theorem bytesM_length {form : List UInt8} {l : List Ck} (hf : form.length = 4) (hl : ∀ c ∈ l, c.1.length = 4) : (bytesM form l).length = 12 + szL l := by
  simp only [bytesM, List.length_append, leB_length, flat_sz hl, riffW, List.length_cons, List.length_nil, hf]

/-- What a written RIFF reads as, with more behind it. -/
theorem readM_written {form : List UInt8} {l : List Ck} (h0 : checkM form l = 0) (x : List UInt8) (hsz : 12 + szL l ≤ 100000) :
    readM (bytesM form l ++ x) = if x = [] then .inr (form, l) else .inl 38 := by
  have hc : l.length ≤ 20 ∧ nameB form = true ∧ ∀ c ∈ l, nameB c.1 = true := by
    unfold checkM at h0
    split at h0
    · cases h0
    · rename_i h20
      split at h0
      · cases h0
      · rename_i hn
        refine ⟨by omega, ?_, fun c hc => ?_⟩
        · cases hb : nameB form with
          | true => rfl
          | false => exact absurd (.inl hb) hn
        · cases hb : nameB c.1 with
          | true => rfl
          | false => exact absurd (.inr (.inr (List.any_eq_true.2 ⟨c, hc, by simp [hb]⟩))) hn
  obtain ⟨h20, hf, hns⟩ := hc
  have hf4 := name4 hf
  have hg : goodL l := fun c hc => ⟨hns c hc, by
    have : szC c ≤ szL l := by
      exact sz_mem hc
    simp only [szC] at this
    omega⟩
  have hbl := bytesM_length hf4 fun c hc => name4 (hns c hc)
  have hfl := flat_sz (l := l) fun c hc => name4 (hns c hc)
  have hm4 : 4 + szL l < 256 ^ 4 := by omega
  generalize hm : 4 + szL l = m at hm4
  have e0 : bytesM form l ++ x = riffW ++ (leB m 4 ++ (form ++ (l.flatMap ckB ++ x))) := by simp [bytesM, List.append_assoc, hm]
  have hB := leB_length 4 m
  have r4 : riffW.length = 4 := rfl
  have t1 : (riffW ++ (leB m 4 ++ (form ++ (l.flatMap ckB ++ x)))).take 4 = riffW := List.take_left' r4
  have t2 : (riffW ++ (leB m 4 ++ (form ++ (l.flatMap ckB ++ x)))).drop 4 = leB m 4 ++ (form ++ (l.flatMap ckB ++ x)) := List.drop_left' r4
  have t3 : (leB m 4 ++ (form ++ (l.flatMap ckB ++ x))).take 4 = leB m 4 := List.take_left' hB
  have t4 : (riffW ++ (leB m 4 ++ (form ++ (l.flatMap ckB ++ x)))).drop 8 = form ++ (l.flatMap ckB ++ x) := by
    rw [show 8 = 4 + 4 by rfl, ← List.drop_drop, t2, List.drop_left' hB]
  have t5 : (riffW ++ (leB m 4 ++ (form ++ (l.flatMap ckB ++ x)))).drop 12 = l.flatMap ckB ++ x := by
    rw [show 12 = 8 + 4 by rfl, ← List.drop_drop, t4, List.drop_left' hf4]
  have t6 : (form ++ (l.flatMap ckB ++ x)).take 4 = form := List.take_left' hf4
  have t7 : (l.flatMap ckB ++ x).take (m - 4) = l.flatMap ckB := List.take_left' (by omega)
  have tl : (riffW ++ (leB m 4 ++ (form ++ (l.flatMap ckB ++ x)))).length = m + 8 + x.length := by simp [hB, r4, hf4, hfl]; omega
  rw [e0]
  unfold readM
  rw [tl, t1, t2, t3, t4, t5, t6, leN_leB 4 m hm4]
  rw [if_neg (by omega)]
  simp only
  rw [if_neg (by rintro (h | h | h); exact h rfl; rw [hf] at h; cases h; omega), if_neg (by omega), if_neg (by omega)]
  rw [t7, chunksM_flat l (m + 1) [] hg (by simp; omega) (by have := len_sz l; omega)]
  simp only [List.nil_append]
  by_cases hx : x = []
  · subst hx; simp
  · have : 0 < x.length := List.length_pos_iff.2 hx
    rw [if_pos (by omega), if_neg hx]

/-- What is read, written again. -/
theorem readM_back {b form : List UInt8} {l : List Ck} (h : readM b = .inr (form, l)) : bytesM form l = b ∧ checkM form l = 0 ∧ l.length ≤ 20 ∧ goodL l ∧ 12 + szL l = b.length ∧ b.length ≤ 100000 ∧ form.length = 4 ∧ 12 ≤ b.length ∧ leN ((b.drop 4).take 4) + 8 = b.length := by
  unfold readM at h
  split at h
  · cases h
  rename_i h12
  simp only at h
  generalize hm : leN ((b.drop 4).take 4) = m at h
  generalize hfm : (b.drop 8).take 4 = fm at h
  split at h
  · cases h
  rename_i hc
  split at h
  · cases h
  rename_i hbig
  split at h
  · cases h
  rename_i hsh
  have hr : b.take 4 = riffW := Classical.not_not.1 fun h' => hc (.inl h')
  have hf : nameB fm = true := by
    cases hb : nameB fm with
    | true => rfl
    | false => exact absurd (.inr (.inl hb)) hc
  have hm4 : ¬ m < 4 := fun h' => hc (.inr (.inr h'))
  split at h
  · cases h
  rename_i out hout
  split at h
  · cases h
  rename_i hmore
  cases h
  obtain ⟨l', q1, q2, q3, q4⟩ := chunksM_inv _ _ _ _ hout (by simp)
  simp only [List.nil_append] at q1
  subst q1
  have hlen : b.length = m + 8 := by omega
  have hf4 := name4 hf
  have q5 : (b.drop 12).take (m - 4) = b.drop 12 := List.take_of_length_le (by simp; omega)
  rw [q5] at q2
  have hns : ∀ c ∈ l, c.1.length = 4 := fun c hc => name4 (q3 c hc).1
  have hfl := flat_sz hns
  have hsz : 4 + szL l = m := by
    have := congrArg List.length q2
    rw [hfl, List.length_drop] at this
    omega
  have hB : (b.drop 4).take 4 = leB m 4 := by
    have := leB_leN ((b.drop 4).take 4)
    rw [hm, len_at (by omega)] at this
    exact this.symm
  have key : b = b.take 4 ++ ((b.drop 4).take 4 ++ ((b.drop 8).take 4 ++ b.drop 12)) := by
    conv => lhs; rw [← List.take_append_drop 4 b]
    congr 1
    conv => lhs; rw [← List.take_append_drop 4 (b.drop 4)]
    congr 1
    rw [List.drop_drop]
    conv => lhs; rw [← List.take_append_drop 4 (b.drop 8)]
    congr 1
    rw [List.drop_drop]
  refine ⟨?_, ?_, q4, q3, by omega, by omega, hf4, by omega, by omega⟩
  · rw [hr, hB, hfm, q2] at key
    rw [key, bytesM, hsz]
    simp [List.append_assoc]
  · unfold checkM
    rw [if_neg (by omega), if_neg]
    rintro (h' | h' | h')
    · rw [hf] at h'; cases h'
    · omega
    · obtain ⟨c, hc, hcn⟩ := List.any_eq_true.1 h'
      rw [(q3 c hc).1] at hcn
      cases hcn

end Go.Am

namespace Go.Am
open Go.RowKit

theorem chunks_pos : ∀ (k : Nat) (out : List Ck) (rest : List UInt8), rest.length < k → chunksM k out rest ≠ .inl 0
  | 0, _, _, h => by omega
  | k + 1, out, rest, hk => by
    simp only [chunksM]
    split
    · intro h; cases h
    · split
      · intro h; cases h
      · split
        · intro h; cases h
        · rename_i c left hnx
          have := (nextM_lt hnx).1
          exact chunks_pos k _ _ (by omega)

theorem readM_pos {b : List UInt8} {e : Nat} (h : readM b = .inl e) : e ≠ 0 := by
  unfold readM at h
  split at h
  · cases h; omega
  simp only at h
  split at h
  · cases h; omega
  split at h
  · cases h; omega
  split at h
  · cases h; omega
  split at h
  · rename_i e' he
    cases h
    intro h0
    subst h0
    exact chunks_pos _ _ _ (by simp; omega) he
  · split at h
    · cases h; omega
    · cases h

theorem checkM_sz {form : List UInt8} {l : List Ck} (h : checkM form l = 0) : 12 + szL l ≤ 100000 ∧ l.length ≤ 20 := by
  unfold checkM at h
  split at h
  · cases h
  · split at h
    · cases h
    · rename_i h2
      generalize szL l = s at *
      exact ⟨by
        rcases Nat.lt_or_ge 100000 (12 + s) with h' | h'
        · exact absurd (.inr (.inl h')) h2
        · exact h', by omega⟩

theorem checkM_names {form : List UInt8} {l : List Ck} (h0 : checkM form l = 0) : nameB form = true ∧ ∀ c ∈ l, nameB c.1 = true := by
  unfold checkM at h0
  split at h0
  · cases h0
  · split at h0
    · cases h0
    · rename_i hn
      refine ⟨?_, fun c hc => ?_⟩
      · cases hb : nameB form with
        | true => rfl
        | false => exact absurd (.inl hb) hn
      · cases hb : nameB c.1 with
        | true => rfl
        | false => exact absurd (.inr (.inr (List.any_eq_true.2 ⟨c, hc, by simp [hb]⟩))) hn

theorem u8_at {l : List UInt8} {k : Nat} (h : k < l.length) : (u8 l).drop k = .int .u8 (l[k]).toNat :: u8 (l.drop (k + 1)) := by
  rw [u8_drop, List.drop_eq_getElem_cons h]; rfl

def S_alive (P : Prg) (f : Nat) : Prop := VC P f [] (.bool true)

end Go.Am

namespace Go.Am
open Go.RowKit

def readsB (b : List UInt8) (w : Int) : Bool := match readM b with | .inl e => decide ((e : Int) = w) | .inr _ => decide (0 = w)
def S_reads (P : Prg) (f : Nat) : Prop := ∀ (b : List UInt8) (w : Int), b.length < 140737488355328 → VC P f [.str b, .int .i64 w] (.bool (readsB b w))
end Go.Am

namespace Go.Am
open Go.RowKit

end Go.Am

namespace Go.Am
open Go.RowKit

theorem rep_zero : ∀ N, repCells [.int .u8 0] N = u8 (List.replicate N 0)
  | 0 => rfl
  | N + 1 => by rw [repCells, rep_zero N]; rfl
def S_readsT (P : Prg) (f : Nat) : Prop := ∀ (b : List UInt8) (w : Int), b.length < 140737488355328 → readsB b w = true → VC P f [.str b, .int .i64 w] (.bool true)
theorem S_readsT.of {P : Prg} {f : Nat} (h : S_reads P f) : S_readsT P f := fun b w h1 h2 => by have := h b w h1; rwa [h2] at this

end Go.Am

namespace Go.Am
open Go.RowKit

/-! ### The chunk that tells the form: without a program -/

def sndOk (c b r : Int) : Prop := 1 ≤ c ∧ c ≤ 6 ∧ half b ≠ 0 ∧ 1 ≤ r ∧ r ≤ 1048576
instance (c b r : Int) : Decidable (sndOk c b r) := by unfold sndOk; exact inferInstance
def chkS (c b r : Int) : Int := if sndOk c b r then 0 else 8
def sndA (c b r : Int) : AV := .agg [.int .i64 c, .int .i64 b, .int .i64 r]

def guidB : List UInt8 := [1, 0, 0, 0, 0, 0, 16, 0, 128, 0, 0, 170, 0, 56, 155, 113]
def widN : List Nat := [2, 2, 4, 4, 2, 2, 2, 2, 4]
def valN (c b r tag m : Nat) : List Nat := [tag, c, r, r * (c * b / 8), c * b / 8, b, 22, b, m]
def preB (l : List (Nat × Nat)) : List UInt8 := l.flatMap fun p => leB p.1 p.2
def firstB (c b r tag : Nat) : List UInt8 := leB tag 2 ++ leB c 2 ++ leB r 4 ++ leB (r * (c * b / 8)) 4 ++ leB (c * b / 8) 2 ++ leB b 2
def maskB (c b r m : Nat) : List UInt8 := firstB c b r 65534 ++ leB 22 2 ++ leB b 2 ++ leB m 4 ++ guidB
def formB (c b r : Nat) (wide : Bool) (m : Nat) : List UInt8 := if wide then maskB c b r m else firstB c b r 1

theorem preB_form (c b r : Nat) (wide : Bool) (m : Nat) : formB c b r wide m = preB (((valN c b r (if wide then 65534 else 1) m).zip widN).take (if wide then 9 else 6)) ++ (if wide then guidB else []) := by
  cases wide <;> simp [formB, maskB, firstB, preB, valN, widN]

def widG : List AV := [.int .i64 2, .int .i64 2, .int .i64 4, .int .i64 4, .int .i64 2, .int .i64 2, .int .i64 2, .int .i64 2, .int .i64 4]
def guidG : List AV := [.int .u8 1, .int .u8 0, .int .u8 0, .int .u8 0, .int .u8 0, .int .u8 0, .int .u8 16, .int .u8 0, .int .u8 128, .int .u8 0, .int .u8 0, .int .u8 170, .int .u8 0, .int .u8 56, .int .u8 155, .int .u8 113]
theorem widG_ks : widG = ks .i64 (widN.map fun n : Nat => (n : Int)) := by simp [widG, widN, ks]
theorem guidG_u8 : guidG = u8 guidB := by simp [guidG, guidB, u8]

/-! ### Check, Wide -/

def S_SCheck (P : Prg) (f : Nat) : Prop := ∀ c b r : Int, VC P f [sndA c b r] (.int .i64 (chkS c b r))
theorem half_ne (b : Int) : half b ≠ 0 ↔ b = 8 ∨ b = 16 ∨ b = 24 := by
  rcases half_cases b with ⟨rfl, h⟩ | ⟨rfl, h⟩ | ⟨rfl, h⟩ | ⟨h1, h2, h3, h⟩ <;> simp [h] <;> omega

theorem fmt_Check {P : Prg} {f t0 : Nat} (b : Body P f 27 [.tmp 2] (ac_fmtchunk_Check t0)) : S_SCheck P f := by
  intro c x r
  refine VC.of_acall rfl rfl (ACall.of_body b (by simp) ?_)
  by_cases h : sndOk c x r
  · obtain ⟨h1, h2, h3, h4, h5⟩ := h
    have e : chkS c x r = 0 := by simp [chkS, sndOk, h1, h2, h3, h4, h5]
    rw [e]
    rcases (half_ne x).1 h3 with rfl | rfl | rfl
    · simp (config := { maxSteps := 4000000 }) (disch := omega) only [step, stepv, ev, okW, onlyFr, Bool.false_and, Bool.true_and, sealw, wl, wn, wp, aop, cV, cV1, ↓reduceIte, Nat.reduceEqDiff, Nat.reduceAdd, Int.cast_ofNat_Int, if_true, if_false, AV.one, repCells, fillA, partCells, Nat.reduceLT, Nat.reduceLeDiff, Nat.reduceMul, Nat.reduceSub, Int.reduceLT, Int.reduceLE, Int.reduceAdd, Int.reduceSub, Int.reduceMul, Int.reduceToNat, sliceCells, cellsAt, srcA, app, reduceCtorEq, Int.reduceEq, Int.reduceNeg, Int.reducePow, Nat.reducePow, Int.reduceTDiv, Int.reduceDiv, Nat.reduceDiv, Nat.reduceMod, Int.reduceMod, Int.reduceTMod, ne_eq, subA, beq_iff_eq, unA, minA, maxA, eqFs, eqA1, beq_self_eq_true, Nat.reduceBEq, ac_fmtchunk_Check, sndA]
    · simp (config := { maxSteps := 4000000 }) (disch := omega) only [step, stepv, ev, okW, onlyFr, Bool.false_and, Bool.true_and, sealw, wl, wn, wp, aop, cV, cV1, ↓reduceIte, Nat.reduceEqDiff, Nat.reduceAdd, Int.cast_ofNat_Int, if_true, if_false, AV.one, repCells, fillA, partCells, Nat.reduceLT, Nat.reduceLeDiff, Nat.reduceMul, Nat.reduceSub, Int.reduceLT, Int.reduceLE, Int.reduceAdd, Int.reduceSub, Int.reduceMul, Int.reduceToNat, sliceCells, cellsAt, srcA, app, reduceCtorEq, Int.reduceEq, Int.reduceNeg, Int.reducePow, Nat.reducePow, Int.reduceTDiv, Int.reduceDiv, Nat.reduceDiv, Nat.reduceMod, Int.reduceMod, Int.reduceTMod, ne_eq, subA, beq_iff_eq, unA, minA, maxA, eqFs, eqA1, beq_self_eq_true, Nat.reduceBEq, ac_fmtchunk_Check, sndA]
    · simp (config := { maxSteps := 4000000 }) (disch := omega) only [step, stepv, ev, okW, onlyFr, Bool.false_and, Bool.true_and, sealw, wl, wn, wp, aop, cV, cV1, ↓reduceIte, Nat.reduceEqDiff, Nat.reduceAdd, Int.cast_ofNat_Int, if_true, if_false, AV.one, repCells, fillA, partCells, Nat.reduceLT, Nat.reduceLeDiff, Nat.reduceMul, Nat.reduceSub, Int.reduceLT, Int.reduceLE, Int.reduceAdd, Int.reduceSub, Int.reduceMul, Int.reduceToNat, sliceCells, cellsAt, srcA, app, reduceCtorEq, Int.reduceEq, Int.reduceNeg, Int.reducePow, Nat.reducePow, Int.reduceTDiv, Int.reduceDiv, Nat.reduceDiv, Nat.reduceMod, Int.reduceMod, Int.reduceTMod, ne_eq, subA, beq_iff_eq, unA, minA, maxA, eqFs, eqA1, beq_self_eq_true, Nat.reduceBEq, ac_fmtchunk_Check, sndA]
  · have e : chkS c x r = 8 := by simp [chkS, h]
    rw [e]
    by_cases h1 : c < 1
    · simp (config := { maxSteps := 4000000 }) (disch := omega) only [step, stepv, ev, okW, onlyFr, Bool.false_and, Bool.true_and, sealw, wl, wn, wp, aop, cV, cV1, ↓reduceIte, Nat.reduceEqDiff, Nat.reduceAdd, Int.cast_ofNat_Int, if_true, if_false, AV.one, repCells, fillA, partCells, Nat.reduceLT, Nat.reduceLeDiff, Nat.reduceMul, Nat.reduceSub, Int.reduceLT, Int.reduceLE, Int.reduceAdd, Int.reduceSub, Int.reduceMul, Int.reduceToNat, sliceCells, cellsAt, srcA, app, reduceCtorEq, Int.reduceEq, Int.reduceNeg, Int.reducePow, Nat.reducePow, Int.reduceTDiv, Int.reduceDiv, Nat.reduceDiv, Nat.reduceMod, Int.reduceMod, Int.reduceTMod, ne_eq, subA, beq_iff_eq, unA, minA, maxA, eqFs, eqA1, beq_self_eq_true, Nat.reduceBEq, ac_fmtchunk_Check, sndA]
    by_cases h2 : 6 < c
    · simp (config := { maxSteps := 4000000 }) (disch := omega) only [step, stepv, ev, okW, onlyFr, Bool.false_and, Bool.true_and, sealw, wl, wn, wp, aop, cV, cV1, ↓reduceIte, Nat.reduceEqDiff, Nat.reduceAdd, Int.cast_ofNat_Int, if_true, if_false, AV.one, repCells, fillA, partCells, Nat.reduceLT, Nat.reduceLeDiff, Nat.reduceMul, Nat.reduceSub, Int.reduceLT, Int.reduceLE, Int.reduceAdd, Int.reduceSub, Int.reduceMul, Int.reduceToNat, sliceCells, cellsAt, srcA, app, reduceCtorEq, Int.reduceEq, Int.reduceNeg, Int.reducePow, Nat.reducePow, Int.reduceTDiv, Int.reduceDiv, Nat.reduceDiv, Nat.reduceMod, Int.reduceMod, Int.reduceTMod, ne_eq, subA, beq_iff_eq, unA, minA, maxA, eqFs, eqA1, beq_self_eq_true, Nat.reduceBEq, ac_fmtchunk_Check, sndA]
    by_cases h3 : r < 1
    · simp (config := { maxSteps := 4000000 }) (disch := omega) only [step, stepv, ev, okW, onlyFr, Bool.false_and, Bool.true_and, sealw, wl, wn, wp, aop, cV, cV1, ↓reduceIte, Nat.reduceEqDiff, Nat.reduceAdd, Int.cast_ofNat_Int, if_true, if_false, AV.one, repCells, fillA, partCells, Nat.reduceLT, Nat.reduceLeDiff, Nat.reduceMul, Nat.reduceSub, Int.reduceLT, Int.reduceLE, Int.reduceAdd, Int.reduceSub, Int.reduceMul, Int.reduceToNat, sliceCells, cellsAt, srcA, app, reduceCtorEq, Int.reduceEq, Int.reduceNeg, Int.reducePow, Nat.reducePow, Int.reduceTDiv, Int.reduceDiv, Nat.reduceDiv, Nat.reduceMod, Int.reduceMod, Int.reduceTMod, ne_eq, subA, beq_iff_eq, unA, minA, maxA, eqFs, eqA1, beq_self_eq_true, Nat.reduceBEq, ac_fmtchunk_Check, sndA]
    by_cases h4 : 1048576 < r
    · simp (config := { maxSteps := 4000000 }) (disch := omega) only [step, stepv, ev, okW, onlyFr, Bool.false_and, Bool.true_and, sealw, wl, wn, wp, aop, cV, cV1, ↓reduceIte, Nat.reduceEqDiff, Nat.reduceAdd, Int.cast_ofNat_Int, if_true, if_false, AV.one, repCells, fillA, partCells, Nat.reduceLT, Nat.reduceLeDiff, Nat.reduceMul, Nat.reduceSub, Int.reduceLT, Int.reduceLE, Int.reduceAdd, Int.reduceSub, Int.reduceMul, Int.reduceToNat, sliceCells, cellsAt, srcA, app, reduceCtorEq, Int.reduceEq, Int.reduceNeg, Int.reducePow, Nat.reducePow, Int.reduceTDiv, Int.reduceDiv, Nat.reduceDiv, Nat.reduceMod, Int.reduceMod, Int.reduceTMod, ne_eq, subA, beq_iff_eq, unA, minA, maxA, eqFs, eqA1, beq_self_eq_true, Nat.reduceBEq, ac_fmtchunk_Check, sndA]
    have h5 : ¬ half x ≠ 0 := fun h5 => h ⟨by omega, by omega, h5, by omega, by omega⟩
    rw [half_ne] at h5
    by_cases h6 : x = 8
    · omega
    by_cases h7 : x = 16
    · omega
    by_cases h8 : x = 24
    · omega
    simp (config := { maxSteps := 4000000 }) (disch := omega) only [step, stepv, ev, okW, onlyFr, Bool.false_and, Bool.true_and, sealw, wl, wn, wp, aop, cV, cV1, ↓reduceIte, Nat.reduceEqDiff, Nat.reduceAdd, Int.cast_ofNat_Int, if_true, if_false, AV.one, repCells, fillA, partCells, Nat.reduceLT, Nat.reduceLeDiff, Nat.reduceMul, Nat.reduceSub, Int.reduceLT, Int.reduceLE, Int.reduceAdd, Int.reduceSub, Int.reduceMul, Int.reduceToNat, sliceCells, cellsAt, srcA, app, reduceCtorEq, Int.reduceEq, Int.reduceNeg, Int.reducePow, Nat.reducePow, Int.reduceTDiv, Int.reduceDiv, Nat.reduceDiv, Nat.reduceMod, Int.reduceMod, Int.reduceTMod, ne_eq, subA, beq_iff_eq, unA, minA, maxA, eqFs, eqA1, beq_self_eq_true, Nat.reduceBEq, ac_fmtchunk_Check, sndA]

def broadS (c b : Int) : Bool := decide (2 < c) || decide (16 < b)
def S_SWide (P : Prg) (f : Nat) : Prop := ∀ c b r : Int, VC P f [sndA c b r] (if sndOk c b r then .tup [.bool (broadS c b), .int .i64 0] else .tup [.bool false, .int .i64 8])
theorem fmt_Wide {P : Prg} {f fC t0 : Nat} (b : Body P f 18 [.tmp 2, .tmp 3] (ac_fmtchunk_Wide fC t0)) (hC : S_SCheck P fC) : S_SWide P f := by
  intro c x r
  refine VC.of_acall rfl (by split <;> rfl) (ACall.of_body b (by simp) ?_)
  have hC' := hC c x r
  rw [sndA] at hC'
  simp (config := { maxSteps := 4000000 }) (disch := omega) only [step, stepv, ev, okW, onlyFr, Bool.false_and, Bool.true_and, sealw, wl, wn, wp, aop, cV, cV1, ↓reduceIte, Nat.reduceEqDiff, Nat.reduceAdd, Int.cast_ofNat_Int, if_true, if_false, AV.one, repCells, fillA, partCells, Nat.reduceLT, Nat.reduceLeDiff, Nat.reduceMul, Nat.reduceSub, Int.reduceLT, Int.reduceLE, Int.reduceAdd, Int.reduceSub, Int.reduceMul, Int.reduceToNat, sliceCells, cellsAt, srcA, app, reduceCtorEq, Int.reduceEq, Int.reduceNeg, Int.reducePow, Nat.reducePow, Int.reduceTDiv, Int.reduceDiv, Nat.reduceDiv, Nat.reduceMod, Int.reduceMod, Int.reduceTMod, ne_eq, subA, beq_iff_eq, unA, minA, maxA, eqFs, eqA1, beq_self_eq_true, Nat.reduceBEq, ac_fmtchunk_Wide, sndA]
  refine callQ.vc hC' ?_
  by_cases h : sndOk c x r
  · simp only [chkS, if_pos h]
    by_cases h2 : 2 < c
    · have e : broadS c x = true := by simp [broadS, h2]
      simp (config := { maxSteps := 4000000 }) (disch := omega) only [step, stepv, ev, okW, onlyFr, Bool.false_and, Bool.true_and, sealw, wl, wn, wp, aop, cV, cV1, ↓reduceIte, Nat.reduceEqDiff, Nat.reduceAdd, Int.cast_ofNat_Int, if_true, if_false, AV.one, repCells, fillA, partCells, Nat.reduceLT, Nat.reduceLeDiff, Nat.reduceMul, Nat.reduceSub, Int.reduceLT, Int.reduceLE, Int.reduceAdd, Int.reduceSub, Int.reduceMul, Int.reduceToNat, sliceCells, cellsAt, srcA, app, reduceCtorEq, Int.reduceEq, Int.reduceNeg, Int.reducePow, Nat.reducePow, Int.reduceTDiv, Int.reduceDiv, Nat.reduceDiv, Nat.reduceMod, Int.reduceMod, Int.reduceTMod, ne_eq, subA, beq_iff_eq, unA, minA, maxA, eqFs, eqA1, beq_self_eq_true, Nat.reduceBEq, e]
    · by_cases h3 : 16 < x
      · have e : broadS c x = true := by simp [broadS, h3]
        simp (config := { maxSteps := 4000000 }) (disch := omega) only [step, stepv, ev, okW, onlyFr, Bool.false_and, Bool.true_and, sealw, wl, wn, wp, aop, cV, cV1, ↓reduceIte, Nat.reduceEqDiff, Nat.reduceAdd, Int.cast_ofNat_Int, if_true, if_false, AV.one, repCells, fillA, partCells, Nat.reduceLT, Nat.reduceLeDiff, Nat.reduceMul, Nat.reduceSub, Int.reduceLT, Int.reduceLE, Int.reduceAdd, Int.reduceSub, Int.reduceMul, Int.reduceToNat, sliceCells, cellsAt, srcA, app, reduceCtorEq, Int.reduceEq, Int.reduceNeg, Int.reducePow, Nat.reducePow, Int.reduceTDiv, Int.reduceDiv, Nat.reduceDiv, Nat.reduceMod, Int.reduceMod, Int.reduceTMod, ne_eq, subA, beq_iff_eq, unA, minA, maxA, eqFs, eqA1, beq_self_eq_true, Nat.reduceBEq, e]
      · have e : broadS c x = false := by simp [broadS, h2, h3]
        simp (config := { maxSteps := 4000000 }) (disch := omega) only [step, stepv, ev, okW, onlyFr, Bool.false_and, Bool.true_and, sealw, wl, wn, wp, aop, cV, cV1, ↓reduceIte, Nat.reduceEqDiff, Nat.reduceAdd, Int.cast_ofNat_Int, if_true, if_false, AV.one, repCells, fillA, partCells, Nat.reduceLT, Nat.reduceLeDiff, Nat.reduceMul, Nat.reduceSub, Int.reduceLT, Int.reduceLE, Int.reduceAdd, Int.reduceSub, Int.reduceMul, Int.reduceToNat, sliceCells, cellsAt, srcA, app, reduceCtorEq, Int.reduceEq, Int.reduceNeg, Int.reducePow, Nat.reducePow, Int.reduceTDiv, Int.reduceDiv, Nat.reduceDiv, Nat.reduceMod, Int.reduceMod, Int.reduceTMod, ne_eq, subA, beq_iff_eq, unA, minA, maxA, eqFs, eqA1, beq_self_eq_true, Nat.reduceBEq, e]
  · simp only [chkS, if_neg h]
    simp (config := { maxSteps := 4000000 }) (disch := omega) only [step, stepv, ev, okW, onlyFr, Bool.false_and, Bool.true_and, sealw, wl, wn, wp, aop, cV, cV1, ↓reduceIte, Nat.reduceEqDiff, Nat.reduceAdd, Int.cast_ofNat_Int, if_true, if_false, AV.one, repCells, fillA, partCells, Nat.reduceLT, Nat.reduceLeDiff, Nat.reduceMul, Nat.reduceSub, Int.reduceLT, Int.reduceLE, Int.reduceAdd, Int.reduceSub, Int.reduceMul, Int.reduceToNat, sliceCells, cellsAt, srcA, app, reduceCtorEq, Int.reduceEq, Int.reduceNeg, Int.reducePow, Nat.reducePow, Int.reduceTDiv, Int.reduceDiv, Nat.reduceDiv, Nat.reduceMod, Int.reduceMod, Int.reduceTMod, ne_eq, subA, beq_iff_eq, unA, minA, maxA, eqFs, eqA1, beq_self_eq_true, Nat.reduceBEq]

end Go.Am

namespace Go.Am
open Go.RowKit

def S_FForm (P : Prg) (f : Nat) : Prop := ∀ (c b r : Nat) (wide : Bool) (m : Nat), sndOk c b r → m < 4294967296 → VC P f [sndA c b r, .bool wide, .int .u64 m] (bs (formB c b r wide m))

def FitL (V : List Nat) : Prop := ∀ k (h : k < V.length) (h' : k < widN.length), V[k] < 256 ^ widN[k] ∧ 1 ≤ widN[k] ∧ widN[k] ≤ 8
theorem valN_fit {c b r tag m : Nat} (h : sndOk c b r) (hm : m < 4294967296) (ht : tag < 65536) : FitL (valN c b r tag m) := by
  obtain ⟨h1, h2, h3, h4, h5⟩ := h
  have hb : b ≤ 24 := by rcases (half_ne b).1 h3 with h | h | h <;> omega
  have e1 : c * b ≤ 6 * 24 := Nat.mul_le_mul (by omega) hb
  have e2 : r * (c * b / 8) ≤ 1048576 * 18 := Nat.mul_le_mul (by omega) (by omega)
  intro k hk _
  have hk : k < 9 := hk
  match k, hk with
  | 0, _ => simp [valN, widN]; omega
  | 1, _ => simp [valN, widN]; omega
  | 2, _ => simp [valN, widN]; omega
  | 3, _ => simp [valN, widN]; omega
  | 4, _ => simp [valN, widN]; omega
  | 5, _ => simp [valN, widN]; omega
  | 6, _ => simp [valN, widN]
  | 7, _ => simp [valN, widN]; omega
  | 8, _ => simp [valN, widN]; omega

theorem preB_succ {l : List (Nat × Nat)} {k : Nat} (h : k < l.length) : preB (l.take (k + 1)) = preB (l.take k) ++ leB (l[k]).1 (l[k]).2 := by
  rw [preB, List.take_succ_eq_append_getElem h, List.flatMap_append]; simp [preB]

theorem preB_le {V : List Nat} (k : Nat) : (preB ((V.zip widN).take k)).length ≤ 36 := by
  have h : ∀ l : List (Nat × Nat), (∀ p ∈ l, p.2 ≤ 4) → (preB l).length ≤ l.length * 4 := by
    intro l
    induction l with
    | nil => simp [preB]
    | cons p l ih =>
      intro h
      have h1 := h p (by simp)
      have h2 := ih fun q hq => h q (by simp [hq])
      have e : preB (p :: l) = leB p.1 p.2 ++ preB l := rfl
      rw [e, List.length_append, leB_length, List.length_cons]
      omega
  have h2 := h ((V.zip widN).take k) fun p hp => by
    have h3 := (List.of_mem_zip (List.mem_of_mem_take hp)).2
    simp [widN] at h3; omega
  have h4 : ((V.zip widN).take k).length ≤ 9 := by simp [widN]; omega
  omega

set_option maxRecDepth 20000 in
set_option maxHeartbeats 1000000 in
theorem fmt_form {P : Prg} {f fB t0 t1 t2 g0 g1 : Nat} (bd : Body P f 67 [.tmp 6] (ac_fmtchunk_form fB t0 t1 t2 g0 g1)) (hB : S_leBytes P fB) (h0 : P.G.lookup g0 = some widG) (h1 : P.G.lookup g1 = some guidG) : S_FForm P f := by
  intro c b r wide m hok hm
  have hok0 := hok
  obtain ⟨q1, q2, q3, q4, q5⟩ := hok0
  have hb : b ≤ 24 := by rcases (half_ne b).1 q3 with h | h | h <;> omega
  have e1 : c * b ≤ 6 * 24 := Nat.mul_le_mul (by omega) hb
  have e2 : r * (c * b / 8) ≤ 1048576 * 18 := Nat.mul_le_mul (by omega) (by omega)
  have hpre := preB_form c b r wide m
  have hfit : ∀ tag : Nat, tag < 65536 → FitL (valN c b r tag m) := fun tag ht => valN_fit hok hm ht
  simp only [valN] at hpre hfit
  generalize hS : c * b / 8 = S at *
  generalize hT : r * S = T at *
  have m1 : (c : Int) * b = ((c * b : Nat) : Int) := by simp
  have m2 : ((c * b : Nat) : Int) / 8 = (S : Int) := by omega
  have m3 : (r : Int) * (S : Int) = (T : Int) := by rw [← hT]; simp
  generalize c * b = cb at *
  refine VC.of_walk 1 rfl (isD_bs _) (ACall.of_body bd (by simp) ?_)
  have g0' : glob P.G g0 = .cell widG := by simp [glob, h0]
  have g1' : glob P.G g1 = .cell guidG := by simp [glob, h1]
  cases wide with
  | false =>
    simp (config := { maxSteps := 4000000 }) (disch := omega) only [step, stepv, ev, okW, onlyFr, Bool.false_and, Bool.true_and, sealw, wl, wn, wp, aop, cV, cV1, ↓reduceIte, Nat.reduceEqDiff, Nat.reduceAdd, Int.cast_ofNat_Int, if_true, if_false, AV.one, repCells, fillA, partCells, Nat.reduceLT, Nat.reduceLeDiff, Nat.reduceMul, Nat.reduceSub, Int.reduceLT, Int.reduceLE, Int.reduceAdd, Int.reduceSub, Int.reduceMul, Int.reduceToNat, sliceCells, cellsAt, srcA, app, reduceCtorEq, Int.reduceEq, Int.reduceNeg, Int.reducePow, Nat.reducePow, Int.reduceTDiv, Int.reduceDiv, Nat.reduceDiv, Nat.reduceMod, Int.reduceMod, Int.reduceTMod, ne_eq, subA, beq_iff_eq, unA, minA, maxA, eqFs, eqA1, beq_self_eq_true, Nat.reduceBEq, ac_fmtchunk_form, sndA, m1, m2, m3]
    obtain ⟨V, hV⟩ : ∃ V : List Nat, V = [1, c, r, T, S, b, 22, b, m] := ⟨_, rfl⟩
    have hl9 : V.length = 9 := by rw [hV]; rfl
    have hc9 : ([.int .u64 1, .int .u64 c, .int .u64 r, .int .u64 T, .int .u64 S, .int .u64 b, .int .u64 22, .int .u64 b, .int .u64 m] : List AV) = ks .u64 (V.map fun n : Nat => (n : Int)) := by rw [hV]; simp [ks]
    have f1 := hfit 1 (by omega)
    rw [← hV] at f1
    have hp : formB c b r false m = preB ((V.zip widN).take 6) := by rw [hpre, hV]; simp
    rw [hc9, hp]
    refine ALoop.by (ι := Nat) (fun k => ⟨[(45, .int .i64 k), (44, .int .i64 6), (10, .own 2 (preB ((V.zip widN).take k)).length), (8, .ref 1 1 0), (1, .bool false)], [⟨t0, 3, 1, [.int .i64 c, .int .i64 b, .int .i64 r], 0⟩, ⟨t1, 9, 1, ks .u64 (V.map fun n : Nat => (n : Int)), 0⟩, ⟨t2, 1, (preB ((V.zip widN).take k)).length, u8 (preB ((V.zip widN).take k)), 0⟩]⟩) (fun k => k ≤ 6) (fun k => 6 - k) 0 (Le.trans (Le.virt 10 t2 1 (by omega) rfl) (Le.slots (by simp [Am.look, preB]))) (by omega) ?_
    intro k hk
    have hs := preB_le (V := V) k
    by_cases hlt : k < 6
    · have f1 := f1 k (by omega) (by simp [widN]; omega)
      have d1 := drop_ks (K := .u64) (l := V.map fun n : Nat => (n : Int)) (k := k) (by simp; omega)
      have d2 := drop_ks (K := .i64) (l := widN.map fun n : Nat => (n : Int)) (k := k) (by simp [widN]; omega)
      have d3 := preB_succ (l := V.zip widN) (k := k) (by simp [widN]; omega)
      have d4 : (ks .u64 (V.map fun n : Nat => (n : Int))).length = 9 := by rw [ks_length]; simpa using hl9
      have d5 : (ks .i64 (widN.map fun n : Nat => (n : Int))).length = 9 := by rw [ks_length]; rfl
      rw [List.getElem_map] at d1 d2
      rw [List.getElem_zip] at d3
      obtain ⟨f1, f2, f3⟩ := f1
      rw [widG_ks] at g0'
      generalize V[k]'_ = v at *
      generalize widN[k]'_ = w at *
      obtain ⟨W, hW⟩ : ∃ W, (widN.map fun n : Nat => (n : Int)) = W := ⟨_, rfl⟩
      rw [hW] at d2 d5 g0'
      simp (config := { maxSteps := 4000000 }) (disch := omega) only [step, stepv, ev, okW, onlyFr, Bool.false_and, Bool.true_and, sealw, wl, wn, wp, aop, cV, cV1, ↓reduceIte, Nat.reduceEqDiff, Nat.reduceAdd, Int.cast_ofNat_Int, if_true, if_false, AV.one, repCells, fillA, partCells, Nat.reduceLT, Nat.reduceLeDiff, Nat.reduceMul, Nat.reduceSub, Int.reduceLT, Int.reduceLE, Int.reduceAdd, Int.reduceSub, Int.reduceMul, Int.reduceToNat, sliceCells, cellsAt, srcA, app, reduceCtorEq, Int.reduceEq, Int.reduceNeg, Int.reducePow, Nat.reducePow, Int.reduceTDiv, Int.reduceDiv, Nat.reduceDiv, Nat.reduceMod, Int.reduceMod, Int.reduceTMod, ne_eq, subA, beq_iff_eq, unA, minA, maxA, eqFs, eqA1, beq_self_eq_true, Nat.reduceBEq, g0', d1, d2, d4, d5]
      refine callD.vc (hB v w f2 f3 f1) ?_
      simp (config := { maxSteps := 4000000 }) (disch := omega) only [step, stepv, ev, okW, onlyFr, Bool.false_and, Bool.true_and, sealw, wl, wn, wp, aop, cV, cV1, ↓reduceIte, Nat.reduceEqDiff, Nat.reduceAdd, Int.cast_ofNat_Int, if_true, if_false, AV.one, repCells, fillA, partCells, Nat.reduceLT, Nat.reduceLeDiff, Nat.reduceMul, Nat.reduceSub, Int.reduceLT, Int.reduceLE, Int.reduceAdd, Int.reduceSub, Int.reduceMul, Int.reduceToNat, sliceCells, cellsAt, srcA, app, reduceCtorEq, Int.reduceEq, Int.reduceNeg, Int.reducePow, Nat.reducePow, Int.reduceTDiv, Int.reduceDiv, Nat.reduceDiv, Nat.reduceMod, Int.reduceMod, Int.reduceTMod, ne_eq, subA, beq_iff_eq, unA, minA, maxA, eqFs, eqA1, beq_self_eq_true, Nat.reduceBEq, bs, leB_length]
      refine ⟨k + 1, by omega, by omega, ?_⟩
      rw [d3, ← u8_append, List.length_append, leB_length]
      exact Le.slots (by simp [Am.look])
    · have ek : k = 6 := by omega
      subst ek
      simp (config := { maxSteps := 4000000 }) (disch := omega) only [step, stepv, ev, okW, onlyFr, Bool.false_and, Bool.true_and, sealw, wl, wn, wp, aop, cV, cV1, ↓reduceIte, Nat.reduceEqDiff, Nat.reduceAdd, Int.cast_ofNat_Int, if_true, if_false, AV.one, repCells, fillA, partCells, Nat.reduceLT, Nat.reduceLeDiff, Nat.reduceMul, Nat.reduceSub, Int.reduceLT, Int.reduceLE, Int.reduceAdd, Int.reduceSub, Int.reduceMul, Int.reduceToNat, sliceCells, cellsAt, srcA, app, reduceCtorEq, Int.reduceEq, Int.reduceNeg, Int.reducePow, Nat.reducePow, Int.reduceTDiv, Int.reduceDiv, Nat.reduceDiv, Nat.reduceMod, Int.reduceMod, Int.reduceTMod, ne_eq, subA, beq_iff_eq, unA, minA, maxA, eqFs, eqA1, beq_self_eq_true, Nat.reduceBEq]
      simp [frzN, frzK, frzL, frzV, frzL_T _ (isT_u8 _), bs]
  | true =>
    simp (config := { maxSteps := 4000000 }) (disch := omega) only [step, stepv, ev, okW, onlyFr, Bool.false_and, Bool.true_and, sealw, wl, wn, wp, aop, cV, cV1, ↓reduceIte, Nat.reduceEqDiff, Nat.reduceAdd, Int.cast_ofNat_Int, if_true, if_false, AV.one, repCells, fillA, partCells, Nat.reduceLT, Nat.reduceLeDiff, Nat.reduceMul, Nat.reduceSub, Int.reduceLT, Int.reduceLE, Int.reduceAdd, Int.reduceSub, Int.reduceMul, Int.reduceToNat, sliceCells, cellsAt, srcA, app, reduceCtorEq, Int.reduceEq, Int.reduceNeg, Int.reducePow, Nat.reducePow, Int.reduceTDiv, Int.reduceDiv, Nat.reduceDiv, Nat.reduceMod, Int.reduceMod, Int.reduceTMod, ne_eq, subA, beq_iff_eq, unA, minA, maxA, eqFs, eqA1, beq_self_eq_true, Nat.reduceBEq, ac_fmtchunk_form, sndA, m1, m2, m3]
    obtain ⟨V, hV⟩ : ∃ V : List Nat, V = [65534, c, r, T, S, b, 22, b, m] := ⟨_, rfl⟩
    have hl9 : V.length = 9 := by rw [hV]; rfl
    have hc9 : ([.int .u64 65534, .int .u64 c, .int .u64 r, .int .u64 T, .int .u64 S, .int .u64 b, .int .u64 22, .int .u64 b, .int .u64 m] : List AV) = ks .u64 (V.map fun n : Nat => (n : Int)) := by rw [hV]; simp [ks]
    have f1 := hfit 65534 (by omega)
    rw [← hV] at f1
    have hp : formB c b r true m = preB ((V.zip widN).take 9) ++ guidB := by rw [hpre, hV]; simp
    rw [hc9, hp]
    refine ALoop.by (ι := Nat) (fun k => ⟨[(45, .int .i64 k), (44, .int .i64 9), (10, .own 2 (preB ((V.zip widN).take k)).length), (8, .ref 1 1 0), (1, .bool true)], [⟨t0, 3, 1, [.int .i64 c, .int .i64 b, .int .i64 r], 0⟩, ⟨t1, 9, 1, ks .u64 (V.map fun n : Nat => (n : Int)), 0⟩, ⟨t2, 1, (preB ((V.zip widN).take k)).length, u8 (preB ((V.zip widN).take k)), 0⟩]⟩) (fun k => k ≤ 9) (fun k => 9 - k) 0 (Le.trans (Le.virt 10 t2 1 (by omega) rfl) (Le.slots (by simp [Am.look, preB]))) (by omega) ?_
    intro k hk
    have hs := preB_le (V := V) k
    by_cases hlt : k < 9
    · have f1 := f1 k (by omega) (by simp [widN]; omega)
      have d1 := drop_ks (K := .u64) (l := V.map fun n : Nat => (n : Int)) (k := k) (by simp; omega)
      have d2 := drop_ks (K := .i64) (l := widN.map fun n : Nat => (n : Int)) (k := k) (by simp [widN]; omega)
      have d3 := preB_succ (l := V.zip widN) (k := k) (by simp [widN]; omega)
      have d4 : (ks .u64 (V.map fun n : Nat => (n : Int))).length = 9 := by rw [ks_length]; simpa using hl9
      have d5 : (ks .i64 (widN.map fun n : Nat => (n : Int))).length = 9 := by rw [ks_length]; rfl
      rw [List.getElem_map] at d1 d2
      rw [List.getElem_zip] at d3
      obtain ⟨f1, f2, f3⟩ := f1
      rw [widG_ks] at g0'
      generalize V[k]'_ = v at *
      generalize widN[k]'_ = w at *
      obtain ⟨W, hW⟩ : ∃ W, (widN.map fun n : Nat => (n : Int)) = W := ⟨_, rfl⟩
      rw [hW] at d2 d5 g0'
      simp (config := { maxSteps := 4000000 }) (disch := omega) only [step, stepv, ev, okW, onlyFr, Bool.false_and, Bool.true_and, sealw, wl, wn, wp, aop, cV, cV1, ↓reduceIte, Nat.reduceEqDiff, Nat.reduceAdd, Int.cast_ofNat_Int, if_true, if_false, AV.one, repCells, fillA, partCells, Nat.reduceLT, Nat.reduceLeDiff, Nat.reduceMul, Nat.reduceSub, Int.reduceLT, Int.reduceLE, Int.reduceAdd, Int.reduceSub, Int.reduceMul, Int.reduceToNat, sliceCells, cellsAt, srcA, app, reduceCtorEq, Int.reduceEq, Int.reduceNeg, Int.reducePow, Nat.reducePow, Int.reduceTDiv, Int.reduceDiv, Nat.reduceDiv, Nat.reduceMod, Int.reduceMod, Int.reduceTMod, ne_eq, subA, beq_iff_eq, unA, minA, maxA, eqFs, eqA1, beq_self_eq_true, Nat.reduceBEq, g0', d1, d2, d4, d5]
      refine callD.vc (hB v w f2 f3 f1) ?_
      simp (config := { maxSteps := 4000000 }) (disch := omega) only [step, stepv, ev, okW, onlyFr, Bool.false_and, Bool.true_and, sealw, wl, wn, wp, aop, cV, cV1, ↓reduceIte, Nat.reduceEqDiff, Nat.reduceAdd, Int.cast_ofNat_Int, if_true, if_false, AV.one, repCells, fillA, partCells, Nat.reduceLT, Nat.reduceLeDiff, Nat.reduceMul, Nat.reduceSub, Int.reduceLT, Int.reduceLE, Int.reduceAdd, Int.reduceSub, Int.reduceMul, Int.reduceToNat, sliceCells, cellsAt, srcA, app, reduceCtorEq, Int.reduceEq, Int.reduceNeg, Int.reducePow, Nat.reducePow, Int.reduceTDiv, Int.reduceDiv, Nat.reduceDiv, Nat.reduceMod, Int.reduceMod, Int.reduceTMod, ne_eq, subA, beq_iff_eq, unA, minA, maxA, eqFs, eqA1, beq_self_eq_true, Nat.reduceBEq, bs, leB_length]
      refine ⟨k + 1, by omega, by omega, ?_⟩
      rw [d3, ← u8_append, List.length_append, leB_length]
      exact Le.slots (by simp [Am.look])
    · have ek : k = 9 := by omega
      subst ek
      have z1 : (min 16 guidG.length = 16) = True := eq_true rfl
      have z2 : List.take 16 guidG = u8 guidB := by rw [guidG_u8]; rfl
      have z3 : guidB.length = 16 := rfl
      have z4 : (guidB.length = 16) = True := eq_true rfl
      simp (config := { maxSteps := 4000000 }) (disch := omega) only [step, stepv, ev, okW, onlyFr, Bool.false_and, Bool.true_and, sealw, wl, wn, wp, aop, cV, cV1, ↓reduceIte, Nat.reduceEqDiff, Nat.reduceAdd, Int.cast_ofNat_Int, if_true, if_false, AV.one, repCells, fillA, partCells, Nat.reduceLT, Nat.reduceLeDiff, Nat.reduceMul, Nat.reduceSub, Int.reduceLT, Int.reduceLE, Int.reduceAdd, Int.reduceSub, Int.reduceMul, Int.reduceToNat, sliceCells, cellsAt, srcA, app, reduceCtorEq, Int.reduceEq, Int.reduceNeg, Int.reducePow, Nat.reducePow, Int.reduceTDiv, Int.reduceDiv, Nat.reduceDiv, Nat.reduceMod, Int.reduceMod, Int.reduceTMod, ne_eq, subA, beq_iff_eq, unA, minA, maxA, eqFs, eqA1, beq_self_eq_true, Nat.reduceBEq, g1', z1, z2, z4]
      simp [frzN, frzK, frzL, frzV, u8_append, frzL_T _ (isT_u8 _), bs, z3]

end Go.Am

namespace Go.Am
open Go.RowKit

def S_WrittenO (t : Nat) (P : Prg) (f : Nat) : Prop := ∀ n w : Nat, w ≤ 8 → n < 18446744073709551616 → VO P f [.int .u64 n, .int .i64 w] (.own 0 w) ⟨t, 1, w, u8 (leB n w), 0⟩

theorem ref01_WrittenO {P : Prg} {f t0 : Nat} (b : Body P f 21 [.tmp 4] (ac_cadenzaref01_Written t0)) : S_WrittenO t0 P f := by
  intro n w hw hn
  refine VO.of_walk rfl (by simp [isDL_u8]) (by simp [okr]) (ACall.of_body b (by simp) ?_)
  simp (config := { maxSteps := 4000000 }) (disch := omega) only [step, stepv, ev, okW, onlyFr, Bool.false_and, Bool.true_and, sealw, wl, wn, wp, aop, cV, cV1, ↓reduceIte, Nat.reduceEqDiff, Nat.reduceAdd, Int.cast_ofNat_Int, if_true, if_false, AV.one, repCells, fillA, partCells, Nat.reduceLT, Nat.reduceLeDiff, Nat.reduceMul, Nat.reduceSub, Int.reduceLT, Int.reduceLE, Int.reduceAdd, Int.reduceSub, Int.reduceMul, Int.reduceToNat, sliceCells, cellsAt, srcA, app, reduceCtorEq, Int.reduceEq, Int.reduceNeg, Int.reducePow, Nat.reducePow, Int.reduceTDiv, Int.reduceDiv, Nat.reduceDiv, Nat.reduceMod, Int.reduceMod, Int.reduceTMod, ne_eq, subA, beq_iff_eq, unA, minA, maxA, eqFs, eqA1, beq_self_eq_true, Nat.reduceBEq, ac_cadenzaref01_Written]
  refine ALoop.by (ι := Nat) (fun k => ⟨[(6, .int .i64 k), (5, .own 0 k), (1, .int .i64 w), (0, .int .u64 ((n / 256 ^ k : Nat) : Int))], [⟨t0, 1, k, u8 ((leB n w).take k), 0⟩]⟩) (fun k => k ≤ w) (fun k => w - k) 0
    (Le.trans (Le.virt 5 t0 1 (by omega) rfl) (Le.slots (by simp [Am.look]))) (by omega) ?_
  intro k hk
  have hdiv : n / 256 ^ k ≤ n := Nat.div_le_self _ _
  by_cases hlt : k < w
  · have hl : (u8 ((leB n w).take k)).length = k := by simp [u8_length, leB_length]; omega
    have e6 := leB_take_succ (n := n) hlt
    have e2 : n / 256 ^ (k + 1) = n / 256 ^ k / 256 := by rw [Nat.pow_succ, ← Nat.div_div_eq_div_mul]
    generalize hm : n / 256 ^ k = m at *
    have e3 : (UInt8.ofNat (m % 256)).toNat = m % 256 := by simp
    have e5 : ((m : Int) % 256) = ((m % 256 : Nat) : Int) := by omega
    have e7 : u8 ((leB n w).take k) ++ [AV.int .u8 ((m : Int) % 256)] = u8 ((leB n w).take (k + 1)) := by
      rw [e6, ← u8_append, u8_cons, u8_nil, e3, e5]
    simp (config := { maxSteps := 4000000 }) (disch := omega) only [step, stepv, ev, okW, onlyFr, Bool.false_and, Bool.true_and, sealw, wl, wn, wp, aop, cV, cV1, ↓reduceIte, Nat.reduceEqDiff, Nat.reduceAdd, Int.cast_ofNat_Int, if_true, if_false, AV.one, repCells, fillA, partCells, Nat.reduceLT, Nat.reduceLeDiff, Nat.reduceMul, Nat.reduceSub, Int.reduceLT, Int.reduceLE, Int.reduceAdd, Int.reduceSub, Int.reduceMul, Int.reduceToNat, sliceCells, cellsAt, srcA, app, reduceCtorEq, Int.reduceEq, Int.reduceNeg, Int.reducePow, Nat.reducePow, Int.reduceTDiv, Int.reduceDiv, Nat.reduceDiv, Nat.reduceMod, Int.reduceMod, Int.reduceTMod, ne_eq, subA, beq_iff_eq, unA, minA, maxA, eqFs, eqA1, beq_self_eq_true, Nat.reduceBEq, hl]
    rw [e7]
    refine ⟨k + 1, by omega, by omega, Le.drop 1 2 (by omega) rfl ?_ ?_⟩
    · rw [e2]; simp [Am.look, frzK, frzL, frzV]
    · intro i y hy
      match i, hy with
      | 0, hy =>
        simp at hy
        subst hy
        exact ⟨u8 ((leB n w).take (k + 1)), by simp, by simp only [frzK]; exact frzL_T _ (isT_u8 _)⟩
      | i + 1, hy => simp at hy
  · have ek : k = w := by omega
    subst ek
    have e7 : (leB n k).take k = leB n k := List.take_of_length_le (by rw [leB_length]; exact Nat.le_refl _)
    simp (config := { maxSteps := 4000000 }) (disch := omega) only [step, stepv, ev, okW, onlyFr, Bool.false_and, Bool.true_and, sealw, wl, wn, wp, aop, cV, cV1, ↓reduceIte, Nat.reduceEqDiff, Nat.reduceAdd, Int.cast_ofNat_Int, if_true, if_false, AV.one, repCells, fillA, partCells, Nat.reduceLT, Nat.reduceLeDiff, Nat.reduceMul, Nat.reduceSub, Int.reduceLT, Int.reduceLE, Int.reduceAdd, Int.reduceSub, Int.reduceMul, Int.reduceToNat, sliceCells, cellsAt, srcA, app, reduceCtorEq, Int.reduceEq, Int.reduceNeg, Int.reducePow, Nat.reducePow, Int.reduceTDiv, Int.reduceDiv, Nat.reduceDiv, Nat.reduceMod, Int.reduceMod, Int.reduceTMod, ne_eq, subA, beq_iff_eq, unA, minA, maxA, eqFs, eqA1, beq_self_eq_true, Nat.reduceBEq, e7]
    exact ⟨0, rfl, rfl⟩

def S_First (t : Nat) (P : Prg) (f : Nat) : Prop := ∀ (c b r tag : Nat), sndOk c b r → tag < 65536 → VO P f [sndA c b r, .int .u64 tag] (.own 0 16) ⟨t, 1, 16, u8 (firstB c b r tag), 0⟩

theorem firstB_length (c b r tag : Nat) : (firstB c b r tag).length = 16 := by simp [firstB, leB_length]

set_option maxRecDepth 20000 in
theorem ref32_first {P : Prg} {f fW t0 t1 : Nat} (bd : Body P f 46 [.tmp 4] (ac_cadenzaref32_first fW t0 t1)) (hO : S_WrittenO t1 P fW) (hW : S_Written P fW) : S_First t1 P f := by
  intro c b r tag hok ht
  obtain ⟨q1, q2, q3, q4, q5⟩ := hok
  have hb : b ≤ 24 := by rcases (half_ne b).1 q3 with h | h | h <;> omega
  have e1 : c * b ≤ 6 * 24 := Nat.mul_le_mul (by omega) hb
  have e2 : r * (c * b / 8) ≤ 1048576 * 18 := Nat.mul_le_mul (by omega) (by omega)
  have hfb : firstB c b r tag = firstB c b r tag := rfl
  conv at hfb => rhs; unfold firstB
  generalize firstB c b r tag = F at hfb
  generalize hS : c * b / 8 = S at *
  generalize hT : r * S = T at *
  have m1 : (c : Int) * b = ((c * b : Nat) : Int) := by simp
  have m2 : ((c * b : Nat) : Int) / 8 = (S : Int) := by omega
  have m3 : (r : Int) * (S : Int) = (T : Int) := by rw [← hT]; simp
  generalize c * b = cb at *
  refine VO.of_walk (by simp [isDL, isD, sndA]) (by simp [isDL_u8]) (by simp [okr]) (ACall.of_body bd (by simp) ?_)
  simp (config := { maxSteps := 4000000 }) (disch := omega) only [step, stepv, ev, okW, onlyFr, Bool.false_and, Bool.true_and, sealw, wl, wn, wp, aop, cV, cV1, ↓reduceIte, Nat.reduceEqDiff, Nat.reduceAdd, Int.cast_ofNat_Int, if_true, if_false, AV.one, repCells, fillA, partCells, Nat.reduceLT, Nat.reduceLeDiff, Nat.reduceMul, Nat.reduceSub, Int.reduceLT, Int.reduceLE, Int.reduceAdd, Int.reduceSub, Int.reduceMul, Int.reduceToNat, sliceCells, cellsAt, srcA, app, reduceCtorEq, Int.reduceEq, Int.reduceNeg, Int.reducePow, Nat.reducePow, Int.reduceTDiv, Int.reduceDiv, Nat.reduceDiv, Nat.reduceMod, Int.reduceMod, Int.reduceTMod, ne_eq, subA, beq_iff_eq, unA, minA, maxA, eqFs, eqA1, beq_self_eq_true, Nat.reduceBEq, ac_cadenzaref32_first, sndA, m1, m2]
  refine callQ.vo (hO tag 2 (by omega) (by omega)) ?_
  simp (config := { maxSteps := 4000000 }) (disch := omega) only [step, stepv, ev, okW, onlyFr, Bool.false_and, Bool.true_and, sealw, wl, wn, wp, aop, cV, cV1, ↓reduceIte, Nat.reduceEqDiff, Nat.reduceAdd, Int.cast_ofNat_Int, if_true, if_false, AV.one, repCells, fillA, partCells, Nat.reduceLT, Nat.reduceLeDiff, Nat.reduceMul, Nat.reduceSub, Int.reduceLT, Int.reduceLE, Int.reduceAdd, Int.reduceSub, Int.reduceMul, Int.reduceToNat, sliceCells, cellsAt, srcA, app, reduceCtorEq, Int.reduceEq, Int.reduceNeg, Int.reducePow, Nat.reducePow, Int.reduceTDiv, Int.reduceDiv, Nat.reduceDiv, Nat.reduceMod, Int.reduceMod, Int.reduceTMod, ne_eq, subA, beq_iff_eq, unA, minA, maxA, eqFs, eqA1, beq_self_eq_true, Nat.reduceBEq, shr]
  refine callQ.vc (hW c 2 (by omega) (by omega)) ?_
  simp (config := { maxSteps := 4000000 }) (disch := omega) only [step, stepv, ev, okW, onlyFr, Bool.false_and, Bool.true_and, sealw, wl, wn, wp, aop, cV, cV1, ↓reduceIte, Nat.reduceEqDiff, Nat.reduceAdd, Int.cast_ofNat_Int, if_true, if_false, AV.one, repCells, fillA, partCells, Nat.reduceLT, Nat.reduceLeDiff, Nat.reduceMul, Nat.reduceSub, Int.reduceLT, Int.reduceLE, Int.reduceAdd, Int.reduceSub, Int.reduceMul, Int.reduceToNat, sliceCells, cellsAt, srcA, app, reduceCtorEq, Int.reduceEq, Int.reduceNeg, Int.reducePow, Nat.reducePow, Int.reduceTDiv, Int.reduceDiv, Nat.reduceDiv, Nat.reduceMod, Int.reduceMod, Int.reduceTMod, ne_eq, subA, beq_iff_eq, unA, minA, maxA, eqFs, eqA1, beq_self_eq_true, Nat.reduceBEq, bs, leB_length]
  refine callQ.vc (hW r 4 (by omega) (by omega)) ?_
  simp (config := { maxSteps := 4000000 }) (disch := omega) only [step, stepv, ev, okW, onlyFr, Bool.false_and, Bool.true_and, sealw, wl, wn, wp, aop, cV, cV1, ↓reduceIte, Nat.reduceEqDiff, Nat.reduceAdd, Int.cast_ofNat_Int, if_true, if_false, AV.one, repCells, fillA, partCells, Nat.reduceLT, Nat.reduceLeDiff, Nat.reduceMul, Nat.reduceSub, Int.reduceLT, Int.reduceLE, Int.reduceAdd, Int.reduceSub, Int.reduceMul, Int.reduceToNat, sliceCells, cellsAt, srcA, app, reduceCtorEq, Int.reduceEq, Int.reduceNeg, Int.reducePow, Nat.reducePow, Int.reduceTDiv, Int.reduceDiv, Nat.reduceDiv, Nat.reduceMod, Int.reduceMod, Int.reduceTMod, ne_eq, subA, beq_iff_eq, unA, minA, maxA, eqFs, eqA1, beq_self_eq_true, Nat.reduceBEq, bs, leB_length, m3]
  refine callQ.vc (hW T 4 (by omega) (by omega)) ?_
  simp (config := { maxSteps := 4000000 }) (disch := omega) only [step, stepv, ev, okW, onlyFr, Bool.false_and, Bool.true_and, sealw, wl, wn, wp, aop, cV, cV1, ↓reduceIte, Nat.reduceEqDiff, Nat.reduceAdd, Int.cast_ofNat_Int, if_true, if_false, AV.one, repCells, fillA, partCells, Nat.reduceLT, Nat.reduceLeDiff, Nat.reduceMul, Nat.reduceSub, Int.reduceLT, Int.reduceLE, Int.reduceAdd, Int.reduceSub, Int.reduceMul, Int.reduceToNat, sliceCells, cellsAt, srcA, app, reduceCtorEq, Int.reduceEq, Int.reduceNeg, Int.reducePow, Nat.reducePow, Int.reduceTDiv, Int.reduceDiv, Nat.reduceDiv, Nat.reduceMod, Int.reduceMod, Int.reduceTMod, ne_eq, subA, beq_iff_eq, unA, minA, maxA, eqFs, eqA1, beq_self_eq_true, Nat.reduceBEq, bs, leB_length]
  refine callQ.vc (hW S 2 (by omega) (by omega)) ?_
  simp (config := { maxSteps := 4000000 }) (disch := omega) only [step, stepv, ev, okW, onlyFr, Bool.false_and, Bool.true_and, sealw, wl, wn, wp, aop, cV, cV1, ↓reduceIte, Nat.reduceEqDiff, Nat.reduceAdd, Int.cast_ofNat_Int, if_true, if_false, AV.one, repCells, fillA, partCells, Nat.reduceLT, Nat.reduceLeDiff, Nat.reduceMul, Nat.reduceSub, Int.reduceLT, Int.reduceLE, Int.reduceAdd, Int.reduceSub, Int.reduceMul, Int.reduceToNat, sliceCells, cellsAt, srcA, app, reduceCtorEq, Int.reduceEq, Int.reduceNeg, Int.reducePow, Nat.reducePow, Int.reduceTDiv, Int.reduceDiv, Nat.reduceDiv, Nat.reduceMod, Int.reduceMod, Int.reduceTMod, ne_eq, subA, beq_iff_eq, unA, minA, maxA, eqFs, eqA1, beq_self_eq_true, Nat.reduceBEq, bs, leB_length]
  refine callQ.vc (hW b 2 (by omega) (by omega)) ?_
  simp (config := { maxSteps := 4000000 }) (disch := omega) only [step, stepv, ev, okW, onlyFr, Bool.false_and, Bool.true_and, sealw, wl, wn, wp, aop, cV, cV1, ↓reduceIte, Nat.reduceEqDiff, Nat.reduceAdd, Int.cast_ofNat_Int, if_true, if_false, AV.one, repCells, fillA, partCells, Nat.reduceLT, Nat.reduceLeDiff, Nat.reduceMul, Nat.reduceSub, Int.reduceLT, Int.reduceLE, Int.reduceAdd, Int.reduceSub, Int.reduceMul, Int.reduceToNat, sliceCells, cellsAt, srcA, app, reduceCtorEq, Int.reduceEq, Int.reduceNeg, Int.reducePow, Nat.reducePow, Int.reduceTDiv, Int.reduceDiv, Nat.reduceDiv, Nat.reduceMod, Int.reduceMod, Int.reduceTMod, ne_eq, subA, beq_iff_eq, unA, minA, maxA, eqFs, eqA1, beq_self_eq_true, Nat.reduceBEq, bs, leB_length]
  refine ⟨1, ?_, rfl⟩
  simp [hfb]

def S_SMask (P : Prg) (f : Nat) : Prop := ∀ (c b r m : Nat), sndOk c b r → m < 4294967296 → VC P f [sndA c b r, .int .u32 m] (bs (formB c b r true m))
theorem ref32_Masked {P : Prg} {f fF fW t0 t1 : Nat} (bd : Body P f 25 [.tmp 4] (ac_cadenzaref32_Masked fF fW t0 t1)) (hF : S_First t1 P fF) (hW : S_Written P fW) : S_SMask P f := by
  intro c b r m hok hm
  obtain ⟨q1, q2, q3, q4, q5⟩ := hok
  have hb : b ≤ 24 := by rcases (half_ne b).1 q3 with h | h | h <;> omega
  refine VC.of_walk 1 rfl (isD_bs _) (ACall.of_body bd (by simp) ?_)
  have := hF c b r 65534 ⟨q1, q2, q3, q4, q5⟩ (by omega)
  rw [sndA] at this
  simp (config := { maxSteps := 4000000 }) (disch := omega) only [step, stepv, ev, okW, onlyFr, Bool.false_and, Bool.true_and, sealw, wl, wn, wp, aop, cV, cV1, ↓reduceIte, Nat.reduceEqDiff, Nat.reduceAdd, Int.cast_ofNat_Int, if_true, if_false, AV.one, repCells, fillA, partCells, Nat.reduceLT, Nat.reduceLeDiff, Nat.reduceMul, Nat.reduceSub, Int.reduceLT, Int.reduceLE, Int.reduceAdd, Int.reduceSub, Int.reduceMul, Int.reduceToNat, sliceCells, cellsAt, srcA, app, reduceCtorEq, Int.reduceEq, Int.reduceNeg, Int.reducePow, Nat.reducePow, Int.reduceTDiv, Int.reduceDiv, Nat.reduceDiv, Nat.reduceMod, Int.reduceMod, Int.reduceTMod, ne_eq, subA, beq_iff_eq, unA, minA, maxA, eqFs, eqA1, beq_self_eq_true, Nat.reduceBEq, ac_cadenzaref32_Masked, sndA]
  refine callQ.vo this ?_
  simp (config := { maxSteps := 4000000 }) (disch := omega) only [step, stepv, ev, okW, onlyFr, Bool.false_and, Bool.true_and, sealw, wl, wn, wp, aop, cV, cV1, ↓reduceIte, Nat.reduceEqDiff, Nat.reduceAdd, Int.cast_ofNat_Int, if_true, if_false, AV.one, repCells, fillA, partCells, Nat.reduceLT, Nat.reduceLeDiff, Nat.reduceMul, Nat.reduceSub, Int.reduceLT, Int.reduceLE, Int.reduceAdd, Int.reduceSub, Int.reduceMul, Int.reduceToNat, sliceCells, cellsAt, srcA, app, reduceCtorEq, Int.reduceEq, Int.reduceNeg, Int.reducePow, Nat.reducePow, Int.reduceTDiv, Int.reduceDiv, Nat.reduceDiv, Nat.reduceMod, Int.reduceMod, Int.reduceTMod, ne_eq, subA, beq_iff_eq, unA, minA, maxA, eqFs, eqA1, beq_self_eq_true, Nat.reduceBEq, shr]
  refine callQ.vc (hW b 2 (by omega) (by omega)) ?_
  simp (config := { maxSteps := 4000000 }) (disch := omega) only [step, stepv, ev, okW, onlyFr, Bool.false_and, Bool.true_and, sealw, wl, wn, wp, aop, cV, cV1, ↓reduceIte, Nat.reduceEqDiff, Nat.reduceAdd, Int.cast_ofNat_Int, if_true, if_false, AV.one, repCells, fillA, partCells, Nat.reduceLT, Nat.reduceLeDiff, Nat.reduceMul, Nat.reduceSub, Int.reduceLT, Int.reduceLE, Int.reduceAdd, Int.reduceSub, Int.reduceMul, Int.reduceToNat, sliceCells, cellsAt, srcA, app, reduceCtorEq, Int.reduceEq, Int.reduceNeg, Int.reducePow, Nat.reducePow, Int.reduceTDiv, Int.reduceDiv, Nat.reduceDiv, Nat.reduceMod, Int.reduceMod, Int.reduceTMod, ne_eq, subA, beq_iff_eq, unA, minA, maxA, eqFs, eqA1, beq_self_eq_true, Nat.reduceBEq, bs, leB_length]
  refine callQ.vc (hW m 4 (by omega) (by omega)) ?_
  simp (config := { maxSteps := 4000000 }) (disch := omega) only [step, stepv, ev, okW, onlyFr, Bool.false_and, Bool.true_and, sealw, wl, wn, wp, aop, cV, cV1, ↓reduceIte, Nat.reduceEqDiff, Nat.reduceAdd, Int.cast_ofNat_Int, if_true, if_false, AV.one, repCells, fillA, partCells, Nat.reduceLT, Nat.reduceLeDiff, Nat.reduceMul, Nat.reduceSub, Int.reduceLT, Int.reduceLE, Int.reduceAdd, Int.reduceSub, Int.reduceMul, Int.reduceToNat, sliceCells, cellsAt, srcA, app, reduceCtorEq, Int.reduceEq, Int.reduceNeg, Int.reducePow, Nat.reducePow, Int.reduceTDiv, Int.reduceDiv, Nat.reduceDiv, Nat.reduceMod, Int.reduceMod, Int.reduceTMod, ne_eq, subA, beq_iff_eq, unA, minA, maxA, eqFs, eqA1, beq_self_eq_true, Nat.reduceBEq, bs, leB_length]
  have hc : u8 (maskB c b r m) = u8 (firstB c b r 65534) ++ [.int .u8 22, .int .u8 0] ++ u8 (leB b 2) ++ u8 (leB m 4) ++ guidG := by
    rw [guidG_u8, maskB, show leB 22 2 = [22, 0] by decide]
    simp only [← u8_append]
    rfl
  have hl : (maskB c b r m).length = 40 := by simp [maskB, firstB_length, leB_length, guidB]
  rw [guidG] at hc
  rw [← hc]
  simp [frzN, frzK, frzL, frzV, frzL_T _ (isT_u8 _), formB, hl]

theorem form_false (c b r m : Nat) : formB c b r false m = formB c b r false 0 := rfl
theorem leN_leB2 : ∀ (k n : Nat), n < 256 ^ k → leN (leB n k) = n
  | 0, n, h => by simp at h; subst h; rfl
  | k + 1, n, h => by
    have h1 : n / 256 < 256 ^ k := by rw [Nat.pow_succ] at h; exact Nat.div_lt_of_lt_mul (by omega)
    have h2 : (UInt8.ofNat (n % 256)).toNat = n % 256 := by simp
    simp only [leB, leN, leN_leB2 k _ h1, h2]
    omega

end Go.Am

namespace Go.Am
open Go.RowKit

/-! ### fmtchunk.Write, Read -/

def formW (c b r : Int) : List UInt8 := formB c.toNat b.toNat r.toNat (broadS c b) (2 ^ c.toNat - 1)
def S_SWrite (P : Prg) (f : Nat) : Prop := ∀ (c b r : Int), VC P f [sndA c b r] (if sndOk c b r then .tup [bs (formW c b r), .int .i64 0] else .tup [.list 0 [], .int .i64 8])

theorem sndOk_nat {c b r : Int} (h : sndOk c b r) : ∃ c' b' r' : Nat, c = c' ∧ b = b' ∧ r = r' := by
  obtain ⟨h1, h2, h3, h4, h5⟩ := h
  rw [half_ne] at h3
  exact ⟨c.toNat, b.toNat, r.toNat, by omega, by omega, by omega⟩

theorem fmt_Write {P : Prg} {f fF fW t0 : Nat} (bd : Body P f 21 [.tmp 2, .tmp 3] (ac_fmtchunk_Write fW fF t0)) (hF : S_FForm P fF) (hW : S_SWide P fW) : S_SWrite P f := by
  intro c b r
  have hW' := hW c b r
  rw [sndA] at hW'
  by_cases hok : sndOk c b r
  · rw [if_pos hok] at hW' ⊢
    obtain ⟨c, b, r, rfl, rfl, rfl⟩ := sndOk_nat hok
    refine VC.of_acall rfl (by simp [isD, isDL, isD_bs]) (ACall.of_body bd (by simp) ?_)
    have hF' := hF c b r (broadS c b) (2 ^ c - 1) hok (by
      have := Nat.pow_le_pow_right (n := 2) (by omega) (show c ≤ 6 by have := hok.2.1; omega)
      omega)
    have hc1 := hok.1
    have hc6 := hok.2.1
    rw [sndA] at hF'
    simp only [formW, Int.toNat_natCast]
    simp (config := { maxSteps := 4000000 }) (disch := omega) only [step, stepv, ev, okW, onlyFr, Bool.false_and, Bool.true_and, sealw, wl, wn, wp, aop, cV, cV1, ↓reduceIte, Nat.reduceEqDiff, Nat.reduceAdd, Int.cast_ofNat_Int, if_true, if_false, AV.one, repCells, fillA, partCells, Nat.reduceLT, Nat.reduceLeDiff, Nat.reduceMul, Nat.reduceSub, Int.reduceLT, Int.reduceLE, Int.reduceAdd, Int.reduceSub, Int.reduceMul, Int.reduceToNat, sliceCells, cellsAt, srcA, app, reduceCtorEq, Int.reduceEq, Int.reduceNeg, Int.reducePow, Nat.reducePow, Int.reduceTDiv, Int.reduceDiv, Nat.reduceDiv, Nat.reduceMod, Int.reduceMod, Int.reduceTMod, ne_eq, subA, beq_iff_eq, unA, minA, maxA, eqFs, eqA1, beq_self_eq_true, Nat.reduceBEq, ac_fmtchunk_Write, sndA]
    refine callQ.vc hW' ?_
    have sh1 : shiftA true .u64 1 1 = some (.int .u64 2) := rfl
    have sh2 : shiftA true .u64 1 2 = some (.int .u64 4) := rfl
    have sh3 : shiftA true .u64 1 3 = some (.int .u64 8) := rfl
    have sh4 : shiftA true .u64 1 4 = some (.int .u64 16) := rfl
    have sh5 : shiftA true .u64 1 5 = some (.int .u64 32) := rfl
    have sh6 : shiftA true .u64 1 6 = some (.int .u64 64) := rfl
    have hc : c = 1 ∨ c = 2 ∨ c = 3 ∨ c = 4 ∨ c = 5 ∨ c = 6 := by omega
    rcases hc with rfl | rfl | rfl | rfl | rfl | rfl
    all_goals
      simp (config := { maxSteps := 4000000 }) (disch := omega) only [step, stepv, ev, okW, onlyFr, Bool.false_and, Bool.true_and, sealw, wl, wn, wp, aop, cV, cV1, ↓reduceIte, Nat.reduceEqDiff, Nat.reduceAdd, Int.cast_ofNat_Int, if_true, if_false, AV.one, repCells, fillA, partCells, Nat.reduceLT, Nat.reduceLeDiff, Nat.reduceMul, Nat.reduceSub, Int.reduceLT, Int.reduceLE, Int.reduceAdd, Int.reduceSub, Int.reduceMul, Int.reduceToNat, sliceCells, cellsAt, srcA, app, reduceCtorEq, Int.reduceEq, Int.reduceNeg, Int.reducePow, Nat.reducePow, Int.reduceTDiv, Int.reduceDiv, Nat.reduceDiv, Nat.reduceMod, Int.reduceMod, Int.reduceTMod, ne_eq, subA, beq_iff_eq, unA, minA, maxA, eqFs, eqA1, beq_self_eq_true, Nat.reduceBEq, sh1, sh2, sh3, sh4, sh5, sh6]
      refine callD.vc hF' ?_
      simp (config := { maxSteps := 4000000 }) (disch := omega) only [step, stepv, ev, okW, onlyFr, Bool.false_and, Bool.true_and, sealw, wl, wn, wp, aop, cV, cV1, ↓reduceIte, Nat.reduceEqDiff, Nat.reduceAdd, Int.cast_ofNat_Int, if_true, if_false, AV.one, repCells, fillA, partCells, Nat.reduceLT, Nat.reduceLeDiff, Nat.reduceMul, Nat.reduceSub, Int.reduceLT, Int.reduceLE, Int.reduceAdd, Int.reduceSub, Int.reduceMul, Int.reduceToNat, sliceCells, cellsAt, srcA, app, reduceCtorEq, Int.reduceEq, Int.reduceNeg, Int.reducePow, Nat.reducePow, Int.reduceTDiv, Int.reduceDiv, Nat.reduceDiv, Nat.reduceMod, Int.reduceMod, Int.reduceTMod, ne_eq, subA, beq_iff_eq, unA, minA, maxA, eqFs, eqA1, beq_self_eq_true, Nat.reduceBEq]
  · rw [if_neg hok] at hW' ⊢
    refine VC.of_walk 1 rfl rfl (ACall.of_body bd (by simp) ?_)
    simp (config := { maxSteps := 4000000 }) (disch := omega) only [step, stepv, ev, okW, onlyFr, Bool.false_and, Bool.true_and, sealw, wl, wn, wp, aop, cV, cV1, ↓reduceIte, Nat.reduceEqDiff, Nat.reduceAdd, Int.cast_ofNat_Int, if_true, if_false, AV.one, repCells, fillA, partCells, Nat.reduceLT, Nat.reduceLeDiff, Nat.reduceMul, Nat.reduceSub, Int.reduceLT, Int.reduceLE, Int.reduceAdd, Int.reduceSub, Int.reduceMul, Int.reduceToNat, sliceCells, cellsAt, srcA, app, reduceCtorEq, Int.reduceEq, Int.reduceNeg, Int.reducePow, Nat.reducePow, Int.reduceTDiv, Int.reduceDiv, Nat.reduceDiv, Nat.reduceMod, Int.reduceMod, Int.reduceTMod, ne_eq, subA, beq_iff_eq, unA, minA, maxA, eqFs, eqA1, beq_self_eq_true, Nat.reduceBEq, ac_fmtchunk_Write, sndA]
    refine callQ.vc hW' ?_
    simp (config := { maxSteps := 4000000 }) (disch := omega) only [step, stepv, ev, okW, onlyFr, Bool.false_and, Bool.true_and, sealw, wl, wn, wp, aop, cV, cV1, ↓reduceIte, Nat.reduceEqDiff, Nat.reduceAdd, Int.cast_ofNat_Int, if_true, if_false, AV.one, repCells, fillA, partCells, Nat.reduceLT, Nat.reduceLeDiff, Nat.reduceMul, Nat.reduceSub, Int.reduceLT, Int.reduceLE, Int.reduceAdd, Int.reduceSub, Int.reduceMul, Int.reduceToNat, sliceCells, cellsAt, srcA, app, reduceCtorEq, Int.reduceEq, Int.reduceNeg, Int.reducePow, Nat.reducePow, Int.reduceTDiv, Int.reduceDiv, Nat.reduceDiv, Nat.reduceMod, Int.reduceMod, Int.reduceTMod, ne_eq, subA, beq_iff_eq, unA, minA, maxA, eqFs, eqA1, beq_self_eq_true, Nat.reduceBEq]
    simp [frzN, frzK, frzL, frzV]

def fld (l : List UInt8) (i n : Nat) : Nat := leN ((l.drop i).take n)
def Fv (l : List UInt8) (i n : Nat) : Nat := if i + n ≤ l.length then fld l i n else 0
theorem fld_lt (l : List UInt8) (i n : Nat) (hn : n ≤ 4) : fld l i n < 4294967296 := by
  have h1 := leN_lt ((l.drop i).take n)
  have h2 : 8 * ((l.drop i).take n).length ≤ 32 := by simp; omega
  have h3 := Nat.pow_le_pow_right (n := 2) (by omega) h2
  unfold fld; omega
theorem Fv_lt (l : List UInt8) (i n : Nat) (hn : n ≤ 4) : Fv l i n < 4294967296 := by
  unfold Fv; split
  · exact fld_lt l i n hn
  · omega
theorem Fv_eq {l : List UInt8} {i n : Nat} (h : i + n ≤ l.length) : Fv l i n = fld l i n := by simp [Fv, h]

/-- The form that some bytes tell. -/
def readS (l : List UInt8) : Option (Nat × Nat × Nat) :=
  if sndOk (fld l 2 2) (fld l 14 2) (fld l 4 4) ∧ (l = formB (fld l 2 2) (fld l 14 2) (fld l 4 4) false 0 ∨ l = formB (fld l 2 2) (fld l 14 2) (fld l 4 4) true (fld l 20 4)) then some (fld l 2 2, fld l 14 2, fld l 4 4) else none
def readSA : Option (Nat × Nat × Nat) → AV
  | none => .tup [sndA 0 0 0, .int .i64 12]
  | some (c, b, r) => .tup [sndA c b r, .int .i64 0]
theorem isD_readSA (o : Option (Nat × Nat × Nat)) : isD (readSA o) = true := by rcases o with _ | ⟨c, b, r⟩ <;> rfl

theorem formB_length (c b r : Nat) (w : Bool) (m : Nat) : (formB c b r w m).length = if w then 40 else 16 := by
  cases w <;> simp [formB, maskB, firstB_length, leB_length, guidB]

theorem fld_tag {c b r tag : Nat} (rest : List UInt8) (h : tag < 65536) : fld (firstB c b r tag ++ rest) 0 2 = tag := by
  simp only [fld, List.drop_zero, firstB, List.append_assoc]
  rw [List.take_left' (leB_length 2 tag), leN_leB2 2 tag h]

theorem formB_tag {c b r m : Nat} {w : Bool} : fld (formB c b r w m) 0 2 = if w then 65534 else 1 := by
  cases w with
  | false =>
    have := fld_tag (c := c) (b := b) (r := r) (tag := 1) [] (by omega)
    rw [List.append_nil] at this
    exact this
  | true =>
    have := fld_tag (c := c) (b := b) (r := r) (tag := 65534) (leB 22 2 ++ (leB b 2 ++ (leB m 4 ++ guidB))) (by omega)
    simpa [formB, maskB, List.append_assoc] using this

theorem readS_cases (l : List UInt8) : (readS l = none ∧ ∀ w, ¬ (sndOk (fld l 2 2) (fld l 14 2) (fld l 4 4) ∧ l = formB (fld l 2 2) (fld l 14 2) (fld l 4 4) w (fld l 20 4))) ∨
    (readS l = some (fld l 2 2, fld l 14 2, fld l 4 4) ∧ sndOk (fld l 2 2) (fld l 14 2) (fld l 4 4) ∧ ∃ w, l = formB (fld l 2 2) (fld l 14 2) (fld l 4 4) w (fld l 20 4)) := by
  by_cases h : sndOk (fld l 2 2) (fld l 14 2) (fld l 4 4) ∧ (l = formB (fld l 2 2) (fld l 14 2) (fld l 4 4) false 0 ∨ l = formB (fld l 2 2) (fld l 14 2) (fld l 4 4) true (fld l 20 4))
  · refine .inr ⟨by rw [readS, if_pos h], h.1, ?_⟩
    rcases h.2 with h | h
    · exact ⟨false, by rw [form_false]; exact h⟩
    · exact ⟨true, h⟩
  · refine .inl ⟨by rw [readS, if_neg h], fun w h' => h ⟨h'.1, ?_⟩⟩
    cases w with
    | false => exact .inl (by rw [form_false] at h'; exact h'.2)
    | true => exact .inr h'.2

theorem len_form {l : List UInt8} {c b r m : Nat} {w : Bool} (h : l = formB c b r w m) : l.length = if w then 40 else 16 := by
  have := congrArg List.length h
  rwa [formB_length] at this

theorem Fv_flds {l : List UInt8} (h : 16 ≤ l.length) : Fv l 2 2 = fld l 2 2 ∧ Fv l 14 2 = fld l 14 2 ∧ Fv l 4 4 = fld l 4 4 ∧ Fv l 0 2 = fld l 0 2 :=
  ⟨Fv_eq (by omega), Fv_eq (by omega), Fv_eq (by omega), Fv_eq (by omega)⟩

theorem readS_some {l : List UInt8} (hok : sndOk (Fv l 2 2) (Fv l 14 2) (Fv l 4 4)) {w : Bool} (h : l = formB (Fv l 2 2) (Fv l 14 2) (Fv l 4 4) w (Fv l 20 4)) : readS l = some (Fv l 2 2, Fv l 14 2, Fv l 4 4) := by
  have hl := len_form h
  obtain ⟨e1, e2, e3, _⟩ := Fv_flds (l := l) (by rw [hl]; split <;> omega)
  rw [e1, e2, e3] at h hok ⊢
  rcases readS_cases l with ⟨_, h2⟩ | ⟨h1, _⟩
  · refine absurd ⟨hok, ?_⟩ (h2 w)
    cases w with
    | false => rw [form_false] at h ⊢; exact h
    | true =>
      have : Fv l 20 4 = fld l 20 4 := Fv_eq (by rw [hl]; decide)
      rwa [this] at h
  · exact h1

theorem readS_none {l : List UInt8} {w : Bool} (hw : decide (Fv l 0 2 = 65534) = w) (h : ¬ sndOk (Fv l 2 2) (Fv l 14 2) (Fv l 4 4) ∨ l ≠ formB (Fv l 2 2) (Fv l 14 2) (Fv l 4 4) w (Fv l 20 4)) : readS l = none := by
  rcases readS_cases l with ⟨h1, _⟩ | ⟨_, hok, w', hw'⟩
  · exact h1
  · exfalso
    have hl := len_form hw'
    obtain ⟨e1, e2, e3, e0⟩ := Fv_flds (l := l) (by rw [hl]; split <;> omega)
    rw [e1, e2, e3] at h
    rcases h with h | h
    · exact h hok
    · have ht : fld l 0 2 = if w' then 65534 else 1 := by
        conv => lhs; rw [hw']
        exact formB_tag
      have : w = w' := by
        rw [← hw, e0, ht]
        cases w' <;> simp
      subst this
      apply h
      cases w with
      | false => rw [form_false]; rw [form_false] at hw'; exact hw'
      | true =>
        have : Fv l 20 4 = fld l 20 4 := Fv_eq (by rw [hl]; decide)
        rw [this]; exact hw'

def S_SRead (P : Prg) (f : Nat) : Prop := ∀ l : List UInt8, l.length < 4611686018427387904 → VC P f [bs l] (readSA (readS l))

def S_bEqual (P : Prg) (f : Nat) : Prop := ∀ a b : List UInt8, VC P f [bs a, bs b] (.bool (a == b))
theorem bytes_Equal {P : Prg} {f : Nat} (bd : Body P f 10 [.tmp 4] ac_bytes_Equal) : S_bEqual P f := by
  intro a b
  refine VC.of_acall (by simp [isDL, isD_bs]) rfl (ACall.of_body bd (by simp) ?_)
  simp (config := { maxSteps := 4000000 }) (disch := omega) only [step, stepv, ev, okW, onlyFr, Bool.false_and, Bool.true_and, sealw, wl, wn, wp, aop, cV, cV1, ↓reduceIte, Nat.reduceEqDiff, Nat.reduceAdd, Int.cast_ofNat_Int, if_true, if_false, AV.one, repCells, fillA, partCells, Nat.reduceLT, Nat.reduceLeDiff, Nat.reduceMul, Nat.reduceSub, Int.reduceLT, Int.reduceLE, Int.reduceAdd, Int.reduceSub, Int.reduceMul, Int.reduceToNat, sliceCells, cellsAt, srcA, app, reduceCtorEq, Int.reduceEq, Int.reduceNeg, Int.reducePow, Nat.reducePow, Int.reduceTDiv, Int.reduceDiv, Nat.reduceDiv, Nat.reduceMod, Int.reduceMod, Int.reduceTMod, ne_eq, subA, beq_iff_eq, unA, minA, maxA, eqFs, eqA1, beq_self_eq_true, Nat.reduceBEq, ac_bytes_Equal, bs, strA]

/-- The cells when the first k fields are read. -/
def allK (l : List UInt8) : Nat → List AV
  | 0 => [.int .u64 0, .int .u64 0, .int .u64 0, .int .u64 0, .int .u64 0, .int .u64 0, .int .u64 0, .int .u64 0, .int .u64 0]
  | 1 => [.int .u64 (Fv l 0 2 : Nat), .int .u64 0, .int .u64 0, .int .u64 0, .int .u64 0, .int .u64 0, .int .u64 0, .int .u64 0, .int .u64 0]
  | 2 => [.int .u64 (Fv l 0 2 : Nat), .int .u64 (Fv l 2 2 : Nat), .int .u64 0, .int .u64 0, .int .u64 0, .int .u64 0, .int .u64 0, .int .u64 0, .int .u64 0]
  | 3 => [.int .u64 (Fv l 0 2 : Nat), .int .u64 (Fv l 2 2 : Nat), .int .u64 (Fv l 4 4 : Nat), .int .u64 0, .int .u64 0, .int .u64 0, .int .u64 0, .int .u64 0, .int .u64 0]
  | 4 => [.int .u64 (Fv l 0 2 : Nat), .int .u64 (Fv l 2 2 : Nat), .int .u64 (Fv l 4 4 : Nat), .int .u64 (Fv l 8 4 : Nat), .int .u64 0, .int .u64 0, .int .u64 0, .int .u64 0, .int .u64 0]
  | 5 => [.int .u64 (Fv l 0 2 : Nat), .int .u64 (Fv l 2 2 : Nat), .int .u64 (Fv l 4 4 : Nat), .int .u64 (Fv l 8 4 : Nat), .int .u64 (Fv l 12 2 : Nat), .int .u64 0, .int .u64 0, .int .u64 0, .int .u64 0]
  | 6 => [.int .u64 (Fv l 0 2 : Nat), .int .u64 (Fv l 2 2 : Nat), .int .u64 (Fv l 4 4 : Nat), .int .u64 (Fv l 8 4 : Nat), .int .u64 (Fv l 12 2 : Nat), .int .u64 (Fv l 14 2 : Nat), .int .u64 0, .int .u64 0, .int .u64 0]
  | 7 => [.int .u64 (Fv l 0 2 : Nat), .int .u64 (Fv l 2 2 : Nat), .int .u64 (Fv l 4 4 : Nat), .int .u64 (Fv l 8 4 : Nat), .int .u64 (Fv l 12 2 : Nat), .int .u64 (Fv l 14 2 : Nat), .int .u64 (Fv l 16 2 : Nat), .int .u64 0, .int .u64 0]
  | 8 => [.int .u64 (Fv l 0 2 : Nat), .int .u64 (Fv l 2 2 : Nat), .int .u64 (Fv l 4 4 : Nat), .int .u64 (Fv l 8 4 : Nat), .int .u64 (Fv l 12 2 : Nat), .int .u64 (Fv l 14 2 : Nat), .int .u64 (Fv l 16 2 : Nat), .int .u64 (Fv l 18 2 : Nat), .int .u64 0]
  | 9 => [.int .u64 (Fv l 0 2 : Nat), .int .u64 (Fv l 2 2 : Nat), .int .u64 (Fv l 4 4 : Nat), .int .u64 (Fv l 8 4 : Nat), .int .u64 (Fv l 12 2 : Nat), .int .u64 (Fv l 14 2 : Nat), .int .u64 (Fv l 16 2 : Nat), .int .u64 (Fv l 18 2 : Nat), .int .u64 (Fv l 20 4 : Nat)]
  | _ => []
def offK : Nat → Nat
  | 0 => 0
  | 1 => 2
  | 2 => 4
  | 3 => 8
  | 4 => 12
  | 5 => 14
  | 6 => 16
  | 7 => 18
  | 8 => 20
  | 9 => 24
  | _ => 0

set_option maxRecDepth 20000 in
set_option maxHeartbeats 4000000 in
theorem fmt_Read {P : Prg} {f fA fC fF fE t0 t1 g0 : Nat} (bd : Body P f 61 [.cell 2 t0, .tmp 3] (ac_fmtchunk_Read fA fC fF fE t0 t1 g0)) (hA : S_le_At P fA) (hC : S_SCheck P fC) (hF : S_FForm P fF) (hE : S_bEqual P fE) (h0 : P.G.lookup g0 = some widG) (ht : aggO P t0 = some (some 3)) : S_SRead P f := by
  intro l hl
  refine VC.of_acall (by simp [isDL, isD_bs]) (isD_readSA _) (ACall.of_body bd (by simp) ?_)
  have g0' : glob P.G g0 = .cell widG := by simp [glob, h0]
  simp (config := { maxSteps := 4000000 }) (disch := omega) only [step, stepv, ev, okW, onlyFr, Bool.false_and, Bool.true_and, sealw, wl, wn, wp, aop, cV, cV1, ↓reduceIte, Nat.reduceEqDiff, Nat.reduceAdd, Int.cast_ofNat_Int, if_true, if_false, AV.one, repCells, fillA, partCells, Nat.reduceLT, Nat.reduceLeDiff, Nat.reduceMul, Nat.reduceSub, Int.reduceLT, Int.reduceLE, Int.reduceAdd, Int.reduceSub, Int.reduceMul, Int.reduceToNat, sliceCells, cellsAt, srcA, app, reduceCtorEq, Int.reduceEq, Int.reduceNeg, Int.reducePow, Nat.reducePow, Int.reduceTDiv, Int.reduceDiv, Nat.reduceDiv, Nat.reduceMod, Int.reduceMod, Int.reduceTMod, ne_eq, subA, beq_iff_eq, unA, minA, maxA, eqFs, eqA1, beq_self_eq_true, Nat.reduceBEq, ac_fmtchunk_Read, bs, g0', widG]
  refine ALoop.by (ι := Nat) (fun k => ⟨[(11, .int .i64 k), (4, .int .i64 (offK k)), (10, .agg widG), (5, .ref 1 1 0), (2, .ref 0 1 0), (3, .int .i64 0), (0, .list l.length (u8 l))], [⟨t0, 3, 1, [.int .i64 0, .int .i64 0, .int .i64 0], 0⟩, ⟨t1, 9, 1, allK l k, 0⟩]⟩) (fun k => k ≤ 9) (fun k => 9 - k) 0 (Le.slots (by simp [Am.look, offK, widG])) (by omega) ?_
  intro k hk
  have hA' := fun a w h1 h2 h3 => hA l a w hl h1 h2 h3
  simp only [bs] at hA'
  by_cases h9 : k = 9
  · subst h9
    have b1 := Fv_lt l 2 2 (by omega)
    have b2 := Fv_lt l 14 2 (by omega)
    have b3 := Fv_lt l 4 4 (by omega)
    have b8 := Fv_lt l 20 4 (by omega)
    have hC' := hC (Fv l 2 2) (Fv l 14 2) (Fv l 4 4)
    rw [sndA] at hC'
    simp (config := { maxSteps := 4000000 }) (disch := omega) only [step, stepv, ev, okW, onlyFr, Bool.false_and, Bool.true_and, sealw, wl, wn, wp, aop, cV, cV1, ↓reduceIte, Nat.reduceEqDiff, Nat.reduceAdd, Int.cast_ofNat_Int, if_true, if_false, AV.one, repCells, fillA, partCells, Nat.reduceLT, Nat.reduceLeDiff, Nat.reduceMul, Nat.reduceSub, Int.reduceLT, Int.reduceLE, Int.reduceAdd, Int.reduceSub, Int.reduceMul, Int.reduceToNat, sliceCells, cellsAt, srcA, app, reduceCtorEq, Int.reduceEq, Int.reduceNeg, Int.reducePow, Nat.reducePow, Int.reduceTDiv, Int.reduceDiv, Nat.reduceDiv, Nat.reduceMod, Int.reduceMod, Int.reduceTMod, ne_eq, subA, beq_iff_eq, unA, minA, maxA, eqFs, eqA1, beq_self_eq_true, Nat.reduceBEq, allK]
    refine callQ.vc hC' ?_
    by_cases hok : sndOk (Fv l 2 2) (Fv l 14 2) (Fv l 4 4)
    · have hF' := hF (Fv l 2 2) (Fv l 14 2) (Fv l 4 4) (decide (Fv l 0 2 = 65534)) (Fv l 20 4) hok b8
      rw [sndA] at hF'
      simp only [chkS, if_pos hok]
      by_cases hw : Fv l 0 2 = 65534
      · have hw' : ((Fv l 0 2 : Int) = 65534) = True := eq_true (by omega)
        have hq : decide (Fv l 0 2 = 65534) = true := by simp [hw]
        rw [hq] at hF'
        simp (config := { maxSteps := 4000000 }) (disch := omega) only [step, stepv, ev, okW, onlyFr, Bool.false_and, Bool.true_and, sealw, wl, wn, wp, aop, cV, cV1, ↓reduceIte, Nat.reduceEqDiff, Nat.reduceAdd, Int.cast_ofNat_Int, if_true, if_false, AV.one, repCells, fillA, partCells, Nat.reduceLT, Nat.reduceLeDiff, Nat.reduceMul, Nat.reduceSub, Int.reduceLT, Int.reduceLE, Int.reduceAdd, Int.reduceSub, Int.reduceMul, Int.reduceToNat, sliceCells, cellsAt, srcA, app, reduceCtorEq, Int.reduceEq, Int.reduceNeg, Int.reducePow, Nat.reducePow, Int.reduceTDiv, Int.reduceDiv, Nat.reduceDiv, Nat.reduceMod, Int.reduceMod, Int.reduceTMod, ne_eq, subA, beq_iff_eq, unA, minA, maxA, eqFs, eqA1, beq_self_eq_true, Nat.reduceBEq, hw']
        refine callQ.vc hF' ?_
        simp (config := { maxSteps := 4000000 }) (disch := omega) only [step, stepv, ev, okW, onlyFr, Bool.false_and, Bool.true_and, sealw, wl, wn, wp, aop, cV, cV1, ↓reduceIte, Nat.reduceEqDiff, Nat.reduceAdd, Int.cast_ofNat_Int, if_true, if_false, AV.one, repCells, fillA, partCells, Nat.reduceLT, Nat.reduceLeDiff, Nat.reduceMul, Nat.reduceSub, Int.reduceLT, Int.reduceLE, Int.reduceAdd, Int.reduceSub, Int.reduceMul, Int.reduceToNat, sliceCells, cellsAt, srcA, app, reduceCtorEq, Int.reduceEq, Int.reduceNeg, Int.reducePow, Nat.reducePow, Int.reduceTDiv, Int.reduceDiv, Nat.reduceDiv, Nat.reduceMod, Int.reduceMod, Int.reduceTMod, ne_eq, subA, beq_iff_eq, unA, minA, maxA, eqFs, eqA1, beq_self_eq_true, Nat.reduceBEq]
        refine callQ.vc (hE l _) ?_
        by_cases he : l = formB (Fv l 2 2) (Fv l 14 2) (Fv l 4 4) true (Fv l 20 4)
        · have he' : (l == formB (Fv l 2 2) (Fv l 14 2) (Fv l 4 4) true (Fv l 20 4)) = true := by simpa using he
          have hr := readS_some hok (w := true) he
          rw [hr]
          simp (config := { maxSteps := 4000000 }) (disch := omega) only [step, stepv, ev, okW, onlyFr, Bool.false_and, Bool.true_and, sealw, wl, wn, wp, aop, cV, cV1, ↓reduceIte, Nat.reduceEqDiff, Nat.reduceAdd, Int.cast_ofNat_Int, if_true, if_false, AV.one, repCells, fillA, partCells, Nat.reduceLT, Nat.reduceLeDiff, Nat.reduceMul, Nat.reduceSub, Int.reduceLT, Int.reduceLE, Int.reduceAdd, Int.reduceSub, Int.reduceMul, Int.reduceToNat, sliceCells, cellsAt, srcA, app, reduceCtorEq, Int.reduceEq, Int.reduceNeg, Int.reducePow, Nat.reducePow, Int.reduceTDiv, Int.reduceDiv, Nat.reduceDiv, Nat.reduceMod, Int.reduceMod, Int.reduceTMod, ne_eq, subA, beq_iff_eq, unA, minA, maxA, eqFs, eqA1, beq_self_eq_true, Nat.reduceBEq, he', readSA, sndA, resA, ht, oneOf]
        · have he' : (l == formB (Fv l 2 2) (Fv l 14 2) (Fv l 4 4) true (Fv l 20 4)) = false := by simpa using he
          have hr := readS_none (l := l) (w := true) (by simp [hw]) (.inr he)
          rw [hr]
          simp (config := { maxSteps := 4000000 }) (disch := omega) only [step, stepv, ev, okW, onlyFr, Bool.false_and, Bool.true_and, sealw, wl, wn, wp, aop, cV, cV1, ↓reduceIte, Nat.reduceEqDiff, Nat.reduceAdd, Int.cast_ofNat_Int, if_true, if_false, AV.one, repCells, fillA, partCells, Nat.reduceLT, Nat.reduceLeDiff, Nat.reduceMul, Nat.reduceSub, Int.reduceLT, Int.reduceLE, Int.reduceAdd, Int.reduceSub, Int.reduceMul, Int.reduceToNat, sliceCells, cellsAt, srcA, app, reduceCtorEq, Int.reduceEq, Int.reduceNeg, Int.reducePow, Nat.reducePow, Int.reduceTDiv, Int.reduceDiv, Nat.reduceDiv, Nat.reduceMod, Int.reduceMod, Int.reduceTMod, ne_eq, subA, beq_iff_eq, unA, minA, maxA, eqFs, eqA1, beq_self_eq_true, Nat.reduceBEq, he', readSA, sndA, resA, ht, oneOf]
      · have hw' : ((Fv l 0 2 : Int) = 65534) = False := eq_false (by omega)
        have hq : decide (Fv l 0 2 = 65534) = false := by simp [hw]
        rw [hq] at hF'
        simp (config := { maxSteps := 4000000 }) (disch := omega) only [step, stepv, ev, okW, onlyFr, Bool.false_and, Bool.true_and, sealw, wl, wn, wp, aop, cV, cV1, ↓reduceIte, Nat.reduceEqDiff, Nat.reduceAdd, Int.cast_ofNat_Int, if_true, if_false, AV.one, repCells, fillA, partCells, Nat.reduceLT, Nat.reduceLeDiff, Nat.reduceMul, Nat.reduceSub, Int.reduceLT, Int.reduceLE, Int.reduceAdd, Int.reduceSub, Int.reduceMul, Int.reduceToNat, sliceCells, cellsAt, srcA, app, reduceCtorEq, Int.reduceEq, Int.reduceNeg, Int.reducePow, Nat.reducePow, Int.reduceTDiv, Int.reduceDiv, Nat.reduceDiv, Nat.reduceMod, Int.reduceMod, Int.reduceTMod, ne_eq, subA, beq_iff_eq, unA, minA, maxA, eqFs, eqA1, beq_self_eq_true, Nat.reduceBEq, hw']
        refine callQ.vc hF' ?_
        simp (config := { maxSteps := 4000000 }) (disch := omega) only [step, stepv, ev, okW, onlyFr, Bool.false_and, Bool.true_and, sealw, wl, wn, wp, aop, cV, cV1, ↓reduceIte, Nat.reduceEqDiff, Nat.reduceAdd, Int.cast_ofNat_Int, if_true, if_false, AV.one, repCells, fillA, partCells, Nat.reduceLT, Nat.reduceLeDiff, Nat.reduceMul, Nat.reduceSub, Int.reduceLT, Int.reduceLE, Int.reduceAdd, Int.reduceSub, Int.reduceMul, Int.reduceToNat, sliceCells, cellsAt, srcA, app, reduceCtorEq, Int.reduceEq, Int.reduceNeg, Int.reducePow, Nat.reducePow, Int.reduceTDiv, Int.reduceDiv, Nat.reduceDiv, Nat.reduceMod, Int.reduceMod, Int.reduceTMod, ne_eq, subA, beq_iff_eq, unA, minA, maxA, eqFs, eqA1, beq_self_eq_true, Nat.reduceBEq]
        refine callQ.vc (hE l _) ?_
        by_cases he : l = formB (Fv l 2 2) (Fv l 14 2) (Fv l 4 4) false (Fv l 20 4)
        · have he' : (l == formB (Fv l 2 2) (Fv l 14 2) (Fv l 4 4) false (Fv l 20 4)) = true := by simpa using he
          have hr := readS_some hok (w := false) he
          rw [hr]
          simp (config := { maxSteps := 4000000 }) (disch := omega) only [step, stepv, ev, okW, onlyFr, Bool.false_and, Bool.true_and, sealw, wl, wn, wp, aop, cV, cV1, ↓reduceIte, Nat.reduceEqDiff, Nat.reduceAdd, Int.cast_ofNat_Int, if_true, if_false, AV.one, repCells, fillA, partCells, Nat.reduceLT, Nat.reduceLeDiff, Nat.reduceMul, Nat.reduceSub, Int.reduceLT, Int.reduceLE, Int.reduceAdd, Int.reduceSub, Int.reduceMul, Int.reduceToNat, sliceCells, cellsAt, srcA, app, reduceCtorEq, Int.reduceEq, Int.reduceNeg, Int.reducePow, Nat.reducePow, Int.reduceTDiv, Int.reduceDiv, Nat.reduceDiv, Nat.reduceMod, Int.reduceMod, Int.reduceTMod, ne_eq, subA, beq_iff_eq, unA, minA, maxA, eqFs, eqA1, beq_self_eq_true, Nat.reduceBEq, he', readSA, sndA, resA, ht, oneOf]
        · have he' : (l == formB (Fv l 2 2) (Fv l 14 2) (Fv l 4 4) false (Fv l 20 4)) = false := by simpa using he
          have hr := readS_none (l := l) (w := false) (by simp [hw]) (.inr he)
          rw [hr]
          simp (config := { maxSteps := 4000000 }) (disch := omega) only [step, stepv, ev, okW, onlyFr, Bool.false_and, Bool.true_and, sealw, wl, wn, wp, aop, cV, cV1, ↓reduceIte, Nat.reduceEqDiff, Nat.reduceAdd, Int.cast_ofNat_Int, if_true, if_false, AV.one, repCells, fillA, partCells, Nat.reduceLT, Nat.reduceLeDiff, Nat.reduceMul, Nat.reduceSub, Int.reduceLT, Int.reduceLE, Int.reduceAdd, Int.reduceSub, Int.reduceMul, Int.reduceToNat, sliceCells, cellsAt, srcA, app, reduceCtorEq, Int.reduceEq, Int.reduceNeg, Int.reducePow, Nat.reducePow, Int.reduceTDiv, Int.reduceDiv, Nat.reduceDiv, Nat.reduceMod, Int.reduceMod, Int.reduceTMod, ne_eq, subA, beq_iff_eq, unA, minA, maxA, eqFs, eqA1, beq_self_eq_true, Nat.reduceBEq, he', readSA, sndA, resA, ht, oneOf]
    · simp only [chkS, if_neg hok]
      have hr := readS_none (l := l) (w := decide (Fv l 0 2 = 65534)) rfl (.inl hok)
      rw [hr]
      simp (config := { maxSteps := 4000000 }) (disch := omega) only [step, stepv, ev, okW, onlyFr, Bool.false_and, Bool.true_and, sealw, wl, wn, wp, aop, cV, cV1, ↓reduceIte, Nat.reduceEqDiff, Nat.reduceAdd, Int.cast_ofNat_Int, if_true, if_false, AV.one, repCells, fillA, partCells, Nat.reduceLT, Nat.reduceLeDiff, Nat.reduceMul, Nat.reduceSub, Int.reduceLT, Int.reduceLE, Int.reduceAdd, Int.reduceSub, Int.reduceMul, Int.reduceToNat, sliceCells, cellsAt, srcA, app, reduceCtorEq, Int.reduceEq, Int.reduceNeg, Int.reducePow, Nat.reducePow, Int.reduceTDiv, Int.reduceDiv, Nat.reduceDiv, Nat.reduceMod, Int.reduceMod, Int.reduceTMod, ne_eq, subA, beq_iff_eq, unA, minA, maxA, eqFs, eqA1, beq_self_eq_true, Nat.reduceBEq, readSA, sndA, resA, ht, oneOf]
  have hk9 : k = 0 ∨ k = 1 ∨ k = 2 ∨ k = 3 ∨ k = 4 ∨ k = 5 ∨ k = 6 ∨ k = 7 ∨ k = 8 := by omega
  rcases hk9 with rfl | rfl | rfl | rfl | rfl | rfl | rfl | rfl | rfl
  · by_cases hfit : 0 + 2 ≤ l.length
    · have e1 := hA' 0 2 (by omega) (by omega) (by omega)
      rw [if_pos hfit] at e1
      have e2 : leN ((l.drop 0).take 2) = Fv l 0 2 := by rw [Fv_eq hfit]; rfl
      rw [e2] at e1
      simp (config := { maxSteps := 4000000 }) (disch := omega) only [step, stepv, ev, okW, onlyFr, Bool.false_and, Bool.true_and, sealw, wl, wn, wp, aop, cV, cV1, ↓reduceIte, Nat.reduceEqDiff, Nat.reduceAdd, Int.cast_ofNat_Int, if_true, if_false, AV.one, repCells, fillA, partCells, Nat.reduceLT, Nat.reduceLeDiff, Nat.reduceMul, Nat.reduceSub, Int.reduceLT, Int.reduceLE, Int.reduceAdd, Int.reduceSub, Int.reduceMul, Int.reduceToNat, sliceCells, cellsAt, srcA, app, reduceCtorEq, Int.reduceEq, Int.reduceNeg, Int.reducePow, Nat.reducePow, Int.reduceTDiv, Int.reduceDiv, Nat.reduceDiv, Nat.reduceMod, Int.reduceMod, Int.reduceTMod, ne_eq, subA, beq_iff_eq, unA, minA, maxA, eqFs, eqA1, beq_self_eq_true, Nat.reduceBEq, widG, allK, offK]
      refine callQ.vc e1 ?_
      simp (config := { maxSteps := 4000000 }) (disch := omega) only [step, stepv, ev, okW, onlyFr, Bool.false_and, Bool.true_and, sealw, wl, wn, wp, aop, cV, cV1, ↓reduceIte, Nat.reduceEqDiff, Nat.reduceAdd, Int.cast_ofNat_Int, if_true, if_false, AV.one, repCells, fillA, partCells, Nat.reduceLT, Nat.reduceLeDiff, Nat.reduceMul, Nat.reduceSub, Int.reduceLT, Int.reduceLE, Int.reduceAdd, Int.reduceSub, Int.reduceMul, Int.reduceToNat, sliceCells, cellsAt, srcA, app, reduceCtorEq, Int.reduceEq, Int.reduceNeg, Int.reducePow, Nat.reducePow, Int.reduceTDiv, Int.reduceDiv, Nat.reduceDiv, Nat.reduceMod, Int.reduceMod, Int.reduceTMod, ne_eq, subA, beq_iff_eq, unA, minA, maxA, eqFs, eqA1, beq_self_eq_true, Nat.reduceBEq, widG, allK, offK]
      exact ⟨1, by omega, by omega, Le.slots (by simp [Am.look, offK, widG])⟩
    · have e2 : Fv l 0 2 = 0 := by simp only [Fv, if_neg hfit]
      simp (config := { maxSteps := 4000000 }) (disch := omega) only [step, stepv, ev, okW, onlyFr, Bool.false_and, Bool.true_and, sealw, wl, wn, wp, aop, cV, cV1, ↓reduceIte, Nat.reduceEqDiff, Nat.reduceAdd, Int.cast_ofNat_Int, if_true, if_false, AV.one, repCells, fillA, partCells, Nat.reduceLT, Nat.reduceLeDiff, Nat.reduceMul, Nat.reduceSub, Int.reduceLT, Int.reduceLE, Int.reduceAdd, Int.reduceSub, Int.reduceMul, Int.reduceToNat, sliceCells, cellsAt, srcA, app, reduceCtorEq, Int.reduceEq, Int.reduceNeg, Int.reducePow, Nat.reducePow, Int.reduceTDiv, Int.reduceDiv, Nat.reduceDiv, Nat.reduceMod, Int.reduceMod, Int.reduceTMod, ne_eq, subA, beq_iff_eq, unA, minA, maxA, eqFs, eqA1, beq_self_eq_true, Nat.reduceBEq, widG, allK, offK]
      refine ⟨1, by omega, by omega, ?_⟩
      simp only [allK, e2]
      exact Le.slots (by simp [Am.look, offK, widG])
  · by_cases hfit : 2 + 2 ≤ l.length
    · have e1 := hA' 2 2 (by omega) (by omega) (by omega)
      rw [if_pos hfit] at e1
      have e2 : leN ((l.drop 2).take 2) = Fv l 2 2 := by rw [Fv_eq hfit]; rfl
      rw [e2] at e1
      simp (config := { maxSteps := 4000000 }) (disch := omega) only [step, stepv, ev, okW, onlyFr, Bool.false_and, Bool.true_and, sealw, wl, wn, wp, aop, cV, cV1, ↓reduceIte, Nat.reduceEqDiff, Nat.reduceAdd, Int.cast_ofNat_Int, if_true, if_false, AV.one, repCells, fillA, partCells, Nat.reduceLT, Nat.reduceLeDiff, Nat.reduceMul, Nat.reduceSub, Int.reduceLT, Int.reduceLE, Int.reduceAdd, Int.reduceSub, Int.reduceMul, Int.reduceToNat, sliceCells, cellsAt, srcA, app, reduceCtorEq, Int.reduceEq, Int.reduceNeg, Int.reducePow, Nat.reducePow, Int.reduceTDiv, Int.reduceDiv, Nat.reduceDiv, Nat.reduceMod, Int.reduceMod, Int.reduceTMod, ne_eq, subA, beq_iff_eq, unA, minA, maxA, eqFs, eqA1, beq_self_eq_true, Nat.reduceBEq, widG, allK, offK]
      refine callQ.vc e1 ?_
      simp (config := { maxSteps := 4000000 }) (disch := omega) only [step, stepv, ev, okW, onlyFr, Bool.false_and, Bool.true_and, sealw, wl, wn, wp, aop, cV, cV1, ↓reduceIte, Nat.reduceEqDiff, Nat.reduceAdd, Int.cast_ofNat_Int, if_true, if_false, AV.one, repCells, fillA, partCells, Nat.reduceLT, Nat.reduceLeDiff, Nat.reduceMul, Nat.reduceSub, Int.reduceLT, Int.reduceLE, Int.reduceAdd, Int.reduceSub, Int.reduceMul, Int.reduceToNat, sliceCells, cellsAt, srcA, app, reduceCtorEq, Int.reduceEq, Int.reduceNeg, Int.reducePow, Nat.reducePow, Int.reduceTDiv, Int.reduceDiv, Nat.reduceDiv, Nat.reduceMod, Int.reduceMod, Int.reduceTMod, ne_eq, subA, beq_iff_eq, unA, minA, maxA, eqFs, eqA1, beq_self_eq_true, Nat.reduceBEq, widG, allK, offK]
      exact ⟨2, by omega, by omega, Le.slots (by simp [Am.look, offK, widG])⟩
    · have e2 : Fv l 2 2 = 0 := by simp only [Fv, if_neg hfit]
      simp (config := { maxSteps := 4000000 }) (disch := omega) only [step, stepv, ev, okW, onlyFr, Bool.false_and, Bool.true_and, sealw, wl, wn, wp, aop, cV, cV1, ↓reduceIte, Nat.reduceEqDiff, Nat.reduceAdd, Int.cast_ofNat_Int, if_true, if_false, AV.one, repCells, fillA, partCells, Nat.reduceLT, Nat.reduceLeDiff, Nat.reduceMul, Nat.reduceSub, Int.reduceLT, Int.reduceLE, Int.reduceAdd, Int.reduceSub, Int.reduceMul, Int.reduceToNat, sliceCells, cellsAt, srcA, app, reduceCtorEq, Int.reduceEq, Int.reduceNeg, Int.reducePow, Nat.reducePow, Int.reduceTDiv, Int.reduceDiv, Nat.reduceDiv, Nat.reduceMod, Int.reduceMod, Int.reduceTMod, ne_eq, subA, beq_iff_eq, unA, minA, maxA, eqFs, eqA1, beq_self_eq_true, Nat.reduceBEq, widG, allK, offK]
      refine ⟨2, by omega, by omega, ?_⟩
      simp only [allK, e2]
      exact Le.slots (by simp [Am.look, offK, widG])
  · by_cases hfit : 4 + 4 ≤ l.length
    · have e1 := hA' 4 4 (by omega) (by omega) (by omega)
      rw [if_pos hfit] at e1
      have e2 : leN ((l.drop 4).take 4) = Fv l 4 4 := by rw [Fv_eq hfit]; rfl
      rw [e2] at e1
      simp (config := { maxSteps := 4000000 }) (disch := omega) only [step, stepv, ev, okW, onlyFr, Bool.false_and, Bool.true_and, sealw, wl, wn, wp, aop, cV, cV1, ↓reduceIte, Nat.reduceEqDiff, Nat.reduceAdd, Int.cast_ofNat_Int, if_true, if_false, AV.one, repCells, fillA, partCells, Nat.reduceLT, Nat.reduceLeDiff, Nat.reduceMul, Nat.reduceSub, Int.reduceLT, Int.reduceLE, Int.reduceAdd, Int.reduceSub, Int.reduceMul, Int.reduceToNat, sliceCells, cellsAt, srcA, app, reduceCtorEq, Int.reduceEq, Int.reduceNeg, Int.reducePow, Nat.reducePow, Int.reduceTDiv, Int.reduceDiv, Nat.reduceDiv, Nat.reduceMod, Int.reduceMod, Int.reduceTMod, ne_eq, subA, beq_iff_eq, unA, minA, maxA, eqFs, eqA1, beq_self_eq_true, Nat.reduceBEq, widG, allK, offK]
      refine callQ.vc e1 ?_
      simp (config := { maxSteps := 4000000 }) (disch := omega) only [step, stepv, ev, okW, onlyFr, Bool.false_and, Bool.true_and, sealw, wl, wn, wp, aop, cV, cV1, ↓reduceIte, Nat.reduceEqDiff, Nat.reduceAdd, Int.cast_ofNat_Int, if_true, if_false, AV.one, repCells, fillA, partCells, Nat.reduceLT, Nat.reduceLeDiff, Nat.reduceMul, Nat.reduceSub, Int.reduceLT, Int.reduceLE, Int.reduceAdd, Int.reduceSub, Int.reduceMul, Int.reduceToNat, sliceCells, cellsAt, srcA, app, reduceCtorEq, Int.reduceEq, Int.reduceNeg, Int.reducePow, Nat.reducePow, Int.reduceTDiv, Int.reduceDiv, Nat.reduceDiv, Nat.reduceMod, Int.reduceMod, Int.reduceTMod, ne_eq, subA, beq_iff_eq, unA, minA, maxA, eqFs, eqA1, beq_self_eq_true, Nat.reduceBEq, widG, allK, offK]
      exact ⟨3, by omega, by omega, Le.slots (by simp [Am.look, offK, widG])⟩
    · have e2 : Fv l 4 4 = 0 := by simp only [Fv, if_neg hfit]
      simp (config := { maxSteps := 4000000 }) (disch := omega) only [step, stepv, ev, okW, onlyFr, Bool.false_and, Bool.true_and, sealw, wl, wn, wp, aop, cV, cV1, ↓reduceIte, Nat.reduceEqDiff, Nat.reduceAdd, Int.cast_ofNat_Int, if_true, if_false, AV.one, repCells, fillA, partCells, Nat.reduceLT, Nat.reduceLeDiff, Nat.reduceMul, Nat.reduceSub, Int.reduceLT, Int.reduceLE, Int.reduceAdd, Int.reduceSub, Int.reduceMul, Int.reduceToNat, sliceCells, cellsAt, srcA, app, reduceCtorEq, Int.reduceEq, Int.reduceNeg, Int.reducePow, Nat.reducePow, Int.reduceTDiv, Int.reduceDiv, Nat.reduceDiv, Nat.reduceMod, Int.reduceMod, Int.reduceTMod, ne_eq, subA, beq_iff_eq, unA, minA, maxA, eqFs, eqA1, beq_self_eq_true, Nat.reduceBEq, widG, allK, offK]
      refine ⟨3, by omega, by omega, ?_⟩
      simp only [allK, e2]
      exact Le.slots (by simp [Am.look, offK, widG])
  · by_cases hfit : 8 + 4 ≤ l.length
    · have e1 := hA' 8 4 (by omega) (by omega) (by omega)
      rw [if_pos hfit] at e1
      have e2 : leN ((l.drop 8).take 4) = Fv l 8 4 := by rw [Fv_eq hfit]; rfl
      rw [e2] at e1
      simp (config := { maxSteps := 4000000 }) (disch := omega) only [step, stepv, ev, okW, onlyFr, Bool.false_and, Bool.true_and, sealw, wl, wn, wp, aop, cV, cV1, ↓reduceIte, Nat.reduceEqDiff, Nat.reduceAdd, Int.cast_ofNat_Int, if_true, if_false, AV.one, repCells, fillA, partCells, Nat.reduceLT, Nat.reduceLeDiff, Nat.reduceMul, Nat.reduceSub, Int.reduceLT, Int.reduceLE, Int.reduceAdd, Int.reduceSub, Int.reduceMul, Int.reduceToNat, sliceCells, cellsAt, srcA, app, reduceCtorEq, Int.reduceEq, Int.reduceNeg, Int.reducePow, Nat.reducePow, Int.reduceTDiv, Int.reduceDiv, Nat.reduceDiv, Nat.reduceMod, Int.reduceMod, Int.reduceTMod, ne_eq, subA, beq_iff_eq, unA, minA, maxA, eqFs, eqA1, beq_self_eq_true, Nat.reduceBEq, widG, allK, offK]
      refine callQ.vc e1 ?_
      simp (config := { maxSteps := 4000000 }) (disch := omega) only [step, stepv, ev, okW, onlyFr, Bool.false_and, Bool.true_and, sealw, wl, wn, wp, aop, cV, cV1, ↓reduceIte, Nat.reduceEqDiff, Nat.reduceAdd, Int.cast_ofNat_Int, if_true, if_false, AV.one, repCells, fillA, partCells, Nat.reduceLT, Nat.reduceLeDiff, Nat.reduceMul, Nat.reduceSub, Int.reduceLT, Int.reduceLE, Int.reduceAdd, Int.reduceSub, Int.reduceMul, Int.reduceToNat, sliceCells, cellsAt, srcA, app, reduceCtorEq, Int.reduceEq, Int.reduceNeg, Int.reducePow, Nat.reducePow, Int.reduceTDiv, Int.reduceDiv, Nat.reduceDiv, Nat.reduceMod, Int.reduceMod, Int.reduceTMod, ne_eq, subA, beq_iff_eq, unA, minA, maxA, eqFs, eqA1, beq_self_eq_true, Nat.reduceBEq, widG, allK, offK]
      exact ⟨4, by omega, by omega, Le.slots (by simp [Am.look, offK, widG])⟩
    · have e2 : Fv l 8 4 = 0 := by simp only [Fv, if_neg hfit]
      simp (config := { maxSteps := 4000000 }) (disch := omega) only [step, stepv, ev, okW, onlyFr, Bool.false_and, Bool.true_and, sealw, wl, wn, wp, aop, cV, cV1, ↓reduceIte, Nat.reduceEqDiff, Nat.reduceAdd, Int.cast_ofNat_Int, if_true, if_false, AV.one, repCells, fillA, partCells, Nat.reduceLT, Nat.reduceLeDiff, Nat.reduceMul, Nat.reduceSub, Int.reduceLT, Int.reduceLE, Int.reduceAdd, Int.reduceSub, Int.reduceMul, Int.reduceToNat, sliceCells, cellsAt, srcA, app, reduceCtorEq, Int.reduceEq, Int.reduceNeg, Int.reducePow, Nat.reducePow, Int.reduceTDiv, Int.reduceDiv, Nat.reduceDiv, Nat.reduceMod, Int.reduceMod, Int.reduceTMod, ne_eq, subA, beq_iff_eq, unA, minA, maxA, eqFs, eqA1, beq_self_eq_true, Nat.reduceBEq, widG, allK, offK]
      refine ⟨4, by omega, by omega, ?_⟩
      simp only [allK, e2]
      exact Le.slots (by simp [Am.look, offK, widG])
  · by_cases hfit : 12 + 2 ≤ l.length
    · have e1 := hA' 12 2 (by omega) (by omega) (by omega)
      rw [if_pos hfit] at e1
      have e2 : leN ((l.drop 12).take 2) = Fv l 12 2 := by rw [Fv_eq hfit]; rfl
      rw [e2] at e1
      simp (config := { maxSteps := 4000000 }) (disch := omega) only [step, stepv, ev, okW, onlyFr, Bool.false_and, Bool.true_and, sealw, wl, wn, wp, aop, cV, cV1, ↓reduceIte, Nat.reduceEqDiff, Nat.reduceAdd, Int.cast_ofNat_Int, if_true, if_false, AV.one, repCells, fillA, partCells, Nat.reduceLT, Nat.reduceLeDiff, Nat.reduceMul, Nat.reduceSub, Int.reduceLT, Int.reduceLE, Int.reduceAdd, Int.reduceSub, Int.reduceMul, Int.reduceToNat, sliceCells, cellsAt, srcA, app, reduceCtorEq, Int.reduceEq, Int.reduceNeg, Int.reducePow, Nat.reducePow, Int.reduceTDiv, Int.reduceDiv, Nat.reduceDiv, Nat.reduceMod, Int.reduceMod, Int.reduceTMod, ne_eq, subA, beq_iff_eq, unA, minA, maxA, eqFs, eqA1, beq_self_eq_true, Nat.reduceBEq, widG, allK, offK]
      refine callQ.vc e1 ?_
      simp (config := { maxSteps := 4000000 }) (disch := omega) only [step, stepv, ev, okW, onlyFr, Bool.false_and, Bool.true_and, sealw, wl, wn, wp, aop, cV, cV1, ↓reduceIte, Nat.reduceEqDiff, Nat.reduceAdd, Int.cast_ofNat_Int, if_true, if_false, AV.one, repCells, fillA, partCells, Nat.reduceLT, Nat.reduceLeDiff, Nat.reduceMul, Nat.reduceSub, Int.reduceLT, Int.reduceLE, Int.reduceAdd, Int.reduceSub, Int.reduceMul, Int.reduceToNat, sliceCells, cellsAt, srcA, app, reduceCtorEq, Int.reduceEq, Int.reduceNeg, Int.reducePow, Nat.reducePow, Int.reduceTDiv, Int.reduceDiv, Nat.reduceDiv, Nat.reduceMod, Int.reduceMod, Int.reduceTMod, ne_eq, subA, beq_iff_eq, unA, minA, maxA, eqFs, eqA1, beq_self_eq_true, Nat.reduceBEq, widG, allK, offK]
      exact ⟨5, by omega, by omega, Le.slots (by simp [Am.look, offK, widG])⟩
    · have e2 : Fv l 12 2 = 0 := by simp only [Fv, if_neg hfit]
      simp (config := { maxSteps := 4000000 }) (disch := omega) only [step, stepv, ev, okW, onlyFr, Bool.false_and, Bool.true_and, sealw, wl, wn, wp, aop, cV, cV1, ↓reduceIte, Nat.reduceEqDiff, Nat.reduceAdd, Int.cast_ofNat_Int, if_true, if_false, AV.one, repCells, fillA, partCells, Nat.reduceLT, Nat.reduceLeDiff, Nat.reduceMul, Nat.reduceSub, Int.reduceLT, Int.reduceLE, Int.reduceAdd, Int.reduceSub, Int.reduceMul, Int.reduceToNat, sliceCells, cellsAt, srcA, app, reduceCtorEq, Int.reduceEq, Int.reduceNeg, Int.reducePow, Nat.reducePow, Int.reduceTDiv, Int.reduceDiv, Nat.reduceDiv, Nat.reduceMod, Int.reduceMod, Int.reduceTMod, ne_eq, subA, beq_iff_eq, unA, minA, maxA, eqFs, eqA1, beq_self_eq_true, Nat.reduceBEq, widG, allK, offK]
      refine ⟨5, by omega, by omega, ?_⟩
      simp only [allK, e2]
      exact Le.slots (by simp [Am.look, offK, widG])
  · by_cases hfit : 14 + 2 ≤ l.length
    · have e1 := hA' 14 2 (by omega) (by omega) (by omega)
      rw [if_pos hfit] at e1
      have e2 : leN ((l.drop 14).take 2) = Fv l 14 2 := by rw [Fv_eq hfit]; rfl
      rw [e2] at e1
      simp (config := { maxSteps := 4000000 }) (disch := omega) only [step, stepv, ev, okW, onlyFr, Bool.false_and, Bool.true_and, sealw, wl, wn, wp, aop, cV, cV1, ↓reduceIte, Nat.reduceEqDiff, Nat.reduceAdd, Int.cast_ofNat_Int, if_true, if_false, AV.one, repCells, fillA, partCells, Nat.reduceLT, Nat.reduceLeDiff, Nat.reduceMul, Nat.reduceSub, Int.reduceLT, Int.reduceLE, Int.reduceAdd, Int.reduceSub, Int.reduceMul, Int.reduceToNat, sliceCells, cellsAt, srcA, app, reduceCtorEq, Int.reduceEq, Int.reduceNeg, Int.reducePow, Nat.reducePow, Int.reduceTDiv, Int.reduceDiv, Nat.reduceDiv, Nat.reduceMod, Int.reduceMod, Int.reduceTMod, ne_eq, subA, beq_iff_eq, unA, minA, maxA, eqFs, eqA1, beq_self_eq_true, Nat.reduceBEq, widG, allK, offK]
      refine callQ.vc e1 ?_
      simp (config := { maxSteps := 4000000 }) (disch := omega) only [step, stepv, ev, okW, onlyFr, Bool.false_and, Bool.true_and, sealw, wl, wn, wp, aop, cV, cV1, ↓reduceIte, Nat.reduceEqDiff, Nat.reduceAdd, Int.cast_ofNat_Int, if_true, if_false, AV.one, repCells, fillA, partCells, Nat.reduceLT, Nat.reduceLeDiff, Nat.reduceMul, Nat.reduceSub, Int.reduceLT, Int.reduceLE, Int.reduceAdd, Int.reduceSub, Int.reduceMul, Int.reduceToNat, sliceCells, cellsAt, srcA, app, reduceCtorEq, Int.reduceEq, Int.reduceNeg, Int.reducePow, Nat.reducePow, Int.reduceTDiv, Int.reduceDiv, Nat.reduceDiv, Nat.reduceMod, Int.reduceMod, Int.reduceTMod, ne_eq, subA, beq_iff_eq, unA, minA, maxA, eqFs, eqA1, beq_self_eq_true, Nat.reduceBEq, widG, allK, offK]
      exact ⟨6, by omega, by omega, Le.slots (by simp [Am.look, offK, widG])⟩
    · have e2 : Fv l 14 2 = 0 := by simp only [Fv, if_neg hfit]
      simp (config := { maxSteps := 4000000 }) (disch := omega) only [step, stepv, ev, okW, onlyFr, Bool.false_and, Bool.true_and, sealw, wl, wn, wp, aop, cV, cV1, ↓reduceIte, Nat.reduceEqDiff, Nat.reduceAdd, Int.cast_ofNat_Int, if_true, if_false, AV.one, repCells, fillA, partCells, Nat.reduceLT, Nat.reduceLeDiff, Nat.reduceMul, Nat.reduceSub, Int.reduceLT, Int.reduceLE, Int.reduceAdd, Int.reduceSub, Int.reduceMul, Int.reduceToNat, sliceCells, cellsAt, srcA, app, reduceCtorEq, Int.reduceEq, Int.reduceNeg, Int.reducePow, Nat.reducePow, Int.reduceTDiv, Int.reduceDiv, Nat.reduceDiv, Nat.reduceMod, Int.reduceMod, Int.reduceTMod, ne_eq, subA, beq_iff_eq, unA, minA, maxA, eqFs, eqA1, beq_self_eq_true, Nat.reduceBEq, widG, allK, offK]
      refine ⟨6, by omega, by omega, ?_⟩
      simp only [allK, e2]
      exact Le.slots (by simp [Am.look, offK, widG])
  · by_cases hfit : 16 + 2 ≤ l.length
    · have e1 := hA' 16 2 (by omega) (by omega) (by omega)
      rw [if_pos hfit] at e1
      have e2 : leN ((l.drop 16).take 2) = Fv l 16 2 := by rw [Fv_eq hfit]; rfl
      rw [e2] at e1
      simp (config := { maxSteps := 4000000 }) (disch := omega) only [step, stepv, ev, okW, onlyFr, Bool.false_and, Bool.true_and, sealw, wl, wn, wp, aop, cV, cV1, ↓reduceIte, Nat.reduceEqDiff, Nat.reduceAdd, Int.cast_ofNat_Int, if_true, if_false, AV.one, repCells, fillA, partCells, Nat.reduceLT, Nat.reduceLeDiff, Nat.reduceMul, Nat.reduceSub, Int.reduceLT, Int.reduceLE, Int.reduceAdd, Int.reduceSub, Int.reduceMul, Int.reduceToNat, sliceCells, cellsAt, srcA, app, reduceCtorEq, Int.reduceEq, Int.reduceNeg, Int.reducePow, Nat.reducePow, Int.reduceTDiv, Int.reduceDiv, Nat.reduceDiv, Nat.reduceMod, Int.reduceMod, Int.reduceTMod, ne_eq, subA, beq_iff_eq, unA, minA, maxA, eqFs, eqA1, beq_self_eq_true, Nat.reduceBEq, widG, allK, offK]
      refine callQ.vc e1 ?_
      simp (config := { maxSteps := 4000000 }) (disch := omega) only [step, stepv, ev, okW, onlyFr, Bool.false_and, Bool.true_and, sealw, wl, wn, wp, aop, cV, cV1, ↓reduceIte, Nat.reduceEqDiff, Nat.reduceAdd, Int.cast_ofNat_Int, if_true, if_false, AV.one, repCells, fillA, partCells, Nat.reduceLT, Nat.reduceLeDiff, Nat.reduceMul, Nat.reduceSub, Int.reduceLT, Int.reduceLE, Int.reduceAdd, Int.reduceSub, Int.reduceMul, Int.reduceToNat, sliceCells, cellsAt, srcA, app, reduceCtorEq, Int.reduceEq, Int.reduceNeg, Int.reducePow, Nat.reducePow, Int.reduceTDiv, Int.reduceDiv, Nat.reduceDiv, Nat.reduceMod, Int.reduceMod, Int.reduceTMod, ne_eq, subA, beq_iff_eq, unA, minA, maxA, eqFs, eqA1, beq_self_eq_true, Nat.reduceBEq, widG, allK, offK]
      exact ⟨7, by omega, by omega, Le.slots (by simp [Am.look, offK, widG])⟩
    · have e2 : Fv l 16 2 = 0 := by simp only [Fv, if_neg hfit]
      simp (config := { maxSteps := 4000000 }) (disch := omega) only [step, stepv, ev, okW, onlyFr, Bool.false_and, Bool.true_and, sealw, wl, wn, wp, aop, cV, cV1, ↓reduceIte, Nat.reduceEqDiff, Nat.reduceAdd, Int.cast_ofNat_Int, if_true, if_false, AV.one, repCells, fillA, partCells, Nat.reduceLT, Nat.reduceLeDiff, Nat.reduceMul, Nat.reduceSub, Int.reduceLT, Int.reduceLE, Int.reduceAdd, Int.reduceSub, Int.reduceMul, Int.reduceToNat, sliceCells, cellsAt, srcA, app, reduceCtorEq, Int.reduceEq, Int.reduceNeg, Int.reducePow, Nat.reducePow, Int.reduceTDiv, Int.reduceDiv, Nat.reduceDiv, Nat.reduceMod, Int.reduceMod, Int.reduceTMod, ne_eq, subA, beq_iff_eq, unA, minA, maxA, eqFs, eqA1, beq_self_eq_true, Nat.reduceBEq, widG, allK, offK]
      refine ⟨7, by omega, by omega, ?_⟩
      simp only [allK, e2]
      exact Le.slots (by simp [Am.look, offK, widG])
  · by_cases hfit : 18 + 2 ≤ l.length
    · have e1 := hA' 18 2 (by omega) (by omega) (by omega)
      rw [if_pos hfit] at e1
      have e2 : leN ((l.drop 18).take 2) = Fv l 18 2 := by rw [Fv_eq hfit]; rfl
      rw [e2] at e1
      simp (config := { maxSteps := 4000000 }) (disch := omega) only [step, stepv, ev, okW, onlyFr, Bool.false_and, Bool.true_and, sealw, wl, wn, wp, aop, cV, cV1, ↓reduceIte, Nat.reduceEqDiff, Nat.reduceAdd, Int.cast_ofNat_Int, if_true, if_false, AV.one, repCells, fillA, partCells, Nat.reduceLT, Nat.reduceLeDiff, Nat.reduceMul, Nat.reduceSub, Int.reduceLT, Int.reduceLE, Int.reduceAdd, Int.reduceSub, Int.reduceMul, Int.reduceToNat, sliceCells, cellsAt, srcA, app, reduceCtorEq, Int.reduceEq, Int.reduceNeg, Int.reducePow, Nat.reducePow, Int.reduceTDiv, Int.reduceDiv, Nat.reduceDiv, Nat.reduceMod, Int.reduceMod, Int.reduceTMod, ne_eq, subA, beq_iff_eq, unA, minA, maxA, eqFs, eqA1, beq_self_eq_true, Nat.reduceBEq, widG, allK, offK]
      refine callQ.vc e1 ?_
      simp (config := { maxSteps := 4000000 }) (disch := omega) only [step, stepv, ev, okW, onlyFr, Bool.false_and, Bool.true_and, sealw, wl, wn, wp, aop, cV, cV1, ↓reduceIte, Nat.reduceEqDiff, Nat.reduceAdd, Int.cast_ofNat_Int, if_true, if_false, AV.one, repCells, fillA, partCells, Nat.reduceLT, Nat.reduceLeDiff, Nat.reduceMul, Nat.reduceSub, Int.reduceLT, Int.reduceLE, Int.reduceAdd, Int.reduceSub, Int.reduceMul, Int.reduceToNat, sliceCells, cellsAt, srcA, app, reduceCtorEq, Int.reduceEq, Int.reduceNeg, Int.reducePow, Nat.reducePow, Int.reduceTDiv, Int.reduceDiv, Nat.reduceDiv, Nat.reduceMod, Int.reduceMod, Int.reduceTMod, ne_eq, subA, beq_iff_eq, unA, minA, maxA, eqFs, eqA1, beq_self_eq_true, Nat.reduceBEq, widG, allK, offK]
      exact ⟨8, by omega, by omega, Le.slots (by simp [Am.look, offK, widG])⟩
    · have e2 : Fv l 18 2 = 0 := by simp only [Fv, if_neg hfit]
      simp (config := { maxSteps := 4000000 }) (disch := omega) only [step, stepv, ev, okW, onlyFr, Bool.false_and, Bool.true_and, sealw, wl, wn, wp, aop, cV, cV1, ↓reduceIte, Nat.reduceEqDiff, Nat.reduceAdd, Int.cast_ofNat_Int, if_true, if_false, AV.one, repCells, fillA, partCells, Nat.reduceLT, Nat.reduceLeDiff, Nat.reduceMul, Nat.reduceSub, Int.reduceLT, Int.reduceLE, Int.reduceAdd, Int.reduceSub, Int.reduceMul, Int.reduceToNat, sliceCells, cellsAt, srcA, app, reduceCtorEq, Int.reduceEq, Int.reduceNeg, Int.reducePow, Nat.reducePow, Int.reduceTDiv, Int.reduceDiv, Nat.reduceDiv, Nat.reduceMod, Int.reduceMod, Int.reduceTMod, ne_eq, subA, beq_iff_eq, unA, minA, maxA, eqFs, eqA1, beq_self_eq_true, Nat.reduceBEq, widG, allK, offK]
      refine ⟨8, by omega, by omega, ?_⟩
      simp only [allK, e2]
      exact Le.slots (by simp [Am.look, offK, widG])
  · by_cases hfit : 20 + 4 ≤ l.length
    · have e1 := hA' 20 4 (by omega) (by omega) (by omega)
      rw [if_pos hfit] at e1
      have e2 : leN ((l.drop 20).take 4) = Fv l 20 4 := by rw [Fv_eq hfit]; rfl
      rw [e2] at e1
      simp (config := { maxSteps := 4000000 }) (disch := omega) only [step, stepv, ev, okW, onlyFr, Bool.false_and, Bool.true_and, sealw, wl, wn, wp, aop, cV, cV1, ↓reduceIte, Nat.reduceEqDiff, Nat.reduceAdd, Int.cast_ofNat_Int, if_true, if_false, AV.one, repCells, fillA, partCells, Nat.reduceLT, Nat.reduceLeDiff, Nat.reduceMul, Nat.reduceSub, Int.reduceLT, Int.reduceLE, Int.reduceAdd, Int.reduceSub, Int.reduceMul, Int.reduceToNat, sliceCells, cellsAt, srcA, app, reduceCtorEq, Int.reduceEq, Int.reduceNeg, Int.reducePow, Nat.reducePow, Int.reduceTDiv, Int.reduceDiv, Nat.reduceDiv, Nat.reduceMod, Int.reduceMod, Int.reduceTMod, ne_eq, subA, beq_iff_eq, unA, minA, maxA, eqFs, eqA1, beq_self_eq_true, Nat.reduceBEq, widG, allK, offK]
      refine callQ.vc e1 ?_
      simp (config := { maxSteps := 4000000 }) (disch := omega) only [step, stepv, ev, okW, onlyFr, Bool.false_and, Bool.true_and, sealw, wl, wn, wp, aop, cV, cV1, ↓reduceIte, Nat.reduceEqDiff, Nat.reduceAdd, Int.cast_ofNat_Int, if_true, if_false, AV.one, repCells, fillA, partCells, Nat.reduceLT, Nat.reduceLeDiff, Nat.reduceMul, Nat.reduceSub, Int.reduceLT, Int.reduceLE, Int.reduceAdd, Int.reduceSub, Int.reduceMul, Int.reduceToNat, sliceCells, cellsAt, srcA, app, reduceCtorEq, Int.reduceEq, Int.reduceNeg, Int.reducePow, Nat.reducePow, Int.reduceTDiv, Int.reduceDiv, Nat.reduceDiv, Nat.reduceMod, Int.reduceMod, Int.reduceTMod, ne_eq, subA, beq_iff_eq, unA, minA, maxA, eqFs, eqA1, beq_self_eq_true, Nat.reduceBEq, widG, allK, offK]
      exact ⟨9, by omega, by omega, Le.slots (by simp [Am.look, offK, widG])⟩
    · have e2 : Fv l 20 4 = 0 := by simp only [Fv, if_neg hfit]
      simp (config := { maxSteps := 4000000 }) (disch := omega) only [step, stepv, ev, okW, onlyFr, Bool.false_and, Bool.true_and, sealw, wl, wn, wp, aop, cV, cV1, ↓reduceIte, Nat.reduceEqDiff, Nat.reduceAdd, Int.cast_ofNat_Int, if_true, if_false, AV.one, repCells, fillA, partCells, Nat.reduceLT, Nat.reduceLeDiff, Nat.reduceMul, Nat.reduceSub, Int.reduceLT, Int.reduceLE, Int.reduceAdd, Int.reduceSub, Int.reduceMul, Int.reduceToNat, sliceCells, cellsAt, srcA, app, reduceCtorEq, Int.reduceEq, Int.reduceNeg, Int.reducePow, Nat.reducePow, Int.reduceTDiv, Int.reduceDiv, Nat.reduceDiv, Nat.reduceMod, Int.reduceMod, Int.reduceTMod, ne_eq, subA, beq_iff_eq, unA, minA, maxA, eqFs, eqA1, beq_self_eq_true, Nat.reduceBEq, widG, allK, offK]
      refine ⟨9, by omega, by omega, ?_⟩
      simp only [allK, e2]
      exact Le.slots (by simp [Am.look, offK, widG])

end Go.Am

namespace Go.Am
open Go.RowKit

end Go.Am

namespace Go.Am
open Go.RowKit

/-! ### Samples as bytes: without a program -/

theorem wrap_i32_mod (x : Int) : IntKind.i32.wrap x = (x + 2147483648) % 4294967296 - 2147483648 := by
  simp only [IntKind.wrap, IntKind.bits, IntKind.signed]
  simp
  omega

theorem or_i32 {a c s : Nat} (h : a < 2 ^ s) (h2 : a + c * 2 ^ s < 2147483648) : IntKind.i32.wrap (BitVec.ofInt IntKind.i32.bits (a : Int) ||| BitVec.ofInt IntKind.i32.bits ((c * 2 ^ s : Nat) : Int)).toNat = ((a + c * 2 ^ s : Nat) : Int) := by
  have e1 : (BitVec.ofInt IntKind.i32.bits (a : Int) ||| BitVec.ofInt IntKind.i32.bits ((c * 2 ^ s : Nat) : Int)).toNat = a ||| c * 2 ^ s := by
    rw [BitVec.toNat_or]
    simp only [IntKind.bits, BitVec.toNat_ofInt]
    congr 1
    · omega
    · omega
  rw [e1, or_add h, wrap_i32 (by omega) (by omega)]

/-- The number of some bytes as a sample. -/
def smpD (b : Int) (s : List UInt8) : Int := if b = 8 then (leN s : Int) - 128 else if half b ≤ (leN s : Int) then (leN s : Int) - 2 * half b else leN s
def smpL (b : Int) (l : List UInt8) : List Int := (List.range (l.length / (b / 8).toNat)).map fun i => smpD b ((l.drop (i * (b / 8).toNat)).take (b / 8).toNat)
def samplesA (b : Int) (l : List UInt8) : AV :=
  if half b = 0 then .tup [.list 0 [], .int .i64 2] else if l.length % (b / 8).toNat ≠ 0 then .tup [.list 0 [], .int .i64 12] else if 4000 < l.length / (b / 8).toNat then .tup [.list 0 [], .int .i64 4] else .tup [il (smpL b l), .int .i64 0]
theorem isD_samplesA (b : Int) (l : List UInt8) : isD (samplesA b l) = true := by
  unfold samplesA; split <;> (try split) <;> (try split) <;> simp [isD, isDL, isD_il]

theorem smpL_length (b : Int) (l : List UInt8) : (smpL b l).length = l.length / (b / 8).toNat := by simp [smpL]
theorem smpL_get {b : Int} {l : List UInt8} {i : Nat} (h : i < (smpL b l).length) : (smpL b l)[i] = smpD b ((l.drop (i * (b / 8).toNat)).take (b / 8).toNat) := by simp [smpL]
theorem smpL_take {b : Int} {l : List UInt8} {i : Nat} (h : i < l.length / (b / 8).toNat) : (smpL b l).take (i + 1) = (smpL b l).take i ++ [smpD b ((l.drop (i * (b / 8).toNat)).take (b / 8).toNat)] := by
  rw [List.take_succ_eq_append_getElem (by rw [smpL_length]; exact h), smpL_get]

theorem leN1 {l : List UInt8} {a : Nat} (h : a < l.length) : leN ((l.drop a).take 1) = l[a].toNat := by
  rw [List.drop_eq_getElem_cons h]; simp only [List.take_succ_cons, List.take_zero, leN]; omega
theorem leN2 {l : List UInt8} {a : Nat} (h : a + 1 < l.length) : leN ((l.drop a).take 2) = l[a].toNat + l[a + 1].toNat * 256 := by
  rw [List.drop_eq_getElem_cons (by omega), List.drop_eq_getElem_cons (by omega)]; simp only [List.take_succ_cons, List.take_zero, leN]; omega
theorem leN3 {l : List UInt8} {a : Nat} (h : a + 2 < l.length) : leN ((l.drop a).take 3) = l[a].toNat + l[a + 1].toNat * 256 + l[a + 2].toNat * 65536 := by
  have e : l[a + 2] = l[a + 1 + 1]'h := rfl
  rw [e, List.drop_eq_getElem_cons (by omega), List.drop_eq_getElem_cons (by omega), List.drop_eq_getElem_cons (by omega)]; simp only [List.take_succ_cons, List.take_zero, leN]; omega

def S_Samples (P : Prg) (f : Nat) : Prop := ∀ (b : Int) (l : List UInt8), l.length < 4611686018427387904 → VC P f [.int .i64 b, bs l] (samplesA b l)

theorem sext16 {n : Nat} (h : n < 65536) : (IntKind.i32.wrap ((n : Int) * 65536)).fdiv 65536 = smpD 16 [] + (if 32768 ≤ (n : Int) then (n : Int) - 65536 else n) := by
  have : smpD 16 [] = 0 := by decide
  rw [this, Int.fdiv_eq_ediv_of_nonneg _ (by omega), wrap_i32_mod]
  split <;> omega
theorem sext24 {n : Nat} (h : n < 16777216) : (IntKind.i32.wrap ((n : Int) * 256)).fdiv 256 = smpD 24 [] + (if 8388608 ≤ (n : Int) then (n : Int) - 16777216 else n) := by
  have : smpD 24 [] = 0 := by decide
  rw [this, Int.fdiv_eq_ediv_of_nonneg _ (by omega), wrap_i32_mod]
  split <;> omega

theorem smpD16 {s : List UInt8} : smpD 16 s = if 32768 ≤ (leN s : Int) then (leN s : Int) - 65536 else leN s := by simp [smpD, half]
theorem smpD24 {s : List UInt8} : smpD 24 s = if 8388608 ≤ (leN s : Int) then (leN s : Int) - 16777216 else leN s := by simp [smpD, half]
theorem smpD8 {s : List UInt8} : smpD 8 s = (leN s : Int) - 128 := by simp [smpD]

set_option maxRecDepth 20000 in
set_option maxHeartbeats 2000000 in
theorem width_Samples {P : Prg} {f fR t0 : Nat} (bd : Body P f 81 [.tmp 4, .tmp 5] (ac_width_Samples fR t0)) (hR : S_Range P fR) : S_Samples P f := by
  intro b l hl
  refine VC.of_walk 1 (by simp [isDL, isD, isD_bs]) (isD_samplesA _ _) (ACall.of_body bd (by simp) ?_)
  have hR' := hR b
  rcases half_cases b with ⟨rfl, h⟩ | ⟨rfl, h⟩ | ⟨rfl, h⟩ | ⟨h1, h2, h3, h⟩
  case inr.inr.inr =>
    simp only [rangeA, if_pos h] at hR'
    simp only [samplesA, if_pos h]
    simp (config := { maxSteps := 4000000 }) (disch := omega) only [step, stepv, ev, okW, onlyFr, Bool.false_and, Bool.true_and, sealw, wl, wn, wp, aop, cV, cV1, ↓reduceIte, Nat.reduceEqDiff, Nat.reduceAdd, Int.cast_ofNat_Int, if_true, if_false, AV.one, repCells, fillA, partCells, Nat.reduceLT, Nat.reduceLeDiff, Nat.reduceMul, Nat.reduceSub, Int.reduceLT, Int.reduceLE, Int.reduceAdd, Int.reduceSub, Int.reduceMul, Int.reduceToNat, sliceCells, cellsAt, srcA, app, reduceCtorEq, Int.reduceEq, Int.reduceNeg, Int.reducePow, Nat.reducePow, Int.reduceTDiv, Int.reduceDiv, Nat.reduceDiv, Nat.reduceMod, Int.reduceMod, Int.reduceTMod, ne_eq, subA, beq_iff_eq, unA, minA, maxA, eqFs, eqA1, beq_self_eq_true, Nat.reduceBEq, ac_width_Samples, bs]
    refine callQ.vc hR' ?_
    simp (config := { maxSteps := 4000000 }) (disch := omega) only [step, stepv, ev, okW, onlyFr, Bool.false_and, Bool.true_and, sealw, wl, wn, wp, aop, cV, cV1, ↓reduceIte, Nat.reduceEqDiff, Nat.reduceAdd, Int.cast_ofNat_Int, if_true, if_false, AV.one, repCells, fillA, partCells, Nat.reduceLT, Nat.reduceLeDiff, Nat.reduceMul, Nat.reduceSub, Int.reduceLT, Int.reduceLE, Int.reduceAdd, Int.reduceSub, Int.reduceMul, Int.reduceToNat, sliceCells, cellsAt, srcA, app, reduceCtorEq, Int.reduceEq, Int.reduceNeg, Int.reducePow, Nat.reducePow, Int.reduceTDiv, Int.reduceDiv, Nat.reduceDiv, Nat.reduceMod, Int.reduceMod, Int.reduceTMod, ne_eq, subA, beq_iff_eq, unA, minA, maxA, eqFs, eqA1, beq_self_eq_true, Nat.reduceBEq]
    simp [frzN, frzK, frzL, frzV]
  · simp only [rangeA, h] at hR'
    rw [if_neg (by omega)] at hR'
    have hw : ((8 : Int) / 8).toNat = 1 := rfl
    simp only [samplesA, hw, h]
    rw [if_neg (by omega), if_neg (by omega)]
    have hL := smpL_length 8 l
    have hT := fun i => @smpL_take 8 l i
    rw [hw] at hL hT
    generalize hS : smpL 8 l = S at *
    simp (config := { maxSteps := 4000000 }) (disch := omega) only [step, stepv, ev, okW, onlyFr, Bool.false_and, Bool.true_and, sealw, wl, wn, wp, aop, cV, cV1, ↓reduceIte, Nat.reduceEqDiff, Nat.reduceAdd, Int.cast_ofNat_Int, if_true, if_false, AV.one, repCells, fillA, partCells, Nat.reduceLT, Nat.reduceLeDiff, Nat.reduceMul, Nat.reduceSub, Int.reduceLT, Int.reduceLE, Int.reduceAdd, Int.reduceSub, Int.reduceMul, Int.reduceToNat, sliceCells, cellsAt, srcA, app, reduceCtorEq, Int.reduceEq, Int.reduceNeg, Int.reducePow, Nat.reducePow, Int.reduceTDiv, Int.reduceDiv, Nat.reduceDiv, Nat.reduceMod, Int.reduceMod, Int.reduceTMod, ne_eq, subA, beq_iff_eq, unA, minA, maxA, eqFs, eqA1, beq_self_eq_true, Nat.reduceBEq, ac_width_Samples, bs]
    refine callQ.vc hR' ?_
    by_cases h4 : 4000 < l.length
    · rw [if_pos (by omega)]
      simp (config := { maxSteps := 4000000 }) (disch := omega) only [step, stepv, ev, okW, onlyFr, Bool.false_and, Bool.true_and, sealw, wl, wn, wp, aop, cV, cV1, ↓reduceIte, Nat.reduceEqDiff, Nat.reduceAdd, Int.cast_ofNat_Int, if_true, if_false, AV.one, repCells, fillA, partCells, Nat.reduceLT, Nat.reduceLeDiff, Nat.reduceMul, Nat.reduceSub, Int.reduceLT, Int.reduceLE, Int.reduceAdd, Int.reduceSub, Int.reduceMul, Int.reduceToNat, sliceCells, cellsAt, srcA, app, reduceCtorEq, Int.reduceEq, Int.reduceNeg, Int.reducePow, Nat.reducePow, Int.reduceTDiv, Int.reduceDiv, Nat.reduceDiv, Nat.reduceMod, Int.reduceMod, Int.reduceTMod, ne_eq, subA, beq_iff_eq, unA, minA, maxA, eqFs, eqA1, beq_self_eq_true, Nat.reduceBEq]
      simp [frzN, frzK, frzL, frzV]
    rw [if_neg (by omega)]
    simp (config := { maxSteps := 4000000 }) (disch := omega) only [step, stepv, ev, okW, onlyFr, Bool.false_and, Bool.true_and, sealw, wl, wn, wp, aop, cV, cV1, ↓reduceIte, Nat.reduceEqDiff, Nat.reduceAdd, Int.cast_ofNat_Int, if_true, if_false, AV.one, repCells, fillA, partCells, Nat.reduceLT, Nat.reduceLeDiff, Nat.reduceMul, Nat.reduceSub, Int.reduceLT, Int.reduceLE, Int.reduceAdd, Int.reduceSub, Int.reduceMul, Int.reduceToNat, sliceCells, cellsAt, srcA, app, reduceCtorEq, Int.reduceEq, Int.reduceNeg, Int.reducePow, Nat.reducePow, Int.reduceTDiv, Int.reduceDiv, Nat.reduceDiv, Nat.reduceMod, Int.reduceMod, Int.reduceTMod, ne_eq, subA, beq_iff_eq, unA, minA, maxA, eqFs, eqA1, beq_self_eq_true, Nat.reduceBEq]
    refine ALoop.by (ι := Nat) (fun k => ⟨[(11, .int .i64 k), (10, .own 0 k), (9, .int .i64 1), (0, .int .i64 8), (1, .list l.length (u8 l))], [⟨t0, 1, k, ks .i32 (S.take k), 0⟩]⟩) (fun k => k ≤ l.length) (fun k => l.length - k) 0 (Le.trans (Le.virt 10 t0 1 (by omega) rfl) (Le.slots (by simp [Am.look]))) (by omega) ?_
    intro k hk
    have lk : (ks .i32 (S.take k)).length = k := by rw [ks_length, List.length_take]; omega
    by_cases hlt : k < l.length
    · have e1 := drop_u8 hlt
      have e2 := hT k (by omega)
      have b0 := l[k].toNat_lt
      rw [smpD8, Nat.mul_one, leN1 hlt] at e2
      simp (config := { maxSteps := 4000000 }) (disch := omega) only [step, stepv, ev, okW, onlyFr, Bool.false_and, Bool.true_and, sealw, wl, wn, wp, aop, cV, cV1, ↓reduceIte, Nat.reduceEqDiff, Nat.reduceAdd, Int.cast_ofNat_Int, if_true, if_false, AV.one, repCells, fillA, partCells, Nat.reduceLT, Nat.reduceLeDiff, Nat.reduceMul, Nat.reduceSub, Int.reduceLT, Int.reduceLE, Int.reduceAdd, Int.reduceSub, Int.reduceMul, Int.reduceToNat, sliceCells, cellsAt, srcA, app, reduceCtorEq, Int.reduceEq, Int.reduceNeg, Int.reducePow, Nat.reducePow, Int.reduceTDiv, Int.reduceDiv, Nat.reduceDiv, Nat.reduceMod, Int.reduceMod, Int.reduceTMod, ne_eq, subA, beq_iff_eq, unA, minA, maxA, eqFs, eqA1, beq_self_eq_true, Nat.reduceBEq, e1, lk, ks_snoc]
      rw [← e2]
      exact ⟨k + 1, by omega, by omega, Le.drop1 (isTL_ks _ _) (by simp [Am.look, frzK, frzL, frzV, frzL_T _ (isT_u8 _)])⟩
    · have ek : k = l.length := by omega
      subst ek
      have tS : S.take l.length = S := List.take_of_length_le (by omega)
      simp (config := { maxSteps := 4000000 }) (disch := omega) only [step, stepv, ev, okW, onlyFr, Bool.false_and, Bool.true_and, sealw, wl, wn, wp, aop, cV, cV1, ↓reduceIte, Nat.reduceEqDiff, Nat.reduceAdd, Int.cast_ofNat_Int, if_true, if_false, AV.one, repCells, fillA, partCells, Nat.reduceLT, Nat.reduceLeDiff, Nat.reduceMul, Nat.reduceSub, Int.reduceLT, Int.reduceLE, Int.reduceAdd, Int.reduceSub, Int.reduceMul, Int.reduceToNat, sliceCells, cellsAt, srcA, app, reduceCtorEq, Int.reduceEq, Int.reduceNeg, Int.reducePow, Nat.reducePow, Int.reduceTDiv, Int.reduceDiv, Nat.reduceDiv, Nat.reduceMod, Int.reduceMod, Int.reduceTMod, ne_eq, subA, beq_iff_eq, unA, minA, maxA, eqFs, eqA1, beq_self_eq_true, Nat.reduceBEq]
      rw [tS]
      simp [frzN, frzK, frzL, frzV, frzL_T _ (isTL_ks _ _), il, hL]
  · simp only [rangeA, h] at hR'
    rw [if_neg (by omega)] at hR'
    have hw : ((16 : Int) / 8).toNat = 2 := rfl
    simp only [samplesA, hw, h]
    rw [if_neg (by omega)]
    have hL := smpL_length 16 l
    have hT := fun i => @smpL_take 16 l i
    rw [hw] at hL hT
    generalize hS : smpL 16 l = S at *
    have m1 : (l.length : Int).tmod 2 = ((l.length % 2 : Nat) : Int) := by rw [Int.tmod_eq_emod_of_nonneg (by omega)]; omega
    have m2 : (l.length : Int).tdiv 2 = ((l.length / 2 : Nat) : Int) := by rw [Int.tdiv_eq_ediv_of_nonneg (by omega)]; omega
    simp (config := { maxSteps := 4000000 }) (disch := omega) only [step, stepv, ev, okW, onlyFr, Bool.false_and, Bool.true_and, sealw, wl, wn, wp, aop, cV, cV1, ↓reduceIte, Nat.reduceEqDiff, Nat.reduceAdd, Int.cast_ofNat_Int, if_true, if_false, AV.one, repCells, fillA, partCells, Nat.reduceLT, Nat.reduceLeDiff, Nat.reduceMul, Nat.reduceSub, Int.reduceLT, Int.reduceLE, Int.reduceAdd, Int.reduceSub, Int.reduceMul, Int.reduceToNat, sliceCells, cellsAt, srcA, app, reduceCtorEq, Int.reduceEq, Int.reduceNeg, Int.reducePow, Nat.reducePow, Int.reduceTDiv, Int.reduceDiv, Nat.reduceDiv, Nat.reduceMod, Int.reduceMod, Int.reduceTMod, ne_eq, subA, beq_iff_eq, unA, minA, maxA, eqFs, eqA1, beq_self_eq_true, Nat.reduceBEq, ac_width_Samples, bs]
    refine callQ.vc hR' ?_
    by_cases h3 : l.length % 2 ≠ 0
    · rw [if_pos h3]
      simp (config := { maxSteps := 4000000 }) (disch := omega) only [step, stepv, ev, okW, onlyFr, Bool.false_and, Bool.true_and, sealw, wl, wn, wp, aop, cV, cV1, ↓reduceIte, Nat.reduceEqDiff, Nat.reduceAdd, Int.cast_ofNat_Int, if_true, if_false, AV.one, repCells, fillA, partCells, Nat.reduceLT, Nat.reduceLeDiff, Nat.reduceMul, Nat.reduceSub, Int.reduceLT, Int.reduceLE, Int.reduceAdd, Int.reduceSub, Int.reduceMul, Int.reduceToNat, sliceCells, cellsAt, srcA, app, reduceCtorEq, Int.reduceEq, Int.reduceNeg, Int.reducePow, Nat.reducePow, Int.reduceTDiv, Int.reduceDiv, Nat.reduceDiv, Nat.reduceMod, Int.reduceMod, Int.reduceTMod, ne_eq, subA, beq_iff_eq, unA, minA, maxA, eqFs, eqA1, beq_self_eq_true, Nat.reduceBEq, m1]
      simp [frzN, frzK, frzL, frzV]
    rw [if_neg h3]
    have h3' : l.length % 2 = 0 := by omega
    by_cases h4 : 4000 < l.length / 2
    · rw [if_pos h4]
      simp (config := { maxSteps := 4000000 }) (disch := omega) only [step, stepv, ev, okW, onlyFr, Bool.false_and, Bool.true_and, sealw, wl, wn, wp, aop, cV, cV1, ↓reduceIte, Nat.reduceEqDiff, Nat.reduceAdd, Int.cast_ofNat_Int, if_true, if_false, AV.one, repCells, fillA, partCells, Nat.reduceLT, Nat.reduceLeDiff, Nat.reduceMul, Nat.reduceSub, Int.reduceLT, Int.reduceLE, Int.reduceAdd, Int.reduceSub, Int.reduceMul, Int.reduceToNat, sliceCells, cellsAt, srcA, app, reduceCtorEq, Int.reduceEq, Int.reduceNeg, Int.reducePow, Nat.reducePow, Int.reduceTDiv, Int.reduceDiv, Nat.reduceDiv, Nat.reduceMod, Int.reduceMod, Int.reduceTMod, ne_eq, subA, beq_iff_eq, unA, minA, maxA, eqFs, eqA1, beq_self_eq_true, Nat.reduceBEq, m1, m2]
      simp [frzN, frzK, frzL, frzV]
    rw [if_neg h4]
    simp (config := { maxSteps := 4000000 }) (disch := omega) only [step, stepv, ev, okW, onlyFr, Bool.false_and, Bool.true_and, sealw, wl, wn, wp, aop, cV, cV1, ↓reduceIte, Nat.reduceEqDiff, Nat.reduceAdd, Int.cast_ofNat_Int, if_true, if_false, AV.one, repCells, fillA, partCells, Nat.reduceLT, Nat.reduceLeDiff, Nat.reduceMul, Nat.reduceSub, Int.reduceLT, Int.reduceLE, Int.reduceAdd, Int.reduceSub, Int.reduceMul, Int.reduceToNat, sliceCells, cellsAt, srcA, app, reduceCtorEq, Int.reduceEq, Int.reduceNeg, Int.reducePow, Nat.reducePow, Int.reduceTDiv, Int.reduceDiv, Nat.reduceDiv, Nat.reduceMod, Int.reduceMod, Int.reduceTMod, ne_eq, subA, beq_iff_eq, unA, minA, maxA, eqFs, eqA1, beq_self_eq_true, Nat.reduceBEq, m1, m2]
    refine ALoop.by (ι := Nat) (fun k => ⟨[(11, .int .i64 ((k * 2 : Nat) : Int)), (10, .own 0 k), (9, .int .i64 2), (0, .int .i64 16), (1, .list l.length (u8 l))], [⟨t0, 1, k, ks .i32 (S.take k), 0⟩]⟩) (fun k => k ≤ l.length / 2) (fun k => l.length / 2 - k) 0 (Le.trans (Le.virt 10 t0 1 (by omega) rfl) (Le.slots (by simp [Am.look]))) (by omega) ?_
    intro k hk
    have lk : (ks .i32 (S.take k)).length = k := by rw [ks_length, List.length_take]; omega
    by_cases hlt : k < l.length / 2
    · have eT := hT k hlt
      have g : k * 2 + 2 ≤ l.length := by omega
      rw [smpD16, leN2 (by omega)] at eT
      have e0 := drop_u8 (l := l) (k := k * 2 + 0) (by omega)
      have b0 := (l[k * 2 + 0]).toNat_lt
      have e1 := drop_u8 (l := l) (k := k * 2 + 1) (by omega)
      have b1 := (l[k * 2 + 1]).toNat_lt
      simp only [Nat.add_zero] at e0 b0
      generalize l[k * 2] = y0 at *
      generalize l[k * 2 + 1] = y1 at *
      generalize hat : k * 2 = at_ at *
      obtain ⟨X, hX⟩ : ∃ X, X = y0.toNat + y1.toNat * 256 := ⟨_, rfl⟩
      rw [← hX] at eT
      simp (config := { maxSteps := 4000000 }) (disch := omega) only [step, stepv, ev, okW, onlyFr, Bool.false_and, Bool.true_and, sealw, wl, wn, wp, aop, cV, cV1, ↓reduceIte, Nat.reduceEqDiff, Nat.reduceAdd, Int.cast_ofNat_Int, if_true, if_false, AV.one, repCells, fillA, partCells, Nat.reduceLT, Nat.reduceLeDiff, Nat.reduceMul, Nat.reduceSub, Int.reduceLT, Int.reduceLE, Int.reduceAdd, Int.reduceSub, Int.reduceMul, Int.reduceToNat, sliceCells, cellsAt, srcA, app, reduceCtorEq, Int.reduceEq, Int.reduceNeg, Int.reducePow, Nat.reducePow, Int.reduceTDiv, Int.reduceDiv, Nat.reduceDiv, Nat.reduceMod, Int.reduceMod, Int.reduceTMod, ne_eq, subA, beq_iff_eq, unA, minA, maxA, eqFs, eqA1, beq_self_eq_true, Nat.reduceBEq]
      refine ALoop.by (ι := Nat) (fun j => ⟨[(54, .int .i64 j), (53, .int .i64 2), (12, .int .i32 (match j with | 0 => 0 | 1 => (y0.toNat : Int) | _ => (X : Int))), (11, .int .i64 (at_ : Int)), (10, .own 0 k), (9, .int .i64 2), (0, .int .i64 16), (1, .list l.length (u8 l))], [⟨t0, 1, k, ks .i32 (S.take k), 0⟩]⟩) (fun j => j ≤ 2) (fun j => 2 - j) 0 (Le.slots (by simp [Am.look])) (by omega) ?_
      intro j hj
      have o1 := @or_i32 y0.toNat y1.toNat 8 (by omega) (by omega)
      rw [show y1.toNat * 2 ^ 8 = y1.toNat * 256 by rfl, ← hX] at o1
      generalize hq1 : y1.toNat * 256 = q1 at *
      have o0 : IntKind.i32.wrap (BitVec.ofInt IntKind.i32.bits 0 ||| BitVec.ofInt IntKind.i32.bits (y0.toNat : Int)).toNat = (y0.toNat : Int) := by
        have := @or_i32 0 y0.toNat 0 (by omega) (by omega)
        simpa using this
      have s0 : shiftA true .i32 (y0.toNat : Int) 0 = some (.int .i32 (y0.toNat : Int)) := by simp [shiftA]; rw [wrap_i32] <;> omega
      have s1 : shiftA true .i32 (y1.toNat : Int) 8 = some (.int .i32 (q1 : Int)) := by simp [shiftA, IntKind.bits]; rw [wrap_i32] <;> omega
      have hj3 : j = 0 ∨ j = 1 ∨ j = 2 := by omega
      rcases hj3 with rfl | rfl | rfl
      · simp (config := { maxSteps := 4000000 }) (disch := omega) only [step, stepv, ev, okW, onlyFr, Bool.false_and, Bool.true_and, sealw, wl, wn, wp, aop, cV, cV1, ↓reduceIte, Nat.reduceEqDiff, Nat.reduceAdd, Int.cast_ofNat_Int, if_true, if_false, AV.one, repCells, fillA, partCells, Nat.reduceLT, Nat.reduceLeDiff, Nat.reduceMul, Nat.reduceSub, Int.reduceLT, Int.reduceLE, Int.reduceAdd, Int.reduceSub, Int.reduceMul, Int.reduceToNat, sliceCells, cellsAt, srcA, app, reduceCtorEq, Int.reduceEq, Int.reduceNeg, Int.reducePow, Nat.reducePow, Int.reduceTDiv, Int.reduceDiv, Nat.reduceDiv, Nat.reduceMod, Int.reduceMod, Int.reduceTMod, ne_eq, subA, beq_iff_eq, unA, minA, maxA, eqFs, eqA1, beq_self_eq_true, Nat.reduceBEq, e0, o0, s0]
        exact ⟨1, by omega, by omega, Le.slots (by simp [Am.look])⟩
      · simp (config := { maxSteps := 4000000 }) (disch := omega) only [step, stepv, ev, okW, onlyFr, Bool.false_and, Bool.true_and, sealw, wl, wn, wp, aop, cV, cV1, ↓reduceIte, Nat.reduceEqDiff, Nat.reduceAdd, Int.cast_ofNat_Int, if_true, if_false, AV.one, repCells, fillA, partCells, Nat.reduceLT, Nat.reduceLeDiff, Nat.reduceMul, Nat.reduceSub, Int.reduceLT, Int.reduceLE, Int.reduceAdd, Int.reduceSub, Int.reduceMul, Int.reduceToNat, sliceCells, cellsAt, srcA, app, reduceCtorEq, Int.reduceEq, Int.reduceNeg, Int.reducePow, Nat.reducePow, Int.reduceTDiv, Int.reduceDiv, Nat.reduceDiv, Nat.reduceMod, Int.reduceMod, Int.reduceTMod, ne_eq, subA, beq_iff_eq, unA, minA, maxA, eqFs, eqA1, beq_self_eq_true, Nat.reduceBEq, e1, o1, s1]
        exact ⟨2, by omega, by omega, Le.slots (by simp [Am.look])⟩
      · have z1 : ∀ x : Int, shiftA true .i32 x 16 = some (.int .i32 (IntKind.i32.wrap (x * 65536))) := fun x => rfl
        have z2 : ∀ x : Int, shiftA false .i32 x 16 = some (.int .i32 (x.fdiv 65536)) := fun x => rfl
        have z3 := sext16 (n := X) (by omega)
        rw [show smpD 16 [] = 0 by decide, Int.zero_add] at z3
        rw [← z3] at eT
        have z4 : (IntKind.i32.wrap ((X : Int) * 65536)).fdiv 65536 ≤ 2147483647 := by rw [z3]; split <;> omega
        have z5 : -2147483648 ≤ (IntKind.i32.wrap ((X : Int) * 65536)).fdiv 65536 := by rw [z3]; split <;> omega
        simp (config := { maxSteps := 4000000 }) (disch := omega) only [step, stepv, ev, okW, onlyFr, Bool.false_and, Bool.true_and, sealw, wl, wn, wp, aop, cV, cV1, ↓reduceIte, Nat.reduceEqDiff, Nat.reduceAdd, Int.cast_ofNat_Int, if_true, if_false, AV.one, repCells, fillA, partCells, Nat.reduceLT, Nat.reduceLeDiff, Nat.reduceMul, Nat.reduceSub, Int.reduceLT, Int.reduceLE, Int.reduceAdd, Int.reduceSub, Int.reduceMul, Int.reduceToNat, sliceCells, cellsAt, srcA, app, reduceCtorEq, Int.reduceEq, Int.reduceNeg, Int.reducePow, Nat.reducePow, Int.reduceTDiv, Int.reduceDiv, Nat.reduceDiv, Nat.reduceMod, Int.reduceMod, Int.reduceTMod, ne_eq, subA, beq_iff_eq, unA, minA, maxA, eqFs, eqA1, beq_self_eq_true, Nat.reduceBEq, z1, z2, lk, ks_snoc]
        rw [← eT, ← hat]
        exact ⟨k + 1, by omega, by omega, Le.drop1 (isTL_ks _ _) (by simp [Am.look, frzK, frzL, frzV, frzL_T _ (isT_u8 _)]; try omega)⟩
    · have ek : k = l.length / 2 := by omega
      subst ek
      have tS : S.take (l.length / 2) = S := List.take_of_length_le (by omega)
      have tw : l.length / 2 * 2 = l.length := by omega
      rw [tS, tw]
      simp (config := { maxSteps := 4000000 }) (disch := omega) only [step, stepv, ev, okW, onlyFr, Bool.false_and, Bool.true_and, sealw, wl, wn, wp, aop, cV, cV1, ↓reduceIte, Nat.reduceEqDiff, Nat.reduceAdd, Int.cast_ofNat_Int, if_true, if_false, AV.one, repCells, fillA, partCells, Nat.reduceLT, Nat.reduceLeDiff, Nat.reduceMul, Nat.reduceSub, Int.reduceLT, Int.reduceLE, Int.reduceAdd, Int.reduceSub, Int.reduceMul, Int.reduceToNat, sliceCells, cellsAt, srcA, app, reduceCtorEq, Int.reduceEq, Int.reduceNeg, Int.reducePow, Nat.reducePow, Int.reduceTDiv, Int.reduceDiv, Nat.reduceDiv, Nat.reduceMod, Int.reduceMod, Int.reduceTMod, ne_eq, subA, beq_iff_eq, unA, minA, maxA, eqFs, eqA1, beq_self_eq_true, Nat.reduceBEq]
      simp [frzN, frzK, frzL, frzV, frzL_T _ (isTL_ks _ _), il, hL]
  · simp only [rangeA, h] at hR'
    rw [if_neg (by omega)] at hR'
    have hw : ((24 : Int) / 8).toNat = 3 := rfl
    simp only [samplesA, hw, h]
    rw [if_neg (by omega)]
    have hL := smpL_length 24 l
    have hT := fun i => @smpL_take 24 l i
    rw [hw] at hL hT
    generalize hS : smpL 24 l = S at *
    have m1 : (l.length : Int).tmod 3 = ((l.length % 3 : Nat) : Int) := by rw [Int.tmod_eq_emod_of_nonneg (by omega)]; omega
    have m2 : (l.length : Int).tdiv 3 = ((l.length / 3 : Nat) : Int) := by rw [Int.tdiv_eq_ediv_of_nonneg (by omega)]; omega
    simp (config := { maxSteps := 4000000 }) (disch := omega) only [step, stepv, ev, okW, onlyFr, Bool.false_and, Bool.true_and, sealw, wl, wn, wp, aop, cV, cV1, ↓reduceIte, Nat.reduceEqDiff, Nat.reduceAdd, Int.cast_ofNat_Int, if_true, if_false, AV.one, repCells, fillA, partCells, Nat.reduceLT, Nat.reduceLeDiff, Nat.reduceMul, Nat.reduceSub, Int.reduceLT, Int.reduceLE, Int.reduceAdd, Int.reduceSub, Int.reduceMul, Int.reduceToNat, sliceCells, cellsAt, srcA, app, reduceCtorEq, Int.reduceEq, Int.reduceNeg, Int.reducePow, Nat.reducePow, Int.reduceTDiv, Int.reduceDiv, Nat.reduceDiv, Nat.reduceMod, Int.reduceMod, Int.reduceTMod, ne_eq, subA, beq_iff_eq, unA, minA, maxA, eqFs, eqA1, beq_self_eq_true, Nat.reduceBEq, ac_width_Samples, bs]
    refine callQ.vc hR' ?_
    by_cases h3 : l.length % 3 ≠ 0
    · rw [if_pos h3]
      simp (config := { maxSteps := 4000000 }) (disch := omega) only [step, stepv, ev, okW, onlyFr, Bool.false_and, Bool.true_and, sealw, wl, wn, wp, aop, cV, cV1, ↓reduceIte, Nat.reduceEqDiff, Nat.reduceAdd, Int.cast_ofNat_Int, if_true, if_false, AV.one, repCells, fillA, partCells, Nat.reduceLT, Nat.reduceLeDiff, Nat.reduceMul, Nat.reduceSub, Int.reduceLT, Int.reduceLE, Int.reduceAdd, Int.reduceSub, Int.reduceMul, Int.reduceToNat, sliceCells, cellsAt, srcA, app, reduceCtorEq, Int.reduceEq, Int.reduceNeg, Int.reducePow, Nat.reducePow, Int.reduceTDiv, Int.reduceDiv, Nat.reduceDiv, Nat.reduceMod, Int.reduceMod, Int.reduceTMod, ne_eq, subA, beq_iff_eq, unA, minA, maxA, eqFs, eqA1, beq_self_eq_true, Nat.reduceBEq, m1]
      simp [frzN, frzK, frzL, frzV]
    rw [if_neg h3]
    have h3' : l.length % 3 = 0 := by omega
    by_cases h4 : 4000 < l.length / 3
    · rw [if_pos h4]
      simp (config := { maxSteps := 4000000 }) (disch := omega) only [step, stepv, ev, okW, onlyFr, Bool.false_and, Bool.true_and, sealw, wl, wn, wp, aop, cV, cV1, ↓reduceIte, Nat.reduceEqDiff, Nat.reduceAdd, Int.cast_ofNat_Int, if_true, if_false, AV.one, repCells, fillA, partCells, Nat.reduceLT, Nat.reduceLeDiff, Nat.reduceMul, Nat.reduceSub, Int.reduceLT, Int.reduceLE, Int.reduceAdd, Int.reduceSub, Int.reduceMul, Int.reduceToNat, sliceCells, cellsAt, srcA, app, reduceCtorEq, Int.reduceEq, Int.reduceNeg, Int.reducePow, Nat.reducePow, Int.reduceTDiv, Int.reduceDiv, Nat.reduceDiv, Nat.reduceMod, Int.reduceMod, Int.reduceTMod, ne_eq, subA, beq_iff_eq, unA, minA, maxA, eqFs, eqA1, beq_self_eq_true, Nat.reduceBEq, m1, m2]
      simp [frzN, frzK, frzL, frzV]
    rw [if_neg h4]
    simp (config := { maxSteps := 4000000 }) (disch := omega) only [step, stepv, ev, okW, onlyFr, Bool.false_and, Bool.true_and, sealw, wl, wn, wp, aop, cV, cV1, ↓reduceIte, Nat.reduceEqDiff, Nat.reduceAdd, Int.cast_ofNat_Int, if_true, if_false, AV.one, repCells, fillA, partCells, Nat.reduceLT, Nat.reduceLeDiff, Nat.reduceMul, Nat.reduceSub, Int.reduceLT, Int.reduceLE, Int.reduceAdd, Int.reduceSub, Int.reduceMul, Int.reduceToNat, sliceCells, cellsAt, srcA, app, reduceCtorEq, Int.reduceEq, Int.reduceNeg, Int.reducePow, Nat.reducePow, Int.reduceTDiv, Int.reduceDiv, Nat.reduceDiv, Nat.reduceMod, Int.reduceMod, Int.reduceTMod, ne_eq, subA, beq_iff_eq, unA, minA, maxA, eqFs, eqA1, beq_self_eq_true, Nat.reduceBEq, m1, m2]
    refine ALoop.by (ι := Nat) (fun k => ⟨[(11, .int .i64 ((k * 3 : Nat) : Int)), (10, .own 0 k), (9, .int .i64 3), (0, .int .i64 24), (1, .list l.length (u8 l))], [⟨t0, 1, k, ks .i32 (S.take k), 0⟩]⟩) (fun k => k ≤ l.length / 3) (fun k => l.length / 3 - k) 0 (Le.trans (Le.virt 10 t0 1 (by omega) rfl) (Le.slots (by simp [Am.look]))) (by omega) ?_
    intro k hk
    have lk : (ks .i32 (S.take k)).length = k := by rw [ks_length, List.length_take]; omega
    by_cases hlt : k < l.length / 3
    · have eT := hT k hlt
      have g : k * 3 + 3 ≤ l.length := by omega
      rw [smpD24, leN3 (by omega)] at eT
      have e0 := drop_u8 (l := l) (k := k * 3 + 0) (by omega)
      have b0 := (l[k * 3 + 0]).toNat_lt
      have e1 := drop_u8 (l := l) (k := k * 3 + 1) (by omega)
      have b1 := (l[k * 3 + 1]).toNat_lt
      have e2 := drop_u8 (l := l) (k := k * 3 + 2) (by omega)
      have b2 := (l[k * 3 + 2]).toNat_lt
      simp only [Nat.add_zero] at e0 b0
      generalize l[k * 3] = y0 at *
      generalize l[k * 3 + 1] = y1 at *
      generalize l[k * 3 + 2] = y2 at *
      generalize hat : k * 3 = at_ at *
      obtain ⟨X, hX⟩ : ∃ X, X = y0.toNat + y1.toNat * 256 := ⟨_, rfl⟩
      rw [← hX] at eT
      obtain ⟨Y, hY⟩ : ∃ Y, Y = X + y2.toNat * 65536 := ⟨_, rfl⟩
      rw [← hY] at eT
      simp (config := { maxSteps := 4000000 }) (disch := omega) only [step, stepv, ev, okW, onlyFr, Bool.false_and, Bool.true_and, sealw, wl, wn, wp, aop, cV, cV1, ↓reduceIte, Nat.reduceEqDiff, Nat.reduceAdd, Int.cast_ofNat_Int, if_true, if_false, AV.one, repCells, fillA, partCells, Nat.reduceLT, Nat.reduceLeDiff, Nat.reduceMul, Nat.reduceSub, Int.reduceLT, Int.reduceLE, Int.reduceAdd, Int.reduceSub, Int.reduceMul, Int.reduceToNat, sliceCells, cellsAt, srcA, app, reduceCtorEq, Int.reduceEq, Int.reduceNeg, Int.reducePow, Nat.reducePow, Int.reduceTDiv, Int.reduceDiv, Nat.reduceDiv, Nat.reduceMod, Int.reduceMod, Int.reduceTMod, ne_eq, subA, beq_iff_eq, unA, minA, maxA, eqFs, eqA1, beq_self_eq_true, Nat.reduceBEq]
      refine ALoop.by (ι := Nat) (fun j => ⟨[(54, .int .i64 j), (53, .int .i64 3), (12, .int .i32 (match j with | 0 => 0 | 1 => (y0.toNat : Int) | 2 => (X : Int) | _ => (Y : Int))), (11, .int .i64 (at_ : Int)), (10, .own 0 k), (9, .int .i64 3), (0, .int .i64 24), (1, .list l.length (u8 l))], [⟨t0, 1, k, ks .i32 (S.take k), 0⟩]⟩) (fun j => j ≤ 3) (fun j => 3 - j) 0 (Le.slots (by simp [Am.look])) (by omega) ?_
      intro j hj
      have o1 := @or_i32 y0.toNat y1.toNat 8 (by omega) (by omega)
      rw [show y1.toNat * 2 ^ 8 = y1.toNat * 256 by rfl, ← hX] at o1
      have o2 := @or_i32 X y2.toNat 16 (by omega) (by omega)
      rw [show y2.toNat * 2 ^ 16 = y2.toNat * 65536 by rfl, ← hY] at o2
      generalize hq2 : y2.toNat * 65536 = q2 at *
      generalize hq1 : y1.toNat * 256 = q1 at *
      have o0 : IntKind.i32.wrap (BitVec.ofInt IntKind.i32.bits 0 ||| BitVec.ofInt IntKind.i32.bits (y0.toNat : Int)).toNat = (y0.toNat : Int) := by
        have := @or_i32 0 y0.toNat 0 (by omega) (by omega)
        simpa using this
      have s0 : shiftA true .i32 (y0.toNat : Int) 0 = some (.int .i32 (y0.toNat : Int)) := by simp [shiftA]; rw [wrap_i32] <;> omega
      have s1 : shiftA true .i32 (y1.toNat : Int) 8 = some (.int .i32 (q1 : Int)) := by simp [shiftA, IntKind.bits]; rw [wrap_i32] <;> omega
      have s2 : shiftA true .i32 (y2.toNat : Int) 16 = some (.int .i32 (q2 : Int)) := by simp [shiftA, IntKind.bits]; rw [wrap_i32] <;> omega
      have hj3 : j = 0 ∨ j = 1 ∨ j = 2 ∨ j = 3 := by omega
      rcases hj3 with rfl | rfl | rfl | rfl
      · simp (config := { maxSteps := 4000000 }) (disch := omega) only [step, stepv, ev, okW, onlyFr, Bool.false_and, Bool.true_and, sealw, wl, wn, wp, aop, cV, cV1, ↓reduceIte, Nat.reduceEqDiff, Nat.reduceAdd, Int.cast_ofNat_Int, if_true, if_false, AV.one, repCells, fillA, partCells, Nat.reduceLT, Nat.reduceLeDiff, Nat.reduceMul, Nat.reduceSub, Int.reduceLT, Int.reduceLE, Int.reduceAdd, Int.reduceSub, Int.reduceMul, Int.reduceToNat, sliceCells, cellsAt, srcA, app, reduceCtorEq, Int.reduceEq, Int.reduceNeg, Int.reducePow, Nat.reducePow, Int.reduceTDiv, Int.reduceDiv, Nat.reduceDiv, Nat.reduceMod, Int.reduceMod, Int.reduceTMod, ne_eq, subA, beq_iff_eq, unA, minA, maxA, eqFs, eqA1, beq_self_eq_true, Nat.reduceBEq, e0, o0, s0]
        exact ⟨1, by omega, by omega, Le.slots (by simp [Am.look])⟩
      · simp (config := { maxSteps := 4000000 }) (disch := omega) only [step, stepv, ev, okW, onlyFr, Bool.false_and, Bool.true_and, sealw, wl, wn, wp, aop, cV, cV1, ↓reduceIte, Nat.reduceEqDiff, Nat.reduceAdd, Int.cast_ofNat_Int, if_true, if_false, AV.one, repCells, fillA, partCells, Nat.reduceLT, Nat.reduceLeDiff, Nat.reduceMul, Nat.reduceSub, Int.reduceLT, Int.reduceLE, Int.reduceAdd, Int.reduceSub, Int.reduceMul, Int.reduceToNat, sliceCells, cellsAt, srcA, app, reduceCtorEq, Int.reduceEq, Int.reduceNeg, Int.reducePow, Nat.reducePow, Int.reduceTDiv, Int.reduceDiv, Nat.reduceDiv, Nat.reduceMod, Int.reduceMod, Int.reduceTMod, ne_eq, subA, beq_iff_eq, unA, minA, maxA, eqFs, eqA1, beq_self_eq_true, Nat.reduceBEq, e1, o1, s1]
        exact ⟨2, by omega, by omega, Le.slots (by simp [Am.look])⟩
      · simp (config := { maxSteps := 4000000 }) (disch := omega) only [step, stepv, ev, okW, onlyFr, Bool.false_and, Bool.true_and, sealw, wl, wn, wp, aop, cV, cV1, ↓reduceIte, Nat.reduceEqDiff, Nat.reduceAdd, Int.cast_ofNat_Int, if_true, if_false, AV.one, repCells, fillA, partCells, Nat.reduceLT, Nat.reduceLeDiff, Nat.reduceMul, Nat.reduceSub, Int.reduceLT, Int.reduceLE, Int.reduceAdd, Int.reduceSub, Int.reduceMul, Int.reduceToNat, sliceCells, cellsAt, srcA, app, reduceCtorEq, Int.reduceEq, Int.reduceNeg, Int.reducePow, Nat.reducePow, Int.reduceTDiv, Int.reduceDiv, Nat.reduceDiv, Nat.reduceMod, Int.reduceMod, Int.reduceTMod, ne_eq, subA, beq_iff_eq, unA, minA, maxA, eqFs, eqA1, beq_self_eq_true, Nat.reduceBEq, e2, o2, s2]
        exact ⟨3, by omega, by omega, Le.slots (by simp [Am.look])⟩
      · have z1 : ∀ x : Int, shiftA true .i32 x 8 = some (.int .i32 (IntKind.i32.wrap (x * 256))) := fun x => rfl
        have z2 : ∀ x : Int, shiftA false .i32 x 8 = some (.int .i32 (x.fdiv 256)) := fun x => rfl
        have z3 := sext24 (n := Y) (by omega)
        rw [show smpD 24 [] = 0 by decide, Int.zero_add] at z3
        rw [← z3] at eT
        have z4 : (IntKind.i32.wrap ((Y : Int) * 256)).fdiv 256 ≤ 2147483647 := by rw [z3]; split <;> omega
        have z5 : -2147483648 ≤ (IntKind.i32.wrap ((Y : Int) * 256)).fdiv 256 := by rw [z3]; split <;> omega
        simp (config := { maxSteps := 4000000 }) (disch := omega) only [step, stepv, ev, okW, onlyFr, Bool.false_and, Bool.true_and, sealw, wl, wn, wp, aop, cV, cV1, ↓reduceIte, Nat.reduceEqDiff, Nat.reduceAdd, Int.cast_ofNat_Int, if_true, if_false, AV.one, repCells, fillA, partCells, Nat.reduceLT, Nat.reduceLeDiff, Nat.reduceMul, Nat.reduceSub, Int.reduceLT, Int.reduceLE, Int.reduceAdd, Int.reduceSub, Int.reduceMul, Int.reduceToNat, sliceCells, cellsAt, srcA, app, reduceCtorEq, Int.reduceEq, Int.reduceNeg, Int.reducePow, Nat.reducePow, Int.reduceTDiv, Int.reduceDiv, Nat.reduceDiv, Nat.reduceMod, Int.reduceMod, Int.reduceTMod, ne_eq, subA, beq_iff_eq, unA, minA, maxA, eqFs, eqA1, beq_self_eq_true, Nat.reduceBEq, z1, z2, lk, ks_snoc]
        rw [← eT, ← hat]
        exact ⟨k + 1, by omega, by omega, Le.drop1 (isTL_ks _ _) (by simp [Am.look, frzK, frzL, frzV, frzL_T _ (isT_u8 _)]; try omega)⟩
    · have ek : k = l.length / 3 := by omega
      subst ek
      have tS : S.take (l.length / 3) = S := List.take_of_length_le (by omega)
      have tw : l.length / 3 * 3 = l.length := by omega
      rw [tS, tw]
      simp (config := { maxSteps := 4000000 }) (disch := omega) only [step, stepv, ev, okW, onlyFr, Bool.false_and, Bool.true_and, sealw, wl, wn, wp, aop, cV, cV1, ↓reduceIte, Nat.reduceEqDiff, Nat.reduceAdd, Int.cast_ofNat_Int, if_true, if_false, AV.one, repCells, fillA, partCells, Nat.reduceLT, Nat.reduceLeDiff, Nat.reduceMul, Nat.reduceSub, Int.reduceLT, Int.reduceLE, Int.reduceAdd, Int.reduceSub, Int.reduceMul, Int.reduceToNat, sliceCells, cellsAt, srcA, app, reduceCtorEq, Int.reduceEq, Int.reduceNeg, Int.reducePow, Nat.reducePow, Int.reduceTDiv, Int.reduceDiv, Nat.reduceDiv, Nat.reduceMod, Int.reduceMod, Int.reduceTMod, ne_eq, subA, beq_iff_eq, unA, minA, maxA, eqFs, eqA1, beq_self_eq_true, Nat.reduceBEq]
      simp [frzN, frzK, frzL, frzV, frzL_T _ (isTL_ks _ _), il, hL]

end Go.Am

namespace Go.Am
open Go.RowKit

end Go.Am
