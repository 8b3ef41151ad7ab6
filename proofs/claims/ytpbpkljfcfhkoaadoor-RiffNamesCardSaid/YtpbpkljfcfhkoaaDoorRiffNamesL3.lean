/- What the functions that the law reaches return, for every program that has their code; the conditions stand in each statement. -/
import Derived.Test.YtpbpkljfcfhkoaaDoorRiffNamesL2
set_option linter.unusedSectionVars false
set_option linter.unusedSimpArgs false
set_option linter.unusedVariables false
namespace Go.Am
open Go.RowKit

def exL : List Ck := [([100, 97, 116, 97], [1, 2, 3])]
def waveW : List UInt8 := [87, 65, 86, 69]
def exB : List UInt8 := [82, 73, 70, 70, 16, 0, 0, 0, 87, 65, 86, 69, 100, 97, 116, 97, 3, 0, 0, 0, 1, 2, 3, 0]

theorem ex_bytes : bytesM waveW exL = exB := by decide
theorem ex_check : checkM waveW exL = 0 := by decide
theorem ex_ok : okL exL := ⟨by decide, fun c hc => by simp [exL] at hc; subst hc; decide⟩
theorem ex_read : readM exB = .inr (waveW, exL) := by
  have := readM_written ex_check [] (by decide)
  rwa [List.append_nil, ex_bytes, if_pos rfl] at this

def S_example (P : Prg) (f : Nat) : Prop := VC P f [] (.list exL.length (ckL exL))
theorem law31_example {P : Prg} {f t0 t1 : Nat} (b : Body P f 4 [.tmp 0] (ac_cadenzalaw31_example t0 t1)) : S_example P f := by
  refine VC.of_walk 1 rfl rfl (ACall.of_body b (by simp) ?_)
  simp (config := { maxSteps := 4000000 }) (disch := omega) only [step, stepv, ev, okW, wl, wn, wp, aop, cV, cV1, ↓reduceIte, Nat.reduceEqDiff, Nat.reduceAdd, Int.cast_ofNat_Int, if_true, if_false, AV.one, repCells, fillA, partCells, Nat.reduceLT, Nat.reduceLeDiff, Nat.reduceMul, Nat.reduceSub, Int.reduceLT, Int.reduceLE, Int.reduceAdd, Int.reduceSub, Int.reduceMul, Int.reduceToNat, sliceCells, cellsAt, srcA, app, reduceCtorEq, Int.reduceEq, Int.reduceNeg, Int.reducePow, Nat.reducePow, Int.reduceTDiv, Int.reduceDiv, Nat.reduceDiv, Nat.reduceMod, Int.reduceMod, Int.reduceTMod, ne_eq, subA, beq_iff_eq, unA, minA, maxA, eqFs, eqA1, beq_self_eq_true, Nat.reduceBEq, ac_cadenzalaw31_example]
  simp [frzN, frzK, frzL, frzV, isDL, isD, ckL, exL, bs, u8]

def S_alive (P : Prg) (f : Nat) : Prop := VC P f [] (.bool true)
theorem law31_alive {P : Prg} {f fE fW fR fS t0 : Nat} (b : Body P f 38 [.tmp 0] (ac_cadenzalaw31_alive fE fW fR fS t0)) (hE : S_example P fE) (hW : S_Write P fW) (hR : S_Read P fR) (hS : S_Same P fS) : S_alive P f := by
  refine VC.of_acall rfl rfl (ACall.of_body b (by simp) ?_)
  have w0 : ([87, 65, 86, 69] : List UInt8) = waveW := rfl
  have b0 : ([82, 73, 70, 70, 16, 0, 0, 0, 87, 65, 86, 69, 100, 97, 116, 97, 3, 0, 0, 0, 1, 2, 3, 0] : List UInt8) = exB := rfl
  simp (config := { maxSteps := 4000000 }) (disch := omega) only [step, stepv, ev, okW, wl, wn, wp, aop, cV, cV1, ↓reduceIte, Nat.reduceEqDiff, Nat.reduceAdd, Int.cast_ofNat_Int, if_true, if_false, AV.one, repCells, fillA, partCells, Nat.reduceLT, Nat.reduceLeDiff, Nat.reduceMul, Nat.reduceSub, Int.reduceLT, Int.reduceLE, Int.reduceAdd, Int.reduceSub, Int.reduceMul, Int.reduceToNat, sliceCells, cellsAt, srcA, app, reduceCtorEq, Int.reduceEq, Int.reduceNeg, Int.reducePow, Nat.reducePow, Int.reduceTDiv, Int.reduceDiv, Nat.reduceDiv, Nat.reduceMod, Int.reduceMod, Int.reduceTMod, ne_eq, subA, beq_iff_eq, unA, minA, maxA, eqFs, eqA1, beq_self_eq_true, Nat.reduceBEq, ac_cadenzalaw31_alive]
  refine callQ.vc hE ?_
  simp (config := { maxSteps := 4000000 }) (disch := omega) only [step, stepv, ev, okW, wl, wn, wp, aop, cV, cV1, ↓reduceIte, Nat.reduceEqDiff, Nat.reduceAdd, Int.cast_ofNat_Int, if_true, if_false, AV.one, repCells, fillA, partCells, Nat.reduceLT, Nat.reduceLeDiff, Nat.reduceMul, Nat.reduceSub, Int.reduceLT, Int.reduceLE, Int.reduceAdd, Int.reduceSub, Int.reduceMul, Int.reduceToNat, sliceCells, cellsAt, srcA, app, reduceCtorEq, Int.reduceEq, Int.reduceNeg, Int.reducePow, Nat.reducePow, Int.reduceTDiv, Int.reduceDiv, Nat.reduceDiv, Nat.reduceMod, Int.reduceMod, Int.reduceTMod, ne_eq, subA, beq_iff_eq, unA, minA, maxA, eqFs, eqA1, beq_self_eq_true, Nat.reduceBEq]
  rw [w0]
  refine callQ.vc (by have := hW waveW exL (by decide) ex_ok; simp only [writeA, if_pos ex_check, ex_bytes] at this; exact this) ?_
  simp (config := { maxSteps := 4000000 }) (disch := omega) only [step, stepv, ev, okW, wl, wn, wp, aop, cV, cV1, ↓reduceIte, Nat.reduceEqDiff, Nat.reduceAdd, Int.cast_ofNat_Int, if_true, if_false, AV.one, repCells, fillA, partCells, Nat.reduceLT, Nat.reduceLeDiff, Nat.reduceMul, Nat.reduceSub, Int.reduceLT, Int.reduceLE, Int.reduceAdd, Int.reduceSub, Int.reduceMul, Int.reduceToNat, sliceCells, cellsAt, srcA, app, reduceCtorEq, Int.reduceEq, Int.reduceNeg, Int.reducePow, Nat.reducePow, Int.reduceTDiv, Int.reduceDiv, Nat.reduceDiv, Nat.reduceMod, Int.reduceMod, Int.reduceTMod, ne_eq, subA, beq_iff_eq, unA, minA, maxA, eqFs, eqA1, beq_self_eq_true, Nat.reduceBEq]
  refine callQ.still 1 [0] (hR exB (by decide)) ?_ ?_
  · simp [frzN, frzK, frzL, frzV, isDL, isD]
    rfl
  · rw [ex_read]
    simp (config := { maxSteps := 4000000 }) (disch := omega) only [step, stepv, ev, okW, wl, wn, wp, aop, cV, cV1, ↓reduceIte, Nat.reduceEqDiff, Nat.reduceAdd, Int.cast_ofNat_Int, if_true, if_false, AV.one, repCells, fillA, partCells, Nat.reduceLT, Nat.reduceLeDiff, Nat.reduceMul, Nat.reduceSub, Int.reduceLT, Int.reduceLE, Int.reduceAdd, Int.reduceSub, Int.reduceMul, Int.reduceToNat, sliceCells, cellsAt, srcA, app, reduceCtorEq, Int.reduceEq, Int.reduceNeg, Int.reducePow, Nat.reducePow, Int.reduceTDiv, Int.reduceDiv, Nat.reduceDiv, Nat.reduceMod, Int.reduceMod, Int.reduceTMod, ne_eq, subA, beq_iff_eq, unA, minA, maxA, eqFs, eqA1, beq_self_eq_true, Nat.reduceBEq, readA, bs, strA]
    rw [b0]
    simp (config := { maxSteps := 4000000 }) (disch := omega) only [step, stepv, ev, okW, wl, wn, wp, aop, cV, cV1, ↓reduceIte, Nat.reduceEqDiff, Nat.reduceAdd, Int.cast_ofNat_Int, if_true, if_false, AV.one, repCells, fillA, partCells, Nat.reduceLT, Nat.reduceLeDiff, Nat.reduceMul, Nat.reduceSub, Int.reduceLT, Int.reduceLE, Int.reduceAdd, Int.reduceSub, Int.reduceMul, Int.reduceToNat, sliceCells, cellsAt, srcA, app, reduceCtorEq, Int.reduceEq, Int.reduceNeg, Int.reducePow, Nat.reducePow, Int.reduceTDiv, Int.reduceDiv, Nat.reduceDiv, Nat.reduceMod, Int.reduceMod, Int.reduceTMod, ne_eq, subA, beq_iff_eq, unA, minA, maxA, eqFs, eqA1, beq_self_eq_true, Nat.reduceBEq, bs_eq, strA, w0]
    refine callQ.vc hE ?_
    simp (config := { maxSteps := 4000000 }) (disch := omega) only [step, stepv, ev, okW, wl, wn, wp, aop, cV, cV1, ↓reduceIte, Nat.reduceEqDiff, Nat.reduceAdd, Int.cast_ofNat_Int, if_true, if_false, AV.one, repCells, fillA, partCells, Nat.reduceLT, Nat.reduceLeDiff, Nat.reduceMul, Nat.reduceSub, Int.reduceLT, Int.reduceLE, Int.reduceAdd, Int.reduceSub, Int.reduceMul, Int.reduceToNat, sliceCells, cellsAt, srcA, app, reduceCtorEq, Int.reduceEq, Int.reduceNeg, Int.reducePow, Nat.reducePow, Int.reduceTDiv, Int.reduceDiv, Nat.reduceDiv, Nat.reduceMod, Int.reduceMod, Int.reduceTMod, ne_eq, subA, beq_iff_eq, unA, minA, maxA, eqFs, eqA1, beq_self_eq_true, Nat.reduceBEq]
    refine callQ.vc (hS exL (by decide) (fun _ _ => trivial)) ?_
    simp (config := { maxSteps := 4000000 }) (disch := omega) only [step, stepv, ev, okW, wl, wn, wp, aop, cV, cV1, ↓reduceIte, Nat.reduceEqDiff, Nat.reduceAdd, Int.cast_ofNat_Int, if_true, if_false, AV.one, repCells, fillA, partCells, Nat.reduceLT, Nat.reduceLeDiff, Nat.reduceMul, Nat.reduceSub, Int.reduceLT, Int.reduceLE, Int.reduceAdd, Int.reduceSub, Int.reduceMul, Int.reduceToNat, sliceCells, cellsAt, srcA, app, reduceCtorEq, Int.reduceEq, Int.reduceNeg, Int.reducePow, Nat.reducePow, Int.reduceTDiv, Int.reduceDiv, Nat.reduceDiv, Nat.reduceMod, Int.reduceMod, Int.reduceTMod, ne_eq, subA, beq_iff_eq, unA, minA, maxA, eqFs, eqA1, beq_self_eq_true, Nat.reduceBEq]

def readsB (b : List UInt8) (w : Int) : Bool := match readM b with | .inl e => decide ((e : Int) = w) | .inr _ => decide (0 = w)
theorem readM_err {b : List UInt8} {e : Nat} (h : readM b = .inl e) : e ≤ 38 := by
  unfold readM at h
  have ch : ∀ k out rest e, chunksM k out rest = .inl e → e ≤ 38 := by
    intro k
    induction k with
    | zero => intro out rest e h; simp [chunksM] at h; omega
    | succ k ih =>
      intro out rest e h
      simp only [chunksM] at h
      split at h
      · cases h
      · split at h
        · cases h; omega
        · split at h
          · cases h; omega
          · exact ih _ _ _ h
  split at h
  · cases h; omega
  simp only at h
  split at h
  · cases h; omega
  split at h
  · cases h; omega
  split at h
  · cases h; omega
  split at h
  · rename_i e' he
    cases h
    exact ch _ _ _ _ he
  · split at h
    · cases h; omega
    · cases h

theorem chunks_pos : ∀ (k : Nat) (out : List Ck) (rest : List UInt8), rest.length < k → chunksM k out rest ≠ .inl 0
  | 0, _, _, h => by omega
  | k + 1, out, rest, hk => by
    simp only [chunksM]
    split
    · intro h; cases h
    · split
      · intro h; cases h
      · split
        · intro h; cases h
        · rename_i c left hnx
          have := (nextM_lt hnx).1
          exact chunks_pos k _ _ (by omega)

theorem readM_pos {b : List UInt8} {e : Nat} (h : readM b = .inl e) : e ≠ 0 := by
  unfold readM at h
  split at h
  · cases h; omega
  simp only at h
  split at h
  · cases h; omega
  split at h
  · cases h; omega
  split at h
  · cases h; omega
  split at h
  · rename_i e' he
    cases h
    intro h0
    subst h0
    exact chunks_pos _ _ _ (by simp; omega) he
  · split at h
    · cases h; omega
    · cases h

def S_reads (P : Prg) (f : Nat) : Prop := ∀ (b : List UInt8) (w : Int), b.length < 140737488355328 → VC P f [.str b, .int .i64 w] (.bool (readsB b w))
theorem law31_reads {P : Prg} {f fR : Nat} (bd : Body P f 31 [.tmp 4] (ac_cadenzalaw31_reads fR)) (hR : S_Read P fR) : S_reads P f := by
  intro b w hb
  refine VC.of_acall rfl rfl (ACall.of_body bd (by simp) ?_)
  have e0 : (([] : List UInt8) == []) = true := rfl
  simp (config := { maxSteps := 4000000 }) (disch := omega) only [step, stepv, ev, okW, wl, wn, wp, aop, cV, cV1, ↓reduceIte, Nat.reduceEqDiff, Nat.reduceAdd, Int.cast_ofNat_Int, if_true, if_false, AV.one, repCells, fillA, partCells, Nat.reduceLT, Nat.reduceLeDiff, Nat.reduceMul, Nat.reduceSub, Int.reduceLT, Int.reduceLE, Int.reduceAdd, Int.reduceSub, Int.reduceMul, Int.reduceToNat, sliceCells, cellsAt, srcA, app, reduceCtorEq, Int.reduceEq, Int.reduceNeg, Int.reducePow, Nat.reducePow, Int.reduceTDiv, Int.reduceDiv, Nat.reduceDiv, Nat.reduceMod, Int.reduceMod, Int.reduceTMod, ne_eq, subA, beq_iff_eq, unA, minA, maxA, eqFs, eqA1, beq_self_eq_true, Nat.reduceBEq, ac_cadenzalaw31_reads]
  refine callQ.vc (hR b hb) ?_
  cases hm : readM b with
  | inl e =>
    have hp := readM_pos hm
    by_cases hw : (e : Int) = w
    · have hr : readsB b w = true := by simp [readsB, hm, hw]
      rw [hr]
      simp (config := { maxSteps := 4000000 }) (disch := omega) only [step, stepv, ev, okW, wl, wn, wp, aop, cV, cV1, ↓reduceIte, Nat.reduceEqDiff, Nat.reduceAdd, Int.cast_ofNat_Int, if_true, if_false, AV.one, repCells, fillA, partCells, Nat.reduceLT, Nat.reduceLeDiff, Nat.reduceMul, Nat.reduceSub, Int.reduceLT, Int.reduceLE, Int.reduceAdd, Int.reduceSub, Int.reduceMul, Int.reduceToNat, sliceCells, cellsAt, srcA, app, reduceCtorEq, Int.reduceEq, Int.reduceNeg, Int.reducePow, Nat.reducePow, Int.reduceTDiv, Int.reduceDiv, Nat.reduceDiv, Nat.reduceMod, Int.reduceMod, Int.reduceTMod, ne_eq, subA, beq_iff_eq, unA, minA, maxA, eqFs, eqA1, beq_self_eq_true, Nat.reduceBEq, readA, strA, e0]
    · have hr : readsB b w = false := by simp [readsB, hm, hw]
      have hw' : ((e : Int) = w) = False := eq_false hw
      rw [hr]
      simp (config := { maxSteps := 4000000 }) (disch := omega) only [step, stepv, ev, okW, wl, wn, wp, aop, cV, cV1, ↓reduceIte, Nat.reduceEqDiff, Nat.reduceAdd, Int.cast_ofNat_Int, if_true, if_false, AV.one, repCells, fillA, partCells, Nat.reduceLT, Nat.reduceLeDiff, Nat.reduceMul, Nat.reduceSub, Int.reduceLT, Int.reduceLE, Int.reduceAdd, Int.reduceSub, Int.reduceMul, Int.reduceToNat, sliceCells, cellsAt, srcA, app, reduceCtorEq, Int.reduceEq, Int.reduceNeg, Int.reducePow, Nat.reducePow, Int.reduceTDiv, Int.reduceDiv, Nat.reduceDiv, Nat.reduceMod, Int.reduceMod, Int.reduceTMod, ne_eq, subA, beq_iff_eq, unA, minA, maxA, eqFs, eqA1, beq_self_eq_true, Nat.reduceBEq, readA, hw']
  | inr p =>
    obtain ⟨form, l⟩ := p
    by_cases hw : (0 : Int) = w
    · subst hw
      have hr : readsB b 0 = true := by simp [readsB, hm]
      rw [hr]
      simp (config := { maxSteps := 4000000 }) (disch := omega) only [step, stepv, ev, okW, wl, wn, wp, aop, cV, cV1, ↓reduceIte, Nat.reduceEqDiff, Nat.reduceAdd, Int.cast_ofNat_Int, if_true, if_false, AV.one, repCells, fillA, partCells, Nat.reduceLT, Nat.reduceLeDiff, Nat.reduceMul, Nat.reduceSub, Int.reduceLT, Int.reduceLE, Int.reduceAdd, Int.reduceSub, Int.reduceMul, Int.reduceToNat, sliceCells, cellsAt, srcA, app, reduceCtorEq, Int.reduceEq, Int.reduceNeg, Int.reducePow, Nat.reducePow, Int.reduceTDiv, Int.reduceDiv, Nat.reduceDiv, Nat.reduceMod, Int.reduceMod, Int.reduceTMod, ne_eq, subA, beq_iff_eq, unA, minA, maxA, eqFs, eqA1, beq_self_eq_true, Nat.reduceBEq, readA]
    · have hr : readsB b w = false := by simp [readsB, hm, hw]
      have hw' : ((0 : Int) = w) = False := eq_false hw
      rw [hr]
      simp (config := { maxSteps := 4000000 }) (disch := omega) only [step, stepv, ev, okW, wl, wn, wp, aop, cV, cV1, ↓reduceIte, Nat.reduceEqDiff, Nat.reduceAdd, Int.cast_ofNat_Int, if_true, if_false, AV.one, repCells, fillA, partCells, Nat.reduceLT, Nat.reduceLeDiff, Nat.reduceMul, Nat.reduceSub, Int.reduceLT, Int.reduceLE, Int.reduceAdd, Int.reduceSub, Int.reduceMul, Int.reduceToNat, sliceCells, cellsAt, srcA, app, reduceCtorEq, Int.reduceEq, Int.reduceNeg, Int.reducePow, Nat.reducePow, Int.reduceTDiv, Int.reduceDiv, Nat.reduceDiv, Nat.reduceMod, Int.reduceMod, Int.reduceTMod, ne_eq, subA, beq_iff_eq, unA, minA, maxA, eqFs, eqA1, beq_self_eq_true, Nat.reduceBEq, readA, hw']

theorem greatM_sz {form : List UInt8} {l : List Ck} (h : ¬ greatM form l) : form.length ≤ 20 ∧ okL l ∧ 12 + szL l ≤ 100100 := by
  obtain ⟨h1, h2, h3⟩ := Classical.not_not.1 h
  generalize szL l = s at *
  exact ⟨h1, h2, by omega⟩

theorem checkM_sz {form : List UInt8} {l : List Ck} (h : checkM form l = 0) : 12 + szL l ≤ 100000 ∧ l.length ≤ 20 := by
  unfold checkM at h
  split at h
  · cases h
  · split at h
    · cases h
    · rename_i h2
      generalize szL l = s at *
      exact ⟨by
        rcases Nat.lt_or_ge 100000 (12 + s) with h' | h'
        · exact absurd (.inr (.inl h')) h2
        · exact h', by omega⟩

theorem checkM_names {form : List UInt8} {l : List Ck} (h0 : checkM form l = 0) : nameB form = true ∧ ∀ c ∈ l, nameB c.1 = true := by
  unfold checkM at h0
  split at h0
  · cases h0
  · split at h0
    · cases h0
    · rename_i hn
      refine ⟨?_, fun c hc => ?_⟩
      · cases hb : nameB form with
        | true => rfl
        | false => exact absurd (.inl hb) hn
      · cases hb : nameB c.1 with
        | true => rfl
        | false => exact absurd (.inr (.inr (List.any_eq_true.2 ⟨c, hc, by simp [hb]⟩))) hn

def S_RiffBack (P : Prg) (f : Nat) : Prop := ∀ (form : List UInt8) (l : List Ck) (a x : Int), 0 ≤ x → x ≤ 255 → VC P f [.str form, .list l.length (ckL l), .int .i64 a, .int .u8 x] (.bool true)

set_option maxHeartbeats 1000000 in
theorem law31_RiffBack {P : Prg} {f fA fG fW fC fR fS fT t0 : Nat} (b : Body P f 99 [.tmp 8] (ac_cadenzalaw31_RiffBack fA fG fW fC fR fS fT t0)) (hA : S_alive P fA) (hG : S_Great31 P fG) (hW : S_Write P fW) (hC : S_Check P fC) (hR : S_Read P fR) (hS : S_Same P fS) (hT : S_reads P fT) : S_RiffBack P f := by
  intro form l a x hx0 hx1
  refine VC.of_acall (by simp [isDL, isD, isDL_ckL]) rfl (ACall.of_body b (by simp) ?_)
  simp (config := { maxSteps := 4000000 }) (disch := omega) only [step, stepv, ev, okW, wl, wn, wp, aop, cV, cV1, ↓reduceIte, Nat.reduceEqDiff, Nat.reduceAdd, Int.cast_ofNat_Int, if_true, if_false, AV.one, repCells, fillA, partCells, Nat.reduceLT, Nat.reduceLeDiff, Nat.reduceMul, Nat.reduceSub, Int.reduceLT, Int.reduceLE, Int.reduceAdd, Int.reduceSub, Int.reduceMul, Int.reduceToNat, sliceCells, cellsAt, srcA, app, reduceCtorEq, Int.reduceEq, Int.reduceNeg, Int.reducePow, Nat.reducePow, Int.reduceTDiv, Int.reduceDiv, Nat.reduceDiv, Nat.reduceMod, Int.reduceMod, Int.reduceTMod, ne_eq, subA, beq_iff_eq, unA, minA, maxA, eqFs, eqA1, beq_self_eq_true, Nat.reduceBEq, ac_cadenzalaw31_RiffBack]
  refine callQ.vc hA ?_
  simp (config := { maxSteps := 4000000 }) (disch := omega) only [step, stepv, ev, okW, wl, wn, wp, aop, cV, cV1, ↓reduceIte, Nat.reduceEqDiff, Nat.reduceAdd, Int.cast_ofNat_Int, if_true, if_false, AV.one, repCells, fillA, partCells, Nat.reduceLT, Nat.reduceLeDiff, Nat.reduceMul, Nat.reduceSub, Int.reduceLT, Int.reduceLE, Int.reduceAdd, Int.reduceSub, Int.reduceMul, Int.reduceToNat, sliceCells, cellsAt, srcA, app, reduceCtorEq, Int.reduceEq, Int.reduceNeg, Int.reducePow, Nat.reducePow, Int.reduceTDiv, Int.reduceDiv, Nat.reduceDiv, Nat.reduceMod, Int.reduceMod, Int.reduceTMod, ne_eq, subA, beq_iff_eq, unA, minA, maxA, eqFs, eqA1, beq_self_eq_true, Nat.reduceBEq]
  by_cases hg : greatM form l
  · refine callQ.vc (hG form l true (by simp [hg])) ?_
    simp (config := { maxSteps := 4000000 }) (disch := omega) only [step, stepv, ev, okW, wl, wn, wp, aop, cV, cV1, ↓reduceIte, Nat.reduceEqDiff, Nat.reduceAdd, Int.cast_ofNat_Int, if_true, if_false, AV.one, repCells, fillA, partCells, Nat.reduceLT, Nat.reduceLeDiff, Nat.reduceMul, Nat.reduceSub, Int.reduceLT, Int.reduceLE, Int.reduceAdd, Int.reduceSub, Int.reduceMul, Int.reduceToNat, sliceCells, cellsAt, srcA, app, reduceCtorEq, Int.reduceEq, Int.reduceNeg, Int.reducePow, Nat.reducePow, Int.reduceTDiv, Int.reduceDiv, Nat.reduceDiv, Nat.reduceMod, Int.reduceMod, Int.reduceTMod, ne_eq, subA, beq_iff_eq, unA, minA, maxA, eqFs, eqA1, beq_self_eq_true, Nat.reduceBEq]
  · refine callQ.vc (hG form l false (by simp [hg])) ?_
    obtain ⟨h1, h2, h3⟩ := greatM_sz hg
    simp (config := { maxSteps := 4000000 }) (disch := omega) only [step, stepv, ev, okW, wl, wn, wp, aop, cV, cV1, ↓reduceIte, Nat.reduceEqDiff, Nat.reduceAdd, Int.cast_ofNat_Int, if_true, if_false, AV.one, repCells, fillA, partCells, Nat.reduceLT, Nat.reduceLeDiff, Nat.reduceMul, Nat.reduceSub, Int.reduceLT, Int.reduceLE, Int.reduceAdd, Int.reduceSub, Int.reduceMul, Int.reduceToNat, sliceCells, cellsAt, srcA, app, reduceCtorEq, Int.reduceEq, Int.reduceNeg, Int.reducePow, Nat.reducePow, Int.reduceTDiv, Int.reduceDiv, Nat.reduceDiv, Nat.reduceMod, Int.reduceMod, Int.reduceTMod, ne_eq, subA, beq_iff_eq, unA, minA, maxA, eqFs, eqA1, beq_self_eq_true, Nat.reduceBEq]
    refine callQ.vc (hW form l h1 h2) ?_
    by_cases h0 : checkM form l = 0
    · obtain ⟨c1, c2⟩ := checkM_sz h0
      simp only [writeA, if_pos h0]
      have hr1 := readM_written h0 [] c1
      rw [List.append_nil, if_pos rfl] at hr1
      have hx : x = ((UInt8.ofNat x.toNat).toNat : Int) := by
        have : x.toNat % 256 = x.toNat := Nat.mod_eq_of_lt (by omega)
        simp [this]; omega
      have hr2 := readM_written h0 [UInt8.ofNat x.toNat] c1
      rw [if_neg (by simp)] at hr2
      have hcut : ∀ k, k < (bytesM form l).length → readM ((bytesM form l).take k) = .inl 24 := fun k hk => readM_cut h0 c1 hk
      have hns := (checkM_names h0)
      have hbl := bytesM_length (name4 hns.1) fun c hc => name4 (hns.2 c hc)
      generalize hb : bytesM form l = bt at *
      simp (config := { maxSteps := 4000000 }) (disch := omega) only [step, stepv, ev, okW, wl, wn, wp, aop, cV, cV1, ↓reduceIte, Nat.reduceEqDiff, Nat.reduceAdd, Int.cast_ofNat_Int, if_true, if_false, AV.one, repCells, fillA, partCells, Nat.reduceLT, Nat.reduceLeDiff, Nat.reduceMul, Nat.reduceSub, Int.reduceLT, Int.reduceLE, Int.reduceAdd, Int.reduceSub, Int.reduceMul, Int.reduceToNat, sliceCells, cellsAt, srcA, app, reduceCtorEq, Int.reduceEq, Int.reduceNeg, Int.reducePow, Nat.reducePow, Int.reduceTDiv, Int.reduceDiv, Nat.reduceDiv, Nat.reduceMod, Int.reduceMod, Int.reduceTMod, ne_eq, subA, beq_iff_eq, unA, minA, maxA, eqFs, eqA1, beq_self_eq_true, Nat.reduceBEq, bs]
      refine callQ.vc (hR bt (by omega)) ?_
      rw [hr1]
      simp (config := { maxSteps := 4000000 }) (disch := omega) only [step, stepv, ev, okW, wl, wn, wp, aop, cV, cV1, ↓reduceIte, Nat.reduceEqDiff, Nat.reduceAdd, Int.cast_ofNat_Int, if_true, if_false, AV.one, repCells, fillA, partCells, Nat.reduceLT, Nat.reduceLeDiff, Nat.reduceMul, Nat.reduceSub, Int.reduceLT, Int.reduceLE, Int.reduceAdd, Int.reduceSub, Int.reduceMul, Int.reduceToNat, sliceCells, cellsAt, srcA, app, reduceCtorEq, Int.reduceEq, Int.reduceNeg, Int.reducePow, Nat.reducePow, Int.reduceTDiv, Int.reduceDiv, Nat.reduceDiv, Nat.reduceMod, Int.reduceMod, Int.reduceTMod, ne_eq, subA, beq_iff_eq, unA, minA, maxA, eqFs, eqA1, beq_self_eq_true, Nat.reduceBEq, readA]
      refine callQ.still 1 [0] (hR (bt ++ [UInt8.ofNat x.toNat]) (by simp; omega)) ?_ ?_
      · have e1 : u8 bt ++ [AV.int .u8 x] = u8 (bt ++ [UInt8.ofNat x.toNat]) := by
          rw [← u8_append]; congr 1; rw [u8_cons, u8_nil, ← hx]
        rw [e1]
        simp [frzN, frzK, frzL, frzV, frzL_T _ (isT_u8 _), isDL, bs]
      · rw [hr2]
        simp (config := { maxSteps := 4000000 }) (disch := omega) only [step, stepv, ev, okW, wl, wn, wp, aop, cV, cV1, ↓reduceIte, Nat.reduceEqDiff, Nat.reduceAdd, Int.cast_ofNat_Int, if_true, if_false, AV.one, repCells, fillA, partCells, Nat.reduceLT, Nat.reduceLeDiff, Nat.reduceMul, Nat.reduceSub, Int.reduceLT, Int.reduceLE, Int.reduceAdd, Int.reduceSub, Int.reduceMul, Int.reduceToNat, sliceCells, cellsAt, srcA, app, reduceCtorEq, Int.reduceEq, Int.reduceNeg, Int.reducePow, Nat.reducePow, Int.reduceTDiv, Int.reduceDiv, Nat.reduceDiv, Nat.reduceMod, Int.reduceMod, Int.reduceTMod, ne_eq, subA, beq_iff_eq, unA, minA, maxA, eqFs, eqA1, beq_self_eq_true, Nat.reduceBEq, readA, strA, bs_eq]
        refine callQ.vc (hS l (by omega) (fun _ _ => trivial)) ?_
        by_cases ha0 : a < 0
        · simp (config := { maxSteps := 4000000 }) (disch := omega) only [step, stepv, ev, okW, wl, wn, wp, aop, cV, cV1, ↓reduceIte, Nat.reduceEqDiff, Nat.reduceAdd, Int.cast_ofNat_Int, if_true, if_false, AV.one, repCells, fillA, partCells, Nat.reduceLT, Nat.reduceLeDiff, Nat.reduceMul, Nat.reduceSub, Int.reduceLT, Int.reduceLE, Int.reduceAdd, Int.reduceSub, Int.reduceMul, Int.reduceToNat, sliceCells, cellsAt, srcA, app, reduceCtorEq, Int.reduceEq, Int.reduceNeg, Int.reducePow, Nat.reducePow, Int.reduceTDiv, Int.reduceDiv, Nat.reduceDiv, Nat.reduceMod, Int.reduceMod, Int.reduceTMod, ne_eq, subA, beq_iff_eq, unA, minA, maxA, eqFs, eqA1, beq_self_eq_true, Nat.reduceBEq]
        · by_cases ha1 : (bt.length : Int) ≤ a
          · simp (config := { maxSteps := 4000000 }) (disch := omega) only [step, stepv, ev, okW, wl, wn, wp, aop, cV, cV1, ↓reduceIte, Nat.reduceEqDiff, Nat.reduceAdd, Int.cast_ofNat_Int, if_true, if_false, AV.one, repCells, fillA, partCells, Nat.reduceLT, Nat.reduceLeDiff, Nat.reduceMul, Nat.reduceSub, Int.reduceLT, Int.reduceLE, Int.reduceAdd, Int.reduceSub, Int.reduceMul, Int.reduceToNat, sliceCells, cellsAt, srcA, app, reduceCtorEq, Int.reduceEq, Int.reduceNeg, Int.reducePow, Nat.reducePow, Int.reduceTDiv, Int.reduceDiv, Nat.reduceDiv, Nat.reduceMod, Int.reduceMod, Int.reduceTMod, ne_eq, subA, beq_iff_eq, unA, minA, maxA, eqFs, eqA1, beq_self_eq_true, Nat.reduceBEq, bs]
          · obtain ⟨j, rfl⟩ : ∃ j : Nat, a = j := ⟨a.toNat, by omega⟩
            have d1 := fun ob => sub_at (ob := ob) (l := bt) (a := 0) (b := j) 0 j j rfl rfl (by omega) (by omega)
            have d2 := len_at (l := bt) (i := 0) (n := j) (by omega)
            have d3 : (j = min j bt.length) = True := eq_true (by omega)
            simp only [List.drop_zero] at d1 d2
            simp (config := { maxSteps := 4000000 }) (disch := omega) only [step, stepv, ev, okW, wl, wn, wp, aop, cV, cV1, ↓reduceIte, Nat.reduceEqDiff, Nat.reduceAdd, Int.cast_ofNat_Int, if_true, if_false, AV.one, repCells, fillA, partCells, Nat.reduceLT, Nat.reduceLeDiff, Nat.reduceMul, Nat.reduceSub, Int.reduceLT, Int.reduceLE, Int.reduceAdd, Int.reduceSub, Int.reduceMul, Int.reduceToNat, sliceCells, cellsAt, srcA, app, reduceCtorEq, Int.reduceEq, Int.reduceNeg, Int.reducePow, Nat.reducePow, Int.reduceTDiv, Int.reduceDiv, Nat.reduceDiv, Nat.reduceMod, Int.reduceMod, Int.reduceTMod, ne_eq, subA, beq_iff_eq, unA, minA, maxA, eqFs, eqA1, beq_self_eq_true, Nat.reduceBEq, bs, d1, d2, d3, Nat.sub_zero, u8_take]
            refine callQ.vc (hT (bt.take j) 24 (by omega)) ?_
            have hr3 : readsB (bt.take j) 24 = true := by
              have h := hcut j (by omega)
              simp [readsB, h]
            rw [hr3]
            simp (config := { maxSteps := 4000000 }) (disch := omega) only [step, stepv, ev, okW, wl, wn, wp, aop, cV, cV1, ↓reduceIte, Nat.reduceEqDiff, Nat.reduceAdd, Int.cast_ofNat_Int, if_true, if_false, AV.one, repCells, fillA, partCells, Nat.reduceLT, Nat.reduceLeDiff, Nat.reduceMul, Nat.reduceSub, Int.reduceLT, Int.reduceLE, Int.reduceAdd, Int.reduceSub, Int.reduceMul, Int.reduceToNat, sliceCells, cellsAt, srcA, app, reduceCtorEq, Int.reduceEq, Int.reduceNeg, Int.reducePow, Nat.reducePow, Int.reduceTDiv, Int.reduceDiv, Nat.reduceDiv, Nat.reduceMod, Int.reduceMod, Int.reduceTMod, ne_eq, subA, beq_iff_eq, unA, minA, maxA, eqFs, eqA1, beq_self_eq_true, Nat.reduceBEq]
    · simp only [writeA, if_neg h0]
      simp (config := { maxSteps := 4000000 }) (disch := omega) only [step, stepv, ev, okW, wl, wn, wp, aop, cV, cV1, ↓reduceIte, Nat.reduceEqDiff, Nat.reduceAdd, Int.cast_ofNat_Int, if_true, if_false, AV.one, repCells, fillA, partCells, Nat.reduceLT, Nat.reduceLeDiff, Nat.reduceMul, Nat.reduceSub, Int.reduceLT, Int.reduceLE, Int.reduceAdd, Int.reduceSub, Int.reduceMul, Int.reduceToNat, sliceCells, cellsAt, srcA, app, reduceCtorEq, Int.reduceEq, Int.reduceNeg, Int.reducePow, Nat.reducePow, Int.reduceTDiv, Int.reduceDiv, Nat.reduceDiv, Nat.reduceMod, Int.reduceMod, Int.reduceTMod, ne_eq, subA, beq_iff_eq, unA, minA, maxA, eqFs, eqA1, beq_self_eq_true, Nat.reduceBEq, bs]
      refine callQ.vc (hC form l h1 h2) ?_
      simp (config := { maxSteps := 4000000 }) (disch := omega) only [step, stepv, ev, okW, wl, wn, wp, aop, cV, cV1, ↓reduceIte, Nat.reduceEqDiff, Nat.reduceAdd, Int.cast_ofNat_Int, if_true, if_false, AV.one, repCells, fillA, partCells, Nat.reduceLT, Nat.reduceLeDiff, Nat.reduceMul, Nat.reduceSub, Int.reduceLT, Int.reduceLE, Int.reduceAdd, Int.reduceSub, Int.reduceMul, Int.reduceToNat, sliceCells, cellsAt, srcA, app, reduceCtorEq, Int.reduceEq, Int.reduceNeg, Int.reducePow, Nat.reducePow, Int.reduceTDiv, Int.reduceDiv, Nat.reduceDiv, Nat.reduceMod, Int.reduceMod, Int.reduceTMod, ne_eq, subA, beq_iff_eq, unA, minA, maxA, eqFs, eqA1, beq_self_eq_true, Nat.reduceBEq]

end Go.Am

namespace Go.Am
open Go.RowKit

theorem goodL_ok {l : List Ck} (h : goodL l) (hn : l.length ≤ 20) (hs : 12 + szL l ≤ 100000) : okL l := by
  refine ⟨by omega, fun c hc => ?_⟩
  have h1 := name4 (h c hc).1
  have h2 := sz_mem hc
  simp only [szC] at h2
  generalize szL l = s at *
  exact ⟨by omega, by omega⟩

theorem leN4 {b : List UInt8} (h : 12 ≤ b.length) : leN ((b.drop 4).take 4) = (b[4]'(by omega)).toNat + (b[5]'(by omega)).toNat * 256 + (b[6]'(by omega)).toNat * 65536 + (b[7]'(by omega)).toNat * 16777216 := by
  have e : (b.drop 4).take 4 = [b[4]'(by omega), b[5]'(by omega), b[6]'(by omega), b[7]'(by omega)] := by
    rw [List.drop_eq_getElem_cons (by omega), List.drop_eq_getElem_cons (by omega), List.drop_eq_getElem_cons (by omega), List.drop_eq_getElem_cons (by omega)]
    rfl
  rw [e]
  simp only [leN]
  omega

theorem u8_at {l : List UInt8} {k : Nat} (h : k < l.length) : (u8 l).drop k = .int .u8 (l[k]).toNat :: u8 (l.drop (k + 1)) := by
  rw [u8_drop, List.drop_eq_getElem_cons h]; rfl

set_option maxHeartbeats 2000000 in
theorem law31_RiffAgain {P : Prg} {f fA fL fR fW : Nat} (bd : Body P f 110 [.tmp 2] (ac_cadenzalaw31_RiffAgain fA fL fR fW)) (hA : S_alive P fA) (hL : S_Long P fL) (hR : S_Read P fR) (hW : S_Write P fW) : S_True1 P f := by
  intro b
  refine VC.of_acall (by simp [isDL, isD_bs]) rfl (ACall.of_body bd (by simp) ?_)
  have e0 : (b == b) = true := by simp
  simp (config := { maxSteps := 4000000 }) (disch := omega) only [step, stepv, ev, okW, wl, wn, wp, aop, cV, cV1, ↓reduceIte, Nat.reduceEqDiff, Nat.reduceAdd, Int.cast_ofNat_Int, if_true, if_false, AV.one, repCells, fillA, partCells, Nat.reduceLT, Nat.reduceLeDiff, Nat.reduceMul, Nat.reduceSub, Int.reduceLT, Int.reduceLE, Int.reduceAdd, Int.reduceSub, Int.reduceMul, Int.reduceToNat, sliceCells, cellsAt, srcA, app, reduceCtorEq, Int.reduceEq, Int.reduceNeg, Int.reducePow, Nat.reducePow, Int.reduceTDiv, Int.reduceDiv, Nat.reduceDiv, Nat.reduceMod, Int.reduceMod, Int.reduceTMod, ne_eq, subA, beq_iff_eq, unA, minA, maxA, eqFs, eqA1, beq_self_eq_true, Nat.reduceBEq, ac_cadenzalaw31_RiffAgain]
  refine callQ.vc hA ?_
  simp (config := { maxSteps := 4000000 }) (disch := omega) only [step, stepv, ev, okW, wl, wn, wp, aop, cV, cV1, ↓reduceIte, Nat.reduceEqDiff, Nat.reduceAdd, Int.cast_ofNat_Int, if_true, if_false, AV.one, repCells, fillA, partCells, Nat.reduceLT, Nat.reduceLeDiff, Nat.reduceMul, Nat.reduceSub, Int.reduceLT, Int.reduceLE, Int.reduceAdd, Int.reduceSub, Int.reduceMul, Int.reduceToNat, sliceCells, cellsAt, srcA, app, reduceCtorEq, Int.reduceEq, Int.reduceNeg, Int.reducePow, Nat.reducePow, Int.reduceTDiv, Int.reduceDiv, Nat.reduceDiv, Nat.reduceMod, Int.reduceMod, Int.reduceTMod, ne_eq, subA, beq_iff_eq, unA, minA, maxA, eqFs, eqA1, beq_self_eq_true, Nat.reduceBEq]
  refine callQ.vc (hL b) ?_
  cases hlong : (decide (2000 < b.length) && decide (b.length < 99900) || decide (100100 < b.length)) with
  | true => simp (config := { maxSteps := 4000000 }) (disch := omega) only [step, stepv, ev, okW, wl, wn, wp, aop, cV, cV1, ↓reduceIte, Nat.reduceEqDiff, Nat.reduceAdd, Int.cast_ofNat_Int, if_true, if_false, AV.one, repCells, fillA, partCells, Nat.reduceLT, Nat.reduceLeDiff, Nat.reduceMul, Nat.reduceSub, Int.reduceLT, Int.reduceLE, Int.reduceAdd, Int.reduceSub, Int.reduceMul, Int.reduceToNat, sliceCells, cellsAt, srcA, app, reduceCtorEq, Int.reduceEq, Int.reduceNeg, Int.reducePow, Nat.reducePow, Int.reduceTDiv, Int.reduceDiv, Nat.reduceDiv, Nat.reduceMod, Int.reduceMod, Int.reduceTMod, ne_eq, subA, beq_iff_eq, unA, minA, maxA, eqFs, eqA1, beq_self_eq_true, Nat.reduceBEq]
  | false =>
    have hl : b.length < 140737488355328 := by simp at hlong; omega
    simp (config := { maxSteps := 4000000 }) (disch := omega) only [step, stepv, ev, okW, wl, wn, wp, aop, cV, cV1, ↓reduceIte, Nat.reduceEqDiff, Nat.reduceAdd, Int.cast_ofNat_Int, if_true, if_false, AV.one, repCells, fillA, partCells, Nat.reduceLT, Nat.reduceLeDiff, Nat.reduceMul, Nat.reduceSub, Int.reduceLT, Int.reduceLE, Int.reduceAdd, Int.reduceSub, Int.reduceMul, Int.reduceToNat, sliceCells, cellsAt, srcA, app, reduceCtorEq, Int.reduceEq, Int.reduceNeg, Int.reducePow, Nat.reducePow, Int.reduceTDiv, Int.reduceDiv, Nat.reduceDiv, Nat.reduceMod, Int.reduceMod, Int.reduceTMod, ne_eq, subA, beq_iff_eq, unA, minA, maxA, eqFs, eqA1, beq_self_eq_true, Nat.reduceBEq, bs]
    refine callQ.vc (hR b hl) ?_
    cases hm : readM b with
    | inl e =>
      have hp := readM_pos hm
      have hp' : ((e : Int) = 0) = False := eq_false (by omega)
      simp (config := { maxSteps := 4000000 }) (disch := omega) only [step, stepv, ev, okW, wl, wn, wp, aop, cV, cV1, ↓reduceIte, Nat.reduceEqDiff, Nat.reduceAdd, Int.cast_ofNat_Int, if_true, if_false, AV.one, repCells, fillA, partCells, Nat.reduceLT, Nat.reduceLeDiff, Nat.reduceMul, Nat.reduceSub, Int.reduceLT, Int.reduceLE, Int.reduceAdd, Int.reduceSub, Int.reduceMul, Int.reduceToNat, sliceCells, cellsAt, srcA, app, reduceCtorEq, Int.reduceEq, Int.reduceNeg, Int.reducePow, Nat.reducePow, Int.reduceTDiv, Int.reduceDiv, Nat.reduceDiv, Nat.reduceMod, Int.reduceMod, Int.reduceTMod, ne_eq, subA, beq_iff_eq, unA, minA, maxA, eqFs, eqA1, beq_self_eq_true, Nat.reduceBEq, readA, hp']
    | inr p =>
      obtain ⟨form, l⟩ := p
      obtain ⟨h1, h2, h3, h4, h5, h6, h7, h8, h9⟩ := readM_back hm
      have hok := goodL_ok h4 h3 (by rw [h5]; exact h6)
      simp (config := { maxSteps := 4000000 }) (disch := omega) only [step, stepv, ev, okW, wl, wn, wp, aop, cV, cV1, ↓reduceIte, Nat.reduceEqDiff, Nat.reduceAdd, Int.cast_ofNat_Int, if_true, if_false, AV.one, repCells, fillA, partCells, Nat.reduceLT, Nat.reduceLeDiff, Nat.reduceMul, Nat.reduceSub, Int.reduceLT, Int.reduceLE, Int.reduceAdd, Int.reduceSub, Int.reduceMul, Int.reduceToNat, sliceCells, cellsAt, srcA, app, reduceCtorEq, Int.reduceEq, Int.reduceNeg, Int.reducePow, Nat.reducePow, Int.reduceTDiv, Int.reduceDiv, Nat.reduceDiv, Nat.reduceMod, Int.reduceMod, Int.reduceTMod, ne_eq, subA, beq_iff_eq, unA, minA, maxA, eqFs, eqA1, beq_self_eq_true, Nat.reduceBEq, readA]
      refine callQ.vc (by have := hW form l (by omega) hok; simp only [writeA, if_pos h2, h1] at this; exact this) ?_
      simp (config := { maxSteps := 4000000 }) (disch := omega) only [step, stepv, ev, okW, wl, wn, wp, aop, cV, cV1, ↓reduceIte, Nat.reduceEqDiff, Nat.reduceAdd, Int.cast_ofNat_Int, if_true, if_false, AV.one, repCells, fillA, partCells, Nat.reduceLT, Nat.reduceLeDiff, Nat.reduceMul, Nat.reduceSub, Int.reduceLT, Int.reduceLE, Int.reduceAdd, Int.reduceSub, Int.reduceMul, Int.reduceToNat, sliceCells, cellsAt, srcA, app, reduceCtorEq, Int.reduceEq, Int.reduceNeg, Int.reducePow, Nat.reducePow, Int.reduceTDiv, Int.reduceDiv, Nat.reduceDiv, Nat.reduceMod, Int.reduceMod, Int.reduceTMod, ne_eq, subA, beq_iff_eq, unA, minA, maxA, eqFs, eqA1, beq_self_eq_true, Nat.reduceBEq, bs, strA, e0]
      refine ALoop.by (ι := Nat) (fun k => ⟨[(10, .int .i64 k), (9, .int .i64 ((4 + szL (l.take k) : Nat) : Int)), (5, .list l.length (ckL l)), (3, .bool true), (0, .list b.length (u8 b))], []⟩) (fun k => k ≤ l.length) (fun k => l.length - k) 0 (Le.slots (by simp [Am.look, szL])) (by omega) ?_
      intro k hk
      have hs := szL_le hok k hk
      by_cases hlt : k < l.length
      · obtain ⟨o1, o2⟩ := okL_at hok hlt
        have e1 := ckL_drop hlt
        have e2 := ckL_length l
        have e4 := szL_take hlt
        simp only [szC] at e4
        simp (config := { maxSteps := 4000000 }) (disch := omega) only [step, stepv, ev, okW, wl, wn, wp, aop, cV, cV1, ↓reduceIte, Nat.reduceEqDiff, Nat.reduceAdd, Int.cast_ofNat_Int, if_true, if_false, AV.one, repCells, fillA, partCells, Nat.reduceLT, Nat.reduceLeDiff, Nat.reduceMul, Nat.reduceSub, Int.reduceLT, Int.reduceLE, Int.reduceAdd, Int.reduceSub, Int.reduceMul, Int.reduceToNat, sliceCells, cellsAt, srcA, app, reduceCtorEq, Int.reduceEq, Int.reduceNeg, Int.reducePow, Nat.reducePow, Int.reduceTDiv, Int.reduceDiv, Nat.reduceDiv, Nat.reduceMod, Int.reduceMod, Int.reduceTMod, ne_eq, subA, beq_iff_eq, unA, minA, maxA, eqFs, eqA1, beq_self_eq_true, Nat.reduceBEq, e1, e2, bs]
        exact ⟨k + 1, by omega, by omega, Le.slots (by simp [Am.look]; omega)⟩
      · have ek : k = l.length := by omega
        subst ek
        have hn := leN4 h8
        have l4 := (b[4]'(by omega)).toNat_lt
        have l5 := (b[5]'(by omega)).toNat_lt
        have l6 := (b[6]'(by omega)).toNat_lt
        have l7 := (b[7]'(by omega)).toNat_lt
        have d4 := u8_at (l := b) (k := 4) (by omega)
        have d5 := u8_at (l := b) (k := 5) (by omega)
        have d6 := u8_at (l := b) (k := 6) (by omega)
        have d7 := u8_at (l := b) (k := 7) (by omega)
        have dl := u8_length b
        rw [List.take_length, show 4 + szL l = b.length - 8 by omega]
        simp (config := { maxSteps := 4000000 }) (disch := omega) only [step, stepv, ev, okW, wl, wn, wp, aop, cV, cV1, ↓reduceIte, Nat.reduceEqDiff, Nat.reduceAdd, Int.cast_ofNat_Int, if_true, if_false, AV.one, repCells, fillA, partCells, Nat.reduceLT, Nat.reduceLeDiff, Nat.reduceMul, Nat.reduceSub, Int.reduceLT, Int.reduceLE, Int.reduceAdd, Int.reduceSub, Int.reduceMul, Int.reduceToNat, sliceCells, cellsAt, srcA, app, reduceCtorEq, Int.reduceEq, Int.reduceNeg, Int.reducePow, Nat.reducePow, Int.reduceTDiv, Int.reduceDiv, Nat.reduceDiv, Nat.reduceMod, Int.reduceMod, Int.reduceTMod, ne_eq, subA, beq_iff_eq, unA, minA, maxA, eqFs, eqA1, beq_self_eq_true, Nat.reduceBEq, d4, d5, d6, d7, dl]
        skip

theorem findM_cons {l : List Ck} {c : Ck} {id : List UInt8} : findM (c :: l) id = if c.1 == id then some 0 else (findM l id).map (· + 1) := by
  simp only [findM, List.findIdx?_cons]

theorem findM_some {l : List Ck} {id : List UInt8} {i : Nat} (h : findM l id = some i) : ∃ hi : i < l.length, (l[i].1 = id) ∧ ∀ j (hj : j < i), ¬ (l[j]'(by omega)).1 = id := by
  obtain ⟨h1, h2, h3⟩ := List.findIdx?_eq_some_iff_getElem.1 h
  refine ⟨h1, by simpa using h2, fun j hj => ?_⟩
  have := h3 j hj
  simpa using this

theorem findM_none {l : List Ck} {id : List UInt8} (h : findM l id = none) {j : Nat} (hj : j < l.length) : ¬ (l[j]).1 = id := by
  have := List.findIdx?_eq_none_iff.1 h (l[j]) (List.getElem_mem hj)
  simpa using this

theorem flat_find (r : Option Nat) : flatR (findA r) = true := by cases r <;> rfl

def S_RiffFind (P : Prg) (f : Nat) : Prop := ∀ (l : List Ck) (id other : List UInt8), VC P f [.list l.length (ckL l), .str id, .str other] (.bool true)

set_option maxHeartbeats 2000000 in
theorem law31_RiffFind {P : Prg} {f fA fF t0 : Nat} (bd : Body P f 119 [.tmp 6] (ac_cadenzalaw31_RiffFind fA fF t0)) (hA : S_alive P fA) (hF : S_Find P fF) : S_RiffFind P f := by
  intro l id other
  refine VC.of_acall (by simp [isDL, isD, isDL_ckL]) rfl (ACall.of_body bd (by simp) ?_)
  simp (config := { maxSteps := 4000000 }) (disch := omega) only [step, stepv, ev, okW, wl, wn, wp, aop, cV, cV1, ↓reduceIte, Nat.reduceEqDiff, Nat.reduceAdd, Int.cast_ofNat_Int, if_true, if_false, AV.one, repCells, fillA, partCells, Nat.reduceLT, Nat.reduceLeDiff, Nat.reduceMul, Nat.reduceSub, Int.reduceLT, Int.reduceLE, Int.reduceAdd, Int.reduceSub, Int.reduceMul, Int.reduceToNat, sliceCells, cellsAt, srcA, app, reduceCtorEq, Int.reduceEq, Int.reduceNeg, Int.reducePow, Nat.reducePow, Int.reduceTDiv, Int.reduceDiv, Nat.reduceDiv, Nat.reduceMod, Int.reduceMod, Int.reduceTMod, ne_eq, subA, beq_iff_eq, unA, minA, maxA, eqFs, eqA1, beq_self_eq_true, Nat.reduceBEq, ac_cadenzalaw31_RiffFind]
  refine callQ.vc hA ?_
  simp (config := { maxSteps := 4000000 }) (disch := omega) only [step, stepv, ev, okW, wl, wn, wp, aop, cV, cV1, ↓reduceIte, Nat.reduceEqDiff, Nat.reduceAdd, Int.cast_ofNat_Int, if_true, if_false, AV.one, repCells, fillA, partCells, Nat.reduceLT, Nat.reduceLeDiff, Nat.reduceMul, Nat.reduceSub, Int.reduceLT, Int.reduceLE, Int.reduceAdd, Int.reduceSub, Int.reduceMul, Int.reduceToNat, sliceCells, cellsAt, srcA, app, reduceCtorEq, Int.reduceEq, Int.reduceNeg, Int.reducePow, Nat.reducePow, Int.reduceTDiv, Int.reduceDiv, Nat.reduceDiv, Nat.reduceMod, Int.reduceMod, Int.reduceTMod, ne_eq, subA, beq_iff_eq, unA, minA, maxA, eqFs, eqA1, beq_self_eq_true, Nat.reduceBEq]
  by_cases h25 : 25 < l.length
  · simp (config := { maxSteps := 4000000 }) (disch := omega) only [step, stepv, ev, okW, wl, wn, wp, aop, cV, cV1, ↓reduceIte, Nat.reduceEqDiff, Nat.reduceAdd, Int.cast_ofNat_Int, if_true, if_false, AV.one, repCells, fillA, partCells, Nat.reduceLT, Nat.reduceLeDiff, Nat.reduceMul, Nat.reduceSub, Int.reduceLT, Int.reduceLE, Int.reduceAdd, Int.reduceSub, Int.reduceMul, Int.reduceToNat, sliceCells, cellsAt, srcA, app, reduceCtorEq, Int.reduceEq, Int.reduceNeg, Int.reducePow, Nat.reducePow, Int.reduceTDiv, Int.reduceDiv, Nat.reduceDiv, Nat.reduceMod, Int.reduceMod, Int.reduceTMod, ne_eq, subA, beq_iff_eq, unA, minA, maxA, eqFs, eqA1, beq_self_eq_true, Nat.reduceBEq]
  by_cases h1 : 100 < id.length
  · simp (config := { maxSteps := 4000000 }) (disch := omega) only [step, stepv, ev, okW, wl, wn, wp, aop, cV, cV1, ↓reduceIte, Nat.reduceEqDiff, Nat.reduceAdd, Int.cast_ofNat_Int, if_true, if_false, AV.one, repCells, fillA, partCells, Nat.reduceLT, Nat.reduceLeDiff, Nat.reduceMul, Nat.reduceSub, Int.reduceLT, Int.reduceLE, Int.reduceAdd, Int.reduceSub, Int.reduceMul, Int.reduceToNat, sliceCells, cellsAt, srcA, app, reduceCtorEq, Int.reduceEq, Int.reduceNeg, Int.reducePow, Nat.reducePow, Int.reduceTDiv, Int.reduceDiv, Nat.reduceDiv, Nat.reduceMod, Int.reduceMod, Int.reduceTMod, ne_eq, subA, beq_iff_eq, unA, minA, maxA, eqFs, eqA1, beq_self_eq_true, Nat.reduceBEq]
  by_cases h2 : 100 < other.length
  · simp (config := { maxSteps := 4000000 }) (disch := omega) only [step, stepv, ev, okW, wl, wn, wp, aop, cV, cV1, ↓reduceIte, Nat.reduceEqDiff, Nat.reduceAdd, Int.cast_ofNat_Int, if_true, if_false, AV.one, repCells, fillA, partCells, Nat.reduceLT, Nat.reduceLeDiff, Nat.reduceMul, Nat.reduceSub, Int.reduceLT, Int.reduceLE, Int.reduceAdd, Int.reduceSub, Int.reduceMul, Int.reduceToNat, sliceCells, cellsAt, srcA, app, reduceCtorEq, Int.reduceEq, Int.reduceNeg, Int.reducePow, Nat.reducePow, Int.reduceTDiv, Int.reduceDiv, Nat.reduceDiv, Nat.reduceMod, Int.reduceMod, Int.reduceTMod, ne_eq, subA, beq_iff_eq, unA, minA, maxA, eqFs, eqA1, beq_self_eq_true, Nat.reduceBEq]
  simp (config := { maxSteps := 4000000 }) (disch := omega) only [step, stepv, ev, okW, wl, wn, wp, aop, cV, cV1, ↓reduceIte, Nat.reduceEqDiff, Nat.reduceAdd, Int.cast_ofNat_Int, if_true, if_false, AV.one, repCells, fillA, partCells, Nat.reduceLT, Nat.reduceLeDiff, Nat.reduceMul, Nat.reduceSub, Int.reduceLT, Int.reduceLE, Int.reduceAdd, Int.reduceSub, Int.reduceMul, Int.reduceToNat, sliceCells, cellsAt, srcA, app, reduceCtorEq, Int.reduceEq, Int.reduceNeg, Int.reducePow, Nat.reducePow, Int.reduceTDiv, Int.reduceDiv, Nat.reduceDiv, Nat.reduceMod, Int.reduceMod, Int.reduceTMod, ne_eq, subA, beq_iff_eq, unA, minA, maxA, eqFs, eqA1, beq_self_eq_true, Nat.reduceBEq]
  refine callQ.vc (hF l id (by omega)) ?_
  have e2 := ckL_length l
  cases hf : findM l id with
  | none =>
    simp (config := { maxSteps := 4000000 }) (disch := omega) only [step, stepv, ev, okW, wl, wn, wp, aop, cV, cV1, ↓reduceIte, Nat.reduceEqDiff, Nat.reduceAdd, Int.cast_ofNat_Int, if_true, if_false, AV.one, repCells, fillA, partCells, Nat.reduceLT, Nat.reduceLeDiff, Nat.reduceMul, Nat.reduceSub, Int.reduceLT, Int.reduceLE, Int.reduceAdd, Int.reduceSub, Int.reduceMul, Int.reduceToNat, sliceCells, cellsAt, srcA, app, reduceCtorEq, Int.reduceEq, Int.reduceNeg, Int.reducePow, Nat.reducePow, Int.reduceTDiv, Int.reduceDiv, Nat.reduceDiv, Nat.reduceMod, Int.reduceMod, Int.reduceTMod, ne_eq, subA, beq_iff_eq, unA, minA, maxA, eqFs, eqA1, beq_self_eq_true, Nat.reduceBEq, findA]
    refine ALoop.by (ι := Nat) (fun k => ⟨[(10, .int .i64 k), (9, .int .i64 6), (8, .int .i64 0), (7, .bool true), (0, .list l.length (ckL l)), (1, .str id), (2, .str other)], []⟩) (fun k => k ≤ l.length) (fun k => l.length - k) 0 (Le.slots (by simp [Am.look])) (by omega) ?_
    intro k hk
    by_cases hlt : k < l.length
    · have e1 := ckL_drop hlt
      have e3 : ((l[k]).1 == id) = false := by simpa using findM_none hf hlt
      simp (config := { maxSteps := 4000000 }) (disch := omega) only [step, stepv, ev, okW, wl, wn, wp, aop, cV, cV1, ↓reduceIte, Nat.reduceEqDiff, Nat.reduceAdd, Int.cast_ofNat_Int, if_true, if_false, AV.one, repCells, fillA, partCells, Nat.reduceLT, Nat.reduceLeDiff, Nat.reduceMul, Nat.reduceSub, Int.reduceLT, Int.reduceLE, Int.reduceAdd, Int.reduceSub, Int.reduceMul, Int.reduceToNat, sliceCells, cellsAt, srcA, app, reduceCtorEq, Int.reduceEq, Int.reduceNeg, Int.reducePow, Nat.reducePow, Int.reduceTDiv, Int.reduceDiv, Nat.reduceDiv, Nat.reduceMod, Int.reduceMod, Int.reduceTMod, ne_eq, subA, beq_iff_eq, unA, minA, maxA, eqFs, eqA1, beq_self_eq_true, Nat.reduceBEq, e1, e2, strA, e3]
      exact ⟨k + 1, by omega, by omega, Le.slots (by simp [Am.look])⟩
    · have ek : k = l.length := by omega
      subst ek
      simp (config := { maxSteps := 4000000 }) (disch := omega) only [step, stepv, ev, okW, wl, wn, wp, aop, cV, cV1, ↓reduceIte, Nat.reduceEqDiff, Nat.reduceAdd, Int.cast_ofNat_Int, if_true, if_false, AV.one, repCells, fillA, partCells, Nat.reduceLT, Nat.reduceLeDiff, Nat.reduceMul, Nat.reduceSub, Int.reduceLT, Int.reduceLE, Int.reduceAdd, Int.reduceSub, Int.reduceMul, Int.reduceToNat, sliceCells, cellsAt, srcA, app, reduceCtorEq, Int.reduceEq, Int.reduceNeg, Int.reducePow, Nat.reducePow, Int.reduceTDiv, Int.reduceDiv, Nat.reduceDiv, Nat.reduceMod, Int.reduceMod, Int.reduceTMod, ne_eq, subA, beq_iff_eq, unA, minA, maxA, eqFs, eqA1, beq_self_eq_true, Nat.reduceBEq, e2]
      refine callQ.flat 1 (hF ((other, []) :: l) id (by simp; omega)) (flat_find _) ?_ ?_
      · simp [frzN, frzK, frzL, frzV, frzL_T _ (isT_ckL l), isDL, isD, ckL, bs, u8, Nat.add_comm]
      · rw [findM_cons, hf]
        by_cases ho : other = id
        · have e3 : (other == id) = true := by simp [ho]
          rw [if_pos e3]
          simp (config := { maxSteps := 4000000 }) (disch := omega) only [step, stepv, ev, okW, wl, wn, wp, aop, cV, cV1, ↓reduceIte, Nat.reduceEqDiff, Nat.reduceAdd, Int.cast_ofNat_Int, if_true, if_false, AV.one, repCells, fillA, partCells, Nat.reduceLT, Nat.reduceLeDiff, Nat.reduceMul, Nat.reduceSub, Int.reduceLT, Int.reduceLE, Int.reduceAdd, Int.reduceSub, Int.reduceMul, Int.reduceToNat, sliceCells, cellsAt, srcA, app, reduceCtorEq, Int.reduceEq, Int.reduceNeg, Int.reducePow, Nat.reducePow, Int.reduceTDiv, Int.reduceDiv, Nat.reduceDiv, Nat.reduceMod, Int.reduceMod, Int.reduceTMod, ne_eq, subA, beq_iff_eq, unA, minA, maxA, eqFs, eqA1, beq_self_eq_true, Nat.reduceBEq, findA, strA, e3]
        · have e3 : (other == id) = false := by simp [ho]
          rw [if_neg (by simp [ho])]
          simp (config := { maxSteps := 4000000 }) (disch := omega) only [step, stepv, ev, okW, wl, wn, wp, aop, cV, cV1, ↓reduceIte, Nat.reduceEqDiff, Nat.reduceAdd, Int.cast_ofNat_Int, if_true, if_false, AV.one, repCells, fillA, partCells, Nat.reduceLT, Nat.reduceLeDiff, Nat.reduceMul, Nat.reduceSub, Int.reduceLT, Int.reduceLE, Int.reduceAdd, Int.reduceSub, Int.reduceMul, Int.reduceToNat, sliceCells, cellsAt, srcA, app, reduceCtorEq, Int.reduceEq, Int.reduceNeg, Int.reducePow, Nat.reducePow, Int.reduceTDiv, Int.reduceDiv, Nat.reduceDiv, Nat.reduceMod, Int.reduceMod, Int.reduceTMod, ne_eq, subA, beq_iff_eq, unA, minA, maxA, eqFs, eqA1, beq_self_eq_true, Nat.reduceBEq, findA, strA, e3, Option.map_none]
  | some i =>
    obtain ⟨hi, hi1, hi2⟩ := findM_some hf
    have e1 := ckL_drop hi
    have e3 : (!(l[i]).1 == id) = false := by simp [hi1]
    simp (config := { maxSteps := 4000000 }) (disch := omega) only [step, stepv, ev, okW, wl, wn, wp, aop, cV, cV1, ↓reduceIte, Nat.reduceEqDiff, Nat.reduceAdd, Int.cast_ofNat_Int, if_true, if_false, AV.one, repCells, fillA, partCells, Nat.reduceLT, Nat.reduceLeDiff, Nat.reduceMul, Nat.reduceSub, Int.reduceLT, Int.reduceLE, Int.reduceAdd, Int.reduceSub, Int.reduceMul, Int.reduceToNat, sliceCells, cellsAt, srcA, app, reduceCtorEq, Int.reduceEq, Int.reduceNeg, Int.reducePow, Nat.reducePow, Int.reduceTDiv, Int.reduceDiv, Nat.reduceDiv, Nat.reduceMod, Int.reduceMod, Int.reduceTMod, ne_eq, subA, beq_iff_eq, unA, minA, maxA, eqFs, eqA1, beq_self_eq_true, Nat.reduceBEq, findA, e1, e2, e3, strA]
    refine ALoop.by (ι := Nat) (fun k => ⟨[(10, .int .i64 k), (9, .int .i64 0), (8, .int .i64 i), (7, .bool true), (0, .list l.length (ckL l)), (1, .str id), (2, .str other)], []⟩) (fun k => k ≤ l.length) (fun k => l.length - k) 0 (Le.slots (by simp [Am.look])) (by omega) ?_
    intro k hk
    by_cases hlt : k < l.length
    · have e1 := ckL_drop hlt
      by_cases hc : (l[k]).1 = id
      · have e3 : ((l[k]).1 == id) = true := by simp [hc]
        have hki : i ≤ k := by
          rcases Nat.lt_or_ge k i with h' | h'
          · exact absurd hc (hi2 k h')
          · exact h'
        simp (config := { maxSteps := 4000000 }) (disch := omega) only [step, stepv, ev, okW, wl, wn, wp, aop, cV, cV1, ↓reduceIte, Nat.reduceEqDiff, Nat.reduceAdd, Int.cast_ofNat_Int, if_true, if_false, AV.one, repCells, fillA, partCells, Nat.reduceLT, Nat.reduceLeDiff, Nat.reduceMul, Nat.reduceSub, Int.reduceLT, Int.reduceLE, Int.reduceAdd, Int.reduceSub, Int.reduceMul, Int.reduceToNat, sliceCells, cellsAt, srcA, app, reduceCtorEq, Int.reduceEq, Int.reduceNeg, Int.reducePow, Nat.reducePow, Int.reduceTDiv, Int.reduceDiv, Nat.reduceDiv, Nat.reduceMod, Int.reduceMod, Int.reduceTMod, ne_eq, subA, beq_iff_eq, unA, minA, maxA, eqFs, eqA1, beq_self_eq_true, Nat.reduceBEq, e1, e2, strA, e3]
        exact ⟨k + 1, by omega, by omega, Le.slots (by simp [Am.look])⟩
      · have e3 : ((l[k]).1 == id) = false := by simp [hc]
        simp (config := { maxSteps := 4000000 }) (disch := omega) only [step, stepv, ev, okW, wl, wn, wp, aop, cV, cV1, ↓reduceIte, Nat.reduceEqDiff, Nat.reduceAdd, Int.cast_ofNat_Int, if_true, if_false, AV.one, repCells, fillA, partCells, Nat.reduceLT, Nat.reduceLeDiff, Nat.reduceMul, Nat.reduceSub, Int.reduceLT, Int.reduceLE, Int.reduceAdd, Int.reduceSub, Int.reduceMul, Int.reduceToNat, sliceCells, cellsAt, srcA, app, reduceCtorEq, Int.reduceEq, Int.reduceNeg, Int.reducePow, Nat.reducePow, Int.reduceTDiv, Int.reduceDiv, Nat.reduceDiv, Nat.reduceMod, Int.reduceMod, Int.reduceTMod, ne_eq, subA, beq_iff_eq, unA, minA, maxA, eqFs, eqA1, beq_self_eq_true, Nat.reduceBEq, e1, e2, strA, e3]
        exact ⟨k + 1, by omega, by omega, Le.slots (by simp [Am.look])⟩
    · have ek : k = l.length := by omega
      subst ek
      simp (config := { maxSteps := 4000000 }) (disch := omega) only [step, stepv, ev, okW, wl, wn, wp, aop, cV, cV1, ↓reduceIte, Nat.reduceEqDiff, Nat.reduceAdd, Int.cast_ofNat_Int, if_true, if_false, AV.one, repCells, fillA, partCells, Nat.reduceLT, Nat.reduceLeDiff, Nat.reduceMul, Nat.reduceSub, Int.reduceLT, Int.reduceLE, Int.reduceAdd, Int.reduceSub, Int.reduceMul, Int.reduceToNat, sliceCells, cellsAt, srcA, app, reduceCtorEq, Int.reduceEq, Int.reduceNeg, Int.reducePow, Nat.reducePow, Int.reduceTDiv, Int.reduceDiv, Nat.reduceDiv, Nat.reduceMod, Int.reduceMod, Int.reduceTMod, ne_eq, subA, beq_iff_eq, unA, minA, maxA, eqFs, eqA1, beq_self_eq_true, Nat.reduceBEq, e2]
      refine callQ.flat 1 (hF ((other, []) :: l) id (by simp; omega)) (flat_find _) ?_ ?_
      · simp [frzN, frzK, frzL, frzV, frzL_T _ (isT_ckL l), isDL, isD, ckL, bs, u8, Nat.add_comm]
      · rw [findM_cons, hf]
        by_cases ho : other = id
        · have e3 : (other == id) = true := by simp [ho]
          rw [if_pos e3]
          simp (config := { maxSteps := 4000000 }) (disch := omega) only [step, stepv, ev, okW, wl, wn, wp, aop, cV, cV1, ↓reduceIte, Nat.reduceEqDiff, Nat.reduceAdd, Int.cast_ofNat_Int, if_true, if_false, AV.one, repCells, fillA, partCells, Nat.reduceLT, Nat.reduceLeDiff, Nat.reduceMul, Nat.reduceSub, Int.reduceLT, Int.reduceLE, Int.reduceAdd, Int.reduceSub, Int.reduceMul, Int.reduceToNat, sliceCells, cellsAt, srcA, app, reduceCtorEq, Int.reduceEq, Int.reduceNeg, Int.reducePow, Nat.reducePow, Int.reduceTDiv, Int.reduceDiv, Nat.reduceDiv, Nat.reduceMod, Int.reduceMod, Int.reduceTMod, ne_eq, subA, beq_iff_eq, unA, minA, maxA, eqFs, eqA1, beq_self_eq_true, Nat.reduceBEq, findA, strA, e3]
        · have e3 : (other == id) = false := by simp [ho]
          rw [if_neg (by simp [ho])]
          simp (config := { maxSteps := 4000000 }) (disch := omega) only [step, stepv, ev, okW, wl, wn, wp, aop, cV, cV1, ↓reduceIte, Nat.reduceEqDiff, Nat.reduceAdd, Int.cast_ofNat_Int, if_true, if_false, AV.one, repCells, fillA, partCells, Nat.reduceLT, Nat.reduceLeDiff, Nat.reduceMul, Nat.reduceSub, Int.reduceLT, Int.reduceLE, Int.reduceAdd, Int.reduceSub, Int.reduceMul, Int.reduceToNat, sliceCells, cellsAt, srcA, app, reduceCtorEq, Int.reduceEq, Int.reduceNeg, Int.reducePow, Nat.reducePow, Int.reduceTDiv, Int.reduceDiv, Nat.reduceDiv, Nat.reduceMod, Int.reduceMod, Int.reduceTMod, ne_eq, subA, beq_iff_eq, unA, minA, maxA, eqFs, eqA1, beq_self_eq_true, Nat.reduceBEq, findA, strA, e3, Option.map_some]

end Go.Am

namespace Go.Am
open Go.RowKit

def manyL (k : Nat) : List Ck := List.replicate k ([97, 98, 99, 100], [])
theorem manyL_succ (k : Nat) : ckL (manyL k) ++ [.str [97, 98, 99, 100], .list 0 []] = ckL (manyL (k + 1)) := by
  rw [manyL, manyL, List.replicate_succ', ← ckL_append]; rfl

def longL (s : List UInt8) (N : Nat) : List Ck := [(s, List.replicate N 0)]
theorem rep_zero : ∀ N, repCells [.int .u8 0] N = u8 (List.replicate N 0)
  | 0 => rfl
  | N + 1 => by rw [repCells, rep_zero N]; rfl
theorem ckL_long {s : List UInt8} {N : Nat} : ckL (longL s N) = [.str s, .list N (u8 (List.replicate N 0))] := by simp [longL, ckL, bs]
theorem okL_long {s : List UInt8} {N : Nat} (h1 : s.length ≤ 20) (h2 : N ≤ 100200) : okL (longL s N) := ⟨by simp [longL], fun c hc => by simp [longL] at hc; subst hc; simp; omega⟩
theorem szL_long {s : List UInt8} {N : Nat} : szL (longL s N) = 8 + N + N % 2 := by simp [longL, szL, szC]
theorem check_full {N : Nat} (h : N ≤ 99980) : checkM waveW (longL [102, 117, 108, 108] N) = 0 := by
  unfold checkM
  rw [szL_long, if_neg (by simp [longL]), if_neg]
  rintro (h' | h' | h')
  · revert h'; decide
  · omega
  · revert h'; simp [longL]; decide
theorem check_over {N : Nat} (h : 99980 < N) (h2 : N ≤ 100200) : checkM waveW (longL [111, 118, 101, 114] N) = 8 := by
  unfold checkM
  rw [szL_long, if_neg (by simp [longL]), if_pos (.inr (.inl (by omega)))]

def S_readsT (P : Prg) (f : Nat) : Prop := ∀ (b : List UInt8) (w : Int), b.length < 140737488355328 → readsB b w = true → VC P f [.str b, .int .i64 w] (.bool true)
theorem S_readsT.of {P : Prg} {f : Nat} (h : S_reads P f) : S_readsT P f := fun b w h1 h2 => by have := h b w h1; rwa [h2] at this

def S_RiffNames (P : Prg) (f : Nat) : Prop := VC P f [] (.bool true)

set_option maxRecDepth 20000 in
set_option maxHeartbeats 4000000 in
theorem law31_RiffNames {P : Prg} {f fC fW fT fF fA t0 t1 : Nat} (bd : Body P f 227 [.tmp 0] (ac_cadenzalaw31_RiffNames fC fW fT fF fA t0 t1)) (hC : S_Check P fC) (hW : S_Write P fW) (hT : S_reads P fT) (hF : S_Find P fF) (hA : S_alive P fA) : S_RiffNames P f := by
  have hT := S_readsT.of hT
  refine VC.of_acall (by simp [isDL, isD]) rfl (ACall.of_body bd (by simp) ?_)
  simp (config := { maxSteps := 4000000 }) (disch := omega) only [step, stepv, ev, okW, wl, wn, wp, aop, cV, cV1, ↓reduceIte, Nat.reduceEqDiff, Nat.reduceAdd, Int.cast_ofNat_Int, if_true, if_false, AV.one, repCells, fillA, partCells, Nat.reduceLT, Nat.reduceLeDiff, Nat.reduceMul, Nat.reduceSub, Int.reduceLT, Int.reduceLE, Int.reduceAdd, Int.reduceSub, Int.reduceMul, Int.reduceToNat, sliceCells, cellsAt, srcA, app, reduceCtorEq, Int.reduceEq, Int.reduceNeg, Int.reducePow, Nat.reducePow, Int.reduceTDiv, Int.reduceDiv, Nat.reduceDiv, Nat.reduceMod, Int.reduceMod, Int.reduceTMod, ne_eq, subA, beq_iff_eq, unA, minA, maxA, eqFs, eqA1, beq_self_eq_true, Nat.reduceBEq, ac_cadenzalaw31_RiffNames]
  obtain ⟨N, hN⟩ : ∃ N : Nat, (99980 : Int) = (N : Int) := ⟨99980, rfl⟩
  obtain ⟨N', hN'⟩ : ∃ N : Nat, (99981 : Int) = (N : Int) := ⟨99981, rfl⟩
  rw [hN, hN']
  refine ALoop.by (ι := Nat) (fun k => ⟨[(2, .int .i64 k), (1, .own 0 k)], [⟨t0, 2, k, ckL (manyL k), 0⟩]⟩) (fun k => k ≤ 21) (fun k => 21 - k) 0 ?_ (by omega) ?_
  · exact Le.trans (Le.virt 1 t0 2 (by omega) rfl) (Le.slots (by simp [Am.look]))
  intro k hk
  have e2 : (ckL (manyL k)).length = k * 2 := by rw [ckL_length]; simp [manyL]
  by_cases hlt : k < 21
  · simp (config := { maxSteps := 4000000 }) (disch := omega) only [step, stepv, ev, okW, wl, wn, wp, aop, cV, cV1, ↓reduceIte, Nat.reduceEqDiff, Nat.reduceAdd, Int.cast_ofNat_Int, if_true, if_false, AV.one, repCells, fillA, partCells, Nat.reduceLT, Nat.reduceLeDiff, Nat.reduceMul, Nat.reduceSub, Int.reduceLT, Int.reduceLE, Int.reduceAdd, Int.reduceSub, Int.reduceMul, Int.reduceToNat, sliceCells, cellsAt, srcA, app, reduceCtorEq, Int.reduceEq, Int.reduceNeg, Int.reducePow, Nat.reducePow, Int.reduceTDiv, Int.reduceDiv, Nat.reduceDiv, Nat.reduceMod, Int.reduceMod, Int.reduceTMod, ne_eq, subA, beq_iff_eq, unA, minA, maxA, eqFs, eqA1, beq_self_eq_true, Nat.reduceBEq, e2]
    refine ⟨k + 1, by omega, by omega, Le.drop 1 1 (by omega) rfl (by simp [Am.look, frzK, frzL, frzV]) ?_⟩
    intro i y hy
    obtain rfl : i = 0 := by
      rcases i with _ | i
      · rfl
      · simp at hy
    simp at hy
    subst hy
    refine ⟨_, rfl, ?_⟩
    rw [← manyL_succ, frzK, frzL_append, frzL_T _ (isT_ckL _)]
    rfl
  · have ek : k = 21 := by omega
    have hk : (k : Int) = 21 := by omega
    generalize hm : manyL k = many at *
    subst ek
    have f0 : ∀ ob (s : List UInt8), frzN (fun _ => true) ob 3 [.str s, .emp true] = some [.str s, .list ([] : List Ck).length (ckL [])] := fun ob s => rfl
    have hC0 : ∀ (s : List UInt8) (e : Nat), s.length ≤ 20 → checkM s [] = e → VC P fC [.str s, .list ([] : List Ck).length (ckL [])] (.int .i64 e) := fun s e h1 h2 => by
      have := hC s [] h1 ⟨by decide, by simp⟩
      rwa [h2] at this
    simp (config := { maxSteps := 4000000 }) (disch := omega) only [step, stepv, ev, okW, wl, wn, wp, aop, cV, cV1, ↓reduceIte, Nat.reduceEqDiff, Nat.reduceAdd, Int.cast_ofNat_Int, if_true, if_false, AV.one, repCells, fillA, partCells, Nat.reduceLT, Nat.reduceLeDiff, Nat.reduceMul, Nat.reduceSub, Int.reduceLT, Int.reduceLE, Int.reduceAdd, Int.reduceSub, Int.reduceMul, Int.reduceToNat, sliceCells, cellsAt, srcA, app, reduceCtorEq, Int.reduceEq, Int.reduceNeg, Int.reducePow, Nat.reducePow, Int.reduceTDiv, Int.reduceDiv, Nat.reduceDiv, Nat.reduceMod, Int.reduceMod, Int.reduceTMod, ne_eq, subA, beq_iff_eq, unA, minA, maxA, eqFs, eqA1, beq_self_eq_true, Nat.reduceBEq, e2]
    refine callQ.flat 2 (hC0 _ 8 (by decide) (by decide)) rfl (f0 _ _) ?_
    simp (config := { maxSteps := 4000000 }) (disch := omega) only [step, stepv, ev, okW, wl, wn, wp, aop, cV, cV1, ↓reduceIte, Nat.reduceEqDiff, Nat.reduceAdd, Int.cast_ofNat_Int, if_true, if_false, AV.one, repCells, fillA, partCells, Nat.reduceLT, Nat.reduceLeDiff, Nat.reduceMul, Nat.reduceSub, Int.reduceLT, Int.reduceLE, Int.reduceAdd, Int.reduceSub, Int.reduceMul, Int.reduceToNat, sliceCells, cellsAt, srcA, app, reduceCtorEq, Int.reduceEq, Int.reduceNeg, Int.reducePow, Nat.reducePow, Int.reduceTDiv, Int.reduceDiv, Nat.reduceDiv, Nat.reduceMod, Int.reduceMod, Int.reduceTMod, ne_eq, subA, beq_iff_eq, unA, minA, maxA, eqFs, eqA1, beq_self_eq_true, Nat.reduceBEq]
    refine callQ.flat 2 (hC0 _ 8 (by decide) (by decide)) rfl (f0 _ _) ?_
    simp (config := { maxSteps := 4000000 }) (disch := omega) only [step, stepv, ev, okW, wl, wn, wp, aop, cV, cV1, ↓reduceIte, Nat.reduceEqDiff, Nat.reduceAdd, Int.cast_ofNat_Int, if_true, if_false, AV.one, repCells, fillA, partCells, Nat.reduceLT, Nat.reduceLeDiff, Nat.reduceMul, Nat.reduceSub, Int.reduceLT, Int.reduceLE, Int.reduceAdd, Int.reduceSub, Int.reduceMul, Int.reduceToNat, sliceCells, cellsAt, srcA, app, reduceCtorEq, Int.reduceEq, Int.reduceNeg, Int.reducePow, Nat.reducePow, Int.reduceTDiv, Int.reduceDiv, Nat.reduceDiv, Nat.reduceMod, Int.reduceMod, Int.reduceTMod, ne_eq, subA, beq_iff_eq, unA, minA, maxA, eqFs, eqA1, beq_self_eq_true, Nat.reduceBEq]
    refine callQ.flat 2 (hC0 _ 8 (by decide) (by decide)) rfl (f0 _ _) ?_
    simp (config := { maxSteps := 4000000 }) (disch := omega) only [step, stepv, ev, okW, wl, wn, wp, aop, cV, cV1, ↓reduceIte, Nat.reduceEqDiff, Nat.reduceAdd, Int.cast_ofNat_Int, if_true, if_false, AV.one, repCells, fillA, partCells, Nat.reduceLT, Nat.reduceLeDiff, Nat.reduceMul, Nat.reduceSub, Int.reduceLT, Int.reduceLE, Int.reduceAdd, Int.reduceSub, Int.reduceMul, Int.reduceToNat, sliceCells, cellsAt, srcA, app, reduceCtorEq, Int.reduceEq, Int.reduceNeg, Int.reducePow, Nat.reducePow, Int.reduceTDiv, Int.reduceDiv, Nat.reduceDiv, Nat.reduceMod, Int.reduceMod, Int.reduceTMod, ne_eq, subA, beq_iff_eq, unA, minA, maxA, eqFs, eqA1, beq_self_eq_true, Nat.reduceBEq]
    refine callQ.flat 2 (hC0 _ 8 (by decide) (by decide)) rfl (f0 _ _) ?_
    simp (config := { maxSteps := 4000000 }) (disch := omega) only [step, stepv, ev, okW, wl, wn, wp, aop, cV, cV1, ↓reduceIte, Nat.reduceEqDiff, Nat.reduceAdd, Int.cast_ofNat_Int, if_true, if_false, AV.one, repCells, fillA, partCells, Nat.reduceLT, Nat.reduceLeDiff, Nat.reduceMul, Nat.reduceSub, Int.reduceLT, Int.reduceLE, Int.reduceAdd, Int.reduceSub, Int.reduceMul, Int.reduceToNat, sliceCells, cellsAt, srcA, app, reduceCtorEq, Int.reduceEq, Int.reduceNeg, Int.reducePow, Nat.reducePow, Int.reduceTDiv, Int.reduceDiv, Nat.reduceDiv, Nat.reduceMod, Int.reduceMod, Int.reduceTMod, ne_eq, subA, beq_iff_eq, unA, minA, maxA, eqFs, eqA1, beq_self_eq_true, Nat.reduceBEq]
    refine callQ.flat 2 (hC0 _ 0 (by decide) (by decide)) rfl (f0 _ _) ?_
    simp (config := { maxSteps := 4000000 }) (disch := omega) only [step, stepv, ev, okW, wl, wn, wp, aop, cV, cV1, ↓reduceIte, Nat.reduceEqDiff, Nat.reduceAdd, Int.cast_ofNat_Int, if_true, if_false, AV.one, repCells, fillA, partCells, Nat.reduceLT, Nat.reduceLeDiff, Nat.reduceMul, Nat.reduceSub, Int.reduceLT, Int.reduceLE, Int.reduceAdd, Int.reduceSub, Int.reduceMul, Int.reduceToNat, sliceCells, cellsAt, srcA, app, reduceCtorEq, Int.reduceEq, Int.reduceNeg, Int.reducePow, Nat.reducePow, Int.reduceTDiv, Int.reduceDiv, Nat.reduceDiv, Nat.reduceMod, Int.reduceMod, Int.reduceTMod, ne_eq, subA, beq_iff_eq, unA, minA, maxA, eqFs, eqA1, beq_self_eq_true, Nat.reduceBEq]
    have w0 : ([87, 65, 86, 69] : List UInt8) = waveW := rfl
    have o1 : okL [([100, 97, 116], [])] := ⟨by decide, by simp⟩
    have hC1 := hC waveW [([100, 97, 116], [])] (by decide) o1
    rw [show checkM waveW [([100, 97, 116], [])] = 8 by decide] at hC1
    rw [w0]
    refine callQ.flat 2 hC1 rfl ?_ ?_
    · simp [frzN, frzK, frzL, frzV, ckL, bs, u8]
    have om : okL (manyL 21) := ⟨by simp [manyL], fun c hc => by simp [manyL] at hc; subst hc; simp⟩
    have hC2 := hC [] (manyL 21) (by decide) om
    rw [show checkM [] (manyL 21) = 4 by decide] at hC2
    rw [hm] at hC2
    have om' : okL (manyL 20) := ⟨by simp [manyL], fun c hc => by simp [manyL] at hc; subst hc; simp⟩
    have hC3 := hC waveW (manyL 20) (by decide) om'
    rw [show checkM waveW (manyL 20) = 0 by decide] at hC3
    have tk : (ckL many).take 40 = ckL (manyL 20) := by rw [← hm]; rfl
    have l20 : (manyL 20).length = 20 := by simp [manyL]
    have hG2 := hW waveW (manyL 20) (by decide) om'
    rw [writeA, if_pos (by decide)] at hG2
    have hc20 : checkM waveW (manyL 20) = 0 := by decide
    obtain ⟨b20, hb20⟩ : ∃ b, bytesM waveW (manyL 20) = b := ⟨_, rfl⟩
    have lb20 : b20.length = 172 := by rw [← hb20]; decide +kernel
    have rb20 : readsB ((b20 ++ [97, 98, 99, 100, 0, 0, 0, 0]).take 4 ++ [172] ++ (b20 ++ [97, 98, 99, 100, 0, 0, 0, 0]).drop 5) 4 = true := by rw [← hb20]; decide +kernel
    have db20 : (b20 ++ [97, 98, 99, 100, 0, 0, 0, 0]).drop 4 = 164 :: (b20 ++ [97, 98, 99, 100, 0, 0, 0, 0]).drop 5 := by rw [← hb20]; decide +kernel
    have nn20 : (b20 ++ [97, 98, 99, 100, 0, 0, 0, 0]).length = 180 := by simp [lb20]
    generalize hmore : b20 ++ [97, 98, 99, 100, 0, 0, 0, 0] = more at *
    have mm20 : (u8 more).take 4 ++ [.int .u8 172] ++ (u8 more).drop 5 = u8 (more.take 4 ++ [172] ++ more.drop 5) := by simp [u8, List.map_take, List.map_drop]
    have lm20 : (more.take 4 ++ [172] ++ more.drop 5).length = 180 := by simp; omega
    generalize hmore' : more.take 4 ++ [172] ++ more.drop 5 = more' at *
    have dm20 : (u8 more).drop 4 = .int .u8 164 :: u8 (more.drop 5) := by rw [u8_drop, db20]; rfl
    rw [hb20] at hG2
    generalize hm20 : manyL 20 = m20 at *
    rw [l20] at hC3 hG2
    simp (config := { maxSteps := 4000000 }) (disch := omega) only [step, stepv, ev, okW, wl, wn, wp, aop, cV, cV1, ↓reduceIte, Nat.reduceEqDiff, Nat.reduceAdd, Int.cast_ofNat_Int, if_true, if_false, AV.one, repCells, fillA, partCells, Nat.reduceLT, Nat.reduceLeDiff, Nat.reduceMul, Nat.reduceSub, Int.reduceLT, Int.reduceLE, Int.reduceAdd, Int.reduceSub, Int.reduceMul, Int.reduceToNat, sliceCells, cellsAt, srcA, app, reduceCtorEq, Int.reduceEq, Int.reduceNeg, Int.reducePow, Nat.reducePow, Int.reduceTDiv, Int.reduceDiv, Nat.reduceDiv, Nat.reduceMod, Int.reduceMod, Int.reduceTMod, ne_eq, subA, beq_iff_eq, unA, minA, maxA, eqFs, eqA1, beq_self_eq_true, Nat.reduceBEq]
    refine callQ.flat 2 hC2 rfl ?_ ?_
    · simp [frzN, frzK, frzL, frzV, ← hm, manyL, ckL, bs, u8]
    simp (config := { maxSteps := 4000000 }) (disch := omega) only [step, stepv, ev, okW, wl, wn, wp, aop, cV, cV1, ↓reduceIte, Nat.reduceEqDiff, Nat.reduceAdd, Int.cast_ofNat_Int, if_true, if_false, AV.one, repCells, fillA, partCells, Nat.reduceLT, Nat.reduceLeDiff, Nat.reduceMul, Nat.reduceSub, Int.reduceLT, Int.reduceLE, Int.reduceAdd, Int.reduceSub, Int.reduceMul, Int.reduceToNat, sliceCells, cellsAt, srcA, app, reduceCtorEq, Int.reduceEq, Int.reduceNeg, Int.reducePow, Nat.reducePow, Int.reduceTDiv, Int.reduceDiv, Nat.reduceDiv, Nat.reduceMod, Int.reduceMod, Int.reduceTMod, ne_eq, subA, beq_iff_eq, unA, minA, maxA, eqFs, eqA1, beq_self_eq_true, Nat.reduceBEq]
    refine callQ.flat 2 hC3 rfl ?_ ?_
    · simp [frzN, frzK, frzL, frzV, tk, frzL_T _ (isT_ckL m20)]
    have hF1 := hC waveW (longL [102, 117, 108, 108] N) (by decide) (okL_long (by decide) (by omega))
    rw [check_full (by omega), ckL_long] at hF1
    have hF2 := hC waveW (longL [111, 118, 101, 114] N') (by decide) (okL_long (by decide) (by omega))
    rw [check_over (by omega) (by omega), ckL_long] at hF2
    simp (config := { maxSteps := 4000000 }) (disch := omega) only [step, stepv, ev, okW, wl, wn, wp, aop, cV, cV1, ↓reduceIte, Nat.reduceEqDiff, Nat.reduceAdd, Int.cast_ofNat_Int, if_true, if_false, AV.one, repCells, fillA, partCells, Nat.reduceLT, Nat.reduceLeDiff, Nat.reduceMul, Nat.reduceSub, Int.reduceLT, Int.reduceLE, Int.reduceAdd, Int.reduceSub, Int.reduceMul, Int.reduceToNat, sliceCells, cellsAt, srcA, app, reduceCtorEq, Int.reduceEq, Int.reduceNeg, Int.reducePow, Nat.reducePow, Int.reduceTDiv, Int.reduceDiv, Nat.reduceDiv, Nat.reduceMod, Int.reduceMod, Int.reduceTMod, ne_eq, subA, beq_iff_eq, unA, minA, maxA, eqFs, eqA1, beq_self_eq_true, Nat.reduceBEq]
    rw [rep_zero, rep_zero]
    refine callQ.flat 2 hF1 rfl ?_ ?_
    · simp [frzN, frzK, frzL, frzV, frzL_T _ (isT_u8 _), longL]
    simp (config := { maxSteps := 4000000 }) (disch := omega) only [step, stepv, ev, okW, wl, wn, wp, aop, cV, cV1, ↓reduceIte, Nat.reduceEqDiff, Nat.reduceAdd, Int.cast_ofNat_Int, if_true, if_false, AV.one, repCells, fillA, partCells, Nat.reduceLT, Nat.reduceLeDiff, Nat.reduceMul, Nat.reduceSub, Int.reduceLT, Int.reduceLE, Int.reduceAdd, Int.reduceSub, Int.reduceMul, Int.reduceToNat, sliceCells, cellsAt, srcA, app, reduceCtorEq, Int.reduceEq, Int.reduceNeg, Int.reducePow, Nat.reducePow, Int.reduceTDiv, Int.reduceDiv, Nat.reduceDiv, Nat.reduceMod, Int.reduceMod, Int.reduceTMod, ne_eq, subA, beq_iff_eq, unA, minA, maxA, eqFs, eqA1, beq_self_eq_true, Nat.reduceBEq]
    refine callQ.flat 2 hF2 rfl ?_ ?_
    · simp [frzN, frzK, frzL, frzV, frzL_T _ (isT_u8 _), longL]
    have hG1 := hW waveW (longL [102, 117, 108, 108] N) (by decide) (okL_long (by decide) (by omega))
    rw [writeA, if_pos (check_full (by omega)), ckL_long] at hG1
    simp (config := { maxSteps := 4000000 }) (disch := omega) only [step, stepv, ev, okW, wl, wn, wp, aop, cV, cV1, ↓reduceIte, Nat.reduceEqDiff, Nat.reduceAdd, Int.cast_ofNat_Int, if_true, if_false, AV.one, repCells, fillA, partCells, Nat.reduceLT, Nat.reduceLeDiff, Nat.reduceMul, Nat.reduceSub, Int.reduceLT, Int.reduceLE, Int.reduceAdd, Int.reduceSub, Int.reduceMul, Int.reduceToNat, sliceCells, cellsAt, srcA, app, reduceCtorEq, Int.reduceEq, Int.reduceNeg, Int.reducePow, Nat.reducePow, Int.reduceTDiv, Int.reduceDiv, Nat.reduceDiv, Nat.reduceMod, Int.reduceMod, Int.reduceTMod, ne_eq, subA, beq_iff_eq, unA, minA, maxA, eqFs, eqA1, beq_self_eq_true, Nat.reduceBEq]
    refine callQ.still 2 [1, 2] hG1 ?_ ?_
    · simp [frzN, frzK, frzL, frzV, frzL_T _ (isT_u8 _), longL]
    have la : (bytesM waveW (longL [102, 117, 108, 108] N)).length = 100000 := by
      rw [bytesM_length rfl (by simp [longL]), szL_long]; omega
    have hcut := readM_cut (form := waveW) (l := longL [102, 117, 108, 108] N) (check_full (by omega)) (by rw [szL_long]; omega) (at_ := 99999) (by rw [la]; decide)
    have hr0 := readM_written (form := waveW) (l := longL [102, 117, 108, 108] N) (check_full (by omega)) [] (by rw [szL_long]; omega)
    have hr1 := readM_written (form := waveW) (l := longL [102, 117, 108, 108] N) (check_full (by omega)) [120] (by rw [szL_long]; omega)
    rw [if_pos rfl, List.append_nil] at hr0
    rw [if_neg (by simp)] at hr1
    generalize hab : bytesM waveW (longL [102, 117, 108, 108] N) = ab at *
    simp only [stillAt, List.getElem?_cons_zero, List.getElem?_cons_succ, List.set_cons_zero, List.set_cons_succ]
    simp (config := { maxSteps := 4000000 }) (disch := omega) only [step, stepv, ev, okW, wl, wn, wp, aop, cV, cV1, ↓reduceIte, Nat.reduceEqDiff, Nat.reduceAdd, Int.cast_ofNat_Int, if_true, if_false, AV.one, repCells, fillA, partCells, Nat.reduceLT, Nat.reduceLeDiff, Nat.reduceMul, Nat.reduceSub, Int.reduceLT, Int.reduceLE, Int.reduceAdd, Int.reduceSub, Int.reduceMul, Int.reduceToNat, sliceCells, cellsAt, srcA, app, reduceCtorEq, Int.reduceEq, Int.reduceNeg, Int.reducePow, Nat.reducePow, Int.reduceTDiv, Int.reduceDiv, Nat.reduceDiv, Nat.reduceMod, Int.reduceMod, Int.reduceTMod, ne_eq, subA, beq_iff_eq, unA, minA, maxA, eqFs, eqA1, beq_self_eq_true, Nat.reduceBEq]
    refine callQ.still 2 [0] hG2 ?_ ?_
    · simp [frzN, frzK, frzL, frzV, tk, frzL_T _ (isT_ckL m20)]
    simp only [stillAt, List.getElem?_cons_zero, List.getElem?_cons_succ, List.set_cons_zero, List.set_cons_succ]
    simp (config := { maxSteps := 4000000 }) (disch := omega) only [step, stepv, ev, okW, wl, wn, wp, aop, cV, cV1, ↓reduceIte, Nat.reduceEqDiff, Nat.reduceAdd, Int.cast_ofNat_Int, if_true, if_false, AV.one, repCells, fillA, partCells, Nat.reduceLT, Nat.reduceLeDiff, Nat.reduceMul, Nat.reduceSub, Int.reduceLT, Int.reduceLE, Int.reduceAdd, Int.reduceSub, Int.reduceMul, Int.reduceToNat, sliceCells, cellsAt, srcA, app, reduceCtorEq, Int.reduceEq, Int.reduceNeg, Int.reducePow, Nat.reducePow, Int.reduceTDiv, Int.reduceDiv, Nat.reduceDiv, Nat.reduceMod, Int.reduceMod, Int.reduceTMod, ne_eq, subA, beq_iff_eq, unA, minA, maxA, eqFs, eqA1, beq_self_eq_true, Nat.reduceBEq, bs, la, lb20, hmore, dm20, mm20, nn20]
    have la' : (100000 = ab.length) = True := eq_true la.symm
    have la2 : (99999 = min 99999 ab.length) = True := eq_true (by omega)
    iterate 3
      refine callQ.vc (hT _ _ (by decide) (by decide)) ?_
      simp (config := { maxSteps := 4000000 }) (disch := omega) only [step, stepv, ev, okW, wl, wn, wp, aop, cV, cV1, ↓reduceIte, Nat.reduceEqDiff, Nat.reduceAdd, Int.cast_ofNat_Int, if_true, if_false, AV.one, repCells, fillA, partCells, Nat.reduceLT, Nat.reduceLeDiff, Nat.reduceMul, Nat.reduceSub, Int.reduceLT, Int.reduceLE, Int.reduceAdd, Int.reduceSub, Int.reduceMul, Int.reduceToNat, sliceCells, cellsAt, srcA, app, reduceCtorEq, Int.reduceEq, Int.reduceNeg, Int.reducePow, Nat.reducePow, Int.reduceTDiv, Int.reduceDiv, Nat.reduceDiv, Nat.reduceMod, Int.reduceMod, Int.reduceTMod, ne_eq, subA, beq_iff_eq, unA, minA, maxA, eqFs, eqA1, beq_self_eq_true, Nat.reduceBEq, la', la2, u8_take]
    have rc : readsB (ab.take 99999) 24 = true := by simp [readsB, hcut]
    refine callQ.vc (hT (ab.take 99999) 24 (by simp; omega) rc) ?_
    simp (config := { maxSteps := 4000000 }) (disch := omega) only [step, stepv, ev, okW, wl, wn, wp, aop, cV, cV1, ↓reduceIte, Nat.reduceEqDiff, Nat.reduceAdd, Int.cast_ofNat_Int, if_true, if_false, AV.one, repCells, fillA, partCells, Nat.reduceLT, Nat.reduceLeDiff, Nat.reduceMul, Nat.reduceSub, Int.reduceLT, Int.reduceLE, Int.reduceAdd, Int.reduceSub, Int.reduceMul, Int.reduceToNat, sliceCells, cellsAt, srcA, app, reduceCtorEq, Int.reduceEq, Int.reduceNeg, Int.reducePow, Nat.reducePow, Int.reduceTDiv, Int.reduceDiv, Nat.reduceDiv, Nat.reduceMod, Int.reduceMod, Int.reduceTMod, ne_eq, subA, beq_iff_eq, unA, minA, maxA, eqFs, eqA1, beq_self_eq_true, Nat.reduceBEq]
    iterate 10
      refine callQ.vc (hT _ _ (by decide) (by decide)) ?_
      simp (config := { maxSteps := 4000000 }) (disch := omega) only [step, stepv, ev, okW, wl, wn, wp, aop, cV, cV1, ↓reduceIte, Nat.reduceEqDiff, Nat.reduceAdd, Int.cast_ofNat_Int, if_true, if_false, AV.one, repCells, fillA, partCells, Nat.reduceLT, Nat.reduceLeDiff, Nat.reduceMul, Nat.reduceSub, Int.reduceLT, Int.reduceLE, Int.reduceAdd, Int.reduceSub, Int.reduceMul, Int.reduceToNat, sliceCells, cellsAt, srcA, app, reduceCtorEq, Int.reduceEq, Int.reduceNeg, Int.reducePow, Nat.reducePow, Int.reduceTDiv, Int.reduceDiv, Nat.reduceDiv, Nat.reduceMod, Int.reduceMod, Int.reduceTMod, ne_eq, subA, beq_iff_eq, unA, minA, maxA, eqFs, eqA1, beq_self_eq_true, Nat.reduceBEq]
    have lm' : (180 = more'.length) = True := eq_true lm20.symm
    iterate 3
      refine callQ.vc (hT _ _ (by decide) (by decide +kernel)) ?_
      simp (config := { maxSteps := 4000000 }) (disch := omega) only [step, stepv, ev, okW, wl, wn, wp, aop, cV, cV1, ↓reduceIte, Nat.reduceEqDiff, Nat.reduceAdd, Int.cast_ofNat_Int, if_true, if_false, AV.one, repCells, fillA, partCells, Nat.reduceLT, Nat.reduceLeDiff, Nat.reduceMul, Nat.reduceSub, Int.reduceLT, Int.reduceLE, Int.reduceAdd, Int.reduceSub, Int.reduceMul, Int.reduceToNat, sliceCells, cellsAt, srcA, app, reduceCtorEq, Int.reduceEq, Int.reduceNeg, Int.reducePow, Nat.reducePow, Int.reduceTDiv, Int.reduceDiv, Nat.reduceDiv, Nat.reduceMod, Int.reduceMod, Int.reduceTMod, ne_eq, subA, beq_iff_eq, unA, minA, maxA, eqFs, eqA1, beq_self_eq_true, Nat.reduceBEq, strA, lm20, lm']
    refine callQ.vc (hT more' 4 (by omega) rb20) ?_
    simp (config := { maxSteps := 4000000 }) (disch := omega) only [step, stepv, ev, okW, wl, wn, wp, aop, cV, cV1, ↓reduceIte, Nat.reduceEqDiff, Nat.reduceAdd, Int.cast_ofNat_Int, if_true, if_false, AV.one, repCells, fillA, partCells, Nat.reduceLT, Nat.reduceLeDiff, Nat.reduceMul, Nat.reduceSub, Int.reduceLT, Int.reduceLE, Int.reduceAdd, Int.reduceSub, Int.reduceMul, Int.reduceToNat, sliceCells, cellsAt, srcA, app, reduceCtorEq, Int.reduceEq, Int.reduceNeg, Int.reducePow, Nat.reducePow, Int.reduceTDiv, Int.reduceDiv, Nat.reduceDiv, Nat.reduceMod, Int.reduceMod, Int.reduceTMod, ne_eq, subA, beq_iff_eq, unA, minA, maxA, eqFs, eqA1, beq_self_eq_true, Nat.reduceBEq]
    iterate 2
      refine callQ.vc (hT _ _ (by decide) (by decide +kernel)) ?_
      simp (config := { maxSteps := 4000000 }) (disch := omega) only [step, stepv, ev, okW, wl, wn, wp, aop, cV, cV1, ↓reduceIte, Nat.reduceEqDiff, Nat.reduceAdd, Int.cast_ofNat_Int, if_true, if_false, AV.one, repCells, fillA, partCells, Nat.reduceLT, Nat.reduceLeDiff, Nat.reduceMul, Nat.reduceSub, Int.reduceLT, Int.reduceLE, Int.reduceAdd, Int.reduceSub, Int.reduceMul, Int.reduceToNat, sliceCells, cellsAt, srcA, app, reduceCtorEq, Int.reduceEq, Int.reduceNeg, Int.reducePow, Nat.reducePow, Int.reduceTDiv, Int.reduceDiv, Nat.reduceDiv, Nat.reduceMod, Int.reduceMod, Int.reduceTMod, ne_eq, subA, beq_iff_eq, unA, minA, maxA, eqFs, eqA1, beq_self_eq_true, Nat.reduceBEq, strA, la, la']
    have q0 : readsB ab 0 = true := by simp [readsB, hr0]
    have q1 : readsB (ab ++ [120]) 38 = true := by simp [readsB, hr1]
    refine callQ.vc (hT ab 0 (by omega) q0) ?_
    simp (config := { maxSteps := 4000000 }) (disch := omega) only [step, stepv, ev, okW, wl, wn, wp, aop, cV, cV1, ↓reduceIte, Nat.reduceEqDiff, Nat.reduceAdd, Int.cast_ofNat_Int, if_true, if_false, AV.one, repCells, fillA, partCells, Nat.reduceLT, Nat.reduceLeDiff, Nat.reduceMul, Nat.reduceSub, Int.reduceLT, Int.reduceLE, Int.reduceAdd, Int.reduceSub, Int.reduceMul, Int.reduceToNat, sliceCells, cellsAt, srcA, app, reduceCtorEq, Int.reduceEq, Int.reduceNeg, Int.reducePow, Nat.reducePow, Int.reduceTDiv, Int.reduceDiv, Nat.reduceDiv, Nat.reduceMod, Int.reduceMod, Int.reduceTMod, ne_eq, subA, beq_iff_eq, unA, minA, maxA, eqFs, eqA1, beq_self_eq_true, Nat.reduceBEq]
    refine callQ.vc (hT _ _ (by decide) (by decide +kernel)) ?_
    simp (config := { maxSteps := 4000000 }) (disch := omega) only [step, stepv, ev, okW, wl, wn, wp, aop, cV, cV1, ↓reduceIte, Nat.reduceEqDiff, Nat.reduceAdd, Int.cast_ofNat_Int, if_true, if_false, AV.one, repCells, fillA, partCells, Nat.reduceLT, Nat.reduceLeDiff, Nat.reduceMul, Nat.reduceSub, Int.reduceLT, Int.reduceLE, Int.reduceAdd, Int.reduceSub, Int.reduceMul, Int.reduceToNat, sliceCells, cellsAt, srcA, app, reduceCtorEq, Int.reduceEq, Int.reduceNeg, Int.reducePow, Nat.reducePow, Int.reduceTDiv, Int.reduceDiv, Nat.reduceDiv, Nat.reduceMod, Int.reduceMod, Int.reduceTMod, ne_eq, subA, beq_iff_eq, unA, minA, maxA, eqFs, eqA1, beq_self_eq_true, Nat.reduceBEq, strA, la, la']
    refine callQ.vc (hT (ab ++ [120]) 38 (by simp; omega) q1) ?_
    simp (config := { maxSteps := 4000000 }) (disch := omega) only [step, stepv, ev, okW, wl, wn, wp, aop, cV, cV1, ↓reduceIte, Nat.reduceEqDiff, Nat.reduceAdd, Int.cast_ofNat_Int, if_true, if_false, AV.one, repCells, fillA, partCells, Nat.reduceLT, Nat.reduceLeDiff, Nat.reduceMul, Nat.reduceSub, Int.reduceLT, Int.reduceLE, Int.reduceAdd, Int.reduceSub, Int.reduceMul, Int.reduceToNat, sliceCells, cellsAt, srcA, app, reduceCtorEq, Int.reduceEq, Int.reduceNeg, Int.reducePow, Nat.reducePow, Int.reduceTDiv, Int.reduceDiv, Nat.reduceDiv, Nat.reduceMod, Int.reduceMod, Int.reduceTMod, ne_eq, subA, beq_iff_eq, unA, minA, maxA, eqFs, eqA1, beq_self_eq_true, Nat.reduceBEq]
    have hf1 := hF [([97], []), ([98], []), ([98], [])] [98] (by decide)
    have hf2 := hF [] [] (by decide)
    rw [show findM [([97], []), ([98], []), ([98], [])] [98] = some 1 by decide] at hf1
    rw [show findM [] [] = none by decide] at hf2
    refine callQ.flat 2 hf1 rfl ?_ ?_
    · simp [frzN, frzK, frzL, frzV, ckL, bs, u8]
    simp (config := { maxSteps := 4000000 }) (disch := omega) only [step, stepv, ev, okW, wl, wn, wp, aop, cV, cV1, ↓reduceIte, Nat.reduceEqDiff, Nat.reduceAdd, Int.cast_ofNat_Int, if_true, if_false, AV.one, repCells, fillA, partCells, Nat.reduceLT, Nat.reduceLeDiff, Nat.reduceMul, Nat.reduceSub, Int.reduceLT, Int.reduceLE, Int.reduceAdd, Int.reduceSub, Int.reduceMul, Int.reduceToNat, sliceCells, cellsAt, srcA, app, reduceCtorEq, Int.reduceEq, Int.reduceNeg, Int.reducePow, Nat.reducePow, Int.reduceTDiv, Int.reduceDiv, Nat.reduceDiv, Nat.reduceMod, Int.reduceMod, Int.reduceTMod, ne_eq, subA, beq_iff_eq, unA, minA, maxA, eqFs, eqA1, beq_self_eq_true, Nat.reduceBEq, findA]
    refine callQ.flat 2 hf2 rfl ?_ ?_
    · simp [frzN, frzK, frzL, frzV, ckL]
    simp (config := { maxSteps := 4000000 }) (disch := omega) only [step, stepv, ev, okW, wl, wn, wp, aop, cV, cV1, ↓reduceIte, Nat.reduceEqDiff, Nat.reduceAdd, Int.cast_ofNat_Int, if_true, if_false, AV.one, repCells, fillA, partCells, Nat.reduceLT, Nat.reduceLeDiff, Nat.reduceMul, Nat.reduceSub, Int.reduceLT, Int.reduceLE, Int.reduceAdd, Int.reduceSub, Int.reduceMul, Int.reduceToNat, sliceCells, cellsAt, srcA, app, reduceCtorEq, Int.reduceEq, Int.reduceNeg, Int.reducePow, Nat.reducePow, Int.reduceTDiv, Int.reduceDiv, Nat.reduceDiv, Nat.reduceMod, Int.reduceMod, Int.reduceTMod, ne_eq, subA, beq_iff_eq, unA, minA, maxA, eqFs, eqA1, beq_self_eq_true, Nat.reduceBEq, findA]
    refine callQ.vc hA ?_
    simp (config := { maxSteps := 4000000 }) (disch := omega) only [step, stepv, ev, okW, wl, wn, wp, aop, cV, cV1, ↓reduceIte, Nat.reduceEqDiff, Nat.reduceAdd, Int.cast_ofNat_Int, if_true, if_false, AV.one, repCells, fillA, partCells, Nat.reduceLT, Nat.reduceLeDiff, Nat.reduceMul, Nat.reduceSub, Int.reduceLT, Int.reduceLE, Int.reduceAdd, Int.reduceSub, Int.reduceMul, Int.reduceToNat, sliceCells, cellsAt, srcA, app, reduceCtorEq, Int.reduceEq, Int.reduceNeg, Int.reducePow, Nat.reducePow, Int.reduceTDiv, Int.reduceDiv, Nat.reduceDiv, Nat.reduceMod, Int.reduceMod, Int.reduceTMod, ne_eq, subA, beq_iff_eq, unA, minA, maxA, eqFs, eqA1, beq_self_eq_true, Nat.reduceBEq]

end Go.Am
