/- What the functions that the law reaches return, for every program that has their code; the conditions stand in each statement. -/
import Derived.Test.YtpanmoedefeniaaGreatDoorClipReadsL2
set_option linter.unusedSectionVars false
set_option linter.unusedSimpArgs false
set_option linter.unusedVariables false
namespace Go.Am
open Go.RowKit

/-! ### Decode -/

def iL (o : List Nat) : List Int := o.map fun n : Nat => (n : Int)
def decV (V N c : Nat) (x : Int) (t : List Int) (w : (Nat × List Nat) ⊕ (List Nat × Nat)) : AV :=
  match w with
  | .inl (e, _) => erA e
  | .inr (o, a) => if restM V N a ≠ 0 then erA 12 else rngA x (unB c x t (iL o))
def decA (c x : Int) (t : List Int) (n : Int) (b : List UInt8) : AV :=
  if ask21 c x n ≠ 0 then erA 2 else if openM b ≠ 0 then erA (openM b : Nat) else
    decV (leN (b.take (b.length - 4))) (8 * (b.take (b.length - 4)).length) c.toNat x t (valsM (leN (b.take (b.length - 4))) (8 * (b.take (b.length - 4)).length) c.toNat (n.toNat * c.toNat) [] 0)
theorem isD_decV (V N c : Nat) (x : Int) (t : List Int) (w : (Nat × List Nat) ⊕ (List Nat × Nat)) : isD (decV V N c x t w) = true := by
  unfold decV
  split
  · rfl
  · split
    · rfl
    · exact isD_rng _ _
theorem isD_decA (c x : Int) (t : List Int) (n : Int) (b : List UInt8) : isD (decA c x t n b) = true := by
  unfold decA
  split
  · rfl
  split
  · rfl
  · exact isD_decV _ _ _ _ _ _

theorem ask21_cases {c x n : Int} (h : ask21 c x n = 0) : eCheck c x = 0 ∧ ∃ c' n' : Nat, c = c' ∧ n = n' ∧ 1 ≤ c' ∧ c' ≤ 6 ∧ 1 ≤ n' ∧ n' * c' ≤ 4000 ∧ half x ≠ 0 := by
  unfold ask21 at h
  rcases eCheck_cases c x with h1 | ⟨h1, h2, h3, h4⟩
  · rw [if_pos (by omega)] at h; omega
  · rw [if_neg (by omega)] at h
    split at h
    · omega
    split at h
    · omega
    rename_i h5 h6
    refine ⟨h1, c.toNat, n.toNat, by omega, by omega, by omega, by omega, by omega, ?_, h2⟩
    have h7 : n.toNat ≤ 4000 / c.toNat := by
      have : ((4000 / c.toNat : Nat) : Int) = 4000 / c := by rw [Int.natCast_ediv, Int.toNat_of_nonneg (by omega)]; rfl
      omega
    exact (Nat.le_div_iff_mul_le (by omega)).1 h7

theorem okV_of {V N c n : Nat} {o : List Nat} {a : Nat} (hc : 1 ≤ c) (hc6 : c ≤ 6) (hn : 1 ≤ n) (hnc : n * c ≤ 4000) (h : valsM V N c (n * c) [] 0 = .inr (o, a)) : okV c (iL o) ∧ a ≤ N ∧ o.length = n * c := by
  obtain ⟨_, h2⟩ := vals_spec (V := V) (N := N) (c := c) (n * c) [] 0 (Nat.zero_le _) (fun x hx => by simp at hx)
  obtain ⟨q1, q2, q3⟩ := h2 o a h
  rw [List.length_nil, Nat.zero_add] at q3
  have hpos : 0 < n * c := Nat.mul_pos hn hc
  refine ⟨⟨hc, hc6, by simp [iL]; omega, by simp [iL]; omega, by simp [iL, q3], fun x hx => ?_⟩, q2, q3⟩
  simp only [iL, List.mem_map] at hx
  obtain ⟨y, hy, rfl⟩ := hx
  have := q1 y hy
  omega

def S_Decode (P : Prg) (f : Nat) : Prop := ∀ (c x n : Int) (t : List Int) (b : List UInt8), t.length = 16 → I32 t → b.length ≤ 1000000 → VC P f [shA c x, .agg (ks .i32 t), .int .i64 n, bs b] (decA c x t n b)
set_option maxHeartbeats 2000000 in
theorem ref21_Decode {P : Prg} {f fA fO fR fU fG t0 t1 : Nat} (bd : Body P f 44 [.tmp 8, .tmp 9] (ac_cadenzaref21_Decode fA fO fR fU fG t0 t1)) (hA : S_Ask21 P fA) (hO : S_Opened P fO) (hR : S_RRead P fR) (hU : S_RUndone P fU) (hG : S_Ranged P fG) : S_Decode P f := by
  intro c x n t b ht hI hb
  refine VC.of_walk 1 (by simp [isDL, isD_bs, isDL_ks, isD, shA]) (isD_decA _ _ _ _ _) (ACall.of_body bd (by simp) ?_)
  have hA' := hA c x n
  have hO' := hO b hb
  have hk : (ks .i32 t).length = 16 := by simp [ks_length, ht]
  have tt : (ks .i32 t).take 16 = ks .i32 t := take_all (by omega)
  have ot := ks_one .i32 t
  rw [shA] at hA'
  simp only [bs] at hO'
  unfold decA
  by_cases h1 : ask21 c x n = 0
  case neg =>
    rw [if_pos h1, erA]
    generalize ask21 c x n = m at *
    simp (maxSteps := 4000000) (disch := omega) only [abv, step, stepv, ev, wl, wn, wp, wz, aop, cV, cV1, AV.one, partCells, okW, onlyFr, app, sliceCells, cellsAt, srcA, subA, eqFs, Int.cast_ofNat_Int, simprocAttr, ac_cadenzaref21_Decode, shA, bs, hk, tt, ot]
    refine callQ.vc hA' ?_
    simp (maxSteps := 4000000) (disch := omega) only [abv, step, stepv, ev, wl, wn, wp, wz, aop, cV, cV1, AV.one, partCells, okW, onlyFr, app, sliceCells, cellsAt, srcA, subA, eqFs, Int.cast_ofNat_Int, simprocAttr]
    simp [frzN, frzK, frzL, frzV]
  rw [if_neg (by omega)]
  obtain ⟨hE, c', n', rfl, rfl, q1, q2, q3, q4, q5⟩ := ask21_cases h1
  rw [h1] at hA'
  by_cases h2 : openM b = 0
  case neg =>
    have h2' : ((openM b : Nat) : Int) ≠ 0 := by omega
    rw [if_pos h2, erA]
    generalize openM b = m at *
    simp (maxSteps := 4000000) (disch := omega) only [abv, step, stepv, ev, wl, wn, wp, wz, aop, cV, cV1, AV.one, partCells, okW, onlyFr, app, sliceCells, cellsAt, srcA, subA, eqFs, Int.cast_ofNat_Int, simprocAttr, ac_cadenzaref21_Decode, shA, bs, hk, tt, ot]
    refine callQ.vc hA' ?_
    simp (maxSteps := 4000000) (disch := omega) only [abv, step, stepv, ev, wl, wn, wp, wz, aop, cV, cV1, AV.one, partCells, okW, onlyFr, app, sliceCells, cellsAt, srcA, subA, eqFs, Int.cast_ofNat_Int, simprocAttr]
    refine callQ.vc hO' ?_
    simp (maxSteps := 4000000) (disch := omega) only [abv, step, stepv, ev, wl, wn, wp, wz, aop, cV, cV1, AV.one, partCells, okW, onlyFr, app, sliceCells, cellsAt, srcA, subA, eqFs, Int.cast_ofNat_Int, simprocAttr]
    refine callQ.vc hO' ?_
    simp (maxSteps := 4000000) (disch := omega) only [abv, step, stepv, ev, wl, wn, wp, wz, aop, cV, cV1, AV.one, partCells, okW, onlyFr, app, sliceCells, cellsAt, srcA, subA, eqFs, Int.cast_ofNat_Int, simprocAttr]
    simp [frzN, frzK, frzL, frzV]
  rw [if_neg (by omega)]
  have hbl : 5 ≤ b.length ∧ b.length ≤ 41254 := by
    unfold openM at h2
    split at h2
    · omega
    split at h2
    · omega
    · omega
  rw [h2] at hO'
  have hpl : (b.take (b.length - 4)).length = b.length - 4 := by simp
  have hR' := hR (b.take (b.length - 4)) c' n' (by omega) q1 q2 q4
  have tk : (u8 b).take (b.length - 4) = u8 (b.take (b.length - 4)) := by simp [u8, List.map_take]
  simp only [Int.toNat_natCast]
  simp only [bs, hpl] at hR' ⊢
  have n5 : b.length - 4 - 0 = b.length - 4 := by omega
  generalize hp : b.take (b.length - 4) = p at *
  generalize leN p = V at *
  generalize 8 * (b.length - 4) = N at *
  have hokv := fun o a (h : valsM V N c' (n' * c') [] 0 = .inr (o, a)) => okV_of q1 q2 q3 q4 h
  have hspec := vals_spec (V := V) (N := N) (c := c') (n' * c') [] 0 (Nat.zero_le _) (fun x hx => by simp at hx)
  cases hw : valsM V N c' (n' * c') [] 0 with
  | inl w =>
    obtain ⟨e, o⟩ := w
    have he := (hspec.1 e o hw).1
    have he0 : (e : Int) ≠ 0 := by omega
    rw [hw, rdM, rdrA, n32A, u32L] at hR'
    simp only [decV, erA]
    simp (maxSteps := 4000000) (disch := omega) only [abv, step, stepv, ev, wl, wn, wp, wz, aop, cV, cV1, AV.one, partCells, okW, onlyFr, app, sliceCells, cellsAt, srcA, subA, eqFs, Int.cast_ofNat_Int, simprocAttr, ac_cadenzaref21_Decode, shA, bs, hk, tt, ot]
    refine callQ.vc hA' ?_
    simp (maxSteps := 4000000) (disch := omega) only [abv, step, stepv, ev, wl, wn, wp, wz, aop, cV, cV1, AV.one, partCells, okW, onlyFr, app, sliceCells, cellsAt, srcA, subA, eqFs, Int.cast_ofNat_Int, simprocAttr]
    refine callQ.vc hO' ?_
    simp (maxSteps := 4000000) (disch := omega) only [abv, step, stepv, ev, wl, wn, wp, wz, aop, cV, cV1, AV.one, partCells, okW, onlyFr, app, sliceCells, cellsAt, srcA, subA, eqFs, Int.cast_ofNat_Int, simprocAttr, tk, n5]
    refine callD.vc hR' ?_
    simp (maxSteps := 4000000) (disch := omega) only [abv, step, stepv, ev, wl, wn, wp, wz, aop, cV, cV1, AV.one, partCells, okW, onlyFr, app, sliceCells, cellsAt, srcA, subA, eqFs, Int.cast_ofNat_Int, simprocAttr]
    simp [frzN, frzK, frzL, frzV]
  | inr w =>
    obtain ⟨o, a⟩ := w
    obtain ⟨hv, ha, hol⟩ := hokv o a hw
    rw [hw, rdM, rdrA, n32A, u32L] at hR'
    simp only [decV]
    have hU' := hU c' x t (iL o) ht hI hv q5
    have hI2 : I32 (unB c' x t (iL o)) := by
      unfold unB
      exact I32_undAll (I32_bacT _ _ _ _)
    have hG' := hG c' x (unB c' x t (iL o)) hI2
    rw [shA, u32L, iL, List.length_map] at hU'
    rw [shA] at hG'
    by_cases h3 : restM V N a = 0
    · rw [h3] at hR'
      rw [if_neg (by omega)]
      simp only [iL] at hG' ⊢
      generalize unB c' x t (o.map fun n : Nat => (n : Int)) = z at *
      simp only [il] at hU' hG'
      unfold rngA at hG' ⊢
      simp (maxSteps := 4000000) (disch := omega) only [abv, step, stepv, ev, wl, wn, wp, wz, aop, cV, cV1, AV.one, partCells, okW, onlyFr, app, sliceCells, cellsAt, srcA, subA, eqFs, Int.cast_ofNat_Int, simprocAttr, ac_cadenzaref21_Decode, shA, bs, hk, tt, ot]
      refine callQ.vc hA' ?_
      simp (maxSteps := 4000000) (disch := omega) only [abv, step, stepv, ev, wl, wn, wp, wz, aop, cV, cV1, AV.one, partCells, okW, onlyFr, app, sliceCells, cellsAt, srcA, subA, eqFs, Int.cast_ofNat_Int, simprocAttr]
      refine callQ.vc hO' ?_
      simp (maxSteps := 4000000) (disch := omega) only [abv, step, stepv, ev, wl, wn, wp, wz, aop, cV, cV1, AV.one, partCells, okW, onlyFr, app, sliceCells, cellsAt, srcA, subA, eqFs, Int.cast_ofNat_Int, simprocAttr, tk, n5]
      refine callD.vc hR' ?_
      simp (maxSteps := 4000000) (disch := omega) only [abv, step, stepv, ev, wl, wn, wp, wz, aop, cV, cV1, AV.one, partCells, okW, onlyFr, app, sliceCells, cellsAt, srcA, subA, eqFs, Int.cast_ofNat_Int, simprocAttr, hk, tt, ot]
      refine callD.vc hU' ?_
      simp (maxSteps := 4000000) (disch := omega) only [abv, step, stepv, ev, wl, wn, wp, wz, aop, cV, cV1, AV.one, partCells, okW, onlyFr, app, sliceCells, cellsAt, srcA, subA, eqFs, Int.cast_ofNat_Int, simprocAttr]
      refine callD.vc hG' ?_
      by_cases h4 : checkN x z = 0
      · rw [if_neg (by omega)]
        simp (maxSteps := 4000000) (disch := omega) only [abv, step, stepv, ev, wl, wn, wp, wz, aop, cV, cV1, AV.one, partCells, okW, onlyFr, app, sliceCells, cellsAt, srcA, subA, eqFs, Int.cast_ofNat_Int, simprocAttr, il]
        simp [frzN, frzK, frzL, frzV, frzL_T _ (isTL_ks _ _)]
      · rw [if_pos h4]
        simp (maxSteps := 4000000) (disch := omega) only [abv, step, stepv, ev, wl, wn, wp, wz, aop, cV, cV1, AV.one, partCells, okW, onlyFr, app, sliceCells, cellsAt, srcA, subA, eqFs, Int.cast_ofNat_Int, simprocAttr]
        simp [frzN, frzK, frzL, frzV]
    · rw [if_pos h3, erA]
      have h12 : restM V N a = 12 := by
        unfold restM at h3 ⊢
        split at h3
        · rename_i h; rw [if_pos h]
        · rename_i h
          rw [if_neg h]
          split at h3
          · omega
          · rename_i h'; rw [if_neg h']
      rw [h12] at hR'
      simp (maxSteps := 4000000) (disch := omega) only [abv, step, stepv, ev, wl, wn, wp, wz, aop, cV, cV1, AV.one, partCells, okW, onlyFr, app, sliceCells, cellsAt, srcA, subA, eqFs, Int.cast_ofNat_Int, simprocAttr, ac_cadenzaref21_Decode, shA, bs, hk, tt, ot]
      refine callQ.vc hA' ?_
      simp (maxSteps := 4000000) (disch := omega) only [abv, step, stepv, ev, wl, wn, wp, wz, aop, cV, cV1, AV.one, partCells, okW, onlyFr, app, sliceCells, cellsAt, srcA, subA, eqFs, Int.cast_ofNat_Int, simprocAttr]
      refine callQ.vc hO' ?_
      simp (maxSteps := 4000000) (disch := omega) only [abv, step, stepv, ev, wl, wn, wp, wz, aop, cV, cV1, AV.one, partCells, okW, onlyFr, app, sliceCells, cellsAt, srcA, subA, eqFs, Int.cast_ofNat_Int, simprocAttr, tk, n5]
      refine callD.vc hR' ?_
      simp (maxSteps := 4000000) (disch := omega) only [abv, step, stepv, ev, wl, wn, wp, wz, aop, cV, cV1, AV.one, partCells, okW, onlyFr, app, sliceCells, cellsAt, srcA, subA, eqFs, Int.cast_ofNat_Int, simprocAttr]
      simp [frzN, frzK, frzL, frzV]

set_option maxHeartbeats 2000000 in
theorem deframe_Decode {P : Prg} {f fE fO fF fV fG fS t0 t1 t2 : Nat} (bd : Body P f 87 [.tmp 8, .tmp 9] (ac_deframe_Decode fE fO fF fV fG fS t0 t1 t2)) (hE0 : S_ECheck P fE) (hO : S_opened P fO) (hF : S_bOf P fF) (hV : S_dVals P fV) (hG : S_bGet P fG) (hS : S_DSam P fS) : S_Decode P f := by
  intro c x n t b ht hI hb
  refine VC.of_walk 1 (by simp [isDL, isD_bs, isDL_ks, isD, shA]) (isD_decA _ _ _ _ _) (ACall.of_body bd (by simp) ?_)
  have hE' := hE0 c x
  have hO' := hO b hb
  have hk : (ks .i32 t).length = 16 := by simp [ks_length, ht]
  have tt : (ks .i32 t).take 16 = ks .i32 t := take_all (by omega)
  have ot := ks_one .i32 t
  rw [shA] at hE'
  simp only [bs] at hO'
  unfold decA
  rcases eCheck_cases c x with g1 | ⟨g1, g2, g3, g4⟩
  · have h1 : ask21 c x n = 2 := by unfold ask21; rw [if_pos (by omega)]
    rw [g1] at hE'
    rw [if_pos (by omega), erA]
    simp (maxSteps := 4000000) (disch := omega) only [abv, step, stepv, ev, wl, wn, wp, wz, aop, cV, cV1, AV.one, partCells, okW, onlyFr, app, sliceCells, cellsAt, srcA, subA, eqFs, Int.cast_ofNat_Int, simprocAttr, ac_deframe_Decode, shA, bs, hk, tt, ot]
    refine callQ.vc hE' ?_
    simp (maxSteps := 4000000) (disch := omega) only [abv, step, stepv, ev, wl, wn, wp, wz, aop, cV, cV1, AV.one, partCells, okW, onlyFr, app, sliceCells, cellsAt, srcA, subA, eqFs, Int.cast_ofNat_Int, simprocAttr]
    simp [frzN, frzK, frzL, frzV]
  rw [g1] at hE'
  have ed : ((4000 : Int)).tdiv c = 4000 / c := Int.tdiv_eq_ediv_of_nonneg (by omega)
  have hc0 : c ≠ 0 := by omega
  have hd1 : 4000 / c ≤ 4000 := by
    have := Int.ediv_le_self c (show (0 : Int) ≤ 4000 by omega)
    exact this
  have hd0 : 0 ≤ 4000 / c := Int.ediv_nonneg (by omega) (by omega)
  by_cases h1 : ask21 c x n = 0
  case neg =>
    rw [if_pos h1, erA]
    have h1' : n < 1 ∨ 4000 / c < n := by
      unfold ask21 at h1
      rw [if_neg (by omega)] at h1
      split at h1
      · exact .inl (by assumption)
      split at h1
      · exact .inr (by assumption)
      · omega
    obtain ⟨q, hq⟩ : ∃ q, q = 4000 / c := ⟨_, rfl⟩
    rw [← hq] at hd0 hd1 h1' ed
    have ed2 : (4000 : Int) / c = q := hq.symm
    clear hq
    by_cases h1'' : n < 1
    · simp (maxSteps := 4000000) (disch := omega) only [abv, step, stepv, ev, wl, wn, wp, wz, aop, cV, cV1, AV.one, partCells, okW, onlyFr, app, sliceCells, cellsAt, srcA, subA, eqFs, Int.cast_ofNat_Int, simprocAttr, ac_deframe_Decode, shA, bs, hk, tt, ot]
      refine callQ.vc hE' ?_
      simp (maxSteps := 4000000) (disch := omega) only [abv, step, stepv, ev, wl, wn, wp, wz, aop, cV, cV1, AV.one, partCells, okW, onlyFr, app, sliceCells, cellsAt, srcA, subA, eqFs, Int.cast_ofNat_Int, simprocAttr]
      simp [frzN, frzK, frzL, frzV]
    · have h1''' : q < n := by omega
      simp (maxSteps := 4000000) (disch := omega) only [abv, step, stepv, ev, wl, wn, wp, wz, aop, cV, cV1, AV.one, partCells, okW, onlyFr, app, sliceCells, cellsAt, srcA, subA, eqFs, Int.cast_ofNat_Int, simprocAttr, ac_deframe_Decode, shA, bs, hk, tt, ot]
      refine callQ.vc hE' ?_
      simp (maxSteps := 4000000) (disch := omega) only [abv, step, stepv, ev, wl, wn, wp, wz, aop, cV, cV1, AV.one, partCells, okW, onlyFr, app, sliceCells, cellsAt, srcA, subA, eqFs, Int.cast_ofNat_Int, simprocAttr, ed, ed2, hc0]
      simp [frzN, frzK, frzL, frzV]
  rw [if_neg (by omega)]
  obtain ⟨_, c', n', rfl, rfl, q1, q2, q3, q4, q5⟩ := ask21_cases h1
  have hnq : (n' : Int) ≤ 4000 / (c' : Int) := by
    unfold ask21 at h1
    rw [if_neg (by omega)] at h1
    split at h1
    · omega
    split at h1
    · omega
    · omega
  obtain ⟨q, hq⟩ : ∃ q, q = (4000 : Int) / (c' : Int) := ⟨_, rfl⟩
  rw [← hq] at hd0 hd1 hnq ed
  have ed2 : (4000 : Int) / (c' : Int) = q := hq.symm
  clear hq
  by_cases h2 : openM b = 0
  case neg =>
    have h2' : ((openM b : Nat) : Int) ≠ 0 := by omega
    rw [opA, if_neg h2] at hO'
    rw [if_pos h2, erA]
    generalize openM b = m at *
    simp (maxSteps := 4000000) (disch := omega) only [abv, step, stepv, ev, wl, wn, wp, wz, aop, cV, cV1, AV.one, partCells, okW, onlyFr, app, sliceCells, cellsAt, srcA, subA, eqFs, Int.cast_ofNat_Int, simprocAttr, ac_deframe_Decode, shA, bs, hk, tt, ot]
    refine callQ.vc hE' ?_
    simp (maxSteps := 4000000) (disch := omega) only [abv, step, stepv, ev, wl, wn, wp, wz, aop, cV, cV1, AV.one, partCells, okW, onlyFr, app, sliceCells, cellsAt, srcA, subA, eqFs, Int.cast_ofNat_Int, simprocAttr, ed, ed2, hc0]
    refine callQ.vc hO' ?_
    simp (maxSteps := 4000000) (disch := omega) only [abv, step, stepv, ev, wl, wn, wp, wz, aop, cV, cV1, AV.one, partCells, okW, onlyFr, app, sliceCells, cellsAt, srcA, subA, eqFs, Int.cast_ofNat_Int, simprocAttr]
    simp [frzN, frzK, frzL, frzV]
  rw [if_neg (by omega)]
  have hbl : 5 ≤ b.length ∧ b.length ≤ 41254 := by
    unfold openM at h2
    split at h2
    · omega
    split at h2
    · omega
    · omega
  rw [opA, if_pos h2] at hO'
  have hpl : (b.take (b.length - 4)).length = b.length - 4 := by simp
  have hF' := hF (b.take (b.length - 4)) (by omega)
  have hVlt := leN_lt' (b.take (b.length - 4))
  have hbA := bA_of (b.take (b.length - 4))
  rw [ofA, if_neg (by omega), hbA] at hF'
  simp only [Int.toNat_natCast]
  have hV' := hV (8 * (b.take (b.length - 4)).length) (leN (b.take (b.length - 4))) c' n' hVlt (by omega) q1 q2 q4
  have hG0 := fun a m => hG (8 * (b.take (b.length - 4)).length) (leN (b.take (b.length - 4))) a m hVlt (by omega)
  rw [hbA] at hV'
  simp only [hbA] at hG0
  simp only [bs, hpl] at hF' hV' hG0 hO' hVlt ⊢
  have hNN : 8 * (b.length - 4) ≤ 330000 := by omega
  generalize hp : b.take (b.length - 4) = p at *
  generalize leN p = V at *
  obtain ⟨N, hN⟩ : ∃ N, N = 8 * (b.length - 4) := ⟨_, rfl⟩
  rw [← hN] at hF' hV' hG0 hVlt hNN ⊢
  have hokv := fun o a (h : valsM V N c' (n' * c') [] 0 = .inr (o, a)) => okV_of q1 q2 q3 q4 h
  have hspec := vals_spec (V := V) (N := N) (c := c') (n' * c') [] 0 (Nat.zero_le _) (fun x hx => by simp at hx)
  cases hw : valsM V N c' (n' * c') [] 0 with
  | inl w =>
    obtain ⟨e, o⟩ := w
    have he := (hspec.1 e o hw).1
    have he0 : (e : Int) ≠ 0 := by omega
    rw [hw, vlA] at hV'
    simp only [decV, erA]
    simp (maxSteps := 4000000) (disch := omega) only [abv, step, stepv, ev, wl, wn, wp, wz, aop, cV, cV1, AV.one, partCells, okW, onlyFr, app, sliceCells, cellsAt, srcA, subA, eqFs, Int.cast_ofNat_Int, simprocAttr, ac_deframe_Decode, shA, bs, hk, tt, ot]
    refine callQ.vc hE' ?_
    simp (maxSteps := 4000000) (disch := omega) only [abv, step, stepv, ev, wl, wn, wp, wz, aop, cV, cV1, AV.one, partCells, okW, onlyFr, app, sliceCells, cellsAt, srcA, subA, eqFs, Int.cast_ofNat_Int, simprocAttr, ed, ed2, hc0]
    refine callQ.vc hO' ?_
    simp (maxSteps := 4000000) (disch := omega) only [abv, step, stepv, ev, wl, wn, wp, wz, aop, cV, cV1, AV.one, partCells, okW, onlyFr, app, sliceCells, cellsAt, srcA, subA, eqFs, Int.cast_ofNat_Int, simprocAttr]
    refine callQ.vc hF' ?_
    simp (maxSteps := 4000000) (disch := omega) only [abv, step, stepv, ev, wl, wn, wp, wz, aop, cV, cV1, AV.one, partCells, okW, onlyFr, app, sliceCells, cellsAt, srcA, subA, eqFs, Int.cast_ofNat_Int, simprocAttr]
    refine callQ.vc hV' ?_
    simp (maxSteps := 4000000) (disch := omega) only [abv, step, stepv, ev, wl, wn, wp, wz, aop, cV, cV1, AV.one, partCells, okW, onlyFr, app, sliceCells, cellsAt, srcA, subA, eqFs, Int.cast_ofNat_Int, simprocAttr]
    simp [frzN, frzK, frzL, frzV]
  | inr w =>
    obtain ⟨o, a⟩ := w
    obtain ⟨hv, ha, hol⟩ := hokv o a hw
    rw [hw, vlA, n32A, u32L, List.length_map] at hV'
    simp only [decV]
    have hS' := hS c' x t (iL o) ht hI hv q5
    rw [shA, u32L, iL, List.length_map] at hS'
    by_cases h8 : 7 < N - a
    · have h12 : restM V N a = 12 := by unfold restM; rw [if_pos h8]
      rw [h12, if_pos (by omega), erA]
      simp (maxSteps := 4000000) (disch := omega) only [abv, step, stepv, ev, wl, wn, wp, wz, aop, cV, cV1, AV.one, partCells, okW, onlyFr, app, sliceCells, cellsAt, srcA, subA, eqFs, Int.cast_ofNat_Int, simprocAttr, ac_deframe_Decode, shA, bs, hk, tt, ot]
      refine callQ.vc hE' ?_
      simp (maxSteps := 4000000) (disch := omega) only [abv, step, stepv, ev, wl, wn, wp, wz, aop, cV, cV1, AV.one, partCells, okW, onlyFr, app, sliceCells, cellsAt, srcA, subA, eqFs, Int.cast_ofNat_Int, simprocAttr, ed, ed2, hc0]
      refine callQ.vc hO' ?_
      simp (maxSteps := 4000000) (disch := omega) only [abv, step, stepv, ev, wl, wn, wp, wz, aop, cV, cV1, AV.one, partCells, okW, onlyFr, app, sliceCells, cellsAt, srcA, subA, eqFs, Int.cast_ofNat_Int, simprocAttr]
      refine callQ.vc hF' ?_
      simp (maxSteps := 4000000) (disch := omega) only [abv, step, stepv, ev, wl, wn, wp, wz, aop, cV, cV1, AV.one, partCells, okW, onlyFr, app, sliceCells, cellsAt, srcA, subA, eqFs, Int.cast_ofNat_Int, simprocAttr]
      refine callQ.vc hV' ?_
      simp (maxSteps := 4000000) (disch := omega) only [abv, step, stepv, ev, wl, wn, wp, wz, aop, cV, cV1, AV.one, partCells, okW, onlyFr, app, sliceCells, cellsAt, srcA, subA, eqFs, Int.cast_ofNat_Int, simprocAttr]
      simp [frzN, frzK, frzL, frzV]
    · have hG' := hG0 a (N - a) (by omega) (by omega)
      rw [if_neg (by omega)] at hG'
      have hlt : V / 2 ^ a < 2 ^ (N - a) := Nat.div_lt_of_lt_mul (by rw [← Nat.pow_add, show a + (N - a) = N by omega]; exact hVlt)
      rw [Nat.mod_eq_of_lt hlt] at hG'
      have eNa : (N : Int) - a = ((N - a : Nat) : Int) := by omega
      have h7 : 2 ^ (N - a) ≤ 2 ^ 7 := Nat.pow_le_pow_right (by omega) (by omega)
      have hr : restM V N a = if V / 2 ^ a = 0 then 0 else 12 := by unfold restM; rw [if_neg h8]
      rw [hr]
      generalize V / 2 ^ a = y at *
      obtain ⟨m, hm⟩ : ∃ m, m = N - a := ⟨_, rfl⟩
      rw [← hm] at hG' eNa
      have hm7 : m ≤ 7 := by omega
      by_cases h0 : y = 0
      · subst h0
        rw [if_pos rfl, if_neg (by omega)]
        have hG'' : VC P fG [.agg [.list (b.length - 4) (u8 p), .int .i64 N], .int .i64 a, .int .i64 m] (.tup [.int .u64 0, .int .i64 0]) := hG'
        simp (maxSteps := 4000000) (disch := omega) only [abv, step, stepv, ev, wl, wn, wp, wz, aop, cV, cV1, AV.one, partCells, okW, onlyFr, app, sliceCells, cellsAt, srcA, subA, eqFs, Int.cast_ofNat_Int, simprocAttr, ac_deframe_Decode, shA, bs, hk, tt, ot]
        refine callQ.vc hE' ?_
        simp (maxSteps := 4000000) (disch := omega) only [abv, step, stepv, ev, wl, wn, wp, wz, aop, cV, cV1, AV.one, partCells, okW, onlyFr, app, sliceCells, cellsAt, srcA, subA, eqFs, Int.cast_ofNat_Int, simprocAttr, ed, ed2, hc0]
        refine callQ.vc hO' ?_
        simp (maxSteps := 4000000) (disch := omega) only [abv, step, stepv, ev, wl, wn, wp, wz, aop, cV, cV1, AV.one, partCells, okW, onlyFr, app, sliceCells, cellsAt, srcA, subA, eqFs, Int.cast_ofNat_Int, simprocAttr]
        refine callQ.vc hF' ?_
        simp (maxSteps := 4000000) (disch := omega) only [abv, step, stepv, ev, wl, wn, wp, wz, aop, cV, cV1, AV.one, partCells, okW, onlyFr, app, sliceCells, cellsAt, srcA, subA, eqFs, Int.cast_ofNat_Int, simprocAttr]
        refine callQ.vc hV' ?_
        simp (maxSteps := 4000000) (disch := omega) only [abv, step, stepv, ev, wl, wn, wp, wz, aop, cV, cV1, AV.one, partCells, okW, onlyFr, app, sliceCells, cellsAt, srcA, subA, eqFs, Int.cast_ofNat_Int, simprocAttr, eNa]
        refine callQ.vc hG'' ?_
        simp (maxSteps := 4000000) (disch := omega) only [abv, step, stepv, ev, wl, wn, wp, wz, aop, cV, cV1, AV.one, partCells, okW, onlyFr, app, sliceCells, cellsAt, srcA, subA, eqFs, Int.cast_ofNat_Int, simprocAttr, hk, tt, ot]
        refine callQ.vc hS' ?_
        simp only [iL]
        generalize unB c' x t (o.map fun n : Nat => (n : Int)) = z at *
        unfold rngA
        by_cases h4 : checkN x z = 0
        · rw [if_neg (by omega)]
          simp (maxSteps := 4000000) (disch := omega) only [abv, step, stepv, ev, wl, wn, wp, wz, aop, cV, cV1, AV.one, partCells, okW, onlyFr, app, sliceCells, cellsAt, srcA, subA, eqFs, Int.cast_ofNat_Int, simprocAttr, il]
          simp [frzN, frzK, frzL, frzV, frzL_T _ (isTL_ks _ _)]
        · rw [if_pos h4]
          simp (maxSteps := 4000000) (disch := omega) only [abv, step, stepv, ev, wl, wn, wp, wz, aop, cV, cV1, AV.one, partCells, okW, onlyFr, app, sliceCells, cellsAt, srcA, subA, eqFs, Int.cast_ofNat_Int, simprocAttr]
          simp [frzN, frzK, frzL, frzV]
      · rw [if_neg h0, if_pos (by omega), erA]
        simp (maxSteps := 4000000) (disch := omega) only [abv, step, stepv, ev, wl, wn, wp, wz, aop, cV, cV1, AV.one, partCells, okW, onlyFr, app, sliceCells, cellsAt, srcA, subA, eqFs, Int.cast_ofNat_Int, simprocAttr, ac_deframe_Decode, shA, bs, hk, tt, ot]
        refine callQ.vc hE' ?_
        simp (maxSteps := 4000000) (disch := omega) only [abv, step, stepv, ev, wl, wn, wp, wz, aop, cV, cV1, AV.one, partCells, okW, onlyFr, app, sliceCells, cellsAt, srcA, subA, eqFs, Int.cast_ofNat_Int, simprocAttr, ed, ed2, hc0]
        refine callQ.vc hO' ?_
        simp (maxSteps := 4000000) (disch := omega) only [abv, step, stepv, ev, wl, wn, wp, wz, aop, cV, cV1, AV.one, partCells, okW, onlyFr, app, sliceCells, cellsAt, srcA, subA, eqFs, Int.cast_ofNat_Int, simprocAttr]
        refine callQ.vc hF' ?_
        simp (maxSteps := 4000000) (disch := omega) only [abv, step, stepv, ev, wl, wn, wp, wz, aop, cV, cV1, AV.one, partCells, okW, onlyFr, app, sliceCells, cellsAt, srcA, subA, eqFs, Int.cast_ofNat_Int, simprocAttr]
        refine callQ.vc hV' ?_
        simp (maxSteps := 4000000) (disch := omega) only [abv, step, stepv, ev, wl, wn, wp, wz, aop, cV, cV1, AV.one, partCells, okW, onlyFr, app, sliceCells, cellsAt, srcA, subA, eqFs, Int.cast_ofNat_Int, simprocAttr, eNa]
        refine callQ.vc hG' ?_
        simp (maxSteps := 4000000) (disch := omega) only [abv, step, stepv, ev, wl, wn, wp, wz, aop, cV, cV1, AV.one, partCells, okW, onlyFr, app, sliceCells, cellsAt, srcA, subA, eqFs, Int.cast_ofNat_Int, simprocAttr]
        simp [frzN, frzK, frzL, frzV]

end Go.Am

namespace Go.Am
open Go.RowKit

/-! ### verdict.good -/

theorem mod_mul (m c : Nat) : (m * c) % c = 0 := Nat.mul_mod_left m c
/-! ### verdict.Judge -/

end Go.Am

namespace Go.Am
open Go.RowKit

/-! ### Codes (plain) -/

theorem N32.take {v : List Nat} (h : N32 v) (i : Nat) : N32 (v.take i) := fun x hx => h x (List.mem_of_mem_take hx)
theorem N32.getD {v : List Nat} (h : N32 v) (i : Nat) : v.getD i 0 < 4294967296 := by
  rw [List.getD_eq_getElem?_getD]
  cases hx : v[i]? with
  | none => simp
  | some x => exact h x (List.mem_of_getElem? hx)
end Go.Am

namespace Go.Am
open Go.RowKit

/-! ### Codes are written -/

theorem getJ (ob J : List Ob) (k : Nat) : (ob ++ J)[ob.length + k]? = J[k]? := by rw [List.getElem?_append_right (by omega), Nat.add_sub_cancel_left]
theorem getJ0 (ob J : List Ob) : (ob ++ J)[ob.length]? = J[0]? := getJ ob J 0
theorem setJ (ob J : List Ob) (k : Nat) (y : Ob) : (ob ++ J).set (ob.length + k) y = ob ++ J.set k y := by rw [List.set_append_right _ _ (by omega), Nat.add_sub_cancel_left]
theorem setJ0 (ob J : List Ob) (y : Ob) : (ob ++ J).set ob.length y = ob ++ J.set 0 y := setJ ob J 0 y

end Go.Am

namespace Go.Am
open Go.RowKit

/-! ### Lists of numbers: slices.Concat, slices.Repeat, lengths.All -/

def nl (l : List Int) : AV := .list l.length (ks .i64 l)
theorem isD_nl (l : List Int) : isD (nl l) = true := by simp [nl, isD, isDL_ks]
def nls (L : List (List Int)) : AV := .list L.length (L.map nl)
theorem isDL_nls : ∀ L : List (List Int), isDL (L.map nl) = true
  | [] => rfl
  | l :: L => by simp [isDL, isD_nl, isDL_nls L]
def S_ConcatI (t : Nat) (P : Prg) (f : Nat) : Prop := ∀ L : List (List Int), L.length ≤ 1000000 → 0 < L.flatten.length → L.flatten.length ≤ 1000000 → VO P f [nls L] (.own 0 L.flatten.length) ⟨t, 1, L.flatten.length, ks .i64 L.flatten, 0⟩
theorem grow_nilI {P : Prg} {f t : Nat} {ρ : Go.Shelf.Ren} (L : Go.Proofs.Lays8.n4 P.prog ρ) (hf : ρ.f 4 = f) (ht : ρ.t 25 = t) (h25 : (P.prog.info? t).map (fun i => (i.zero, i.size, i.bytes)) = some (some (.int .i64 0), 1, 8)) : ∀ (ob : List Ob) (n : Nat) (z : Bool) (K : AV → List Ob → Prop), 0 < n → n ≤ 1000000 → K (.own ob.length 0) (ob ++ [⟨t, 1, 0, [], 0⟩]) → ACall P f [.emp z, .int .i64 n] ob K := by
  intro ob n z K h1 h2 hK
  subst hf; subst ht
  exact ACall.grow_nilI (by omega) L h25 h1 (by omega) hK
def S_GrowNilI (t : Nat) (P : Prg) (f : Nat) : Prop := ∀ (ob : List Ob) (n : Nat) (z : Bool) (K : AV → List Ob → Prop), 0 < n → n ≤ 1000000 → K (.own ob.length 0) (ob ++ [⟨t, 1, 0, [], 0⟩]) → ACall P f [.emp z, .int .i64 n] ob K
theorem flatI_take {L : List (List Int)} {k : Nat} (h : k < L.length) : (L.take (k + 1)).flatten = (L.take k).flatten ++ L.getD k [] := by
  rw [List.take_succ_eq_append_getElem h, List.flatten_append, List.getD_eq_getElem?_getD, List.getElem?_eq_getElem h]
  simp
theorem flatI_le (L : List (List Int)) (k : Nat) : (L.take k).flatten.length ≤ L.flatten.length := by
  conv => rhs; rw [← List.take_append_drop k L, List.flatten_append, List.length_append]
  omega
theorem slices_ConcatI {P : Prg} {f fG t0 : Nat} (bd : Body P f 36 [.tmp 2] (ac_slices_Concat_int_int fG t0)) (hG : S_GrowNilI t0 P fG) : S_ConcatI t0 P f := by
  intro L hL h0 h1
  refine VO.of_walk (by simp [isDL, isD, nls, isDL_nls]) (isDL_ks _ _) (by simp [okr]) (ACall.of_body bd (by simp) ?_)
  have hat : ∀ k, k < L.length → (L.map nl).drop k = nl (L.getD k []) :: (L.map nl).drop (k + 1) := fun k hk => by
    rw [List.drop_eq_getElem_cons (by simpa using hk)]
    simp [List.getD_eq_getElem?_getD, List.getElem?_eq_getElem hk]
  have hml : (L.map nl).length = L.length := by simp
  simp only [nl] at hat
  simp (maxSteps := 4000000) (disch := omega) only [abv, step, stepv, ev, wl, wn, wp, wz, aop, cV, cV1, AV.one, partCells, okW, onlyFr, app, sliceCells, cellsAt, srcA, subA, eqFs, Int.cast_ofNat_Int, simprocAttr, ac_slices_Concat_int_int, nls]
  refine ALoop.by (ι := Nat) (fun k => ⟨[(11, .int .i64 k), (10, .int .i64 L.length), (9, .list L.length (L.map nl)), (3, .int .i64 (L.take k).flatten.length), (0, .list L.length (L.map nl))], []⟩) (fun k => k ≤ L.length) (fun k => L.length - k) 0 (Le.slots (by simp [Am.look])) (by omega) ?_
  intro k hk
  by_cases hlt : k < L.length
  · have ha := hat k hlt
    have hf := flatI_take hlt
    have hle := flatI_le L (k + 1)
    rw [hf, List.length_append] at hle
    have hl : ((L.take (k + 1)).flatten.length : Int) = (L.take k).flatten.length + (L.getD k []).length := by rw [hf]; simp
    generalize (L.take k).flatten.length = s at *
    generalize L.getD k [] = x at *
    simp (maxSteps := 4000000) (disch := omega) only [abv, step, stepv, ev, wl, wn, wp, wz, aop, cV, cV1, AV.one, partCells, okW, onlyFr, app, sliceCells, cellsAt, srcA, subA, eqFs, Int.cast_ofNat_Int, simprocAttr, ha, hml]
    exact ⟨k + 1, by omega, by omega, by simp only [hl]; exact Le.slots (by simp [Am.look])⟩
  obtain rfl : k = L.length := by omega
  rw [List.take_length]
  have hG' := fun K hK => hG [] L.flatten.length true K h0 h1 hK
  simp (maxSteps := 4000000) (disch := omega) only [abv, step, stepv, ev, wl, wn, wp, wz, aop, cV, cV1, AV.one, partCells, okW, onlyFr, app, sliceCells, cellsAt, srcA, subA, eqFs, Int.cast_ofNat_Int, simprocAttr]
  refine hG' _ ?_
  simp (maxSteps := 4000000) (disch := omega) only [abv, step, stepv, ev, wl, wn, wp, wz, aop, cV, cV1, AV.one, partCells, okW, onlyFr, app, sliceCells, cellsAt, srcA, subA, eqFs, Int.cast_ofNat_Int, simprocAttr]
  refine ALoop.by (ι := Nat) (fun k => ⟨[(27, .int .i64 k), (26, .int .i64 L.length), (25, .list L.length (L.map nl)), (6, .own 0 (L.take k).flatten.length)], [⟨t0, 1, (L.take k).flatten.length, ks .i64 (L.take k).flatten, 0⟩]⟩) (fun k => k ≤ L.length) (fun k => L.length - k) 0 (Le.slots (by simp [Am.look, ks])) (by omega) ?_
  intro k hk
  by_cases hlt : k < L.length
  · have ha := hat k hlt
    have hf := flatI_take hlt
    have hle := flatI_le L (k + 1)
    rw [hf, List.length_append] at hle
    have hl : (L.take (k + 1)).flatten.length = (L.take k).flatten.length + (L.getD k []).length := by rw [hf]; simp
    have hu : ks .i64 (L.take (k + 1)).flatten = ks .i64 (L.take k).flatten ++ ks .i64 (L.getD k []) := by rw [hf]; simp [ks]
    have hc : (ks .i64 (L.take k).flatten).length = (L.take k).flatten.length := ks_length _ _
    have hx : (ks .i64 (L.getD k [])).length = (L.getD k []).length := ks_length _ _
    generalize ks .i64 (L.take k).flatten = cs at *
    generalize (L.take k).flatten.length = s at *
    generalize ks .i64 (L.getD k []) = us at *
    generalize (L.getD k []).length = xl at *
    simp (maxSteps := 4000000) (disch := omega) only [abv, step, stepv, ev, wl, wn, wp, wz, aop, cV, cV1, AV.one, partCells, okW, onlyFr, app, sliceCells, cellsAt, srcA, subA, eqFs, Int.cast_ofNat_Int, simprocAttr, ha, hml, hc, hx]
    exact ⟨k + 1, by omega, by omega, by rw [hl, hu]; exact Le.slots (by simp [Am.look])⟩
  obtain rfl : k = L.length := by omega
  rw [List.take_length]
  simp (maxSteps := 4000000) (disch := omega) only [abv, step, stepv, ev, wl, wn, wp, wz, aop, cV, cV1, AV.one, partCells, okW, onlyFr, app, sliceCells, cellsAt, srcA, subA, eqFs, Int.cast_ofNat_Int, simprocAttr]
  exact ⟨0, rfl, rfl⟩

end Go.Am

namespace Go.Am
open Go.RowKit

def S_Mul (P : Prg) (f : Nat) : Prop := ∀ x y : Nat, x ≤ 65535 → y ≤ 65535 → VC P f [.int .u64 x, .int .u64 y] (.tup [.int .u64 0, .int .u64 ((x * y : Nat) : Int)])
theorem math_Mul64 {P : Prg} {f : Nat} (bd : Body P f 51 [.tmp 4, .tmp 5] ac_math_bits_Mul64) : S_Mul P f := by
  intro x y hx hy
  refine VC.of_acall rfl rfl (ACall.of_body bd (by simp) ?_)
  have hxy : x * y ≤ 65535 * 65535 := Nat.mul_le_mul hx hy
  have hm : (x : Int) * (y : Int) = ((x * y : Nat) : Int) := by simp
  have an : ∀ a : Nat, a ≤ 4294967295 → IntKind.u64.wrap (BitVec.ofInt IntKind.u64.bits (a : Int) &&& BitVec.ofInt IntKind.u64.bits 4294967295).toNat = (a : Int) := by
    intro a ha
    have := and_u64 a 4294967295 (by omega) (by decide)
    rw [show (4294967295 : Nat) = 2 ^ 32 - 1 from rfl, Nat.and_two_pow_sub_one_eq_mod, Nat.mod_eq_of_lt (by omega)] at this
    exact this
  have sh : ∀ a : Nat, a ≤ 4294967295 → shiftA false .u64 (a : Int) 32 = some (.int .u64 0) := by
    intro a ha
    have := shrK (K := .u64) (n := a) (k := 32) (by decide)
    rw [Nat.div_eq_of_lt (by omega)] at this
    exact this
  have a1 := an x (by omega)
  have a2 := an y (by omega)
  have a3 : IntKind.u64.wrap (BitVec.ofInt IntKind.u64.bits 0 &&& BitVec.ofInt IntKind.u64.bits 4294967295).toNat = 0 := by decide
  have s1 := sh x (by omega)
  have s2 := sh y (by omega)
  have s3 := sh (x * y) (by omega)
  have s4 : shiftA false .u64 0 32 = some (.int .u64 0) := sh 0 (by omega)
  generalize x * y = z at *
  simp (maxSteps := 4000000) (disch := omega) only [abv, step, stepv, ev, wl, wn, wp, wz, aop, cV, cV1, AV.one, partCells, okW, onlyFr, app, sliceCells, cellsAt, srcA, subA, eqFs, Int.cast_ofNat_Int, simprocAttr, ac_math_bits_Mul64, a1, a2, a3, s1, s2, s3, s4, hm, Int.zero_mul, Int.mul_zero, Int.add_zero, Int.zero_add]
theorem math_Mul {P : Prg} {f f32 f64 : Nat} (bd : Body P f 30 [.tmp 4, .tmp 5] (ac_math_bits_Mul f32 f64)) (h64 : S_Mul P f64) : S_Mul P f := by
  intro x y hx hy
  refine VC.of_acall rfl rfl (ACall.of_body bd (by simp) ?_)
  have h := h64 x y hx hy
  generalize x * y = z at *
  simp (maxSteps := 4000000) (disch := omega) only [abv, step, stepv, ev, wl, wn, wp, wz, aop, cV, cV1, AV.one, partCells, okW, onlyFr, app, sliceCells, cellsAt, srcA, subA, eqFs, Int.cast_ofNat_Int, simprocAttr, ac_math_bits_Mul]
  refine callQ.vc h ?_
  simp (maxSteps := 4000000) (disch := omega) only [abv, step, stepv, ev, wl, wn, wp, wz, aop, cV, cV1, AV.one, partCells, okW, onlyFr, app, sliceCells, cellsAt, srcA, subA, eqFs, Int.cast_ofNat_Int, simprocAttr]

def rpL (v : Int) (m c : Nat) : List Int := List.replicate m v ++ List.replicate (c - m) 0
theorem rp_len {v : Int} {m c : Nat} (h : m ≤ c) : (rpL v m c).length = c := by simp [rpL]; omega
def S_Repeat1 (t : Nat) (P : Prg) (f : Nat) : Prop := ∀ (v : Int) (c : Nat), c ≤ 1000 → VO P f [nl [v], .int .i64 c] (.own 0 c) ⟨t, 1, c, ks .i64 (List.replicate c v), 0⟩
theorem slices_Repeat1 {P : Prg} {f fM t0 : Nat} (bd : Body P f 48 [.tmp 4] (ac_slices_Repeat_int_int fM t0)) (hM : S_Mul P fM) : S_Repeat1 t0 P f := by
  intro v c hc
  refine VO.of_walk (by simp [isDL, isD_nl, isD]) (isDL_ks _ _) (by simp [okr]) (ACall.of_body bd (by simp) ?_)
  have hM' := hM 1 c (by omega) (by omega)
  rw [Nat.one_mul] at hM'
  have hM2 : VC P fM [.int .u64 1, .int .u64 c] (.tup [.int .u64 0, .int .u64 c]) := hM'
  have e1 : nl [v] = .list 1 [.int .i64 v] := rfl
  have er : repCells [.int .i64 0] c = ks .i64 (List.replicate c 0) := rep_ks .i64 c
  have hl : (ks .i64 (List.replicate c 0)).length = c := by simp [ks_length]
  rw [e1]
  simp (maxSteps := 4000000) (disch := omega) only [abv, step, stepv, ev, wl, wn, wp, wz, aop, cV, cV1, AV.one, partCells, okW, onlyFr, app, sliceCells, cellsAt, srcA, subA, eqFs, Int.cast_ofNat_Int, simprocAttr, ac_slices_Repeat_int_int]
  refine callQ.vc hM2 ?_
  by_cases h0 : c = 0
  · subst h0
    simp (maxSteps := 4000000) (disch := omega) only [abv, step, stepv, ev, wl, wn, wp, wz, aop, cV, cV1, AV.one, partCells, okW, onlyFr, app, sliceCells, cellsAt, srcA, subA, eqFs, Int.cast_ofNat_Int, simprocAttr, er]
    refine ALoop.by (ι := Nat) (fun _ => ⟨[(8, .int .i64 0), (7, .own 0 0)], [⟨t0, 1, 0, [], 0⟩]⟩) (fun _ => True) (fun _ => 0) 0 (Le.slots (by simp [Am.look, ks])) trivial ?_
    intro _ _
    simp (maxSteps := 4000000) (disch := omega) only [abv, step, stepv, ev, wl, wn, wp, wz, aop, cV, cV1, AV.one, partCells, okW, onlyFr, app, sliceCells, cellsAt, srcA, subA, eqFs, Int.cast_ofNat_Int, simprocAttr]
    exact ⟨0, rfl, rfl⟩
  · have hmn : Nat.min 1 c = 1 := Nat.min_eq_left (by omega)
    have hst : (1 : Int) < (c : Int) ∨ c = 1 := by omega
    simp (maxSteps := 4000000) (disch := omega) only [abv, step, stepv, ev, wl, wn, wp, wz, aop, cV, cV1, AV.one, partCells, okW, onlyFr, app, sliceCells, cellsAt, srcA, subA, eqFs, Int.cast_ofNat_Int, simprocAttr, er, hl, hmn]
    refine ALoop.by (ι := Nat) (fun m => ⟨[(8, .int .i64 m), (7, .own 0 c)], [⟨t0, 1, c, ks .i64 (rpL v m c), 0⟩]⟩) (fun m => 1 ≤ m ∧ m ≤ c) (fun m => c - m) 1 ?_ (by omega) ?_
    · have : [AV.int .i64 v] ++ (ks .i64 (List.replicate c 0)).drop 1 = ks .i64 (rpL v 1 c) := by simp [rpL, ks]
      rw [← this]
      exact Le.slots (by simp [Am.look])
    intro m hm
    obtain ⟨hm1, hm2⟩ := hm
    have hkl : (ks .i64 (rpL v m c)).length = c := by rw [ks_length, rp_len hm2]
    by_cases hlt : m < c
    · obtain ⟨q, hq⟩ : ∃ q, q = Nat.min m (c - m) := ⟨_, rfl⟩
      have hq1 : q ≤ m := by rw [hq]; exact Nat.min_le_left _ _
      have hq2 : q ≤ c - m := by rw [hq]; exact Nat.min_le_right _ _
      have hq3 : 1 ≤ q := by rw [hq]; exact Nat.le_min.2 ⟨hm1, by omega⟩
      have hmc : min m c = m := Nat.min_eq_left hm2
      have hal : ((ks .i64 (rpL v m c)).take m).all AV.one = true := by
        rw [List.all_eq_true]
        intro x hx
        exact List.all_eq_true.1 (ks_one .i64 (rpL v m c)) x (List.mem_of_mem_take hx)
      have e1 : (rpL v m c).take m = List.replicate m v := by unfold rpL; rw [List.take_left' (by simp)]
      have e2 : (rpL v m c).drop (m + q) = List.replicate (c - (m + q)) 0 := by
        unfold rpL
        rw [List.drop_append, List.drop_of_length_le (by simp), List.nil_append, List.drop_replicate, List.length_replicate]
        congr 1
        omega
      have hcs : (ks .i64 (rpL v m c)).take m ++ (((ks .i64 (rpL v m c)).take m).take q ++ (ks .i64 (rpL v m c)).drop (m + q)) = ks .i64 (rpL v (m + q) c) := by
        have k1 : ∀ l n, (ks .i64 l).take n = ks .i64 (l.take n) := fun l n => by simp [ks, List.map_take]
        have k2 : ∀ l n, (ks .i64 l).drop n = ks .i64 (l.drop n) := fun l n => by simp [ks, List.map_drop]
        have k3 : ∀ a b, ks .i64 a ++ ks .i64 b = ks .i64 (a ++ b) := fun a b => by simp [ks]
        rw [k1, e1, k1, k2, e2, List.take_replicate, Nat.min_eq_left hq1, k3, k3, ← List.append_assoc, List.replicate_append_replicate]
        rfl
      have hcs2 : (ks .i64 (rpL v m c)).take m ++ ((ks .i64 (rpL v m c)).take m).take q ++ (ks .i64 (rpL v m c)).drop (m + q) = ks .i64 (rpL v (m + q) c) := by rw [List.append_assoc]; exact hcs
      simp (maxSteps := 4000000) (disch := omega) only [abv, step, stepv, ev, wl, wn, wp, wz, aop, cV, cV1, AV.one, partCells, okW, onlyFr, app, sliceCells, cellsAt, srcA, subA, eqFs, Int.cast_ofNat_Int, simprocAttr, hkl, h0, Nat.sub_zero, hmc, hal, ← hq, Nat.mul_one, hcs2, hcs]
      refine ⟨m + q, ⟨by omega, by omega⟩, by omega, ?_⟩
      exact Le.slots (by simp [Am.look])
    · obtain rfl : m = c := by omega
      have : rpL v m m = List.replicate m v := by simp [rpL]
      rw [this]
      simp (maxSteps := 4000000) (disch := omega) only [abv, step, stepv, ev, wl, wn, wp, wz, aop, cV, cV1, AV.one, partCells, okW, onlyFr, app, sliceCells, cellsAt, srcA, subA, eqFs, Int.cast_ofNat_Int, simprocAttr]
      exact ⟨0, rfl, rfl⟩

end Go.Am

namespace Go.Am
open Go.RowKit

def S_BehO (t : Nat) (P : Prg) (f : Nat) : Prop := ∀ a b : List Int, 0 < a.length + b.length → a.length + b.length ≤ 1000000 → VO P f [nl a, nl b] (.own 0 (a.length + b.length)) ⟨t, 1, a.length + b.length, ks .i64 (a ++ b), 0⟩
theorem lengths_behind {P : Prg} {f fC t0 t1 : Nat} (bd : Body P f 9 [.tmp 4] (ac_lengths_behind fC t1)) (hC : S_ConcatI t0 P fC) : S_BehO t0 P f := by
  intro a b h0 h1
  refine VO.of_walk (by simp [isDL, isD_nl]) (isDL_ks _ _) (by simp [okr]) (ACall.of_body bd (by simp) ?_)
  have hC' := hC [a, b] (by simp) (by simpa using h0) (by simpa using h1)
  have e1 : nls [a, b] = .list 2 [nl a, nl b] := rfl
  have e2 : [a, b].flatten = a ++ b := by simp
  rw [e1, e2, List.length_append] at hC'
  have ta := isTL_ks .i64 a
  have tb := isTL_ks .i64 b
  simp only [nl] at hC' ⊢
  simp (maxSteps := 4000000) (disch := omega) only [abv, step, stepv, ev, wl, wn, wp, wz, aop, cV, cV1, AV.one, partCells, okW, onlyFr, app, sliceCells, cellsAt, srcA, subA, eqFs, Int.cast_ofNat_Int, simprocAttr, ac_lengths_behind]
  refine callQ.vo_still 1 [0] hC' (by simp [frzN, frzK, frzL, frzV, frzL_T _ ta, frzL_T _ tb]) ?_
  simp (maxSteps := 4000000) (disch := omega) only [abv, step, stepv, ev, wl, wn, wp, wz, aop, cV, cV1, AV.one, partCells, okW, onlyFr, app, sliceCells, cellsAt, srcA, subA, eqFs, Int.cast_ofNat_Int, simprocAttr, stillAt, shr]
  exact ⟨1, rfl, rfl⟩

def okA (r n : Int) : Prop := 1 ≤ r ∧ r ≤ 1048576 ∧ 1 ≤ n ∧ n ≤ 4000 ∧ (lensL (longN r).toNat n.toNat).length ≤ 1000
def S_AllO (t : Nat) (P : Prg) (f : Nat) : Prop := ∀ r n : Int, okA r n → VO P f [.int .i64 r, .int .i64 n] (.tup [.own 0 (lensL (longN r).toNat n.toNat).length, .int .i64 0]) ⟨t, 1, (lensL (longN r).toNat n.toNat).length, ks .i64 (lensL (longN r).toNat n.toNat), 0⟩
theorem lengths_All {P : Prg} {f fC fL fR fB t0 : Nat} (bd : Body P f 39 [.tmp 4, .tmp 5] (ac_lengths_All fC fL fR fB t0)) (hC : S_Count22 P fC) (hL : S_Long22 P fL) (hR : S_Repeat1 t0 P fR) (hB : S_BehO t0 P fB) : S_AllO t0 P f := by
  intro r n ⟨a1, a2, a3, a4, a5⟩
  refine VO.of_walk rfl (isDL_ks _ _) (by simp [okr, flat]) (ACall.of_body bd (by simp) ?_)
  have hlong : 1 ≤ longN r := by unfold longN; split <;> omega
  obtain ⟨L, hLe⟩ : ∃ L : Nat, longN r = L := ⟨(longN r).toNat, by omega⟩
  obtain ⟨m, rfl⟩ : ∃ m : Nat, n = m := ⟨n.toNat, by omega⟩
  rw [hLe, Int.toNat_natCast, Int.toNat_natCast] at a5 ⊢
  rw [lensL_len] at a5
  obtain ⟨q, hq⟩ : ∃ q, q = (m - 1) / L := ⟨_, rfl⟩
  have hql : (lensL L m).length = q + 1 := by rw [lensL_len, hq]
  rw [← hq] at a5
  have hcd : ((m : Int) + (L : Int) - 1) / (L : Int) = ((q + 1 : Nat) : Int) := by
    have h1 : (m : Int) + (L : Int) - 1 = ((m - 1 + L : Nat) : Int) := by omega
    rw [h1, ← Int.natCast_ediv, Nat.add_div_right _ (by omega), ← hq]
  have hk : cntA r m = .tup [.int .i64 ((q + 1 : Nat) : Int), .int .i64 0] := by
    rw [cntA, if_neg (by omega), if_neg (by omega), hLe, hcd, if_neg (by omega)]
  have hC' := hC r m
  rw [hk] at hC'
  have hL' := hL r
  rw [longA, if_neg (by omega), hLe] at hL'
  have hR' := hR L q (by omega)
  have hB' := hB (List.replicate q (L : Int)) [(m : Int) - ((q * L : Nat) : Int)] (by simp) (by simp; omega)
  have e1 : List.replicate q (L : Int) ++ [(m : Int) - ((q * L : Nat) : Int)] = lensL L m := by unfold lensL; rw [hq]
  rw [e1] at hB'
  have e2 : (List.replicate q (L : Int)).length + [(m : Int) - ((q * L : Nat) : Int)].length = q + 1 := by simp
  rw [e2] at hB'
  have e3 : nl [(L : Int)] = .list 1 [.int .i64 (L : Int)] := rfl
  have e4 : nl [(m : Int) - ((q * L : Nat) : Int)] = .list 1 [.int .i64 ((m : Int) - ((q * L : Nat) : Int))] := rfl
  rw [e3] at hR'
  rw [e4] at hB'
  have tr := isTL_ks .i64 (List.replicate q (L : Int))
  have hqL : (q : Int) * (L : Int) = ((q * L : Nat) : Int) := by simp
  have hle : q * L ≤ m := by
    have := Nat.div_mul_le_self (m - 1) L
    rw [← hq] at this
    omega
  simp only [nl, List.length_replicate] at hB'
  rw [hql]
  generalize ks .i64 (lensL L m) = LL at *
  generalize ks .i64 (List.replicate q (L : Int)) = RR at *
  generalize q * L = w at *
  simp only [Int.natCast_add, Int.cast_ofNat_Int] at hC'
  have hq1 : (q : Int) + 1 - 1 = (q : Int) := by omega
  simp (maxSteps := 4000000) (disch := omega) only [abv, step, stepv, ev, wl, wn, wp, wz, aop, cV, cV1, AV.one, partCells, okW, onlyFr, app, sliceCells, cellsAt, srcA, subA, eqFs, Int.cast_ofNat_Int, simprocAttr, ac_lengths_All]
  refine callQ.vc hC' ?_
  simp (maxSteps := 4000000) (disch := omega) only [abv, step, stepv, ev, wl, wn, wp, wz, aop, cV, cV1, AV.one, partCells, okW, onlyFr, app, sliceCells, cellsAt, srcA, subA, eqFs, Int.cast_ofNat_Int, simprocAttr]
  refine callQ.vc hL' ?_
  simp (maxSteps := 4000000) (disch := omega) only [abv, step, stepv, ev, wl, wn, wp, wz, aop, cV, cV1, AV.one, partCells, okW, onlyFr, app, sliceCells, cellsAt, srcA, subA, eqFs, Int.cast_ofNat_Int, simprocAttr, hq1]
  refine callQ.vo_still 1 [0] hR' (by simp [frzN, frzK, frzL, frzV]) ?_
  simp (maxSteps := 4000000) (disch := omega) only [abv, step, stepv, ev, wl, wn, wp, wz, aop, cV, cV1, AV.one, partCells, okW, onlyFr, app, sliceCells, cellsAt, srcA, subA, eqFs, Int.cast_ofNat_Int, simprocAttr, stillAt, shr, hq1, hqL]
  refine callQ.vo_still 1 [1, 2] hB' (by simp [frzN, frzK, frzL, frzV, frzL_T _ tr]) ?_
  simp (maxSteps := 4000000) (disch := omega) only [abv, step, stepv, ev, wl, wn, wp, wz, aop, cV, cV1, AV.one, partCells, okW, onlyFr, app, sliceCells, cellsAt, srcA, subA, eqFs, Int.cast_ofNat_Int, simprocAttr, stillAt, shr]
  exact ⟨3, rfl, rfl⟩

end Go.Am

namespace Go.Am
open Go.RowKit

/-! ### CRC-64 (plain) -/

def sixS (c : Nat) : Nat := (2 * c) % 18446744073709551616 ^^^ (if 9223372036854775808 ≤ c then 4823603603198064275 else 0)
def sixN : Nat → Nat → Nat
  | 0, c => c
  | k + 1, c => sixN k (sixS c)
theorem sixS_lt (c : Nat) : sixS c < 18446744073709551616 := by
  unfold sixS
  have : (if 9223372036854775808 ≤ c then 4823603603198064275 else 0) < 2 ^ 64 := by split <;> decide
  exact Nat.xor_lt_two_pow (n := 64) (Nat.mod_lt _ (by decide)) this
theorem sixN_lt : ∀ (k : Nat) {c : Nat}, c < 18446744073709551616 → sixN k c < 18446744073709551616
  | 0, _, h => h
  | k + 1, c, _ => sixN_lt k (sixS_lt c)
theorem sixN_succ : ∀ (k c : Nat), sixN (k + 1) c = sixS (sixN k c)
  | 0, _ => rfl
  | k + 1, c => by rw [sixN, sixN_succ k, sixN]

theorem ge_top (c : Nat) (h : c < 18446744073709551616) : (9223372036854775808 ≤ c) ↔ c.testBit 63 = true := by
  constructor
  · intro h2
    rw [Nat.testBit_eq_decide_div_mod_eq]
    have : c / 2 ^ 63 = 1 := by omega
    rw [this]; rfl
  · intro h2
    exact Nat.ge_two_pow_of_testBit h2

theorem sixS_xor {x l : Nat} (hx : x < 18446744073709551616) (hl : l < 9223372036854775808) : sixS (x ^^^ l) = sixS x ^^^ 2 * l := by
  have hxl : x ^^^ l < 18446744073709551616 := Nat.xor_lt_two_pow (n := 64) hx (by omega)
  have e1 : (9223372036854775808 ≤ x ^^^ l) ↔ (9223372036854775808 ≤ x) := by
    rw [ge_top _ hxl, ge_top _ hx, Nat.testBit_xor, Nat.testBit_lt_two_pow (show l < 2 ^ 63 from hl), Bool.xor_false]
  have e2 : (2 * (x ^^^ l)) % 18446744073709551616 = (2 * x) % 18446744073709551616 ^^^ 2 * l := by
    apply Nat.eq_of_testBit_eq
    intro i
    rw [show (18446744073709551616 : Nat) = 2 ^ 64 from rfl, Nat.testBit_mod_two_pow, Nat.testBit_xor, Nat.testBit_mod_two_pow]
    rw [show 2 * (x ^^^ l) = 2 ^ 1 * (x ^^^ l) from rfl, show 2 * x = 2 ^ 1 * x from rfl, show 2 * l = 2 ^ 1 * l from rfl, Nat.testBit_two_pow_mul, Nat.testBit_two_pow_mul, Nat.testBit_two_pow_mul, Nat.testBit_xor]
    by_cases h : i < 64
    · by_cases h1 : 1 ≤ i <;> simp [h, h1]
    · have h2 : l.testBit (i - 1) = false := Nat.testBit_lt_two_pow (Nat.lt_of_lt_of_le (show l < 2 ^ 63 from hl) (Nat.pow_le_pow_right (by decide) (by omega)))
      simp [h, h2]
  unfold sixS
  rw [e2]
  by_cases h : 9223372036854775808 ≤ x
  · rw [if_pos h, if_pos (e1.2 h), Nat.xor_assoc, Nat.xor_assoc, Nat.xor_comm (2 * l)]
  · rw [if_neg h, if_neg (fun h2 => h (e1.1 h2)), Nat.xor_assoc, Nat.xor_assoc, Nat.xor_comm (2 * l)]

theorem sixN_xor : ∀ (k : Nat) {x l : Nat}, k ≤ 64 → x < 18446744073709551616 → l < 2 ^ (64 - k) → sixN k (x ^^^ l) = sixN k x ^^^ 2 ^ k * l
  | 0, x, l, _, _, _ => by simp [sixN]
  | k + 1, x, l, hk, hx, hl => by
    have h1 : l < 9223372036854775808 := Nat.lt_of_lt_of_le hl (Nat.pow_le_pow_right (by omega) (by omega : 64 - (k + 1) ≤ 63))
    have h2 : 2 * l < 2 ^ (64 - k) := by
      rw [show 64 - k = (64 - (k + 1)) + 1 by omega, Nat.pow_succ]; omega
    rw [sixN, sixS_xor hx h1, sixN_xor k (by omega) (sixS_lt x) h2, sixN, Nat.pow_succ, Nat.mul_assoc]

def sixB (s b : Nat) : Nat := sixN 8 (s ^^^ b * 72057594037927936)
theorem xor_top {s b : Nat} (hs : s < 18446744073709551616) : s ^^^ b * 72057594037927936 = (s / 72057594037927936 ^^^ b) * 72057594037927936 ^^^ s % 72057594037927936 := by
  have h := xor_split s 56
  rw [show (2 : Nat) ^ 56 = 72057594037927936 from rfl] at h
  have e : (s / 72057594037927936 ^^^ b) * 72057594037927936 = s / 72057594037927936 * 72057594037927936 ^^^ b * 72057594037927936 := by
    apply Nat.eq_of_testBit_eq
    intro i
    rw [Nat.testBit_xor, show (72057594037927936 : Nat) = 2 ^ 56 from rfl, Nat.mul_comm _ (2 ^ 56), Nat.mul_comm _ (2 ^ 56), Nat.mul_comm b, Nat.testBit_two_pow_mul, Nat.testBit_two_pow_mul, Nat.testBit_two_pow_mul, Nat.testBit_xor]
    by_cases h : 56 ≤ i <;> simp [h]
  rw [e, Nat.xor_comm (s / 72057594037927936 * 72057594037927936), Nat.xor_assoc, Nat.mul_comm (s / 72057594037927936), Nat.xor_comm (72057594037927936 * _), ← h, Nat.xor_comm]
theorem sixB_split {s b : Nat} (hs : s < 18446744073709551616) (hb : b < 256) : sixB s b = s * 256 % 18446744073709551616 ^^^ sixN 8 ((s / 72057594037927936 ^^^ b) * 72057594037927936) := by
  have h0 : (s / 72057594037927936 ^^^ b) < 2 ^ 8 := Nat.xor_lt_two_pow (by omega) hb
  rw [sixB, xor_top hs, sixN_xor 8 (by omega) (by omega) (by show s % 72057594037927936 < 2 ^ 56; exact Nat.mod_lt _ (by decide)), Nat.xor_comm]
  congr 1
  omega
theorem sixB_lt {s b : Nat} (hs : s < 18446744073709551616) (hb : b < 256) : sixB s b < 18446744073709551616 := sixN_lt 8 (Nat.xor_lt_two_pow (n := 64) hs (by omega))
def sixL (s : Nat) (l : List UInt8) : Nat := l.foldl (fun s b => sixB s b.toNat) s
theorem sixL_succ {s : Nat} {l : List UInt8} {k : Nat} (h : k < l.length) : sixL s (l.take (k + 1)) = sixB (sixL s (l.take k)) (l[k]).toNat := by
  rw [List.take_succ_eq_append_getElem h, sixL, List.foldl_append]; rfl
theorem sixL_lt : ∀ {l : List UInt8} {s : Nat}, s < 18446744073709551616 → sixL s l < 18446744073709551616
  | [], _, h => h
  | b :: l, s, h => sixL_lt (l := l) (sixB_lt h (UInt8.toNat_lt b))

def six8 (s b : Nat) : Nat → Nat
  | 0 => s
  | k + 1 => sixS (six8 s b k ^^^ (b / 2 ^ (7 - k) % 2) * 9223372036854775808)
theorem six8_lt {s b : Nat} (hs : s < 18446744073709551616) : ∀ k, six8 s b k < 18446744073709551616
  | 0 => hs
  | k + 1 => sixS_lt _
theorem six8_inv {s b : Nat} (hs : s < 18446744073709551616) (hb : b < 256) : ∀ k, k ≤ 8 → sixN (8 - k) (six8 s b k ^^^ b % 2 ^ (8 - k) * 2 ^ (56 + k)) = sixB s b
  | 0, _ => by
    rw [six8, sixB]
    show sixN 8 (s ^^^ b % 256 * 72057594037927936) = _
    rw [Nat.mod_eq_of_lt hb]
  | k + 1, h => by
    have ih := six8_inv hs hb k (by omega)
    have e1 : 8 - k = (8 - (k + 1)) + 1 := by omega
    have e2 : 8 - (k + 1) = 7 - k := by omega
    have hm := Nat.mod_lt b (show 0 < 2 ^ (7 - k) by exact Nat.pow_pos (by decide))
    have e3 : b % 2 ^ (8 - k) * 2 ^ (56 + k) = (b / 2 ^ (7 - k) % 2) * 9223372036854775808 ^^^ b % 2 ^ (7 - k) * 2 ^ (56 + k) := by
      apply Nat.eq_of_testBit_eq
      intro i
      rw [Nat.testBit_xor, show (9223372036854775808 : Nat) = 2 ^ 63 from rfl, Nat.mul_comm _ (2 ^ (56 + k)), Nat.mul_comm _ (2 ^ 63), Nat.mul_comm (b % 2 ^ (7 - k)), Nat.testBit_two_pow_mul, Nat.testBit_two_pow_mul, Nat.testBit_two_pow_mul, Nat.testBit_mod_two_pow, Nat.testBit_mod_two_pow,
        show b / 2 ^ (7 - k) % 2 = b / 2 ^ (7 - k) % 2 ^ 1 from rfl, Nat.testBit_mod_two_pow, Nat.testBit_div_two_pow]
      by_cases h1 : 56 + k ≤ i
      · by_cases h2 : i = 63
        · subst h2
          have h3 : ¬ (63 - (56 + k) < 7 - k) := by omega
          have h4 : 63 - (56 + k) < 8 - k := by omega
          simp [h1, show 63 - (56 + k) = 7 - k by omega, show 7 - k < 8 - k by omega]
        · by_cases h3 : 63 ≤ i
          · have h4 : ¬ (i - (56 + k) < 8 - k) := by omega
            have h5 : ¬ (i - 63 < 1) := by omega
            have h6 : ¬ (i - (56 + k) < 7 - k) := by omega
            simp [h1, h3, h4, h5, h6]
          · have h4 : i - (56 + k) < 8 - k := by omega
            have h6 : i - (56 + k) < 7 - k := by omega
            simp [h1, h3, h4, h6]
      · have h3 : ¬ 63 ≤ i := by omega
        simp [h1, h3]
    have hlt : b % 2 ^ (7 - k) * 2 ^ (56 + k) < 9223372036854775808 := by
      have h1 : b % 2 ^ (7 - k) * 2 ^ (56 + k) < 2 ^ (7 - k) * 2 ^ (56 + k) := Nat.mul_lt_mul_of_pos_right hm (Nat.pow_pos (by decide))
      rw [← Nat.pow_add, show 7 - k + (56 + k) = 63 by omega] at h1
      exact h1
    have hbit : (b / 2 ^ (7 - k) % 2) * 9223372036854775808 < 18446744073709551616 := by
      have := Nat.mod_lt (b / 2 ^ (7 - k)) (show 0 < 2 by decide)
      omega
    rw [e3, e1, sixN, ← Nat.xor_assoc, sixS_xor (Nat.xor_lt_two_pow (n := 64) (six8_lt hs k) hbit) hlt] at ih
    rw [← ih]
    show sixN (8 - (k + 1)) (sixS _ ^^^ _) = _
    rw [e2, show 2 ^ (56 + (k + 1)) = 2 ^ (56 + k) * 2 by rw [← Nat.add_assoc, Nat.pow_succ]]
    congr 2
    rw [← Nat.mul_assoc, Nat.mul_comm]
theorem six8_8 {s b : Nat} (hs : s < 18446744073709551616) (hb : b < 256) : six8 s b 8 = sixB s b := by
  have h := six8_inv hs hb 8 (by omega)
  rw [Nat.sub_self, Nat.pow_zero, Nat.mod_one, Nat.zero_mul, Nat.xor_zero, sixN] at h
  exact h
end Go.Am

namespace Go.Am
open Go.RowKit

/-! ### CRC-64 -/

def tab6 (i : Nat) : List Int := (List.range 256).map fun j => if j < i then ((sixN 8 (j * 72057594037927936) : Nat) : Int) else 0
theorem tab6_length (i : Nat) : (tab6 i).length = 256 := by simp [tab6]
theorem tab6_get {i j : Nat} (h : j < 256) : (tab6 i)[j]'(by rw [tab6_length]; exact h) = if j < i then ((sixN 8 (j * 72057594037927936) : Nat) : Int) else 0 := by simp [tab6]
theorem tab6_set {i : Nat} (h : i < 256) : (tab6 i).set i ((sixN 8 (i * 72057594037927936) : Nat) : Int) = tab6 (i + 1) := by
  refine List.ext_getElem (by simp [tab6_length]) fun j h1 h2 => ?_
  have hj : j < 256 := by simpa [tab6_length] using h2
  rw [List.getElem_set, tab6_get hj]
  split
  · rename_i e; subst e; rw [tab6_get hj, if_pos (by omega)]
  · rename_i e; rw [tab6_get hj]
    by_cases h3 : j < i
    · rw [if_pos h3, if_pos (by omega)]
    · rw [if_neg h3, if_neg (by omega)]

theorem shl_one (c : Nat) : shiftA true .u64 (c : Int) 1 = some (.int .u64 (((2 * c) % 18446744073709551616 : Nat) : Int)) := by
  have h3 : ¬ ((1 : Int) < 0) := by omega
  simp only [shiftA, if_neg h3, if_true]
  have h5 : (min (1 : Int).toNat IntKind.u64.bits) = 1 := rfl
  rw [h5, wrap_u64_mod]
  congr 2
  omega
theorem shl_eight (c : Nat) : shiftA true .u64 (c : Int) 8 = some (.int .u64 ((c * 256 % 18446744073709551616 : Nat) : Int)) := by
  have h3 : ¬ ((8 : Int) < 0) := by omega
  simp only [shiftA, if_neg h3, if_true]
  have h5 : (min (8 : Int).toNat IntKind.u64.bits) = 8 := rfl
  rw [h5, wrap_u64_mod]
  congr 2

def S_table6 (P : Prg) (f : Nat) : Prop := VC P f [] (.cell (ks .u64 (tab6 256)))
set_option maxRecDepth 40000 in
theorem crc64_table {P : Prg} {f t0 : Nat} (bd : Body P f 25 [.tmp 0] (ac_crc64_table t0)) : S_table6 P f := by
  refine VC.of_walk 1 rfl (by simp [isD, isTL_D (isTL_ks _ _)]) (ACall.of_body bd (by simp) ?_)
  unfold ac_crc64_table
  simp (maxSteps := 4000000) (disch := omega) only [abv, step, stepv, ev, wl, wn, wp, wz, aop, cV, cV1, AV.one, partCells, okW, onlyFr, app, sliceCells, cellsAt, srcA, subA, eqFs, Int.cast_ofNat_Int, simprocAttr]
  refine ALoop.by (ι := Nat) (fun i => ⟨[(5, .int .i64 i), (1, .ref 0 1 0)], [⟨t0, 256, 1, ks .u64 (tab6 i), 0⟩]⟩) (fun i => i ≤ 256) (fun i => 256 - i) 0 (Le.slots (by simp [Am.look])) (by omega) ?_
  intro i hi
  by_cases hlt : i < 256
  · have s0 : shiftA true .u64 (i : Int) 56 = some (.int .u64 ((i * 72057594037927936 : Nat) : Int)) := by
      have := shlK (K := .u64) rfl (c := i) (s := 56) (by decide) (by show i * 2 ^ 56 < 2 ^ 64; omega)
      exact this
    have w0 : IntKind.u64.wrap (i : Int) = i := wrap_u64 (by omega) (by omega)
    simp (maxSteps := 4000000) (disch := omega) only [abv, step, stepv, ev, wl, wn, wp, wz, aop, cV, cV1, AV.one, partCells, okW, onlyFr, app, sliceCells, cellsAt, srcA, subA, eqFs, Int.cast_ofNat_Int, simprocAttr, s0, w0]
    refine ALoop.by (ι := Nat) (fun j => ⟨[(11, .int .i64 j), (3, .int .u64 (sixN j (i * 72057594037927936))), (5, .int .i64 i), (2, .int .i64 i), (1, .ref 0 1 0)], [⟨t0, 256, 1, ks .u64 (tab6 i), 0⟩]⟩) (fun j => j ≤ 8) (fun j => 8 - j) 0 (Le.slots (by simp [Am.look, sixN])) (by omega) ?_
    intro j hj
    by_cases hjl : j < 8
    · have hc := sixN_lt j (c := i * 72057594037927936) (by omega)
      have hn := sixN_succ j (i * 72057594037927936)
      generalize sixN j (i * 72057594037927936) = c at *
      have a1 := shl_one c
      have a2 : shiftA false .u64 (c : Int) 63 = some (.int .u64 ((c / 9223372036854775808 : Nat) : Int)) := shrK (K := .u64) (n := c) (k := 63) (by decide)
      have hm := Nat.mod_lt (2 * c) (show 0 < 18446744073709551616 by decide)
      by_cases h2 : 9223372036854775808 ≤ c
      · have a3 : IntKind.u64.wrap (BitVec.ofInt IntKind.u64.bits ((2 * c % 18446744073709551616 : Nat) : Int) ^^^ BitVec.ofInt IntKind.u64.bits 4823603603198064275).toNat = ((sixN (j + 1) (i * 72057594037927936) : Nat) : Int) := by
          rw [hn, sixS, if_pos h2]
          exact xorK (K := .u64) rfl (a := 2 * c % 18446744073709551616) (b := 4823603603198064275) hm (by decide)
        have a4 : c / 9223372036854775808 = 1 := by omega
        rw [a4] at a2
        generalize 2 * c % 18446744073709551616 = d at *
        simp (maxSteps := 4000000) (disch := omega) only [abv, step, stepv, ev, wl, wn, wp, wz, aop, cV, cV1, AV.one, partCells, okW, onlyFr, app, sliceCells, cellsAt, srcA, subA, eqFs, Int.cast_ofNat_Int, simprocAttr, a1, a2, a3]
        exact ⟨j + 1, by omega, by omega, Le.slots (by simp [Am.look])⟩
      · have a3 : IntKind.u64.wrap (BitVec.ofInt IntKind.u64.bits ((2 * c % 18446744073709551616 : Nat) : Int) ^^^ BitVec.ofInt IntKind.u64.bits 0).toNat = ((sixN (j + 1) (i * 72057594037927936) : Nat) : Int) := by
          rw [hn, sixS, if_neg h2]
          exact xorK (K := .u64) rfl (a := 2 * c % 18446744073709551616) (b := 0) hm (by decide)
        have a4 : c / 9223372036854775808 = 0 := by omega
        rw [a4] at a2
        generalize 2 * c % 18446744073709551616 = d at *
        simp (maxSteps := 4000000) (disch := omega) only [abv, step, stepv, ev, wl, wn, wp, wz, aop, cV, cV1, AV.one, partCells, okW, onlyFr, app, sliceCells, cellsAt, srcA, subA, eqFs, Int.cast_ofNat_Int, simprocAttr, a1, a2, a3]
        exact ⟨j + 1, by omega, by omega, Le.slots (by simp [Am.look])⟩
    · obtain rfl : j = 8 := by omega
      have e1 := tab6_length i
      have e2 := ks_length .u64 (tab6 i)
      have e3 : (ks .u64 (tab6 i)).take i ++ [.int .u64 (sixN 8 (i * 72057594037927936))] ++ (ks .u64 (tab6 i)).drop (i + 1) = ks .u64 (tab6 (i + 1)) := by
        rw [← tab6_set hlt, List.set_eq_take_append_cons_drop, if_pos (by rw [tab6_length]; exact hlt)]; simp [ks, List.map_take, List.map_drop]
      simp (maxSteps := 4000000) (disch := omega) only [abv, step, stepv, ev, wl, wn, wp, wz, aop, cV, cV1, AV.one, partCells, okW, onlyFr, app, sliceCells, cellsAt, srcA, subA, eqFs, Int.cast_ofNat_Int, simprocAttr, e1, e2, e3]
      exact ⟨i + 1, by omega, by omega, Le.slots (by simp [Am.look])⟩
  · obtain rfl : i = 256 := by omega
    simp (maxSteps := 4000000) (disch := omega) only [abv, step, stepv, ev, wl, wn, wp, wz, aop, cV, cV1, AV.one, partCells, okW, onlyFr, app, sliceCells, cellsAt, srcA, subA, eqFs, Int.cast_ofNat_Int, simprocAttr]
    simp [frzN, frzK, frzL, frzV, frzL_T _ (isTL_ks _ _)]

def S_Behind6 (P : Prg) (f : Nat) : Prop := ∀ (s : Nat) (l : List UInt8), s < 18446744073709551616 → l.length ≤ 1000000 → VC P f [.cell (ks .u64 (tab6 256)), .int .u64 s, bs l] (.int .u64 (sixL s l : Nat))
set_option maxRecDepth 40000 in
theorem crc64_behind {P : Prg} {f : Nat} (bd : Body P f 29 [.tmp 6] ac_crc64_behind) : S_Behind6 P f := by
  intro s l hs hl
  refine VC.of_acall (by simp [isDL, isD, isD_bs, isDL_ks]) rfl (ACall.of_body bd (by simp) ?_)
  have t0 := ks_length .u64 (tab6 256)
  rw [tab6_length] at t0
  simp (maxSteps := 4000000) (disch := omega) only [abv, step, stepv, ev, wl, wn, wp, wz, aop, cV, cV1, AV.one, partCells, okW, onlyFr, app, sliceCells, cellsAt, srcA, subA, eqFs, Int.cast_ofNat_Int, simprocAttr, ac_crc64_behind, bs]
  refine ALoop.by (ι := Nat) (fun k => ⟨[(11, .int .i64 k), (10, .int .i64 l.length), (9, .list l.length (u8 l)), (0, .cell (ks .u64 (tab6 256))), (1, .int .u64 (sixL s (l.take k)))], []⟩) (fun k => k ≤ l.length) (fun k => l.length - k) 0 (Le.slots (by simp [Am.look, sixL])) (by omega) ?_
  intro k hk
  have hc := sixL_lt (l := l.take k) hs
  by_cases hlt : k < l.length
  · have e1 := u8_drop_cons hlt
    have hn := sixL_succ (s := s) hlt
    generalize sixL s (l.take k) = c at *
    have hb := (l[k]).toNat_lt
    rw [sixB_split hc hb] at hn
    have h0 : (c / 72057594037927936 ^^^ (l[k]).toNat) < 256 := Nat.xor_lt_two_pow (n := 8) (by omega) hb
    have h1 := sixN_lt 8 (c := (c / 72057594037927936 ^^^ (l[k]).toNat) * 72057594037927936) (by omega)
    have a1 : shiftA false .u64 (c : Int) 56 = some (.int .u64 ((c / 72057594037927936 : Nat) : Int)) := shrK (K := .u64) (n := c) (k := 56) (by decide)
    have a0 := shl_eight c
    have a2 : IntKind.u8.wrap ((c / 72057594037927936 : Nat) : Int) = ((c / 72057594037927936 : Nat) : Int) := by rw [wrap_u8_mod]; omega
    have a3 : IntKind.u8.wrap (BitVec.ofInt IntKind.u8.bits ((c / 72057594037927936 : Nat) : Int) ^^^ BitVec.ofInt IntKind.u8.bits ((l[k]).toNat : Int)).toNat = ((c / 72057594037927936 ^^^ (l[k]).toNat : Nat) : Int) :=
      xorK (K := .u8) rfl (a := c / 72057594037927936) (b := (l[k]).toNat) (by show c / 72057594037927936 < 256; omega) hb
    have hm := Nat.mod_lt (c * 256) (show 0 < 18446744073709551616 by decide)
    have a4 : IntKind.u64.wrap (BitVec.ofInt IntKind.u64.bits ((c * 256 % 18446744073709551616 : Nat) : Int) ^^^ BitVec.ofInt IntKind.u64.bits ((sixN 8 ((c / 72057594037927936 ^^^ (l[k]).toNat) * 72057594037927936) : Nat) : Int)).toNat = ((sixL s (l.take (k + 1)) : Nat) : Int) := by
      rw [hn]; exact xorK (K := .u64) rfl hm h1
    generalize c * 256 % 18446744073709551616 = d at *
    generalize c / 72057594037927936 ^^^ (l[k]).toNat = x at *
    have e2 : (ks .u64 (tab6 256)).drop x = .int .u64 ((sixN 8 (x * 72057594037927936) : Nat) : Int) :: ks .u64 ((tab6 256).drop (x + 1)) := by
      rw [ks_drop, List.drop_eq_getElem_cons (by rw [tab6_length]; exact h0), ks_cons, tab6_get h0, if_pos h0]
    generalize c / 72057594037927936 = q at *
    simp (maxSteps := 4000000) (disch := omega) only [abv, step, stepv, ev, wl, wn, wp, wz, aop, cV, cV1, AV.one, partCells, okW, onlyFr, app, sliceCells, cellsAt, srcA, subA, eqFs, Int.cast_ofNat_Int, simprocAttr, e1, a0, a1, a2, a3, a4, e2, t0]
    exact ⟨k + 1, by omega, by omega, Le.slots (by simp [Am.look])⟩
  · have ek : k = l.length := by omega
    subst ek
    rw [List.take_length]
    simp (maxSteps := 4000000) (disch := omega) only [abv, step, stepv, ev, wl, wn, wp, wz, aop, cV, cV1, AV.one, partCells, okW, onlyFr, app, sliceCells, cellsAt, srcA, subA, eqFs, Int.cast_ofNat_Int, simprocAttr]

def S_Next6 (P : Prg) (f : Nat) : Prop := ∀ (s : Nat) (l : List UInt8), s < 18446744073709551616 → VC P f [.int .u64 s, bs l] (if 100000 < l.length then .tup [.int .u64 0, .int .i64 4] else .tup [.int .u64 (sixL s l), .int .i64 0])
theorem crc64_Next {P : Prg} {f fT fB : Nat} (bd : Body P f 13 [.tmp 4, .tmp 5] (ac_crc64_Next fT fB)) (hT : S_table6 P fT) (hB : S_Behind6 P fB) : S_Next6 P f := by
  intro s l hs
  refine VC.of_acall (by simp [isDL, isD, isD_bs]) (by split <;> rfl) (ACall.of_body bd (by simp) ?_)
  by_cases hl : 100000 < l.length
  · rw [if_pos hl]
    simp (maxSteps := 4000000) (disch := omega) only [abv, step, stepv, ev, wl, wn, wp, wz, aop, cV, cV1, AV.one, partCells, okW, onlyFr, app, sliceCells, cellsAt, srcA, subA, eqFs, Int.cast_ofNat_Int, simprocAttr, ac_crc64_Next, bs]
  · rw [if_neg hl]
    have hB' := hB s l hs (by omega)
    rw [bs] at hB'
    have hT' : VC P fT [] _ := hT
    simp (maxSteps := 4000000) (disch := omega) only [abv, step, stepv, ev, wl, wn, wp, wz, aop, cV, cV1, AV.one, partCells, okW, onlyFr, app, sliceCells, cellsAt, srcA, subA, eqFs, Int.cast_ofNat_Int, simprocAttr, ac_crc64_Next, bs]
    refine callQ.vc hT' ?_
    simp (maxSteps := 4000000) (disch := omega) only [abv, step, stepv, ev, wl, wn, wp, wz, aop, cV, cV1, AV.one, partCells, okW, onlyFr, app, sliceCells, cellsAt, srcA, subA, eqFs, Int.cast_ofNat_Int, simprocAttr]
    refine callQ.vc hB' ?_
    simp (maxSteps := 4000000) (disch := omega) only [abv, step, stepv, ev, wl, wn, wp, wz, aop, cV, cV1, AV.one, partCells, okW, onlyFr, app, sliceCells, cellsAt, srcA, subA, eqFs, Int.cast_ofNat_Int, simprocAttr]

def S_Sum6 (P : Prg) (f : Nat) : Prop := ∀ (l : List UInt8), VC P f [bs l] (if 100000 < l.length then .tup [.int .u64 0, .int .i64 4] else .tup [.int .u64 (sixL 0 l), .int .i64 0])
theorem crc64_Sum {P : Prg} {f fN : Nat} (bd : Body P f 8 [.tmp 2, .tmp 3] (ac_crc64_Sum fN)) (hN : S_Next6 P fN) : S_Sum6 P f := by
  intro l
  refine VC.of_acall (by simp [isDL, isD, isD_bs]) (by split <;> rfl) (ACall.of_body bd (by simp) ?_)
  have hN' := hN 0 l (by decide)
  rw [bs] at hN'
  by_cases hl : 100000 < l.length
  · rw [if_pos hl] at hN' ⊢
    simp (maxSteps := 4000000) (disch := omega) only [abv, step, stepv, ev, wl, wn, wp, wz, aop, cV, cV1, AV.one, partCells, okW, onlyFr, app, sliceCells, cellsAt, srcA, subA, eqFs, Int.cast_ofNat_Int, simprocAttr, ac_crc64_Sum, bs]
    refine callQ.vc hN' ?_
    simp (maxSteps := 4000000) (disch := omega) only [abv, step, stepv, ev, wl, wn, wp, wz, aop, cV, cV1, AV.one, partCells, okW, onlyFr, app, sliceCells, cellsAt, srcA, subA, eqFs, Int.cast_ofNat_Int, simprocAttr]
  · rw [if_neg hl] at hN' ⊢
    simp (maxSteps := 4000000) (disch := omega) only [abv, step, stepv, ev, wl, wn, wp, wz, aop, cV, cV1, AV.one, partCells, okW, onlyFr, app, sliceCells, cellsAt, srcA, subA, eqFs, Int.cast_ofNat_Int, simprocAttr, ac_crc64_Sum, bs]
    refine callQ.vc hN' ?_
    simp (maxSteps := 4000000) (disch := omega) only [abv, step, stepv, ev, wl, wn, wp, wz, aop, cV, cV1, AV.one, partCells, okW, onlyFr, app, sliceCells, cellsAt, srcA, subA, eqFs, Int.cast_ofNat_Int, simprocAttr]
end Go.Am

namespace Go.Am
open Go.RowKit

/-! ### The reference of CRC-64 -/

theorem sixS_bit {s b : Nat} (hs : s < 18446744073709551616) (hb : b < 2) : sixS (s ^^^ b * 9223372036854775808) = (2 * s) % 18446744073709551616 ^^^ (if (9223372036854775808 ≤ s ↔ b = 0) then 4823603603198064275 else 0) := by
  rcases (by omega : b = 0 ∨ b = 1) with rfl | rfl
  · simp [sixS]
  · have hx : s ^^^ 9223372036854775808 < 18446744073709551616 := Nat.xor_lt_two_pow (n := 64) hs (by decide)
    have e1 : (9223372036854775808 ≤ s ^^^ 9223372036854775808) ↔ ¬ (9223372036854775808 ≤ s) := by
      rw [ge_top _ hx, ge_top _ hs, Nat.testBit_xor, show (9223372036854775808 : Nat) = 2 ^ 63 from rfl, Nat.testBit_two_pow_self]
      simp
    have e2 : 2 * (s ^^^ 9223372036854775808) % 18446744073709551616 = 2 * s % 18446744073709551616 := by
      apply Nat.eq_of_testBit_eq
      intro i
      rw [show (18446744073709551616 : Nat) = 2 ^ 64 from rfl, Nat.testBit_mod_two_pow, Nat.testBit_mod_two_pow, show 2 * (s ^^^ 9223372036854775808) = 2 ^ 1 * (s ^^^ 9223372036854775808) from rfl, show 2 * s = 2 ^ 1 * s from rfl, Nat.testBit_two_pow_mul, Nat.testBit_two_pow_mul, Nat.testBit_xor,
        show (9223372036854775808 : Nat) = 2 ^ 63 from rfl, Nat.testBit_two_pow]
      by_cases h : i < 64
      · have h1 : ¬ (63 = i - 1) := by omega
        simp [h, h1]
      · simp [h]
    rw [Nat.one_mul, sixS, e2]
    by_cases h : 9223372036854775808 ≤ s
    · rw [if_neg (fun h2 => (e1.1 h2) h), if_neg (by simp [h])]
    · rw [if_pos (e1.2 h), if_pos (by simp [h])]

def S_Step6 (P : Prg) (f : Nat) : Prop := ∀ s b : Nat, s < 18446744073709551616 → b < 2 → VC P f [.int .u64 s, .int .i64 b] (.int .u64 (sixS (s ^^^ b * 9223372036854775808) : Nat))
theorem ref04_Step {P : Prg} {f : Nat} (bd : Body P f 18 [.tmp 4] ac_cadenzaref04_Step) : S_Step6 P f := by
  intro s b hs hb
  refine VC.of_acall rfl rfl (ACall.of_body bd (by simp) ?_)
  rw [sixS_bit hs hb]
  have hm := Nat.mod_lt (2 * s) (show 0 < 18446744073709551616 by decide)
  have e1 : IntKind.u64.wrap (BitVec.ofInt IntKind.u64.bits ((2 * s % 18446744073709551616 : Nat) : Int) ^^^ BitVec.ofInt IntKind.u64.bits 4823603603198064275).toNat = ((2 * s % 18446744073709551616 ^^^ 4823603603198064275 : Nat) : Int) :=
    xorK (K := .u64) rfl hm (by decide)
  have e2 : IntKind.u64.wrap ((s : Int) * 2) = ((2 * s % 18446744073709551616 : Nat) : Int) := by rw [wrap_u64_mod]; omega
  generalize 2 * s % 18446744073709551616 = d at *
  by_cases h : 9223372036854775808 ≤ s <;> rcases (by omega : b = 0 ∨ b = 1) with rfl | rfl
  · rw [if_pos (by simp [h])]
    simp (maxSteps := 4000000) (disch := omega) only [abv, step, stepv, ev, wl, wn, wp, wz, aop, cV, cV1, AV.one, partCells, okW, onlyFr, app, sliceCells, cellsAt, srcA, subA, eqFs, Int.cast_ofNat_Int, simprocAttr, ac_cadenzaref04_Step, e1, e2]
  · rw [if_neg (by simp [h]), Nat.xor_zero]
    simp (maxSteps := 4000000) (disch := omega) only [abv, step, stepv, ev, wl, wn, wp, wz, aop, cV, cV1, AV.one, partCells, okW, onlyFr, app, sliceCells, cellsAt, srcA, subA, eqFs, Int.cast_ofNat_Int, simprocAttr, ac_cadenzaref04_Step, e1, e2, Bool.not_true]
  · rw [if_neg (by simp [h]), Nat.xor_zero]
    simp (maxSteps := 4000000) (disch := omega) only [abv, step, stepv, ev, wl, wn, wp, wz, aop, cV, cV1, AV.one, partCells, okW, onlyFr, app, sliceCells, cellsAt, srcA, subA, eqFs, Int.cast_ofNat_Int, simprocAttr, ac_cadenzaref04_Step, e1, e2]
  · rw [if_pos (by simp [h])]
    simp (maxSteps := 4000000) (disch := omega) only [abv, step, stepv, ev, wl, wn, wp, wz, aop, cV, cV1, AV.one, partCells, okW, onlyFr, app, sliceCells, cellsAt, srcA, subA, eqFs, Int.cast_ofNat_Int, simprocAttr, ac_cadenzaref04_Step, e1, e2, Bool.not_false]

def S_Byte6 (P : Prg) (f : Nat) : Prop := ∀ s b : Nat, s < 18446744073709551616 → b < 256 → VC P f [.int .u64 s, .int .u8 b] (.int .u64 (sixB s b : Nat))
theorem ref04_Byte {P : Prg} {f fS : Nat} (bd : Body P f 18 [.tmp 4] (ac_cadenzaref04_Byte fS)) (hS : S_Step6 P fS) : S_Byte6 P f := by
  intro s b hs hb
  refine VC.of_acall rfl rfl (ACall.of_body bd (by simp) ?_)
  simp (maxSteps := 4000000) (disch := omega) only [abv, step, stepv, ev, wl, wn, wp, wz, aop, cV, cV1, AV.one, partCells, okW, onlyFr, app, sliceCells, cellsAt, srcA, subA, eqFs, Int.cast_ofNat_Int, simprocAttr, ac_cadenzaref04_Byte]
  refine ALoop.by (ι := Nat) (fun k => ⟨[(5, .int .i64 (128 / 2 ^ k : Nat)), (0, .int .u64 (six8 s b k)), (1, .int .u8 b)], []⟩) (fun k => k ≤ 8) (fun k => 8 - k) 0 (Le.slots (by simp [Am.look, six8])) (by omega) ?_
  intro k hk
  have hc := six8_lt (b := b) hs k
  by_cases hlt : k < 8
  · have hn : six8 s b (k + 1) = sixS (six8 s b k ^^^ (b / 2 ^ (7 - k) % 2) * 9223372036854775808) := rfl
    have hp : 128 / 2 ^ k = 2 ^ (7 - k) := by
      rw [show (128 : Nat) = 2 ^ 7 from rfl, Nat.pow_div (by omega) (by decide)]
    have hd : 128 / 2 ^ (k + 1) = 128 / 2 ^ k / 2 := by rw [Nat.pow_succ, Nat.div_div_eq_div_mul]
    have hpos : 1 ≤ 128 / 2 ^ k := by rw [hp]; exact Nat.pow_pos (by decide)
    have hle : 128 / 2 ^ k ≤ 128 := Nat.div_le_self _ _
    have h2 := hS (six8 s b k) (b / 2 ^ (7 - k) % 2) hc (Nat.mod_lt _ (by decide))
    rw [← hn, ← hp] at h2
    generalize six8 s b k = c at *
    generalize 128 / 2 ^ k = p at *
    have e1 : ((b : Int)).tdiv (p : Int) = ((b / p : Nat) : Int) := by rw [Int.tdiv_eq_ediv_of_nonneg (by omega)]; simp
    have e0 : (b : Int) / (p : Int) = ((b / p : Nat) : Int) := by simp
    have hbp : b / p ≤ b := Nat.div_le_self _ _
    generalize b / p = x at *
    have e3 : ((x : Int)).tmod 2 = ((x % 2 : Nat) : Int) := rfl
    have e4 : (x : Int) % 2 = ((x % 2 : Nat) : Int) := by omega
    have e5 : ((p : Int)).tdiv 2 = ((p / 2 : Nat) : Int) := rfl
    have e6 : (p : Int) / 2 = ((p / 2 : Nat) : Int) := by omega
    simp (maxSteps := 4000000) (disch := omega) only [abv, step, stepv, ev, wl, wn, wp, wz, aop, cV, cV1, AV.one, partCells, okW, onlyFr, app, sliceCells, cellsAt, srcA, subA, eqFs, Int.cast_ofNat_Int, simprocAttr, e0, e1, e3, e4]
    refine callQ.vc h2 ?_
    simp (maxSteps := 4000000) (disch := omega) only [abv, step, stepv, ev, wl, wn, wp, wz, aop, cV, cV1, AV.one, partCells, okW, onlyFr, app, sliceCells, cellsAt, srcA, subA, eqFs, Int.cast_ofNat_Int, simprocAttr, e5, e6]
    exact ⟨k + 1, by omega, by omega, Le.slots (by simp [Am.look, hd])⟩
  · obtain rfl : k = 8 := by omega
    rw [six8_8 hs hb]
    have e : (128 / 2 ^ 8 : Nat) = 0 := rfl
    rw [e]
    simp (maxSteps := 4000000) (disch := omega) only [abv, step, stepv, ev, wl, wn, wp, wz, aop, cV, cV1, AV.one, partCells, okW, onlyFr, app, sliceCells, cellsAt, srcA, subA, eqFs, Int.cast_ofNat_Int, simprocAttr]

def S_RBehind6 (P : Prg) (f : Nat) : Prop := ∀ (s : Nat) (l : List UInt8), s < 18446744073709551616 → l.length ≤ 1000000 → VC P f [.int .u64 s, bs l] (.int .u64 (sixL s l : Nat))
theorem ref04_Behind {P : Prg} {f fB : Nat} (bd : Body P f 19 [.tmp 4] (ac_cadenzaref04_Behind fB)) (hB : S_Byte6 P fB) : S_RBehind6 P f := by
  intro s l hs hl
  refine VC.of_acall (by simp [isDL, isD, isD_bs]) rfl (ACall.of_body bd (by simp) ?_)
  simp (maxSteps := 4000000) (disch := omega) only [abv, step, stepv, ev, wl, wn, wp, wz, aop, cV, cV1, AV.one, partCells, okW, onlyFr, app, sliceCells, cellsAt, srcA, subA, eqFs, Int.cast_ofNat_Int, simprocAttr, ac_cadenzaref04_Behind, bs]
  refine ALoop.by (ι := Nat) (fun k => ⟨[(5, .int .i64 k), (1, .list l.length (u8 l)), (0, .int .u64 (sixL s (l.take k)))], []⟩) (fun k => k ≤ l.length) (fun k => l.length - k) 0 (Le.slots (by simp [Am.look, sixL])) (by omega) ?_
  intro k hk
  have hc := sixL_lt (l := l.take k) hs
  by_cases hlt : k < l.length
  · have e1 := u8_drop_cons hlt
    have hn := sixL_succ (s := s) hlt
    have h2 := hB (sixL s (l.take k)) (l[k]).toNat hc (l[k]).toNat_lt
    rw [← hn] at h2
    simp (maxSteps := 4000000) (disch := omega) only [abv, step, stepv, ev, wl, wn, wp, wz, aop, cV, cV1, AV.one, partCells, okW, onlyFr, app, sliceCells, cellsAt, srcA, subA, eqFs, Int.cast_ofNat_Int, simprocAttr, e1]
    refine callQ.vc h2 ?_
    simp (maxSteps := 4000000) (disch := omega) only [abv, step, stepv, ev, wl, wn, wp, wz, aop, cV, cV1, AV.one, partCells, okW, onlyFr, app, sliceCells, cellsAt, srcA, subA, eqFs, Int.cast_ofNat_Int, simprocAttr]
    exact ⟨k + 1, by omega, by omega, Le.slots (by simp [Am.look])⟩
  · have ek : k = l.length := by omega
    subst ek
    rw [List.take_length]
    simp (maxSteps := 4000000) (disch := omega) only [abv, step, stepv, ev, wl, wn, wp, wz, aop, cV, cV1, AV.one, partCells, okW, onlyFr, app, sliceCells, cellsAt, srcA, subA, eqFs, Int.cast_ofNat_Int, simprocAttr]
theorem ref04_Next {P : Prg} {f fB : Nat} (bd : Body P f 12 [.tmp 4, .tmp 5] (ac_cadenzaref04_Next fB)) (hB : S_RBehind6 P fB) : S_Next6 P f := by
  intro s l hs
  refine VC.of_acall (by simp [isDL, isD, isD_bs]) (by split <;> rfl) (ACall.of_body bd (by simp) ?_)
  by_cases hl : 100000 < l.length
  · rw [if_pos hl]
    simp (maxSteps := 4000000) (disch := omega) only [abv, step, stepv, ev, wl, wn, wp, wz, aop, cV, cV1, AV.one, partCells, okW, onlyFr, app, sliceCells, cellsAt, srcA, subA, eqFs, Int.cast_ofNat_Int, simprocAttr, ac_cadenzaref04_Next, bs]
  · rw [if_neg hl]
    have hB' := hB s l hs (by omega)
    rw [bs] at hB'
    simp (maxSteps := 4000000) (disch := omega) only [abv, step, stepv, ev, wl, wn, wp, wz, aop, cV, cV1, AV.one, partCells, okW, onlyFr, app, sliceCells, cellsAt, srcA, subA, eqFs, Int.cast_ofNat_Int, simprocAttr, ac_cadenzaref04_Next, bs]
    refine callQ.vc hB' ?_
    simp (maxSteps := 4000000) (disch := omega) only [abv, step, stepv, ev, wl, wn, wp, wz, aop, cV, cV1, AV.one, partCells, okW, onlyFr, app, sliceCells, cellsAt, srcA, subA, eqFs, Int.cast_ofNat_Int, simprocAttr]
theorem ref04_Sum {P : Prg} {f fN : Nat} (bd : Body P f 8 [.tmp 2, .tmp 3] (ac_cadenzaref04_Sum fN)) (hN : S_Next6 P fN) : S_Sum6 P f := by
  intro l
  refine VC.of_acall (by simp [isDL, isD, isD_bs]) (by split <;> rfl) (ACall.of_body bd (by simp) ?_)
  have hN' := hN 0 l (by decide)
  rw [bs] at hN'
  by_cases hl : 100000 < l.length
  · rw [if_pos hl] at hN' ⊢
    simp (maxSteps := 4000000) (disch := omega) only [abv, step, stepv, ev, wl, wn, wp, wz, aop, cV, cV1, AV.one, partCells, okW, onlyFr, app, sliceCells, cellsAt, srcA, subA, eqFs, Int.cast_ofNat_Int, simprocAttr, ac_cadenzaref04_Sum, bs]
    refine callQ.vc hN' ?_
    simp (maxSteps := 4000000) (disch := omega) only [abv, step, stepv, ev, wl, wn, wp, wz, aop, cV, cV1, AV.one, partCells, okW, onlyFr, app, sliceCells, cellsAt, srcA, subA, eqFs, Int.cast_ofNat_Int, simprocAttr]
  · rw [if_neg hl] at hN' ⊢
    simp (maxSteps := 4000000) (disch := omega) only [abv, step, stepv, ev, wl, wn, wp, wz, aop, cV, cV1, AV.one, partCells, okW, onlyFr, app, sliceCells, cellsAt, srcA, subA, eqFs, Int.cast_ofNat_Int, simprocAttr, ac_cadenzaref04_Sum, bs]
    refine callQ.vc hN' ?_
    simp (maxSteps := 4000000) (disch := omega) only [abv, step, stepv, ev, wl, wn, wp, wz, aop, cV, cV1, AV.one, partCells, okW, onlyFr, app, sliceCells, cellsAt, srcA, subA, eqFs, Int.cast_ofNat_Int, simprocAttr]
end Go.Am

namespace Go.Am
open Go.RowKit

/-! ### Taps of passwords -/

def sb8 (x : Nat) : Int := if 127 < x % 256 then ((x % 256 : Nat) : Int) - 256 else ((x % 256 : Nat) : Int)
theorem sb8_b (x : Nat) : -128 ≤ sb8 x ∧ sb8 x ≤ 127 := by unfold sb8; split <;> omega
def ofK (d k : Nat) : List Int := (List.range 16).map fun i => if i < k then sb8 (d / 2 ^ (8 * i)) else 0
theorem ofK_len (d k : Nat) : (ofK d k).length = 16 := by simp [ofK]
theorem ofK_set {d k : Nat} (h : k < 16) : (ofK d k).set k (sb8 (d / 2 ^ (8 * k))) = ofK d (k + 1) := by
  refine List.ext_getElem (by simp [ofK_len]) fun j h1 h2 => ?_
  have hj : j < 16 := by simpa [ofK_len] using h2
  rw [List.getElem_set]
  simp only [ofK, List.getElem_map, List.getElem_range]
  split
  · rename_i e; subst e; rw [if_pos (by omega)]
  · by_cases h3 : j < k
    · rw [if_pos h3, if_pos (by omega)]
    · rw [if_neg h3, if_neg (by omega)]
theorem wrap_i8 (x : Nat) : IntKind.i8.wrap (x : Int) = sb8 x := by
  unfold sb8
  simp only [IntKind.wrap, IntKind.bits, IntKind.signed]
  simp
  split <;> split <;> omega
def S_Of16 (P : Prg) (f : Nat) : Prop := ∀ d : Nat, d < 18446744073709551616 → VC P f [.int .u64 d] (.agg (ks .i32 (ofK d 8)))
theorem seed_Of {P : Prg} {f t0 : Nat} (bd : Body P f 18 [.cell 2 t0] (ac_seed_Of t0)) (ht : aggO P t0 = some (some 16)) : S_Of16 P f := by
  intro d hd
  refine VC.of_acall rfl (by simp [isD, isDL_ks]) (ACall.of_body bd (by simp) ?_)
  unfold ac_seed_Of
  have z : ([.int .i32 0, .int .i32 0, .int .i32 0, .int .i32 0, .int .i32 0, .int .i32 0, .int .i32 0, .int .i32 0, .int .i32 0, .int .i32 0, .int .i32 0, .int .i32 0, .int .i32 0, .int .i32 0, .int .i32 0, .int .i32 0] : List AV) = ks .i32 (ofK 0 0) := rfl
  have z0 : ks .i32 (ofK 0 0) = ks .i32 (ofK d 0) := rfl
  rw [z]
  have ol := ks_one .i32 (ofK 0 0)
  have kl0 : (ks .i32 (ofK 0 0)).length = 16 := rfl
  simp (maxSteps := 4000000) (disch := omega) only [abv, step, stepv, ev, wl, wn, wp, wz, aop, cV, cV1, AV.one, partCells, okW, onlyFr, app, sliceCells, cellsAt, srcA, subA, eqFs, Int.cast_ofNat_Int, simprocAttr, ol, kl0]
  refine ALoop.by (ι := Nat) (fun i => ⟨[(5, .int .i64 i), (0, .int .u64 d), (3, .ref 1 1 0), (2, .ref 0 1 0)], [⟨t0, 16, 1, ks .i32 (ofK 0 0), 0⟩, ⟨t0, 16, 1, ks .i32 (ofK d i), 0⟩]⟩) (fun i => i ≤ 8) (fun i => 8 - i) 0 (Le.slots (by simp [Am.look])) (by omega) ?_
  intro i hi
  have kl : (ks .i32 (ofK d i)).length = 16 := by rw [ks_length, ofK_len]
  by_cases hlt : i < 8
  · have a1 : shiftA false .u64 (d : Int) (8 * (i : Int)) = some (.int .u64 ((d / 2 ^ (8 * i) : Nat) : Int)) := by
      have := shrK (K := .u64) (n := d) (k := 8 * i) (by show 8 * i ≤ 64; omega)
      simpa using this
    have a2 := wrap_i8 (d / 2 ^ (8 * i))
    have a3 := sb8_b (d / 2 ^ (8 * i))
    have e3 : (ks .i32 (ofK d i)).take i ++ [.int .i32 (sb8 (d / 2 ^ (8 * i)))] ++ (ks .i32 (ofK d i)).drop (i + 1) = ks .i32 (ofK d (i + 1)) := by
      rw [← ofK_set (by omega), List.set_eq_take_append_cons_drop, if_pos (by rw [ofK_len]; omega)]; simp [ks, List.map_take, List.map_drop]
    generalize d / 2 ^ (8 * i) = q at *
    generalize sb8 q = y at *
    simp (maxSteps := 4000000) (disch := omega) only [abv, step, stepv, ev, wl, wn, wp, wz, aop, cV, cV1, AV.one, partCells, okW, onlyFr, app, sliceCells, cellsAt, srcA, subA, eqFs, Int.cast_ofNat_Int, simprocAttr, a1, a2, kl, e3]
    exact ⟨i + 1, by omega, by omega, Le.slots (by simp [Am.look])⟩
  · obtain rfl : i = 8 := by omega
    have o8 := ks_one .i32 (ofK d 8)
    have t8 : (ks .i32 (ofK d 8)).take 16 = ks .i32 (ofK d 8) := List.take_of_length_le (by omega)
    simp (maxSteps := 4000000) (disch := omega) only [abv, step, stepv, ev, wl, wn, wp, wz, aop, cV, cV1, AV.one, partCells, okW, onlyFr, app, sliceCells, cellsAt, srcA, subA, eqFs, Int.cast_ofNat_Int, simprocAttr, kl, kl0, t8, o8, resA, ht]
    try simp [kl]

theorem ref16_Of {P : Prg} {f t0 : Nat} (bd : Body P f 23 [.cell 2 t0] (ac_cadenzaref16_Of t0)) (ht : aggO P t0 = some (some 16)) : S_Of16 P f := by
  intro d hd
  refine VC.of_acall rfl (by simp [isD, isDL_ks]) (ACall.of_body bd (by simp) ?_)
  unfold ac_cadenzaref16_Of
  have z : ([.int .i32 0, .int .i32 0, .int .i32 0, .int .i32 0, .int .i32 0, .int .i32 0, .int .i32 0, .int .i32 0, .int .i32 0, .int .i32 0, .int .i32 0, .int .i32 0, .int .i32 0, .int .i32 0, .int .i32 0, .int .i32 0] : List AV) = ks .i32 (ofK 0 0) := rfl
  rw [z]
  have ol := ks_one .i32 (ofK 0 0)
  have kl0 : (ks .i32 (ofK 0 0)).length = 16 := rfl
  simp (maxSteps := 4000000) (disch := omega) only [abv, step, stepv, ev, wl, wn, wp, wz, aop, cV, cV1, AV.one, partCells, okW, onlyFr, app, sliceCells, cellsAt, srcA, subA, eqFs, Int.cast_ofNat_Int, simprocAttr, ol, kl0]
  refine ALoop.by (ι := Nat) (fun i => ⟨[(4, .int .i64 i), (0, .int .u64 (d / 2 ^ (8 * i) : Nat)), (3, .ref 1 1 0), (2, .ref 0 1 0)], [⟨t0, 16, 1, ks .i32 (ofK 0 0), 0⟩, ⟨t0, 16, 1, ks .i32 (ofK d i), 0⟩]⟩) (fun i => i ≤ 8) (fun i => 8 - i) 0 (Le.slots (by simp [Am.look])) (by omega) ?_
  intro i hi
  have kl : (ks .i32 (ofK d i)).length = 16 := by rw [ks_length, ofK_len]
  by_cases hlt : i < 8
  · have hd2 : d / 2 ^ (8 * (i + 1)) = d / 2 ^ (8 * i) / 256 := by
      rw [show 8 * (i + 1) = 8 * i + 8 by omega, Nat.pow_add, ← Nat.div_div_eq_div_mul]
    have hq : d / 2 ^ (8 * i) ≤ d := Nat.div_le_self _ _
    have e3 : (ks .i32 (ofK d i)).take i ++ [.int .i32 (sb8 (d / 2 ^ (8 * i)))] ++ (ks .i32 (ofK d i)).drop (i + 1) = ks .i32 (ofK d (i + 1)) := by
      rw [← ofK_set (by omega), List.set_eq_take_append_cons_drop, if_pos (by rw [ofK_len]; omega)]; simp [ks, List.map_take, List.map_drop]
    generalize d / 2 ^ (8 * i) = q at *
    have a1 : ((q : Int)).tmod 256 = ((q % 256 : Nat) : Int) := rfl
    have a2 : (q : Int) % 256 = ((q % 256 : Nat) : Int) := by omega
    have a3 : ((q : Int)).tdiv 256 = ((q / 256 : Nat) : Int) := rfl
    have a4 : (q : Int) / 256 = ((q / 256 : Nat) : Int) := by omega
    have hb : q % 256 < 256 := Nat.mod_lt _ (by decide)
    by_cases h : 127 < q % 256
    · have s1 : sb8 q = ((q % 256 : Nat) : Int) - 256 := by rw [sb8, if_pos h]
      rw [s1] at e3
      generalize q % 256 = y at *
      simp (maxSteps := 4000000) (disch := omega) only [abv, step, stepv, ev, wl, wn, wp, wz, aop, cV, cV1, AV.one, partCells, okW, onlyFr, app, sliceCells, cellsAt, srcA, subA, eqFs, Int.cast_ofNat_Int, simprocAttr, a1, a2, a3, a4, kl, e3]
      exact ⟨i + 1, by omega, by omega, Le.slots (by simp [Am.look, hd2])⟩
    · have s1 : sb8 q = ((q % 256 : Nat) : Int) := by rw [sb8, if_neg h]
      rw [s1] at e3
      generalize q % 256 = y at *
      simp (maxSteps := 4000000) (disch := omega) only [abv, step, stepv, ev, wl, wn, wp, wz, aop, cV, cV1, AV.one, partCells, okW, onlyFr, app, sliceCells, cellsAt, srcA, subA, eqFs, Int.cast_ofNat_Int, simprocAttr, a1, a2, a3, a4, kl, e3]
      exact ⟨i + 1, by omega, by omega, Le.slots (by simp [Am.look, hd2])⟩
  · obtain rfl : i = 8 := by omega
    have o8 := ks_one .i32 (ofK d 8)
    have t8 : (ks .i32 (ofK d 8)).take 16 = ks .i32 (ofK d 8) := List.take_of_length_le (by omega)
    simp (maxSteps := 4000000) (disch := omega) only [abv, step, stepv, ev, wl, wn, wp, wz, aop, cV, cV1, AV.one, partCells, okW, onlyFr, app, sliceCells, cellsAt, srcA, subA, eqFs, Int.cast_ofNat_Int, simprocAttr, kl, kl0, t8, o8, resA, ht]
    try simp [kl]

theorem isTLu8 : ∀ p : List UInt8, isTL (u8 p) = true
  | [] => rfl
  | b :: p => by have := isTLu8 p; simp only [u8, List.map_cons, isTL, isT, Bool.true_and] at this ⊢; exact this
def zer16 : List Int := List.replicate 16 0
def tapsA (p : List UInt8) : AV := if 64 < p.length then .tup [.agg (ks .i32 zer16), .int .i64 2] else .tup [.agg (ks .i32 (ofK (sixL 0 p) 8)), .int .i64 0]
theorem isD_taps (p : List UInt8) : isD (tapsA p) = true := by unfold tapsA; split <;> simp [isD, isDL, isDL_ks]
def S_Taps (P : Prg) (f : Nat) : Prop := ∀ p : List UInt8, VC P f [.str p] (tapsA p)
theorem seed_Taps {P : Prg} {f fS fO t0 : Nat} (bd : Body P f 22 [.cell 2 t0, .tmp 3] (ac_seed_Taps fS fO t0)) (hS : S_Sum6 P fS) (hO : S_Of16 P fO) (ht : aggO P t0 = some (some 16)) : S_Taps P f := by
  intro p
  refine VC.of_acall rfl (isD_taps p) (ACall.of_body bd (by simp) ?_)
  unfold ac_seed_Taps
  have z : ([.int .i32 0, .int .i32 0, .int .i32 0, .int .i32 0, .int .i32 0, .int .i32 0, .int .i32 0, .int .i32 0, .int .i32 0, .int .i32 0, .int .i32 0, .int .i32 0, .int .i32 0, .int .i32 0, .int .i32 0, .int .i32 0] : List AV) = ks .i32 zer16 := rfl
  rw [z]
  have ol := ks_one .i32 zer16
  have kl0 : (ks .i32 zer16).length = 16 := rfl
  have t0' : (ks .i32 zer16).take 16 = ks .i32 zer16 := rfl
  by_cases hp : 64 < p.length
  · have e9 : tapsA p = .tup [.agg (ks .i32 zer16), .int .i64 2] := by rw [tapsA, if_pos hp]
    simp (maxSteps := 4000000) (disch := omega) only [abv, step, stepv, ev, wl, wn, wp, wz, aop, cV, cV1, AV.one, partCells, okW, onlyFr, app, sliceCells, cellsAt, srcA, subA, eqFs, Int.cast_ofNat_Int, simprocAttr, ol, kl0, resA, ht, t0', e9]
    rfl
  · have e9 : tapsA p = .tup [.agg (ks .i32 (ofK (sixL 0 p) 8)), .int .i64 0] := by rw [tapsA, if_neg hp]
    have hS' := hS p
    rw [if_neg (by omega)] at hS'
    have hO' := hO (sixL 0 p) (sixL_lt (by decide))
    have o8 := ks_one .i32 (ofK (sixL 0 p) 8)
    have kl : (ks .i32 (ofK (sixL 0 p) 8)).length = 16 := by rw [ks_length, ofK_len]
    have t8 : (ks .i32 (ofK (sixL 0 p) 8)).take 16 = ks .i32 (ofK (sixL 0 p) 8) := List.take_of_length_le (by omega)
    have tp := isTLu8 p
    rw [bs] at hS'
    simp (maxSteps := 4000000) (disch := omega) only [abv, step, stepv, ev, wl, wn, wp, wz, aop, cV, cV1, AV.one, partCells, okW, onlyFr, app, sliceCells, cellsAt, srcA, subA, eqFs, Int.cast_ofNat_Int, simprocAttr, ol, kl0]
    refine callQ.flat 1 hS' rfl (by simp [frzN, frzK, frzL, frzV, frzL_T _ tp]) ?_
    simp (maxSteps := 4000000) (disch := omega) only [abv, step, stepv, ev, wl, wn, wp, wz, aop, cV, cV1, AV.one, partCells, okW, onlyFr, app, sliceCells, cellsAt, srcA, subA, eqFs, Int.cast_ofNat_Int, simprocAttr]
    refine callQ.vc hO' ?_
    have zl : zer16.length = 16 := rfl
    have zd : (ks .i32 zer16).drop 16 = [] := rfl
    simp (maxSteps := 4000000) (disch := omega) only [abv, step, stepv, ev, wl, wn, wp, wz, aop, cV, cV1, AV.one, partCells, okW, onlyFr, app, sliceCells, cellsAt, srcA, subA, eqFs, Int.cast_ofNat_Int, simprocAttr, o8, kl, t8, resA, ht, e9, zl, zd, List.append_nil]
    try simp [kl]
theorem ref16_Taps {P : Prg} {f fS fO t0 : Nat} (bd : Body P f 18 [.cell 2 t0, .tmp 3] (ac_cadenzaref16_Taps fS fO t0)) (hS : S_Sum6 P fS) (hO : S_Of16 P fO) (ht : aggO P t0 = some (some 16)) : S_Taps P f := by
  intro p
  refine VC.of_acall rfl (isD_taps p) (ACall.of_body bd (by simp) ?_)
  unfold ac_cadenzaref16_Taps
  have z : ([.int .i32 0, .int .i32 0, .int .i32 0, .int .i32 0, .int .i32 0, .int .i32 0, .int .i32 0, .int .i32 0, .int .i32 0, .int .i32 0, .int .i32 0, .int .i32 0, .int .i32 0, .int .i32 0, .int .i32 0, .int .i32 0] : List AV) = ks .i32 zer16 := rfl
  rw [z]
  have ol := ks_one .i32 zer16
  have kl0 : (ks .i32 zer16).length = 16 := rfl
  have t0' : (ks .i32 zer16).take 16 = ks .i32 zer16 := rfl
  by_cases hp : 64 < p.length
  · have e9 : tapsA p = .tup [.agg (ks .i32 zer16), .int .i64 2] := by rw [tapsA, if_pos hp]
    simp (maxSteps := 4000000) (disch := omega) only [abv, step, stepv, ev, wl, wn, wp, wz, aop, cV, cV1, AV.one, partCells, okW, onlyFr, app, sliceCells, cellsAt, srcA, subA, eqFs, Int.cast_ofNat_Int, simprocAttr, ol, kl0, resA, ht, t0', e9]
    rfl
  · have e9 : tapsA p = .tup [.agg (ks .i32 (ofK (sixL 0 p) 8)), .int .i64 0] := by rw [tapsA, if_neg hp]
    have hS' := hS p
    rw [if_neg (by omega)] at hS'
    have hO' := hO (sixL 0 p) (sixL_lt (by decide))
    have o8 := ks_one .i32 (ofK (sixL 0 p) 8)
    have kl : (ks .i32 (ofK (sixL 0 p) 8)).length = 16 := by rw [ks_length, ofK_len]
    have t8 : (ks .i32 (ofK (sixL 0 p) 8)).take 16 = ks .i32 (ofK (sixL 0 p) 8) := List.take_of_length_le (by omega)
    have tp := isTLu8 p
    rw [bs] at hS'
    simp (maxSteps := 4000000) (disch := omega) only [abv, step, stepv, ev, wl, wn, wp, wz, aop, cV, cV1, AV.one, partCells, okW, onlyFr, app, sliceCells, cellsAt, srcA, subA, eqFs, Int.cast_ofNat_Int, simprocAttr, ol, kl0]
    refine callQ.flat 1 hS' rfl (by simp [frzN, frzK, frzL, frzV, frzL_T _ tp]) ?_
    simp (maxSteps := 4000000) (disch := omega) only [abv, step, stepv, ev, wl, wn, wp, wz, aop, cV, cV1, AV.one, partCells, okW, onlyFr, app, sliceCells, cellsAt, srcA, subA, eqFs, Int.cast_ofNat_Int, simprocAttr]
    refine callQ.vc hO' ?_
    have zl : zer16.length = 16 := rfl
    have zd : (ks .i32 zer16).drop 16 = [] := rfl
    simp (maxSteps := 4000000) (disch := omega) only [abv, step, stepv, ev, wl, wn, wp, wz, aop, cV, cV1, AV.one, partCells, okW, onlyFr, app, sliceCells, cellsAt, srcA, subA, eqFs, Int.cast_ofNat_Int, simprocAttr, o8, kl, t8, resA, ht, e9, zl, zd, List.append_nil]
    try simp [kl]
end Go.Am

namespace Go.Am
open Go.RowKit

/-! ### clip.Frames -/

theorem I32_ofK (d k : Nat) : I32 (ofK d k) := fun x hx => by
  unfold ofK at hx
  obtain ⟨i, _, rfl⟩ := List.mem_map.1 hx
  split
  · have := sb8_b (d / 2 ^ (8 * i)); omega
  · omega
end Go.Am

namespace Go.Am
open Go.RowKit

/-! ### The reference's Frames; the law ClipFrames -/

theorem bss_at {L : List (List UInt8)} {k : Nat} (h : k < L.length) : (L.map bs).drop k = bs (L.getD k []) :: (L.map bs).drop (k + 1) := by
  rw [List.drop_eq_getElem_cons (by simpa using h)]
  simp [List.getD_eq_getElem?_getD, List.getElem?_eq_getElem h]

end Go.Am

namespace Go.Am
open Go.RowKit

/-! ### clip.Of -/

def avInts : List AV → List Int
  | .int _ n :: r => n :: avInts r
  | _ => []
def avP : AV → List Int
  | .tup (.list _ cs :: _) => avInts cs
  | _ => []
def avE : AV → Int
  | .tup [_, .int _ e] => e
  | _ => 0
theorem avInts_ks (l : List Int) : avInts (ks .i32 l) = l := by
  induction l with
  | nil => rfl
  | cons x l ih => simp only [ks_cons, avInts, ih]
def decP (c x : Int) (t : List Int) (n : Int) (b : List UInt8) : List Int := avP (decA c x t n b)
def decE (c x : Int) (t : List Int) (n : Int) (b : List UInt8) : Int := avE (decA c x t n b)
def okQ (x : Int) (l : List Int) : Prop := l.length ≤ 4000 ∧ ∀ v ∈ l, inR x v = true
theorem rng_form (x : Int) (l : List Int) : ∃ (p : List Int) (e : Int), rngA x l = .tup [il p, .int .i64 e] ∧ okQ x p := by
  unfold rngA
  by_cases h : checkN x l = 0
  · rw [if_neg (by omega)]
    refine ⟨l, 0, rfl, ?_⟩
    unfold checkN at h
    split at h
    · cases h
    split at h
    · cases h
    split at h
    · rename_i h1 h2 h3
      exact ⟨by omega, List.all_eq_true.1 h3⟩
    · cases h
  · rw [if_pos h]
    exact ⟨[], _, rfl, by simp [okQ]⟩
theorem er_form (x e : Int) : ∃ (p : List Int) (e' : Int), erA e = .tup [il p, .int .i64 e'] ∧ okQ x p := ⟨[], e, rfl, by simp [okQ]⟩
theorem decPE' (c x : Int) (t : List Int) (n : Int) (b : List UInt8) : ∃ (p : List Int) (e : Int), decA c x t n b = .tup [il p, .int .i64 e] ∧ okQ x p := by
  unfold decA
  split
  · exact er_form _ _
  split
  · exact er_form _ _
  unfold decV
  split
  · exact er_form _ _
  split
  · exact er_form _ _
  · exact rng_form _ _
theorem decPE (c x : Int) (t : List Int) (n : Int) (b : List UInt8) : decA c x t n b = .tup [il (decP c x t n b), .int .i64 (decE c x t n b)] ∧ okQ x (decP c x t n b) := by
  obtain ⟨p, e, h1, h2⟩ := decPE' c x t n b
  have hp : decP c x t n b = p := by rw [decP, h1]; simp only [avP, il, avInts_ks]
  have he : decE c x t n b = e := by rw [decE, h1]; rfl
  rw [hp, he]
  exact ⟨h1, h2⟩
def firstE (E : Nat → Int) : Nat → Int
  | 0 => 0
  | n + 1 => if firstE E n ≠ 0 then firstE E n else E n
theorem firstE_stay {E : Nat → Int} {k : Nat} (h : firstE E k ≠ 0) : ∀ m, firstE E (k + m) = firstE E k
  | 0 => rfl
  | m + 1 => by
    show (if firstE E (k + m) ≠ 0 then firstE E (k + m) else E (k + m)) = _
    rw [firstE_stay h m, if_pos h]
theorem firstE_at {E : Nat → Int} {k m : Nat} (h : firstE E k = 0) (h2 : E k ≠ 0) (hm : k < m) : firstE E m = E k := by
  have h3 : firstE E (k + 1) = E k := by simp [firstE, h]
  have h4 := firstE_stay (E := E) (k := k + 1) (by rw [h3]; exact h2) (m - (k + 1))
  rw [show k + 1 + (m - (k + 1)) = m by omega, h3] at h4
  exact h4

def lensO (r n : Int) : List Int := lensL (longN r).toNat n.toNat
def errO (c x r n : Int) (t : List Int) (L : List (List UInt8)) (j : Nat) : Int := decE c x t ((lensO r n).getD j 0) (L.getD j [])
def partO (c x r n : Int) (t : List Int) (L : List (List UInt8)) (j : Nat) : List Int := decP c x t ((lensO r n).getD j 0) (L.getD j [])
def sumO (c x r n : Int) (t : List Int) (L : List (List UInt8)) (k : Nat) : List Int := ((List.range k).map (partO c x r n t L)).flatten
def clOfA (c x r n : Int) (p : List UInt8) (L : List (List UInt8)) : AV :=
  if headN c x r n ≠ 0 then .tup [clA 0 0 0 [], .int .i64 8] else if 64 < p.length then .tup [clA 0 0 0 [], .int .i64 2] else if (lensO r n).length ≠ L.length then .tup [clA 0 0 0 [], .int .i64 12] else
  if firstE (errO c x r n (ofK (sixL 0 p) 8) L) L.length ≠ 0 then .tup [clA 0 0 0 [], .int .i64 (firstE (errO c x r n (ofK (sixL 0 p) 8) L) L.length)] else .tup [clA c x r (sumO c x r n (ofK (sixL 0 p) 8) L L.length), .int .i64 0]
theorem isD_clOfA (c x r n : Int) (p : List UInt8) (L : List (List UInt8)) : isD (clOfA c x r n p L) = true := by
  unfold clOfA
  repeat' split
  all_goals simp [isD, isDL, isD_il, clA]
theorem sumO_succ (c x r n : Int) (t : List Int) (L : List (List UInt8)) (k : Nat) : sumO c x r n t L (k + 1) = sumO c x r n t L k ++ partO c x r n t L k := by
  simp [sumO, List.range_succ]
theorem sumO_le (c x r n : Int) (t : List Int) (L : List (List UInt8)) : ∀ k, (sumO c x r n t L k).length ≤ k * 4000
  | 0 => by simp [sumO]
  | k + 1 => by
    have h1 := sumO_le c x r n t L k
    have h2 : (partO c x r n t L k).length ≤ 4000 := (decPE _ _ _ _ _).2.1
    rw [sumO_succ, List.length_append]
    omega
theorem head_ok {c x r n : Int} (h : headN c x r n = 0) : okA r n ∧ eCheck c x = 0 ∧ 1 ≤ n ∧ n ≤ 4000 / c := by
  unfold headN at h
  split at h
  · cases h
  rename_i a1
  split at h
  · cases h
  rename_i a2
  split at h
  · cases h
  rename_i a3
  split at h
  · cases h
  rename_i a4
  have a5 : eCheck c x = 0 := by simpa using a1
  have a6 : cntE r n = 0 := by simpa using a4
  refine ⟨?_, a5, by omega, by omega⟩
  unfold cntE at a6
  split at a6
  · cases a6
  split at a6
  · cases a6
  split at a6
  · cases a6
  rename_i b1 b2 b3
  refine ⟨by omega, by omega, by omega, by omega, ?_⟩
  have hlong : 1 ≤ longN r := longN_pos r
  obtain ⟨L, hLe⟩ : ∃ L : Nat, longN r = L := ⟨(longN r).toNat, by omega⟩
  obtain ⟨m, rfl⟩ : ∃ m : Nat, n = m := ⟨n.toNat, by omega⟩
  rw [hLe, Int.toNat_natCast, Int.toNat_natCast, lensL_len]
  rw [hLe] at b3
  have h1 : (m : Int) + (L : Int) - 1 = ((m - 1 + L : Nat) : Int) := by omega
  rw [h1, ← Int.natCast_ediv, Nat.add_div_right _ (by omega)] at b3
  omega

theorem RepL.split {X : Cx} : ∀ {cs bs : List AV} {vs : List Value}, RepL X (cs ++ bs) vs → ∃ us ws, vs = us ++ ws ∧ RepL X cs us ∧ RepL X bs ws
  | [], bs, vs, h => ⟨[], vs, rfl, by simp [RepL], h⟩
  | a :: cs, bs, vs, h => by
    simp only [List.cons_append, RepL] at h
    obtain ⟨v, rest, rfl, h1, h2⟩ := h
    obtain ⟨us, ws, rfl, h3, h4⟩ := RepL.split h2
    exact ⟨v :: us, ws, rfl, by simp only [RepL]; exact ⟨v, us, rfl, h1, h3⟩, h4⟩
theorem Le.virtI {M : Nat} {fr : List (Nat × AV)} {ob : List Ob} (p ty sz : Nat) {x : Ob} {z : Bool} {pre rest : List AV} (h0 : sz ≠ 0) (hp : ob[p]? = some x) (hx : x.cs = pre ++ .emp z :: rest) :
    Le M ⟨fr, ob⟩ ⟨fr, ob.set p { x with cs := pre ++ .own ob.length 0 :: rest } ++ [⟨ty, sz, 0, [], 0⟩]⟩ := by
  intro Γ a w hX ⟨q1, q2, q3, be, g, hm, hfr0⟩
  obtain ⟨g1, m1⟩ := g.empty ty sz
  have hpl : p < ob.length := (List.getElem?_eq_some_iff.1 hp).1
  have hp1 : (ob ++ [(⟨ty, sz, 0, [], 0⟩ : Ob)])[p]? = some x := by rw [List.getElem?_append_left hpl]; exact hp
  have hl : be.length = ob.length := g.len
  obtain ⟨g2, m2, _⟩ := g1.retell hp1 (pre ++ .own ob.length 0 :: rest) (by rw [hx]; simp) (fun vs hv => by
    rw [hx] at hv
    obtain ⟨us, ws, rfl, h1, h2⟩ := RepL.split hv
    refine h1.append ?_
    simp only [RepL] at h2 ⊢
    obtain ⟨v, r, rfl, hv, h2⟩ := h2
    refine ⟨v, r, rfl, ?_, h2⟩
    simp only [Rep] at hv ⊢
    obtain ⟨a', e, _⟩ := hv
    refine ⟨⟨⟨ty, sz, 0, [], 0⟩, by simp, h0, Nat.le_refl _, fun _ => ?_⟩, by rw [e]; rfl⟩
    simp only [OwnV]
    rw [show ob.length = be.length from hl.symm]
    simp [e])
  have e1 : (ob ++ [(⟨ty, sz, 0, [], 0⟩ : Ob)]).set p { x with cs := pre ++ .own ob.length 0 :: rest } = ob.set p { x with cs := pre ++ .own ob.length 0 :: rest } ++ [⟨ty, sz, 0, [], 0⟩] := List.set_append_left _ _ hpl
  rw [← e1]
  exact ⟨q1, q2, q3, _, g2, hm.trans (m1.trans m2), fun i => Rep.move m2 _ _ (Rep.move m1 _ _ (hfr0 i))⟩
end Go.Am

namespace Go.Am
open Go.RowKit

/-! ### A call with a row of one's own among its arguments, in a region of open order -/

def ph3 : Ob := ⟨1, 1, 0, [], 0⟩
theorem Held.fill {B : Nat} {w : World} {ob : List Ob} {be : List (Option (Nat × Nat))} {C : Nat → Nat → Prop} {o : Nat} (g : Held B ⟨w, ob, be, C⟩) (ho : ob[o]? = some ph2) :
    Held B ⟨w, ob.set o ph3, be.set o none, C⟩ ∧ Moves ⟨w, ob, be, C⟩ ⟨w, ob.set o ph3, be.set o none, C⟩ := by
  have hol : o < ob.length := (List.getElem?_eq_some_iff.1 ho).1
  have hlen : be.length = ob.length := g.len
  have hav : ∀ b k, (Cx.mk w (ob.set o ph3) (be.set o none) C).av b k → (Cx.mk w ob be C).av b k := by
    rintro b k (h | ⟨o', x, c, h1, h2, h3⟩)
    · exact .inl h
    · simp only [List.getElem?_set] at h1 h2
      by_cases e : o = o'
      · subst e; simp [hlen, hol] at h2
      · simp [e] at h1 h2
        exact .inr ⟨o', x, c, h1, h2, h3⟩
  have m : Moves ⟨w, ob, be, C⟩ ⟨w, ob.set o ph3, be.set o none, C⟩ := by
    refine ⟨fun b k v hc ha => ⟨hc, fun h => ha (hav b k h)⟩, fun o' x hx => ?_, fun b hb hf => ⟨rfl, fun o' c h => ?_⟩⟩
    · by_cases e : o = o'
      · subst e
        have hx' : ob[o]? = some x := hx
        rw [ho] at hx'; cases hx'
        exact ⟨ph3, by simp [hol], Nat.le_refl _, fun h => absurd rfl h⟩
      · exact ⟨x, by simp only [List.getElem?_set, e, if_false]; exact hx, Nat.le_refl _, fun h => ⟨h, fun _ => by simp only [List.getElem?_set, e, if_false]⟩⟩
    · simp only [List.getElem?_set] at h
      by_cases e : o = o'
      · subst e; simp [hlen, hol] at h
      · simp [e] at h; exact hf o' c h
  refine ⟨⟨by simp [hlen], fun o' x e' hx he => ?_, fun o1 o2 b c c' q1 q2 => ?_, fun o1 b c q => ?_, g.bnd, g.size⟩, m⟩
  · simp only [List.getElem?_set] at hx he
    by_cases e : o = o'
    · subst e
      simp [hlen, hol] at hx he
      subst hx; subst he
      exact ⟨rfl, rfl⟩
    · simp [e] at hx he
      exact (g.ok o' x e' hx he).move m fun _ _ _ => rfl
  · simp only [List.getElem?_set] at q1 q2
    by_cases e : o = o1
    · subst e; simp [hlen, hol] at q1
    · by_cases e2 : o = o2
      · subst e2; simp [hlen, hol] at q2
      · simp [e] at q1; simp [e2] at q2
        exact g.inj o1 o2 b c c' q1 q2
  · simp only [List.getElem?_set] at q
    by_cases e : o = o1
    · subst e; simp [hlen, hol] at q
    · simp [e] at q; exact g.base o1 b c q
theorem ACall.fill {P : Prg} {f : FuncId} {avs : List AV} {r : AV} {ob : List Ob} {o : Nat} (ho : ob[o]? = some ph2) (h : ACall P f avs ob (fun r' ob' => r' = r ∧ ob' = ob)) : ACall P f avs ob (fun r' ob' => r' = r ∧ ob' = ob.set o ph3) := by
  obtain ⟨hE, h⟩ := h
  refine ⟨hE, fun B w be C vs g hG hr => (h B w be C vs g hG hr).mono ?_⟩
  rintro e w' ⟨v, r', ob', be', rfl, hb, hh, hm, hv, rfl, rfl⟩
  obtain ⟨g1, m1⟩ := hh.fill ho
  exact ⟨v, r', _, _, rfl, hb, g1, hm.trans m1, Rep.move m1 _ _ hv, rfl, rfl⟩
theorem callD.own {P : Prg} {B : Nat} {Q : Exit → St → Prop} {f : FuncId} {avs : List AV} {r : AV} {ob : List Ob} (o : Nat) (he : Enters P f) (h : ∀ ob', ob'[o]? = some ph2 → ACall P f avs ob' (fun r' ob'' => r' = r ∧ ob'' = ob')) (ho : ob[o]? = some ph2)
    {xs : List It} {fr : List (Nat × AV)} {dst : Option Nat} (hK : wpDQ P B xs Q ⟨putA fr dst r, ob.set o ph3⟩) : callD P B false f avs xs Q fr ob dst := by
  refine callD.at (r := r) o ph3 he (fun ob' h' => ACall.fill h' (h ob' h')) ho (by decide) ?_
  simp only [app, if_pos (List.getElem?_eq_some_iff.1 ho).1]
  exact hK
theorem Le.padE {M : Nat} {fr : List (Nat × AV)} {ob : List Ob} : Le M ⟨fr, ob⟩ ⟨fr, ob ++ [ph2]⟩ := by
  intro Γ a w hX ⟨q1, q2, q3, be, g, hm, hfr0⟩
  obtain ⟨g1, m1⟩ := g.empty 1 0
  exact ⟨q1, q2, q3, _, g1, hm.trans m1, fun i => Rep.move m1 _ _ (hfr0 i)⟩

theorem shape_own {P : Prg} {f t0 t1 : Nat} (bd : Body P f 8 [.cell 2 t1] (ac_clip_shape t0 t1)) (ht : aggO P t1 = some (some 2)) (c x r : Int) (i k : Nat) (ob : List Ob) : ACall P f [.agg [.int .i64 c, .int .i64 x, .int .i64 r, .own i k]] ob (fun r' ob' => r' = shA c x ∧ ob' = ob) := by
  refine ACall.withLow bd.ent fun hl => ACall.low (ACall.of_body bd (by simp) ?_)
  simp (maxSteps := 4000000) (disch := omega) only [abv, step, stepv, ev, wl, wn, wp, wz, aop, cV, cV1, AV.one, partCells, okW, onlyFr, app, sliceCells, cellsAt, srcA, subA, eqFs, Int.cast_ofNat_Int, simprocAttr, ac_clip_shape, List.append_assoc, List.cons_append, List.nil_append, getJ, getJ0, setJ, setJ0, resA, ht, shA, oneOf]
  exact ⟨ob, [_, _], rfl, Nat.le_refl _, hl, by simp [lowV, lowL], rfl⟩

def okFr (L : List (List UInt8)) : Prop := L.length ≤ 1000000 ∧ ∀ j, (L.getD j []).length ≤ 1000000
def S_ClipOf (P : Prg) (f : Nat) : Prop := ∀ (c x r : Int) (l : List Int) (p : List UInt8) (n : Int) (L : List (List UInt8)), okFr L → VC P f [clA c x r l, .str p, .int .i64 n, bss L] (clOfA c x r n p L)

set_option maxHeartbeats 2000000 in
theorem clip_Of {P : Prg} {f fH fT fA fS fD t0 t1 t2 t3 t4 ti : Nat} (bd : Body P f 79 [.cell 8 t0, .tmp 9] (ac_clip_Of fH fT fA fS fD t0 t1 t2)) (hH : S_CHead P fH) (hT : S_Taps P fT) (hA : S_AllO ti P fA) (bS : Body P fS 8 [.cell 2 t3] (ac_clip_shape t4 t3)) (ht3 : aggO P t3 = some (some 2)) (hD : S_Decode P fD) (ht : aggO P t0 = some (some 4)) : S_ClipOf P f := by
  intro c x r l p n L ⟨hL1, hL2⟩
  refine VC.of_walk 2 (by simp [isDL, isD, isD_il, clA, isD_bss]) (isD_clOfA _ _ _ _ _ _) (ACall.of_body bd (by simp) ?_)
  have hH' := hH c x r n l
  rw [il] at hH'
  have tl := isTL_ks .i32 l
  have z : ([.int .i32 0, .int .i32 0, .int .i32 0, .int .i32 0, .int .i32 0, .int .i32 0, .int .i32 0, .int .i32 0, .int .i32 0, .int .i32 0, .int .i32 0, .int .i32 0, .int .i32 0, .int .i32 0, .int .i32 0, .int .i32 0] : List AV) = ks .i32 zer16 := rfl
  unfold ac_clip_Of
  rw [z]
  have ol := ks_one .i32 zer16
  have kl0 : (ks .i32 zer16).length = 16 := rfl
  have t0' : (ks .i32 zer16).take 16 = ks .i32 zer16 := rfl
  have zl : zer16.length = 16 := rfl
  have zd : (ks .i32 zer16).drop 16 = [] := rfl
  rcases head_cases c x r n with h | h
  · have e9 : clOfA c x r n p L = .tup [clA 0 0 0 [], .int .i64 8] := by rw [clOfA, if_pos (by omega)]
    rw [h] at hH'
    simp (maxSteps := 4000000) (disch := omega) only [abv, step, stepv, ev, wl, wn, wp, wz, aop, cV, cV1, AV.one, partCells, okW, onlyFr, app, sliceCells, cellsAt, srcA, subA, eqFs, Int.cast_ofNat_Int, simprocAttr, clA, il, bss]
    refine callQ.vc hH' ?_
    simp (maxSteps := 4000000) (disch := omega) only [abv, step, stepv, ev, wl, wn, wp, wz, aop, cV, cV1, AV.one, partCells, okW, onlyFr, app, sliceCells, cellsAt, srcA, subA, eqFs, Int.cast_ofNat_Int, simprocAttr, resA, ht, e9]
    simp [frzN, frzK, frzL, frzV, isDL, isD, clA, il, ks]
  rw [h] at hH'
  have hT' := hT p
  obtain ⟨hok, hec, hn1, hn4⟩ := head_ok h
  simp (maxSteps := 4000000) (disch := omega) only [abv, step, stepv, ev, wl, wn, wp, wz, aop, cV, cV1, AV.one, partCells, okW, onlyFr, app, sliceCells, cellsAt, srcA, subA, eqFs, Int.cast_ofNat_Int, simprocAttr, clA, il, bss]
  refine callQ.vc hH' ?_
  simp (maxSteps := 4000000) (disch := omega) only [abv, step, stepv, ev, wl, wn, wp, wz, aop, cV, cV1, AV.one, partCells, okW, onlyFr, app, sliceCells, cellsAt, srcA, subA, eqFs, Int.cast_ofNat_Int, simprocAttr]
  refine callQ.vc hT' ?_
  by_cases hp : 64 < p.length
  · have e9 : clOfA c x r n p L = .tup [clA 0 0 0 [], .int .i64 2] := by rw [clOfA, if_neg (by omega), if_pos hp]
    have e8 : tapsA p = .tup [.agg (ks .i32 zer16), .int .i64 2] := by rw [tapsA, if_pos hp]
    rw [e8]
    simp (maxSteps := 4000000) (disch := omega) only [abv, step, stepv, ev, wl, wn, wp, wz, aop, cV, cV1, AV.one, partCells, okW, onlyFr, app, sliceCells, cellsAt, srcA, subA, eqFs, Int.cast_ofNat_Int, simprocAttr, ol, kl0, t0', zl, zd, List.append_nil, resA, ht, e9]
    simp [frzN, frzK, frzL, frzV, isDL, isD, clA, il, ks]
  have e8 : tapsA p = .tup [.agg (ks .i32 (ofK (sixL 0 p) 8)), .int .i64 0] := by rw [tapsA, if_neg hp]
  have e9 : clOfA c x r n p L = if (lensO r n).length ≠ L.length then .tup [clA 0 0 0 [], .int .i64 12] else
      if firstE (errO c x r n (ofK (sixL 0 p) 8) L) L.length ≠ 0 then .tup [clA 0 0 0 [], .int .i64 (firstE (errO c x r n (ofK (sixL 0 p) 8) L) L.length)] else .tup [clA c x r (sumO c x r n (ofK (sixL 0 p) 8) L L.length), .int .i64 0] := by
    rw [clOfA, if_neg (by omega), if_neg hp]
  obtain ⟨T, hTe⟩ : ∃ T, ofK (sixL 0 p) 8 = T := ⟨_, rfl⟩
  have hTl : T.length = 16 := by rw [← hTe, ofK_len]
  have hTI : I32 T := by rw [← hTe]; exact I32_ofK _ _
  have oT := ks_one .i32 T
  have kT : (ks .i32 T).length = 16 := by rw [ks_length, hTl]
  have tT : (ks .i32 T).take 16 = ks .i32 T := List.take_of_length_le (by omega)
  have tT2 := isTL_ks .i32 T
  rw [hTe] at e8 e9
  have hA' := hA r n hok
  have hln : lensL (longN r).toNat n.toNat = lensO r n := rfl
  have hl1000 : (lensO r n).length ≤ 1000 := hok.2.2.2.2
  rw [hln] at hA'
  rw [e8]
  simp (maxSteps := 4000000) (disch := omega) only [abv, step, stepv, ev, wl, wn, wp, wz, aop, cV, cV1, AV.one, partCells, okW, onlyFr, app, sliceCells, cellsAt, srcA, subA, eqFs, Int.cast_ofNat_Int, simprocAttr, ol, kl0, oT, kT, zl, zd, List.append_nil]
  refine callQ.vo hA' ?_
  simp (maxSteps := 4000000) (disch := omega) only [abv, step, stepv, ev, wl, wn, wp, wz, aop, cV, cV1, AV.one, partCells, okW, onlyFr, app, sliceCells, cellsAt, srcA, subA, eqFs, Int.cast_ofNat_Int, simprocAttr, shr]
  by_cases hlen : (lensO r n).length = L.length
  case neg =>
    rw [if_pos hlen] at e9
    simp (maxSteps := 4000000) (disch := omega) only [abv, step, stepv, ev, wl, wn, wp, wz, aop, cV, cV1, AV.one, partCells, okW, onlyFr, app, sliceCells, cellsAt, srcA, subA, eqFs, Int.cast_ofNat_Int, simprocAttr, hlen, resA, ht, e9]
    simp [frzN, frzK, frzL, frzV, isDL, isD, clA, il, ks]
  rw [if_neg (by simpa using hlen)] at e9
  have kn : (ks .i64 (lensO r n)).length = L.length := by rw [ks_length, hlen]
  have hml : (L.map bs).length = L.length := by simp
  rw [hlen] at hl1000 ⊢
  simp (maxSteps := 4000000) (disch := omega) only [abv, step, stepv, ev, wl, wn, wp, wz, aop, cV, cV1, AV.one, partCells, okW, onlyFr, app, sliceCells, cellsAt, srcA, subA, eqFs, Int.cast_ofNat_Int, simprocAttr]
  refine ALoop.by (ι := Nat) (fun k => ⟨[(51, .int .i64 k), (50, .int .i64 L.length), (49, .list L.length (L.map bs)), (13, .own 3 L.length), (11, .ref 2 1 0), (8, .ref 1 1 0), (4, .ref 0 1 0)],
      [⟨t0, 4, 1, [.int .i64 c, .int .i64 x, .int .i64 r, .own 4 (sumO c x r n T L k).length], 0⟩, ⟨t0, 4, 1, [.int .i64 0, .int .i64 0, .int .i64 0, .list 0 []], 0⟩, ⟨t1, 16, 1, ks .i32 T, 0⟩, ⟨ti, 1, L.length, ks .i64 (lensO r n), 0⟩, ⟨t2, 1, (sumO c x r n T L k).length, ks .i32 (sumO c x r n T L k), 0⟩, ph2]⟩)
    (fun k => k ≤ L.length ∧ firstE (errO c x r n T L) k = 0) (fun k => L.length - k) 0 ?_ ⟨by omega, rfl⟩ ?_
  · refine Le.trans (Le.virtI (p := 0) (ty := t2) (sz := 1) (pre := [.int .i64 c, .int .i64 x, .int .i64 r]) (by omega) rfl rfl) (Le.trans (Le.drop 5 2 (ob' := [⟨t0, 4, 1, [.int .i64 c, .int .i64 x, .int .i64 r, .own 4 0], 0⟩, ⟨t0, 4, 1, [.int .i64 0, .int .i64 0, .int .i64 0, .list 0 []], 0⟩, ⟨t1, 16, 1, ks .i32 T, 0⟩, ⟨ti, 1, L.length, ks .i64 (lensO r n), 0⟩, ⟨t2, 1, 0, [], 0⟩])
      (fr' := [(51, .int .i64 0), (50, .int .i64 L.length), (49, .list L.length (L.map bs)), (13, .own 3 L.length), (11, .ref 2 1 0), (8, .ref 1 1 0), (4, .ref 0 1 0)]) (by omega) rfl (by simp [Am.look, frzK, frzL, frzV, frzL_T _ (isTL_bss L)]) ?_) Le.padE)
    intro i z hz
    match i, hz with
    | 0, hz => cases hz; exact ⟨_, rfl, by simp [frzK, frzL, frzV]⟩
    | 1, hz => cases hz; exact ⟨_, rfl, by simp [frzK, frzL, frzV]⟩
    | 2, hz => cases hz; exact ⟨_, rfl, by simp [frzK, frzL_T _ tT2]⟩
    | 3, hz => cases hz; exact ⟨_, rfl, by simp [frzK, frzL_T _ (isTL_ks .i64 _)]⟩
    | 4, hz => cases hz; exact ⟨_, rfl, by simp [frzK, frzL]⟩
    | i + 5, hz => simp at hz
  intro k ⟨hk, hfe⟩
  have hsl := sumO_le c x r n T L k
  have ksl := ks_length .i32 (sumO c x r n T L k)
  by_cases hlt : k < L.length
  · have e1 := bss_at (L := L) (k := k) hlt
    have hk2 : (k : Int) < L.length := by omega
    have la : (ks .i64 (lensO r n)).drop k = .int .i64 ((lensO r n).getD k 0) :: (ks .i64 (lensO r n)).drop (k + 1) := by
      have h := ks_at (K := .i64) (l := lensO r n) (i := k) (by omega)
      rw [← ks_drop] at h
      exact h
    have hD' := hD c x ((lensO r n).getD k 0) T (L.getD k []) hTl hTI (hL2 k)
    obtain ⟨d1, d2⟩ := decPE c x T ((lensO r n).getD k 0) (L.getD k [])
    rw [d1, shA] at hD'
    have hsu := sumO_succ c x r n T L k
    have hpo : partO c x r n T L k = decP c x T ((lensO r n).getD k 0) (L.getD k []) := rfl
    have heo : errO c x r n T L k = decE c x T ((lensO r n).getD k 0) (L.getD k []) := rfl
    rw [hpo] at hsu
    rw [← heo] at hD'
    obtain ⟨d3, d4⟩ := d2
    generalize decP c x T ((lensO r n).getD k 0) (L.getD k []) = pt at *
    generalize sumO c x r n T L k = su at *
    have kp := ks_length .i32 pt
    simp (maxSteps := 4000000) (disch := omega) only [abv, step, stepv, ev, wl, wn, wp, wz, aop, cV, cV1, AV.one, partCells, okW, onlyFr, app, sliceCells, cellsAt, srcA, subA, eqFs, Int.cast_ofNat_Int, simprocAttr, e1, hml, tT, kT]
    refine callD.own 5 bS.ent (fun ob' h' => shape_own bS ht3 c x r 4 _ ob') rfl ?_
    simp (maxSteps := 4000000) (disch := omega) only [abv, step, stepv, ev, wl, wn, wp, wz, aop, cV, cV1, AV.one, partCells, okW, onlyFr, app, sliceCells, cellsAt, srcA, subA, eqFs, Int.cast_ofNat_Int, simprocAttr, tT, kT, la, kn, shA, e1]
    refine callD.vc hD' ?_
    by_cases he : errO c x r n T L k = 0
    · rw [he]
      have hfe1 : firstE (errO c x r n T L) (k + 1) = 0 := by
        show (if firstE (errO c x r n T L) k ≠ 0 then _ else _) = _
        rw [hfe, if_neg (by simp), he]
      have kss : ks .i32 su ++ ks .i32 pt = ks .i32 (su ++ pt) := ks_append _ _ _
      simp (maxSteps := 4000000) (disch := omega) only [abv, step, stepv, ev, wl, wn, wp, wz, aop, cV, cV1, AV.one, partCells, okW, onlyFr, app, sliceCells, cellsAt, srcA, subA, eqFs, Int.cast_ofNat_Int, simprocAttr, il, ksl, kp, kss]
      refine ⟨k + 1, ⟨by omega, hfe1⟩, by omega, ?_⟩
      rw [hsu]
      refine Le.trans (Le.drop 5 2 (ob' := [⟨t0, 4, 1, [.int .i64 c, .int .i64 x, .int .i64 r, .own 4 (su ++ pt).length], 0⟩, ⟨t0, 4, 1, [.int .i64 0, .int .i64 0, .int .i64 0, .list 0 []], 0⟩, ⟨t1, 16, 1, ks .i32 T, 0⟩, ⟨ti, 1, L.length, ks .i64 (lensO r n), 0⟩, ⟨t2, 1, (su ++ pt).length, ks .i32 (su ++ pt), 0⟩])
        (fr' := [(51, .int .i64 (k + 1 : Nat)), (50, .int .i64 L.length), (49, .list L.length (L.map bs)), (13, .own 3 L.length), (11, .ref 2 1 0), (8, .ref 1 1 0), (4, .ref 0 1 0)]) (by omega) rfl (by simp [Am.look, frzK, frzL, frzV, frzL_T _ (isTL_bss L)]) ?_) Le.padE
      intro i z hz
      match i, hz with
      | 0, hz => cases hz; exact ⟨_, rfl, by simp [frzK, frzL, frzV]⟩
      | 1, hz => cases hz; exact ⟨_, rfl, by simp [frzK, frzL, frzV]⟩
      | 2, hz => cases hz; exact ⟨_, rfl, by simp [frzK, frzL_T _ tT2]⟩
      | 3, hz => cases hz; exact ⟨_, rfl, by simp [frzK, frzL_T _ (isTL_ks .i64 _)]⟩
      | 4, hz => cases hz; exact ⟨ks .i32 (su ++ pt), by simp, by simp [frzK, frzL_T _ (isTL_ks .i32 _)]⟩
      | i + 5, hz => simp at hz
    · have hfE : firstE (errO c x r n T L) L.length = errO c x r n T L k := firstE_at hfe he hlt
      rw [hfE, if_pos he] at e9
      simp (maxSteps := 4000000) (disch := omega) only [abv, step, stepv, ev, wl, wn, wp, wz, aop, cV, cV1, AV.one, partCells, okW, onlyFr, app, sliceCells, cellsAt, srcA, subA, eqFs, Int.cast_ofNat_Int, simprocAttr, resA, ht, e9]
      simp [frzN, frzK, frzL, frzV, isDL, isD, clA, il, ks]
  · obtain rfl : k = L.length := by omega
    rw [if_neg (by simpa using hfe)] at e9
    have ts := isTL_ks .i32 (sumO c x r n T L L.length)
    generalize sumO c x r n T L L.length = su at *
    simp (maxSteps := 4000000) (disch := omega) only [abv, step, stepv, ev, wl, wn, wp, wz, aop, cV, cV1, AV.one, partCells, okW, onlyFr, app, sliceCells, cellsAt, srcA, subA, eqFs, Int.cast_ofNat_Int, simprocAttr, resA, ht, e9]
    simp [frzN, frzK, frzL, frzV, isDL, isD, clA, il, frzL_T _ ts]
end Go.Am

namespace Go.Am
open Go.RowKit

/-! ### The reference's Of; the law ClipReads -/

set_option maxHeartbeats 2000000 in
theorem ref24_Of {P : Prg} {f fH fT fA fS fD fW t0 t1 t2 : Nat} (bd : Body P f 76 [.cell 8 t0, .tmp 9] (ac_cadenzaref24_Of fH fT fA fS fD fW t0 t1 t2)) (hH : S_RHead24 P fH) (hT : S_Taps P fT) (hA : S_All22 P fA) (hS : S_Shape24 P fS) (hD : S_Decode P fD) (hW : S_With24 P fW) (ht : aggO P t0 = some (some 4)) : S_ClipOf P f := by
  intro c x r l p n L ⟨hL1, hL2⟩
  refine VC.of_walk 2 (by simp [isDL, isD, isD_il, clA, isD_bss]) (isD_clOfA _ _ _ _ _ _) (ACall.of_cut 8 bd (by simp) ?_)
  have hH' := hH c x r n l
  rw [il] at hH'
  have tl := isTL_ks .i32 l
  have z : ([.int .i32 0, .int .i32 0, .int .i32 0, .int .i32 0, .int .i32 0, .int .i32 0, .int .i32 0, .int .i32 0, .int .i32 0, .int .i32 0, .int .i32 0, .int .i32 0, .int .i32 0, .int .i32 0, .int .i32 0, .int .i32 0] : List AV) = ks .i32 zer16 := rfl
  unfold ac_cadenzaref24_Of
  rw [z]
  have ol := ks_one .i32 zer16
  have kl0 : (ks .i32 zer16).length = 16 := rfl
  have t0' : (ks .i32 zer16).take 16 = ks .i32 zer16 := rfl
  have zl : zer16.length = 16 := rfl
  have zd : (ks .i32 zer16).drop 16 = [] := rfl
  rcases head_cases c x r n with h | h
  · have e9 : clOfA c x r n p L = .tup [clA 0 0 0 [], .int .i64 8] := by rw [clOfA, if_pos (by omega)]
    have e7 : decide (headN c x r n = 0) = false := by rw [h]; rfl
    rw [e7] at hH'
    simp (maxSteps := 4000000) (disch := omega) only [abv, step, stepv, ev, wl, wn, wp, wz, aop, cV, cV1, AV.one, partCells, okW, onlyFr, app, sliceCells, cellsAt, srcA, subA, eqFs, Int.cast_ofNat_Int, simprocAttr, clA, il, bss, cuts]
    refine callQ.vc hH' ?_
    simp (maxSteps := 4000000) (disch := omega) only [abv, step, stepv, ev, wl, wn, wp, wz, aop, cV, cV1, AV.one, partCells, okW, onlyFr, app, sliceCells, cellsAt, srcA, subA, eqFs, Int.cast_ofNat_Int, simprocAttr, resA, ht, e9, cuts, Bool.not_false]
    simp [frzN, frzK, frzL, frzV, isDL, isD, clA, il, ks]
  have e7 : decide (headN c x r n = 0) = true := by rw [h]; rfl
  rw [e7] at hH'
  have hT' := hT p
  obtain ⟨hok, hec, hn1, hn4⟩ := head_ok h
  simp (maxSteps := 4000000) (disch := omega) only [abv, step, stepv, ev, wl, wn, wp, wz, aop, cV, cV1, AV.one, partCells, okW, onlyFr, app, sliceCells, cellsAt, srcA, subA, eqFs, Int.cast_ofNat_Int, simprocAttr, clA, il, bss, cuts]
  refine callQ.vc hH' ?_
  simp (maxSteps := 4000000) (disch := omega) only [abv, step, stepv, ev, wl, wn, wp, wz, aop, cV, cV1, AV.one, partCells, okW, onlyFr, app, sliceCells, cellsAt, srcA, subA, eqFs, Int.cast_ofNat_Int, simprocAttr, cuts, Bool.not_true]
  refine callQ.vc hT' ?_
  by_cases hp : 64 < p.length
  · have e9 : clOfA c x r n p L = .tup [clA 0 0 0 [], .int .i64 2] := by rw [clOfA, if_neg (by omega), if_pos hp]
    have e8 : tapsA p = .tup [.agg (ks .i32 zer16), .int .i64 2] := by rw [tapsA, if_pos hp]
    rw [e8]
    simp (maxSteps := 4000000) (disch := omega) only [abv, step, stepv, ev, wl, wn, wp, wz, aop, cV, cV1, AV.one, partCells, okW, onlyFr, app, sliceCells, cellsAt, srcA, subA, eqFs, Int.cast_ofNat_Int, simprocAttr, ol, kl0, t0', zl, zd, List.append_nil, resA, ht, e9, cuts]
    simp [frzN, frzK, frzL, frzV, isDL, isD, clA, il, ks]
  have e8 : tapsA p = .tup [.agg (ks .i32 (ofK (sixL 0 p) 8)), .int .i64 0] := by rw [tapsA, if_neg hp]
  have e9 : clOfA c x r n p L = if (lensO r n).length ≠ L.length then .tup [clA 0 0 0 [], .int .i64 12] else
      if firstE (errO c x r n (ofK (sixL 0 p) 8) L) L.length ≠ 0 then .tup [clA 0 0 0 [], .int .i64 (firstE (errO c x r n (ofK (sixL 0 p) 8) L) L.length)] else .tup [clA c x r (sumO c x r n (ofK (sixL 0 p) 8) L L.length), .int .i64 0] := by
    rw [clOfA, if_neg (by omega), if_neg hp]
  obtain ⟨T, hTe⟩ : ∃ T, ofK (sixL 0 p) 8 = T := ⟨_, rfl⟩
  have hTl : T.length = 16 := by rw [← hTe, ofK_len]
  have hTI : I32 T := by rw [← hTe]; exact I32_ofK _ _
  have oT := ks_one .i32 T
  have kT : (ks .i32 T).length = 16 := by rw [ks_length, hTl]
  have tT : (ks .i32 T).take 16 = ks .i32 T := List.take_of_length_le (by omega)
  have tT2 := isTL_ks .i32 T
  rw [hTe] at e8 e9
  have hA' := hA r n
  have hln : lensL (longN r).toNat n.toNat = lensO r n := rfl
  have hl1000 : (lensO r n).length ≤ 1000 := hok.2.2.2.2
  have e6 : allA r n = .tup [i64L (lensO r n), .int .i64 0] := by
    obtain ⟨o1, o2, o3, o4, o5⟩ := hok
    unfold allA
    rw [if_neg (by omega), hln, if_neg (by omega)]
  rw [e6, i64L] at hA'
  rw [e8]
  simp (maxSteps := 4000000) (disch := omega) only [abv, step, stepv, ev, wl, wn, wp, wz, aop, cV, cV1, AV.one, partCells, okW, onlyFr, app, sliceCells, cellsAt, srcA, subA, eqFs, Int.cast_ofNat_Int, simprocAttr, ol, kl0, oT, kT, zl, zd, List.append_nil, cuts]
  refine callQ.vc hA' ?_
  simp (maxSteps := 4000000) (disch := omega) only [abv, step, stepv, ev, wl, wn, wp, wz, aop, cV, cV1, AV.one, partCells, okW, onlyFr, app, sliceCells, cellsAt, srcA, subA, eqFs, Int.cast_ofNat_Int, simprocAttr, cuts]
  by_cases hlen : (lensO r n).length = L.length
  case neg =>
    rw [if_pos hlen] at e9
    simp (maxSteps := 4000000) (disch := omega) only [abv, step, stepv, ev, wl, wn, wp, wz, aop, cV, cV1, AV.one, partCells, okW, onlyFr, app, sliceCells, cellsAt, srcA, subA, eqFs, Int.cast_ofNat_Int, simprocAttr, hlen, resA, ht, e9, cuts]
    simp [frzN, frzK, frzL, frzV, isDL, isD, clA, il, ks]
  rw [if_neg (by simpa using hlen)] at e9
  have kn : (ks .i64 (lensO r n)).length = L.length := by rw [ks_length, hlen]
  have hml : (L.map bs).length = L.length := by simp
  rw [hlen] at hl1000 ⊢
  simp (maxSteps := 4000000) (disch := omega) only [abv, step, stepv, ev, wl, wn, wp, wz, aop, cV, cV1, AV.one, partCells, okW, onlyFr, app, sliceCells, cellsAt, srcA, subA, eqFs, Int.cast_ofNat_Int, simprocAttr, cuts]
  refine ALoop.by (ι := Nat) (fun k => ⟨[(15, .int .i64 k), (14, .own 3 (sumO c x r n T L k).length), (12, .list L.length (ks .i64 (lensO r n))), (3, .list L.length (L.map bs)), (10, .ref 2 1 0), (8, .ref 1 1 0), (4, .ref 0 1 0)],
      [⟨t0, 4, 1, [.int .i64 c, .int .i64 x, .int .i64 r, .list l.length (ks .i32 l)], 0⟩, ⟨t0, 4, 1, [.int .i64 0, .int .i64 0, .int .i64 0, .list 0 []], 0⟩, ⟨t1, 16, 1, ks .i32 T, 0⟩, ⟨t2, 1, (sumO c x r n T L k).length, ks .i32 (sumO c x r n T L k), 0⟩]⟩)
    (fun k => k ≤ L.length ∧ firstE (errO c x r n T L) k = 0) (fun k => L.length - k) 0 ?_ ⟨by omega, rfl⟩ ?_
  · refine Le.trans (Le.virt 14 t2 1 (by omega) rfl) (Le.drop 4 2 (by omega) rfl (by simp [Am.look, frzK, frzL, frzV, frzL_T _ (isTL_bss L), frzL_T _ (isTL_ks .i64 _), sumO]) ?_)
    intro i z hz
    match i, hz with
    | 0, hz => cases hz; exact ⟨_, rfl, by simp [frzK, frzL, frzV, frzL_T _ tl]⟩
    | 1, hz => cases hz; exact ⟨_, rfl, by simp [frzK, frzL, frzV]⟩
    | 2, hz => cases hz; exact ⟨_, rfl, by simp [frzK, frzL_T _ tT2]⟩
    | 3, hz => cases hz; exact ⟨_, rfl, by simp [frzK, frzL, sumO, ks]⟩
    | i + 4, hz => simp at hz
  intro k ⟨hk, hfe⟩
  have hsl := sumO_le c x r n T L k
  have ksl := ks_length .i32 (sumO c x r n T L k)
  by_cases hlt : k < L.length
  · have e1 := bss_at (L := L) (k := k) hlt
    have la : (ks .i64 (lensO r n)).drop k = .int .i64 ((lensO r n).getD k 0) :: (ks .i64 (lensO r n)).drop (k + 1) := by
      have h := ks_at (K := .i64) (l := lensO r n) (i := k) (by omega)
      rw [← ks_drop] at h
      exact h
    have hS' := hS c x r l
    rw [shA, il] at hS'
    have hD' := hD c x ((lensO r n).getD k 0) T (L.getD k []) hTl hTI (hL2 k)
    obtain ⟨d1, d2⟩ := decPE c x T ((lensO r n).getD k 0) (L.getD k [])
    rw [d1, shA] at hD'
    have hsu := sumO_succ c x r n T L k
    have hpo : partO c x r n T L k = decP c x T ((lensO r n).getD k 0) (L.getD k []) := rfl
    have heo : errO c x r n T L k = decE c x T ((lensO r n).getD k 0) (L.getD k []) := rfl
    rw [hpo] at hsu
    rw [← heo] at hD'
    obtain ⟨d3, d4⟩ := d2
    generalize decP c x T ((lensO r n).getD k 0) (L.getD k []) = pt at *
    generalize sumO c x r n T L k = su at *
    have kp := ks_length .i32 pt
    simp (maxSteps := 4000000) (disch := omega) only [abv, step, stepv, ev, wl, wn, wp, wz, aop, cV, cV1, AV.one, partCells, okW, onlyFr, app, sliceCells, cellsAt, srcA, subA, eqFs, Int.cast_ofNat_Int, simprocAttr, e1, hml, tT, kT, cuts]
    refine callD.vc hS' ?_
    simp (maxSteps := 4000000) (disch := omega) only [abv, step, stepv, ev, wl, wn, wp, wz, aop, cV, cV1, AV.one, partCells, okW, onlyFr, app, sliceCells, cellsAt, srcA, subA, eqFs, Int.cast_ofNat_Int, simprocAttr, tT, kT, la, kn, e1, hml, cuts]
    refine callD.vc hD' ?_
    by_cases he : errO c x r n T L k = 0
    · rw [he]
      have hfe1 : firstE (errO c x r n T L) (k + 1) = 0 := by
        show (if firstE (errO c x r n T L) k ≠ 0 then _ else _) = _
        rw [hfe, if_neg (by simp), he]
      have kss : ks .i32 su ++ ks .i32 pt = ks .i32 (su ++ pt) := ks_append _ _ _
      simp (maxSteps := 4000000) (disch := omega) only [abv, step, stepv, ev, wl, wn, wp, wz, aop, cV, cV1, AV.one, partCells, okW, onlyFr, app, sliceCells, cellsAt, srcA, subA, eqFs, Int.cast_ofNat_Int, simprocAttr, il, ksl, kp, kss, cuts]
      refine ⟨k + 1, ⟨by omega, hfe1⟩, by omega, ?_⟩
      rw [hsu, List.length_append]
      exact Le.slots (by simp [Am.look])
    · have hfE : firstE (errO c x r n T L) L.length = errO c x r n T L k := firstE_at hfe he hlt
      rw [hfE, if_pos he] at e9
      simp (maxSteps := 4000000) (disch := omega) only [abv, step, stepv, ev, wl, wn, wp, wz, aop, cV, cV1, AV.one, partCells, okW, onlyFr, app, sliceCells, cellsAt, srcA, subA, eqFs, Int.cast_ofNat_Int, simprocAttr, resA, ht, e9, cuts]
      simp [frzN, frzK, frzL, frzV, isDL, isD, clA, il, ks]
  · obtain rfl : k = L.length := by omega
    rw [if_neg (by simpa using hfe)] at e9
    have hW' := hW c x r l (sumO c x r n T L L.length)
    have ts := isTL_ks .i32 (sumO c x r n T L L.length)
    generalize sumO c x r n T L L.length = su at *
    simp only [clA, il] at hW'
    simp (maxSteps := 4000000) (disch := omega) only [abv, step, stepv, ev, wl, wn, wp, wz, aop, cV, cV1, AV.one, partCells, okW, onlyFr, app, sliceCells, cellsAt, srcA, subA, eqFs, Int.cast_ofNat_Int, simprocAttr, cuts]
    refine ⟨⟨[(14, .list su.length (ks .i32 su)), (4, .ref 0 1 0), (8, .ref 1 1 0)], [⟨t0, 4, 1, [.int .i64 c, .int .i64 x, .int .i64 r, .list l.length (ks .i32 l)], 0⟩, ⟨t0, 4, 1, [.int .i64 0, .int .i64 0, .int .i64 0, .list 0 []], 0⟩]⟩, ?_, ?_⟩
    · refine Le.drop 2 2 (by omega) rfl (by simp [Am.look, frzK, frzL, frzV, frzL_T _ ts]) ?_
      intro i z hz
      match i, hz with
      | 0, hz => cases hz; exact ⟨_, rfl, by simp [frzK, frzL, frzV, frzL_T _ tl]⟩
      | 1, hz => cases hz; exact ⟨_, rfl, by simp [frzK, frzL, frzV]⟩
      | i + 2, hz => simp at hz
    simp (maxSteps := 4000000) (disch := omega) only [abv, step, stepv, ev, wl, wn, wp, wz, aop, cV, cV1, AV.one, partCells, okW, onlyFr, app, sliceCells, cellsAt, srcA, subA, eqFs, Int.cast_ofNat_Int, simprocAttr, cuts]
    refine callQ.vc hW' ?_
    simp (maxSteps := 4000000) (disch := omega) only [abv, step, stepv, ev, wl, wn, wp, wz, aop, cV, cV1, AV.one, partCells, okW, onlyFr, app, sliceCells, cellsAt, srcA, subA, eqFs, Int.cast_ofNat_Int, simprocAttr, resA, ht, e9, cuts]
    simp [frzN, frzK, frzL, frzV, isDL, isD, clA, il, frzL_T _ ts]
end Go.Am

namespace Go.Am
open Go.RowKit

def sumF (L : List (List UInt8)) : Nat → Nat
  | 0 => 0
  | k + 1 => sumF L k + (L.getD k []).length
def bigF (L : List (List UInt8)) : Prop := L.length ≤ 9223372036854775807 ∧ ∀ j, (L.getD j []).length ≤ 140737488355328
theorem sumF_le {L : List (List UInt8)} (h : bigF L) : ∀ k, sumF L k ≤ k * 140737488355328
  | 0 => by simp [sumF]
  | k + 1 => by have := sumF_le h k; have := h.2 k; simp only [sumF]; omega
def greatF (L : List (List UInt8)) : Prop := 400 < L.length ∨ 3000 < sumF L (min L.length 401)
theorem sumF_ge (L : List (List UInt8)) : ∀ k j, j < k → (L.getD j []).length ≤ sumF L k
  | 0, _, h => by omega
  | k + 1, j, h => by
    simp only [sumF]
    by_cases e : j = k
    · subst e; omega
    · have := sumF_ge L k j (by omega); omega
theorem small_fr {L : List (List UInt8)} (h : ¬ greatF L) : L.length ≤ 400 ∧ ∀ j, (L.getD j []).length ≤ 3000 := by
  unfold greatF at h
  have h1 : L.length ≤ 400 := by omega
  have e : min L.length 401 = L.length := by omega
  rw [e] at h
  refine ⟨h1, fun j => ?_⟩
  rcases Nat.lt_or_ge j L.length with hj | hj
  · have := sumF_ge L L.length j hj; omega
  · rw [List.getD_eq_getElem?_getD, List.getElem?_eq_none hj]; exact Nat.zero_le _
def S_GreatF (P : Prg) (f : Nat) : Prop := ∀ L : List (List UInt8), bigF L → (greatF L → VC P f [bss L] (.bool true)) ∧ (¬ greatF L → VC P f [bss L] (.bool false))
theorem ref24_GreatFrames {P : Prg} {f : Nat} (bd : Body P f 29 [.tmp 2] ac_cadenzaref24_GreatFrames) : S_GreatF P f := by
  intro L hL
  have key : ∀ r : Bool, (greatF L ↔ r = true) → VC P f [bss L] (.bool r) := by
    intro r hr
    refine VC.of_acall (by simp [isDL, isD, isD_bss]) rfl (ACall.of_body bd (by simp) ?_)
    have h0 := hL.1
    simp (maxSteps := 4000000) (disch := omega) only [abv, step, stepv, ev, wl, wn, wp, wz, aop, cV, cV1, AV.one, partCells, okW, onlyFr, app, sliceCells, cellsAt, srcA, subA, eqFs, Int.cast_ofNat_Int, simprocAttr, ac_cadenzaref24_GreatFrames, bss]
    refine ALoop.by (ι := Nat) (fun k => ⟨[(4, .int .i64 k), (3, .int .i64 (sumF L k)), (0, .list L.length (L.map bs))], []⟩) (fun k => k ≤ L.length ∧ k ≤ 401) (fun k => L.length - k) 0 (Le.slots (by simp [Am.look, sumF])) ⟨by omega, by omega⟩ ?_
    intro k ⟨hk, hk2⟩
    have hs := sumF_le hL k
    have hs2 := hL.2 k
    by_cases hlt : k < L.length
    · by_cases h4 : k ≤ 400
      · have e1 := bss_at hlt
        have e2 : (sumF L k : Int) + (L.getD k []).length = (sumF L (k + 1) : Nat) := by simp [sumF]
        rw [bs] at e1
        simp (maxSteps := 4000000) (disch := omega) only [abv, step, stepv, ev, wl, wn, wp, wz, aop, cV, cV1, AV.one, partCells, okW, onlyFr, app, sliceCells, cellsAt, srcA, subA, eqFs, Int.cast_ofNat_Int, simprocAttr, e1]
        exact ⟨k + 1, ⟨by omega, by omega⟩, by omega, Le.slots (by simp [Am.look, sumF])⟩
      · have hg : r = true := hr.1 (.inl (by omega))
        subst hg
        simp (maxSteps := 4000000) (disch := omega) only [abv, step, stepv, ev, wl, wn, wp, wz, aop, cV, cV1, AV.one, partCells, okW, onlyFr, app, sliceCells, cellsAt, srcA, subA, eqFs, Int.cast_ofNat_Int, simprocAttr]
    · have ek : k = L.length := by omega
      subst ek
      by_cases h5 : 400 < L.length
      · have hg : r = true := hr.1 (.inl h5)
        subst hg
        simp (maxSteps := 4000000) (disch := omega) only [abv, step, stepv, ev, wl, wn, wp, wz, aop, cV, cV1, AV.one, partCells, okW, onlyFr, app, sliceCells, cellsAt, srcA, subA, eqFs, Int.cast_ofNat_Int, simprocAttr]
      · have em : min L.length 401 = L.length := by omega
        by_cases h6 : 3000 < sumF L L.length
        · have hg : r = true := hr.1 (.inr (by rw [em]; exact h6))
          subst hg
          simp (maxSteps := 4000000) (disch := omega) only [abv, step, stepv, ev, wl, wn, wp, wz, aop, cV, cV1, AV.one, partCells, okW, onlyFr, app, sliceCells, cellsAt, srcA, subA, eqFs, Int.cast_ofNat_Int, simprocAttr]
        · have hg : r = false := by
            cases r with
            | false => rfl
            | true =>
              rcases hr.2 rfl with h | h
              · omega
              · rw [em] at h; omega
          subst hg
          simp (maxSteps := 4000000) (disch := omega) only [abv, step, stepv, ev, wl, wn, wp, wz, aop, cV, cV1, AV.one, partCells, okW, onlyFr, app, sliceCells, cellsAt, srcA, subA, eqFs, Int.cast_ofNat_Int, simprocAttr]
  exact ⟨fun h => key true (by simp [h]), fun h => key false (by simp [h])⟩

theorem of_form {c x r n : Int} {p : List UInt8} {L : List (List UInt8)} (hL : L.length ≤ 1000) : ∃ (a b d : Int) (m : List Int) (e : Int), clOfA c x r n p L = .tup [clA a b d m, .int .i64 e] ∧ m.length ≤ 4000000 := by
  unfold clOfA
  split
  · exact ⟨_, _, _, _, _, rfl, by simp⟩
  split
  · exact ⟨_, _, _, _, _, rfl, by simp⟩
  split
  · exact ⟨_, _, _, _, _, rfl, by simp⟩
  split
  · exact ⟨_, _, _, _, _, rfl, by simp⟩
  · refine ⟨_, _, _, _, _, rfl, ?_⟩
    have := sumO_le c x r n (ofK (sixL 0 p) 8) L L.length
    omega

def S_LawReads (P : Prg) (f : Nat) : Prop := ∀ (c x r : Int) (l : List Int) (p : List UInt8) (n : Int) (L : List (List UInt8)), bigF L → VC P f [clA c x r l, .str p, .int .i64 n, bss L] (.bool true)
theorem law24_ClipReads {P : Prg} {f fG fO fR fS t0 : Nat} (bd : Body P f 44 [.tmp 8] (ac_cadenzalaw24_ClipReads fG fO fR fS t0)) (hG : S_GreatF P fG) (hO : S_ClipOf P fO) (hR : S_ClipOf P fR) (hS : S_CSame P fS) : S_LawReads P f := by
  intro c x r l p n L hB
  refine VC.of_acall (by simp [isDL, isD, isD_il, clA, isD_bss]) rfl (ACall.of_body bd (by simp) ?_)
  by_cases hg : greatF L
  · have hG' := (hG L hB).1 hg
    simp (maxSteps := 4000000) (disch := omega) only [abv, step, stepv, ev, wl, wn, wp, wz, aop, cV, cV1, AV.one, partCells, okW, onlyFr, app, sliceCells, cellsAt, srcA, subA, eqFs, Int.cast_ofNat_Int, simprocAttr, ac_cadenzalaw24_ClipReads, clA, il]
    refine callQ.vc hG' ?_
    simp (maxSteps := 4000000) (disch := omega) only [abv, step, stepv, ev, wl, wn, wp, wz, aop, cV, cV1, AV.one, partCells, okW, onlyFr, app, sliceCells, cellsAt, srcA, subA, eqFs, Int.cast_ofNat_Int, simprocAttr]
  have hG' := (hG L hB).2 hg
  obtain ⟨h1, h2⟩ := small_fr hg
  by_cases hp : 100 < p.length
  · simp (maxSteps := 4000000) (disch := omega) only [abv, step, stepv, ev, wl, wn, wp, wz, aop, cV, cV1, AV.one, partCells, okW, onlyFr, app, sliceCells, cellsAt, srcA, subA, eqFs, Int.cast_ofNat_Int, simprocAttr, ac_cadenzalaw24_ClipReads, clA, il]
    refine callQ.vc hG' ?_
    simp (maxSteps := 4000000) (disch := omega) only [abv, step, stepv, ev, wl, wn, wp, wz, aop, cV, cV1, AV.one, partCells, okW, onlyFr, app, sliceCells, cellsAt, srcA, subA, eqFs, Int.cast_ofNat_Int, simprocAttr]
  have hok : okFr L := ⟨by omega, fun j => Nat.le_trans (h2 j) (by omega)⟩
  obtain ⟨a, b, d, m, e, e1, e2⟩ := of_form (c := c) (x := x) (r := r) (n := n) (p := p) (L := L) (by omega)
  have hO' := hO c x r l p n L hok
  have hR' := hR c x r l p n L hok
  have hS' := hS a b d m (by omega)
  rw [e1] at hO' hR'
  simp only [clA, il] at hO' hR' hS'
  simp (maxSteps := 4000000) (disch := omega) only [abv, step, stepv, ev, wl, wn, wp, wz, aop, cV, cV1, AV.one, partCells, okW, onlyFr, app, sliceCells, cellsAt, srcA, subA, eqFs, Int.cast_ofNat_Int, simprocAttr, ac_cadenzalaw24_ClipReads, clA, il]
  refine callQ.vc hG' ?_
  simp (maxSteps := 4000000) (disch := omega) only [abv, step, stepv, ev, wl, wn, wp, wz, aop, cV, cV1, AV.one, partCells, okW, onlyFr, app, sliceCells, cellsAt, srcA, subA, eqFs, Int.cast_ofNat_Int, simprocAttr]
  refine callQ.vc hO' ?_
  simp (maxSteps := 4000000) (disch := omega) only [abv, step, stepv, ev, wl, wn, wp, wz, aop, cV, cV1, AV.one, partCells, okW, onlyFr, app, sliceCells, cellsAt, srcA, subA, eqFs, Int.cast_ofNat_Int, simprocAttr]
  refine callQ.vc hR' ?_
  simp (maxSteps := 4000000) (disch := omega) only [abv, step, stepv, ev, wl, wn, wp, wz, aop, cV, cV1, AV.one, partCells, okW, onlyFr, app, sliceCells, cellsAt, srcA, subA, eqFs, Int.cast_ofNat_Int, simprocAttr]
  refine callQ.vc hS' ?_
  simp (maxSteps := 4000000) (disch := omega) only [abv, step, stepv, ev, wl, wn, wp, wz, aop, cV, cV1, AV.one, partCells, okW, onlyFr, app, sliceCells, cellsAt, srcA, subA, eqFs, Int.cast_ofNat_Int, simprocAttr]
end Go.Am

namespace Go.Am
open Go.RowKit

/-! ### A clip cs0 an argument -/

def clSh : Sh := .tuple [.int .i64, .int .i64, .int .i64, .slice (.int .i32)]
theorem fits_clip {cs0 : List AV} (h : Fits clSh cs0) : ∃ (c x r : Int) (l : List Int), cs0 = [.int .i64 c, .int .i64 x, .int .i64 r, il l] ∧ I32 l := by
  simp only [clSh, Fits, FitsL] at h
  obtain ⟨_, _, rfl, ⟨c, rfl, _⟩, _, _, rfl, ⟨x, rfl, _⟩, _, _, rfl, ⟨r, rfl, _⟩, _, _, rfl, ⟨L, rfl, _, h2⟩, rfl⟩ := h
  obtain ⟨l, _, e2, hi⟩ := fits_i32s (L := L) (fun c hc => by simp only [Fits]; exact h2 c hc)
  exact ⟨c, x, r, l, by simp [e2], hi⟩
end Go.Am

namespace Go.Am
open Go.RowKit Go.ChangeShapes Go.WideShapes Go.Deep

theorem weightsAll_mem {H : Type} {P : Program} {e : TypeId} : ∀ {ds : List (DataW H)} {d : DataW H}, d ∈ ds → ∀ n ∈ d.weights P e, n ∈ DataW.weightsAll P e ds
  | [], _, h, _, _ => by cases h
  | x :: r, d, h, n, hn => by
    simp only [DataW.weightsAll, List.mem_append]
    rcases List.mem_cons.1 h with rfl | h
    · exact .inl hn
    · exact .inr (weightsAll_mem h n hn)

theorem rows_le {H : Type} {enc : TypeId × Value → H} {P : Program} {W : World} {t e u : TypeId} (ht : P.underlying t = some (.slice e)) (he : P.underlying e = some (.slice u)) (hb : 1 ≤ P.bytesOf u) (hc : P.cellsOf e = 1) {v : Value} {d : DataW H} {ps : List MemPlace}
    (hd : DataW.Trod enc P W 0 (fun _ => true) true t v d ps) (hz : ∀ n ∈ d.weights P t, n ≤ reachBytes) {α : Type} {f : List α → List AV} {L : List (List α)} (hr : Rep (X0 W) (.list L.length (L.map fun l => .list l.length (f l))) v) : ∀ j, (L.getD j []).length ≤ reachBytes := by
  intro j
  rcases Nat.lt_or_ge j L.length with hj | hj
  case inr => rw [List.getD_eq_getElem?_getD, List.getElem?_eq_none hj]; exact Nat.zero_le _
  obtain ⟨fuel, hf⟩ := hd
  simp only [Rep] at hr
  obtain ⟨a', cap', vs, rfl, hcap, hvs, hrl⟩ := hr
  have hlv := hrl.length
  rw [List.length_map] at hlv
  obtain ⟨w, hw, hrw⟩ := hrl.get j (.list (L[j]).length (f L[j])) (by rw [List.getElem?_map, List.getElem?_eq_getElem hj]; rfl)
  simp only [Rep] at hrw
  obtain ⟨a2, cap2, vs2, rfl, _⟩ := hrw
  rcases hvs with rfl | ⟨b, k, rfl, hat⟩
  · simp at hw
  rcases DataW.trod_slice ht hf with ⟨h1, _⟩ | ⟨a, len, cap, elems, rest, n, _, h1, h2, _, _, _, hlen, hel, _, _⟩
  · simp [Value.cells] at h1
  · simp only [Value.cells, List.cons.injEq, Value.slice.injEq, Option.some.injEq, and_true] at h1
    obtain ⟨rfl, rfl, rfl⟩ := h1
    have h3 := hel j hj
    rw [List.getElem?_eq_getElem (by omega), Option.bind_eq_some_iff] at h3
    obtain ⟨c, h4, h5⟩ := h3
    obtain ⟨_, h7, h8⟩ := World.cells?_some h4
    rw [hc] at h7 h8
    have h9 := h8 0 (by omega)
    have h10 := (hat j _ hw).1.1
    have h11 : ((⟨b, k, none⟩ : Addr).add (j * P.cellsOf e)).add 0 = ⟨b, k + j, none⟩ := by
      rw [hc]
      unfold Addr.add
      by_cases h0 : j = 0
      · subst h0; simp
      · simp [h0]
    have h12 : c = [Value.slice a2 (L[j]).length cap2] := by
      rw [← hc, h11] at h9
      have h13 : W.cell? ⟨b, k + j, none⟩ = some (.slice a2 (L[j]).length cap2) := h10
      rw [h13] at h9
      match c, h7, h9 with
      | [x], _, h9 => simpa using h9.symm
    subst h12
    rcases DataW.trod_slice he h5 with ⟨h6, _⟩ | ⟨a3, len3, cap3, elems3, rest3, n3, _, h6, h13, _, _, _, hlen3, _, _, _⟩
    · simp only [List.cons.injEq, Value.slice.injEq, and_true] at h6
      rw [List.getD_eq_getElem?_getD, List.getElem?_eq_getElem hj]
      simp [h6.2.1]
    · simp only [List.cons.injEq, Value.slice.injEq, and_true] at h6
      obtain ⟨_, h14, _⟩ := h6
      simp only [Prod.mk.injEq] at h2
      have hmem : (elems[j]'(by omega)).1 ∈ elems.map (·.1) := List.mem_map.2 ⟨_, List.getElem_mem _, rfl⟩
      have h15 : (elems[j]'(by omega)).1 = .slice (elems3.map (·.1)) (rest3.map (·.1)) := by rw [h13]
      have h16 : ((elems3.map (·.1)).length + (rest3.map (·.1)).length) * P.bytesOf u ∈ (elems[j]'(by omega)).1.weights P e := by
        rw [h15]
        simp only [DataW.weights, he, List.mem_cons, true_or]
      have h17 := hz _ (by
        rw [h2.1]
        simp only [DataW.weights, ht, List.mem_cons, List.mem_append]
        exact .inr (.inl (weightsAll_mem hmem _ h16)))
      rw [List.getD_eq_getElem?_getD, List.getElem?_eq_getElem hj, Option.getD_some, h14, ← hlen3]
      refine Nat.le_trans (Nat.le_trans ?_ (Nat.le_mul_of_pos_right _ hb)) h17
      simp

def isRows (P : Program) (t : TypeId) : Bool :=
  match P.underlying t with
  | some (.slice e) => match P.underlying e with | some (.slice u) => decide (1 ≤ P.bytesOf u) && P.cellsOf e == 1 | _ => false
  | _ => false
end Go.Am

namespace Go.Am
open Go.RowKit Go.ChangeShapes Go.WideShapes Go.Deep

theorem rows_bigF {H : Type} {enc : TypeId × Value → H} {P : Program} {W : World} {t : TypeId} (h : isRows P t = true) {v : Value} {d : DataW H} {ps : List MemPlace} (hd : DataW.Trod enc P W 0 (fun _ => true) true t v d ps) {j : Nat} {ts : List TypeId} {ds : List (DataW H)}
    (hZ : (DataW.weightsEach P ts ds).all (· ≤ reachBytes) = true) (ht : ts[j]? = some t) (hj : ds[j]? = some d) {L : List (List UInt8)} (hl : L.length ≤ maxLen) (hr : Rep (X0 W) (bss L) v) : bigF L := by
  unfold isRows at h
  split at h
  case h_2 => cases h
  rename_i e h1
  split at h
  case h_2 => cases h
  rename_i u h2
  simp only [Bool.and_eq_true, decide_eq_true_eq, beq_iff_eq] at h
  refine ⟨Nat.le_trans hl (by decide), fun i => Nat.le_trans (rows_le h1 h2 h.1 h.2 hd (fun n hn => ?_) (f := u8) hr i) (by decide)⟩
  simpa using List.all_eq_true.1 hZ n (DataW.weights_mem_each ht hj n hn)
end Go.Am
