/- What the functions that the law reaches return, for every program that has their code; the conditions stand in each statement. -/
import Derived.Test.YtpanmoedefeniaaClipPartsD1
set_option linter.unusedSectionVars false
set_option linter.unusedSimpArgs false
set_option linter.unusedVariables false
namespace Go.Am
open Go.RowKit

def half (b : Int) : Int := if b = 8 then 128 else if b = 16 then 32768 else if b = 24 then 8388608 else 0

theorem half_cases (b : Int) : (b = 8 ∧ half b = 128) ∨ (b = 16 ∧ half b = 32768) ∨ (b = 24 ∧ half b = 8388608) ∨ (b ≠ 8 ∧ b ≠ 16 ∧ b ≠ 24 ∧ half b = 0) := by
  unfold half; split <;> (try split) <;> (try split) <;> omega

def rangeA (b : Int) : AV := if half b = 0 then .tup [.int .i32 0, .int .i32 0, .int .i64 2] else .tup [.int .i32 (-half b), .int .i32 (half b - 1), .int .i64 0]

def S_Range (P : Prg) (f : Nat) : Prop := ∀ b : Int, VC P f [.int .i64 b] (rangeA b)

theorem width_Range {P : Prg} {f : Nat} (b : Body P f 18 [.tmp 2, .tmp 3, .tmp 4] ac_width_Range) : S_Range P f := by
  intro x
  refine VC.of_acall rfl (by unfold rangeA; split <;> rfl) (ACall.of_body b (by simp) ?_)
  rcases half_cases x with ⟨rfl, h⟩ | ⟨rfl, h⟩ | ⟨rfl, h⟩ | ⟨h1, h2, h3, h⟩
  · simp (maxSteps := 4000000) (disch := omega) only [abv, step, stepv, ev, wl, wn, wp, wz, aop, cV, cV1, AV.one, partCells, okW, onlyFr, app, sliceCells, cellsAt, srcA, subA, eqFs, Int.cast_ofNat_Int, simprocAttr, ac_width_Range, rangeA, h]
    rfl
  · simp (maxSteps := 4000000) (disch := omega) only [abv, step, stepv, ev, wl, wn, wp, wz, aop, cV, cV1, AV.one, partCells, okW, onlyFr, app, sliceCells, cellsAt, srcA, subA, eqFs, Int.cast_ofNat_Int, simprocAttr, ac_width_Range, rangeA, h]
    rfl
  · simp (maxSteps := 4000000) (disch := omega) only [abv, step, stepv, ev, wl, wn, wp, wz, aop, cV, cV1, AV.one, partCells, okW, onlyFr, app, sliceCells, cellsAt, srcA, subA, eqFs, Int.cast_ofNat_Int, simprocAttr, ac_width_Range, rangeA, h]
    rfl
  · simp (maxSteps := 4000000) (disch := omega) only [abv, step, stepv, ev, wl, wn, wp, wz, aop, cV, cV1, AV.one, partCells, okW, onlyFr, app, sliceCells, cellsAt, srcA, subA, eqFs, Int.cast_ofNat_Int, simprocAttr, ac_width_Range, rangeA, h]

end Go.Am

namespace Go.Am
open Go.RowKit

def il (l : List Int) : AV := .list l.length (ks .i32 l)
theorem isD_il (l : List Int) : isD (il l) = true := by simp [il, isD, isDL_ks]

def inR (b x : Int) : Bool := decide (-half b ≤ x) && decide (x < half b)
def checkN (b : Int) (l : List Int) : Int := if half b = 0 then 2 else if 4000 < l.length then 4 else if l.all (inR b) then 0 else 16
def I32 (l : List Int) : Prop := ∀ x ∈ l, -2147483648 ≤ x ∧ x ≤ 2147483647
def S_WCheck (P : Prg) (f : Nat) : Prop := ∀ (b : Int) (l : List Int), I32 l → VC P f [.int .i64 b, il l] (.int .i64 (checkN b l))

theorem all_take_step {l : List Int} {k : Nat} (h : k < l.length) {p : Int → Bool} : (l.take (k + 1)).all p = ((l.take k).all p && p l[k]) := by
  rw [List.take_succ_eq_append_getElem h, List.all_append]; simp

theorem not_all_of {l : List Int} {k : Nat} (h : k < l.length) {p : Int → Bool} (hp : p l[k] = false) : l.all p = false := by
  rw [List.all_eq_false]
  exact ⟨l[k], List.getElem_mem h, by simp [hp]⟩

set_option maxRecDepth 10000 in
theorem width_Check {P : Prg} {f fR : Nat} (b : Body P f 37 [.tmp 4] (ac_width_Check fR)) (hR : S_Range P fR) : S_WCheck P f := by
  intro x l hl
  refine VC.of_acall (by simp [isDL, isD, isD_il]) rfl (ACall.of_body b (by simp) ?_)
  simp (maxSteps := 4000000) (disch := omega) only [abv, step, stepv, ev, wl, wn, wp, wz, aop, cV, cV1, AV.one, partCells, okW, onlyFr, app, sliceCells, cellsAt, srcA, subA, eqFs, Int.cast_ofNat_Int, simprocAttr, ac_width_Check]
  refine callQ.vc (hR x) ?_
  by_cases h0 : half x = 0
  · simp (maxSteps := 4000000) (disch := omega) only [abv, step, stepv, ev, wl, wn, wp, wz, aop, cV, cV1, AV.one, partCells, okW, onlyFr, app, sliceCells, cellsAt, srcA, subA, eqFs, Int.cast_ofNat_Int, simprocAttr, rangeA, checkN, h0]
  have h3 : half x = 128 ∨ half x = 32768 ∨ half x = 8388608 := by rcases half_cases x with h | h | h | h <;> omega
  by_cases h1 : 4000 < l.length
  · simp (maxSteps := 4000000) (disch := omega) only [abv, step, stepv, ev, wl, wn, wp, wz, aop, cV, cV1, AV.one, partCells, okW, onlyFr, app, sliceCells, cellsAt, srcA, subA, eqFs, Int.cast_ofNat_Int, simprocAttr, rangeA, checkN, h0, il, h1]
  simp (maxSteps := 4000000) (disch := omega) only [abv, step, stepv, ev, wl, wn, wp, wz, aop, cV, cV1, AV.one, partCells, okW, onlyFr, app, sliceCells, cellsAt, srcA, subA, eqFs, Int.cast_ofNat_Int, simprocAttr, rangeA, il, if_neg h0]
  refine ALoop.by (ι := Nat) (fun k => ⟨[(24, .int .i64 k), (23, .int .i64 l.length), (22, il l), (6, .int .i32 (half x - 1)), (5, .int .i32 (-half x))], []⟩) (fun k => k ≤ l.length ∧ (l.take k).all (inR x) = true) (fun k => l.length - k) 0 (Le.slots (by simp [Am.look, il])) ⟨by omega, by simp⟩ ?_
  intro k ⟨hk, hg⟩
  by_cases hlt : k < l.length
  · by_cases hp : -half x ≤ l[k] ∧ l[k] < half x
    · have hs := all_take_step hlt (p := inR x)
      simp (maxSteps := 4000000) (disch := omega) only [abv, step, stepv, ev, wl, wn, wp, wz, aop, cV, cV1, AV.one, partCells, okW, onlyFr, app, sliceCells, cellsAt, srcA, subA, eqFs, Int.cast_ofNat_Int, simprocAttr, il, drop_ks, hlt]
      exact ⟨k + 1, ⟨by omega, by rw [hs, hg]; simp [inR, hp]⟩, by omega, Le.slots (by simp [Am.look, il])⟩
    · have e : checkN x l = 16 := by simp [checkN, h0, h1, not_all_of hlt (p := inR x) (by simp [inR]; omega)]
      by_cases hq : l[k] < -half x
      · simp (maxSteps := 4000000) (disch := omega) only [abv, step, stepv, ev, wl, wn, wp, wz, aop, cV, cV1, AV.one, partCells, okW, onlyFr, app, sliceCells, cellsAt, srcA, subA, eqFs, Int.cast_ofNat_Int, simprocAttr, il, drop_ks, hlt, e]
      · simp (maxSteps := 4000000) (disch := omega) only [abv, step, stepv, ev, wl, wn, wp, wz, aop, cV, cV1, AV.one, partCells, okW, onlyFr, app, sliceCells, cellsAt, srcA, subA, eqFs, Int.cast_ofNat_Int, simprocAttr, il, drop_ks, hlt, e]
  · have e2 : k = l.length := by omega
    subst e2
    rw [List.take_length] at hg
    simp (maxSteps := 4000000) (disch := omega) only [abv, step, stepv, ev, wl, wn, wp, wz, aop, cV, cV1, AV.one, partCells, okW, onlyFr, app, sliceCells, cellsAt, srcA, subA, eqFs, Int.cast_ofNat_Int, simprocAttr, il, checkN, h0, h1, hg]

def S_Half (P : Prg) (f : Nat) : Prop := ∀ x : Int, VC P f [.int .i64 x] (.int .i64 (half x))

theorem ref18_Half {P : Prg} {f : Nat} (b : Body P f 10 [.tmp 2] ac_cadenzaref18_Half) : S_Half P f := by
  intro x
  refine VC.of_acall rfl rfl (ACall.of_body b (by simp) ?_)
  rcases half_cases x with ⟨rfl, h⟩ | ⟨rfl, h⟩ | ⟨rfl, h⟩ | ⟨h1, h2, h3, h⟩ <;> simp (maxSteps := 4000000) (disch := omega) only [abv, step, stepv, ev, wl, wn, wp, wz, aop, cV, cV1, AV.one, partCells, okW, onlyFr, app, sliceCells, cellsAt, srcA, subA, eqFs, Int.cast_ofNat_Int, simprocAttr, ac_cadenzaref18_Half, h]

set_option maxRecDepth 10000 in
theorem ref18_Check {P : Prg} {f fH : Nat} (b : Body P f 37 [.tmp 4] (ac_cadenzaref18_Check fH)) (hH : S_Half P fH) : S_WCheck P f := by
  intro x l hl
  refine VC.of_acall (by simp [isDL, isD, isD_il]) rfl (ACall.of_body b (by simp) ?_)
  simp (maxSteps := 4000000) (disch := omega) only [abv, step, stepv, ev, wl, wn, wp, wz, aop, cV, cV1, AV.one, partCells, okW, onlyFr, app, sliceCells, cellsAt, srcA, subA, eqFs, Int.cast_ofNat_Int, simprocAttr, ac_cadenzaref18_Check]
  refine callQ.vc (hH x) ?_
  by_cases h0 : half x = 0
  · simp (maxSteps := 4000000) (disch := omega) only [abv, step, stepv, ev, wl, wn, wp, wz, aop, cV, cV1, AV.one, partCells, okW, onlyFr, app, sliceCells, cellsAt, srcA, subA, eqFs, Int.cast_ofNat_Int, simprocAttr, checkN, h0]
  have h3 : half x = 128 ∨ half x = 32768 ∨ half x = 8388608 := by rcases half_cases x with h | h | h | h <;> omega
  by_cases h1 : 4000 < l.length
  · simp (maxSteps := 4000000) (disch := omega) only [abv, step, stepv, ev, wl, wn, wp, wz, aop, cV, cV1, AV.one, partCells, okW, onlyFr, app, sliceCells, cellsAt, srcA, subA, eqFs, Int.cast_ofNat_Int, simprocAttr, checkN, h0, il, h1]
  simp (maxSteps := 4000000) (disch := omega) only [abv, step, stepv, ev, wl, wn, wp, wz, aop, cV, cV1, AV.one, partCells, okW, onlyFr, app, sliceCells, cellsAt, srcA, subA, eqFs, Int.cast_ofNat_Int, simprocAttr, il]
  refine ALoop.by (ι := Nat) (fun k => ⟨[(6, .int .i64 k), (1, il l), (5, .int .i64 (half x))], []⟩) (fun k => k ≤ l.length ∧ (l.take k).all (inR x) = true) (fun k => l.length - k) 0 (Le.slots (by simp [Am.look, il])) ⟨by omega, by simp⟩ ?_
  intro k ⟨hk, hg⟩
  by_cases hlt : k < l.length
  · have hb := hl _ (List.getElem_mem hlt)
    by_cases hp : -half x ≤ l[k] ∧ l[k] < half x
    · have hs := all_take_step hlt (p := inR x)
      simp (maxSteps := 4000000) (disch := omega) only [abv, step, stepv, ev, wl, wn, wp, wz, aop, cV, cV1, AV.one, partCells, okW, onlyFr, app, sliceCells, cellsAt, srcA, subA, eqFs, Int.cast_ofNat_Int, simprocAttr, il, drop_ks, hlt]
      exact ⟨k + 1, ⟨by omega, by rw [hs, hg]; simp [inR, hp]⟩, by omega, Le.slots (by simp [Am.look, il])⟩
    · have e : checkN x l = 16 := by simp [checkN, h0, h1, not_all_of hlt (p := inR x) (by simp [inR]; omega)]
      by_cases hq : l[k] < -half x
      · simp (maxSteps := 4000000) (disch := omega) only [abv, step, stepv, ev, wl, wn, wp, wz, aop, cV, cV1, AV.one, partCells, okW, onlyFr, app, sliceCells, cellsAt, srcA, subA, eqFs, Int.cast_ofNat_Int, simprocAttr, il, drop_ks, hlt, e]
      · simp (maxSteps := 4000000) (disch := omega) only [abv, step, stepv, ev, wl, wn, wp, wz, aop, cV, cV1, AV.one, partCells, okW, onlyFr, app, sliceCells, cellsAt, srcA, subA, eqFs, Int.cast_ofNat_Int, simprocAttr, il, drop_ks, hlt, e]
  · have e2 : k = l.length := by omega
    subst e2
    rw [List.take_length] at hg
    simp (maxSteps := 4000000) (disch := omega) only [abv, step, stepv, ev, wl, wn, wp, wz, aop, cV, cV1, AV.one, partCells, okW, onlyFr, app, sliceCells, cellsAt, srcA, subA, eqFs, Int.cast_ofNat_Int, simprocAttr, il, checkN, h0, h1, hg]

theorem div_small {n : Nat} {c : Int} (h : 1 ≤ c) : 0 ≤ (n : Int) / c ∧ (n : Int) / c ≤ n :=
  ⟨Int.ediv_nonneg (by omega) (by omega), Int.ediv_le_self _ (by omega)⟩

theorem mod_small {n : Nat} {c : Int} (h : 1 ≤ c) : 0 ≤ (n : Int) % c ∧ (n : Int) % c < c := ⟨Int.emod_nonneg _ (by omega), Int.emod_lt_of_pos _ (by omega)⟩

end Go.Am

namespace Go.Am
open Go.RowKit

def longN (r : Int) : Int := if 256 * r / 245 < 1 then 1 else 256 * r / 245
theorem longN_pos (r : Int) : 1 ≤ longN r := by unfold longN; split <;> omega
theorem longN_le {r : Int} (h : r ≤ 1048576) : longN r ≤ 1095654 := by unfold longN; split <;> omega
def longA (r : Int) : AV := if r < 1 ∨ 1048576 < r then .tup [.int .i64 0, .int .i64 2] else .tup [.int .i64 (longN r), .int .i64 0]
def S_Long22 (P : Prg) (f : Nat) : Prop := ∀ r : Int, VC P f [.int .i64 r] (longA r)

theorem isD_long (r : Int) : isD (longA r) = true := by unfold longA; split <;> rfl

theorem lengths_Long {P : Prg} {f : Nat} (b : Body P f 14 [.tmp 2, .tmp 3] ac_lengths_Long) : S_Long22 P f := by
  intro r
  refine VC.of_acall rfl (isD_long r) (ACall.of_body b (by simp) ?_)
  by_cases h1 : r < 1
  · simp (maxSteps := 4000000) (disch := omega) only [abv, step, stepv, ev, wl, wn, wp, wz, aop, cV, cV1, AV.one, partCells, okW, onlyFr, app, sliceCells, cellsAt, srcA, subA, eqFs, Int.cast_ofNat_Int, simprocAttr, ac_lengths_Long, longA, true_or]
  by_cases h2 : 1048576 < r
  · simp (maxSteps := 4000000) (disch := omega) only [abv, step, stepv, ev, wl, wn, wp, wz, aop, cV, cV1, AV.one, partCells, okW, onlyFr, app, sliceCells, cellsAt, srcA, subA, eqFs, Int.cast_ofNat_Int, simprocAttr, ac_lengths_Long, longA, or_true]
  have h3 : 1 ≤ 256 * r / 245 := by omega
  simp (maxSteps := 4000000) (disch := omega) only [abv, step, stepv, ev, wl, wn, wp, wz, aop, cV, cV1, AV.one, partCells, okW, onlyFr, app, sliceCells, cellsAt, srcA, subA, eqFs, Int.cast_ofNat_Int, simprocAttr, ac_lengths_Long, longA, or_self, longN]
  rw [show (if (1 : Int) < 256 * r / 245 then 256 * r / 245 else 1) = 256 * r / 245 by split <;> omega]

theorem ref22_Long {P : Prg} {f : Nat} (b : Body P f 17 [.tmp 2, .tmp 3] ac_cadenzaref22_Long) : S_Long22 P f := by
  intro r
  refine VC.of_acall rfl (isD_long r) (ACall.of_body b (by simp) ?_)
  by_cases h1 : r < 1
  · simp (maxSteps := 4000000) (disch := omega) only [abv, step, stepv, ev, wl, wn, wp, wz, aop, cV, cV1, AV.one, partCells, okW, onlyFr, app, sliceCells, cellsAt, srcA, subA, eqFs, Int.cast_ofNat_Int, simprocAttr, ac_cadenzaref22_Long, longA, true_or]
  by_cases h2 : 1048576 < r
  · simp (maxSteps := 4000000) (disch := omega) only [abv, step, stepv, ev, wl, wn, wp, wz, aop, cV, cV1, AV.one, partCells, okW, onlyFr, app, sliceCells, cellsAt, srcA, subA, eqFs, Int.cast_ofNat_Int, simprocAttr, ac_cadenzaref22_Long, longA, or_true]
  have e : r * 256 / 245 = 256 * r / 245 := by rw [Int.mul_comm]
  have h3 : 1 ≤ 256 * r / 245 := by omega
  simp (maxSteps := 4000000) (disch := omega) only [abv, step, stepv, ev, wl, wn, wp, wz, aop, cV, cV1, AV.one, partCells, okW, onlyFr, app, sliceCells, cellsAt, srcA, subA, eqFs, Int.cast_ofNat_Int, simprocAttr, ac_cadenzaref22_Long, longA, or_self, longN, e]

def eCheck (c b : Int) : Int := if half b = 0 ∨ c < 1 ∨ 6 < c then 2 else 0
def shA (c b : Int) : AV := .agg [.int .i64 c, .int .i64 b]
def S_ECheck (P : Prg) (f : Nat) : Prop := ∀ c b : Int, VC P f [shA c b] (.int .i64 (eCheck c b))

theorem enframe_Check {P : Prg} {f fR t0 : Nat} (b : Body P f 25 [.tmp 2] (ac_enframe_Check fR t0)) (hR : S_Range P fR) : S_ECheck P f := by
  intro c x
  refine VC.of_acall rfl rfl (ACall.of_body b (by simp) ?_)
  simp (maxSteps := 4000000) (disch := omega) only [abv, step, stepv, ev, wl, wn, wp, wz, aop, cV, cV1, AV.one, partCells, okW, onlyFr, app, sliceCells, cellsAt, srcA, subA, eqFs, Int.cast_ofNat_Int, simprocAttr, ac_enframe_Check, shA]
  refine callQ.vc (hR x) ?_
  by_cases h0 : half x = 0
  · simp (maxSteps := 4000000) (disch := omega) only [abv, step, stepv, ev, wl, wn, wp, wz, aop, cV, cV1, AV.one, partCells, okW, onlyFr, app, sliceCells, cellsAt, srcA, subA, eqFs, Int.cast_ofNat_Int, simprocAttr, rangeA, h0, eCheck, true_or]
  by_cases h1 : c < 1
  · simp (maxSteps := 4000000) (disch := omega) only [abv, step, stepv, ev, wl, wn, wp, wz, aop, cV, cV1, AV.one, partCells, okW, onlyFr, app, sliceCells, cellsAt, srcA, subA, eqFs, Int.cast_ofNat_Int, simprocAttr, rangeA, if_neg h0, eCheck, h0, or_true, true_or]
  by_cases h2 : 6 < c
  · simp (maxSteps := 4000000) (disch := omega) only [abv, step, stepv, ev, wl, wn, wp, wz, aop, cV, cV1, AV.one, partCells, okW, onlyFr, app, sliceCells, cellsAt, srcA, subA, eqFs, Int.cast_ofNat_Int, simprocAttr, rangeA, if_neg h0, eCheck, h0, or_true]
  · simp (maxSteps := 4000000) (disch := omega) only [abv, step, stepv, ev, wl, wn, wp, wz, aop, cV, cV1, AV.one, partCells, okW, onlyFr, app, sliceCells, cellsAt, srcA, subA, eqFs, Int.cast_ofNat_Int, simprocAttr, rangeA, if_neg h0, eCheck, h0, or_self]

theorem ref20_Check {P : Prg} {f fH t0 : Nat} (b : Body P f 17 [.tmp 2] (ac_cadenzaref20_Check fH t0)) (hH : S_Half P fH) : S_ECheck P f := by
  intro c x
  refine VC.of_acall rfl rfl (ACall.of_body b (by simp) ?_)
  have hx := half_cases x
  by_cases h1 : c < 1
  · simp (maxSteps := 4000000) (disch := omega) only [abv, step, stepv, ev, wl, wn, wp, wz, aop, cV, cV1, AV.one, partCells, okW, onlyFr, app, sliceCells, cellsAt, srcA, subA, eqFs, Int.cast_ofNat_Int, simprocAttr, ac_cadenzaref20_Check, shA, eCheck, or_true, true_or]
  by_cases h2 : 6 < c
  · simp (maxSteps := 4000000) (disch := omega) only [abv, step, stepv, ev, wl, wn, wp, wz, aop, cV, cV1, AV.one, partCells, okW, onlyFr, app, sliceCells, cellsAt, srcA, subA, eqFs, Int.cast_ofNat_Int, simprocAttr, ac_cadenzaref20_Check, shA, eCheck, or_true]
  simp (maxSteps := 4000000) (disch := omega) only [abv, step, stepv, ev, wl, wn, wp, wz, aop, cV, cV1, AV.one, partCells, okW, onlyFr, app, sliceCells, cellsAt, srcA, subA, eqFs, Int.cast_ofNat_Int, simprocAttr, ac_cadenzaref20_Check, shA]
  refine callQ.vc (hH x) ?_
  by_cases h0 : half x = 0
  · simp (maxSteps := 4000000) (disch := omega) only [abv, step, stepv, ev, wl, wn, wp, wz, aop, cV, cV1, AV.one, partCells, okW, onlyFr, app, sliceCells, cellsAt, srcA, subA, eqFs, Int.cast_ofNat_Int, simprocAttr, h0, eCheck, true_or]
  · simp (maxSteps := 4000000) (disch := omega) only [abv, step, stepv, ev, wl, wn, wp, wz, aop, cV, cV1, AV.one, partCells, okW, onlyFr, app, sliceCells, cellsAt, srcA, subA, eqFs, Int.cast_ofNat_Int, simprocAttr, h0, eCheck, or_self]
end Go.Am

namespace Go.Am
open Go.RowKit

structure Enc where
  ch : Int
  bits : Int
  rate : Int
  pw : List UInt8
  rest : List UInt8
  smp : List Int
  frs : List (List UInt8)
  out : List UInt8
  done : Bool
  err : Int

def bss (l : List (List UInt8)) : AV := .list l.length (l.map bs)
def encL (e : Enc) : List AV := [.int .i64 e.ch, .int .i64 e.bits, .int .i64 e.rate, .str e.pw, bs e.rest, il e.smp, bss e.frs, bs e.out, .bool e.done, .int .i64 e.err]
end Go.Am

namespace Go.Am
open Go.RowKit

theorem flatten_one {α : Type} (f : α → AV) : ∀ l : List α, (l.map fun x => [f x]).flatten = l.map f
  | [] => rfl
  | x :: l => by simp [flatten_one f l]

theorem fits_u8s {L : List (List AV)} (h : ∀ c ∈ L, Fits (.int .u8) c) : ∃ l : List UInt8, L.length = l.length ∧ AV.list L.length L.flatten = bs l := by
  obtain ⟨l, rfl, _⟩ := map_of_all (f := fun b : UInt8 => [AV.int .u8 b.toNat]) (q := fun _ => True) h (fun c hc => by
    simp only [Fits] at hc
    obtain ⟨n, rfl, h1, h2⟩ := hc
    simp only [IntKind.min, IntKind.max, IntKind.signed, IntKind.bits] at h1 h2
    refine ⟨UInt8.ofNat n.toNat, ?_, trivial⟩
    simp at h1 h2
    simp; omega)
  exact ⟨l, by simp, by simp [bs, u8, flatten_one]⟩

theorem fits_ints {K : IntKind} {L : List (List AV)} (h : ∀ c ∈ L, Fits (.int K) c) : ∃ l : List Int, L.length = l.length ∧ AV.list L.length L.flatten = .list l.length (ks K l) ∧ ∀ x ∈ l, K.min ≤ x ∧ x ≤ K.max := by
  obtain ⟨l, rfl, h2⟩ := map_of_all (f := fun n : Int => [AV.int K n]) (q := fun x => K.min ≤ x ∧ x ≤ K.max) h (fun c hc => by
    simp only [Fits] at hc
    obtain ⟨n, rfl, h1, h2⟩ := hc
    exact ⟨n, rfl, h1, h2⟩)
  exact ⟨l, by simp, by simp [ks, flatten_one], h2⟩

def isStr (P : Program) (t : TypeId) : Bool := match P.underlying t with | some (.struct _) => true | _ => false
def isArr (P : Program) (t : TypeId) : Bool := match P.underlying t with | some (.array _ _) => true | _ => false
def isSl (P : Program) (t : TypeId) : Bool := match P.underlying t with | some (.slice _) => true | _ => false
theorem isStr_eq {P : Program} {t : TypeId} (h : isStr P t = true) : ∃ fs, P.underlying t = some (.struct fs) := by
  unfold isStr at h; split at h
  · exact ⟨_, by assumption⟩
  · cases h
theorem isArr_eq {P : Program} {t : TypeId} (h : isArr P t = true) : ∃ n e, P.underlying t = some (.array n e) := by
  unfold isArr at h; split at h
  · exact ⟨_, _, by assumption⟩
  · cases h
theorem isSl_eq {P : Program} {t : TypeId} (h : isSl P t = true) : ∃ e, P.underlying t = some (.slice e) := by
  unfold isSl at h; split at h
  · exact ⟨_, by assumption⟩
  · cases h

end Go.Am

namespace Go.Am
open Go.RowKit

theorem fits_i32s {L : List (List AV)} (h : ∀ c ∈ L, Fits (.int .i32) c) : ∃ l : List Int, L.length = l.length ∧ AV.list L.length L.flatten = il l ∧ I32 l := by
  obtain ⟨l, h1, h2, h3⟩ := fits_ints h
  exact ⟨l, h1, h2, fun x hx => by have := h3 x hx; simpa [IntKind.min, IntKind.max, IntKind.signed, IntKind.bits] using this⟩

theorem fits_bss {L : List (List AV)} (h : ∀ c ∈ L, Fits (.slice (.int .u8)) c) : ∃ l : List (List UInt8), L.length = l.length ∧ AV.list L.length L.flatten = bss l ∧ ∀ x ∈ l, x.length ≤ maxLen := by
  obtain ⟨l, rfl, h2⟩ := map_of_all (f := fun b : List UInt8 => [bs b]) (q := fun x => x.length ≤ maxLen) h (fun c hc => by
    simp only [Fits] at hc
    obtain ⟨L', rfl, h1, h2⟩ := hc
    obtain ⟨l, h3, h4⟩ := fits_u8s h2
    exact ⟨l, by rw [h4], by omega⟩)
  exact ⟨l, by simp, by simp [bss, flatten_one], h2⟩

def shSh : Sh := .tuple [.int .i64, .int .i64]
def encSh : Sh := .tuple [shSh, .int .i64, .str, .slice (.int .u8), .slice (.int .i32), .slice (.slice (.int .u8)), .slice (.int .u8), .bool, .int .i64]

theorem fits_shape {cs0 : List AV} (h : Fits shSh cs0) : ∃ c b : Int, cs0 = [.int .i64 c, .int .i64 b] := by
  simp only [shSh, Fits, FitsL] at h
  obtain ⟨_, _, rfl, ⟨c, rfl, _⟩, _, _, rfl, ⟨b, rfl, _⟩, rfl⟩ := h
  exact ⟨c, b, rfl⟩

theorem fits_enc {cs0 : List AV} (h : Fits encSh cs0) : ∃ e : Enc, cs0 = encL e ∧ I32 e.smp := by
  simp only [encSh, Fits, FitsL] at h
  obtain ⟨_, _, rfl, h1, _, _, rfl, ⟨r, rfl, _⟩, _, _, rfl, ⟨p, rfl, _⟩, _, _, rfl, ⟨L1, rfl, _, h2⟩, _, _, rfl, ⟨L2, rfl, _, h3⟩, _, _, rfl, ⟨L3, rfl, _, h4⟩, _, _, rfl, ⟨L4, rfl, _, h5⟩, _, _, rfl, ⟨d, rfl⟩, _, _, rfl, ⟨x, rfl, _⟩, rfl⟩ := h
  obtain ⟨c, b, rfl⟩ := fits_shape h1
  obtain ⟨l1, _, e1⟩ := fits_u8s (L := L1) (fun c hc => by simp only [Fits]; exact h2 c hc)
  obtain ⟨l2, _, e2, hi⟩ := fits_i32s (L := L2) (fun c hc => by simp only [Fits]; exact h3 c hc)
  obtain ⟨l3, _, e3, _⟩ := fits_bss (L := L3) (fun c hc => by simp only [Fits]; exact h4 c hc)
  obtain ⟨l4, _, e4⟩ := fits_u8s (L := L4) (fun c hc => by simp only [Fits]; exact h5 c hc)
  exact ⟨⟨c, b, r, p, l1, l2, l3, l4, d, x⟩, by simp [encL, e1, e2, e3, e4], hi⟩
end Go.Am

namespace Go.Am
open Go.RowKit

def w32 (x : Int) : Int := IntKind.i32.wrap x
structure Filt where
  sh : Int
  tp : List Int
  ps : List Int

def okFl (f : Filt) : Prop := f.tp.length = 16 ∧ f.ps.length = 16 ∧ I32 f.tp ∧ I32 f.ps

/-! ### taps.New, taps.Check -/

/-! ### taps.Guess -/

def dotN (a b : List Int) : Nat → Int
  | 0 => 0
  | k + 1 => dotN a b k + a.getD k 0 * b.getD k 0
def partN (s : Int) : Int := if s = 9 then 512 else 1024
def guessF (f : Filt) : Int := w32 (partN f.sh / 2 + dotN f.tp f.ps 16) / partN f.sh
/-! ### taps.Learn, taps.Push -/

def stepN (i : Nat) : Int := if i = 0 then 4 else if i < 4 then 2 else 1
end Go.Am

namespace Go.Am
open Go.RowKit

def sgn (x : Int) : Int := if x < 0 then -1 else if 0 < x then 1 else 0
def updT (x : Filt) (w : Int) (k : Nat) : Int := w32 (x.tp.getD k 0 + stepN k * sgn (x.ps.getD k 0) * sgn w)
def learnK (x : Filt) (w : Int) (k : Nat) : List Int := (List.range 16).map fun i => if i < k then updT x w i else x.tp.getD i 0
def lf (x : Filt) (w : Int) (k : Nat) : Filt := { x with tp := learnK x w k }
def learnF (x : Filt) (w : Int) : Filt := lf x w 16

/-! ### taps.Push -/

def pushF (x : Filt) (v : Int) : Filt := { x with ps := v :: x.ps.take 15 }
end Go.Am

namespace Go.Am
open Go.RowKit

def behindF (x : Filt) (v y : Int) : Filt := pushF (learnF x y) v
def fwdY (x : Filt) (v : Int) : Int := w32 (v - guessF x)
def fwdF (x : Filt) (v : Int) : Filt := behindF x v (fwdY x v)
/-! ### first -/

def firstN (b last : Int) : Int := if b = 8 then 15 * last / 16 else 31 * last / 32
/-! ### chain -/

structure Chan where
  bits : Int
  last : Int
  fl : Filt

def cfwdZ (c : Chan) (x : Int) : Int := w32 (x - firstN c.bits c.last)
def cfwdC (c : Chan) (x : Int) : Chan := ⟨c.bits, x, fwdF c.fl (cfwdZ c x)⟩
end Go.Am

namespace Go.Am
open Go.RowKit

/-! ### chain.Back -/

/-! ### The references -/

def pushK (x : Filt) (k : Nat) : List Int := (List.range 16).map fun j => if k < j then x.ps.getD (j - 1) 0 else x.ps.getD j 0
def pf (x : Filt) (k : Nat) : Filt := { x with ps := pushK x k }
end Go.Am

namespace Go.Am
open Go.RowKit

theorem ks_at {K : IntKind} {l : List Int} {i : Nat} (h : i < l.length) : (ks K l).drop i = .int K (l.getD i 0) :: ks K (l.drop (i + 1)) := by
  rw [drop_ks h]; simp [List.getD_eq_getElem?_getD, List.getElem?_eq_getElem h]

/-! ### slices.Clone of numbers -/

/-! ### mix.mix: in its place -/

theorem getD_ext {a b : List Int} (h : a.length = b.length) (h2 : ∀ j, j < a.length → a.getD j 0 = b.getD j 0) : a = b := by
  apply List.ext_getElem h
  intro i h1 h3
  have := h2 i h1
  simpa [List.getD_eq_getElem?_getD, List.getElem?_eq_getElem h1, List.getElem?_eq_getElem h3] using this
end Go.Am

namespace Go.Am
open Go.RowKit

def okM (c : Nat) (l : List Int) : Prop := 1 ≤ c ∧ c ≤ 6 ∧ 0 < l.length ∧ l.length ≤ 4000 ∧ l.length % c = 0 ∧ I32 l
end Go.Am

namespace Go.Am
open Go.RowKit

theorem Le.drop1 {o : Ob} {xs : List Ob} {fr fr' : List (Nat × AV)} (h : isTL o.cs = true)
    (hfr : ∀ p ∈ fr', p.2 = .any ∨ frzK (fun o => decide (o < 1)) (fun o => decide (1 ≤ o)) (o :: xs) 2 [look fr p.1] = some [p.2]) : Le 0 ⟨fr, o :: xs⟩ ⟨fr', [o]⟩ := by
  refine Le.drop 1 2 (by omega) rfl hfr ?_
  intro i y hy
  match i, hy with
  | 0, hy =>
    simp at hy
    subst hy
    exact ⟨o.cs, by simp, by simp only [frzK]; exact frzL_T _ h⟩
  | i + 1, hy => simp at hy

end Go.Am

namespace Go.Am
open Go.RowKit

def askN (c x : Int) (l : List Int) : Int := if eCheck c x ≠ 0 then 2 else if checkN x l ≠ 0 then checkN x l else if l.length = 0 ∨ (l.length : Int) % c ≠ 0 then 2 else 0
theorem ask_err {c x : Int} {l : List Int} (h : eCheck c x = 2) : askN c x l = 2 := by simp [askN, h]
theorem ask_chk {c x : Int} {l : List Int} (h : eCheck c x = 0) (h2 : checkN x l ≠ 0) : askN c x l = checkN x l := by simp [askN, h, h2]
theorem ask_odd {c x : Int} {l : List Int} (h : eCheck c x = 0) (h2 : checkN x l = 0) (h3 : l.length = 0 ∨ (l.length : Int) % c ≠ 0) : askN c x l = 2 := by simp only [askN, h, h2, if_pos h3]; simp
theorem ask_ok {c x : Int} {l : List Int} (h : eCheck c x = 0) (h2 : checkN x l = 0) (h3 : ¬ (l.length = 0 ∨ (l.length : Int) % c ≠ 0)) : askN c x l = 0 := by simp only [askN, h, h2, if_neg h3]; simp
theorem eCheck_cases (c x : Int) : eCheck c x = 2 ∨ (eCheck c x = 0 ∧ half x ≠ 0 ∧ 1 ≤ c ∧ c ≤ 6) := by unfold eCheck; split <;> omega
theorem chkN_cases (x : Int) (l : List Int) : checkN x l = 2 ∨ checkN x l = 4 ∨ checkN x l = 16 ∨ (checkN x l = 0 ∧ half x ≠ 0 ∧ l.length ≤ 4000) := by
  unfold checkN
  by_cases h : half x = 0
  · simp [h]
  by_cases h2 : 4000 < l.length
  · simp [h, h2]
  by_cases h3 : l.all (inR x)
  · simp [h, h2, h3]; omega
  · simp [h, h2, h3]
theorem ask_okM {c x : Int} {l : List Int} (hI : I32 l) (h : askN c x l = 0) : ∃ k : Nat, c = k ∧ okM k l ∧ half x ≠ 0 := by
  rcases eCheck_cases c x with h1 | ⟨h1, h2, h3, h4⟩
  · rw [ask_err h1] at h; omega
  by_cases h5 : checkN x l = 0
  · by_cases h6 : l.length = 0 ∨ (l.length : Int) % c ≠ 0
    · rw [ask_odd h1 h5 h6] at h; omega
    · obtain ⟨k, rfl⟩ : ∃ k : Nat, c = k := ⟨c.toNat, by omega⟩
      refine ⟨k, rfl, ⟨by omega, by omega, by omega, by rcases chkN_cases x l with h | h | h | h <;> omega, by omega, hI⟩, h2⟩
  · rw [ask_chk h1 h5] at h; exact absurd h h5

def S_EAsk (P : Prg) (f : Nat) : Prop := ∀ (c x : Int) (l : List Int), I32 l → VC P f [shA c x, il l] (.int .i64 (askN c x l))

theorem ref20_Asked {P : Prg} {f fE fW t0 : Nat} (b : Body P f 28 [.tmp 4] (ac_cadenzaref20_Asked fE fW t0)) (hE : S_ECheck P fE) (hW : S_WCheck P fW) : S_EAsk P f := by
  intro c x l hI
  refine VC.of_acall (by simp [isDL, isD, isD_il, shA]) rfl (ACall.of_body b (by simp) ?_)
  have hE' := hE c x
  rw [shA] at hE'
  simp (maxSteps := 4000000) (disch := omega) only [abv, step, stepv, ev, wl, wn, wp, wz, aop, cV, cV1, AV.one, partCells, okW, onlyFr, app, sliceCells, cellsAt, srcA, subA, eqFs, Int.cast_ofNat_Int, simprocAttr, ac_cadenzaref20_Asked, shA]
  refine callQ.vc hE' ?_
  rcases eCheck_cases c x with h1 | ⟨h1, h2, h3, h4⟩
  · simp (maxSteps := 4000000) (disch := omega) only [abv, step, stepv, ev, wl, wn, wp, wz, aop, cV, cV1, AV.one, partCells, okW, onlyFr, app, sliceCells, cellsAt, srcA, subA, eqFs, Int.cast_ofNat_Int, simprocAttr, h1, ask_err h1]
  simp (maxSteps := 4000000) (disch := omega) only [abv, step, stepv, ev, wl, wn, wp, wz, aop, cV, cV1, AV.one, partCells, okW, onlyFr, app, sliceCells, cellsAt, srcA, subA, eqFs, Int.cast_ofNat_Int, simprocAttr, h1]
  refine callQ.vc (hW x l hI) ?_
  by_cases h5 : checkN x l = 0
  · have h9 : l.length ≤ 4000 := by rcases chkN_cases x l with h | h | h | h <;> omega
    by_cases h6 : l.length = 0
    · simp (maxSteps := 4000000) (disch := omega) only [abv, step, stepv, ev, wl, wn, wp, wz, aop, cV, cV1, AV.one, partCells, okW, onlyFr, app, sliceCells, cellsAt, srcA, subA, eqFs, Int.cast_ofNat_Int, simprocAttr, h5, il, h6, ask_odd h1 h5 (.inl h6)]
    · by_cases h7 : (l.length : Int) % c = 0
      · have hm := mod_small (n := l.length) (c := c) (by omega)
        simp (maxSteps := 4000000) (disch := omega) only [abv, step, stepv, ev, wl, wn, wp, wz, aop, cV, cV1, AV.one, partCells, okW, onlyFr, app, sliceCells, cellsAt, srcA, subA, eqFs, Int.cast_ofNat_Int, simprocAttr, h5, il, h6, h7, ask_ok h1 h5 (by omega)]
      · have hm := mod_small (n := l.length) (c := c) (by omega)
        have hp : 0 < (l.length : Int) % c := by omega
        simp (maxSteps := 4000000) (disch := omega) only [abv, step, stepv, ev, wl, wn, wp, wz, aop, cV, cV1, AV.one, partCells, okW, onlyFr, app, sliceCells, cellsAt, srcA, subA, eqFs, Int.cast_ofNat_Int, simprocAttr, h5, il, h6, h7, ask_odd h1 h5 (.inr h7)]
  · simp (maxSteps := 4000000) (disch := omega) only [abv, step, stepv, ev, wl, wn, wp, wz, aop, cV, cV1, AV.one, partCells, okW, onlyFr, app, sliceCells, cellsAt, srcA, subA, eqFs, Int.cast_ofNat_Int, simprocAttr, h5]
    refine callQ.vc (hW x l hI) ?_
    simp (maxSteps := 4000000) (disch := omega) only [abv, step, stepv, ev, wl, wn, wp, wz, aop, cV, cV1, AV.one, partCells, okW, onlyFr, app, sliceCells, cellsAt, srcA, subA, eqFs, Int.cast_ofNat_Int, simprocAttr, ask_chk h1 h5]

end Go.Am

namespace Go.Am
open Go.RowKit

/-! ### Six channels in one array -/

def okS (S : Nat → Chan) : Prop := ∀ k, okFl (S k).fl
/-! ### What is coded -/

def stC (c : Nat) (L : List Int) (z : Chan) (k : Nat) : Nat → Chan
  | 0 => z
  | n + 1 => cfwdC (stC c L z k n) (L.getD (k + n * c) 0)
def cnt (c k i : Nat) : Nat := if k < i % c then i / c + 1 else i / c
def stA (c : Nat) (L : List Int) (z : Chan) (i : Nat) : Nat → Chan := fun k => if k < c then stC c L z k (cnt c k i) else z
theorem Le.dropT (os : List Ob) {xs : List Ob} {fr fr' : List (Nat × AV)} (h : ∀ o ∈ os, isTL o.cs = true)
    (hfr : ∀ p ∈ fr', p.2 = .any ∨ frzK (fun o => decide (o < os.length)) (fun o => decide (os.length ≤ o)) (os ++ xs) 2 [look fr p.1] = some [p.2]) : Le 0 ⟨fr, os ++ xs⟩ ⟨fr', os⟩ := by
  refine Le.drop os.length 2 (by omega) rfl hfr ?_
  intro i y hy
  have hi : i < os.length := by
    rcases Nat.lt_or_ge i os.length with h | h
    · exact h
    · rw [List.getElem?_eq_none h] at hy; cases hy
  refine ⟨y.cs, by rw [List.getElem?_append_left hi]; exact hy, ?_⟩
  simp only [frzK]
  exact frzL_T _ (h y (List.mem_of_getElem? hy))
end Go.Am

namespace Go.Am
open Go.RowKit

theorem rep_ks (K : IntKind) : ∀ n : Nat, repCells [.int K 0] n = ks K (List.replicate n 0)
  | 0 => rfl
  | n + 1 => by rw [repCells, rep_ks K n]; simp [ks, List.replicate_succ]

end Go.Am

namespace Go.Am
open Go.RowKit

def greatL (l : List Int) : Prop := (600 < l.length ∧ l.length ≤ 4000) ∨ 4100 < l.length
def S_Great13 (P : Prg) (f : Nat) : Prop := ∀ l : List Int, (greatL l → VC P f [il l] (.bool true)) ∧ (¬ greatL l → VC P f [il l] (.bool false))
theorem ref13_Great {P : Prg} {f : Nat} (b : Body P f 16 [.tmp 2] ac_cadenzaref13_Great) : S_Great13 P f := by
  intro l
  constructor <;> intro hg <;> refine VC.of_acall (by simp [isDL, isD, isD_il]) rfl (ACall.of_body b (by simp) ?_) <;> unfold greatL at hg <;> by_cases h1 : 600 < l.length <;> by_cases h2 : l.length ≤ 4000 <;> by_cases h3 : 4100 < l.length <;> first | (exfalso; omega) | simp (maxSteps := 4000000) (disch := omega) only [abv, step, stepv, ev, wl, wn, wp, wz, aop, cV, cV1, AV.one, partCells, okW, onlyFr, app, sliceCells, cellsAt, srcA, subA, eqFs, Int.cast_ofNat_Int, simprocAttr, ac_cadenzaref13_Great, il]
def S_ISame (P : Prg) (f : Nat) : Prop := ∀ l : List Int, l.length ≤ 1000000 → VC P f [il l, il l] (.bool true)
theorem ref13_Same {P : Prg} {f : Nat} (b : Body P f 26 [.tmp 4] ac_cadenzaref13_Same) : S_ISame P f := by
  intro l hl
  refine VC.of_acall (by simp [isDL, isD, isD_il]) rfl (ACall.of_body b (by simp) ?_)
  simp (maxSteps := 4000000) (disch := omega) only [abv, step, stepv, ev, wl, wn, wp, wz, aop, cV, cV1, AV.one, partCells, okW, onlyFr, app, sliceCells, cellsAt, srcA, subA, eqFs, Int.cast_ofNat_Int, simprocAttr, ac_cadenzaref13_Same, il]
  refine ALoop.by (ι := Nat) (fun k => ⟨[(5, .int .i64 k), (1, il l), (0, il l)], []⟩) (fun k => k ≤ l.length) (fun k => l.length - k) 0 (Le.slots (by simp [Am.look, il])) (by omega) ?_
  intro k hk
  by_cases hlt : k < l.length
  · have e1 := ks_at (K := .i32) hlt
    simp (maxSteps := 4000000) (disch := omega) only [abv, step, stepv, ev, wl, wn, wp, wz, aop, cV, cV1, AV.one, partCells, okW, onlyFr, app, sliceCells, cellsAt, srcA, subA, eqFs, Int.cast_ofNat_Int, simprocAttr, il, e1]
    exact ⟨k + 1, by omega, by omega, Le.slots (by simp [Am.look, il])⟩
  · simp (maxSteps := 4000000) (disch := omega) only [abv, step, stepv, ev, wl, wn, wp, wz, aop, cV, cV1, AV.one, partCells, okW, onlyFr, app, sliceCells, cellsAt, srcA, subA, eqFs, Int.cast_ofNat_Int, simprocAttr, il]

end Go.Am

namespace Go.Am
open Go.RowKit

def tapSh : Sh := .tuple (List.replicate 16 (.int .i32))
theorem fitsL_ints (K : IntKind) : ∀ (n : Nat) (cs0 : List AV), FitsL (List.replicate n (.int K)) cs0 → ∃ t : List Int, cs0 = ks K t ∧ t.length = n ∧ ∀ x ∈ t, K.min ≤ x ∧ x ≤ K.max
  | 0, cs0, h => by
    simp only [List.replicate, FitsL] at h
    exact ⟨[], by simpa [ks] using h, rfl, by simp⟩
  | n + 1, cs0, h => by
    simp only [List.replicate, FitsL, Fits] at h
    obtain ⟨_, r, rfl, ⟨x, rfl, h1, h2⟩, h3⟩ := h
    obtain ⟨t, rfl, h4, h5⟩ := fitsL_ints K n r h3
    exact ⟨x :: t, by simp [ks], by simp [h4], fun y hy => by
      rcases List.mem_cons.1 hy with rfl | hy
      · exact ⟨h1, h2⟩
      · exact h5 y hy⟩
theorem fits_taps {cs0 : List AV} (h : Fits tapSh cs0) : ∃ t : List Int, cs0 = ks .i32 t ∧ t.length = 16 ∧ I32 t := by
  simp only [tapSh, Fits] at h
  obtain ⟨t, h1, h2, h3⟩ := fitsL_ints .i32 16 cs0 h
  exact ⟨t, h1, h2, fun x hx => by have := h3 x hx; simpa [IntKind.min, IntKind.max, IntKind.signed, IntKind.bits] using this⟩
end Go.Am

namespace Go.Am
open Go.RowKit

def cntA (r n : Int) : AV := if r < 1 ∨ 1048576 < r then .tup [.int .i64 0, .int .i64 2] else if n < 1 ∨ 4000 < n then .tup [.int .i64 0, .int .i64 2] else if 1000 < (n + longN r - 1) / longN r then .tup [.int .i64 0, .int .i64 4] else .tup [.int .i64 ((n + longN r - 1) / longN r), .int .i64 0]
theorem isD_cnt (r n : Int) : isD (cntA r n) = true := by unfold cntA; split <;> (try split) <;> (try split) <;> rfl
def S_Count22 (P : Prg) (f : Nat) : Prop := ∀ r n : Int, VC P f [.int .i64 r, .int .i64 n] (cntA r n)

theorem lengths_Count {P : Prg} {f fL : Nat} (b : Body P f 32 [.tmp 4, .tmp 5] (ac_lengths_Count fL)) (hL : S_Long22 P fL) : S_Count22 P f := by
  intro r n
  refine VC.of_acall rfl (isD_cnt _ _) (ACall.of_body b (by simp) ?_)
  have hL' := hL r
  simp (maxSteps := 4000000) (disch := omega) only [abv, step, stepv, ev, wl, wn, wp, wz, aop, cV, cV1, AV.one, partCells, okW, onlyFr, app, sliceCells, cellsAt, srcA, subA, eqFs, Int.cast_ofNat_Int, simprocAttr, ac_lengths_Count]
  refine callQ.vc hL' ?_
  by_cases h1 : r < 1 ∨ 1048576 < r
  · have e1 : longA r = .tup [.int .i64 0, .int .i64 2] := by rw [longA, if_pos h1]
    have e2 : cntA r n = .tup [.int .i64 0, .int .i64 2] := by rw [cntA, if_pos h1]
    simp (maxSteps := 4000000) (disch := omega) only [abv, step, stepv, ev, wl, wn, wp, wz, aop, cV, cV1, AV.one, partCells, okW, onlyFr, app, sliceCells, cellsAt, srcA, subA, eqFs, Int.cast_ofNat_Int, simprocAttr, e1, e2]
  have e1 : longA r = .tup [.int .i64 (longN r), .int .i64 0] := by rw [longA, if_neg h1]
  have p1 := longN_pos r
  have p2 := longN_le (r := r) (by omega)
  by_cases h2 : n < 1
  · have e2 : cntA r n = .tup [.int .i64 0, .int .i64 2] := by rw [cntA, if_neg h1, if_pos (.inl h2)]
    simp (maxSteps := 4000000) (disch := omega) only [abv, step, stepv, ev, wl, wn, wp, wz, aop, cV, cV1, AV.one, partCells, okW, onlyFr, app, sliceCells, cellsAt, srcA, subA, eqFs, Int.cast_ofNat_Int, simprocAttr, e1, e2]
  by_cases h3 : 4000 < n
  · have e2 : cntA r n = .tup [.int .i64 0, .int .i64 2] := by rw [cntA, if_neg h1, if_pos (.inr h3)]
    simp (maxSteps := 4000000) (disch := omega) only [abv, step, stepv, ev, wl, wn, wp, wz, aop, cV, cV1, AV.one, partCells, okW, onlyFr, app, sliceCells, cellsAt, srcA, subA, eqFs, Int.cast_ofNat_Int, simprocAttr, e1, e2]
  have e2 : cntA r n = if 1000 < (n + longN r - 1) / longN r then .tup [.int .i64 0, .int .i64 4] else .tup [.int .i64 ((n + longN r - 1) / longN r), .int .i64 0] := by
    rw [cntA, if_neg h1, if_neg (by omega)]
  generalize longN r = L at *
  have q0 : (n + L - 1).tdiv L = (n + L - 1) / L := Int.tdiv_eq_ediv_of_nonneg (by omega)
  have q1 : 0 ≤ (n + L - 1) / L := Int.ediv_nonneg (by omega) (by omega)
  have q2 : (n + L - 1) / L ≤ n + L - 1 := Int.ediv_le_self _ (by omega)
  generalize hq : (n + L - 1) / L = Q at *
  by_cases h4 : 1000 < Q
  · rw [if_pos h4] at e2
    simp (maxSteps := 4000000) (disch := omega) only [abv, step, stepv, ev, wl, wn, wp, wz, aop, cV, cV1, AV.one, partCells, okW, onlyFr, app, sliceCells, cellsAt, srcA, subA, eqFs, Int.cast_ofNat_Int, simprocAttr, e1, q0, hq, e2]
  · rw [if_neg h4] at e2
    simp (maxSteps := 4000000) (disch := omega) only [abv, step, stepv, ev, wl, wn, wp, wz, aop, cV, cV1, AV.one, partCells, okW, onlyFr, app, sliceCells, cellsAt, srcA, subA, eqFs, Int.cast_ofNat_Int, simprocAttr, e1, q0, hq, e2]

def S_Shape24 (P : Prg) (f : Nat) : Prop := ∀ (c x r : Int) (l : List Int), VC P f [.agg [.int .i64 c, .int .i64 x, .int .i64 r, il l]] (shA c x)
theorem clip_shape {P : Prg} {f t0 t1 : Nat} (b : Body P f 8 [.cell 2 t1] (ac_clip_shape t0 t1)) (ht : aggO P t1 = some (some 2)) : S_Shape24 P f := by
  intro c x r l
  refine VC.of_acall (by simp [isDL, isD, isD_il]) rfl (ACall.of_body b (by simp) ?_)
  simp (maxSteps := 4000000) (disch := omega) only [abv, step, stepv, ev, wl, wn, wp, wz, aop, cV, cV1, AV.one, partCells, okW, onlyFr, app, sliceCells, cellsAt, srcA, subA, eqFs, Int.cast_ofNat_Int, simprocAttr, ac_clip_shape, il, resA, ht, shA]
theorem ref24_Shape {P : Prg} {f t0 t1 : Nat} (b : Body P f 8 [.cell 2 t1] (ac_cadenzaref24_Shape t0 t1)) (ht : aggO P t1 = some (some 2)) : S_Shape24 P f := by
  intro c x r l
  refine VC.of_acall (by simp [isDL, isD, isD_il]) rfl (ACall.of_body b (by simp) ?_)
  simp (maxSteps := 4000000) (disch := omega) only [abv, step, stepv, ev, wl, wn, wp, wz, aop, cV, cV1, AV.one, partCells, okW, onlyFr, app, sliceCells, cellsAt, srcA, subA, eqFs, Int.cast_ofNat_Int, simprocAttr, ac_cadenzaref24_Shape, il, resA, ht, shA]

def cntE (r n : Int) : Int := if r < 1 ∨ 1048576 < r then 2 else if n < 1 ∨ 4000 < n then 2 else if 1000 < (n + longN r - 1) / longN r then 4 else 0
theorem cnt_form (r n : Int) : ∃ k : Int, cntA r n = .tup [.int .i64 k, .int .i64 (cntE r n)] := by
  unfold cntA cntE
  split
  · exact ⟨_, rfl⟩
  split
  · exact ⟨_, rfl⟩
  split
  · exact ⟨_, rfl⟩
  · exact ⟨_, rfl⟩
def headN (c x r n : Int) : Int := if eCheck c x ≠ 0 then 8 else if n < 1 then 8 else if 4000 / c < n then 8 else if cntE r n ≠ 0 then 8 else 0
def S_CHead (P : Prg) (f : Nat) : Prop := ∀ (c x r n : Int) (l : List Int), VC P f [.agg [.int .i64 c, .int .i64 x, .int .i64 r, il l], .int .i64 n] (.int .i64 (headN c x r n))
theorem clip_head {P : Prg} {f fS fE fC t0 : Nat} (b : Body P f 31 [.tmp 4] (ac_clip_head fS fE fC t0)) (hS : S_Shape24 P fS) (hE : S_ECheck P fE) (hC : S_Count22 P fC) : S_CHead P f := by
  intro c x r n l
  refine VC.of_acall (by simp [isDL, isD, isD_il]) rfl (ACall.of_body b (by simp) ?_)
  have hS' := hS c x r l
  have hE' := hE c x
  rw [shA] at hS' hE'
  rw [il] at hS'
  obtain ⟨k, ek⟩ := cnt_form r n
  have hC' := hC r n
  rw [ek] at hC'
  simp (maxSteps := 4000000) (disch := omega) only [abv, step, stepv, ev, wl, wn, wp, wz, aop, cV, cV1, AV.one, partCells, okW, onlyFr, app, sliceCells, cellsAt, srcA, subA, eqFs, Int.cast_ofNat_Int, simprocAttr, ac_clip_head, il]
  refine callQ.vc hS' ?_
  simp (maxSteps := 4000000) (disch := omega) only [abv, step, stepv, ev, wl, wn, wp, wz, aop, cV, cV1, AV.one, partCells, okW, onlyFr, app, sliceCells, cellsAt, srcA, subA, eqFs, Int.cast_ofNat_Int, simprocAttr]
  refine callQ.vc hE' ?_
  rcases eCheck_cases c x with h1 | ⟨h1, h2, h3, h4⟩
  · have e9 : headN c x r n = 8 := by simp [headN, h1]
    simp (maxSteps := 4000000) (disch := omega) only [abv, step, stepv, ev, wl, wn, wp, wz, aop, cV, cV1, AV.one, partCells, okW, onlyFr, app, sliceCells, cellsAt, srcA, subA, eqFs, Int.cast_ofNat_Int, simprocAttr, h1, e9]
  have q0 : (4000 : Int).tdiv c = 4000 / c := Int.tdiv_eq_ediv_of_nonneg (by omega)
  have q1 : 0 ≤ (4000 : Int) / c := Int.ediv_nonneg (by omega) (by omega)
  have q2 : (4000 : Int) / c ≤ 4000 := Int.ediv_le_self _ (by omega)
  by_cases h5 : n < 1
  · have e9 : headN c x r n = 8 := by simp [headN, h5]
    simp (maxSteps := 4000000) (disch := omega) only [abv, step, stepv, ev, wl, wn, wp, wz, aop, cV, cV1, AV.one, partCells, okW, onlyFr, app, sliceCells, cellsAt, srcA, subA, eqFs, Int.cast_ofNat_Int, simprocAttr, h1, e9]
  by_cases h6 : 4000 / c < n
  · have e9 : headN c x r n = 8 := by simp [headN, h6]
    simp (maxSteps := 4000000) (disch := omega) only [abv, step, stepv, ev, wl, wn, wp, wz, aop, cV, cV1, AV.one, partCells, okW, onlyFr, app, sliceCells, cellsAt, srcA, subA, eqFs, Int.cast_ofNat_Int, simprocAttr, h1, e9, q0]
  simp (maxSteps := 4000000) (disch := omega) only [abv, step, stepv, ev, wl, wn, wp, wz, aop, cV, cV1, AV.one, partCells, okW, onlyFr, app, sliceCells, cellsAt, srcA, subA, eqFs, Int.cast_ofNat_Int, simprocAttr, h1, q0]
  refine callQ.vc hC' ?_
  by_cases h7 : cntE r n = 0
  · have e9 : headN c x r n = 0 := by simp [headN, h1, h5, h6, h7]
    simp (maxSteps := 4000000) (disch := omega) only [abv, step, stepv, ev, wl, wn, wp, wz, aop, cV, cV1, AV.one, partCells, okW, onlyFr, app, sliceCells, cellsAt, srcA, subA, eqFs, Int.cast_ofNat_Int, simprocAttr, h7, e9]
  · have e9 : headN c x r n = 8 := by simp [headN, h7]
    simp (maxSteps := 4000000) (disch := omega) only [abv, step, stepv, ev, wl, wn, wp, wz, aop, cV, cV1, AV.one, partCells, okW, onlyFr, app, sliceCells, cellsAt, srcA, subA, eqFs, Int.cast_ofNat_Int, simprocAttr, h7, e9]

def clipN (c x r : Int) (l : List Int) : Int := if c < 1 then 8 else if (l.length : Int) % c ≠ 0 then 8 else if headN c x r (l.length / c) ≠ 0 then 8 else if checkN x l ≠ 0 then 8 else 0
theorem head_cases (c x r n : Int) : headN c x r n = 8 ∨ headN c x r n = 0 := by
  unfold headN; split <;> (try split) <;> (try split) <;> (try split) <;> simp
def S_ClipCheck (P : Prg) (f : Nat) : Prop := ∀ (c x r : Int) (l : List Int), I32 l → l.length ≤ 1000000 → VC P f [.agg [.int .i64 c, .int .i64 x, .int .i64 r, il l]] (.int .i64 (clipN c x r l))
theorem clip_Check {P : Prg} {f fH fW t0 : Nat} (b : Body P f 33 [.tmp 2] (ac_clip_Check fH fW t0)) (hH : S_CHead P fH) (hW : S_WCheck P fW) : S_ClipCheck P f := by
  intro c x r l hI hl
  · refine VC.of_acall (by simp [isDL, isD, isD_il]) rfl (ACall.of_body b (by simp) ?_)
    by_cases h1 : c < 1
    · have e9 : clipN c x r l = 8 := by simp [clipN, h1]
      simp (maxSteps := 4000000) (disch := omega) only [abv, step, stepv, ev, wl, wn, wp, wz, aop, cV, cV1, AV.one, partCells, okW, onlyFr, app, sliceCells, cellsAt, srcA, subA, eqFs, Int.cast_ofNat_Int, simprocAttr, ac_clip_Check, il, e9]
    have hm := mod_small (n := l.length) (c := c) (by omega)
    have hd := div_small (n := l.length) (c := c) (by omega)
    have q0 : (l.length : Int).tdiv c = l.length / c := Int.tdiv_eq_ediv_of_nonneg (by omega)
    by_cases h2 : (l.length : Int) % c = 0
    · have hH' := hH c x r (l.length / c) l
      have hW' := hW x l hI
      rw [il] at hH' hW'
      simp (maxSteps := 4000000) (disch := omega) only [abv, step, stepv, ev, wl, wn, wp, wz, aop, cV, cV1, AV.one, partCells, okW, onlyFr, app, sliceCells, cellsAt, srcA, subA, eqFs, Int.cast_ofNat_Int, simprocAttr, ac_clip_Check, il, h2, q0]
      refine callD.vc hH' ?_
      rcases head_cases c x r (l.length / c) with h3 | h3
      · have e9 : clipN c x r l = 8 := by simp [clipN, h3]
        simp (maxSteps := 4000000) (disch := omega) only [abv, step, stepv, ev, wl, wn, wp, wz, aop, cV, cV1, AV.one, partCells, okW, onlyFr, app, sliceCells, cellsAt, srcA, subA, eqFs, Int.cast_ofNat_Int, simprocAttr, h3, e9]
      · simp (maxSteps := 4000000) (disch := omega) only [abv, step, stepv, ev, wl, wn, wp, wz, aop, cV, cV1, AV.one, partCells, okW, onlyFr, app, sliceCells, cellsAt, srcA, subA, eqFs, Int.cast_ofNat_Int, simprocAttr, h3]
        refine callQ.vc hW' ?_
        by_cases h4 : checkN x l = 0
        · have e9 : clipN c x r l = 0 := by simp [clipN, h1, h2, h3, h4]
          simp (maxSteps := 4000000) (disch := omega) only [abv, step, stepv, ev, wl, wn, wp, wz, aop, cV, cV1, AV.one, partCells, okW, onlyFr, app, sliceCells, cellsAt, srcA, subA, eqFs, Int.cast_ofNat_Int, simprocAttr, h4, e9]
        · have e9 : clipN c x r l = 8 := by simp [clipN, h4]
          simp (maxSteps := 4000000) (disch := omega) only [abv, step, stepv, ev, wl, wn, wp, wz, aop, cV, cV1, AV.one, partCells, okW, onlyFr, app, sliceCells, cellsAt, srcA, subA, eqFs, Int.cast_ofNat_Int, simprocAttr, h4, e9]
    · have e9 : clipN c x r l = 8 := by simp [clipN, h2]
      simp (maxSteps := 4000000) (disch := omega) only [abv, step, stepv, ev, wl, wn, wp, wz, aop, cV, cV1, AV.one, partCells, okW, onlyFr, app, sliceCells, cellsAt, srcA, subA, eqFs, Int.cast_ofNat_Int, simprocAttr, ac_clip_Check, il, h2, e9]

def ask21 (c x n : Int) : Int := if eCheck c x ≠ 0 then 2 else if n < 1 then 2 else if 4000 / c < n then 2 else 0
def S_Ask21 (P : Prg) (f : Nat) : Prop := ∀ c x n : Int, VC P f [shA c x, .int .i64 n] (.int .i64 (ask21 c x n))
theorem ref21_Asked {P : Prg} {f fE t0 : Nat} (b : Body P f 19 [.tmp 4] (ac_cadenzaref21_Asked fE t0)) (hE : S_ECheck P fE) : S_Ask21 P f := by
  intro c x n
  refine VC.of_acall (by simp [isDL, isD, shA]) rfl (ACall.of_body b (by simp) ?_)
  have hE' := hE c x
  rw [shA] at hE'
  simp (maxSteps := 4000000) (disch := omega) only [abv, step, stepv, ev, wl, wn, wp, wz, aop, cV, cV1, AV.one, partCells, okW, onlyFr, app, sliceCells, cellsAt, srcA, subA, eqFs, Int.cast_ofNat_Int, simprocAttr, ac_cadenzaref21_Asked, shA]
  refine callQ.vc hE' ?_
  rcases eCheck_cases c x with h1 | ⟨h1, h2, h3, h4⟩
  · have e9 : ask21 c x n = 2 := by simp [ask21, h1]
    simp (maxSteps := 4000000) (disch := omega) only [abv, step, stepv, ev, wl, wn, wp, wz, aop, cV, cV1, AV.one, partCells, okW, onlyFr, app, sliceCells, cellsAt, srcA, subA, eqFs, Int.cast_ofNat_Int, simprocAttr, h1, e9]
  have q0 : (4000 : Int).tdiv c = 4000 / c := Int.tdiv_eq_ediv_of_nonneg (by omega)
  have q1 : 0 ≤ (4000 : Int) / c := Int.ediv_nonneg (by omega) (by omega)
  have q2 : (4000 : Int) / c ≤ 4000 := Int.ediv_le_self _ (by omega)
  by_cases h5 : n < 1
  · have e9 : ask21 c x n = 2 := by simp [ask21, h5]
    simp (maxSteps := 4000000) (disch := omega) only [abv, step, stepv, ev, wl, wn, wp, wz, aop, cV, cV1, AV.one, partCells, okW, onlyFr, app, sliceCells, cellsAt, srcA, subA, eqFs, Int.cast_ofNat_Int, simprocAttr, h1, e9]
  by_cases h6 : 4000 / c < n
  · have e9 : ask21 c x n = 2 := by simp [ask21, h6]
    simp (maxSteps := 4000000) (disch := omega) only [abv, step, stepv, ev, wl, wn, wp, wz, aop, cV, cV1, AV.one, partCells, okW, onlyFr, app, sliceCells, cellsAt, srcA, subA, eqFs, Int.cast_ofNat_Int, simprocAttr, h1, e9, q0]
  · have e9 : ask21 c x n = 0 := by simp [ask21, h1, h5, h6]
    simp (maxSteps := 4000000) (disch := omega) only [abv, step, stepv, ev, wl, wn, wp, wz, aop, cV, cV1, AV.one, partCells, okW, onlyFr, app, sliceCells, cellsAt, srcA, subA, eqFs, Int.cast_ofNat_Int, simprocAttr, h1, e9, q0]
end Go.Am

namespace Go.Am
open Go.RowKit

def lensL (L n : Nat) : List Int := List.replicate ((n - 1) / L) (L : Int) ++ [(n : Int) - ((n - 1) / L * L : Nat)]
theorem lensL_len (L n : Nat) : (lensL L n).length = (n - 1) / L + 1 := by simp [lensL]
theorem rep_snoc (k : Nat) (a : Int) : List.replicate k a ++ [a] = List.replicate (k + 1) a := by rw [List.replicate_succ']
def i64L (l : List Int) : AV := .list l.length (ks .i64 l)
theorem isD_i64L (l : List Int) : isD (i64L l) = true := by simp [i64L, isD, isDL_ks]
def allA (r n : Int) : AV := if r < 1 ∨ 1048576 < r ∨ n < 1 ∨ 4000 < n then .tup [.list 0 [], .int .i64 2] else if 1000 < (lensL (longN r).toNat n.toNat).length then .tup [.list 0 [], .int .i64 4] else .tup [i64L (lensL (longN r).toNat n.toNat), .int .i64 0]
theorem isD_all (r n : Int) : isD (allA r n) = true := by unfold allA; split <;> (try split) <;> simp [isD, isDL, isD_i64L]
def S_All22 (P : Prg) (f : Nat) : Prop := ∀ r n : Int, VC P f [.int .i64 r, .int .i64 n] (allA r n)

theorem ref22_All {P : Prg} {f fL t0 : Nat} (b : Body P f 41 [.tmp 4, .tmp 5] (ac_cadenzaref22_All fL t0)) (hL : S_Long22 P fL) : S_All22 P f := by
  intro r n
  refine VC.of_walk 1 rfl (isD_all _ _) (ACall.of_body b (by simp) ?_)
  have hL' := hL r
  by_cases h1 : r < 1 ∨ 1048576 < r
  · have e1 : longA r = .tup [.int .i64 0, .int .i64 2] := by rw [longA, if_pos h1]
    have e2 : allA r n = .tup [.list 0 [], .int .i64 2] := by rw [allA, if_pos (by omega)]
    simp (maxSteps := 4000000) (disch := omega) only [abv, step, stepv, ev, wl, wn, wp, wz, aop, cV, cV1, AV.one, partCells, okW, onlyFr, app, sliceCells, cellsAt, srcA, subA, eqFs, Int.cast_ofNat_Int, simprocAttr, ac_cadenzaref22_All]
    refine callQ.vc hL' ?_
    simp (maxSteps := 4000000) (disch := omega) only [abv, step, stepv, ev, wl, wn, wp, wz, aop, cV, cV1, AV.one, partCells, okW, onlyFr, app, sliceCells, cellsAt, srcA, subA, eqFs, Int.cast_ofNat_Int, simprocAttr, e1, e2]
    simp [frzN, frzK, frzL, frzV, isDL, isD]
  have e1 : longA r = .tup [.int .i64 (longN r), .int .i64 0] := by rw [longA, if_neg h1]
  rw [e1] at hL'
  have p1 := longN_pos r
  have p2 := longN_le (r := r) (by omega)
  by_cases h2 : n < 1
  · have e2 : allA r n = .tup [.list 0 [], .int .i64 2] := by rw [allA, if_pos (by omega)]
    simp (maxSteps := 4000000) (disch := omega) only [abv, step, stepv, ev, wl, wn, wp, wz, aop, cV, cV1, AV.one, partCells, okW, onlyFr, app, sliceCells, cellsAt, srcA, subA, eqFs, Int.cast_ofNat_Int, simprocAttr, ac_cadenzaref22_All]
    refine callQ.vc hL' ?_
    simp (maxSteps := 4000000) (disch := omega) only [abv, step, stepv, ev, wl, wn, wp, wz, aop, cV, cV1, AV.one, partCells, okW, onlyFr, app, sliceCells, cellsAt, srcA, subA, eqFs, Int.cast_ofNat_Int, simprocAttr, e2]
    simp [frzN, frzK, frzL, frzV, isDL, isD]
  by_cases h3 : 4000 < n
  · have e2 : allA r n = .tup [.list 0 [], .int .i64 2] := by rw [allA, if_pos (by omega)]
    simp (maxSteps := 4000000) (disch := omega) only [abv, step, stepv, ev, wl, wn, wp, wz, aop, cV, cV1, AV.one, partCells, okW, onlyFr, app, sliceCells, cellsAt, srcA, subA, eqFs, Int.cast_ofNat_Int, simprocAttr, ac_cadenzaref22_All]
    refine callQ.vc hL' ?_
    simp (maxSteps := 4000000) (disch := omega) only [abv, step, stepv, ev, wl, wn, wp, wz, aop, cV, cV1, AV.one, partCells, okW, onlyFr, app, sliceCells, cellsAt, srcA, subA, eqFs, Int.cast_ofNat_Int, simprocAttr, e2]
    simp [frzN, frzK, frzL, frzV, isDL, isD]
  have e2 : allA r n = if 1000 < (lensL (longN r).toNat n.toNat).length then .tup [.list 0 [], .int .i64 4] else .tup [i64L (lensL (longN r).toNat n.toNat), .int .i64 0] := by rw [allA, if_neg (by omega)]
  generalize longN r = Li at *
  obtain ⟨L, rfl⟩ : ∃ L : Nat, Li = L := ⟨Li.toNat, by omega⟩
  obtain ⟨m, rfl⟩ : ∃ m : Nat, n = m := ⟨n.toNat, by omega⟩
  simp only [Int.toNat_natCast] at e2
  have g1 : (m - 1) / L * L ≤ m - 1 := Nat.div_mul_le_self _ _
  have g2 : m - 1 < ((m - 1) / L + 1) * L := by
    have := Nat.lt_div_mul_add (a := m - 1) (b := L) (by omega)
    rw [Nat.add_mul, Nat.one_mul]; omega
  rw [Nat.add_mul, Nat.one_mul] at g2
  have g3 : (m - 1) / L ≤ m - 1 := Nat.div_le_self _ _
  have ll := lensL_len L m
  have lf : lensL L m = List.replicate ((m - 1) / L) (L : Int) ++ [(m : Int) - ((m - 1) / L * L : Nat)] := rfl
  generalize hq : (m - 1) / L = q at *
  simp (maxSteps := 4000000) (disch := omega) only [abv, step, stepv, ev, wl, wn, wp, wz, aop, cV, cV1, AV.one, partCells, okW, onlyFr, app, sliceCells, cellsAt, srcA, subA, eqFs, Int.cast_ofNat_Int, simprocAttr, ac_cadenzaref22_All]
  refine callQ.vc hL' ?_
  simp (maxSteps := 4000000) (disch := omega) only [abv, step, stepv, ev, wl, wn, wp, wz, aop, cV, cV1, AV.one, partCells, okW, onlyFr, app, sliceCells, cellsAt, srcA, subA, eqFs, Int.cast_ofNat_Int, simprocAttr]
  refine ALoop.by (ι := Option Nat) (fun i => match i with
      | some k => ⟨[(1, .int .i64 ((m : Int) - (k * L : Nat))), (8, .own 0 k), (6, .int .i64 L)], [⟨t0, 1, k, ks .i64 (List.replicate k (L : Int)), 0⟩]⟩
      | none => ⟨[(1, .int .i64 0), (8, .own 0 (q + 1)), (6, .int .i64 L)], [⟨t0, 1, q + 1, ks .i64 (lensL L m), 0⟩]⟩)
    (fun i => match i with | some k => k ≤ q | none => True) (fun i => match i with | some k => q - k + 1 | none => 0) (some 0)
    (by simp only [Nat.zero_mul]; exact Le.trans (Le.virt 8 t0 1 (by omega) rfl) (Le.slots (by simp [Am.look]))) (by simp) ?_
  intro i hi
  cases i with
  | some k =>
    simp only at hi
    have g4 : k * L ≤ q * L := Nat.mul_le_mul_right L hi
    have lr : (List.replicate k (L : Int)).length = k := by simp
    by_cases hk : k < q
    · have g5 : (k + 1) * L ≤ q * L := Nat.mul_le_mul_right L (by omega)
      rw [Nat.add_mul, Nat.one_mul] at g5
      simp (maxSteps := 4000000) (disch := omega) only [abv, step, stepv, ev, wl, wn, wp, wz, aop, cV, cV1, AV.one, partCells, okW, onlyFr, app, sliceCells, cellsAt, srcA, subA, eqFs, Int.cast_ofNat_Int, simprocAttr, ks_snoc, rep_snoc, lr]
      refine ⟨some (k + 1), by simp only; omega, by simp only; omega, ?_⟩
      exact Le.drop1 (isTL_ks _ _) (by simp [Am.look, frzK, frzL, frzV, Nat.add_mul]; omega)
    · have : k = q := by omega
      subst this
      simp (maxSteps := 4000000) (disch := omega) only [abv, step, stepv, ev, wl, wn, wp, wz, aop, cV, cV1, AV.one, partCells, okW, onlyFr, app, sliceCells, cellsAt, srcA, subA, eqFs, Int.cast_ofNat_Int, simprocAttr, ks_snoc, lr, ← lf]
      refine ⟨none, trivial, by simp only; omega, ?_⟩
      exact Le.drop1 (isTL_ks _ _) (by simp [Am.look, frzK, frzL, frzV])
  | none =>
    by_cases h9 : 1000 < (lensL L m).length
    · rw [if_pos h9] at e2
      simp (maxSteps := 4000000) (disch := omega) only [abv, step, stepv, ev, wl, wn, wp, wz, aop, cV, cV1, AV.one, partCells, okW, onlyFr, app, sliceCells, cellsAt, srcA, subA, eqFs, Int.cast_ofNat_Int, simprocAttr, e2]
      simp [frzN, frzK, frzL, frzV, isDL, isD]
    · rw [if_neg h9] at e2
      simp (maxSteps := 4000000) (disch := omega) only [abv, step, stepv, ev, wl, wn, wp, wz, aop, cV, cV1, AV.one, partCells, okW, onlyFr, app, sliceCells, cellsAt, srcA, subA, eqFs, Int.cast_ofNat_Int, simprocAttr, e2]
      simp [frzN, frzK, frzL, frzV, isDL, isD, i64L, ll, frzL_T _ (isTL_ks .i64 _)]
end Go.Am

namespace Go.Am
open Go.RowKit

theorem all_cnt (r n : Int) : (∃ k : Int, allA r n = .tup [.list 0 [], .int .i64 k] ∧ cntA r n = .tup [.int .i64 0, .int .i64 k]) ∨
    (∃ l : List Int, allA r n = .tup [i64L l, .int .i64 0] ∧ cntA r n = .tup [.int .i64 l.length, .int .i64 0]) := by
  by_cases h1 : r < 1 ∨ 1048576 < r
  · exact .inl ⟨2, by rw [allA, if_pos (by omega)], by rw [cntA, if_pos h1]⟩
  by_cases h2 : n < 1 ∨ 4000 < n
  · exact .inl ⟨2, by rw [allA, if_pos (by omega)], by rw [cntA, if_neg h1, if_pos h2]⟩
  have p1 := longN_pos r
  have e : (n + longN r - 1) / longN r = (lensL (longN r).toNat n.toNat).length := by
    generalize longN r = Li at *
    obtain ⟨L, rfl⟩ : ∃ L : Nat, Li = L := ⟨Li.toNat, by omega⟩
    obtain ⟨m, rfl⟩ : ∃ m : Nat, n = m := ⟨n.toNat, by omega⟩
    rw [Int.toNat_natCast, Int.toNat_natCast, lensL_len]
    have : (m : Int) + L - 1 = ((m - 1 + L : Nat) : Int) := by omega
    rw [this, ← Int.natCast_ediv, Nat.add_div_right _ (by omega)]
  by_cases h3 : 1000 < (lensL (longN r).toNat n.toNat).length
  · exact .inl ⟨4, by rw [allA, if_neg (by omega), if_pos h3], by rw [cntA, if_neg h1, if_neg h2, e, if_pos (by omega)]⟩
  · exact .inr ⟨_, by rw [allA, if_neg (by omega), if_neg h3], by rw [cntA, if_neg h1, if_neg h2, e, if_neg (by omega)]⟩

theorem ref22_Count {P : Prg} {f fA : Nat} (b : Body P f 17 [.tmp 4, .tmp 5] (ac_cadenzaref22_Count fA)) (hA : S_All22 P fA) : S_Count22 P f := by
  intro r n
  refine VC.of_acall rfl (isD_cnt _ _) (ACall.of_body b (by simp) ?_)
  have hA' := hA r n
  rcases all_cnt r n with ⟨k, e1, e2⟩ | ⟨l, e1, e2⟩
  · rw [e1] at hA'
    simp (maxSteps := 4000000) (disch := omega) only [abv, step, stepv, ev, wl, wn, wp, wz, aop, cV, cV1, AV.one, partCells, okW, onlyFr, app, sliceCells, cellsAt, srcA, subA, eqFs, Int.cast_ofNat_Int, simprocAttr, ac_cadenzaref22_Count]
    refine callQ.vc hA' ?_
    simp (maxSteps := 4000000) (disch := omega) only [abv, step, stepv, ev, wl, wn, wp, wz, aop, cV, cV1, AV.one, partCells, okW, onlyFr, app, sliceCells, cellsAt, srcA, subA, eqFs, Int.cast_ofNat_Int, simprocAttr, e2, List.length_nil]
    try simp
  · rw [e1] at hA'
    simp (maxSteps := 4000000) (disch := omega) only [abv, step, stepv, ev, wl, wn, wp, wz, aop, cV, cV1, AV.one, partCells, okW, onlyFr, app, sliceCells, cellsAt, srcA, subA, eqFs, Int.cast_ofNat_Int, simprocAttr, ac_cadenzaref22_Count]
    refine callQ.vc hA' ?_
    simp (maxSteps := 4000000) (disch := omega) only [abv, step, stepv, ev, wl, wn, wp, wz, aop, cV, cV1, AV.one, partCells, okW, onlyFr, app, sliceCells, cellsAt, srcA, subA, eqFs, Int.cast_ofNat_Int, simprocAttr, i64L, e2]
end Go.Am

namespace Go.Am
open Go.RowKit

theorem head_eq (c x r n : Int) : headN c x r n = if ask21 c x n = 0 ∧ cntE r n = 0 then 0 else 8 := by
  unfold headN ask21
  by_cases h1 : eCheck c x = 0 <;> by_cases h2 : n < 1 <;> by_cases h3 : 4000 / c < n <;> by_cases h4 : cntE r n = 0 <;> simp [h1, h2, h3, h4]
theorem clip_ask {c x r : Int} {l : List Int} : clipN c x r l = if askN c x l = 0 ∧ headN c x r (l.length / c) = 0 then 0 else 8 := by
  unfold clipN askN
  by_cases h0 : headN c x r (l.length / c) = 0
  · have h0' := h0
    rw [head_eq] at h0'
    have ha : ask21 c x (l.length / c) = 0 := by
      by_cases h : ask21 c x (l.length / c) = 0 ∧ cntE r (l.length / c) = 0
      · exact h.1
      · rw [if_neg h] at h0'; cases h0'
    have hE : eCheck c x = 0 := by
      by_cases h : eCheck c x = 0
      · exact h
      · simp [ask21, h] at ha
    have hn : ¬ (l.length : Int) / c < 1 := by
      intro h
      simp [ask21, h] at ha
    have hc : ¬ c < 1 := by
      rcases eCheck_cases c x with h | h <;> omega
    have hl : l.length ≠ 0 := by
      intro h
      rw [h] at hn
      simp at hn
    by_cases h2 : (l.length : Int) % c = 0 <;> by_cases h3 : checkN x l = 0 <;> simp [hE, hc, hl, h0, h2, h3]
  · simp [h0]

def S_RHead24 (P : Prg) (f : Nat) : Prop := ∀ (c x r n : Int) (l : List Int), VC P f [.agg [.int .i64 c, .int .i64 x, .int .i64 r, il l], .int .i64 n] (.bool (decide (headN c x r n = 0)))
theorem ref24_Head {P : Prg} {f fS fA fC t0 : Nat} (b : Body P f 21 [.tmp 4] (ac_cadenzaref24_Head fS fA fC t0)) (hS : S_Shape24 P fS) (hA : S_Ask21 P fA) (hC : S_Count22 P fC) : S_RHead24 P f := by
  intro c x r n l
  refine VC.of_acall (by simp [isDL, isD, isD_il]) rfl (ACall.of_body b (by simp) ?_)
  have hS' := hS c x r l
  have hA' := hA c x n
  rw [shA] at hS' hA'
  rw [il] at hS'
  obtain ⟨k, ek⟩ := cnt_form r n
  have hC' := hC r n
  rw [ek] at hC'
  simp (maxSteps := 4000000) (disch := omega) only [abv, step, stepv, ev, wl, wn, wp, wz, aop, cV, cV1, AV.one, partCells, okW, onlyFr, app, sliceCells, cellsAt, srcA, subA, eqFs, Int.cast_ofNat_Int, simprocAttr, ac_cadenzaref24_Head, il]
  refine callQ.vc hS' ?_
  simp (maxSteps := 4000000) (disch := omega) only [abv, step, stepv, ev, wl, wn, wp, wz, aop, cV, cV1, AV.one, partCells, okW, onlyFr, app, sliceCells, cellsAt, srcA, subA, eqFs, Int.cast_ofNat_Int, simprocAttr]
  refine callQ.vc hA' ?_
  by_cases h1 : ask21 c x n = 0
  · simp (maxSteps := 4000000) (disch := omega) only [abv, step, stepv, ev, wl, wn, wp, wz, aop, cV, cV1, AV.one, partCells, okW, onlyFr, app, sliceCells, cellsAt, srcA, subA, eqFs, Int.cast_ofNat_Int, simprocAttr, h1]
    refine callQ.vc hC' ?_
    by_cases h7 : cntE r n = 0
    · have e9 : headN c x r n = 0 := by rw [head_eq, if_pos ⟨h1, h7⟩]
      simp (maxSteps := 4000000) (disch := omega) only [abv, step, stepv, ev, wl, wn, wp, wz, aop, cV, cV1, AV.one, partCells, okW, onlyFr, app, sliceCells, cellsAt, srcA, subA, eqFs, Int.cast_ofNat_Int, simprocAttr, h7, e9]
      try simp
    · have e9 : headN c x r n = 8 := by rw [head_eq, if_neg (by simp [h7])]
      simp (maxSteps := 4000000) (disch := omega) only [abv, step, stepv, ev, wl, wn, wp, wz, aop, cV, cV1, AV.one, partCells, okW, onlyFr, app, sliceCells, cellsAt, srcA, subA, eqFs, Int.cast_ofNat_Int, simprocAttr, e9]
      try simp [h7]
  · have e9 : headN c x r n = 8 := by rw [head_eq, if_neg (by simp [h1])]
    simp (maxSteps := 4000000) (disch := omega) only [abv, step, stepv, ev, wl, wn, wp, wz, aop, cV, cV1, AV.one, partCells, okW, onlyFr, app, sliceCells, cellsAt, srcA, subA, eqFs, Int.cast_ofNat_Int, simprocAttr, h1, e9]
    try simp

theorem ref24_Check {P : Prg} {f fS fA fH t0 : Nat} (b : Body P f 20 [.tmp 2] (ac_cadenzaref24_Check fS fA fH t0)) (hS : S_Shape24 P fS) (hA : S_EAsk P fA) (hH : S_RHead24 P fH) : S_ClipCheck P f := by
  intro c x r l hI hl
  refine VC.of_acall (by simp [isDL, isD, isD_il]) rfl (ACall.of_body b (by simp) ?_)
  have hS' := hS c x r l
  have hA' := hA c x l hI
  have hH' := hH c x r (l.length / c) l
  rw [shA] at hS' hA'
  rw [il] at hS' hA' hH'
  simp (maxSteps := 4000000) (disch := omega) only [abv, step, stepv, ev, wl, wn, wp, wz, aop, cV, cV1, AV.one, partCells, okW, onlyFr, app, sliceCells, cellsAt, srcA, subA, eqFs, Int.cast_ofNat_Int, simprocAttr, ac_cadenzaref24_Check, il]
  refine callD.vc hS' ?_
  simp (maxSteps := 4000000) (disch := omega) only [abv, step, stepv, ev, wl, wn, wp, wz, aop, cV, cV1, AV.one, partCells, okW, onlyFr, app, sliceCells, cellsAt, srcA, subA, eqFs, Int.cast_ofNat_Int, simprocAttr]
  refine callD.vc hA' ?_
  by_cases h1 : askN c x l = 0
  · have hc : 1 ≤ c := by
      obtain ⟨k, rfl, hk, _⟩ := ask_okM hI h1
      have := hk.1
      omega
    have hd := div_small (n := l.length) hc
    have q0 : (l.length : Int).tdiv c = l.length / c := Int.tdiv_eq_ediv_of_nonneg (by omega)
    simp (maxSteps := 4000000) (disch := omega) only [abv, step, stepv, ev, wl, wn, wp, wz, aop, cV, cV1, AV.one, partCells, okW, onlyFr, app, sliceCells, cellsAt, srcA, subA, eqFs, Int.cast_ofNat_Int, simprocAttr, h1, q0]
    refine callD.vc hH' ?_
    by_cases h2 : headN c x r (l.length / c) = 0
    · have e9 : clipN c x r l = 0 := by rw [clip_ask, if_pos ⟨h1, h2⟩]
      simp (maxSteps := 4000000) (disch := omega) only [abv, step, stepv, ev, wl, wn, wp, wz, aop, cV, cV1, AV.one, partCells, okW, onlyFr, app, sliceCells, cellsAt, srcA, subA, eqFs, Int.cast_ofNat_Int, simprocAttr, h2, e9, decide_true, Bool.not_true]
    · have e9 : clipN c x r l = 8 := by rw [clip_ask, if_neg (by simp [h2])]
      have e8 : decide (headN c x r (l.length / c) = 0) = false := by simp [h2]
      simp (maxSteps := 4000000) (disch := omega) only [abv, step, stepv, ev, wl, wn, wp, wz, aop, cV, cV1, AV.one, partCells, okW, onlyFr, app, sliceCells, cellsAt, srcA, subA, eqFs, Int.cast_ofNat_Int, simprocAttr, e8, e9, Bool.not_false]
  · have e9 : clipN c x r l = 8 := by rw [clip_ask, if_neg (by simp [h1])]
    simp (maxSteps := 4000000) (disch := omega) only [abv, step, stepv, ev, wl, wn, wp, wz, aop, cV, cV1, AV.one, partCells, okW, onlyFr, app, sliceCells, cellsAt, srcA, subA, eqFs, Int.cast_ofNat_Int, simprocAttr, h1, e9]
end Go.Am

namespace Go.Am
open Go.RowKit

def clA (c x r : Int) (l : List Int) : AV := .agg [.int .i64 c, .int .i64 x, .int .i64 r, il l]
def S_With24 (P : Prg) (f : Nat) : Prop := ∀ (c x r : Int) (l m : List Int), VC P f [clA c x r l, il m] (clA c x r m)
theorem ref24_With {P : Prg} {f t0 : Nat} (b : Body P f 13 [.cell 4 t0] (ac_cadenzaref24_With t0)) (ht : aggO P t0 = some (some 4)) : S_With24 P f := by
  intro c x r l m
  refine VC.of_acall (by simp [isDL, isD, isD_il, clA]) (by simp [isDL, isD, isD_il, clA]) (ACall.of_body b (by simp) ?_)
  simp (maxSteps := 4000000) (disch := omega) only [abv, step, stepv, ev, wl, wn, wp, wz, aop, cV, cV1, AV.one, partCells, okW, onlyFr, app, sliceCells, cellsAt, srcA, subA, eqFs, Int.cast_ofNat_Int, simprocAttr, ac_cadenzaref24_With, clA, il, resA, ht]

def S_CSame (P : Prg) (f : Nat) : Prop := ∀ (c x r : Int) (l : List Int), l.length ≤ 1000000 → VC P f [clA c x r l, clA c x r l] (.bool true)
theorem ref24_Same {P : Prg} {f fS t0 : Nat} (b : Body P f 31 [.tmp 4] (ac_cadenzaref24_Same fS t0)) (hS : S_ISame P fS) : S_CSame P f := by
  intro c x r l hl
  refine VC.of_acall (by simp [isDL, isD, isD_il, clA]) rfl (ACall.of_body b (by simp) ?_)
  have hS' := hS l hl
  rw [il] at hS'
  simp (maxSteps := 4000000) (disch := omega) only [abv, step, stepv, ev, wl, wn, wp, wz, aop, cV, cV1, AV.one, partCells, okW, onlyFr, app, sliceCells, cellsAt, srcA, subA, eqFs, Int.cast_ofNat_Int, simprocAttr, ac_cadenzaref24_Same, clA, il]
  refine callQ.vc hS' ?_
  simp (maxSteps := 4000000) (disch := omega) only [abv, step, stepv, ev, wl, wn, wp, wz, aop, cV, cV1, AV.one, partCells, okW, onlyFr, app, sliceCells, cellsAt, srcA, subA, eqFs, Int.cast_ofNat_Int, simprocAttr]

def S_IEq (P : Prg) (f : Nat) : Prop := ∀ a b : List Int, a.length ≤ 1000000 → b.length ≤ 1000000 → VC P f [il a, il b] (.bool (decide (a = b)))
theorem ref13_Eq {P : Prg} {f : Nat} (bd : Body P f 26 [.tmp 4] ac_cadenzaref13_Same) : S_IEq P f := by
  intro a b ha hb
  refine VC.of_acall (by simp [isDL, isD, isD_il]) rfl (ACall.of_body bd (by simp) ?_)
  by_cases hn : a.length = b.length
  · simp (maxSteps := 4000000) (disch := omega) only [abv, step, stepv, ev, wl, wn, wp, wz, aop, cV, cV1, AV.one, partCells, okW, onlyFr, app, sliceCells, cellsAt, srcA, subA, eqFs, Int.cast_ofNat_Int, simprocAttr, ac_cadenzaref13_Same, il, hn]
    refine ALoop.by (ι := Nat) (fun k => ⟨[(5, .int .i64 k), (1, .list b.length (ks .i32 b)), (0, .list b.length (ks .i32 a))], []⟩) (fun k => k ≤ b.length ∧ ∀ j, j < k → a.getD j 0 = b.getD j 0) (fun k => b.length - k) 0 (Le.slots (by simp [Am.look, il])) ⟨by omega, by simp⟩ ?_
    intro k ⟨hk, hg⟩
    by_cases hlt : k < b.length
    · have e1 := ks_at (K := .i32) (l := a) (i := k) (by omega)
      have e2 := ks_at (K := .i32) (l := b) (i := k) hlt
      have la : (ks .i32 a).length = b.length := by rw [ks_length, hn]
      by_cases he : a.getD k 0 = b.getD k 0
      · simp (maxSteps := 4000000) (disch := omega) only [abv, step, stepv, ev, wl, wn, wp, wz, aop, cV, cV1, AV.one, partCells, okW, onlyFr, app, sliceCells, cellsAt, srcA, subA, eqFs, Int.cast_ofNat_Int, simprocAttr, e1, e2, he, la]
        exact ⟨k + 1, ⟨by omega, fun j hj => by
          by_cases e : j = k
          · rw [e]; exact he
          · exact hg j (by omega)⟩, by omega, Le.slots (by simp [Am.look, il])⟩
      · have e9 : decide (a = b) = false := by simp; intro h; rw [h] at he; exact he rfl
        simp (maxSteps := 4000000) (disch := omega) only [abv, step, stepv, ev, wl, wn, wp, wz, aop, cV, cV1, AV.one, partCells, okW, onlyFr, app, sliceCells, cellsAt, srcA, subA, eqFs, Int.cast_ofNat_Int, simprocAttr, e1, e2, e9, la, he]
    · have e9 : decide (a = b) = true := by simp; exact getD_ext hn fun j hj => hg j (by omega)
      simp (maxSteps := 4000000) (disch := omega) only [abv, step, stepv, ev, wl, wn, wp, wz, aop, cV, cV1, AV.one, partCells, okW, onlyFr, app, sliceCells, cellsAt, srcA, subA, eqFs, Int.cast_ofNat_Int, simprocAttr, e9]
  · have e9 : decide (a = b) = false := by simp; intro h; rw [h] at hn; exact hn rfl
    simp (maxSteps := 4000000) (disch := omega) only [abv, step, stepv, ev, wl, wn, wp, wz, aop, cV, cV1, AV.one, partCells, okW, onlyFr, app, sliceCells, cellsAt, srcA, subA, eqFs, Int.cast_ofNat_Int, simprocAttr, ac_cadenzaref13_Same, il, e9]
end Go.Am

namespace Go.Am
open Go.RowKit

def iss (L : List (List Int)) : AV := .list L.length (L.map il)
theorem isDL_ils : ∀ L : List (List Int), isDL (L.map il) = true
  | [] => rfl
  | l :: L => by simp [isDL, isD_il, isDL_ils L]
theorem isD_iss (L : List (List Int)) : isD (iss L) = true := by simp [iss, isD, isDL_ils]
theorem ils_at {L : List (List Int)} {k : Nat} (h : k < L.length) : (L.map il).drop k = il (L.getD k []) :: (L.map il).drop (k + 1) := by
  rw [List.drop_eq_getElem_cons (by simpa using h)]
  simp [List.getD_eq_getElem?_getD, List.getElem?_eq_getElem h]
theorem parts_ext {a b : List (List Int)} (h : a.length = b.length) (h2 : ∀ j, j < a.length → a.getD j [] = b.getD j []) : a = b := by
  apply List.ext_getElem h
  intro i h1 h3
  have := h2 i h1
  simpa [List.getD_eq_getElem?_getD, List.getElem?_eq_getElem h1, List.getElem?_eq_getElem h3] using this
def okPts (L : List (List Int)) : Prop := L.length ≤ 1000000 ∧ ∀ j, (L.getD j []).length ≤ 1000000
def S_PEq (P : Prg) (f : Nat) : Prop := ∀ a b : List (List Int), okPts a → okPts b → VC P f [iss a, iss b] (.bool (decide (a = b)))
theorem ref24_SameParts {P : Prg} {f fS : Nat} (bd : Body P f 27 [.tmp 4] (ac_cadenzaref24_SameParts fS)) (hS : S_IEq P fS) : S_PEq P f := by
  intro a b ⟨ha, ha2⟩ ⟨hb, hb2⟩
  refine VC.of_acall (by simp [isDL, isD, isD_iss]) rfl (ACall.of_body bd (by simp) ?_)
  have la' : (a.map il).length = a.length := by simp
  have lb' : (b.map il).length = b.length := by simp
  by_cases hn : a.length = b.length
  · simp (maxSteps := 4000000) (disch := omega) only [abv, step, stepv, ev, wl, wn, wp, wz, aop, cV, cV1, AV.one, partCells, okW, onlyFr, app, sliceCells, cellsAt, srcA, subA, eqFs, Int.cast_ofNat_Int, simprocAttr, ac_cadenzaref24_SameParts, iss, hn]
    refine ALoop.by (ι := Nat) (fun k => ⟨[(5, .int .i64 k), (1, .list b.length (b.map il)), (0, .list b.length (a.map il))], []⟩) (fun k => k ≤ b.length ∧ ∀ j, j < k → a.getD j [] = b.getD j []) (fun k => b.length - k) 0 (Le.slots (by simp [Am.look, iss])) ⟨by omega, by simp⟩ ?_
    intro k ⟨hk, hg⟩
    by_cases hlt : k < b.length
    · have e1 := ils_at (L := a) (k := k) (by omega)
      have e2 := ils_at (L := b) (k := k) hlt
      have hS' := hS (a.getD k []) (b.getD k []) (ha2 k) (hb2 k)
      simp (maxSteps := 4000000) (disch := omega) only [abv, step, stepv, ev, wl, wn, wp, wz, aop, cV, cV1, AV.one, partCells, okW, onlyFr, app, sliceCells, cellsAt, srcA, subA, eqFs, Int.cast_ofNat_Int, simprocAttr, e1, e2]
      refine callD.vc hS' ?_
      by_cases he : a.getD k [] = b.getD k []
      · have e8 : decide (a.getD k [] = b.getD k []) = true := by simp only [he, decide_true]
        simp (maxSteps := 4000000) (disch := omega) only [abv, step, stepv, ev, wl, wn, wp, wz, aop, cV, cV1, AV.one, partCells, okW, onlyFr, app, sliceCells, cellsAt, srcA, subA, eqFs, Int.cast_ofNat_Int, simprocAttr, e8, Bool.not_true]
        exact ⟨k + 1, ⟨by omega, fun j hj => by
          by_cases e : j = k
          · rw [e]; exact he
          · exact hg j (by omega)⟩, by omega, Le.slots (by simp [Am.look])⟩
      · have e8 : decide (a.getD k [] = b.getD k []) = false := decide_eq_false he
        have e9 : decide (a = b) = false := decide_eq_false (fun h => he (by rw [h]))
        simp (maxSteps := 4000000) (disch := omega) only [abv, step, stepv, ev, wl, wn, wp, wz, aop, cV, cV1, AV.one, partCells, okW, onlyFr, app, sliceCells, cellsAt, srcA, subA, eqFs, Int.cast_ofNat_Int, simprocAttr, e8, e9, Bool.not_false]
    · have e9 : decide (a = b) = true := decide_eq_true (parts_ext hn fun j hj => hg j (by omega))
      simp (maxSteps := 4000000) (disch := omega) only [abv, step, stepv, ev, wl, wn, wp, wz, aop, cV, cV1, AV.one, partCells, okW, onlyFr, app, sliceCells, cellsAt, srcA, subA, eqFs, Int.cast_ofNat_Int, simprocAttr, e9]
  · have e9 : decide (a = b) = false := decide_eq_false (fun h => hn (by rw [h]))
    simp (maxSteps := 4000000) (disch := omega) only [abv, step, stepv, ev, wl, wn, wp, wz, aop, cV, cV1, AV.one, partCells, okW, onlyFr, app, sliceCells, cellsAt, srcA, subA, eqFs, Int.cast_ofNat_Int, simprocAttr, ac_cadenzaref24_SameParts, iss, e9]
end Go.Am

namespace Go.Am
open Go.RowKit

def sumK (L : List (List Int)) : Nat → Nat
  | 0 => 0
  | k + 1 => sumK L k + (L.getD k []).length
def bigPts (L : List (List Int)) : Prop := L.length ≤ 9223372036854775807 ∧ ∀ j, (L.getD j []).length ≤ 140737488355328
theorem sumK_le {L : List (List Int)} (h : bigPts L) : ∀ k, sumK L k ≤ k * 140737488355328
  | 0 => by simp [sumK]
  | k + 1 => by have := sumK_le h k; have := h.2 k; simp only [sumK]; omega
def greatP (L : List (List Int)) : Prop := 400 < L.length ∨ 600 < sumK L (min L.length 401)
def S_GreatP (P : Prg) (f : Nat) : Prop := ∀ L : List (List Int), bigPts L → (greatP L → VC P f [iss L] (.bool true)) ∧ (¬ greatP L → VC P f [iss L] (.bool false))
theorem ref24_GreatParts {P : Prg} {f : Nat} (bd : Body P f 29 [.tmp 2] ac_cadenzaref24_GreatParts) : S_GreatP P f := by
  intro L hL
  have key : ∀ r : Bool, (greatP L ↔ r = true) → VC P f [iss L] (.bool r) := by
    intro r hr
    refine VC.of_acall (by simp [isDL, isD, isD_iss]) rfl (ACall.of_body bd (by simp) ?_)
    have h0 := hL.1
    simp (maxSteps := 4000000) (disch := omega) only [abv, step, stepv, ev, wl, wn, wp, wz, aop, cV, cV1, AV.one, partCells, okW, onlyFr, app, sliceCells, cellsAt, srcA, subA, eqFs, Int.cast_ofNat_Int, simprocAttr, ac_cadenzaref24_GreatParts, iss]
    refine ALoop.by (ι := Nat) (fun k => ⟨[(4, .int .i64 k), (3, .int .i64 (sumK L k)), (0, .list L.length (L.map il))], []⟩) (fun k => k ≤ L.length ∧ k ≤ 401) (fun k => L.length - k) 0 (Le.slots (by simp [Am.look, sumK])) ⟨by omega, by omega⟩ ?_
    intro k ⟨hk, hk2⟩
    have hs := sumK_le hL k
    have hs2 := hL.2 k
    by_cases hlt : k < L.length
    · by_cases h4 : k ≤ 400
      · have e1 := ils_at hlt
        have e2 : (sumK L k : Int) + (L.getD k []).length = (sumK L (k + 1) : Nat) := by simp [sumK]
        rw [il] at e1
        simp (maxSteps := 4000000) (disch := omega) only [abv, step, stepv, ev, wl, wn, wp, wz, aop, cV, cV1, AV.one, partCells, okW, onlyFr, app, sliceCells, cellsAt, srcA, subA, eqFs, Int.cast_ofNat_Int, simprocAttr, e1]
        exact ⟨k + 1, ⟨by omega, by omega⟩, by omega, Le.slots (by simp [Am.look, sumK])⟩
      · have hg : r = true := hr.1 (.inl (by omega))
        subst hg
        simp (maxSteps := 4000000) (disch := omega) only [abv, step, stepv, ev, wl, wn, wp, wz, aop, cV, cV1, AV.one, partCells, okW, onlyFr, app, sliceCells, cellsAt, srcA, subA, eqFs, Int.cast_ofNat_Int, simprocAttr]
    · have ek : k = L.length := by omega
      subst ek
      by_cases h5 : 400 < L.length
      · have hg : r = true := hr.1 (.inl h5)
        subst hg
        simp (maxSteps := 4000000) (disch := omega) only [abv, step, stepv, ev, wl, wn, wp, wz, aop, cV, cV1, AV.one, partCells, okW, onlyFr, app, sliceCells, cellsAt, srcA, subA, eqFs, Int.cast_ofNat_Int, simprocAttr]
      · have em : min L.length 401 = L.length := by omega
        by_cases h6 : 600 < sumK L L.length
        · have hg : r = true := hr.1 (.inr (by rw [em]; exact h6))
          subst hg
          simp (maxSteps := 4000000) (disch := omega) only [abv, step, stepv, ev, wl, wn, wp, wz, aop, cV, cV1, AV.one, partCells, okW, onlyFr, app, sliceCells, cellsAt, srcA, subA, eqFs, Int.cast_ofNat_Int, simprocAttr]
        · have hg : r = false := by
            cases r with
            | false => rfl
            | true =>
              rcases hr.2 rfl with h | h
              · omega
              · rw [em] at h; omega
          subst hg
          simp (maxSteps := 4000000) (disch := omega) only [abv, step, stepv, ev, wl, wn, wp, wz, aop, cV, cV1, AV.one, partCells, okW, onlyFr, app, sliceCells, cellsAt, srcA, subA, eqFs, Int.cast_ofNat_Int, simprocAttr]
  exact ⟨fun h => key true (by simp [h]), fun h => key false (by simp [h])⟩
end Go.Am

namespace Go.Am
open Go.RowKit

/-! ### le.Bytes -/

def leB (n : Nat) : Nat → List UInt8
  | 0 => []
  | k + 1 => UInt8.ofNat (n % 256) :: leB (n / 256) k

end Go.Am

namespace Go.Am
open Go.RowKit

/-! ### The chunk that tells the form: without a program -/

def sndOk (c b r : Int) : Prop := 1 ≤ c ∧ c ≤ 6 ∧ half b ≠ 0 ∧ 1 ≤ r ∧ r ≤ 1048576
instance (c b r : Int) : Decidable (sndOk c b r) := by unfold sndOk; exact inferInstance
/-! ### Check, Wide -/

end Go.Am

namespace Go.Am
open Go.RowKit

/-! ### Numbers: bit by bit -/

theorem shrK {K : IntKind} {n k : Nat} (hk : k ≤ K.bits) : shiftA false K (n : Int) (k : Int) = some (.int K ((n / 2 ^ k : Nat) : Int)) := by
  have h3 : ¬ ((k : Int) < 0) := by omega
  have h5 : min k K.bits = k := by omega
  have h6 : (n : Int).fdiv (2 ^ k) = ((n / 2 ^ k : Nat) : Int) := by
    rw [Int.fdiv_eq_ediv_of_nonneg _ (Int.pow_nonneg (by decide))]
    simp [Int.natCast_ediv, Int.natCast_pow]
  simp only [shiftA, if_neg h3, Bool.false_eq_true, if_false, Int.toNat_natCast, h5, h6]

end Go.Am

namespace Go.Am
open Go.RowKit

/-! ### Bits as a number: N bits, whose number is V; their bytes are leB V (nB N) -/

def nB (N : Nat) : Nat := (N + 7) / 8

end Go.Am

namespace Go.Am
open Go.RowKit

/-! ### Bits are put behind bits -/

def bO (t o N : Nat) : Ob := ⟨t, 2, 1, [.own o (nB N), .int .i64 N], 0⟩
def bY (t N V : Nat) : Ob := ⟨t, 1, nB N, u8 (leB V (nB N)), 0⟩

theorem isDL_leB (V n : Nat) : isDL (u8 (leB V n)) = true := isDL_u8 _
theorem Low.put {ob : List Ob} (h : Low ob.length ob) {t t0 o p N V N' : Nat} (ho : o < ob.length) : Low ob.length (upd2 ob o p (bY t0 N V) (bO t o N')) := by
  unfold upd2
  refine (h.set ?_).set ?_
  · exact lowL_D _ (isDL_leB _ _)
  · simp [bO, lowL, lowV, ho]
theorem Low.drop {ob : List Ob} (h : Low ob.length ob) {t t0 o p N V : Nat} (ho : o < ob.length) {M : Nat} (hM : M ≤ ob.length) {J : List Ob} {fr fr' : List (Nat × AV)}
    (hfr : ∀ q ∈ fr', q.2 = .any ∨ (q.2 = Am.look fr q.1 ∧ lowV ob.length q.2 = true)) :
    Le M ⟨fr, upd2 ob o p (bY t0 N V) (bO t o N) ++ J⟩ ⟨fr', upd2 ob o p (bY t0 N V) (bO t o N)⟩ := by
  have hl : (upd2 ob o p (bY t0 N V) (bO t o N)).length = ob.length := upd2_len
  refine Le.low (by omega) (by rw [hl]; exact h.put ho) ?_
  rw [hl]
  exact hfr

end Go.Am

namespace Go.Am
open Go.RowKit

/-! ### The values of a frame (plain) -/

def N32 (v : List Nat) : Prop := ∀ x ∈ v, x < 4294967296
end Go.Am

namespace Go.Am
open Go.RowKit

/-! ### Codes (plain) -/

theorem N32.take {v : List Nat} (h : N32 v) (i : Nat) : N32 (v.take i) := fun x hx => h x (List.mem_of_mem_take hx)
theorem N32.getD {v : List Nat} (h : N32 v) (i : Nat) : v.getD i 0 < 4294967296 := by
  rw [List.getD_eq_getElem?_getD]
  cases hx : v[i]? with
  | none => simp
  | some x => exact h x (List.mem_of_getElem? hx)
end Go.Am

namespace Go.Am
open Go.RowKit

/-! ### Lists of numbers: slices.Concat, slices.Repeat, lengths.All -/

def nl (l : List Int) : AV := .list l.length (ks .i64 l)
theorem isD_nl (l : List Int) : isD (nl l) = true := by simp [nl, isD, isDL_ks]
def nls (L : List (List Int)) : AV := .list L.length (L.map nl)
theorem isDL_nls : ∀ L : List (List Int), isDL (L.map nl) = true
  | [] => rfl
  | l :: L => by simp [isDL, isD_nl, isDL_nls L]
def S_ConcatI (t : Nat) (P : Prg) (f : Nat) : Prop := ∀ L : List (List Int), L.length ≤ 1000000 → 0 < L.flatten.length → L.flatten.length ≤ 1000000 → VO P f [nls L] (.own 0 L.flatten.length) ⟨t, 1, L.flatten.length, ks .i64 L.flatten, 0⟩
theorem grow_nilI {P : Prg} {f t : Nat} {ρ : Go.Shelf.Ren} (L : Go.Proofs.Lays8.n4 P.prog ρ) (hf : ρ.f 4 = f) (ht : ρ.t 25 = t) (h25 : (P.prog.info? t).map (fun i => (i.zero, i.size, i.bytes)) = some (some (.int .i64 0), 1, 8)) : ∀ (ob : List Ob) (n : Nat) (z : Bool) (K : AV → List Ob → Prop), 0 < n → n ≤ 1000000 → K (.own ob.length 0) (ob ++ [⟨t, 1, 0, [], 0⟩]) → ACall P f [.emp z, .int .i64 n] ob K := by
  intro ob n z K h1 h2 hK
  subst hf; subst ht
  exact ACall.grow_nilI (by omega) L h25 h1 (by omega) hK
def S_GrowNilI (t : Nat) (P : Prg) (f : Nat) : Prop := ∀ (ob : List Ob) (n : Nat) (z : Bool) (K : AV → List Ob → Prop), 0 < n → n ≤ 1000000 → K (.own ob.length 0) (ob ++ [⟨t, 1, 0, [], 0⟩]) → ACall P f [.emp z, .int .i64 n] ob K
theorem flatI_take {L : List (List Int)} {k : Nat} (h : k < L.length) : (L.take (k + 1)).flatten = (L.take k).flatten ++ L.getD k [] := by
  rw [List.take_succ_eq_append_getElem h, List.flatten_append, List.getD_eq_getElem?_getD, List.getElem?_eq_getElem h]
  simp
theorem flatI_le (L : List (List Int)) (k : Nat) : (L.take k).flatten.length ≤ L.flatten.length := by
  conv => rhs; rw [← List.take_append_drop k L, List.flatten_append, List.length_append]
  omega
theorem slices_ConcatI {P : Prg} {f fG t0 : Nat} (bd : Body P f 36 [.tmp 2] (ac_slices_Concat_int_int fG t0)) (hG : S_GrowNilI t0 P fG) : S_ConcatI t0 P f := by
  intro L hL h0 h1
  refine VO.of_walk (by simp [isDL, isD, nls, isDL_nls]) (isDL_ks _ _) (by simp [okr]) (ACall.of_body bd (by simp) ?_)
  have hat : ∀ k, k < L.length → (L.map nl).drop k = nl (L.getD k []) :: (L.map nl).drop (k + 1) := fun k hk => by
    rw [List.drop_eq_getElem_cons (by simpa using hk)]
    simp [List.getD_eq_getElem?_getD, List.getElem?_eq_getElem hk]
  have hml : (L.map nl).length = L.length := by simp
  simp only [nl] at hat
  simp (maxSteps := 4000000) (disch := omega) only [abv, step, stepv, ev, wl, wn, wp, wz, aop, cV, cV1, AV.one, partCells, okW, onlyFr, app, sliceCells, cellsAt, srcA, subA, eqFs, Int.cast_ofNat_Int, simprocAttr, ac_slices_Concat_int_int, nls]
  refine ALoop.by (ι := Nat) (fun k => ⟨[(11, .int .i64 k), (10, .int .i64 L.length), (9, .list L.length (L.map nl)), (3, .int .i64 (L.take k).flatten.length), (0, .list L.length (L.map nl))], []⟩) (fun k => k ≤ L.length) (fun k => L.length - k) 0 (Le.slots (by simp [Am.look])) (by omega) ?_
  intro k hk
  by_cases hlt : k < L.length
  · have ha := hat k hlt
    have hf := flatI_take hlt
    have hle := flatI_le L (k + 1)
    rw [hf, List.length_append] at hle
    have hl : ((L.take (k + 1)).flatten.length : Int) = (L.take k).flatten.length + (L.getD k []).length := by rw [hf]; simp
    generalize (L.take k).flatten.length = s at *
    generalize L.getD k [] = x at *
    simp (maxSteps := 4000000) (disch := omega) only [abv, step, stepv, ev, wl, wn, wp, wz, aop, cV, cV1, AV.one, partCells, okW, onlyFr, app, sliceCells, cellsAt, srcA, subA, eqFs, Int.cast_ofNat_Int, simprocAttr, ha, hml]
    exact ⟨k + 1, by omega, by omega, by simp only [hl]; exact Le.slots (by simp [Am.look])⟩
  obtain rfl : k = L.length := by omega
  rw [List.take_length]
  have hG' := fun K hK => hG [] L.flatten.length true K h0 h1 hK
  simp (maxSteps := 4000000) (disch := omega) only [abv, step, stepv, ev, wl, wn, wp, wz, aop, cV, cV1, AV.one, partCells, okW, onlyFr, app, sliceCells, cellsAt, srcA, subA, eqFs, Int.cast_ofNat_Int, simprocAttr]
  refine hG' _ ?_
  simp (maxSteps := 4000000) (disch := omega) only [abv, step, stepv, ev, wl, wn, wp, wz, aop, cV, cV1, AV.one, partCells, okW, onlyFr, app, sliceCells, cellsAt, srcA, subA, eqFs, Int.cast_ofNat_Int, simprocAttr]
  refine ALoop.by (ι := Nat) (fun k => ⟨[(27, .int .i64 k), (26, .int .i64 L.length), (25, .list L.length (L.map nl)), (6, .own 0 (L.take k).flatten.length)], [⟨t0, 1, (L.take k).flatten.length, ks .i64 (L.take k).flatten, 0⟩]⟩) (fun k => k ≤ L.length) (fun k => L.length - k) 0 (Le.slots (by simp [Am.look, ks])) (by omega) ?_
  intro k hk
  by_cases hlt : k < L.length
  · have ha := hat k hlt
    have hf := flatI_take hlt
    have hle := flatI_le L (k + 1)
    rw [hf, List.length_append] at hle
    have hl : (L.take (k + 1)).flatten.length = (L.take k).flatten.length + (L.getD k []).length := by rw [hf]; simp
    have hu : ks .i64 (L.take (k + 1)).flatten = ks .i64 (L.take k).flatten ++ ks .i64 (L.getD k []) := by rw [hf]; simp [ks]
    have hc : (ks .i64 (L.take k).flatten).length = (L.take k).flatten.length := ks_length _ _
    have hx : (ks .i64 (L.getD k [])).length = (L.getD k []).length := ks_length _ _
    generalize ks .i64 (L.take k).flatten = cs at *
    generalize (L.take k).flatten.length = s at *
    generalize ks .i64 (L.getD k []) = us at *
    generalize (L.getD k []).length = xl at *
    simp (maxSteps := 4000000) (disch := omega) only [abv, step, stepv, ev, wl, wn, wp, wz, aop, cV, cV1, AV.one, partCells, okW, onlyFr, app, sliceCells, cellsAt, srcA, subA, eqFs, Int.cast_ofNat_Int, simprocAttr, ha, hml, hc, hx]
    exact ⟨k + 1, by omega, by omega, by rw [hl, hu]; exact Le.slots (by simp [Am.look])⟩
  obtain rfl : k = L.length := by omega
  rw [List.take_length]
  simp (maxSteps := 4000000) (disch := omega) only [abv, step, stepv, ev, wl, wn, wp, wz, aop, cV, cV1, AV.one, partCells, okW, onlyFr, app, sliceCells, cellsAt, srcA, subA, eqFs, Int.cast_ofNat_Int, simprocAttr]
  exact ⟨0, rfl, rfl⟩

end Go.Am

namespace Go.Am
open Go.RowKit

def S_Mul (P : Prg) (f : Nat) : Prop := ∀ x y : Nat, x ≤ 65535 → y ≤ 65535 → VC P f [.int .u64 x, .int .u64 y] (.tup [.int .u64 0, .int .u64 ((x * y : Nat) : Int)])
theorem math_Mul64 {P : Prg} {f : Nat} (bd : Body P f 51 [.tmp 4, .tmp 5] ac_math_bits_Mul64) : S_Mul P f := by
  intro x y hx hy
  refine VC.of_acall rfl rfl (ACall.of_body bd (by simp) ?_)
  have hxy : x * y ≤ 65535 * 65535 := Nat.mul_le_mul hx hy
  have hm : (x : Int) * (y : Int) = ((x * y : Nat) : Int) := by simp
  have an : ∀ a : Nat, a ≤ 4294967295 → IntKind.u64.wrap (BitVec.ofInt IntKind.u64.bits (a : Int) &&& BitVec.ofInt IntKind.u64.bits 4294967295).toNat = (a : Int) := by
    intro a ha
    have := and_u64 a 4294967295 (by omega) (by decide)
    rw [show (4294967295 : Nat) = 2 ^ 32 - 1 from rfl, Nat.and_two_pow_sub_one_eq_mod, Nat.mod_eq_of_lt (by omega)] at this
    exact this
  have sh : ∀ a : Nat, a ≤ 4294967295 → shiftA false .u64 (a : Int) 32 = some (.int .u64 0) := by
    intro a ha
    have := shrK (K := .u64) (n := a) (k := 32) (by decide)
    rw [Nat.div_eq_of_lt (by omega)] at this
    exact this
  have a1 := an x (by omega)
  have a2 := an y (by omega)
  have a3 : IntKind.u64.wrap (BitVec.ofInt IntKind.u64.bits 0 &&& BitVec.ofInt IntKind.u64.bits 4294967295).toNat = 0 := by decide
  have s1 := sh x (by omega)
  have s2 := sh y (by omega)
  have s3 := sh (x * y) (by omega)
  have s4 : shiftA false .u64 0 32 = some (.int .u64 0) := sh 0 (by omega)
  generalize x * y = z at *
  simp (maxSteps := 4000000) (disch := omega) only [abv, step, stepv, ev, wl, wn, wp, wz, aop, cV, cV1, AV.one, partCells, okW, onlyFr, app, sliceCells, cellsAt, srcA, subA, eqFs, Int.cast_ofNat_Int, simprocAttr, ac_math_bits_Mul64, a1, a2, a3, s1, s2, s3, s4, hm, Int.zero_mul, Int.mul_zero, Int.add_zero, Int.zero_add]
theorem math_Mul {P : Prg} {f f32 f64 : Nat} (bd : Body P f 30 [.tmp 4, .tmp 5] (ac_math_bits_Mul f32 f64)) (h64 : S_Mul P f64) : S_Mul P f := by
  intro x y hx hy
  refine VC.of_acall rfl rfl (ACall.of_body bd (by simp) ?_)
  have h := h64 x y hx hy
  generalize x * y = z at *
  simp (maxSteps := 4000000) (disch := omega) only [abv, step, stepv, ev, wl, wn, wp, wz, aop, cV, cV1, AV.one, partCells, okW, onlyFr, app, sliceCells, cellsAt, srcA, subA, eqFs, Int.cast_ofNat_Int, simprocAttr, ac_math_bits_Mul]
  refine callQ.vc h ?_
  simp (maxSteps := 4000000) (disch := omega) only [abv, step, stepv, ev, wl, wn, wp, wz, aop, cV, cV1, AV.one, partCells, okW, onlyFr, app, sliceCells, cellsAt, srcA, subA, eqFs, Int.cast_ofNat_Int, simprocAttr]

def rpL (v : Int) (m c : Nat) : List Int := List.replicate m v ++ List.replicate (c - m) 0
theorem rp_len {v : Int} {m c : Nat} (h : m ≤ c) : (rpL v m c).length = c := by simp [rpL]; omega
def S_Repeat1 (t : Nat) (P : Prg) (f : Nat) : Prop := ∀ (v : Int) (c : Nat), c ≤ 1000 → VO P f [nl [v], .int .i64 c] (.own 0 c) ⟨t, 1, c, ks .i64 (List.replicate c v), 0⟩
theorem slices_Repeat1 {P : Prg} {f fM t0 : Nat} (bd : Body P f 48 [.tmp 4] (ac_slices_Repeat_int_int fM t0)) (hM : S_Mul P fM) : S_Repeat1 t0 P f := by
  intro v c hc
  refine VO.of_walk (by simp [isDL, isD_nl, isD]) (isDL_ks _ _) (by simp [okr]) (ACall.of_body bd (by simp) ?_)
  have hM' := hM 1 c (by omega) (by omega)
  rw [Nat.one_mul] at hM'
  have hM2 : VC P fM [.int .u64 1, .int .u64 c] (.tup [.int .u64 0, .int .u64 c]) := hM'
  have e1 : nl [v] = .list 1 [.int .i64 v] := rfl
  have er : repCells [.int .i64 0] c = ks .i64 (List.replicate c 0) := rep_ks .i64 c
  have hl : (ks .i64 (List.replicate c 0)).length = c := by simp [ks_length]
  rw [e1]
  simp (maxSteps := 4000000) (disch := omega) only [abv, step, stepv, ev, wl, wn, wp, wz, aop, cV, cV1, AV.one, partCells, okW, onlyFr, app, sliceCells, cellsAt, srcA, subA, eqFs, Int.cast_ofNat_Int, simprocAttr, ac_slices_Repeat_int_int]
  refine callQ.vc hM2 ?_
  by_cases h0 : c = 0
  · subst h0
    simp (maxSteps := 4000000) (disch := omega) only [abv, step, stepv, ev, wl, wn, wp, wz, aop, cV, cV1, AV.one, partCells, okW, onlyFr, app, sliceCells, cellsAt, srcA, subA, eqFs, Int.cast_ofNat_Int, simprocAttr, er]
    refine ALoop.by (ι := Nat) (fun _ => ⟨[(8, .int .i64 0), (7, .own 0 0)], [⟨t0, 1, 0, [], 0⟩]⟩) (fun _ => True) (fun _ => 0) 0 (Le.slots (by simp [Am.look, ks])) trivial ?_
    intro _ _
    simp (maxSteps := 4000000) (disch := omega) only [abv, step, stepv, ev, wl, wn, wp, wz, aop, cV, cV1, AV.one, partCells, okW, onlyFr, app, sliceCells, cellsAt, srcA, subA, eqFs, Int.cast_ofNat_Int, simprocAttr]
    exact ⟨0, rfl, rfl⟩
  · have hmn : Nat.min 1 c = 1 := Nat.min_eq_left (by omega)
    have hst : (1 : Int) < (c : Int) ∨ c = 1 := by omega
    simp (maxSteps := 4000000) (disch := omega) only [abv, step, stepv, ev, wl, wn, wp, wz, aop, cV, cV1, AV.one, partCells, okW, onlyFr, app, sliceCells, cellsAt, srcA, subA, eqFs, Int.cast_ofNat_Int, simprocAttr, er, hl, hmn]
    refine ALoop.by (ι := Nat) (fun m => ⟨[(8, .int .i64 m), (7, .own 0 c)], [⟨t0, 1, c, ks .i64 (rpL v m c), 0⟩]⟩) (fun m => 1 ≤ m ∧ m ≤ c) (fun m => c - m) 1 ?_ (by omega) ?_
    · have : [AV.int .i64 v] ++ (ks .i64 (List.replicate c 0)).drop 1 = ks .i64 (rpL v 1 c) := by simp [rpL, ks]
      rw [← this]
      exact Le.slots (by simp [Am.look])
    intro m hm
    obtain ⟨hm1, hm2⟩ := hm
    have hkl : (ks .i64 (rpL v m c)).length = c := by rw [ks_length, rp_len hm2]
    by_cases hlt : m < c
    · obtain ⟨q, hq⟩ : ∃ q, q = Nat.min m (c - m) := ⟨_, rfl⟩
      have hq1 : q ≤ m := by rw [hq]; exact Nat.min_le_left _ _
      have hq2 : q ≤ c - m := by rw [hq]; exact Nat.min_le_right _ _
      have hq3 : 1 ≤ q := by rw [hq]; exact Nat.le_min.2 ⟨hm1, by omega⟩
      have hmc : min m c = m := Nat.min_eq_left hm2
      have hal : ((ks .i64 (rpL v m c)).take m).all AV.one = true := by
        rw [List.all_eq_true]
        intro x hx
        exact List.all_eq_true.1 (ks_one .i64 (rpL v m c)) x (List.mem_of_mem_take hx)
      have e1 : (rpL v m c).take m = List.replicate m v := by unfold rpL; rw [List.take_left' (by simp)]
      have e2 : (rpL v m c).drop (m + q) = List.replicate (c - (m + q)) 0 := by
        unfold rpL
        rw [List.drop_append, List.drop_of_length_le (by simp), List.nil_append, List.drop_replicate, List.length_replicate]
        congr 1
        omega
      have hcs : (ks .i64 (rpL v m c)).take m ++ (((ks .i64 (rpL v m c)).take m).take q ++ (ks .i64 (rpL v m c)).drop (m + q)) = ks .i64 (rpL v (m + q) c) := by
        have k1 : ∀ l n, (ks .i64 l).take n = ks .i64 (l.take n) := fun l n => by simp [ks, List.map_take]
        have k2 : ∀ l n, (ks .i64 l).drop n = ks .i64 (l.drop n) := fun l n => by simp [ks, List.map_drop]
        have k3 : ∀ a b, ks .i64 a ++ ks .i64 b = ks .i64 (a ++ b) := fun a b => by simp [ks]
        rw [k1, e1, k1, k2, e2, List.take_replicate, Nat.min_eq_left hq1, k3, k3, ← List.append_assoc, List.replicate_append_replicate]
        rfl
      have hcs2 : (ks .i64 (rpL v m c)).take m ++ ((ks .i64 (rpL v m c)).take m).take q ++ (ks .i64 (rpL v m c)).drop (m + q) = ks .i64 (rpL v (m + q) c) := by rw [List.append_assoc]; exact hcs
      simp (maxSteps := 4000000) (disch := omega) only [abv, step, stepv, ev, wl, wn, wp, wz, aop, cV, cV1, AV.one, partCells, okW, onlyFr, app, sliceCells, cellsAt, srcA, subA, eqFs, Int.cast_ofNat_Int, simprocAttr, hkl, h0, Nat.sub_zero, hmc, hal, ← hq, Nat.mul_one, hcs2, hcs]
      refine ⟨m + q, ⟨by omega, by omega⟩, by omega, ?_⟩
      exact Le.slots (by simp [Am.look])
    · obtain rfl : m = c := by omega
      have : rpL v m m = List.replicate m v := by simp [rpL]
      rw [this]
      simp (maxSteps := 4000000) (disch := omega) only [abv, step, stepv, ev, wl, wn, wp, wz, aop, cV, cV1, AV.one, partCells, okW, onlyFr, app, sliceCells, cellsAt, srcA, subA, eqFs, Int.cast_ofNat_Int, simprocAttr]
      exact ⟨0, rfl, rfl⟩

end Go.Am

namespace Go.Am
open Go.RowKit

def S_BehO (t : Nat) (P : Prg) (f : Nat) : Prop := ∀ a b : List Int, 0 < a.length + b.length → a.length + b.length ≤ 1000000 → VO P f [nl a, nl b] (.own 0 (a.length + b.length)) ⟨t, 1, a.length + b.length, ks .i64 (a ++ b), 0⟩
theorem lengths_behind {P : Prg} {f fC t0 t1 : Nat} (bd : Body P f 9 [.tmp 4] (ac_lengths_behind fC t1)) (hC : S_ConcatI t0 P fC) : S_BehO t0 P f := by
  intro a b h0 h1
  refine VO.of_walk (by simp [isDL, isD_nl]) (isDL_ks _ _) (by simp [okr]) (ACall.of_body bd (by simp) ?_)
  have hC' := hC [a, b] (by simp) (by simpa using h0) (by simpa using h1)
  have e1 : nls [a, b] = .list 2 [nl a, nl b] := rfl
  have e2 : [a, b].flatten = a ++ b := by simp
  rw [e1, e2, List.length_append] at hC'
  have ta := isTL_ks .i64 a
  have tb := isTL_ks .i64 b
  simp only [nl] at hC' ⊢
  simp (maxSteps := 4000000) (disch := omega) only [abv, step, stepv, ev, wl, wn, wp, wz, aop, cV, cV1, AV.one, partCells, okW, onlyFr, app, sliceCells, cellsAt, srcA, subA, eqFs, Int.cast_ofNat_Int, simprocAttr, ac_lengths_behind]
  refine callQ.vo_still 1 [0] hC' (by simp [frzN, frzK, frzL, frzV, frzL_T _ ta, frzL_T _ tb]) ?_
  simp (maxSteps := 4000000) (disch := omega) only [abv, step, stepv, ev, wl, wn, wp, wz, aop, cV, cV1, AV.one, partCells, okW, onlyFr, app, sliceCells, cellsAt, srcA, subA, eqFs, Int.cast_ofNat_Int, simprocAttr, stillAt, shr]
  exact ⟨1, rfl, rfl⟩

def okA (r n : Int) : Prop := 1 ≤ r ∧ r ≤ 1048576 ∧ 1 ≤ n ∧ n ≤ 4000 ∧ (lensL (longN r).toNat n.toNat).length ≤ 1000
def S_AllO (t : Nat) (P : Prg) (f : Nat) : Prop := ∀ r n : Int, okA r n → VO P f [.int .i64 r, .int .i64 n] (.tup [.own 0 (lensL (longN r).toNat n.toNat).length, .int .i64 0]) ⟨t, 1, (lensL (longN r).toNat n.toNat).length, ks .i64 (lensL (longN r).toNat n.toNat), 0⟩
theorem lengths_All {P : Prg} {f fC fL fR fB t0 : Nat} (bd : Body P f 39 [.tmp 4, .tmp 5] (ac_lengths_All fC fL fR fB t0)) (hC : S_Count22 P fC) (hL : S_Long22 P fL) (hR : S_Repeat1 t0 P fR) (hB : S_BehO t0 P fB) : S_AllO t0 P f := by
  intro r n ⟨a1, a2, a3, a4, a5⟩
  refine VO.of_walk rfl (isDL_ks _ _) (by simp [okr, flat]) (ACall.of_body bd (by simp) ?_)
  have hlong : 1 ≤ longN r := by unfold longN; split <;> omega
  obtain ⟨L, hLe⟩ : ∃ L : Nat, longN r = L := ⟨(longN r).toNat, by omega⟩
  obtain ⟨m, rfl⟩ : ∃ m : Nat, n = m := ⟨n.toNat, by omega⟩
  rw [hLe, Int.toNat_natCast, Int.toNat_natCast] at a5 ⊢
  rw [lensL_len] at a5
  obtain ⟨q, hq⟩ : ∃ q, q = (m - 1) / L := ⟨_, rfl⟩
  have hql : (lensL L m).length = q + 1 := by rw [lensL_len, hq]
  rw [← hq] at a5
  have hcd : ((m : Int) + (L : Int) - 1) / (L : Int) = ((q + 1 : Nat) : Int) := by
    have h1 : (m : Int) + (L : Int) - 1 = ((m - 1 + L : Nat) : Int) := by omega
    rw [h1, ← Int.natCast_ediv, Nat.add_div_right _ (by omega), ← hq]
  have hk : cntA r m = .tup [.int .i64 ((q + 1 : Nat) : Int), .int .i64 0] := by
    rw [cntA, if_neg (by omega), if_neg (by omega), hLe, hcd, if_neg (by omega)]
  have hC' := hC r m
  rw [hk] at hC'
  have hL' := hL r
  rw [longA, if_neg (by omega), hLe] at hL'
  have hR' := hR L q (by omega)
  have hB' := hB (List.replicate q (L : Int)) [(m : Int) - ((q * L : Nat) : Int)] (by simp) (by simp; omega)
  have e1 : List.replicate q (L : Int) ++ [(m : Int) - ((q * L : Nat) : Int)] = lensL L m := by unfold lensL; rw [hq]
  rw [e1] at hB'
  have e2 : (List.replicate q (L : Int)).length + [(m : Int) - ((q * L : Nat) : Int)].length = q + 1 := by simp
  rw [e2] at hB'
  have e3 : nl [(L : Int)] = .list 1 [.int .i64 (L : Int)] := rfl
  have e4 : nl [(m : Int) - ((q * L : Nat) : Int)] = .list 1 [.int .i64 ((m : Int) - ((q * L : Nat) : Int))] := rfl
  rw [e3] at hR'
  rw [e4] at hB'
  have tr := isTL_ks .i64 (List.replicate q (L : Int))
  have hqL : (q : Int) * (L : Int) = ((q * L : Nat) : Int) := by simp
  have hle : q * L ≤ m := by
    have := Nat.div_mul_le_self (m - 1) L
    rw [← hq] at this
    omega
  simp only [nl, List.length_replicate] at hB'
  rw [hql]
  generalize ks .i64 (lensL L m) = LL at *
  generalize ks .i64 (List.replicate q (L : Int)) = RR at *
  generalize q * L = w at *
  simp only [Int.natCast_add, Int.cast_ofNat_Int] at hC'
  have hq1 : (q : Int) + 1 - 1 = (q : Int) := by omega
  simp (maxSteps := 4000000) (disch := omega) only [abv, step, stepv, ev, wl, wn, wp, wz, aop, cV, cV1, AV.one, partCells, okW, onlyFr, app, sliceCells, cellsAt, srcA, subA, eqFs, Int.cast_ofNat_Int, simprocAttr, ac_lengths_All]
  refine callQ.vc hC' ?_
  simp (maxSteps := 4000000) (disch := omega) only [abv, step, stepv, ev, wl, wn, wp, wz, aop, cV, cV1, AV.one, partCells, okW, onlyFr, app, sliceCells, cellsAt, srcA, subA, eqFs, Int.cast_ofNat_Int, simprocAttr]
  refine callQ.vc hL' ?_
  simp (maxSteps := 4000000) (disch := omega) only [abv, step, stepv, ev, wl, wn, wp, wz, aop, cV, cV1, AV.one, partCells, okW, onlyFr, app, sliceCells, cellsAt, srcA, subA, eqFs, Int.cast_ofNat_Int, simprocAttr, hq1]
  refine callQ.vo_still 1 [0] hR' (by simp [frzN, frzK, frzL, frzV]) ?_
  simp (maxSteps := 4000000) (disch := omega) only [abv, step, stepv, ev, wl, wn, wp, wz, aop, cV, cV1, AV.one, partCells, okW, onlyFr, app, sliceCells, cellsAt, srcA, subA, eqFs, Int.cast_ofNat_Int, simprocAttr, stillAt, shr, hq1, hqL]
  refine callQ.vo_still 1 [1, 2] hB' (by simp [frzN, frzK, frzL, frzV, frzL_T _ tr]) ?_
  simp (maxSteps := 4000000) (disch := omega) only [abv, step, stepv, ev, wl, wn, wp, wz, aop, cV, cV1, AV.one, partCells, okW, onlyFr, app, sliceCells, cellsAt, srcA, subA, eqFs, Int.cast_ofNat_Int, simprocAttr, stillAt, shr]
  exact ⟨3, rfl, rfl⟩

end Go.Am

namespace Go.Am
open Go.RowKit

/-! ### clip.parts: the iterator -/

def partL (Lc : Nat) (l : List Int) (j : Nat) : List Int := (l.drop (j * Lc)).take Lc

def S_PartsIt (t : Nat) (P : Prg) (f : Nat) : Prop := ∀ (k n : Nat) (x r : Int) (l : List Int), 1 ≤ k → k ≤ 1000 → l.length = n * k → okA r n →
  IterVC P f [.int .i64 k, .int .i64 x, .int .i64 r, il l] [t] (cnt := (lensL (longN r).toNat n).length) (fun j => il (partL ((longN r).toNat * k) l j.1))

theorem rep_fr_nil {X : Cx} {a : Act} : ∀ i, Rep X (look [] i) (a.tmps.getD i undef) := fun i => by simp only [look, Rep]
theorem rep_fr_cons {X : Cx} {a : Act} {fr : List (Nat × AV)} {j : Nat} {v : AV} (h : Rep X v (a.tmps.getD j undef)) (g : ∀ i, Rep X (look fr i) (a.tmps.getD i undef)) : ∀ i, Rep X (look ((j, v) :: fr) i) (a.tmps.getD i undef) := fun i => by
  simp only [look]
  split
  · rename_i e; subst e; exact h
  · exact g i

theorem sim0 {N : Nat} {fr : List (Nat × AV)} {a : Act} {W : World} (hd : a.defers = []) (hz : a.tmps.size = N) (h : ∀ i, Rep ⟨W, [], [], fun _ _ => False⟩ (look fr i) (a.tmps.getD i undef)) : Sim ⟨W.heap.size, ⟨W, [], [], fun _ _ => False⟩, N, []⟩ ⟨fr, []⟩ a W :=
  ⟨hd, hz, Below.refl _ _, [], ⟨rfl, by simp, by simp, by simp, fun _ _ h => h.elim, Nat.le_refl _⟩, Moves.refl _, h⟩

theorem below_grown {W W' : World} (h : Below W.heap.size W W') : W.grownBy W' none := ⟨h.os, h.tape, h.output, h.size, fun k hk _ => h.block k hk⟩

theorem part_facts {k n L j : Nat} {l : List Int} (hl : l.length = n * k) (hn : 1 ≤ n) (hL : 1 ≤ L) (hj : j < (lensL L n).length) :
    ∃ m : Nat, (lensL L n).getD j 0 = m ∧ m ≤ n ∧ min (j * (L * k)) (n * k) = j * (L * k) ∧ j * (L * k) ≤ n * k ∧ min ((j + 1) * (L * k)) (n * k) = j * (L * k) + m * k ∧ partL (L * k) l j = (l.drop (j * (L * k))).take (m * k) ∧ j * (L * k) + m * k ≤ n * k := by
  rw [lensL_len] at hj
  have g0 : (n - 1) / L * L ≤ n - 1 := Nat.div_mul_le_self _ _
  have g2 : n - 1 < (n - 1) / L * L + L := Nat.lt_div_mul_add (by omega)
  have g1 : j * L ≤ (n - 1) / L * L := Nat.mul_le_mul_right _ (by omega)
  have e0 : j * (L * k) = j * L * k := by rw [Nat.mul_assoc]
  have e1 : (j + 1) * (L * k) = (j * L + L) * k := by rw [← Nat.mul_assoc, Nat.add_mul, Nat.one_mul]
  have h3 : j * L * k ≤ n * k := Nat.mul_le_mul_right _ (by omega)
  by_cases hq : j < (n - 1) / L
  · have g3 : (j + 1) * L ≤ (n - 1) / L * L := Nat.mul_le_mul_right _ (by omega)
    rw [Nat.add_mul, Nat.one_mul] at g3
    have h7 : j * L + L ≤ n := Nat.le_trans g3 (Nat.le_trans g0 (Nat.sub_le _ _))
    have h4 : (j * L + L) * k ≤ n * k := Nat.mul_le_mul_right _ h7
    refine ⟨L, ?_, by omega, by rw [e0]; exact Nat.min_eq_left h3, by rw [e0]; exact h3, by rw [e1, e0, Nat.min_eq_left h4, Nat.add_mul], rfl, by rw [e0, ← Nat.add_mul]; exact h4⟩
    unfold lensL
    rw [List.getD_eq_getElem?_getD, List.getElem?_append_left (by simpa using hq), List.getElem?_replicate, if_pos hq]
    rfl
  · have hjq : j = (n - 1) / L := by omega
    have h7 : n ≤ j * L + L := by rw [hjq]; generalize (n - 1) / L * L = w at *; omega
    have h8 : n - j * L ≤ L := by omega
    have h4 : n * k ≤ (j * L + L) * k := Nat.mul_le_mul_right _ h7
    have h5 : j * L * k + (n - j * L) * k = n * k := by rw [← Nat.add_mul]; congr 1; omega
    refine ⟨n - j * L, ?_, Nat.sub_le _ _, by rw [e0]; exact Nat.min_eq_left h3, by rw [e0]; exact h3, by rw [e1, e0, Nat.min_eq_right h4, h5], ?_, by rw [e0, h5]; exact Nat.le_refl _⟩
    · unfold lensL
      rw [List.getD_eq_getElem?_getD, List.getElem?_append_right (by simp; omega)]
      simp only [List.length_replicate, ← hjq, Nat.sub_self, List.getElem?_cons_zero, Option.getD_some]
      omega
    · unfold partL
      have h6 : (l.drop (j * (L * k))).length = (n - j * L) * k := by rw [List.length_drop, hl, e0]; omega
      rw [List.take_of_length_le (by rw [h6]; exact Nat.mul_le_mul_right _ h8), List.take_of_length_le (by rw [h6]; exact Nat.le_refl _)]
theorem finR_take {m j : Nat} (h : j < m) : (List.finRange m).take (j + 1) = (List.finRange m).take j ++ [⟨j, h⟩] := by
  rw [List.take_succ_eq_append_getElem (by simpa using h)]
  simp

theorem lens_pos (L n : Nat) : 1 ≤ (lensL L n).length := by rw [lensL_len]; exact Nat.le_add_left 1 _

set_option maxHeartbeats 1000000 in
theorem clip_parts1 {P : Prg} {f fA t0 : Nat} (bd : Body P f 43 [] (ac_clip_parts_1 fA)) (hA : S_AllO t0 P fA) : S_PartsIt t0 P f := by
  intro k n x r l hk1 hk2 hl hok
  obtain ⟨L, hL⟩ : ∃ L, (longN r).toNat = L := ⟨_, rfl⟩
  have hL1 : 1 ≤ L := by have := longN_pos r; omega
  obtain ⟨a1, a2, a3, a4, a5⟩ := hok
  have hn1 : 1 ≤ n := by omega
  have hn2 : n ≤ 4000 := by omega
  have hA' := hA r n ⟨a1, a2, a3, a4, a5⟩
  rw [hL, Int.toNat_natCast] at hA' a5
  rw [hL]
  refine ⟨fun j => isD_il _, fun w C v1 hv1 hex hG => ?_⟩
  have hv1' := hv1
  simp only [Rep] at hv1
  obtain ⟨b, o, vs, hv1e, hat, hvs⟩ := hv1
  simp only [RepL] at hvs
  obtain ⟨u0, q0, rfl, hu0, u1, q1, rfl, hu1, u2, q2, rfl, hu2, u3, q3, rfl, hu3, rfl⟩ := hvs
  have hu0' := hu0
  have hu3' := hu3
  simp only [Rep] at hu0 hu1 hu2
  rw [il] at hu3
  simp only [Rep] at hu3
  obtain ⟨sa, cap, ws, e3, hcap, hws, hwr⟩ := hu3
  rw [hl] at hcap
  obtain ⟨atN, hatN⟩ : ∃ atN : Nat → Nat, ∀ j, atN j = min (j * (L * k)) (n * k) := ⟨_, fun _ => rfl⟩
  obtain ⟨cnt, hcnt⟩ : ∃ cnt, (lensL L n).length = cnt := ⟨_, rfl⟩
  have hnk : n * k ≤ 4000000 := Nat.mul_le_mul hn2 hk2
  rw [hcnt] at hA' a5 ⊢
  have hcnt1 : 1 ≤ cnt := by rw [← hcnt]; exact lens_pos _ _
  have pf : ∀ j, j < cnt → ∃ m : Nat, (lensL L n).getD j 0 = m ∧ m ≤ n ∧ atN j = j * (L * k) ∧ atN (j + 1) = atN j + m * k ∧ partL (L * k) l j = (l.drop (atN j)).take (m * k) ∧ atN j + m * k ≤ n * k := fun j hj => by
    obtain ⟨m, h1, h2, h3, h4, h5, h6, h7⟩ := part_facts (j := j) hl hn1 hL1 (by rw [hcnt]; exact hj)
    refine ⟨m, h1, h2, by rw [hatN]; exact h3, by rw [hatN, hatN, h3]; exact h5, by rw [hatN, h3]; exact h6, by rw [hatN, h3]; exact h7⟩
  have hun : ∀ {W' : World}, (∀ (b k : Nat) (v : Value), ¬ C b k → w.cell? ⟨b, k, none⟩ = some v → W'.cell? ⟨b, k, none⟩ = some v) → ∀ (c : AV) (v : Value), isD c = true → Rep ⟨w, [], [], C⟩ c v → Rep ⟨W', [], [], fun _ _ => False⟩ c v := fun h c v hd hr =>
    Rep.data (X := ⟨w, [], [], C⟩) (Y := ⟨_, [], [], fun _ _ => False⟩) (fun b k v hc ha => ⟨h b k v (fun h => ha (.inl h)) hc, fun h => by
      rcases h with h | ⟨o, x, c, h1, _⟩
      · exact h.elim
      · simp at h1⟩) c v hd hr
  have hlit : ∀ {W' : World}, (∀ (b k : Nat) (v : Value), ¬ C b k → w.cell? ⟨b, k, none⟩ = some v → W'.cell? ⟨b, k, none⟩ = some v) → Rep ⟨W', [], [], fun _ _ => False⟩ (.cell [.int .i64 k, .int .i64 x, .int .i64 r, .lit u3]) v1 := fun {W'} h => by
    have h1 : Rep ⟨w, [], [], C⟩ (.cell [.int .i64 k, .int .i64 x, .int .i64 r, .lit u3]) v1 := by
      simp only [Rep]
      exact ⟨b, o, _, hv1e, hat, by simp only [RepL, Rep]; exact ⟨u0, _, rfl, hu0, u1, _, rfl, hu1, u2, _, rfl, hu2, u3, _, rfl, rfl, rfl⟩⟩
    exact hun h _ _ rfl h1
  refine ⟨fun j => .slice (if cap = atN j.1 then sa else sa.map (·.add (atN j.1 * 1))) (atN (j.1 + 1) - atN j.1) (cap - atN j.1), fun j => ?rep, ?seq⟩
  case rep =>
    obtain ⟨m, h1, h2, h3, h4, h5, h6⟩ := pf j.1 j.2
    have g : Held 0 ⟨w, [], [], fun _ _ => False⟩ := ⟨rfl, by simp, by simp, by simp, fun _ _ h => h.elim, Nat.zero_le _⟩
    have e4 : ((atN (j.1 + 1) : Nat) - (atN j.1 : Nat) : Int).toNat = m * k := by omega
    have e5 : (partL (L * k) l j.1).length = m * k := by rw [h5, List.length_take, List.length_drop, hl]; omega
    have hs : subA [] 1 (il l) (atN j.1 : Nat) (atN (j.1 + 1) : Nat) = some (il (partL (L * k) l j.1)) := by
      simp only [subA, il]
      rw [if_pos (by omega), if_pos (by rw [hl]; simp [ks]; omega), e4, e5, h5]
      simp [ks, List.map_take, List.map_drop]
    have hr := rep_sub (X := ⟨w, [], [], fun b k => C b k ∧ b < w.heap.size⟩) (B := w.heap.size) ⟨rfl, by simp, by simp, by simp, fun _ _ h => h.2, Nat.le_refl _⟩ (η := fun _ => .any) (ρ := fun _ => undef) (fun _ => by simp only [Rep]) (sz := 1) (n := l.length) (cs := ks .i32 l) (a := sa) (cap := cap) (m := cap) (by
      rw [← e3]
      exact Rep.data (X := ⟨w, [], [], C⟩) (Y := ⟨w, [], [], fun b k => C b k ∧ b < w.heap.size⟩) (fun b k v hc ha => ⟨hc, fun h => ha (by
        rcases h with h | ⟨o, x, c, h1, _⟩
        · exact .inl h.1
        · simp at h1)⟩) _ _ (isD_il l) hu3') rfl hs (by omega) (.inl (Nat.le_refl _))
    have hr2 := hr.2.2.2
    simp only [Int.toNat_natCast] at hr2
    exact Rep.data (X := ⟨w, [], [], fun b k => C b k ∧ b < w.heap.size⟩) (Y := ⟨w, [], [], C⟩) (fun b k v hc ha => ⟨hc, fun h => ha (by
      rcases h with h | ⟨o, x, c, h1, _⟩
      · exact .inl ⟨h, World.block_lt_of_cell? w _ hc⟩
      · simp at h1)⟩) _ _ (isD_il _) hr2
  case seq =>
    intro ll J Jx W hW hJ hJx hY hJ0
    have hkw : ∀ (b k : Nat) (v : Value), ¬ C b k → w.cell? ⟨b, k, none⟩ = some v → W.cell? ⟨b, k, none⟩ = some v := fun b k v _ hc => (hW.cell (p := ⟨b, k, none⟩) (World.block_lt_of_cell? w _ hc)).trans hc
    obtain ⟨fn, hf, hnm, hN, hrl, hc'⟩ := bd
    obtain ⟨c, hb, hc⟩ := Option.bind_eq_some_iff.1 hc'
    refine callsIn_of_wp hf hb trivial ?_ rfl
    rw [hN]
    unfold ac_clip_parts_1 at hc
    obtain ⟨c1, r1, rfl, hc1, hr1⟩ := cCode_seq hc
    obtain ⟨c2, r2, rfl, hc2, hr2⟩ := cCode_seq hr1
    obtain ⟨c3, c4, rfl, hc3, hc4⟩ := cCode_seq hr2
    obtain ⟨c5, rfl, hc5⟩ := cCode_block hc4
    obtain ⟨c6, rfl, hc6⟩ := cCode_loop hc5
    obtain ⟨d1, s1, rfl, hd1, hs1⟩ := cCode_seq hc6
    obtain ⟨d2, s2, rfl, hd2, hs2⟩ := cCode_seq hs1
    obtain ⟨y1, y2, rfl, hy1, hy2⟩ := cCode_cond hd2
    obtain rfl := cCode_skip hy1
    obtain rfl := cCode_exit hy2
    obtain ⟨d3, d9, rfl, hd3, hd9⟩ := cCode_seq hs2
    obtain ⟨d4, rfl, hd4⟩ := cCode_block hd3
    obtain ⟨d5, s5, rfl, hd5, hs5⟩ := cCode_seq hd4
    obtain ⟨d6, s6, rfl, hd6, hs6⟩ := cCode_seq hs5
    obtain ⟨s7, d8, rfl, hs7, hd8⟩ := cCode_seq hs6
    obtain ⟨d7, dc, rfl, hd7, hdc⟩ := cCode_seq hs7
    obtain ⟨y3, y4, rfl, hy3, hy4⟩ := cCode_cond hdc
    obtain rfl := cCode_ret hy3
    obtain rfl := cCode_skip hy4
    obtain ⟨id7, ops, rfl, hm7⟩ := cCode_reg hd7
    obtain ⟨l5, l3, hops, hm5, hm3⟩ := mapM_cut (q1 := [_, _, _, _, _]) hm7
    obtain ⟨oS, l2, rfl, hoS, hm2⟩ := mapM_one hm3
    obtain ⟨oY, l1, rfl, hoY, hm1⟩ := mapM_one hm2
    generalize hyv : (Value.func (.yield ll) #[] #[]) = yv at *
    let a0 : Act := { tmps := #[yv] ++ #[v1] ++ Array.replicate (43 - (#[yv] ++ #[v1]).size) undef, defers := [] }
    show Code.wpIn _ _ _ _ _ a0 _
    have z0 : a0.tmps.size = 43 := by simp [a0]
    have t00 : a0.tmps.getD 0 undef = yv := by simp [a0]
    have t01 : a0.tmps.getD 1 undef = v1 := by simp [a0]
    let C0 : Nat → Nat → Prop := fun b k => C b k ∧ b < W.heap.size
    have g0 : Held W.heap.size ⟨W, [ph2], [none], C0⟩ := by
      have g := (Held.empty (B := W.heap.size) (X := ⟨W, [], [], C0⟩) ⟨rfl, by simp, by simp, by simp, fun _ _ h => h.2, Nat.le_refl _⟩ 1 0).1
      exact g
    have hC0 : ∀ c v, isD c = true → Rep ⟨w, [], [], C⟩ c v → Rep ⟨W, [ph2], [none], C0⟩ c v := fun c v hd hr =>
      Rep.data (X := ⟨w, [], [], C⟩) (Y := ⟨W, [ph2], [none], C0⟩) (fun b k v hc ha => ⟨hkw b k v (fun h => ha (.inl h)) hc, fun h => by
        rcases h with h | ⟨o, x, c, h1, h2, _⟩
        · exact ha (.inl h.1)
        · rcases o with _ | o <;> simp at h2⟩) c v hd hr
    let Γ0 : Ctx := ⟨W.heap.size, ⟨W, [ph2], [none], C0⟩, 43, []⟩
    have hs0 : Sim Γ0 ⟨[(0, .lit yv), (1, .cell [.int .i64 k, .int .i64 x, .int .i64 r, il l])], [ph2]⟩ a0 W :=
      ⟨rfl, z0, Below.refl _ _, [none], g0, Moves.refl _, rep_fr_cons (by rw [t00]; simp only [Rep]) (rep_fr_cons (by rw [t01]; exact hC0 _ _ (by simp [isD, isDL, isD_il]) hv1') rep_fr_nil)⟩
    have hF0 : Fit P 43 Γ0 := ⟨rfl, fun q cs hq => hC0 _ _ (by simp only [isD]; exact P.gd q cs hq) (hG q cs hq)⟩
    refine wpIn_seq ?_
    have hk0 : ((n * k : Nat) : Int) / (k : Int) = n := by
      rw [Int.natCast_mul, Int.mul_ediv_cancel _ (by omega)]
    have hk3 : ((n * k : Nat) : Int).tdiv (k : Int) = n := by rw [Int.tdiv_eq_ediv_of_nonneg (by omega), hk0]
    refine draw_step (Q := fun _ st' => st'.ob = [⟨t0, 1, cnt, ks .i64 (lensL L n), 0⟩] ∧ look st'.fr 0 = .lit yv ∧ look st'.fr 3 = .own 0 cnt) hF0 hc1 1 (by rfl) t01 ?_ hs0 ?_
    · simp only [il]
      simp (maxSteps := 4000000) (disch := omega) only [abv, step, stepv, ev, wl, wn, wp, wz, aop, cV, cV1, AV.one, partCells, okW, onlyFr, app, sliceCells, cellsAt, srcA, subA, eqFs, Int.cast_ofNat_Int, simprocAttr, hl, hk3, hk0]
      refine ⟨shr 0 (.tup [.own 0 cnt, .int .i64 0]), some (0, ⟨t0, 1, cnt, ks .i64 (lensL L n), 0⟩), ?_, ?_⟩
      · unfold ECall
        rw [if_pos rfl]
        exact ⟨ACall.of_vo_at hA' rfl ⟨rfl, rfl⟩, fun o x' e => by cases e; exact ⟨ph2, rfl, by simp [ph2, ph]⟩⟩
      · simp (maxSteps := 4000000) (disch := omega) only [abv, step, stepv, ev, wl, wn, wp, wz, aop, cV, cV1, AV.one, partCells, okW, onlyFr, app, sliceCells, cellsAt, srcA, subA, eqFs, Int.cast_ofNat_Int, simprocAttr, shr]
    · intro st1 a1 W1 ⟨hob1, h10, h13⟩ hs1 t11
      show (Code.seq c2 _).wpIn Fence.wide 4 _ _ a1 W1
      let row : Ob := ⟨t0, 1, cnt, ks .i64 (lensL L n), 0⟩
      have hs1' : Sim Γ0 ⟨[(0, .lit yv), (3, .own 0 cnt)], [row]⟩ a1 W1 := by
        have h : st1 = ⟨st1.fr, [row]⟩ := by rw [← hob1]
        rw [h] at hs1
        exact Le.slots (M := 1) (by simp [h10, h13]) Γ0 a1 W1 rfl hs1
      refine wpIn_seq ?_
      refine reg_step (Q := fun _ st' => st' = ⟨[(5, .int .i64 0), (0, .lit yv), (3, .own 0 cnt)], [row]⟩) hF0 hc2 [(1, v1)] (by simp only [List.mem_singleton]; rintro _ rfl; exact ⟨rfl, t11⟩) (by simp (maxSteps := 4000000) (disch := omega) only [abv, step, stepv, ev, wl, wn, wp, wz, aop, cV, cV1, AV.one, partCells, okW, onlyFr, app, sliceCells, cellsAt, srcA, subA, eqFs, Int.cast_ofNat_Int, simprocAttr]) hs1' ?_
      rintro _ a2 W2 rfl hs2 t2
      show (Code.seq c3 _).wpIn Fence.wide 4 _ _ a2 W2
      refine wpIn_seq ?_
      refine reg_step (Q := fun _ st' => st' = ⟨[(23, .int .i64 0), (22, .int .i64 cnt), (21, .own 0 cnt), (5, .int .i64 0), (0, .lit yv), (3, .own 0 cnt)], [row]⟩) hF0 hc3 [(1, v1)] (by simp only [List.mem_singleton]; rintro _ rfl; exact ⟨rfl, t2 _ (by simp)⟩) (by simp (maxSteps := 4000000) (disch := omega) only [abv, step, stepv, ev, wl, wn, wp, wz, aop, cV, cV1, AV.one, partCells, okW, onlyFr, app, sliceCells, cellsAt, srcA, subA, eqFs, Int.cast_ofNat_Int, simprocAttr, row]) hs2 ?_
      rintro _ a3 W3 rfl hs3 t3
      show (Code.block 0 (.loop _)).wpIn Fence.wide 4 _ _ a3 W3
      obtain ⟨f1, f2, f3, be, f4, f5, f6⟩ := hs3
      have f1' : a3.defers = [] := f1
      have f2' : a3.tmps.size = 43 := f2
      obtain ⟨e, he, hoke⟩ := f4.get (o := 0) (x := row) rfl
      have f21 := f6 21
      simp only [look, Nat.reduceEqDiff, if_false, if_true, Rep] at f21
      obtain ⟨⟨rw', hrw, _, _, hown⟩, _⟩ := f21
      have hrw' : row = rw' := by simpa using hrw
      subst hrw'
      have hown' := hown rfl
      have he' : be[0]? = some e := he
      simp only [he'] at hown'
      cases e with
      | none => exact absurd hoke.1 (by simp only [row]; omega)
      | some p =>
      obtain ⟨br, capr⟩ := p
      obtain ⟨cur, ⟨frz, hblk, _⟩, hcs, hnc, _, hcl, hcr, hone⟩ := hoke
      simp only [OwnV] at hown'
      have hblk' : W3.heap[br]? = some (.cells cur t0 frz) := hblk
      obtain ⟨sv, hsv⟩ : ∃ sv, sv = Value.slice (some ⟨br, 0, none⟩) cnt capr := ⟨_, rfl⟩
      have hcr' : ∀ {Y : Cx}, RepL Y (ks .i64 (lensL L n)) (cur.toList.take cnt) := fun {Y} => by
        have h := RepL.flat (Y := Y) (by simp [row, ks, flat]) hcr
        have e : row.cs.length = cnt := by simp [row, ks, hcnt]
        rw [e] at h
        exact h
      have hrowR : ∀ {W' : World}, W'.heap[br]? = some (.cells cur t0 frz) → Rep ⟨W', [], [], fun _ _ => False⟩ (.list cnt (ks .i64 (lensL L n))) sv := fun {W'} h => by
        simp only [Rep]
        refine ⟨_, _, cur.toList.take cnt, hsv, hnc, .inr ⟨br, 0, rfl, fun i v hv => ?_⟩, hcr'⟩
        rw [List.getElem?_take] at hv
        split at hv
        · have hv2 : cur[i]? = some v := by simpa using hv
          refine ⟨⟨by simp [World.cell?, h, hv2], fun h => ?_⟩, hone v (by
            obtain ⟨h1, h2⟩ := Array.getElem?_eq_some_iff.1 hv2
            rw [← h2]; simp)⟩
          rcases h with h | ⟨o, x, c, h1, _⟩
          · exact h.elim
          · simp at h1
        · cases hv
      have hJ3 : J [] W3 := hJ _ W W3 none hJ0 (below_grown f3) (fun r h => by cases h)
      refine wpIn_block ?_
      refine wpIn_loop (fun a W' => ∃ j, j ≤ cnt ∧ a.defers = [] ∧ a.tmps.size = 43 ∧ a.tmps.getD 0 undef = yv ∧ a.tmps.getD 1 undef = v1 ∧ a.tmps.getD 5 undef = .int .i64 (atN j : Nat) ∧ a.tmps.getD 21 undef = sv ∧ a.tmps.getD 22 undef = .int .i64 cnt ∧ a.tmps.getD 23 undef = .int .i64 j ∧
          W'.heap[br]? = some (.cells cur t0 frz) ∧ (∀ (b k : Nat) (v : Value), ¬ C b k → w.cell? ⟨b, k, none⟩ = some v → W'.cell? ⟨b, k, none⟩ = some v) ∧ J ((List.finRange cnt).take j) W')
        (fun a _ => match a.tmps.getD 23 undef with | .int _ z => cnt - z.toNat | _ => 0) ?_ ?_
      · refine ⟨0, Nat.zero_le _, f1', f2', ?_, t3 (1, v1) (by simp), ?_, by rw [hsv]; exact hown', ?_, ?_, hblk', ?_, hJ3⟩
        · have h := f6 0
          simpa [look, Rep] using h
        · have h := f6 5
          have e0 : atN 0 = 0 := by rw [hatN]; simp
          simpa [look, Rep, e0] using h
        · have h := f6 22
          simpa [look, Rep] using h
        · have h := f6 23
          simpa [look, Rep] using h
        · intro b k v hc hv
          have h := hkw b k v hc hv
          exact (f3.cell (p := ⟨b, k, none⟩) (World.block_lt_of_cell? W _ h)).trans h
      intro a Wj ⟨j, hj, i1, i2, i3, i4, i5, i6, i7, i8, i9, i10, i11⟩
      let ΓW : World → Ctx := fun W' => ⟨W'.heap.size, ⟨W', [], [], fun _ _ => False⟩, 43, []⟩
      have hF : ∀ {W' : World}, (∀ (b k : Nat) (v : Value), ¬ C b k → w.cell? ⟨b, k, none⟩ = some v → W'.cell? ⟨b, k, none⟩ = some v) → Fit P 43 (ΓW W') := fun {W'} h => ⟨rfl, fun q cs hq => hun h _ _ (by simp only [isD]; exact P.gd q cs hq) (hG q cs hq)⟩
      have hsA : Sim (ΓW Wj) ⟨[(0, .lit yv), (1, .cell [.int .i64 k, .int .i64 x, .int .i64 r, .lit u3]), (5, .int .i64 (atN j : Nat)), (21, .list cnt (ks .i64 (lensL L n))), (22, .int .i64 cnt), (23, .int .i64 j)], []⟩ a Wj :=
        sim0 i1 i2 (rep_fr_cons (by rw [i3]; simp only [Rep]) (rep_fr_cons (by rw [i4]; exact hlit i10) (rep_fr_cons (by rw [i5]; simp only [Rep]) (rep_fr_cons (by rw [i6]; exact hrowR i9) (rep_fr_cons (by rw [i7]; simp only [Rep]) (rep_fr_cons (by rw [i8]; simp only [Rep]) rep_fr_nil))))))
      have hI : ∀ {qs : List AO} {a : Act}, noDst 1 qs = true → noDst 21 qs = true → a.tmps.getD 1 undef = v1 → a.tmps.getD 21 undef = sv → ∀ p ∈ [(1, v1), (21, sv)], noDst p.1 qs = true ∧ a.tmps.getD p.1 undef = p.2 := fun h1 h2 h3 h4 p hp => by
        simp only [List.mem_cons, List.not_mem_nil, or_false] at hp
        rcases hp with rfl | rfl
        · exact ⟨h1, h3⟩
        · exact ⟨h2, h4⟩
      refine wpIn_seq ?_
      refine reg_step (Q := fun _ st' => st' = ⟨[(24, .bool (decide ((j : Int) < cnt))), (0, .lit yv), (1, .cell [.int .i64 k, .int .i64 x, .int .i64 r, .lit u3]), (5, .int .i64 (atN j : Nat)), (21, .list cnt (ks .i64 (lensL L n))), (22, .int .i64 cnt), (23, .int .i64 j)], []⟩) (hF i10) hd1 [(1, v1), (21, sv)] (hI rfl rfl i4 i6) (by simp (maxSteps := 4000000) (disch := omega) only [abv, step, stepv, ev, wl, wn, wp, wz, aop, cV, cV1, AV.one, partCells, okW, onlyFr, app, sliceCells, cellsAt, srcA, subA, eqFs, Int.cast_ofNat_Int, simprocAttr]) hsA ?_
      rintro _ aB WB rfl hsB tB
      have bW : Below Wj.heap.size Wj WB := hsB.2.2.1
      show (Code.seq (.cond _ .skip (.exit 0)) _).wpIn Fence.wide 4 _ _ aB WB
      have h24 : aB.eval (.tmp 24) = .bool (decide ((j : Int) < cnt)) := by
        obtain ⟨_, _, _, _, _, _, h⟩ := hsB
        have h : Rep _ (.bool _) (aB.tmps.getD 24 undef) := h 24
        simp only [Rep] at h
        exact h
      refine wpIn_seq ?_
      by_cases hjc : j < cnt
      · have e24 : decide ((j : Int) < cnt) = true := by simp; omega
        rw [e24] at h24 hsB
        obtain ⟨m, p1, p2, p3, p4, p5, p6⟩ := pf j hjc
        have la : (ks .i64 (lensL L n)).drop j = .int .i64 m :: (ks .i64 (lensL L n)).drop (j + 1) := by
          have h := ks_at (K := .i64) (l := lensL L n) (i := j) (by omega)
          rw [p1, ← ks_drop] at h
          exact h
        refine wpIn_cond_true h24 (wpIn_skip ?_)
        show (Code.seq (.block 1 (.seq d5 _)) _).wpIn Fence.wide 4 _ _ aB WB
        obtain ⟨mk, hmk⟩ : ∃ mk, m * k = mk := ⟨_, rfl⟩
        rw [hmk] at p4 p5 p6
        have emk : (m : Int) * (k : Int) = mk := by rw [← hmk]; simp
        have e8 : ((atN j : Nat) : Int) + (mk : Int) = ((atN (j + 1) : Nat) : Int) := by omega
        obtain ⟨nk, hnk'⟩ : ∃ nk, n * k = nk := ⟨_, rfl⟩
        rw [hnk'] at p6 hnk hcap hl
        have hm4 : (m : Int) ≤ 4000 := by omega
        refine wpIn_seq (wpIn_block (wpIn_seq ?_))
        refine reg_step (Q := fun _ st' => Le 0 st' ⟨[(7, .int .i64 m), (0, .lit yv), (1, .cell [.int .i64 k, .int .i64 x, .int .i64 r, .lit u3]), (5, .int .i64 (atN j : Nat)), (21, .list cnt (ks .i64 (lensL L n))), (22, .int .i64 cnt), (23, .int .i64 j)], []⟩) (hF i10) hd5 [(1, v1), (21, sv)] (hI rfl rfl (tB (1, v1) (by simp)) (tB (21, sv) (by simp)))
          (by simp (maxSteps := 4000000) (disch := omega) only [abv, step, stepv, ev, wl, wn, wp, wz, aop, cV, cV1, AV.one, partCells, okW, onlyFr, app, sliceCells, cellsAt, srcA, subA, eqFs, Int.cast_ofNat_Int, simprocAttr, la, ks_length]; exact Le.slots (by simp [Am.look])) hsB ?_
        intro st5 a5 W5 hle5 hs5' t5
        have hs5 := hle5 _ _ _ rfl hs5'
        show (Code.seq d6 _).wpIn Fence.wide 4 _ _ a5 W5
        refine wpIn_seq ?_
        refine reg_step (Q := fun _ st' => Le 0 st' ⟨[(8, .int .i64 (atN (j + 1) : Nat)), (0, .lit yv), (1, .cell [.int .i64 k, .int .i64 x, .int .i64 r, .lit u3]), (5, .int .i64 (atN j : Nat)), (21, .list cnt (ks .i64 (lensL L n))), (22, .int .i64 cnt), (23, .int .i64 j)], []⟩) (hF i10) hd6 [(1, v1), (21, sv)] (hI rfl rfl (t5 (1, v1) (by simp)) (t5 (21, sv) (by simp)))
          (by simp (maxSteps := 4000000) (disch := omega) only [abv, step, stepv, ev, wl, wn, wp, wz, aop, cV, cV1, AV.one, partCells, okW, onlyFr, app, sliceCells, cellsAt, srcA, subA, eqFs, Int.cast_ofNat_Int, simprocAttr, emk, e8]; exact Le.slots (by simp [Am.look])) hs5 ?_
        intro st6 a6 W6 hle6 hs6' t6
        have hs6 := hle6 _ _ _ rfl hs6'
        show (Code.seq (.seq (.region id7 ops false) _) d8).wpIn Fence.wide 4 _ _ a6 W6
        refine wpIn_seq (wpIn_seq (wpIn_region_list ?_))
        rw [hops]
        refine wpListIn_cut l5 _ a6 W6 (wpListIn_mono ?_ _ _ _ (list_step (Q := fun _ st' => Le 0 st' ⟨[(33, .lit yv), (0, .lit yv), (35, .lit u3), (36, .int .i64 (atN j : Nat)), (37, .int .i64 (atN (j + 1) : Nat)), (8, .int .i64 (atN (j + 1) : Nat)), (22, .int .i64 cnt), (23, .int .i64 j)], []⟩) (hF i10) hm5 [(1, v1), (21, sv)] (hI rfl rfl (t6 (1, v1) (by simp)) (t6 (21, sv) (by simp)))
          (by simp (maxSteps := 4000000) (disch := omega) only [abv, step, stepv, ev, wl, wn, wp, wz, aop, cV, cV1, AV.one, partCells, okW, onlyFr, app, sliceCells, cellsAt, srcA, subA, eqFs, Int.cast_ofNat_Int, simprocAttr]; exact Le.slots (by simp [Am.look])) hs6))
        rintro _ a7 W7 ⟨rfl, st7, hle7, hs7', t7⟩
        have hs7 := hle7 _ _ _ rfl hs7'
        show wpListIn Fence.wide 4 _ _ _ (oS :: oY :: l1) a7 W7
        have W7b : Below Wj.heap.size Wj W7 := hs7.2.2.1
        have hd7 : a7.defers = [] := hs7.1
        have hz7 : a7.tmps.size = 43 := hs7.2.1
        have f7 : ∀ {i : Nat} {v : Value}, Rep ⟨W7, [], [], fun _ _ => False⟩ (.lit v) (a7.tmps.getD i undef) → a7.tmps.getD i undef = v := fun h => by simpa only [Rep] using h
        have f33 : a7.tmps.getD 33 undef = yv := by obtain ⟨_, _, _, _, _, _, h⟩ := hs7; have h : Rep _ (.lit yv) (a7.tmps.getD 33 undef) := h 33; simpa only [Rep] using h
        have f35 : a7.tmps.getD 35 undef = u3 := by obtain ⟨_, _, _, _, _, _, h⟩ := hs7; have h : Rep _ (.lit u3) (a7.tmps.getD 35 undef) := h 35; simpa only [Rep] using h
        have f8 : a7.tmps.getD 8 undef = .int .i64 (atN (j + 1) : Nat) := by obtain ⟨_, _, _, _, _, _, h⟩ := hs7; have h : Rep _ (.int .i64 _) (a7.tmps.getD 8 undef) := h 8; simpa only [Rep] using h
        have f22 : a7.tmps.getD 22 undef = .int .i64 cnt := by obtain ⟨_, _, _, _, _, _, h⟩ := hs7; have h : Rep _ (.int .i64 _) (a7.tmps.getD 22 undef) := h 22; simpa only [Rep] using h
        have f23 : a7.tmps.getD 23 undef = .int .i64 j := by obtain ⟨_, _, _, _, _, _, h⟩ := hs7; have h : Rep _ (.int .i64 _) (a7.tmps.getD 23 undef) := h 23; simpa only [Rep] using h
        obtain ⟨be7, g7, _, hη, _⟩ := hs7.eta (hF i10).2
        -- the slice
        obtain ⟨cS, dS, _, gS⟩ := cOper_spec hoS
        obtain ⟨tS, eS, opS, uS, zS⟩ := cOp_slice (cAK_op cS (by intro h; cases h))
        have gS' : oS.guard = none := by
          rcases gS with ⟨h, _⟩ | ⟨_, _, _, _, _, h⟩
          · exact h
          · cases h
        have ex : a7.eval (.tmp 35) = .slice sa nk cap := by rw [← hl]; exact f35.trans e3
        have hrun := slice_exact (X := ⟨W7, [], be7, fun _ _ => False⟩) g7 hη opS uS zS ex (l := (atN j : Nat)) (h := (atN (j + 1) : Nat)) (by simp [loA, opd, look]) (by simp [hiA, opd, look]) (by omega) (by omega) (by omega)
        simp only [Int.toNat_natCast] at hrun
        unfold wpListIn
        rw [if_pos (by simp [Region.wanted, gS'])]
        unfold Oper.wpIn
        refine ⟨fun _ _ => trivial, ?_⟩
        rw [semW, hrun]
        show wpListIn Fence.wide 4 _ _ _ (oY :: l1) (a7.put oS.dst _) W7
        rw [← dS]
        -- the call of yield
        obtain ⟨cY, dY, _, gY⟩ := cOper_spec hoY
        obtain ⟨cl, opY, calY, argY⟩ := cAK_callv cY
        have gY' : oY.guard = none := by
          rcases gY with ⟨h, _⟩ | ⟨_, _, _, _, _, h⟩
          · exact h
          · cases h
        have argY' : cl.args = #[.tmp 38] := Array.ext' argY.symm
        unfold wpListIn
        rw [if_pos (by simp [Region.wanted, gY'])]
        have hJ7 : J ((List.finRange cnt).take j) W7 := hJ _ Wj W7 none i11 (below_grown W7b) (fun r h => by cases h)
        have hlen : ((List.finRange cnt).take j).length < cnt := by simp; omega
        obtain ⟨vj, hvj⟩ : ∃ vj : Value, vj = .slice (if cap = atN j then sa else sa.map (·.add (atN j * 1))) (atN (j + 1) - atN j) (cap - atN j) := ⟨_, rfl⟩
        have hY' := hY ((List.finRange cnt).take j) ⟨j, hjc⟩ W7 hJ7 hlen
        simp only at hY'
        rw [← hvj] at hY' ⊢
        have p38 : (a7.put (some 38) vj).tmps.getD 38 undef = vj := by simp [Act.put, hz7]
        have p33 : (a7.put (some 38) vj).tmps.getD 33 undef = .func (.yield ll) #[] #[] := by rw [put_stays (by simp), f33]; exact hyv.symm
        refine yield_step opY calY argY' p33 p38 hY' ?_
        rw [← dY]
        have z8 : ∀ bb : Bool, ((a7.put (some 38) vj).put (some 39) (.bool bb)).tmps.size = 43 := fun bb => by rw [put_size, put_size]; exact hz7
        have p39 : ∀ bb : Bool, ((a7.put (some 38) vj).put (some 39) (.bool bb)).tmps.getD 39 undef = .bool bb := fun bb => by simp [Act.put, hz7]
        have pO : ∀ (bb : Bool) (i : Nat), i ≠ 38 → i ≠ 39 → ((a7.put (some 38) vj).put (some 39) (.bool bb)).tmps.getD i undef = a7.tmps.getD i undef := fun bb i h1 h2 => by
          rw [put_stays (by simpa using fun h => h2 h.symm), put_stays (by simpa using fun h => h1 h.symm)]
        have d8' : ∀ bb : Bool, ((a7.put (some 38) vj).put (some 39) (.bool bb)).defers = [] := fun bb => by rw [put_defers, put_defers]; exact hd7
        have hI3 : ∀ {qs : List AO} {a : Act}, noDst 0 qs = true → noDst 1 qs = true → noDst 21 qs = true → a.tmps.getD 0 undef = yv → a.tmps.getD 1 undef = v1 → a.tmps.getD 21 undef = sv → ∀ p ∈ [(0, yv), (1, v1), (21, sv)], noDst p.1 qs = true ∧ a.tmps.getD p.1 undef = p.2 := fun h1 h2 h3 h4 h5 h6 p hp => by
          simp only [List.mem_cons, List.not_mem_nil, or_false] at hp
          rcases hp with rfl | rfl | rfl
          · exact ⟨h1, h4⟩
          · exact ⟨h2, h5⟩
          · exact ⟨h3, h6⟩
        have f0 : a7.tmps.getD 0 undef = yv := by obtain ⟨_, _, _, _, _, _, h⟩ := hs7; have h : Rep _ (.lit yv) (a7.tmps.getD 0 undef) := h 0; simpa only [Rep] using h
        have q0 : ∀ bb : Bool, _ := fun bb => (pO bb 0 (by omega) (by omega)).trans f0
        have q1 : ∀ bb : Bool, _ := fun bb => (pO bb 1 (by omega) (by omega)).trans (t7 (1, v1) (by simp))
        have q21 : ∀ bb : Bool, _ := fun bb => (pO bb 21 (by omega) (by omega)).trans (t7 (21, sv) (by simp))
        rintro e W8 (⟨rfl, hJ8, hK8⟩ | ⟨rfl, hX8⟩)
        · refine ⟨true, rfl, ?_⟩
          have hbr7 : W7.heap[br]? = some (.cells cur t0 frz) := (W7b.block br (Array.getElem?_eq_some_iff.1 i9).1).trans i9
          have hbr8 : W8.heap[br]? = some (.cells cur t0 frz) := (hK8.1 br cur t0 frz hbr7 (by simp)).trans hbr7
          have hk8 : ∀ (b k : Nat) (v : Value), ¬ C b k → w.cell? ⟨b, k, none⟩ = some v → W8.cell? ⟨b, k, none⟩ = some v := fun b k v hc hv => by
            have h1 := i10 b k v hc hv
            exact hK8.2 b k v hc ((W7b.cell (p := ⟨b, k, none⟩) (World.block_lt_of_cell? Wj _ h1)).trans h1)
          have hs8 : Sim (ΓW W8) ⟨[(39, .bool true), (8, .int .i64 (atN (j + 1) : Nat)), (22, .int .i64 cnt), (23, .int .i64 j)], []⟩ ((a7.put (some 38) vj).put (some 39) (.bool true)) W8 :=
            sim0 (d8' true) (z8 true) (rep_fr_cons (by rw [p39]; simp only [Rep]) (rep_fr_cons (by rw [pO true 8 (by omega) (by omega), f8]; simp only [Rep]) (rep_fr_cons (by rw [pO true 22 (by omega) (by omega), f22]; simp only [Rep]) (rep_fr_cons (by rw [pO true 23 (by omega) (by omega), f23]; simp only [Rep]) rep_fr_nil))))
          refine wpListIn_mono ?_ _ _ _ (list_step (Q := fun _ st' => Le 0 st' ⟨[(40, .bool false), (8, .int .i64 (atN (j + 1) : Nat)), (22, .int .i64 cnt), (23, .int .i64 j)], []⟩) (hF hk8) hm1 [(0, yv), (1, v1), (21, sv)] (hI3 rfl rfl rfl (q0 true) (q1 true) (q21 true))
            (by simp (maxSteps := 4000000) (disch := omega) only [abv, step, stepv, ev, wl, wn, wp, wz, aop, cV, cV1, AV.one, partCells, okW, onlyFr, app, sliceCells, cellsAt, srcA, subA, eqFs, Int.cast_ofNat_Int, simprocAttr, Bool.not_true]; exact Le.slots (by simp [Am.look])) hs8)
          rintro _ a9 W9 ⟨rfl, st9, hle9, hs9', t9⟩
          have hs9 := hle9 _ _ _ rfl hs9'
          show (Code.cond _ .ret .skip).wpIn Fence.wide 4 _ _ a9 W9
          have h40 : a9.eval (.tmp 40) = .bool false := by obtain ⟨_, _, _, _, _, _, h⟩ := hs9; have h : Rep _ (.bool _) (a9.tmps.getD 40 undef) := h 40; simp only [Rep] at h; exact h
          refine wpIn_cond_false h40 (wpIn_skip ?_)
          show d8.wpIn Fence.wide 4 _ _ a9 W9
          refine reg_step (Q := fun _ st' => Le 0 st' ⟨[(5, .int .i64 (atN (j + 1) : Nat)), (22, .int .i64 cnt), (23, .int .i64 j)], []⟩) (hF hk8) hd8 [(0, yv), (1, v1), (21, sv)] (hI3 rfl rfl rfl (t9 (0, yv) (by simp)) (t9 (1, v1) (by simp)) (t9 (21, sv) (by simp)))
            (by simp (maxSteps := 4000000) (disch := omega) only [abv, step, stepv, ev, wl, wn, wp, wz, aop, cV, cV1, AV.one, partCells, okW, onlyFr, app, sliceCells, cellsAt, srcA, subA, eqFs, Int.cast_ofNat_Int, simprocAttr]; exact Le.slots (by simp [Am.look])) hs9 ?_
          intro stA aA WA hleA hsA' tA
          have hsA2 := hleA _ _ _ rfl hsA'
          show d9.wpIn Fence.wide 4 _ _ aA WA
          refine reg_step (Q := fun _ st' => Le 0 st' ⟨[(5, .int .i64 (atN (j + 1) : Nat)), (22, .int .i64 cnt), (23, .int .i64 ((j + 1 : Nat) : Int))], []⟩) (hF hk8) hd9 [(0, yv), (1, v1), (21, sv)] (hI3 rfl rfl rfl (tA (0, yv) (by simp)) (tA (1, v1) (by simp)) (tA (21, sv) (by simp)))
            (by simp (maxSteps := 4000000) (disch := omega) only [abv, step, stepv, ev, wl, wn, wp, wz, aop, cV, cV1, AV.one, partCells, okW, onlyFr, app, sliceCells, cellsAt, srcA, subA, eqFs, Int.cast_ofNat_Int, simprocAttr]; exact Le.slots (by simp [Am.look])) hsA2 ?_
          intro stC aC WC hleC hsC' tC
          have hsC := hleC _ _ _ rfl hsC'
          have WCb : Below W8.heap.size W8 WC := hsC.2.2.1
          obtain ⟨h1, h2, _, _, _, _, hC⟩ := hsC
          have c5 : aC.tmps.getD 5 undef = .int .i64 (atN (j + 1) : Nat) := by have h : Rep _ (.int .i64 _) (aC.tmps.getD 5 undef) := hC 5; simpa only [Rep] using h
          have c22 : aC.tmps.getD 22 undef = .int .i64 cnt := by have h : Rep _ (.int .i64 _) (aC.tmps.getD 22 undef) := hC 22; simpa only [Rep] using h
          have c23 : aC.tmps.getD 23 undef = .int .i64 ((j + 1 : Nat) : Int) := by have h : Rep _ (.int .i64 _) (aC.tmps.getD 23 undef) := hC 23; simpa only [Rep] using h
          refine ⟨⟨j + 1, by omega, h1, h2, tC (0, yv) (by simp), tC (1, v1) (by simp), c5, tC (21, sv) (by simp), c22, c23, (WCb.block br (Array.getElem?_eq_some_iff.1 hbr8).1).trans hbr8, fun b k v hc hv => ?_, ?_⟩, ?_⟩
          · have h := hk8 b k v hc hv
            exact (WCb.cell (p := ⟨b, k, none⟩) (World.block_lt_of_cell? W8 _ h)).trans h
          · rw [finR_take hjc]
            exact hJ _ W8 WC none hJ8 (below_grown WCb) (fun r h => by cases h)
          · simp only [c23, i8, Int.toNat_natCast]
            omega
        · refine ⟨false, rfl, ?_⟩
          have hs8 : Sim (ΓW W8) ⟨[(39, .bool false)], []⟩ ((a7.put (some 38) vj).put (some 39) (.bool false)) W8 :=
            sim0 (d8' false) (z8 false) (rep_fr_cons (by rw [p39]; simp only [Rep]) rep_fr_nil)
          let P0 : Prg := ⟨P.prog, [], fun _ _ h => by cases h⟩
          refine wpListIn_mono ?_ _ _ _ (list_step (P := P0) (N := 43) (Γ := ΓW W8) (Q := fun _ st' => Le 0 st' ⟨[(40, .bool true)], []⟩) ⟨rfl, fun _ _ h => by cases h⟩ hm1 [] (fun p hp => by cases hp)
            (by simp (maxSteps := 4000000) (disch := omega) only [abv, step, stepv, ev, wl, wn, wp, wz, aop, cV, cV1, AV.one, partCells, okW, onlyFr, app, sliceCells, cellsAt, srcA, subA, eqFs, Int.cast_ofNat_Int, simprocAttr, Bool.not_false]; exact Le.slots (by simp [Am.look])) hs8)
          rintro _ a9 W9 ⟨rfl, st9, hle9, hs9', t9⟩
          have hs9 := hle9 _ _ _ rfl hs9'
          show (Code.cond _ .ret .skip).wpIn Fence.wide 4 _ _ a9 W9
          have h40 : a9.eval (.tmp 40) = .bool true := by obtain ⟨_, _, _, _, _, _, h⟩ := hs9; have h : Rep _ (.bool _) (a9.tmps.getD 40 undef) := h 40; simp only [Rep] at h; exact h
          refine wpIn_cond_true h40 (wpIn_ret ?_)
          have hX9 := hJx _ W8 W9 none hX8 (below_grown hs9.2.2.1) (fun r h => by cases h)
          exact ⟨hs9.1, .tuple #[], results_none (Array.ext' hrl) _ _ _, ⟨_, rfl⟩, .inr ⟨_, trivial, hX9⟩⟩
      · have e24 : decide ((j : Int) < cnt) = false := by simp; omega
        rw [e24] at h24
        refine wpIn_cond_false h24 (wpIn_exit ?_)
        have hjc' : j = cnt := by omega
        rw [hjc', List.take_of_length_le (by simp)] at i11
        have hJB : J (List.finRange cnt) WB := hJ _ Wj WB none i11 (below_grown bW) (fun r h => by cases h)
        have hdB : aB.defers = [] := hsB.1
        exact ⟨hdB, .tuple #[], results_none (Array.ext' hrl) _ _ _, ⟨_, rfl⟩, .inl ⟨_, rfl, hJB⟩⟩
end Go.Am

namespace Go.Am
open Go.RowKit

def S_Parts24 (g : Nat) (P : Prg) (f : Nat) : Prop := ∀ (c x r : Int) (l : List Int), VC P f [clA c x r l] (.fn (.func g) [] [.cell [.int .i64 c, .int .i64 x, .int .i64 r, il l]])
theorem clip_parts {P : Prg} {f g t0 : Nat} (b : Body P f 4 [.tmp 2] (ac_clip_parts g t0)) : S_Parts24 g P f := by
  intro c x r l
  refine VC.of_walk 1 (by simp [isDL, isD, isD_il, clA]) (by simp [isD, isDL, isD_il]) (ACall.of_body b (by simp) ?_)
  simp (maxSteps := 4000000) (disch := omega) only [abv, step, stepv, ev, wl, wn, wp, wz, aop, cV, cV1, AV.one, partCells, okW, onlyFr, app, sliceCells, cellsAt, srcA, subA, eqFs, Int.cast_ofNat_Int, simprocAttr, ac_clip_parts, clA, il]
  simp [frzN, frzK, frzL, frzV, isDL, isD, frzL_T _ (isTL_ks .i32 _)]

def partsOf (c r : Int) (l : List Int) : List (List Int) := (List.range (lensL (longN r).toNat (l.length / c.toNat)).length).map (partL ((longN r).toNat * c.toNat) l)

theorem clip_ok {c x r : Int} {l : List Int} (h : clipN c x r l = 0) : ∃ k n : Nat, c = k ∧ 1 ≤ k ∧ k ≤ 1000 ∧ l.length = n * k ∧ okA r n ∧ l.length ≤ 4000 := by
  unfold clipN at h
  split at h
  · cases h
  rename_i h1
  split at h
  · cases h
  rename_i h2
  split at h
  · cases h
  rename_i h3
  have h3' : headN c x r (l.length / c) = 0 := by simpa using h3
  have h2' : (l.length : Int) % c = 0 := by simpa using h2
  obtain ⟨k, rfl⟩ : ∃ k : Nat, c = k := ⟨c.toNat, by omega⟩
  have e1 : (l.length : Int) / (k : Int) = ((l.length / k : Nat) : Int) := by simp
  have e2 : l.length % k = 0 := by exact_mod_cast h2'
  rw [e1] at h3'
  have e3 := Nat.div_add_mod l.length k
  rw [e2, Nat.add_zero, Nat.mul_comm] at e3
  unfold headN at h3'
  split at h3'
  · cases h3'
  rename_i a1
  split at h3'
  · cases h3'
  rename_i a2
  split at h3'
  · cases h3'
  rename_i a3
  split at h3'
  · cases h3'
  rename_i a4
  obtain ⟨n, hn⟩ : ∃ n, l.length / k = n := ⟨_, rfl⟩
  rw [hn] at e3 a2 a3 a4
  have a5 : eCheck k x = 0 := by simpa using a1
  have a6 : cntE r n = 0 := by simpa using a4
  rcases eCheck_cases (k : Int) x with h4 | ⟨_, h5, h6, h7⟩
  · omega
  have hle : n * k ≤ 4000 := by
    have h8 : (n : Int) ≤ 4000 / (k : Int) := by omega
    have h9 := Int.mul_le_of_le_ediv (a := (n : Int)) (b := 4000) (c := (k : Int)) (by omega) h8
    have h10 : ((n * k : Nat) : Int) ≤ 4000 := by rw [Int.natCast_mul]; exact h9
    omega
  have hn4 : n ≤ 4000 := Nat.le_trans (Nat.le_mul_of_pos_right n (by omega)) hle
  refine ⟨k, n, rfl, by omega, by omega, e3.symm, ?_, by omega⟩
  unfold cntE at a6
  split at a6
  · cases a6
  split at a6
  · cases a6
  split at a6
  · cases a6
  rename_i b1 b2 b3
  refine ⟨by omega, by omega, by omega, by omega, ?_⟩
  have hlong : 1 ≤ longN r := longN_pos r
  obtain ⟨L, hLe⟩ : ∃ L : Nat, longN r = L := ⟨(longN r).toNat, by omega⟩
  rw [hLe, Int.toNat_natCast, Int.toNat_natCast, lensL_len]
  rw [hLe] at b3
  have h1 : (n : Int) + (L : Int) - 1 = ((n - 1 + L : Nat) : Int) := by omega
  rw [h1, ← Int.natCast_ediv, Nat.add_div_right _ (by omega)] at b3
  omega

theorem partsOf_len (c r : Int) (l : List Int) : (partsOf c r l).length = (lensL (longN r).toNat (l.length / c.toNat)).length := by simp [partsOf]
theorem isTL_map_il : ∀ L : List (List Int), isTL (L.map il) = true
  | [] => rfl
  | l :: L => by simp [isTL, isT, il, isTL_ks, isTL_map_il L]

def S_CloneJ (P : Prg) (f : Nat) : Prop := ∀ l : List Int, l.length ≤ 1000000 → VC P f [il l] (il l)
theorem clone_j {P : Prg} {f t0 : Nat} (b : Body P f 8 [.tmp 2] (ac_slices_Clone_int32_int32 t0)) : S_CloneJ P f := by
  intro l h1
  refine VC.of_walk 1 (by simp [isDL, isD_il]) (isD_il _) (ACall.of_body b (by simp) ?_)
  have tl := isTL_ks .i32 l
  by_cases h0 : l = []
  · subst h0
    simp (maxSteps := 4000000) (disch := omega) only [abv, step, stepv, ev, wl, wn, wp, wz, aop, cV, cV1, AV.one, partCells, okW, onlyFr, app, sliceCells, cellsAt, srcA, subA, eqFs, Int.cast_ofNat_Int, simprocAttr, ac_slices_Clone_int32_int32, il, nilA, ks_nil]
    simp [frzN, frzK, frzL, frzV, isDL, isD]
  · have n0 : l.length ≠ 0 := by simpa using h0
    simp (maxSteps := 4000000) (disch := omega) only [abv, step, stepv, ev, wl, wn, wp, wz, aop, cV, cV1, AV.one, partCells, okW, onlyFr, app, sliceCells, cellsAt, srcA, subA, eqFs, Int.cast_ofNat_Int, simprocAttr, ac_slices_Clone_int32_int32, il, nilA, n0, ks_nil]
    simp [frzN, frzK, frzL, frzV, isDL, isD, frzL_T _ tl]

def splitA (c x r : Int) (l : List Int) : AV := if clipN c x r l = 0 then .tup [iss (partsOf c r l), .int .i64 0] else .tup [iss [], .int .i64 8]
theorem isD_splitA (c x r : Int) (l : List Int) : isD (splitA c x r l) = true := by unfold splitA; split <;> simp [isD, isDL, isD_iss]
theorem clipN_cases (c x r : Int) (l : List Int) : clipN c x r l = 0 ∨ clipN c x r l = 8 := by
  unfold clipN; repeat' split
  all_goals simp
def S_Split (P : Prg) (f : Nat) : Prop := ∀ (c x r : Int) (l : List Int), I32 l → l.length ≤ 1000000 → VC P f [clA c x r l] (splitA c x r l)
theorem clip_Split {P : Prg} {f fC fP fK fA g t0 t1 t2 ti : Nat} (b : BodyC P f 21 [.tmp 2, .tmp 3] (ac_clip_Split fC fP fK t0 t1 t2)) (hC : S_ClipCheck P fC) (hP : S_Parts24 g P fP) (hI : S_PartsIt ti P g) (bG : Body P g 43 [] (ac_clip_parts_1 fA)) (hK : S_CloneJ P fK)
    (h0 : t0 ≠ ti) (h1 : t1 ≠ ti) (h2 : t2 ≠ ti) : S_Split P f := by
  intro c x r l hI32 hl
  refine VC.of_walk 2 (by simp [isDL, isD, isD_il, clA]) (isD_splitA _ _ _ _) (ACall.of_rangeC b (by simp) ?_)
  have hC' := hC c x r l hI32 hl
  rw [il] at hC'
  rcases clipN_cases c x r l with h | h
  · rw [h] at hC'
    have e9 : splitA c x r l = .tup [iss (partsOf c r l), .int .i64 0] := by rw [splitA, if_pos h]
    obtain ⟨k, n, rfl, k1, k2, hlen, hok, h4⟩ := clip_ok h
    have hP' := hP k x r l
    have hI' := hI k n x r l k1 k2 hlen hok
    rw [clA] at hP'
    rw [il] at hP' hI'
    simp (maxSteps := 4000000) (disch := omega) only [abv, step, stepv, ev, wl, wn, wp, wz, aop, cV, cV1, AV.one, partCells, okW, onlyFr, app, sliceCells, cellsAt, srcA, subA, eqFs, Int.cast_ofNat_Int, simprocAttr, ac_clip_Split, clA, il, wpR_cons, wpR_nil, kS_normal, kS_ret, kR_normal, kR_ret]
    refine callQ.vc hC' ?_
    simp (maxSteps := 4000000) (disch := omega) only [abv, step, stepv, ev, wl, wn, wp, wz, aop, cV, cV1, AV.one, partCells, okW, onlyFr, app, sliceCells, cellsAt, srcA, subA, eqFs, Int.cast_ofNat_Int, simprocAttr, kS_normal, wpR_cons, wpR_nil]
    refine callQ.vc hP' ?_
    simp (maxSteps := 4000000) (disch := omega) only [abv, step, stepv, ev, wl, wn, wp, wz, aop, cV, cV1, AV.one, partCells, okW, onlyFr, app, sliceCells, cellsAt, srcA, subA, eqFs, Int.cast_ofNat_Int, simprocAttr, kR_normal]
    obtain ⟨Lc, hLc⟩ : ∃ Lc, (longN r).toNat * k = Lc := ⟨_, rfl⟩
    rw [hLc] at hI'
    have hcnt : (lensL (longN r).toNat n).length ≤ 1000 := by have := hok.2.2.2.2; rwa [Int.toNat_natCast] at this
    obtain ⟨cnt, hcn⟩ : ∃ cnt, (lensL (longN r).toNat n).length = cnt := ⟨_, rfl⟩
    have hpo : partsOf k r l = (List.finRange cnt).map (fun j => partL Lc l j.1) := by
      unfold partsOf
      rw [Int.toNat_natCast, hlen, Nat.mul_div_cancel _ (by omega), hcn, hLc]
      apply List.ext_getElem <;> simp
    rw [hcn] at hI' hcnt
    refine ⟨cnt, g, _, [ti], _, [(13, .fn (.func g) [] [.cell [.int .i64 k, .int .i64 x, .int .i64 r, .list l.length (ks .i32 l)]]), (1, .ref 0 1 0), (5, .ref 1 1 0)],
      fun pre => [⟨t0, 4, 1, [.int .i64 k, .int .i64 x, .int .i64 r, .list l.length (ks .i32 l)], 0⟩, ⟨t1, 1, 1, [.own 2 pre.length], 0⟩, ⟨t2, 1, pre.length, pre.map (fun j => il (partL Lc l j.1)), 0⟩], ?_, rfl, bG.ent, by simp [isDL, isD, isDL_ks], hI', by omega, by omega, rfl, ?_, ?_, ?_⟩
    · refine Le.trans (Le.virtF (p := 1) (ty := t2) (sz := 1) (by omega) rfl rfl) (Le.slots (by simp [Am.look]))
    · intro pre x hx
      simp only [List.mem_cons, List.not_mem_nil, or_false] at hx ⊢
      rcases hx with rfl | rfl | rfl
      · exact h0
      · exact h1
      · exact h2
    · intro pre x hpl
      have hK' := hK (partL Lc l x.1) (by unfold partL; simp; omega)
      have hyl : (partL Lc l x.1).length ≤ 4000 := by unfold partL; simp; omega
      have hpm : (pre.map (fun j => il (partL Lc l j.1))).length = pre.length := by simp
      obtain ⟨y, hy⟩ : ∃ y, partL Lc l x.1 = y := ⟨_, rfl⟩
      have ty := isTL_ks .i32 y
      rw [hy] at hK' hyl ⊢
      rw [il] at hK' ⊢
      simp (maxSteps := 4000000) (disch := omega) only [abv, step, stepv, ev, wl, wn, wp, wz, aop, cV, cV1, AV.one, partCells, okW, onlyFr, app, sliceCells, cellsAt, srcA, subA, eqFs, Int.cast_ofNat_Int, simprocAttr]
      refine callD.vc hK' ?_
      simp (maxSteps := 4000000) (disch := omega) only [abv, step, stepv, ev, wl, wn, wp, wz, aop, cV, cV1, AV.one, partCells, okW, onlyFr, app, sliceCells, cellsAt, srcA, subA, eqFs, Int.cast_ofNat_Int, simprocAttr, hpm]
      refine Le.drop 3 2 (by omega) rfl (by simp) ?_
      intro i z hz
      match i, hz with
      | 0, hz => cases hz; exact ⟨_, rfl, by simp [frzK, frzL, frzV, frzL_T _ (isTL_ks .i32 _)]⟩
      | 1, hz => cases hz; exact ⟨_, rfl, by simp [frzK, frzL, frzV]⟩
      | 2, hz =>
        cases hz
        have e : (pre ++ [x]).map (fun j => il (partL Lc l j.1)) = pre.map (fun j => il (partL Lc l j.1)) ++ [.list y.length (ks .i32 y)] := by simp [hy, il]
        rw [e]
        refine ⟨_, rfl, frzL_T _ ?_⟩
        rw [← e]
        have := isTL_map_il ((pre ++ [x]).map (fun j => partL Lc l j.1))
        rwa [List.map_map] at this
      | i + 3, hz => simp at hz
    · have hfl : (List.finRange cnt).length = cnt := by simp
      have hpi : (List.finRange cnt).map (fun j => il (partL Lc l j.1)) = (partsOf k r l).map il := by rw [hpo, List.map_map]; rfl
      dsimp only
      rw [hpi, hfl, e9]
      have hpl : (partsOf k r l).length = cnt := by rw [hpo]; simp
      have tp := isTL_map_il (partsOf k r l)
      generalize hPP : (partsOf k r l).map il = PP at *
      simp (maxSteps := 4000000) (disch := omega) only [abv, step, stepv, ev, wl, wn, wp, wz, aop, cV, cV1, AV.one, partCells, okW, onlyFr, app, sliceCells, cellsAt, srcA, subA, eqFs, Int.cast_ofNat_Int, simprocAttr]
      simp [frzN, frzK, frzL, frzV, isDL, isD, iss, hpl, hPP, frzL_T _ tp]
  · rw [h] at hC'
    have e9 : splitA c x r l = .tup [iss [], .int .i64 8] := by rw [splitA, if_neg (by omega)]
    simp (maxSteps := 4000000) (disch := omega) only [abv, step, stepv, ev, wl, wn, wp, wz, aop, cV, cV1, AV.one, partCells, okW, onlyFr, app, sliceCells, cellsAt, srcA, subA, eqFs, Int.cast_ofNat_Int, simprocAttr, ac_clip_Split, clA, il, wpR_cons, wpR_nil, kS_normal, kS_ret, kR_normal, kR_ret]
    refine callQ.vc hC' ?_
    simp (maxSteps := 4000000) (disch := omega) only [abv, step, stepv, ev, wl, wn, wp, wz, aop, cV, cV1, AV.one, partCells, okW, onlyFr, app, sliceCells, cellsAt, srcA, subA, eqFs, Int.cast_ofNat_Int, simprocAttr, kS_normal, kS_ret, wpR_cons, wpR_nil, e9]
    simp [frzN, frzK, frzL, frzV, isDL, isD, iss]
end Go.Am

namespace Go.Am
open Go.RowKit

/-! ### clip.Join -/

def S_ConcatJ (P : Prg) (f : Nat) : Prop := ∀ L : List (List Int), L.length ≤ 1000000 → L.flatten.length ≤ 1000000 → VC P f [iss L] (il L.flatten)
theorem slices_ConcatJ {P : Prg} {f fG t0 : Nat} (bd : Body P f 36 [.tmp 2] (ac_slices_Concat_int32_int32 fG t0)) (hG : S_GrowNilJ t0 P fG) : S_ConcatJ P f := by
  intro L hL h1
  refine VC.of_walk 1 (by simp [isDL, isD_iss]) (isD_il _) (ACall.of_body bd (by simp) ?_)
  have hat : ∀ k, k < L.length → (L.map il).drop k = il (L.getD k []) :: (L.map il).drop (k + 1) := fun k hk => ils_at hk
  have hml : (L.map il).length = L.length := by simp
  simp only [il] at hat
  simp (maxSteps := 4000000) (disch := omega) only [abv, step, stepv, ev, wl, wn, wp, wz, aop, cV, cV1, AV.one, partCells, okW, onlyFr, app, sliceCells, cellsAt, srcA, subA, eqFs, Int.cast_ofNat_Int, simprocAttr, ac_slices_Concat_int32_int32, iss]
  refine ALoop.by (ι := Nat) (fun k => ⟨[(11, .int .i64 k), (10, .int .i64 L.length), (9, .list L.length (L.map il)), (3, .int .i64 (L.take k).flatten.length), (0, .list L.length (L.map il))], []⟩) (fun k => k ≤ L.length) (fun k => L.length - k) 0 (Le.slots (by simp [Am.look])) (by omega) ?_
  intro k hk
  by_cases hlt : k < L.length
  · have ha := hat k hlt
    have hf := flatI_take hlt
    have hle := flatI_le L (k + 1)
    rw [hf, List.length_append] at hle
    have hl : ((L.take (k + 1)).flatten.length : Int) = (L.take k).flatten.length + (L.getD k []).length := by rw [hf]; simp
    generalize (L.take k).flatten.length = s at *
    generalize L.getD k [] = x at *
    simp (maxSteps := 4000000) (disch := omega) only [abv, step, stepv, ev, wl, wn, wp, wz, aop, cV, cV1, AV.one, partCells, okW, onlyFr, app, sliceCells, cellsAt, srcA, subA, eqFs, Int.cast_ofNat_Int, simprocAttr, ha, hml]
    exact ⟨k + 1, by omega, by omega, by simp only [hl]; exact Le.slots (by simp [Am.look])⟩
  obtain rfl : k = L.length := by omega
  rw [List.take_length]
  simp (maxSteps := 4000000) (disch := omega) only [abv, step, stepv, ev, wl, wn, wp, wz, aop, cV, cV1, AV.one, partCells, okW, onlyFr, app, sliceCells, cellsAt, srcA, subA, eqFs, Int.cast_ofNat_Int, simprocAttr]
  refine hG [] L.flatten.length true _ h1 ?_
  simp (maxSteps := 4000000) (disch := omega) only [abv, step, stepv, ev, wl, wn, wp, wz, aop, cV, cV1, AV.one, partCells, okW, onlyFr, app, sliceCells, cellsAt, srcA, subA, eqFs, Int.cast_ofNat_Int, simprocAttr]
  refine ALoop.by (ι := Nat) (fun k => ⟨[(27, .int .i64 k), (26, .int .i64 L.length), (25, .list L.length (L.map il)), (6, .own 0 (L.take k).flatten.length)], [⟨t0, 1, (L.take k).flatten.length, ks .i32 (L.take k).flatten, 0⟩]⟩) (fun k => k ≤ L.length) (fun k => L.length - k) 0 (Le.slots (by simp [Am.look])) (by omega) ?_
  intro k hk
  by_cases hlt : k < L.length
  · have ha := hat k hlt
    have hf := flatI_take hlt
    have hle := flatI_le L (k + 1)
    rw [hf, List.length_append] at hle
    have hl : (L.take (k + 1)).flatten.length = (L.take k).flatten.length + (L.getD k []).length := by rw [hf]; simp
    have hu : ks .i32 (L.take (k + 1)).flatten = ks .i32 (L.take k).flatten ++ ks .i32 (L.getD k []) := by rw [hf]; simp [ks]
    have hc : (ks .i32 (L.take k).flatten).length = (L.take k).flatten.length := ks_length _ _
    have hx : (ks .i32 (L.getD k [])).length = (L.getD k []).length := ks_length _ _
    generalize ks .i32 (L.take k).flatten = cs at *
    generalize (L.take k).flatten.length = s at *
    generalize ks .i32 (L.getD k []) = us at *
    generalize (L.getD k []).length = xl at *
    simp (maxSteps := 4000000) (disch := omega) only [abv, step, stepv, ev, wl, wn, wp, wz, aop, cV, cV1, AV.one, partCells, okW, onlyFr, app, sliceCells, cellsAt, srcA, subA, eqFs, Int.cast_ofNat_Int, simprocAttr, ha, hml, hc, hx]
    exact ⟨k + 1, by omega, by omega, by rw [hl, hu]; exact Le.slots (by simp [Am.look])⟩
  obtain rfl : k = L.length := by omega
  rw [List.take_length]
  have tl := isTL_ks .i32 L.flatten
  simp (maxSteps := 4000000) (disch := omega) only [abv, step, stepv, ev, wl, wn, wp, wz, aop, cV, cV1, AV.one, partCells, okW, onlyFr, app, sliceCells, cellsAt, srcA, subA, eqFs, Int.cast_ofNat_Int, simprocAttr]
  simp [frzN, frzK, frzL, frzV, isDL, isD, il, frzL_T _ tl]

def S_LenEq (P : Prg) (g : Nat) : Prop := ∀ a b : List Int, VC P g [il a, il b] (.bool (decide (a.length = b.length)))
theorem clip_Join1 {P : Prg} {f : Nat} (bd : Body P f 10 [.tmp 4] ac_clip_Join_1) : S_LenEq P f := by
  intro a b
  refine VC.of_acall (by simp [isDL, isD_il]) rfl (ACall.of_body bd (by simp) ?_)
  by_cases h : a.length = b.length
  · simp (maxSteps := 4000000) (disch := omega) only [abv, step, stepv, ev, wl, wn, wp, wz, aop, cV, cV1, AV.one, partCells, okW, onlyFr, app, sliceCells, cellsAt, srcA, subA, eqFs, Int.cast_ofNat_Int, simprocAttr, ac_clip_Join_1, il, h]
    try simp
  · have e : ((a.length : Int) == (b.length : Int)) = false := by simp; omega
    simp (maxSteps := 4000000) (disch := omega) only [abv, step, stepv, ev, wl, wn, wp, wz, aop, cV, cV1, AV.one, partCells, okW, onlyFr, app, sliceCells, cellsAt, srcA, subA, eqFs, Int.cast_ofNat_Int, simprocAttr, ac_clip_Join_1, il, e]
    try simp [h]
def S_EqFn (g : Nat) (P : Prg) (f : Nat) : Prop := ∀ a b : List (List Int), a.length ≤ 1000000 → b.length ≤ 1000000 → VC P f [iss a, iss b, .fn (.func g) [] []] (.bool (decide (a.map (·.length) = b.map (·.length))))
theorem slices_EqualFunc {P : Prg} {f g : Nat} (bd : Body P f 32 [.tmp 6] ac_slices_EqualFunc_int32_int32_int32_int32) (hg : S_LenEq P g) : S_EqFn g P f := by
  intro a b ha hb
  refine VC.of_acall (by simp [isDL, isD, isD_iss]) rfl (ACall.of_body bd (by simp) ?_)
  have la' : (a.map il).length = a.length := by simp
  have lb' : (b.map il).length = b.length := by simp
  by_cases hn : a.length = b.length
  · have fin : ∀ e : (∀ j, j < b.length → (a.getD j []).length = (b.getD j []).length), a.map (·.length) = b.map (·.length) := fun e => by
      apply List.ext_getElem (by simpa using hn)
      intro i h1 h2
      have h3 : i < a.length := by simpa using h1
      have h4 : i < b.length := by simpa using h2
      have := e i h4
      simpa [List.getD_eq_getElem?_getD, List.getElem?_eq_getElem h3, List.getElem?_eq_getElem h4] using this
    simp (maxSteps := 4000000) (disch := omega) only [abv, step, stepv, ev, wl, wn, wp, wz, aop, cV, cV1, AV.one, partCells, okW, onlyFr, app, sliceCells, cellsAt, srcA, subA, eqFs, Int.cast_ofNat_Int, simprocAttr, ac_slices_EqualFunc_int32_int32_int32_int32, iss, hn]
    refine ALoop.by (ι := Nat) (fun k => ⟨[(17, .int .i64 k), (16, .int .i64 b.length), (15, .list b.length (a.map il)), (1, .list b.length (b.map il)), (2, .fn (.func g) [] [])], []⟩) (fun k => k ≤ b.length ∧ ∀ j, j < k → (a.getD j []).length = (b.getD j []).length) (fun k => b.length - k) 0 (Le.slots (by simp [Am.look])) ⟨by omega, by simp⟩ ?_
    intro k ⟨hk, hgd⟩
    by_cases hlt : k < b.length
    · have e1 := ils_at (L := a) (k := k) (by omega)
      have e2 := ils_at (L := b) (k := k) hlt
      have hS' := hg (a.getD k []) (b.getD k [])
      simp (maxSteps := 4000000) (disch := omega) only [abv, step, stepv, ev, wl, wn, wp, wz, aop, cV, cV1, AV.one, partCells, okW, onlyFr, app, sliceCells, cellsAt, srcA, subA, eqFs, Int.cast_ofNat_Int, simprocAttr, e1, e2, la', lb', hn]
      refine callQ.vc hS' ?_
      by_cases he : (a.getD k []).length = (b.getD k []).length
      · have e8 : decide ((a.getD k []).length = (b.getD k []).length) = true := decide_eq_true he
        simp (maxSteps := 4000000) (disch := omega) only [abv, step, stepv, ev, wl, wn, wp, wz, aop, cV, cV1, AV.one, partCells, okW, onlyFr, app, sliceCells, cellsAt, srcA, subA, eqFs, Int.cast_ofNat_Int, simprocAttr, e8, Bool.not_true]
        exact ⟨k + 1, ⟨by omega, fun j hj => by
          by_cases e : j = k
          · rw [e]; exact he
          · exact hgd j (by omega)⟩, by omega, Le.slots (by simp [Am.look])⟩
      · have e8 : decide ((a.getD k []).length = (b.getD k []).length) = false := decide_eq_false he
        have e9 : decide (a.map (·.length) = b.map (·.length)) = false := decide_eq_false (fun h => he (by
          have := congrArg (fun l => l[k]?) h
          simp only [List.getElem?_map] at this
          rw [List.getElem?_eq_getElem (by omega : k < a.length), List.getElem?_eq_getElem hlt] at this
          simpa [List.getD_eq_getElem?_getD, List.getElem?_eq_getElem (by omega : k < a.length), List.getElem?_eq_getElem hlt] using this))
        simp (maxSteps := 4000000) (disch := omega) only [abv, step, stepv, ev, wl, wn, wp, wz, aop, cV, cV1, AV.one, partCells, okW, onlyFr, app, sliceCells, cellsAt, srcA, subA, eqFs, Int.cast_ofNat_Int, simprocAttr, e8, e9, Bool.not_false]
    · obtain rfl : k = b.length := by omega
      have e9 : decide (a.map (·.length) = b.map (·.length)) = true := decide_eq_true (fin hgd)
      simp (maxSteps := 4000000) (disch := omega) only [abv, step, stepv, ev, wl, wn, wp, wz, aop, cV, cV1, AV.one, partCells, okW, onlyFr, app, sliceCells, cellsAt, srcA, subA, eqFs, Int.cast_ofNat_Int, simprocAttr, e9]
  · have e9 : decide (a.map (·.length) = b.map (·.length)) = false := decide_eq_false (fun h => hn (by simpa using congrArg List.length h))
    simp (maxSteps := 4000000) (disch := omega) only [abv, step, stepv, ev, wl, wn, wp, wz, aop, cV, cV1, AV.one, partCells, okW, onlyFr, app, sliceCells, cellsAt, srcA, subA, eqFs, Int.cast_ofNat_Int, simprocAttr, ac_slices_EqualFunc_int32_int32_int32_int32, iss, e9]

/-! The parts of a whole. -/

theorem parts_take (Lc : Nat) (l : List Int) : ∀ m : Nat, ((List.range m).map (partL Lc l)).flatten = l.take (m * Lc)
  | 0 => by simp
  | m + 1 => by
    rw [List.range_succ, List.map_append, List.flatten_append, parts_take Lc l m, Nat.add_mul, Nat.one_mul, List.take_add]
    simp [partL]
theorem parts_flat {c x r : Int} {l : List Int} (h : clipN c x r l = 0) : (partsOf c r l).flatten = l := by
  obtain ⟨k, n, rfl, h1, h2, h3, ⟨o1, o2, o3, o4, o5⟩, h4⟩ := clip_ok h
  unfold partsOf
  rw [parts_take, Int.toNat_natCast, h3, Nat.mul_div_cancel _ (by omega), lensL_len, List.take_of_length_le]
  have hL : 1 ≤ (longN r).toNat := by have := longN_pos r; omega
  have g2 : n - 1 < (n - 1) / (longN r).toNat * (longN r).toNat + (longN r).toNat := Nat.lt_div_mul_add (by omega)
  rw [h3, ← Nat.mul_assoc, Nat.add_mul, Nat.one_mul]
  refine Nat.mul_le_mul_right _ ?_
  generalize (n - 1) / (longN r).toNat * (longN r).toNat = w at *
  omega
theorem flat_ext : ∀ {A B : List (List Int)}, A.map (·.length) = B.map (·.length) → A.flatten = B.flatten → A = B
  | [], [], _, _ => rfl
  | [], b :: B, h, _ => by simp at h
  | a :: A, [], h, _ => by simp at h
  | a :: A, b :: B, h, e => by
    simp only [List.map_cons, List.cons.injEq] at h
    simp only [List.flatten_cons] at e
    obtain ⟨e1, e2⟩ := List.append_inj e h.1
    rw [e1, flat_ext h.2 e2]
theorem partsOf_le {c x r : Int} {l : List Int} (h : clipN c x r l = 0) : (partsOf c r l).length ≤ 1000 := by
  obtain ⟨k, n, rfl, h1, h2, h3, ⟨o1, o2, o3, o4, o5⟩, h4⟩ := clip_ok h
  rw [partsOf_len, Int.toNat_natCast, h3, Nat.mul_div_cancel _ (by omega)]
  rwa [Int.toNat_natCast] at o5
def joinA (c x r : Int) (L : List (List Int)) : AV :=
  if clipN c x r L.flatten = 0 then (if L = partsOf c r L.flatten then .tup [clA c x r L.flatten, .int .i64 0] else .tup [clA 0 0 0 [], .int .i64 12]) else .tup [clA 0 0 0 [], .int .i64 8]
theorem isD_joinA (c x r : Int) (L : List (List Int)) : isD (joinA c x r L) = true := by
  unfold joinA; split <;> (try split) <;> simp [isD, isDL, isD_il, clA]
def S_Join24 (P : Prg) (f : Nat) : Prop := ∀ (c x r : Int) (l : List Int) (L : List (List Int)), (∀ p ∈ L, I32 p) → L.length ≤ 1000000 → L.flatten.length ≤ 1000000 → VC P f [clA c x r l, iss L] (joinA c x r L)
theorem I32_flat {L : List (List Int)} (h : ∀ p ∈ L, I32 p) : I32 L.flatten := fun x hx => by
  obtain ⟨p, hp, hx⟩ := List.mem_flatten.1 hx
  exact h p hp x hx
theorem lens_parts {c x r : Int} {L : List (List Int)} (h : clipN c x r L.flatten = 0) : (partsOf c r L.flatten).map (·.length) = L.map (·.length) ↔ L = partsOf c r L.flatten :=
  ⟨fun e => (flat_ext e (parts_flat h)).symm, fun e => by rw [← e]⟩

theorem clip_Join {P : Prg} {f fK fS fE g t0 : Nat} (bd : Body P f 26 [.cell 4 t0, .tmp 5] (ac_clip_Join fK fS fE g t0)) (hK : S_ConcatJ P fK) (hS : S_Split P fS) (hE : S_EqFn g P fE) (ht : aggO P t0 = some (some 4)) : S_Join24 P f := by
  intro c x r l L hI hL hF
  refine VC.of_walk 2 (by simp [isDL, isD, isD_il, clA, isD_iss]) (isD_joinA _ _ _ _) (ACall.of_body bd (by simp) ?_)
  have hK' := hK L hL hF
  have hS' := hS c x r L.flatten (I32_flat hI) hF
  have tl := isTL_ks .i32 L.flatten
  rw [clA] at hS'
  rw [il] at hS' hK'
  simp (maxSteps := 4000000) (disch := omega) only [abv, step, stepv, ev, wl, wn, wp, wz, aop, cV, cV1, AV.one, partCells, okW, onlyFr, app, sliceCells, cellsAt, srcA, subA, eqFs, Int.cast_ofNat_Int, simprocAttr, ac_clip_Join, clA, il]
  refine callQ.vc hK' ?_
  simp (maxSteps := 4000000) (disch := omega) only [abv, step, stepv, ev, wl, wn, wp, wz, aop, cV, cV1, AV.one, partCells, okW, onlyFr, app, sliceCells, cellsAt, srcA, subA, eqFs, Int.cast_ofNat_Int, simprocAttr]
  refine callQ.vc hS' ?_
  rcases clipN_cases c x r L.flatten with h | h
  · have e1 : splitA c x r L.flatten = .tup [iss (partsOf c r L.flatten), .int .i64 0] := by rw [splitA, if_pos h]
    have hE' := hE (partsOf c r L.flatten) L (by have := partsOf_le h; omega) hL
    simp (maxSteps := 4000000) (disch := omega) only [abv, step, stepv, ev, wl, wn, wp, wz, aop, cV, cV1, AV.one, partCells, okW, onlyFr, app, sliceCells, cellsAt, srcA, subA, eqFs, Int.cast_ofNat_Int, simprocAttr, e1]
    refine callQ.vc hE' ?_
    by_cases h2 : L = partsOf c r L.flatten
    · have e2 : decide ((partsOf c r L.flatten).map (·.length) = L.map (·.length)) = true := decide_eq_true ((lens_parts h).2 h2)
      have e9 : joinA c x r L = .tup [clA c x r L.flatten, .int .i64 0] := by rw [joinA, if_pos h, if_pos h2]
      simp (maxSteps := 4000000) (disch := omega) only [abv, step, stepv, ev, wl, wn, wp, wz, aop, cV, cV1, AV.one, partCells, okW, onlyFr, app, sliceCells, cellsAt, srcA, subA, eqFs, Int.cast_ofNat_Int, simprocAttr, e2, Bool.not_true, resA, ht, e9]
      simp [frzN, frzK, frzL, frzV, isDL, isD, clA, il, frzL_T _ tl]
    · have e2 : decide ((partsOf c r L.flatten).map (·.length) = L.map (·.length)) = false := decide_eq_false (fun h3 => h2 ((lens_parts h).1 h3))
      have e9 : joinA c x r L = .tup [clA 0 0 0 [], .int .i64 12] := by rw [joinA, if_pos h, if_neg h2]
      simp (maxSteps := 4000000) (disch := omega) only [abv, step, stepv, ev, wl, wn, wp, wz, aop, cV, cV1, AV.one, partCells, okW, onlyFr, app, sliceCells, cellsAt, srcA, subA, eqFs, Int.cast_ofNat_Int, simprocAttr, e2, Bool.not_false, resA, ht, e9]
      simp [frzN, frzK, frzL, frzV, isDL, isD, clA, il, ks]
  · have e1 : splitA c x r L.flatten = .tup [iss [], .int .i64 8] := by rw [splitA, if_neg (by omega)]
    have e9 : joinA c x r L = .tup [clA 0 0 0 [], .int .i64 8] := by rw [joinA, if_neg (by omega)]
    simp (maxSteps := 4000000) (disch := omega) only [abv, step, stepv, ev, wl, wn, wp, wz, aop, cV, cV1, AV.one, partCells, okW, onlyFr, app, sliceCells, cellsAt, srcA, subA, eqFs, Int.cast_ofNat_Int, simprocAttr, e1, resA, ht, e9]
    simp [frzN, frzK, frzL, frzV, isDL, isD, clA, il, ks]
end Go.Am

namespace Go.Am
open Go.RowKit

/-! ### The reference's Parts, Split, Join -/

def S_RParts (P : Prg) (f : Nat) : Prop := ∀ (c x r : Int) (l : List Int), clipN c x r l = 0 → VC P f [clA c x r l] (iss (partsOf c r l))
theorem ref24_Parts {P : Prg} {f fA t0 t1 t2 : Nat} (bd : Body P f 48 [.tmp 2] (ac_cadenzaref24_Parts fA t0 t1 t2)) (hA : S_All22 P fA) : S_RParts P f := by
  intro c x r l h
  have hle := partsOf_le h
  have hpl := partsOf_len c r l
  obtain ⟨k, n, rfl, k1, k2, hlen, ⟨o1, o2, o3, o4, o5⟩, h4⟩ := clip_ok h
  refine VC.of_walk 2 (by simp [isDL, isD, isD_il, clA]) (isD_iss _) (ACall.of_body bd (by simp) ?_)
  obtain ⟨L, hL⟩ : ∃ L, (longN r).toNat = L := ⟨_, rfl⟩
  have hL1 : 1 ≤ L := by have := longN_pos r; omega
  have hA' := hA r n
  have e1 : allA r n = .tup [i64L (lensL L n), .int .i64 0] := by
    unfold allA
    rw [if_neg (by omega), if_neg (by omega), hL, Int.toNat_natCast]
  rw [e1] at hA'
  rw [Int.toNat_natCast, hlen, Nat.mul_div_cancel _ (by omega), hL] at hpl
  have hk0 : ((n * k : Nat) : Int) / (k : Int) = n := by rw [Int.natCast_mul, Int.mul_ediv_cancel _ (by omega)]
  have hk3 : ((n * k : Nat) : Int).tdiv (k : Int) = n := by rw [Int.tdiv_eq_ediv_of_nonneg (by omega), hk0]
  obtain ⟨cnt, hcnt⟩ : ∃ cnt, (lensL L n).length = cnt := ⟨_, rfl⟩
  have pf : ∀ j, j < cnt → ∃ m mk : Nat, (lensL L n).getD j 0 = m ∧ m ≤ n ∧ m * k = mk ∧ mk ≤ (l.drop (j * (L * k))).length ∧ (partsOf k r l).getD j [] = (l.drop (j * (L * k))).take mk ∧ (l.drop (j * (L * k))).drop mk = l.drop ((j + 1) * (L * k)) := fun j hj => by
    obtain ⟨m, h1, h2, h3, h4, h5, h6, h7⟩ := part_facts (j := j) hlen (by omega) hL1 (by rw [hcnt]; exact hj)
    refine ⟨m, m * k, h1, h2, rfl, by rw [List.length_drop, hlen]; omega, ?_, ?_⟩
    · rw [← h6]
      unfold partsOf
      rw [Int.toNat_natCast, hlen, Nat.mul_div_cancel _ (by omega), hL, hcnt, List.getD_eq_getElem?_getD, List.getElem?_map, List.getElem?_range hj]
      rfl
    · rw [List.drop_drop]
      rcases Nat.le_total ((j + 1) * (L * k)) (n * k) with h8 | h8
      · rw [Nat.min_eq_left h8] at h5
        rw [h5]
      · rw [Nat.min_eq_right h8] at h5
        rw [List.drop_of_length_le (by omega), List.drop_of_length_le (by omega)]
  rw [hcnt] at hpl
  rw [hpl] at hle
  obtain ⟨Lc, hLc⟩ : ∃ Lc, L * k = Lc := ⟨_, rfl⟩
  rw [hLc] at pf
  have tl := isTL_ks .i32 l
  have lenl : (ks .i64 (lensL L n)).length = cnt := by rw [ks_length, hcnt]
  rw [i64L, hcnt] at hA'
  simp (maxSteps := 4000000) (disch := omega) only [abv, step, stepv, ev, wl, wn, wp, wz, aop, cV, cV1, AV.one, partCells, okW, onlyFr, app, sliceCells, cellsAt, srcA, subA, eqFs, Int.cast_ofNat_Int, simprocAttr, ac_cadenzaref24_Parts, clA, il, hlen, hk0, hk3]
  refine callD.vc hA' ?_
  simp (maxSteps := 4000000) (disch := omega) only [abv, step, stepv, ev, wl, wn, wp, wz, aop, cV, cV1, AV.one, partCells, okW, onlyFr, app, sliceCells, cellsAt, srcA, subA, eqFs, Int.cast_ofNat_Int, simprocAttr]
  refine ALoop.by (ι := Nat) (fun j => ⟨[(7, .int .i64 j), (6, .own 1 j), (5, .list (l.drop (j * Lc)).length (ks .i32 (l.drop (j * Lc)))), (3, .list cnt (ks .i64 (lensL L n))), (1, .ref 0 1 0)], [⟨t0, 4, 1, [.int .i64 k, .int .i64 x, .int .i64 r, .list (n * k) (ks .i32 l)], 0⟩, ⟨t2, 1, j, ((partsOf k r l).take j).map il, 0⟩]⟩)
    (fun j => j ≤ cnt) (fun j => cnt - j) 0 ?_ (by omega) ?_
  · simp only [Nat.zero_mul, List.drop_zero, hlen, List.take_zero, List.map_nil]
    exact Le.trans (Le.virt 6 t2 1 (by omega) rfl) (Le.slots (by simp [Am.look]))
  · intro j hj
    have hpt : (((partsOf k r l).take j).map il).length = j := by simp; omega
    by_cases hlt : j < cnt
    · obtain ⟨m, mk, p1, p2, p3, p4, p5, p6⟩ := pf j hlt
      have la : (ks .i64 (lensL L n)).drop j = .int .i64 m :: (ks .i64 (lensL L n)).drop (j + 1) := by
        have h := ks_at (K := .i64) (l := lensL L n) (i := j) (by omega)
        rw [p1, ← ks_drop] at h
        exact h
      have emk : (m : Int) * (k : Int) = mk := by rw [← p3]; simp
      obtain ⟨D, hD⟩ : ∃ D, l.drop (j * Lc) = D := ⟨_, rfl⟩
      have hDl : D.length ≤ 4000 := by rw [← hD, List.length_drop]; omega
      rw [hD] at p4 p5 p6 ⊢
      have htk : (ks .i32 D).take mk = ks .i32 (D.take mk) := ks_take _ _ _
      have hdk : (ks .i32 D).drop mk = ks .i32 (D.drop mk) := ks_drop _ _ _
      have kD : (ks .i32 D).length = D.length := ks_length _ _
      have dl : (D.drop mk).length = D.length - mk := List.length_drop
      have tkl : (D.take mk).length = mk := by simp; omega
      have tks : (ks .i32 (D.take mk)).length = mk := by rw [ks_length, tkl]
      have hmin : min mk D.length = mk := Nat.min_eq_left p4
      have hEl : (l.drop ((j + 1) * Lc)).length = D.length - mk := by rw [← p6]; exact dl
      have htE : (ks .i32 (l.drop ((j + 1) * Lc))).take (D.length - mk) = ks .i32 (l.drop ((j + 1) * Lc)) := List.take_of_length_le (by rw [ks_length, hEl]; exact Nat.le_refl _)
      have hsn : (partsOf k r l).take (j + 1) = (partsOf k r l).take j ++ [D.take mk] := by
        rw [List.take_succ_eq_append_getElem (by omega)]
        rw [List.getD_eq_getElem?_getD, List.getElem?_eq_getElem (by omega)] at p5
        simp only [Option.getD_some] at p5
        rw [p5]
      simp (maxSteps := 4000000) (disch := omega) only [abv, step, stepv, ev, wl, wn, wp, wz, aop, cV, cV1, AV.one, partCells, okW, onlyFr, app, sliceCells, cellsAt, srcA, subA, eqFs, Int.cast_ofNat_Int, simprocAttr, la, lenl, emk, kD, htk, hdk, tks, hpt, p6, hmin, Nat.sub_zero, htE]
      refine ⟨j + 1, by omega, by omega, ?_⟩
      have tp : isTL (((partsOf k r l).map il).take j) = true := by rw [← List.map_take]; exact isTL_map_il _
      have tD := isTL_ks .i32 (D.take mk)
      refine Le.drop 2 2 (by omega) rfl ?_ ?_
      · rw [← List.length_drop, hEl]
        simp [Am.look, frzK, frzL, frzV, frzL_T _ (isTL_ks .i32 _), frzL_T _ (isTL_ks .i64 _)]
      · intro i z hz
        match i, hz with
        | 0, hz => cases hz; exact ⟨_, rfl, by simp [frzK, frzL, frzV, frzL_T _ tl]⟩
        | 1, hz =>
          cases hz
          refine ⟨_, rfl, ?_⟩
          rw [hsn, List.map_append]
          simp [frzK, frzL_append, frzL_T _ tp, frzL, frzV, frzL_T _ tD, il, tkl]
        | i + 2, hz => simp at hz
    · obtain rfl : j = cnt := by omega
      have e : (partsOf k r l).take j = partsOf k r l := List.take_of_length_le (by omega)
      rw [e]
      have tp := isTL_map_il (partsOf k r l)
      generalize hPP : (partsOf k r l).map il = PP at *
      simp (maxSteps := 4000000) (disch := omega) only [abv, step, stepv, ev, wl, wn, wp, wz, aop, cV, cV1, AV.one, partCells, okW, onlyFr, app, sliceCells, cellsAt, srcA, subA, eqFs, Int.cast_ofNat_Int, simprocAttr]
      simp [frzN, frzK, frzL, frzV, isDL, isD, iss, hpl, hPP, frzL_T _ tp]

theorem ref24_Split {P : Prg} {f fC fP t0 : Nat} (bd : Body P f 9 [.tmp 2, .tmp 3] (ac_cadenzaref24_Split fC fP t0)) (hC : S_ClipCheck P fC) (hP : S_RParts P fP) : S_Split P f := by
  intro c x r l hI hl
  refine VC.of_walk 1 (by simp [isDL, isD, isD_il, clA]) (isD_splitA _ _ _ _) (ACall.of_body bd (by simp) ?_)
  have hC' := hC c x r l hI hl
  rw [il] at hC'
  simp (maxSteps := 4000000) (disch := omega) only [abv, step, stepv, ev, wl, wn, wp, wz, aop, cV, cV1, AV.one, partCells, okW, onlyFr, app, sliceCells, cellsAt, srcA, subA, eqFs, Int.cast_ofNat_Int, simprocAttr, ac_cadenzaref24_Split, clA, il]
  refine callQ.vc hC' ?_
  rcases clipN_cases c x r l with h | h
  · have hP' := hP c x r l h
    rw [clA, il] at hP'
    have e9 : splitA c x r l = .tup [iss (partsOf c r l), .int .i64 0] := by rw [splitA, if_pos h]
    have tp := isTL_map_il (partsOf c r l)
    rw [h]
    simp (maxSteps := 4000000) (disch := omega) only [abv, step, stepv, ev, wl, wn, wp, wz, aop, cV, cV1, AV.one, partCells, okW, onlyFr, app, sliceCells, cellsAt, srcA, subA, eqFs, Int.cast_ofNat_Int, simprocAttr]
    refine callQ.vc hP' ?_
    simp (maxSteps := 4000000) (disch := omega) only [abv, step, stepv, ev, wl, wn, wp, wz, aop, cV, cV1, AV.one, partCells, okW, onlyFr, app, sliceCells, cellsAt, srcA, subA, eqFs, Int.cast_ofNat_Int, simprocAttr, e9]
    simp [frzN, frzK, frzL, frzV, isDL, isD, iss, frzL_T _ tp]
  · have e9 : splitA c x r l = .tup [iss [], .int .i64 8] := by rw [splitA, if_neg (by omega)]
    rw [h]
    simp (maxSteps := 4000000) (disch := omega) only [abv, step, stepv, ev, wl, wn, wp, wz, aop, cV, cV1, AV.one, partCells, okW, onlyFr, app, sliceCells, cellsAt, srcA, subA, eqFs, Int.cast_ofNat_Int, simprocAttr, e9]
    simp [frzN, frzK, frzL, frzV, isDL, isD, iss]

theorem mem_flat_le {L : List (List Int)} {p : List Int} (h : p ∈ L) : p.length ≤ L.flatten.length := by
  induction L with
  | nil => cases h
  | cons q L ih =>
    simp only [List.flatten_cons, List.length_append]
    rcases List.mem_cons.1 h with rfl | h
    · omega
    · have := ih h; omega
theorem getD_le {L : List (List Int)} {z : Nat} (h : ∀ p ∈ L, p.length ≤ z) (j : Nat) : (L.getD j []).length ≤ z := by
  rw [List.getD_eq_getElem?_getD]
  cases e : L[j]? with
  | none => simp
  | some p => exact h p (List.mem_of_getElem? e)
theorem okPts_of {L : List (List Int)} (h1 : L.length ≤ 1000000) (h2 : L.flatten.length ≤ 1000000) : okPts L := ⟨h1, getD_le fun p hp => Nat.le_trans (mem_flat_le hp) h2⟩
theorem okPts_parts {c x r : Int} {l : List Int} (h : clipN c x r l = 0) : okPts (partsOf c r l) := by
  obtain ⟨k, n, rfl, h1, h2, h3, h5, h4⟩ := clip_ok h
  refine okPts_of (by have := partsOf_le h; omega) ?_
  rw [parts_flat h]; omega

theorem ref24_Join {P : Prg} {f fW fS fE t0 t1 : Nat} (bd : Body P f 41 [.cell 4 t0, .tmp 5] (ac_cadenzaref24_Join fW fS fE t0 t1)) (hW : S_With24 P fW) (hS : S_Split P fS) (hE : S_PEq P fE) (ht : aggO P t0 = some (some 4)) : S_Join24 P f := by
  intro c x r l L hI hL hF
  refine VC.of_walk 2 (by simp [isDL, isD, isD_il, clA, isD_iss]) (isD_joinA _ _ _ _) (ACall.of_cut 3 bd (by simp) ?_)
  have hW' := hW c x r l L.flatten
  have hS' := hS c x r L.flatten (I32_flat hI) hF
  have tl := isTL_ks .i32 L.flatten
  have tl0 := isTL_ks .i32 l
  rw [clA] at hS' hW'
  have hat : ∀ k, k < L.length → (L.map il).drop k = il (L.getD k []) :: (L.map il).drop (k + 1) := fun k hk => ils_at hk
  have hml : (L.map il).length = L.length := by simp
  simp only [il] at hat
  rw [il] at hS'
  simp only [il, clA] at hW'
  simp (maxSteps := 4000000) (disch := omega) only [abv, step, stepv, ev, wl, wn, wp, wz, aop, cV, cV1, AV.one, partCells, okW, onlyFr, app, sliceCells, cellsAt, srcA, subA, eqFs, Int.cast_ofNat_Int, simprocAttr, ac_cadenzaref24_Join, clA, il, iss, cuts]
  refine ALoop.by (ι := Nat) (fun k => ⟨[(7, .int .i64 k), (1, .list L.length (L.map il)), (6, .own 2 (L.take k).flatten.length), (2, .ref 0 1 0), (4, .ref 1 1 0), (5, .int .i64 0)], [⟨t0, 4, 1, [.int .i64 c, .int .i64 x, .int .i64 r, .list l.length (ks .i32 l)], 0⟩, ⟨t0, 4, 1, [.int .i64 0, .int .i64 0, .int .i64 0, .emp true], 0⟩, ⟨t1, 1, (L.take k).flatten.length, ks .i32 (L.take k).flatten, 0⟩]⟩) (fun k => k ≤ L.length) (fun k => L.length - k) 0
    (Le.trans (Le.virt 6 t1 1 (by omega) rfl) (Le.slots (by simp [Am.look]))) (by omega) ?_
  intro k hk
  by_cases hlt : k < L.length
  · have ha := hat k hlt
    have hf := flatI_take hlt
    have hle := flatI_le L (k + 1)
    rw [hf, List.length_append] at hle
    have hl : (L.take (k + 1)).flatten.length = (L.take k).flatten.length + (L.getD k []).length := by rw [hf]; simp
    have hu : ks .i32 (L.take (k + 1)).flatten = ks .i32 (L.take k).flatten ++ ks .i32 (L.getD k []) := by rw [hf]; simp [ks]
    have hc : (ks .i32 (L.take k).flatten).length = (L.take k).flatten.length := ks_length _ _
    have hx : (ks .i32 (L.getD k [])).length = (L.getD k []).length := ks_length _ _
    generalize ks .i32 (L.take k).flatten = cs at *
    generalize (L.take k).flatten.length = s at *
    generalize ks .i32 (L.getD k []) = us at *
    generalize (L.getD k []).length = xl at *
    simp (maxSteps := 4000000) (disch := omega) only [abv, step, stepv, ev, wl, wn, wp, wz, aop, cV, cV1, AV.one, partCells, okW, onlyFr, app, sliceCells, cellsAt, srcA, subA, eqFs, Int.cast_ofNat_Int, simprocAttr, ha, hml, hc, hx, cuts]
    exact ⟨k + 1, by omega, by omega, by rw [hl, hu]; exact Le.slots (by simp [Am.look])⟩
  obtain rfl : k = L.length := by omega
  rw [List.take_length]
  simp (maxSteps := 4000000) (disch := omega) only [abv, step, stepv, ev, wl, wn, wp, wz, aop, cV, cV1, AV.one, partCells, okW, onlyFr, app, sliceCells, cellsAt, srcA, subA, eqFs, Int.cast_ofNat_Int, simprocAttr, cuts]
  refine ⟨⟨[(1, .list L.length (L.map il)), (6, .list L.flatten.length (ks .i32 L.flatten)), (2, .ref 0 1 0), (4, .ref 1 1 0), (5, .int .i64 0)], [⟨t0, 4, 1, [.int .i64 c, .int .i64 x, .int .i64 r, .list l.length (ks .i32 l)], 0⟩, ⟨t0, 4, 1, [.int .i64 0, .int .i64 0, .int .i64 0, .list 0 []], 0⟩]⟩, ?_, ?_⟩
  · refine Le.drop 2 2 (by omega) rfl (by simp [Am.look, frzK, frzL, frzV, frzL_T _ tl, frzL_T _ (isTL_map_il L)]) ?_
    intro i z hz
    match i, hz with
    | 0, hz => cases hz; exact ⟨_, rfl, by simp [frzK, frzL, frzV, frzL_T _ tl0]⟩
    | 1, hz => cases hz; exact ⟨_, rfl, by simp [frzK, frzL, frzV]⟩
    | i + 2, hz => simp at hz
  simp (maxSteps := 4000000) (disch := omega) only [abv, step, stepv, ev, wl, wn, wp, wz, aop, cV, cV1, AV.one, partCells, okW, onlyFr, app, sliceCells, cellsAt, srcA, subA, eqFs, Int.cast_ofNat_Int, simprocAttr, cuts]
  refine callQ.vc hW' ?_
  simp (maxSteps := 4000000) (disch := omega) only [abv, step, stepv, ev, wl, wn, wp, wz, aop, cV, cV1, AV.one, partCells, okW, onlyFr, app, sliceCells, cellsAt, srcA, subA, eqFs, Int.cast_ofNat_Int, simprocAttr, cuts]
  refine callQ.vc hS' ?_
  rcases clipN_cases c x r L.flatten with h | h
  · have e1 : splitA c x r L.flatten = .tup [iss (partsOf c r L.flatten), .int .i64 0] := by rw [splitA, if_pos h]
    have hE' := hE (partsOf c r L.flatten) L (okPts_parts h) (okPts_of hL hF)
    rw [show iss L = .list L.length (L.map il) from rfl] at hE'
    simp (maxSteps := 4000000) (disch := omega) only [abv, step, stepv, ev, wl, wn, wp, wz, aop, cV, cV1, AV.one, partCells, okW, onlyFr, app, sliceCells, cellsAt, srcA, subA, eqFs, Int.cast_ofNat_Int, simprocAttr, e1, cuts]
    refine callQ.vc hE' ?_
    by_cases h2 : L = partsOf c r L.flatten
    · have e2 : decide (partsOf c r L.flatten = L) = true := decide_eq_true h2.symm
      have e9 : joinA c x r L = .tup [clA c x r L.flatten, .int .i64 0] := by rw [joinA, if_pos h, if_pos h2]
      simp (maxSteps := 4000000) (disch := omega) only [abv, step, stepv, ev, wl, wn, wp, wz, aop, cV, cV1, AV.one, partCells, okW, onlyFr, app, sliceCells, cellsAt, srcA, subA, eqFs, Int.cast_ofNat_Int, simprocAttr, e2, Bool.not_true, resA, ht, e9, cuts]
      simp [frzN, frzK, frzL, frzV, isDL, isD, clA, il, frzL_T _ tl]
    · have e2 : decide (partsOf c r L.flatten = L) = false := decide_eq_false (fun h3 => h2 h3.symm)
      have e9 : joinA c x r L = .tup [clA 0 0 0 [], .int .i64 12] := by rw [joinA, if_pos h, if_neg h2]
      simp (maxSteps := 4000000) (disch := omega) only [abv, step, stepv, ev, wl, wn, wp, wz, aop, cV, cV1, AV.one, partCells, okW, onlyFr, app, sliceCells, cellsAt, srcA, subA, eqFs, Int.cast_ofNat_Int, simprocAttr, e2, Bool.not_false, resA, ht, e9, cuts]
      simp [frzN, frzK, frzL, frzV, isDL, isD, clA, il, ks]
  · have e1 : splitA c x r L.flatten = .tup [iss [], .int .i64 8] := by rw [splitA, if_neg (by omega)]
    have e9 : joinA c x r L = .tup [clA 0 0 0 [], .int .i64 8] := by rw [joinA, if_neg (by omega)]
    simp (maxSteps := 4000000) (disch := omega) only [abv, step, stepv, ev, wl, wn, wp, wz, aop, cV, cV1, AV.one, partCells, okW, onlyFr, app, sliceCells, cellsAt, srcA, subA, eqFs, Int.cast_ofNat_Int, simprocAttr, e1, resA, ht, e9, cuts]
    simp [frzN, frzK, frzL, frzV, isDL, isD, clA, il, ks]
end Go.Am

namespace Go.Am
open Go.RowKit

theorem split_form (c x r : Int) (l : List Int) : ∃ (S : List (List Int)) (e : Int), splitA c x r l = .tup [iss S, .int .i64 e] ∧ okPts S := by
  rcases clipN_cases c x r l with h | h
  · exact ⟨_, 0, by rw [splitA, if_pos h], okPts_parts h⟩
  · exact ⟨[], 8, by rw [splitA, if_neg (by omega)], by simp [okPts]⟩
theorem join_form {c x r : Int} {L : List (List Int)} (hF : L.flatten.length ≤ 1000000) : ∃ (a b d : Int) (m : List Int) (e : Int), joinA c x r L = .tup [clA a b d m, .int .i64 e] ∧ m.length ≤ 1000000 := by
  unfold joinA
  split
  · split
    · exact ⟨_, _, _, _, _, rfl, hF⟩
    · exact ⟨_, _, _, _, _, rfl, by simp⟩
  · exact ⟨_, _, _, _, _, rfl, by simp⟩
theorem sumK_eq (L : List (List Int)) : ∀ k, k ≤ L.length → sumK L k = (L.take k).flatten.length
  | 0, _ => by simp [sumK]
  | k + 1, h => by
    rw [sumK, sumK_eq L k (by omega), List.take_succ_eq_append_getElem (by omega), List.flatten_append, List.length_append, List.getD_eq_getElem?_getD, List.getElem?_eq_getElem (by omega)]
    simp

def S_LawParts (P : Prg) (f : Nat) : Prop := ∀ (c x r : Int) (l : List Int) (L : List (List Int)), I32 l → (∀ p ∈ L, I32 p) → bigPts L → VC P f [clA c x r l, iss L] (.bool true)
theorem law24_ClipParts {P : Prg} {f fG fP fS fR fJ fK fC fD fE fA fI t0 t1 : Nat} (bd : Body P f 78 [.tmp 4] (ac_cadenzalaw24_ClipParts fG fP fS fR fJ fK fC fD fE fA fI t0 t1)) (hG : S_Great13 P fG) (hP : S_GreatP P fP) (hS : S_Split P fS) (hR : S_Split P fR) (hJ : S_Join24 P fJ) (hK : S_Join24 P fK) (hC : S_ClipCheck P fC) (hD : S_ClipCheck P fD)
    (hE : S_PEq P fE) (hA : S_CSame P fA) (hI : S_IEq P fI) : S_LawParts P f := by
  intro c x r l L hl hL hB
  refine VC.of_acall (by simp [isDL, isD, isD_il, clA, isD_iss]) rfl (ACall.of_cut 7 bd (by simp) ?_)
  by_cases hg : greatL l
  · have hG' := (hG l).1 hg
    rw [il] at hG'
    simp (maxSteps := 4000000) (disch := omega) only [abv, step, stepv, ev, wl, wn, wp, wz, aop, cV, cV1, AV.one, partCells, okW, onlyFr, app, sliceCells, cellsAt, srcA, subA, eqFs, Int.cast_ofNat_Int, simprocAttr, ac_cadenzalaw24_ClipParts, cuts, clA, il]
    refine callQ.vc hG' ?_
    simp (maxSteps := 4000000) (disch := omega) only [abv, step, stepv, ev, wl, wn, wp, wz, aop, cV, cV1, AV.one, partCells, okW, onlyFr, app, sliceCells, cellsAt, srcA, subA, eqFs, Int.cast_ofNat_Int, simprocAttr, cuts]
  have hG' := (hG l).2 hg
  rw [il] at hG'
  have hg' : l.length ≤ 4100 := by unfold greatL at hg; omega
  by_cases hp : greatP L
  · have hP' := (hP L hB).1 hp
    simp (maxSteps := 4000000) (disch := omega) only [abv, step, stepv, ev, wl, wn, wp, wz, aop, cV, cV1, AV.one, partCells, okW, onlyFr, app, sliceCells, cellsAt, srcA, subA, eqFs, Int.cast_ofNat_Int, simprocAttr, ac_cadenzalaw24_ClipParts, cuts, clA, il]
    refine callQ.vc hG' ?_
    simp (maxSteps := 4000000) (disch := omega) only [abv, step, stepv, ev, wl, wn, wp, wz, aop, cV, cV1, AV.one, partCells, okW, onlyFr, app, sliceCells, cellsAt, srcA, subA, eqFs, Int.cast_ofNat_Int, simprocAttr, cuts]
    refine callQ.vc hP' ?_
    simp (maxSteps := 4000000) (disch := omega) only [abv, step, stepv, ev, wl, wn, wp, wz, aop, cV, cV1, AV.one, partCells, okW, onlyFr, app, sliceCells, cellsAt, srcA, subA, eqFs, Int.cast_ofNat_Int, simprocAttr, cuts]
  have hP' := (hP L hB).2 hp
  have hL4 : L.length ≤ 400 := by unfold greatP at hp; omega
  have hF6 : L.flatten.length ≤ 600 := by
    unfold greatP at hp
    have e : min L.length 401 = L.length := by omega
    rw [e, sumK_eq L _ (Nat.le_refl _), List.take_length] at hp
    omega
  have tl := isTL_ks .i32 l
  have kl := ks_length .i32 l
  obtain ⟨S, es, e1, okS⟩ := split_form c x r l
  obtain ⟨ja, jb, jd, jm, je, e2, jml⟩ := join_form (c := c) (x := x) (r := r) (L := L) (by omega)
  have hS' := hS c x r l hl (by omega)
  have hR' := hR c x r l hl (by omega)
  have hJ' := hJ c x r l L hL (by omega) (by omega)
  have hK' := hK c x r l L hL (by omega) (by omega)
  have hC' := hC c x r l hl (by omega)
  have hD' := hD c x r l hl (by omega)
  have hE' := hE S S okS okS
  have hA' := hA ja jb jd jm jml
  have hI' := hI l l (by omega) (by omega)
  rw [e1] at hS' hR'
  rw [e2] at hJ' hK'
  simp only [clA, il] at hS' hR' hJ' hK' hC' hD' hA' hI'
  simp only [eq_self, decide_true] at hE' hI'
  simp (maxSteps := 4000000) (disch := omega) only [abv, step, stepv, ev, wl, wn, wp, wz, aop, cV, cV1, AV.one, partCells, okW, onlyFr, app, sliceCells, cellsAt, srcA, subA, eqFs, Int.cast_ofNat_Int, simprocAttr, ac_cadenzalaw24_ClipParts, cuts, clA, il, ks_nil, List.nil_append]
  refine callQ.vc hG' ?_
  simp (maxSteps := 4000000) (disch := omega) only [abv, step, stepv, ev, wl, wn, wp, wz, aop, cV, cV1, AV.one, partCells, okW, onlyFr, app, sliceCells, cellsAt, srcA, subA, eqFs, Int.cast_ofNat_Int, simprocAttr, cuts]
  refine callQ.vc hP' ?_
  simp (maxSteps := 4000000) (disch := omega) only [abv, step, stepv, ev, wl, wn, wp, wz, aop, cV, cV1, AV.one, partCells, okW, onlyFr, app, sliceCells, cellsAt, srcA, subA, eqFs, Int.cast_ofNat_Int, simprocAttr, cuts, ks_nil, List.nil_append]
  refine callQ.vc hS' ?_
  simp (maxSteps := 4000000) (disch := omega) only [abv, step, stepv, ev, wl, wn, wp, wz, aop, cV, cV1, AV.one, partCells, okW, onlyFr, app, sliceCells, cellsAt, srcA, subA, eqFs, Int.cast_ofNat_Int, simprocAttr, cuts]
  refine callQ.vc hR' ?_
  simp (maxSteps := 4000000) (disch := omega) only [abv, step, stepv, ev, wl, wn, wp, wz, aop, cV, cV1, AV.one, partCells, okW, onlyFr, app, sliceCells, cellsAt, srcA, subA, eqFs, Int.cast_ofNat_Int, simprocAttr, cuts]
  refine callQ.vc hJ' ?_
  simp (maxSteps := 4000000) (disch := omega) only [abv, step, stepv, ev, wl, wn, wp, wz, aop, cV, cV1, AV.one, partCells, okW, onlyFr, app, sliceCells, cellsAt, srcA, subA, eqFs, Int.cast_ofNat_Int, simprocAttr, cuts]
  refine callQ.vc hK' ?_
  simp (maxSteps := 4000000) (disch := omega) only [abv, step, stepv, ev, wl, wn, wp, wz, aop, cV, cV1, AV.one, partCells, okW, onlyFr, app, sliceCells, cellsAt, srcA, subA, eqFs, Int.cast_ofNat_Int, simprocAttr, cuts]
  refine ⟨⟨[(2, .cell [.int .i64 c, .int .i64 x, .int .i64 r, .list l.length (ks .i32 l)]), (5, .list l.length (ks .i32 l)), (6, iss S), (7, .int .i64 es), (8, iss S), (9, .int .i64 es), (10, .cell [.int .i64 ja, .int .i64 jb, .int .i64 jd, .list jm.length (ks .i32 jm)]), (11, .int .i64 je), (12, .cell [.int .i64 ja, .int .i64 jb, .int .i64 jd, .list jm.length (ks .i32 jm)]), (13, .int .i64 je)], []⟩,
    Le.dropT [] (by simp) (by simp [Am.look, frzK, frzL, frzV, frzL_T _ tl, iss, frzL_T _ (isTL_map_il S), frzL_T _ (isTL_ks .i32 jm)]), ?_⟩
  simp (maxSteps := 4000000) (disch := omega) only [abv, step, stepv, ev, wl, wn, wp, wz, aop, cV, cV1, AV.one, partCells, okW, onlyFr, app, sliceCells, cellsAt, srcA, subA, eqFs, Int.cast_ofNat_Int, simprocAttr, cuts]
  refine callD.vc hC' ?_
  simp (maxSteps := 4000000) (disch := omega) only [abv, step, stepv, ev, wl, wn, wp, wz, aop, cV, cV1, AV.one, partCells, okW, onlyFr, app, sliceCells, cellsAt, srcA, subA, eqFs, Int.cast_ofNat_Int, simprocAttr, cuts]
  refine callD.vc hD' ?_
  simp (maxSteps := 4000000) (disch := omega) only [abv, step, stepv, ev, wl, wn, wp, wz, aop, cV, cV1, AV.one, partCells, okW, onlyFr, app, sliceCells, cellsAt, srcA, subA, eqFs, Int.cast_ofNat_Int, simprocAttr, cuts]
  refine callD.vc hE' ?_
  simp (maxSteps := 4000000) (disch := omega) only [abv, step, stepv, ev, wl, wn, wp, wz, aop, cV, cV1, AV.one, partCells, okW, onlyFr, app, sliceCells, cellsAt, srcA, subA, eqFs, Int.cast_ofNat_Int, simprocAttr, cuts]
  refine callD.vc hA' ?_
  simp (maxSteps := 4000000) (disch := omega) only [abv, step, stepv, ev, wl, wn, wp, wz, aop, cV, cV1, AV.one, partCells, okW, onlyFr, app, sliceCells, cellsAt, srcA, subA, eqFs, Int.cast_ofNat_Int, simprocAttr, cuts]
  refine callD.vc hI' ?_
  simp (maxSteps := 4000000) (disch := omega) only [abv, step, stepv, ev, wl, wn, wp, wz, aop, cV, cV1, AV.one, partCells, okW, onlyFr, app, sliceCells, cellsAt, srcA, subA, eqFs, Int.cast_ofNat_Int, simprocAttr, cuts]
end Go.Am

namespace Go.Am
open Go.RowKit

/-! ### A clip cs0 an argument -/

def clSh : Sh := .tuple [.int .i64, .int .i64, .int .i64, .slice (.int .i32)]
theorem fits_clip {cs0 : List AV} (h : Fits clSh cs0) : ∃ (c x r : Int) (l : List Int), cs0 = [.int .i64 c, .int .i64 x, .int .i64 r, il l] ∧ I32 l := by
  simp only [clSh, Fits, FitsL] at h
  obtain ⟨_, _, rfl, ⟨c, rfl, _⟩, _, _, rfl, ⟨x, rfl, _⟩, _, _, rfl, ⟨r, rfl, _⟩, _, _, rfl, ⟨L, rfl, _, h2⟩, rfl⟩ := h
  obtain ⟨l, _, e2, hi⟩ := fits_i32s (L := L) (fun c hc => by simp only [Fits]; exact h2 c hc)
  exact ⟨c, x, r, l, by simp [e2], hi⟩
end Go.Am

namespace Go.Am
open Go.RowKit Go.ChangeShapes Go.WideShapes Go.Deep

theorem fits_iss {L : List (List AV)} (h : ∀ c ∈ L, Fits (.slice (.int .i32)) c) : ∃ l : List (List Int), L.length = l.length ∧ AV.list L.length L.flatten = iss l ∧ ∀ x ∈ l, I32 x := by
  obtain ⟨l, rfl, h2⟩ := map_of_all (f := fun b : List Int => [il b]) (q := fun x => I32 x) h (fun c hc => by
    simp only [Fits] at hc
    obtain ⟨L', rfl, h1, h2⟩ := hc
    obtain ⟨l, h3, h4, h5⟩ := fits_i32s h2
    exact ⟨l, by rw [h4], h5⟩)
  exact ⟨l, by simp, by simp [iss, flatten_one], h2⟩

theorem weightsAll_mem {H : Type} {P : Program} {e : TypeId} : ∀ {ds : List (DataW H)} {d : DataW H}, d ∈ ds → ∀ n ∈ d.weights P e, n ∈ DataW.weightsAll P e ds
  | [], _, h, _, _ => by cases h
  | x :: r, d, h, n, hn => by
    simp only [DataW.weightsAll, List.mem_append]
    rcases List.mem_cons.1 h with rfl | h
    · exact .inl hn
    · exact .inr (weightsAll_mem h n hn)

theorem rows_le {H : Type} {enc : TypeId × Value → H} {P : Program} {W : World} {t e u : TypeId} (ht : P.underlying t = some (.slice e)) (he : P.underlying e = some (.slice u)) (hb : 1 ≤ P.bytesOf u) (hc : P.cellsOf e = 1) {v : Value} {d : DataW H} {ps : List MemPlace}
    (hd : DataW.Trod enc P W 0 (fun _ => true) true t v d ps) (hz : ∀ n ∈ d.weights P t, n ≤ reachBytes) {f : List Int → List AV} {L : List (List Int)} (hr : Rep (X0 W) (.list L.length (L.map fun l => .list l.length (f l))) v) : ∀ j, (L.getD j []).length ≤ reachBytes := by
  intro j
  rcases Nat.lt_or_ge j L.length with hj | hj
  case inr => rw [List.getD_eq_getElem?_getD, List.getElem?_eq_none hj]; exact Nat.zero_le _
  obtain ⟨fuel, hf⟩ := hd
  simp only [Rep] at hr
  obtain ⟨a', cap', vs, rfl, hcap, hvs, hrl⟩ := hr
  have hlv := hrl.length
  rw [List.length_map] at hlv
  obtain ⟨w, hw, hrw⟩ := hrl.get j (.list (L[j]).length (f L[j])) (by rw [List.getElem?_map, List.getElem?_eq_getElem hj]; rfl)
  simp only [Rep] at hrw
  obtain ⟨a2, cap2, vs2, rfl, _⟩ := hrw
  rcases hvs with rfl | ⟨b, k, rfl, hat⟩
  · simp at hw
  rcases DataW.trod_slice ht hf with ⟨h1, _⟩ | ⟨a, len, cap, elems, rest, n, _, h1, h2, _, _, _, hlen, hel, _, _⟩
  · simp [Value.cells] at h1
  · simp only [Value.cells, List.cons.injEq, Value.slice.injEq, Option.some.injEq, and_true] at h1
    obtain ⟨rfl, rfl, rfl⟩ := h1
    have h3 := hel j hj
    rw [List.getElem?_eq_getElem (by omega), Option.bind_eq_some_iff] at h3
    obtain ⟨c, h4, h5⟩ := h3
    obtain ⟨_, h7, h8⟩ := World.cells?_some h4
    rw [hc] at h7 h8
    have h9 := h8 0 (by omega)
    have h10 := (hat j _ hw).1.1
    have h11 : ((⟨b, k, none⟩ : Addr).add (j * P.cellsOf e)).add 0 = ⟨b, k + j, none⟩ := by
      rw [hc]
      unfold Addr.add
      by_cases h0 : j = 0
      · subst h0; simp
      · simp [h0]
    have h12 : c = [Value.slice a2 (L[j]).length cap2] := by
      rw [← hc, h11] at h9
      have h13 : W.cell? ⟨b, k + j, none⟩ = some (.slice a2 (L[j]).length cap2) := h10
      rw [h13] at h9
      match c, h7, h9 with
      | [x], _, h9 => simpa using h9.symm
    subst h12
    rcases DataW.trod_slice he h5 with ⟨h6, _⟩ | ⟨a3, len3, cap3, elems3, rest3, n3, _, h6, h13, _, _, _, hlen3, _, _, _⟩
    · simp only [List.cons.injEq, Value.slice.injEq, and_true] at h6
      rw [List.getD_eq_getElem?_getD, List.getElem?_eq_getElem hj]
      simp [h6.2.1]
    · simp only [List.cons.injEq, Value.slice.injEq, and_true] at h6
      obtain ⟨_, h14, _⟩ := h6
      simp only [Prod.mk.injEq] at h2
      have hmem : (elems[j]'(by omega)).1 ∈ elems.map (·.1) := List.mem_map.2 ⟨_, List.getElem_mem _, rfl⟩
      have h15 : (elems[j]'(by omega)).1 = .slice (elems3.map (·.1)) (rest3.map (·.1)) := by rw [h13]
      have h16 : ((elems3.map (·.1)).length + (rest3.map (·.1)).length) * P.bytesOf u ∈ (elems[j]'(by omega)).1.weights P e := by
        rw [h15]
        simp only [DataW.weights, he, List.mem_cons, true_or]
      have h17 := hz _ (by
        rw [h2.1]
        simp only [DataW.weights, ht, List.mem_cons, List.mem_append]
        exact .inr (.inl (weightsAll_mem hmem _ h16)))
      rw [List.getD_eq_getElem?_getD, List.getElem?_eq_getElem hj, Option.getD_some, h14, ← hlen3]
      refine Nat.le_trans (Nat.le_trans ?_ (Nat.le_mul_of_pos_right _ hb)) h17
      simp

def isRows (P : Program) (t : TypeId) : Bool :=
  match P.underlying t with
  | some (.slice e) => match P.underlying e with | some (.slice u) => decide (1 ≤ P.bytesOf u) && P.cellsOf e == 1 | _ => false
  | _ => false
theorem rows_big {H : Type} {enc : TypeId × Value → H} {P : Program} {W : World} {t : TypeId} (h : isRows P t = true) {v : Value} {d : DataW H} {ps : List MemPlace} (hd : DataW.Trod enc P W 0 (fun _ => true) true t v d ps) {j : Nat} {ts : List TypeId} {ds : List (DataW H)}
    (hZ : (DataW.weightsEach P ts ds).all (· ≤ reachBytes) = true) (ht : ts[j]? = some t) (hj : ds[j]? = some d) {L : List (List Int)} (hl : L.length ≤ maxLen) (hr : Rep (X0 W) (iss L) v) : bigPts L := by
  unfold isRows at h
  split at h
  case h_2 => cases h
  rename_i e h1
  split at h
  case h_2 => cases h
  rename_i u h2
  simp only [Bool.and_eq_true, decide_eq_true_eq, beq_iff_eq] at h
  refine ⟨Nat.le_trans hl (by decide), fun i => Nat.le_trans (rows_le h1 h2 h.1 h.2 hd (fun n hn => ?_) (f := ks .i32) hr i) (by decide)⟩
  simpa using List.all_eq_true.1 hZ n (DataW.weights_mem_each ht hj n hn)
end Go.Am
