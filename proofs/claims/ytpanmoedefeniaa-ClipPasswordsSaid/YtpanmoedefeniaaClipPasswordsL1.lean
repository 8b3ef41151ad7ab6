/- What the functions that the law reaches return, for every program that has their code; the conditions stand in each statement. -/
import Derived.Test.YtpanmoedefeniaaClipPasswordsD1
set_option linter.unusedSectionVars false
set_option linter.unusedSimpArgs false
set_option linter.unusedVariables false
namespace Go.Am
open Go.RowKit

theorem isT_u8 (l : List UInt8) : isTL (u8 l) = true := by
  induction l with
  | nil => rfl
  | cons x l ih => simp [u8_cons, isTL, isT, ih]
end Go.Am

namespace Go.Am
open Go.RowKit

def half (b : Int) : Int := if b = 8 then 128 else if b = 16 then 32768 else if b = 24 then 8388608 else 0

theorem half_cases (b : Int) : (b = 8 ∧ half b = 128) ∨ (b = 16 ∧ half b = 32768) ∨ (b = 24 ∧ half b = 8388608) ∨ (b ≠ 8 ∧ b ≠ 16 ∧ b ≠ 24 ∧ half b = 0) := by
  unfold half; split <;> (try split) <;> (try split) <;> omega

def rangeA (b : Int) : AV := if half b = 0 then .tup [.int .i32 0, .int .i32 0, .int .i64 2] else .tup [.int .i32 (-half b), .int .i32 (half b - 1), .int .i64 0]

def S_Range (P : Prg) (f : Nat) : Prop := ∀ b : Int, VC P f [.int .i64 b] (rangeA b)

theorem width_Range {P : Prg} {f : Nat} (b : Body P f 18 [.tmp 2, .tmp 3, .tmp 4] ac_width_Range) : S_Range P f := by
  intro x
  refine VC.of_acall rfl (by unfold rangeA; split <;> rfl) (ACall.of_body b (by simp) ?_)
  rcases half_cases x with ⟨rfl, h⟩ | ⟨rfl, h⟩ | ⟨rfl, h⟩ | ⟨h1, h2, h3, h⟩
  · simp (maxSteps := 4000000) (disch := omega) only [abv, step, stepv, ev, wl, wn, wp, wz, aop, cV, cV1, AV.one, partCells, okW, onlyFr, app, sliceCells, cellsAt, srcA, subA, eqFs, Int.cast_ofNat_Int, simprocAttr, ac_width_Range, rangeA, h]
    rfl
  · simp (maxSteps := 4000000) (disch := omega) only [abv, step, stepv, ev, wl, wn, wp, wz, aop, cV, cV1, AV.one, partCells, okW, onlyFr, app, sliceCells, cellsAt, srcA, subA, eqFs, Int.cast_ofNat_Int, simprocAttr, ac_width_Range, rangeA, h]
    rfl
  · simp (maxSteps := 4000000) (disch := omega) only [abv, step, stepv, ev, wl, wn, wp, wz, aop, cV, cV1, AV.one, partCells, okW, onlyFr, app, sliceCells, cellsAt, srcA, subA, eqFs, Int.cast_ofNat_Int, simprocAttr, ac_width_Range, rangeA, h]
    rfl
  · simp (maxSteps := 4000000) (disch := omega) only [abv, step, stepv, ev, wl, wn, wp, wz, aop, cV, cV1, AV.one, partCells, okW, onlyFr, app, sliceCells, cellsAt, srcA, subA, eqFs, Int.cast_ofNat_Int, simprocAttr, ac_width_Range, rangeA, h]

end Go.Am

namespace Go.Am
open Go.RowKit

def il (l : List Int) : AV := .list l.length (ks .i32 l)
theorem isD_il (l : List Int) : isD (il l) = true := by simp [il, isD, isDL_ks]

def inR (b x : Int) : Bool := decide (-half b ≤ x) && decide (x < half b)
def checkN (b : Int) (l : List Int) : Int := if half b = 0 then 2 else if 4000 < l.length then 4 else if l.all (inR b) then 0 else 16
def I32 (l : List Int) : Prop := ∀ x ∈ l, -2147483648 ≤ x ∧ x ≤ 2147483647
def S_WCheck (P : Prg) (f : Nat) : Prop := ∀ (b : Int) (l : List Int), I32 l → VC P f [.int .i64 b, il l] (.int .i64 (checkN b l))

theorem all_take_step {l : List Int} {k : Nat} (h : k < l.length) {p : Int → Bool} : (l.take (k + 1)).all p = ((l.take k).all p && p l[k]) := by
  rw [List.take_succ_eq_append_getElem h, List.all_append]; simp

theorem not_all_of {l : List Int} {k : Nat} (h : k < l.length) {p : Int → Bool} (hp : p l[k] = false) : l.all p = false := by
  rw [List.all_eq_false]
  exact ⟨l[k], List.getElem_mem h, by simp [hp]⟩

set_option maxRecDepth 10000 in
theorem width_Check {P : Prg} {f fR : Nat} (b : Body P f 37 [.tmp 4] (ac_width_Check fR)) (hR : S_Range P fR) : S_WCheck P f := by
  intro x l hl
  refine VC.of_acall (by simp [isDL, isD, isD_il]) rfl (ACall.of_body b (by simp) ?_)
  simp (maxSteps := 4000000) (disch := omega) only [abv, step, stepv, ev, wl, wn, wp, wz, aop, cV, cV1, AV.one, partCells, okW, onlyFr, app, sliceCells, cellsAt, srcA, subA, eqFs, Int.cast_ofNat_Int, simprocAttr, ac_width_Check]
  refine callQ.vc (hR x) ?_
  by_cases h0 : half x = 0
  · simp (maxSteps := 4000000) (disch := omega) only [abv, step, stepv, ev, wl, wn, wp, wz, aop, cV, cV1, AV.one, partCells, okW, onlyFr, app, sliceCells, cellsAt, srcA, subA, eqFs, Int.cast_ofNat_Int, simprocAttr, rangeA, checkN, h0]
  have h3 : half x = 128 ∨ half x = 32768 ∨ half x = 8388608 := by rcases half_cases x with h | h | h | h <;> omega
  by_cases h1 : 4000 < l.length
  · simp (maxSteps := 4000000) (disch := omega) only [abv, step, stepv, ev, wl, wn, wp, wz, aop, cV, cV1, AV.one, partCells, okW, onlyFr, app, sliceCells, cellsAt, srcA, subA, eqFs, Int.cast_ofNat_Int, simprocAttr, rangeA, checkN, h0, il, h1]
  simp (maxSteps := 4000000) (disch := omega) only [abv, step, stepv, ev, wl, wn, wp, wz, aop, cV, cV1, AV.one, partCells, okW, onlyFr, app, sliceCells, cellsAt, srcA, subA, eqFs, Int.cast_ofNat_Int, simprocAttr, rangeA, il, if_neg h0]
  refine ALoop.by (ι := Nat) (fun k => ⟨[(24, .int .i64 k), (23, .int .i64 l.length), (22, il l), (6, .int .i32 (half x - 1)), (5, .int .i32 (-half x))], []⟩) (fun k => k ≤ l.length ∧ (l.take k).all (inR x) = true) (fun k => l.length - k) 0 (Le.slots (by simp [Am.look, il])) ⟨by omega, by simp⟩ ?_
  intro k ⟨hk, hg⟩
  by_cases hlt : k < l.length
  · by_cases hp : -half x ≤ l[k] ∧ l[k] < half x
    · have hs := all_take_step hlt (p := inR x)
      simp (maxSteps := 4000000) (disch := omega) only [abv, step, stepv, ev, wl, wn, wp, wz, aop, cV, cV1, AV.one, partCells, okW, onlyFr, app, sliceCells, cellsAt, srcA, subA, eqFs, Int.cast_ofNat_Int, simprocAttr, il, drop_ks, hlt]
      exact ⟨k + 1, ⟨by omega, by rw [hs, hg]; simp [inR, hp]⟩, by omega, Le.slots (by simp [Am.look, il])⟩
    · have e : checkN x l = 16 := by simp [checkN, h0, h1, not_all_of hlt (p := inR x) (by simp [inR]; omega)]
      by_cases hq : l[k] < -half x
      · simp (maxSteps := 4000000) (disch := omega) only [abv, step, stepv, ev, wl, wn, wp, wz, aop, cV, cV1, AV.one, partCells, okW, onlyFr, app, sliceCells, cellsAt, srcA, subA, eqFs, Int.cast_ofNat_Int, simprocAttr, il, drop_ks, hlt, e]
      · simp (maxSteps := 4000000) (disch := omega) only [abv, step, stepv, ev, wl, wn, wp, wz, aop, cV, cV1, AV.one, partCells, okW, onlyFr, app, sliceCells, cellsAt, srcA, subA, eqFs, Int.cast_ofNat_Int, simprocAttr, il, drop_ks, hlt, e]
  · have e2 : k = l.length := by omega
    subst e2
    rw [List.take_length] at hg
    simp (maxSteps := 4000000) (disch := omega) only [abv, step, stepv, ev, wl, wn, wp, wz, aop, cV, cV1, AV.one, partCells, okW, onlyFr, app, sliceCells, cellsAt, srcA, subA, eqFs, Int.cast_ofNat_Int, simprocAttr, il, checkN, h0, h1, hg]

def S_Half (P : Prg) (f : Nat) : Prop := ∀ x : Int, VC P f [.int .i64 x] (.int .i64 (half x))

theorem ref18_Half {P : Prg} {f : Nat} (b : Body P f 10 [.tmp 2] ac_cadenzaref18_Half) : S_Half P f := by
  intro x
  refine VC.of_acall rfl rfl (ACall.of_body b (by simp) ?_)
  rcases half_cases x with ⟨rfl, h⟩ | ⟨rfl, h⟩ | ⟨rfl, h⟩ | ⟨h1, h2, h3, h⟩ <;> simp (maxSteps := 4000000) (disch := omega) only [abv, step, stepv, ev, wl, wn, wp, wz, aop, cV, cV1, AV.one, partCells, okW, onlyFr, app, sliceCells, cellsAt, srcA, subA, eqFs, Int.cast_ofNat_Int, simprocAttr, ac_cadenzaref18_Half, h]

set_option maxRecDepth 10000 in
theorem ref18_Check {P : Prg} {f fH : Nat} (b : Body P f 37 [.tmp 4] (ac_cadenzaref18_Check fH)) (hH : S_Half P fH) : S_WCheck P f := by
  intro x l hl
  refine VC.of_acall (by simp [isDL, isD, isD_il]) rfl (ACall.of_body b (by simp) ?_)
  simp (maxSteps := 4000000) (disch := omega) only [abv, step, stepv, ev, wl, wn, wp, wz, aop, cV, cV1, AV.one, partCells, okW, onlyFr, app, sliceCells, cellsAt, srcA, subA, eqFs, Int.cast_ofNat_Int, simprocAttr, ac_cadenzaref18_Check]
  refine callQ.vc (hH x) ?_
  by_cases h0 : half x = 0
  · simp (maxSteps := 4000000) (disch := omega) only [abv, step, stepv, ev, wl, wn, wp, wz, aop, cV, cV1, AV.one, partCells, okW, onlyFr, app, sliceCells, cellsAt, srcA, subA, eqFs, Int.cast_ofNat_Int, simprocAttr, checkN, h0]
  have h3 : half x = 128 ∨ half x = 32768 ∨ half x = 8388608 := by rcases half_cases x with h | h | h | h <;> omega
  by_cases h1 : 4000 < l.length
  · simp (maxSteps := 4000000) (disch := omega) only [abv, step, stepv, ev, wl, wn, wp, wz, aop, cV, cV1, AV.one, partCells, okW, onlyFr, app, sliceCells, cellsAt, srcA, subA, eqFs, Int.cast_ofNat_Int, simprocAttr, checkN, h0, il, h1]
  simp (maxSteps := 4000000) (disch := omega) only [abv, step, stepv, ev, wl, wn, wp, wz, aop, cV, cV1, AV.one, partCells, okW, onlyFr, app, sliceCells, cellsAt, srcA, subA, eqFs, Int.cast_ofNat_Int, simprocAttr, il]
  refine ALoop.by (ι := Nat) (fun k => ⟨[(6, .int .i64 k), (1, il l), (5, .int .i64 (half x))], []⟩) (fun k => k ≤ l.length ∧ (l.take k).all (inR x) = true) (fun k => l.length - k) 0 (Le.slots (by simp [Am.look, il])) ⟨by omega, by simp⟩ ?_
  intro k ⟨hk, hg⟩
  by_cases hlt : k < l.length
  · have hb := hl _ (List.getElem_mem hlt)
    by_cases hp : -half x ≤ l[k] ∧ l[k] < half x
    · have hs := all_take_step hlt (p := inR x)
      simp (maxSteps := 4000000) (disch := omega) only [abv, step, stepv, ev, wl, wn, wp, wz, aop, cV, cV1, AV.one, partCells, okW, onlyFr, app, sliceCells, cellsAt, srcA, subA, eqFs, Int.cast_ofNat_Int, simprocAttr, il, drop_ks, hlt]
      exact ⟨k + 1, ⟨by omega, by rw [hs, hg]; simp [inR, hp]⟩, by omega, Le.slots (by simp [Am.look, il])⟩
    · have e : checkN x l = 16 := by simp [checkN, h0, h1, not_all_of hlt (p := inR x) (by simp [inR]; omega)]
      by_cases hq : l[k] < -half x
      · simp (maxSteps := 4000000) (disch := omega) only [abv, step, stepv, ev, wl, wn, wp, wz, aop, cV, cV1, AV.one, partCells, okW, onlyFr, app, sliceCells, cellsAt, srcA, subA, eqFs, Int.cast_ofNat_Int, simprocAttr, il, drop_ks, hlt, e]
      · simp (maxSteps := 4000000) (disch := omega) only [abv, step, stepv, ev, wl, wn, wp, wz, aop, cV, cV1, AV.one, partCells, okW, onlyFr, app, sliceCells, cellsAt, srcA, subA, eqFs, Int.cast_ofNat_Int, simprocAttr, il, drop_ks, hlt, e]
  · have e2 : k = l.length := by omega
    subst e2
    rw [List.take_length] at hg
    simp (maxSteps := 4000000) (disch := omega) only [abv, step, stepv, ev, wl, wn, wp, wz, aop, cV, cV1, AV.one, partCells, okW, onlyFr, app, sliceCells, cellsAt, srcA, subA, eqFs, Int.cast_ofNat_Int, simprocAttr, il, checkN, h0, h1, hg]

theorem div_small {n : Nat} {c : Int} (h : 1 ≤ c) : 0 ≤ (n : Int) / c ∧ (n : Int) / c ≤ n :=
  ⟨Int.ediv_nonneg (by omega) (by omega), Int.ediv_le_self _ (by omega)⟩

theorem mod_small {n : Nat} {c : Int} (h : 1 ≤ c) : 0 ≤ (n : Int) % c ∧ (n : Int) % c < c := ⟨Int.emod_nonneg _ (by omega), Int.emod_lt_of_pos _ (by omega)⟩

end Go.Am

namespace Go.Am
open Go.RowKit

def longN (r : Int) : Int := if 256 * r / 245 < 1 then 1 else 256 * r / 245
theorem longN_pos (r : Int) : 1 ≤ longN r := by unfold longN; split <;> omega
theorem longN_le {r : Int} (h : r ≤ 1048576) : longN r ≤ 1095654 := by unfold longN; split <;> omega
def longA (r : Int) : AV := if r < 1 ∨ 1048576 < r then .tup [.int .i64 0, .int .i64 2] else .tup [.int .i64 (longN r), .int .i64 0]
def S_Long22 (P : Prg) (f : Nat) : Prop := ∀ r : Int, VC P f [.int .i64 r] (longA r)

theorem isD_long (r : Int) : isD (longA r) = true := by unfold longA; split <;> rfl

theorem lengths_Long {P : Prg} {f : Nat} (b : Body P f 14 [.tmp 2, .tmp 3] ac_lengths_Long) : S_Long22 P f := by
  intro r
  refine VC.of_acall rfl (isD_long r) (ACall.of_body b (by simp) ?_)
  by_cases h1 : r < 1
  · simp (maxSteps := 4000000) (disch := omega) only [abv, step, stepv, ev, wl, wn, wp, wz, aop, cV, cV1, AV.one, partCells, okW, onlyFr, app, sliceCells, cellsAt, srcA, subA, eqFs, Int.cast_ofNat_Int, simprocAttr, ac_lengths_Long, longA, true_or]
  by_cases h2 : 1048576 < r
  · simp (maxSteps := 4000000) (disch := omega) only [abv, step, stepv, ev, wl, wn, wp, wz, aop, cV, cV1, AV.one, partCells, okW, onlyFr, app, sliceCells, cellsAt, srcA, subA, eqFs, Int.cast_ofNat_Int, simprocAttr, ac_lengths_Long, longA, or_true]
  have h3 : 1 ≤ 256 * r / 245 := by omega
  simp (maxSteps := 4000000) (disch := omega) only [abv, step, stepv, ev, wl, wn, wp, wz, aop, cV, cV1, AV.one, partCells, okW, onlyFr, app, sliceCells, cellsAt, srcA, subA, eqFs, Int.cast_ofNat_Int, simprocAttr, ac_lengths_Long, longA, or_self, longN]
  rw [show (if (1 : Int) < 256 * r / 245 then 256 * r / 245 else 1) = 256 * r / 245 by split <;> omega]

theorem ref22_Long {P : Prg} {f : Nat} (b : Body P f 17 [.tmp 2, .tmp 3] ac_cadenzaref22_Long) : S_Long22 P f := by
  intro r
  refine VC.of_acall rfl (isD_long r) (ACall.of_body b (by simp) ?_)
  by_cases h1 : r < 1
  · simp (maxSteps := 4000000) (disch := omega) only [abv, step, stepv, ev, wl, wn, wp, wz, aop, cV, cV1, AV.one, partCells, okW, onlyFr, app, sliceCells, cellsAt, srcA, subA, eqFs, Int.cast_ofNat_Int, simprocAttr, ac_cadenzaref22_Long, longA, true_or]
  by_cases h2 : 1048576 < r
  · simp (maxSteps := 4000000) (disch := omega) only [abv, step, stepv, ev, wl, wn, wp, wz, aop, cV, cV1, AV.one, partCells, okW, onlyFr, app, sliceCells, cellsAt, srcA, subA, eqFs, Int.cast_ofNat_Int, simprocAttr, ac_cadenzaref22_Long, longA, or_true]
  have e : r * 256 / 245 = 256 * r / 245 := by rw [Int.mul_comm]
  have h3 : 1 ≤ 256 * r / 245 := by omega
  simp (maxSteps := 4000000) (disch := omega) only [abv, step, stepv, ev, wl, wn, wp, wz, aop, cV, cV1, AV.one, partCells, okW, onlyFr, app, sliceCells, cellsAt, srcA, subA, eqFs, Int.cast_ofNat_Int, simprocAttr, ac_cadenzaref22_Long, longA, or_self, longN, e]

def eCheck (c b : Int) : Int := if half b = 0 ∨ c < 1 ∨ 6 < c then 2 else 0
def shA (c b : Int) : AV := .agg [.int .i64 c, .int .i64 b]
def S_ECheck (P : Prg) (f : Nat) : Prop := ∀ c b : Int, VC P f [shA c b] (.int .i64 (eCheck c b))

theorem enframe_Check {P : Prg} {f fR t0 : Nat} (b : Body P f 25 [.tmp 2] (ac_enframe_Check fR t0)) (hR : S_Range P fR) : S_ECheck P f := by
  intro c x
  refine VC.of_acall rfl rfl (ACall.of_body b (by simp) ?_)
  simp (maxSteps := 4000000) (disch := omega) only [abv, step, stepv, ev, wl, wn, wp, wz, aop, cV, cV1, AV.one, partCells, okW, onlyFr, app, sliceCells, cellsAt, srcA, subA, eqFs, Int.cast_ofNat_Int, simprocAttr, ac_enframe_Check, shA]
  refine callQ.vc (hR x) ?_
  by_cases h0 : half x = 0
  · simp (maxSteps := 4000000) (disch := omega) only [abv, step, stepv, ev, wl, wn, wp, wz, aop, cV, cV1, AV.one, partCells, okW, onlyFr, app, sliceCells, cellsAt, srcA, subA, eqFs, Int.cast_ofNat_Int, simprocAttr, rangeA, h0, eCheck, true_or]
  by_cases h1 : c < 1
  · simp (maxSteps := 4000000) (disch := omega) only [abv, step, stepv, ev, wl, wn, wp, wz, aop, cV, cV1, AV.one, partCells, okW, onlyFr, app, sliceCells, cellsAt, srcA, subA, eqFs, Int.cast_ofNat_Int, simprocAttr, rangeA, if_neg h0, eCheck, h0, or_true, true_or]
  by_cases h2 : 6 < c
  · simp (maxSteps := 4000000) (disch := omega) only [abv, step, stepv, ev, wl, wn, wp, wz, aop, cV, cV1, AV.one, partCells, okW, onlyFr, app, sliceCells, cellsAt, srcA, subA, eqFs, Int.cast_ofNat_Int, simprocAttr, rangeA, if_neg h0, eCheck, h0, or_true]
  · simp (maxSteps := 4000000) (disch := omega) only [abv, step, stepv, ev, wl, wn, wp, wz, aop, cV, cV1, AV.one, partCells, okW, onlyFr, app, sliceCells, cellsAt, srcA, subA, eqFs, Int.cast_ofNat_Int, simprocAttr, rangeA, if_neg h0, eCheck, h0, or_self]

theorem ref20_Check {P : Prg} {f fH t0 : Nat} (b : Body P f 17 [.tmp 2] (ac_cadenzaref20_Check fH t0)) (hH : S_Half P fH) : S_ECheck P f := by
  intro c x
  refine VC.of_acall rfl rfl (ACall.of_body b (by simp) ?_)
  have hx := half_cases x
  by_cases h1 : c < 1
  · simp (maxSteps := 4000000) (disch := omega) only [abv, step, stepv, ev, wl, wn, wp, wz, aop, cV, cV1, AV.one, partCells, okW, onlyFr, app, sliceCells, cellsAt, srcA, subA, eqFs, Int.cast_ofNat_Int, simprocAttr, ac_cadenzaref20_Check, shA, eCheck, or_true, true_or]
  by_cases h2 : 6 < c
  · simp (maxSteps := 4000000) (disch := omega) only [abv, step, stepv, ev, wl, wn, wp, wz, aop, cV, cV1, AV.one, partCells, okW, onlyFr, app, sliceCells, cellsAt, srcA, subA, eqFs, Int.cast_ofNat_Int, simprocAttr, ac_cadenzaref20_Check, shA, eCheck, or_true]
  simp (maxSteps := 4000000) (disch := omega) only [abv, step, stepv, ev, wl, wn, wp, wz, aop, cV, cV1, AV.one, partCells, okW, onlyFr, app, sliceCells, cellsAt, srcA, subA, eqFs, Int.cast_ofNat_Int, simprocAttr, ac_cadenzaref20_Check, shA]
  refine callQ.vc (hH x) ?_
  by_cases h0 : half x = 0
  · simp (maxSteps := 4000000) (disch := omega) only [abv, step, stepv, ev, wl, wn, wp, wz, aop, cV, cV1, AV.one, partCells, okW, onlyFr, app, sliceCells, cellsAt, srcA, subA, eqFs, Int.cast_ofNat_Int, simprocAttr, h0, eCheck, true_or]
  · simp (maxSteps := 4000000) (disch := omega) only [abv, step, stepv, ev, wl, wn, wp, wz, aop, cV, cV1, AV.one, partCells, okW, onlyFr, app, sliceCells, cellsAt, srcA, subA, eqFs, Int.cast_ofNat_Int, simprocAttr, h0, eCheck, or_self]
end Go.Am

namespace Go.Am
open Go.RowKit

structure Enc where
  ch : Int
  bits : Int
  rate : Int
  pw : List UInt8
  rest : List UInt8
  smp : List Int
  frs : List (List UInt8)
  out : List UInt8
  done : Bool
  err : Int

def bss (l : List (List UInt8)) : AV := .list l.length (l.map bs)
def encL (e : Enc) : List AV := [.int .i64 e.ch, .int .i64 e.bits, .int .i64 e.rate, .str e.pw, bs e.rest, il e.smp, bss e.frs, bs e.out, .bool e.done, .int .i64 e.err]
theorem isDL_bss : ∀ l : List (List UInt8), isDL (l.map bs) = true
  | [] => rfl
  | x :: l => by simp [isDL, isD_bs, isDL_bss l]
theorem isD_bss (l : List (List UInt8)) : isD (bss l) = true := by simp [bss, isD, isDL_bss]
end Go.Am

namespace Go.Am
open Go.RowKit

/-! ### slices.IndexFunc, slices.ContainsFunc at elements of one cell -/

theorem isTL_bss : ∀ l : List (List UInt8), isTL (l.map bs) = true
  | [] => rfl
  | x :: l => by
    have : isT (bs x) = true := by simp [bs, isT]; induction x with | nil => rfl | cons y x ih => simp [u8_cons, isTL, isT, ih]
    simp [isTL, this, isTL_bss l]

/-! ### feeding -/

end Go.Am

namespace Go.Am
open Go.RowKit

theorem flatten_one {α : Type} (f : α → AV) : ∀ l : List α, (l.map fun x => [f x]).flatten = l.map f
  | [] => rfl
  | x :: l => by simp [flatten_one f l]

theorem fits_u8s {L : List (List AV)} (h : ∀ c ∈ L, Fits (.int .u8) c) : ∃ l : List UInt8, L.length = l.length ∧ AV.list L.length L.flatten = bs l := by
  obtain ⟨l, rfl, _⟩ := map_of_all (f := fun b : UInt8 => [AV.int .u8 b.toNat]) (q := fun _ => True) h (fun c hc => by
    simp only [Fits] at hc
    obtain ⟨n, rfl, h1, h2⟩ := hc
    simp only [IntKind.min, IntKind.max, IntKind.signed, IntKind.bits] at h1 h2
    refine ⟨UInt8.ofNat n.toNat, ?_, trivial⟩
    simp at h1 h2
    simp; omega)
  exact ⟨l, by simp, by simp [bs, u8, flatten_one]⟩

theorem fits_ints {K : IntKind} {L : List (List AV)} (h : ∀ c ∈ L, Fits (.int K) c) : ∃ l : List Int, L.length = l.length ∧ AV.list L.length L.flatten = .list l.length (ks K l) ∧ ∀ x ∈ l, K.min ≤ x ∧ x ≤ K.max := by
  obtain ⟨l, rfl, h2⟩ := map_of_all (f := fun n : Int => [AV.int K n]) (q := fun x => K.min ≤ x ∧ x ≤ K.max) h (fun c hc => by
    simp only [Fits] at hc
    obtain ⟨n, rfl, h1, h2⟩ := hc
    exact ⟨n, rfl, h1, h2⟩)
  exact ⟨l, by simp, by simp [ks, flatten_one], h2⟩

def isStr (P : Program) (t : TypeId) : Bool := match P.underlying t with | some (.struct _) => true | _ => false
def isArr (P : Program) (t : TypeId) : Bool := match P.underlying t with | some (.array _ _) => true | _ => false
def isSl (P : Program) (t : TypeId) : Bool := match P.underlying t with | some (.slice _) => true | _ => false
theorem isStr_eq {P : Program} {t : TypeId} (h : isStr P t = true) : ∃ fs, P.underlying t = some (.struct fs) := by
  unfold isStr at h; split at h
  · exact ⟨_, by assumption⟩
  · cases h
theorem isArr_eq {P : Program} {t : TypeId} (h : isArr P t = true) : ∃ n e, P.underlying t = some (.array n e) := by
  unfold isArr at h; split at h
  · exact ⟨_, _, by assumption⟩
  · cases h
theorem isSl_eq {P : Program} {t : TypeId} (h : isSl P t = true) : ∃ e, P.underlying t = some (.slice e) := by
  unfold isSl at h; split at h
  · exact ⟨_, by assumption⟩
  · cases h

end Go.Am

namespace Go.Am
open Go.RowKit

theorem fits_i32s {L : List (List AV)} (h : ∀ c ∈ L, Fits (.int .i32) c) : ∃ l : List Int, L.length = l.length ∧ AV.list L.length L.flatten = il l ∧ I32 l := by
  obtain ⟨l, h1, h2, h3⟩ := fits_ints h
  exact ⟨l, h1, h2, fun x hx => by have := h3 x hx; simpa [IntKind.min, IntKind.max, IntKind.signed, IntKind.bits] using this⟩

theorem fits_bss {L : List (List AV)} (h : ∀ c ∈ L, Fits (.slice (.int .u8)) c) : ∃ l : List (List UInt8), L.length = l.length ∧ AV.list L.length L.flatten = bss l ∧ ∀ x ∈ l, x.length ≤ maxLen := by
  obtain ⟨l, rfl, h2⟩ := map_of_all (f := fun b : List UInt8 => [bs b]) (q := fun x => x.length ≤ maxLen) h (fun c hc => by
    simp only [Fits] at hc
    obtain ⟨L', rfl, h1, h2⟩ := hc
    obtain ⟨l, h3, h4⟩ := fits_u8s h2
    exact ⟨l, by rw [h4], by omega⟩)
  exact ⟨l, by simp, by simp [bss, flatten_one], h2⟩

def shSh : Sh := .tuple [.int .i64, .int .i64]
def encSh : Sh := .tuple [shSh, .int .i64, .str, .slice (.int .u8), .slice (.int .i32), .slice (.slice (.int .u8)), .slice (.int .u8), .bool, .int .i64]

theorem fits_shape {cs0 : List AV} (h : Fits shSh cs0) : ∃ c b : Int, cs0 = [.int .i64 c, .int .i64 b] := by
  simp only [shSh, Fits, FitsL] at h
  obtain ⟨_, _, rfl, ⟨c, rfl, _⟩, _, _, rfl, ⟨b, rfl, _⟩, rfl⟩ := h
  exact ⟨c, b, rfl⟩

theorem fits_enc {cs0 : List AV} (h : Fits encSh cs0) : ∃ e : Enc, cs0 = encL e ∧ I32 e.smp := by
  simp only [encSh, Fits, FitsL] at h
  obtain ⟨_, _, rfl, h1, _, _, rfl, ⟨r, rfl, _⟩, _, _, rfl, ⟨p, rfl, _⟩, _, _, rfl, ⟨L1, rfl, _, h2⟩, _, _, rfl, ⟨L2, rfl, _, h3⟩, _, _, rfl, ⟨L3, rfl, _, h4⟩, _, _, rfl, ⟨L4, rfl, _, h5⟩, _, _, rfl, ⟨d, rfl⟩, _, _, rfl, ⟨x, rfl, _⟩, rfl⟩ := h
  obtain ⟨c, b, rfl⟩ := fits_shape h1
  obtain ⟨l1, _, e1⟩ := fits_u8s (L := L1) (fun c hc => by simp only [Fits]; exact h2 c hc)
  obtain ⟨l2, _, e2, hi⟩ := fits_i32s (L := L2) (fun c hc => by simp only [Fits]; exact h3 c hc)
  obtain ⟨l3, _, e3, _⟩ := fits_bss (L := L3) (fun c hc => by simp only [Fits]; exact h4 c hc)
  obtain ⟨l4, _, e4⟩ := fits_u8s (L := L4) (fun c hc => by simp only [Fits]; exact h5 c hc)
  exact ⟨⟨c, b, r, p, l1, l2, l3, l4, d, x⟩, by simp [encL, e1, e2, e3, e4], hi⟩
end Go.Am

namespace Go.Am
open Go.RowKit

def w32 (x : Int) : Int := IntKind.i32.wrap x
theorem w32_eq (x : Int) : w32 x = (x + 2147483648) % 4294967296 - 2147483648 := by
  simp [w32, IntKind.wrap, IntKind.bits, IntKind.signed]; split <;> omega
theorem w32_add (a b : Int) : w32 (w32 a + w32 b) = w32 (a + b) := by simp only [w32_eq]; omega
theorem w32_id {a : Int} (h1 : -2147483648 ≤ a) (h2 : a ≤ 2147483647) : w32 a = a := wrap_i32 h1 h2
theorem w32_rng (a : Int) : -2147483648 ≤ w32 a ∧ w32 a ≤ 2147483647 := by simp only [w32_eq]; omega
theorem w32_def (x : Int) : IntKind.i32.wrap x = w32 x := rfl

theorem getD_mem {l : List Int} (h : I32 l) (k : Nat) : -2147483648 ≤ l.getD k 0 ∧ l.getD k 0 ≤ 2147483647 := by
  rw [List.getD_eq_getElem?_getD]
  cases hk : l[k]? with
  | none => simp
  | some v => exact h v (List.mem_of_getElem? hk)

theorem ks_get {K : IntKind} {l : List Int} {k : Nat} (h : k < l.length) : (ks K l)[k]? = some (.int K (l.getD k 0)) := by
  simp [ks, List.getD_eq_getElem?_getD, List.getElem?_eq_getElem h]

structure Filt where
  sh : Int
  tp : List Int
  ps : List Int

def filtL (f : Filt) : List AV := .int .i64 f.sh :: (ks .i32 f.tp ++ ks .i32 f.ps)
def okFl (f : Filt) : Prop := f.tp.length = 16 ∧ f.ps.length = 16 ∧ I32 f.tp ∧ I32 f.ps

theorem filt_len {f : Filt} (h : okFl f) : (filtL f).length = 33 := by
  obtain ⟨h1, h2, _⟩ := h
  simp [filtL, ks_length, h1, h2]
theorem filt_one (f : Filt) : (filtL f).all AV.one = true := by
  simp only [filtL, List.all_cons, List.all_append, ks_one]; rfl
theorem isDL_filt (f : Filt) : isDL (filtL f) = true := by
  have : ∀ a b, isDL (ks .i32 a ++ ks .i32 b) = true := fun a b => by rw [ks_append]; exact isDL_ks _ _
  simp [filtL, isDL, isD, this]
theorem filt_taps {f : Filt} (h : okFl f) : ((filtL f).drop 1).take 16 = ks .i32 f.tp := by
  obtain ⟨h1, h2, _⟩ := h
  simp only [filtL, List.drop_succ_cons, List.drop_zero]
  rw [List.take_left' (by simp [ks_length, h1])]
theorem filt_pasts {f : Filt} (h : okFl f) : ((filtL f).drop 17).take 16 = ks .i32 f.ps := by
  obtain ⟨h1, h2, _⟩ := h
  simp only [filtL, List.drop_succ_cons]
  rw [List.drop_left' (by simp [ks_length, h1]), List.take_of_length_le (by simp [ks_length, h2])]
theorem filt_tap {f : Filt} (h : okFl f) {k : Nat} (hk : k < 16) : (filtL f).drop (1 + k) = .int .i32 (f.tp.getD k 0) :: ((ks .i32 f.tp).drop (k + 1) ++ ks .i32 f.ps) := by
  obtain ⟨h1, h2, _⟩ := h
  rw [Nat.add_comm]
  simp only [filtL, List.drop_succ_cons]
  rw [List.drop_append_of_le_length (by simp [ks_length, h1]; omega), drop_ks (by omega), ← ks_drop]
  simp [List.getD_eq_getElem?_getD, List.getElem?_eq_getElem (show k < f.tp.length by omega)]
theorem filt_past {f : Filt} (h : okFl f) {k : Nat} (hk : k < 16) : (filtL f).drop (17 + k) = .int .i32 (f.ps.getD k 0) :: (ks .i32 f.ps).drop (k + 1) := by
  obtain ⟨h1, h2, _⟩ := h
  rw [show 17 + k = (16 + k) + 1 by omega]
  simp only [filtL, List.drop_succ_cons]
  rw [← List.drop_drop, List.drop_left' (by simp [ks_length, h1]), drop_ks (by omega), ← ks_drop]
  simp [List.getD_eq_getElem?_getD, List.getElem?_eq_getElem (show k < f.ps.length by omega)]
theorem filt_setTap {f : Filt} (h : okFl f) {k : Nat} (hk : k < 16) (v : Int) : (filtL f).take (1 + k) ++ [.int .i32 v] ++ (filtL f).drop (1 + k + 1) = filtL { f with tp := f.tp.set k v } := by
  obtain ⟨h1, h2, _⟩ := h
  rw [Nat.add_comm 1 k]
  simp only [filtL, List.take_succ_cons, List.drop_succ_cons, List.cons_append]
  congr 1
  rw [List.take_append_of_le_length (by simp [ks_length, h1]; omega), List.drop_append_of_le_length (by simp [ks_length, h1]; omega), ← List.append_assoc]
  congr 1
  rw [List.set_eq_take_append_cons_drop, if_pos (by omega)]
  simp [ks]
theorem filt_setPast {f : Filt} (h : okFl f) {k : Nat} (hk : k < 16) (v : Int) : (filtL f).take (17 + k) ++ [.int .i32 v] ++ (filtL f).drop (17 + k + 1) = filtL { f with ps := f.ps.set k v } := by
  obtain ⟨h1, h2, _⟩ := h
  rw [show 17 + k = (16 + k) + 1 by omega]
  simp only [filtL, List.take_succ_cons, List.drop_succ_cons, List.cons_append]
  congr 1
  have e : (ks .i32 f.tp).length = 16 := by simp [ks_length, h1]
  rw [List.take_append, List.take_of_length_le (by omega), e, show 16 + k + 1 = 16 + (k + 1) by omega, ← List.drop_drop, List.drop_left' e, show 16 + k - 16 = k by omega, List.append_assoc, List.append_assoc]
  congr 1
  rw [List.set_eq_take_append_cons_drop, if_pos (by omega)]
  simp [ks]

theorem take_all {α : Type} {l : List α} {n : Nat} (h : l.length ≤ n) : l.take n = l := List.take_of_length_le h

/-! ### taps.New, taps.Check -/

def shiftOf (b : Int) : Int := if b = 16 then 9 else 10
def z16 : List Int := List.replicate 16 0
def newF (b : Int) (t : List Int) : Filt := ⟨shiftOf b, t, z16⟩
def zeroF : Filt := ⟨0, z16, z16⟩
def tnewA (b : Int) (t : List Int) : AV := if half b = 0 then .tup [.agg (filtL zeroF), .int .i64 2] else .tup [.agg (filtL (newF b t)), .int .i64 0]
def S_TNew (P : Prg) (f : Nat) : Prop := ∀ (b : Int) (t : List Int), t.length = 16 → VC P f [.int .i64 b, .agg (ks .i32 t)] (tnewA b t)

theorem isD_tnew (b : Int) (t : List Int) : isD (tnewA b t) = true := by
  unfold tnewA; split <;> simp [isD, isDL, isDL_filt]
theorem zeroF_eq : filtL zeroF = [.int .i64 0, .int .i32 0, .int .i32 0, .int .i32 0, .int .i32 0, .int .i32 0, .int .i32 0, .int .i32 0, .int .i32 0, .int .i32 0, .int .i32 0, .int .i32 0, .int .i32 0, .int .i32 0, .int .i32 0, .int .i32 0, .int .i32 0, .int .i32 0, .int .i32 0, .int .i32 0, .int .i32 0, .int .i32 0, .int .i32 0, .int .i32 0, .int .i32 0, .int .i32 0, .int .i32 0, .int .i32 0, .int .i32 0, .int .i32 0, .int .i32 0, .int .i32 0, .int .i32 0] := rfl

theorem taps_New {P : Prg} {f t0 t1 : Nat} (b : Body P f 18 [.cell 4 t1, .tmp 5] (ac_taps_New t0 t1)) (ht : aggO P t1 = some (some 33)) : S_TNew P f := by
  intro x t hl
  have hk : (ks .i32 t).length = 16 := by simp [ks_length, hl]
  have h1 := ks_one .i32 t
  have tk16 : (ks .i32 t).take 16 = ks .i32 t := take_all (by omega)
  refine VC.of_acall (by simp [isDL, isD, isDL_ks]) (isD_tnew _ _) (ACall.of_body b (by simp) ?_)
  have fin : ∀ s : Int, .int .i64 s :: (ks .i32 t ++ [.int .i32 0, .int .i32 0, .int .i32 0, .int .i32 0, .int .i32 0, .int .i32 0, .int .i32 0, .int .i32 0, .int .i32 0, .int .i32 0, .int .i32 0, .int .i32 0, .int .i32 0, .int .i32 0, .int .i32 0, .int .i32 0]) = filtL ⟨s, t, z16⟩ := fun _ => rfl
  have hl33 : ∀ s : Int, (filtL ⟨s, t, z16⟩).length = 33 := fun s => by simp [filtL, ks_length, hl, z16]
  have ho := fun s => filt_one ⟨s, t, z16⟩
  have tk : ∀ s : Int, (filtL ⟨s, t, z16⟩).take 33 = filtL ⟨s, t, z16⟩ := fun s => take_all (by rw [hl33]; omega)
  have st9 : ([] : List AV) ++ [.int .i64 9] ++ (filtL ⟨10, t, z16⟩).drop 1 = filtL ⟨9, t, z16⟩ := rfl
  have d9 : AV.int .i64 9 :: (filtL ⟨10, t, z16⟩).drop 1 = filtL ⟨9, t, z16⟩ := rfl
  rcases half_cases x with ⟨rfl, h⟩ | ⟨rfl, h⟩ | ⟨rfl, h⟩ | ⟨h2, h3, h4, h⟩
  · simp (maxSteps := 4000000) (disch := omega) only [abv, step, stepv, ev, wl, wn, wp, wz, aop, cV, cV1, AV.one, partCells, okW, onlyFr, app, sliceCells, cellsAt, srcA, subA, eqFs, Int.cast_ofNat_Int, simprocAttr, ac_taps_New, tnewA, h, hk, h1, tk16, fin, hl33, ho, tk, resA, ht, newF, shiftOf]
  · simp (maxSteps := 4000000) (disch := omega) only [abv, step, stepv, ev, wl, wn, wp, wz, aop, cV, cV1, AV.one, partCells, okW, onlyFr, app, sliceCells, cellsAt, srcA, subA, eqFs, Int.cast_ofNat_Int, simprocAttr, ac_taps_New, tnewA, h, hk, h1, tk16, fin, hl33, ho, tk, resA, ht, newF, shiftOf, d9]
  · simp (maxSteps := 4000000) (disch := omega) only [abv, step, stepv, ev, wl, wn, wp, wz, aop, cV, cV1, AV.one, partCells, okW, onlyFr, app, sliceCells, cellsAt, srcA, subA, eqFs, Int.cast_ofNat_Int, simprocAttr, ac_taps_New, tnewA, h, hk, h1, tk16, fin, hl33, ho, tk, resA, ht, newF, shiftOf]
  · simp (maxSteps := 4000000) (disch := omega) only [abv, step, stepv, ev, wl, wn, wp, wz, aop, cV, cV1, AV.one, partCells, okW, onlyFr, app, sliceCells, cellsAt, srcA, subA, eqFs, Int.cast_ofNat_Int, simprocAttr, ac_taps_New, tnewA, h, hk, h1, tk16, fin, hl33, ho, tk, resA, ht, zeroF_eq]

def tchk (s : Int) : Int := if s = 9 ∨ s = 10 then 0 else 8
def S_TCheck (P : Prg) (f : Nat) : Prop := ∀ x : Filt, okFl x → VC P f [.agg (filtL x)] (.int .i64 (tchk x.sh))

theorem tchk9 : tchk 9 = 0 := rfl
theorem tchk10 : tchk 10 = 0 := rfl

/-! ### taps.Guess -/

def dotN (a b : List Int) : Nat → Int
  | 0 => 0
  | k + 1 => dotN a b k + a.getD k 0 * b.getD k 0
def partN (s : Int) : Int := if s = 9 then 512 else 1024
def guessF (f : Filt) : Int := w32 (partN f.sh / 2 + dotN f.tp f.ps 16) / partN f.sh
def S_TGuess (P : Prg) (f : Nat) : Prop := ∀ x : Filt, okFl x → x.sh = 9 ∨ x.sh = 10 → VC P f [.agg (filtL x)] (.tup [.int .i32 (guessF x), .int .i64 0])

theorem shl32_8 : shiftA true .i32 1 8 = some (.int .i32 256) := rfl
theorem shl32_9 : shiftA true .i32 1 9 = some (.int .i32 512) := rfl
theorem shr32_9 (s : Int) : shiftA false .i32 s 9 = some (.int .i32 (s / 512)) := by
  show some (AV.int .i32 (s.fdiv 512)) = _
  rw [Int.fdiv_eq_ediv_of_nonneg _ (by omega)]
theorem shr32_10 (s : Int) : shiftA false .i32 s 10 = some (.int .i32 (s / 1024)) := by
  show some (AV.int .i32 (s.fdiv 1024)) = _
  rw [Int.fdiv_eq_ediv_of_nonneg _ (by omega)]

theorem taps_Guess {P : Prg} {f fC t0 : Nat} (b : Body P f 36 [.tmp 2, .tmp 3] (ac_taps_Guess fC t0)) (hC : S_TCheck P fC) : S_TGuess P f := by
  intro x hx hs
  have l33 := filt_len hx
  have tk : (filtL x).take 33 = filtL x := take_all (by omega)
  have ho := filt_one x
  have e1 := filt_taps hx
  have e0 : (filtL x).drop 0 = .int .i64 x.sh :: (ks .i32 x.tp ++ ks .i32 x.ps) := rfl
  have ht : tchk x.sh = 0 := by simp [tchk, hs]
  have hl := hx.1
  refine VC.of_acall (by simp [isDL, isD, isDL_filt]) rfl (ACall.of_body b (by simp) ?_)
  simp (maxSteps := 4000000) (disch := omega) only [abv, step, stepv, ev, wl, wn, wp, wz, aop, cV, cV1, AV.one, partCells, okW, onlyFr, app, sliceCells, cellsAt, srcA, subA, eqFs, Int.cast_ofNat_Int, simprocAttr, ac_taps_Guess, l33, tk, ho]
  refine callQ.vc (hC x hx) ?_
  rcases hs with h | h
  all_goals
    have z0 : w32 (partN x.sh / 2 + dotN x.tp x.ps 0) = partN x.sh / 2 := by simp only [dotN, Int.add_zero]; exact w32_id (by simp [partN, h]) (by simp [partN, h])
    have z1 : partN x.sh = 512 ∧ x.sh = 9 ∨ partN x.sh = 1024 ∧ x.sh = 10 := by simp [partN, h]
    simp (maxSteps := 4000000) (disch := omega) only [abv, step, stepv, ev, wl, wn, wp, wz, aop, cV, cV1, AV.one, partCells, okW, onlyFr, app, sliceCells, cellsAt, srcA, subA, eqFs, Int.cast_ofNat_Int, simprocAttr, l33, tk, ho, tchk9, tchk10, e1, ↓e0, h, shl32_8, shl32_9]
    refine ALoop.by (ι := Nat) (fun k => ⟨[(19, .int .i64 k), (18, .agg (ks .i32 x.tp)), (5, .int .i32 (w32 (partN x.sh / 2 + dotN x.tp x.ps k))), (1, .ref 0 1 0)], [⟨t0, 33, 1, filtL x, 0⟩]⟩) (fun k => k ≤ 16) (fun k => 16 - k) 0 (Le.slots (by rw [z0]; simp [Am.look, h, partN])) (by omega) ?_
    intro k hk
    by_cases hlt : k < 16
    · have e2 := filt_past hx hlt
      have e3 := ks_get (K := .i32) (l := x.tp) (k := k) (by omega)
      have e4 : w32 (w32 (partN x.sh / 2 + dotN x.tp x.ps k) + w32 (x.tp.getD k 0 * x.ps.getD k 0)) = w32 (partN x.sh / 2 + dotN x.tp x.ps (k + 1)) := by
        rw [w32_add]; simp only [dotN]; congr 1; omega
      simp (maxSteps := 4000000) (disch := omega) only [abv, step, stepv, ev, wl, wn, wp, wz, aop, cV, cV1, AV.one, partCells, okW, onlyFr, app, sliceCells, cellsAt, srcA, subA, eqFs, Int.cast_ofNat_Int, simprocAttr, l33, e2, e3, w32_def, e4]
      exact ⟨k + 1, by omega, by omega, Le.slots (by simp [Am.look])⟩
    · have e : k = 16 := by omega
      subst e
      simp (maxSteps := 4000000) (disch := omega) only [abv, step, stepv, ev, wl, wn, wp, wz, aop, cV, cV1, AV.one, partCells, okW, onlyFr, app, sliceCells, cellsAt, srcA, subA, eqFs, Int.cast_ofNat_Int, simprocAttr, ↓e0, h, shr32_9, shr32_10, guessF, partN]
/-! ### taps.Learn, taps.Push -/

theorem taps_Check {P : Prg} {f t0 : Nat} (b : Body P f 11 [.tmp 2] (ac_taps_Check t0)) : S_TCheck P f := by
  intro x hx
  have l33 := filt_len hx
  have ho := filt_one x
  have e0 : (filtL x).drop 0 = .int .i64 x.sh :: (ks .i32 x.tp ++ ks .i32 x.ps) := rfl
  refine VC.of_acall (by simp [isDL, isD, isDL_filt]) rfl (ACall.of_body b (by simp) ?_)
  by_cases h9 : x.sh = 9
  · simp (maxSteps := 4000000) (disch := omega) only [abv, step, stepv, ev, wl, wn, wp, wz, aop, cV, cV1, AV.one, partCells, okW, onlyFr, app, sliceCells, cellsAt, srcA, subA, eqFs, Int.cast_ofNat_Int, simprocAttr, ac_taps_Check, l33, ho, ↓e0, h9, tchk]
  by_cases h10 : x.sh = 10
  · simp (maxSteps := 4000000) (disch := omega) only [abv, step, stepv, ev, wl, wn, wp, wz, aop, cV, cV1, AV.one, partCells, okW, onlyFr, app, sliceCells, cellsAt, srcA, subA, eqFs, Int.cast_ofNat_Int, simprocAttr, ac_taps_Check, l33, ho, ↓e0, h10, tchk]
  · simp (maxSteps := 4000000) (disch := omega) only [abv, step, stepv, ev, wl, wn, wp, wz, aop, cV, cV1, AV.one, partCells, okW, onlyFr, app, sliceCells, cellsAt, srcA, subA, eqFs, Int.cast_ofNat_Int, simprocAttr, ac_taps_Check, l33, ho, ↓e0, tchk]

def stepN (i : Nat) : Int := if i = 0 then 4 else if i < 4 then 2 else 1
def S_TStep (P : Prg) (f : Nat) : Prop := ∀ i : Nat, VC P f [.int .i64 i] (.int .i32 (stepN i))
theorem taps_step {P : Prg} {f : Nat} (b : Body P f 9 [.tmp 2] ac_taps_step) : S_TStep P f := by
  intro i
  refine VC.of_acall rfl rfl (ACall.of_body b (by simp) ?_)
  by_cases h0 : i = 0
  · subst h0; simp (maxSteps := 4000000) (disch := omega) only [abv, step, stepv, ev, wl, wn, wp, wz, aop, cV, cV1, AV.one, partCells, okW, onlyFr, app, sliceCells, cellsAt, srcA, subA, eqFs, Int.cast_ofNat_Int, simprocAttr, ac_taps_step, stepN, Int.natCast_zero]
  by_cases h1 : i < 4
  · simp (maxSteps := 4000000) (disch := omega) only [abv, step, stepv, ev, wl, wn, wp, wz, aop, cV, cV1, AV.one, partCells, okW, onlyFr, app, sliceCells, cellsAt, srcA, subA, eqFs, Int.cast_ofNat_Int, simprocAttr, ac_taps_step, stepN, h0]
  · simp (maxSteps := 4000000) (disch := omega) only [abv, step, stepv, ev, wl, wn, wp, wz, aop, cV, cV1, AV.one, partCells, okW, onlyFr, app, sliceCells, cellsAt, srcA, subA, eqFs, Int.cast_ofNat_Int, simprocAttr, ac_taps_step, stepN, h0]

end Go.Am

namespace Go.Am
open Go.RowKit

def sgn (x : Int) : Int := if x < 0 then -1 else if 0 < x then 1 else 0
def updT (x : Filt) (w : Int) (k : Nat) : Int := w32 (x.tp.getD k 0 + stepN k * sgn (x.ps.getD k 0) * sgn w)
def learnK (x : Filt) (w : Int) (k : Nat) : List Int := (List.range 16).map fun i => if i < k then updT x w i else x.tp.getD i 0
def lf (x : Filt) (w : Int) (k : Nat) : Filt := { x with tp := learnK x w k }
def learnF (x : Filt) (w : Int) : Filt := lf x w 16

theorem range_getD {l : List Int} (h : l.length = 16) : (List.range 16).map (fun i => l.getD i 0) = l := by
  apply List.ext_getElem (by simp [h])
  intro i h1 h2
  simp [List.getD_eq_getElem?_getD, List.getElem?_eq_getElem h2]
theorem learn_len (x : Filt) (w : Int) (k : Nat) : (learnK x w k).length = 16 := by simp [learnK]
theorem learn_zero {x : Filt} (h : okFl x) (w : Int) : learnK x w 0 = x.tp := by
  have := range_getD h.1
  simpa [learnK] using this
theorem learn_getD (x : Filt) (w : Int) {k : Nat} (hk : k < 16) : (learnK x w k).getD k 0 = x.tp.getD k 0 := by
  simp [learnK, List.getD_eq_getElem?_getD, hk]
theorem learn_set (x : Filt) (w : Int) {k : Nat} (hk : k < 16) : (learnK x w k).set k (updT x w k) = learnK x w (k + 1) := by
  apply List.ext_getElem (by simp [learnK])
  intro i h1 h2
  rw [List.getElem_set]
  simp only [learnK, List.getElem_map, List.getElem_range]
  by_cases e : k = i
  · subst e; simp
  · rw [if_neg e]
    by_cases h : i < k
    · rw [if_pos h, if_pos (by omega)]
    · rw [if_neg h, if_neg (by omega)]
theorem learn_same (x : Filt) (w : Int) {k : Nat} (h : updT x w k = x.tp.getD k 0) : learnK x w (k + 1) = learnK x w k := by
  simp only [learnK]
  apply List.map_congr_left
  intro i _
  by_cases e : i = k
  · subst e; simp [h]
  · by_cases h : i < k
    · rw [if_pos h, if_pos (by omega)]
    · rw [if_neg h, if_neg (by omega)]
theorem I32_learn {x : Filt} (h : okFl x) (w : Int) (k : Nat) : I32 (learnK x w k) := by
  intro v hv
  simp only [learnK, List.mem_map] at hv
  obtain ⟨i, _, rfl⟩ := hv
  split
  · exact w32_rng _
  · exact getD_mem h.2.2.1 i
theorem ok_learnK {x : Filt} (h : okFl x) (w : Int) (k : Nat) : okFl (lf x w k) := ⟨learn_len x w k, h.2.1, I32_learn h w k, h.2.2.2⟩
theorem ok_learn {x : Filt} (h : okFl x) (w : Int) : okFl (learnF x w) := ok_learnK h w 16
theorem learn_w0 {x : Filt} (h : okFl x) : learnF x 0 = x := by
  have key : ∀ k, learnK x 0 k = x.tp := fun k => by
    induction k with
    | zero => exact learn_zero h 0
    | succ k ih =>
      rw [learn_same x 0, ih]
      have := getD_mem h.2.2.1 k
      simp only [updT, sgn]
      simp
      exact w32_id (by simpa using this.1) (by simpa using this.2)
  simp [learnF, lf, key]

def S_TLearn (P : Prg) (f : Nat) : Prop := ∀ (x : Filt) (w : Int), okFl x → x.sh = 9 ∨ x.sh = 10 → VC P f [.agg (filtL x), .int .i32 w] (.tup [.agg (filtL (learnF x w)), .int .i64 0])

theorem tchk_ok {s : Int} (h : s = 9 ∨ s = 10) : tchk s = 0 := by simp [tchk, h]

theorem taps_Learn {P : Prg} {f fC fS t0 : Nat} (b : Body P f 53 [.cell 4 t0, .tmp 5] (ac_taps_Learn fC fS t0)) (ht : aggO P t0 = some (some 33)) (hC : S_TCheck P fC) (hS : S_TStep P fS) : S_TLearn P f := by
  intro x w hx hs
  have l33 := filt_len hx
  have tk : (filtL x).take 33 = filtL x := take_all (by omega)
  have ho := filt_one x
  have hc := tchk_ok hs
  have pp := filt_pasts hx
  have lw := filt_len (ok_learn hx w)
  have tkw : (filtL (learnF x w)).take 33 = filtL (learnF x w) := take_all (by omega)
  have how := filt_one (learnF x w)
  refine VC.of_acall (by simp [isDL, isD, isDL_filt]) (by simp [isD, isDL, isDL_filt]) (ACall.of_body b (by simp) ?_)
  simp (maxSteps := 4000000) (disch := omega) only [abv, step, stepv, ev, wl, wn, wp, wz, aop, cV, cV1, AV.one, partCells, okW, onlyFr, app, sliceCells, cellsAt, srcA, subA, eqFs, Int.cast_ofNat_Int, simprocAttr, ac_taps_Learn, l33, tk, ho]
  refine callQ.vc (hC x hx) ?_
  by_cases hw : w = 0
  · subst hw
    have e := learn_w0 hx
    simp (maxSteps := 4000000) (disch := omega) only [abv, step, stepv, ev, wl, wn, wp, wz, aop, cV, cV1, AV.one, partCells, okW, onlyFr, app, sliceCells, cellsAt, srcA, subA, eqFs, Int.cast_ofNat_Int, simprocAttr, l33, tk, ho, hc, resA, ht, e]
  simp (maxSteps := 4000000) (disch := omega) only [abv, step, stepv, ev, wl, wn, wp, wz, aop, cV, cV1, AV.one, partCells, okW, onlyFr, app, sliceCells, cellsAt, srcA, subA, eqFs, Int.cast_ofNat_Int, simprocAttr, l33, tk, ho, hc, pp]
  refine ALoop.by (ι := Nat) (fun k => ⟨[(20, .int .i64 k), (19, .agg (ks .i32 x.ps)), (4, .ref 1 1 0), (2, .ref 0 1 0), (1, .int .i32 w), (5, .int .i64 0)], [⟨t0, 33, 1, filtL (lf x w k), 0⟩, ⟨t0, 33, 1, filtL zeroF, 0⟩]⟩) (fun k => k ≤ 16) (fun k => 16 - k) 0 (by rw [show lf x w 0 = x by simp [lf, learn_zero hx]]; exact Le.slots (by simp [Am.look])) (by omega) ?_
  intro k hk
  by_cases hlt : k < 16
  · have hok := ok_learnK hx w k
    have e1 := ks_get (K := .i32) (l := x.ps) (k := k) (by have := hx.2.1; omega)
    have e2 := filt_tap hok hlt
    have e3 := fun v => filt_setTap hok hlt v
    have e4 := learn_getD x w hlt
    have e5 := filt_len hok
    have hu := learn_set x w hlt
    have hp := getD_mem hx.2.2.2 k
    have htp := getD_mem hx.2.2.1 k
    have ef : ∀ v, ({ lf x w k with tp := (lf x w k).tp.set k v } : Filt) = { x with tp := (learnK x w k).set k v } := fun _ => rfl
    have e7 : (lf x w k).tp.getD k 0 = x.tp.getD k 0 := e4
    by_cases p0 : x.ps.getD k 0 = 0
    · have e6 := learn_same x w (k := k) (by simp only [updT, p0, sgn]; simp; exact w32_id (by simpa using htp.1) (by simpa using htp.2))
      simp (maxSteps := 4000000) (disch := omega) only [abv, step, stepv, ev, wl, wn, wp, wz, aop, cV, cV1, AV.one, partCells, okW, onlyFr, app, sliceCells, cellsAt, srcA, subA, eqFs, Int.cast_ofNat_Int, simprocAttr, e1, p0]
      exact ⟨k + 1, by omega, by omega, by rw [show lf x w (k + 1) = lf x w k by simp [lf, e6]]; exact Le.slots (by simp [Am.look])⟩
    · by_cases hsame : (x.ps.getD k 0 < 0 ↔ w < 0)
      · have e6 : updT x w k = w32 (x.tp.getD k 0 + stepN k) := by
          simp only [updT, sgn]; congr 1
          by_cases q : w < 0
          · rw [if_pos q, if_pos (hsame.2 q)]; omega
          · rw [if_neg q, if_neg (fun h => q (hsame.1 h)), if_pos (by omega), if_pos (by omega)]; omega
        rw [e6] at hu
        by_cases q : w < 0
        · have q2 := hsame.2 q
          simp (maxSteps := 4000000) (disch := omega) only [abv, step, stepv, ev, wl, wn, wp, wz, aop, cV, cV1, AV.one, partCells, okW, onlyFr, app, sliceCells, cellsAt, srcA, subA, eqFs, Int.cast_ofNat_Int, simprocAttr, e1, e2, e7]
          refine callD.vc (hS k) ?_
          simp (maxSteps := 4000000) (disch := omega) only [abv, step, stepv, ev, wl, wn, wp, wz, aop, cV, cV1, AV.one, partCells, okW, onlyFr, app, sliceCells, cellsAt, srcA, subA, eqFs, Int.cast_ofNat_Int, simprocAttr, e3, e5, w32_def, ef, hu]
          exact ⟨k + 1, by omega, by omega, Le.slots (by simp [Am.look])⟩
        · have q2 : ¬ x.ps.getD k 0 < 0 := fun h => q (hsame.1 h)
          simp (maxSteps := 4000000) (disch := omega) only [abv, step, stepv, ev, wl, wn, wp, wz, aop, cV, cV1, AV.one, partCells, okW, onlyFr, app, sliceCells, cellsAt, srcA, subA, eqFs, Int.cast_ofNat_Int, simprocAttr, e1, e2, e7]
          refine callD.vc (hS k) ?_
          simp (maxSteps := 4000000) (disch := omega) only [abv, step, stepv, ev, wl, wn, wp, wz, aop, cV, cV1, AV.one, partCells, okW, onlyFr, app, sliceCells, cellsAt, srcA, subA, eqFs, Int.cast_ofNat_Int, simprocAttr, e3, e5, w32_def, ef, hu]
          exact ⟨k + 1, by omega, by omega, Le.slots (by simp [Am.look])⟩
      · have e6 : updT x w k = w32 (x.tp.getD k 0 - stepN k) := by
          simp only [updT, sgn]; congr 1
          by_cases q : w < 0
          · rw [if_pos q, if_neg (fun h => hsame ⟨fun _ => q, fun _ => h⟩), if_pos (by omega)]; omega
          · rw [if_neg q, if_pos (Classical.byContradiction fun h => hsame ⟨fun h' => absurd h' h, fun h' => absurd h' q⟩), if_pos (by omega)]; omega
        rw [e6] at hu
        by_cases q : w < 0
        · have q2 : ¬ x.ps.getD k 0 < 0 := fun h => hsame ⟨fun _ => q, fun _ => h⟩
          simp (maxSteps := 4000000) (disch := omega) only [abv, step, stepv, ev, wl, wn, wp, wz, aop, cV, cV1, AV.one, partCells, okW, onlyFr, app, sliceCells, cellsAt, srcA, subA, eqFs, Int.cast_ofNat_Int, simprocAttr, e1, e2, e7]
          refine callD.vc (hS k) ?_
          simp (maxSteps := 4000000) (disch := omega) only [abv, step, stepv, ev, wl, wn, wp, wz, aop, cV, cV1, AV.one, partCells, okW, onlyFr, app, sliceCells, cellsAt, srcA, subA, eqFs, Int.cast_ofNat_Int, simprocAttr, e3, e5, w32_def, ef, hu]
          exact ⟨k + 1, by omega, by omega, Le.slots (by simp [Am.look])⟩
        · have q2 : x.ps.getD k 0 < 0 := Classical.byContradiction fun h => hsame ⟨fun h' => absurd h' h, fun h' => absurd h' q⟩
          simp (maxSteps := 4000000) (disch := omega) only [abv, step, stepv, ev, wl, wn, wp, wz, aop, cV, cV1, AV.one, partCells, okW, onlyFr, app, sliceCells, cellsAt, srcA, subA, eqFs, Int.cast_ofNat_Int, simprocAttr, e1, e2, e7]
          refine callD.vc (hS k) ?_
          simp (maxSteps := 4000000) (disch := omega) only [abv, step, stepv, ev, wl, wn, wp, wz, aop, cV, cV1, AV.one, partCells, okW, onlyFr, app, sliceCells, cellsAt, srcA, subA, eqFs, Int.cast_ofNat_Int, simprocAttr, e3, e5, w32_def, ef, hu]
          exact ⟨k + 1, by omega, by omega, Le.slots (by simp [Am.look])⟩
  · have e : k = 16 := by omega
    subst e
    have hF : lf x w 16 = learnF x w := rfl
    rw [hF]
    simp (maxSteps := 4000000) (disch := omega) only [abv, step, stepv, ev, wl, wn, wp, wz, aop, cV, cV1, AV.one, partCells, okW, onlyFr, app, sliceCells, cellsAt, srcA, subA, eqFs, Int.cast_ofNat_Int, simprocAttr, lw, tkw, how, resA, ht, zeroF_eq]
/-! ### taps.Push -/

def pushF (x : Filt) (v : Int) : Filt := { x with ps := v :: x.ps.take 15 }
theorem ok_push {x : Filt} (h : okFl x) {v : Int} (hv : -2147483648 ≤ v ∧ v ≤ 2147483647) : okFl (pushF x v) := by
  obtain ⟨h1, h2, h3, h4⟩ := h
  refine ⟨h1, by simp [pushF, h2], h3, fun y hy => ?_⟩
  simp only [pushF, List.mem_cons] at hy
  rcases hy with rfl | hy
  · exact hv
  · exact h4 y (List.mem_of_mem_take hy)

def S_TPush (P : Prg) (f : Nat) : Prop := ∀ (x : Filt) (v : Int), okFl x → x.sh = 9 ∨ x.sh = 10 → VC P f [.agg (filtL x), .int .i32 v] (.tup [.agg (filtL (pushF x v)), .int .i64 0])

theorem taps_Push {P : Prg} {f fC t0 : Nat} (b : Body P f 22 [.cell 4 t0, .tmp 5] (ac_taps_Push fC t0)) (ht : aggO P t0 = some (some 33)) (hC : S_TCheck P fC) : S_TPush P f := by
  intro x v hx hs
  have l33 := filt_len hx
  have tk : (filtL x).take 33 = filtL x := take_all (by omega)
  have ho := filt_one x
  have hc := tchk_ok hs
  have pp := filt_pasts hx
  have h16 : (ks .i32 x.ps).length = 16 := by simp [ks_length, hx.2.1]
  have o16 := ks_one .i32 x.ps
  refine VC.of_acall (by simp [isDL, isD, isDL_filt]) (by simp [isD, isDL, isDL_filt]) (ACall.of_body b (by simp) ?_)
  simp (maxSteps := 4000000) (disch := omega) only [abv, step, stepv, ev, wl, wn, wp, wz, aop, cV, cV1, AV.one, partCells, okW, onlyFr, app, sliceCells, cellsAt, srcA, subA, eqFs, Int.cast_ofNat_Int, simprocAttr, ac_taps_Push, l33, tk, ho]
  refine callQ.vc (hC x hx) ?_
  have hm : Nat.min 16 15 = 15 := rfl
  let y : Filt := { x with ps := x.ps.getD 0 0 :: x.ps.take 15 }
  have hy : okFl y := ok_push hx (getD_mem hx.2.2.2 0)
  have hcp : (filtL x).take 18 ++ (ks .i32 x.ps).take 15 ++ (filtL x).drop 33 = filtL y := by
    have e1 : (filtL x).drop 33 = [] := List.drop_eq_nil_of_le (by omega)
    have e2 : (ks .i32 x.tp).length = 16 := by simp [ks_length, hx.1]
    have e3 : (ks .i32 x.ps).take 1 = [.int .i32 (x.ps.getD 0 0)] := by
      have h1 : 0 < x.ps.length := by have := hx.2.1; omega
      match hps : x.ps, h1 with
      | a :: l, _ => rfl
    rw [e1, List.append_nil]
    simp only [filtL, List.take_succ_cons, List.cons_append, y]
    congr 1
    rw [List.take_append, List.take_of_length_le (by omega), e2, e3, List.append_assoc, ks_take]
    rfl
  have hset : (filtL y).take 17 ++ [.int .i32 v] ++ (filtL y).drop 18 = filtL (pushF x v) := filt_setPast hy (k := 0) (by omega) v
  have ly := filt_len hy
  have lp : (filtL (pushF x v)).length = 33 := by rw [← hset]; simp [ly]
  have tkp : (filtL (pushF x v)).take 33 = filtL (pushF x v) := take_all (by omega)
  have op := filt_one (pushF x v)
  simp (maxSteps := 4000000) (disch := omega) only [abv, step, stepv, ev, wl, wn, wp, wz, aop, cV, cV1, AV.one, partCells, okW, onlyFr, app, sliceCells, cellsAt, srcA, subA, eqFs, Int.cast_ofNat_Int, simprocAttr, l33, tk, ho, hc, pp, h16, o16, hm, hcp, hset, ly, lp, tkp, op, resA, ht, zeroF_eq]
end Go.Am

namespace Go.Am
open Go.RowKit

def behindF (x : Filt) (v y : Int) : Filt := pushF (learnF x y) v
theorem ok_behind {x : Filt} (h : okFl x) {v : Int} (hv : -2147483648 ≤ v ∧ v ≤ 2147483647) (y : Int) : okFl (behindF x v y) := ok_push (ok_learn h y) hv
def S_LBehind (P : Prg) (f : Nat) : Prop := ∀ (x : Filt) (v y : Int), okFl x → x.sh = 9 ∨ x.sh = 10 → -2147483648 ≤ v ∧ v ≤ 2147483647 → VC P f [.agg (filtL x), .int .i32 v, .int .i32 y] (.agg (filtL (behindF x v y)))

theorem lms_behind {P : Prg} {f fL fP t0 : Nat} (b : Body P f 20 [.cell 6 t0] (ac_lms_behind fL fP t0)) (ht : aggO P t0 = some (some 33)) (hL : S_TLearn P fL) (hP : S_TPush P fP) : S_LBehind P f := by
  intro x v y hx hs hv
  have l1 := filt_len hx
  have t1 : (filtL x).take 33 = filtL x := take_all (by omega)
  have o1 := filt_one x
  have l2 := filt_len (ok_learn hx y)
  have t2 : (filtL (learnF x y)).take 33 = filtL (learnF x y) := take_all (by omega)
  have o2 := filt_one (learnF x y)
  have l3 := filt_len (ok_behind hx hv y)
  have t3 : (filtL (behindF x v y)).take 33 = filtL (behindF x v y) := take_all (by omega)
  have o3 := filt_one (behindF x v y)
  have d1 : (filtL x).drop 33 = [] := List.drop_eq_nil_of_le (by omega)
  have d2 : (filtL (learnF x y)).drop 33 = [] := List.drop_eq_nil_of_le (by omega)
  refine VC.of_acall (by simp [isDL, isD, isDL_filt]) (by simp [isD, isDL_filt]) (ACall.of_body b (by simp) ?_)
  simp (maxSteps := 4000000) (disch := omega) only [abv, step, stepv, ev, wl, wn, wp, wz, aop, cV, cV1, AV.one, partCells, okW, onlyFr, app, sliceCells, cellsAt, srcA, subA, eqFs, Int.cast_ofNat_Int, simprocAttr, ac_lms_behind, l1, t1, o1]
  refine callQ.vc (hL x y hx hs) ?_
  simp (maxSteps := 4000000) (disch := omega) only [abv, step, stepv, ev, wl, wn, wp, wz, aop, cV, cV1, AV.one, partCells, okW, onlyFr, app, sliceCells, cellsAt, srcA, subA, eqFs, Int.cast_ofNat_Int, simprocAttr, l1, t1, o1, l2, t2, o2, d1]
  refine callQ.vc (hP (learnF x y) v (ok_learn hx y) hs) ?_
  rw [← behindF]
  simp (maxSteps := 4000000) (disch := omega) only [abv, step, stepv, ev, wl, wn, wp, wz, aop, cV, cV1, AV.one, partCells, okW, onlyFr, app, sliceCells, cellsAt, srcA, subA, eqFs, Int.cast_ofNat_Int, simprocAttr, l1, t1, o1, l2, t2, o2, l3, t3, o3, d1, d2, resA, ht, zeroF_eq]

def fwdY (x : Filt) (v : Int) : Int := w32 (v - guessF x)
def fwdF (x : Filt) (v : Int) : Filt := behindF x v (fwdY x v)
def S_LForward (P : Prg) (f : Nat) : Prop := ∀ (x : Filt) (v : Int), okFl x → x.sh = 9 ∨ x.sh = 10 → -2147483648 ≤ v ∧ v ≤ 2147483647 → VC P f [.agg (filtL x), .int .i32 v] (.tup [.int .i32 (fwdY x v), .agg (filtL (fwdF x v)), .int .i64 0])

theorem lms_Forward {P : Prg} {f fG fB t0 : Nat} (b : Body P f 27 [.tmp 4, .cell 5 t0, .tmp 6] (ac_lms_Forward fG fB t0)) (ht : aggO P t0 = some (some 33)) (hG : S_TGuess P fG) (hB : S_LBehind P fB) : S_LForward P f := by
  intro x v hx hs hv
  have l1 := filt_len hx
  have t1 : (filtL x).take 33 = filtL x := take_all (by omega)
  have o1 := filt_one x
  have l3 := filt_len (ok_behind hx hv (fwdY x v))
  have t3 : (filtL (behindF x v (fwdY x v))).take 33 = filtL (behindF x v (fwdY x v)) := take_all (by omega)
  have o3 := filt_one (behindF x v (fwdY x v))
  refine VC.of_acall (by simp [isDL, isD, isDL_filt]) (by simp [isD, isDL, isDL_filt]) (ACall.of_body b (by simp) ?_)
  simp (maxSteps := 4000000) (disch := omega) only [abv, step, stepv, ev, wl, wn, wp, wz, aop, cV, cV1, AV.one, partCells, okW, onlyFr, app, sliceCells, cellsAt, srcA, subA, eqFs, Int.cast_ofNat_Int, simprocAttr, ac_lms_Forward, l1, t1, o1]
  refine callQ.vc (hG x hx hs) ?_
  simp (maxSteps := 4000000) (disch := omega) only [abv, step, stepv, ev, wl, wn, wp, wz, aop, cV, cV1, AV.one, partCells, okW, onlyFr, app, sliceCells, cellsAt, srcA, subA, eqFs, Int.cast_ofNat_Int, simprocAttr, l1, t1, o1, w32_def]
  refine callQ.vc (hB x v (fwdY x v) hx hs hv) ?_
  simp only [fwdY] at l3 t3 o3
  simp (maxSteps := 4000000) (disch := omega) only [abv, step, stepv, ev, wl, wn, wp, wz, aop, cV, cV1, AV.one, partCells, okW, onlyFr, app, sliceCells, cellsAt, srcA, subA, eqFs, Int.cast_ofNat_Int, simprocAttr, l1, t1, o1, l3, t3, o3, resA, ht, zeroF_eq, fwdF, fwdY]

/-! ### first -/

def firstN (b last : Int) : Int := if b = 8 then 15 * last / 16 else 31 * last / 32
def S_FShift (P : Prg) (f : Nat) : Prop := ∀ b : Int, half b ≠ 0 → VC P f [.int .i64 b] (.tup [.int .i64 (if b = 8 then 4 else 5), .int .i64 0])
theorem first_Shift {P : Prg} {f : Nat} (b : Body P f 10 [.tmp 2, .tmp 3] ac_first_Shift) : S_FShift P f := by
  intro x hx
  refine VC.of_acall rfl rfl (ACall.of_body b (by simp) ?_)
  rcases half_cases x with ⟨rfl, h⟩ | ⟨rfl, h⟩ | ⟨rfl, h⟩ | ⟨h2, h3, h4, h⟩
  · simp (maxSteps := 4000000) (disch := omega) only [abv, step, stepv, ev, wl, wn, wp, wz, aop, cV, cV1, AV.one, partCells, okW, onlyFr, app, sliceCells, cellsAt, srcA, subA, eqFs, Int.cast_ofNat_Int, simprocAttr, ac_first_Shift]
  · simp (maxSteps := 4000000) (disch := omega) only [abv, step, stepv, ev, wl, wn, wp, wz, aop, cV, cV1, AV.one, partCells, okW, onlyFr, app, sliceCells, cellsAt, srcA, subA, eqFs, Int.cast_ofNat_Int, simprocAttr, ac_first_Shift]
  · simp (maxSteps := 4000000) (disch := omega) only [abv, step, stepv, ev, wl, wn, wp, wz, aop, cV, cV1, AV.one, partCells, okW, onlyFr, app, sliceCells, cellsAt, srcA, subA, eqFs, Int.cast_ofNat_Int, simprocAttr, ac_first_Shift]
  · exact absurd h hx

theorem shl64_4 {x : Int} (h : -2147483648 ≤ x ∧ x ≤ 2147483647) : shiftA true .i64 x 4 = some (.int .i64 (x * 16)) := by
  show some (AV.int .i64 (IntKind.i64.wrap (x * 16))) = _
  rw [wrap_i64 (by omega) (by omega)]
theorem shl64_5 {x : Int} (h : -2147483648 ≤ x ∧ x ≤ 2147483647) : shiftA true .i64 x 5 = some (.int .i64 (x * 32)) := by
  show some (AV.int .i64 (IntKind.i64.wrap (x * 32))) = _
  rw [wrap_i64 (by omega) (by omega)]
theorem shr64_4 (x : Int) : shiftA false .i64 x 4 = some (.int .i64 (x / 16)) := by
  show some (AV.int .i64 (x.fdiv 16)) = _
  rw [Int.fdiv_eq_ediv_of_nonneg _ (by omega)]
theorem shr64_5 (x : Int) : shiftA false .i64 x 5 = some (.int .i64 (x / 32)) := by
  show some (AV.int .i64 (x.fdiv 32)) = _
  rw [Int.fdiv_eq_ediv_of_nonneg _ (by omega)]

def S_Fguess (P : Prg) (f : Nat) : Prop := ∀ (b l : Int), -2147483648 ≤ l ∧ l ≤ 2147483647 → VC P f [.int .i64 (if b = 8 then 4 else 5), .int .i32 l] (.int .i32 (firstN b l))
theorem first_guess {P : Prg} {f : Nat} (b : Body P f 16 [.tmp 4] ac_first_guess) : S_Fguess P f := by
  intro x l hl
  refine VC.of_acall rfl rfl (ACall.of_body b (by simp) ?_)
  have e1 : l * 16 - l = 15 * l := by omega
  have e2 : l * 32 - l = 31 * l := by omega
  have a := shl64_4 hl
  have c := shl64_5 hl
  by_cases h : x = 8
  · simp (maxSteps := 4000000) (disch := omega) only [abv, step, stepv, ev, wl, wn, wp, wz, aop, cV, cV1, AV.one, partCells, okW, onlyFr, app, sliceCells, cellsAt, srcA, subA, eqFs, Int.cast_ofNat_Int, simprocAttr, ac_first_guess, h, firstN, a, shr64_4, e1]
  · simp (maxSteps := 4000000) (disch := omega) only [abv, step, stepv, ev, wl, wn, wp, wz, aop, cV, cV1, AV.one, partCells, okW, onlyFr, app, sliceCells, cellsAt, srcA, subA, eqFs, Int.cast_ofNat_Int, simprocAttr, ac_first_guess, if_neg h, firstN, c, shr64_5, e2]

def S_FGuess (P : Prg) (f : Nat) : Prop := ∀ (b l : Int), half b ≠ 0 → -2147483648 ≤ l ∧ l ≤ 2147483647 → VC P f [.int .i64 b, .int .i32 l] (.tup [.int .i32 (firstN b l), .int .i64 0])
theorem first_Guess {P : Prg} {f fS fg : Nat} (b : Body P f 19 [.tmp 4, .tmp 5] (ac_first_Guess fS fg)) (hS : S_FShift P fS) (hg : S_Fguess P fg) : S_FGuess P f := by
  intro x l hx hl
  refine VC.of_acall rfl rfl (ACall.of_body b (by simp) ?_)
  simp (maxSteps := 4000000) (disch := omega) only [abv, step, stepv, ev, wl, wn, wp, wz, aop, cV, cV1, AV.one, partCells, okW, onlyFr, app, sliceCells, cellsAt, srcA, subA, eqFs, Int.cast_ofNat_Int, simprocAttr, ac_first_Guess]
  refine callQ.vc (hS x hx) ?_
  simp (maxSteps := 4000000) (disch := omega) only [abv, step, stepv, ev, wl, wn, wp, wz, aop, cV, cV1, AV.one, partCells, okW, onlyFr, app, sliceCells, cellsAt, srcA, subA, eqFs, Int.cast_ofNat_Int, simprocAttr]
  refine callQ.vc (hg x l hl) ?_
  simp (maxSteps := 4000000) (disch := omega) only [abv, step, stepv, ev, wl, wn, wp, wz, aop, cV, cV1, AV.one, partCells, okW, onlyFr, app, sliceCells, cellsAt, srcA, subA, eqFs, Int.cast_ofNat_Int, simprocAttr]
/-! ### chain -/

structure Chan where
  bits : Int
  last : Int
  fl : Filt

def chanL (c : Chan) : List AV := .int .i64 c.bits :: .int .i32 c.last :: filtL c.fl
def okCh (c : Chan) : Prop := half c.bits ≠ 0 ∧ c.fl.sh = shiftOf c.bits ∧ okFl c.fl ∧ (-2147483648 ≤ c.last ∧ c.last ≤ 2147483647)
def zeroC : Chan := ⟨0, 0, zeroF⟩

theorem chan_len {c : Chan} (h : okFl c.fl) : (chanL c).length = 35 := by simp [chanL, filt_len h]
theorem chan_one (c : Chan) : (chanL c).all AV.one = true := by simp [chanL, AV.one, filt_one]
theorem isDL_chan (c : Chan) : isDL (chanL c) = true := by simp [chanL, isDL, isD, isDL_filt]
theorem shift_of (b : Int) : shiftOf b = 9 ∨ shiftOf b = 10 := by unfold shiftOf; split <;> simp
theorem ok_new {b : Int} {t : List Int} (h1 : t.length = 16) (h2 : I32 t) : okFl (newF b t) := ⟨h1, by simp [newF, z16], h2, fun x hx => by simp [newF, z16] at hx; omega⟩
theorem zeroC_eq : chanL zeroC = [.int .i64 0, .int .i32 0, .int .i64 0, .int .i32 0, .int .i32 0, .int .i32 0, .int .i32 0, .int .i32 0, .int .i32 0, .int .i32 0, .int .i32 0, .int .i32 0, .int .i32 0, .int .i32 0, .int .i32 0, .int .i32 0, .int .i32 0, .int .i32 0, .int .i32 0, .int .i32 0, .int .i32 0, .int .i32 0, .int .i32 0, .int .i32 0, .int .i32 0, .int .i32 0, .int .i32 0, .int .i32 0, .int .i32 0, .int .i32 0, .int .i32 0, .int .i32 0, .int .i32 0, .int .i32 0, .int .i32 0] := rfl

def newC (b : Int) (t : List Int) : Chan := ⟨b, 0, newF b t⟩
def cnewA (b : Int) (t : List Int) : AV := if half b = 0 then .tup [.agg (chanL zeroC), .int .i64 2] else .tup [.agg (chanL (newC b t)), .int .i64 0]
def S_CNew (P : Prg) (f : Nat) : Prop := ∀ (b : Int) (t : List Int), t.length = 16 → I32 t → VC P f [.int .i64 b, .agg (ks .i32 t)] (cnewA b t)
theorem isD_cnew (b : Int) (t : List Int) : isD (cnewA b t) = true := by unfold cnewA; split <;> simp [isD, isDL, isDL_chan]

theorem chain_New {P : Prg} {f fT t0 t1 t2 : Nat} (b : Body P f 21 [.cell 4 t1, .tmp 5] (ac_chain_New fT t0 t1 t2)) (ht : aggO P t1 = some (some 35)) (hT : S_TNew P fT) : S_CNew P f := by
  intro x t hl hI
  have hk : (ks .i32 t).length = 16 := by simp [ks_length, hl]
  have h1 := ks_one .i32 t
  have tk16 : (ks .i32 t).take 16 = ks .i32 t := take_all (by omega)
  have hok : okFl (newF x t) := ok_new hl hI
  have l1 := filt_len hok
  have t1' : (filtL (newF x t)).take 33 = filtL (newF x t) := take_all (by omega)
  have o1 := filt_one (newF x t)
  have lc := chan_len (c := newC x t) hok
  have tc : (chanL (newC x t)).take 35 = chanL (newC x t) := take_all (by omega)
  have oc := chan_one (newC x t)
  have mk : AV.int .i64 x :: .int .i32 0 :: filtL (newF x t) = chanL (newC x t) := rfl
  refine VC.of_acall (by simp [isDL, isD, isDL_ks]) (isD_cnew _ _) (ACall.of_body b (by simp) ?_)
  simp (maxSteps := 4000000) (disch := omega) only [abv, step, stepv, ev, wl, wn, wp, wz, aop, cV, cV1, AV.one, partCells, okW, onlyFr, app, sliceCells, cellsAt, srcA, subA, eqFs, Int.cast_ofNat_Int, simprocAttr, ac_chain_New, hk, h1, tk16]
  refine callQ.vc (hT x t hl) ?_
  by_cases h0 : half x = 0
  · simp (maxSteps := 4000000) (disch := omega) only [abv, step, stepv, ev, wl, wn, wp, wz, aop, cV, cV1, AV.one, partCells, okW, onlyFr, app, sliceCells, cellsAt, srcA, subA, eqFs, Int.cast_ofNat_Int, simprocAttr, tnewA, h0, cnewA, zeroF_eq, zeroC_eq, resA, ht]
  · simp (maxSteps := 4000000) (disch := omega) only [abv, step, stepv, ev, wl, wn, wp, wz, aop, cV, cV1, AV.one, partCells, okW, onlyFr, app, sliceCells, cellsAt, srcA, subA, eqFs, Int.cast_ofNat_Int, simprocAttr, tnewA, if_neg h0, cnewA, l1, t1', o1, lc, tc, oc, mk, zeroC_eq, resA, ht]

theorem chan_fl {c : Chan} (h : okFl c.fl) : ((chanL c).drop 2).take 33 = filtL c.fl := by
  simp only [chanL, List.drop_succ_cons, List.drop_zero]
  exact take_all (by rw [filt_len h]; omega)
theorem chan_taps {c : Chan} (h : okFl c.fl) : ((chanL c).drop 3).take 16 = ks .i32 c.fl.tp := filt_taps h

def S_CCheck (P : Prg) (f : Nat) : Prop := ∀ c : Chan, okCh c → VC P f [.agg (chanL c)] (.int .i64 0)
theorem chain_Check {P : Prg} {f fT t0 t1 : Nat} (b : Body P f 24 [.tmp 2] (ac_chain_Check fT t0 t1)) (hT : S_TNew P fT) : S_CCheck P f := by
  intro c ⟨h1, h2, h3, h4⟩
  have lc := chan_len h3
  have oc := chan_one c
  have e0 : (chanL c).drop 0 = .int .i64 c.bits :: .int .i32 c.last :: filtL c.fl := rfl
  have e2 : (chanL c).drop 2 = .int .i64 c.fl.sh :: (ks .i32 c.fl.tp ++ ks .i32 c.fl.ps) := rfl
  have et := chan_taps h3
  have hk : (ks .i32 c.fl.tp).length = 16 := by simp [ks_length, h3.1]
  have hok : okFl (newF c.bits c.fl.tp) := ok_new h3.1 h3.2.2.1
  have l1 := filt_len hok
  have t1' : (filtL (newF c.bits c.fl.tp)).take 33 = filtL (newF c.bits c.fl.tp) := take_all (by omega)
  have o1 := filt_one (newF c.bits c.fl.tp)
  have en : (filtL (newF c.bits c.fl.tp)).drop 0 = .int .i64 (shiftOf c.bits) :: (ks .i32 c.fl.tp ++ ks .i32 z16) := rfl
  have dn : (filtL (newF c.bits c.fl.tp)).drop 33 = [] := List.drop_eq_nil_of_le (by omega)
  refine VC.of_acall (by simp [isDL, isD, isDL_chan]) rfl (ACall.of_body b (by simp) ?_)
  simp (maxSteps := 4000000) (disch := omega) only [abv, step, stepv, ev, wl, wn, wp, wz, aop, cV, cV1, AV.one, partCells, okW, onlyFr, app, sliceCells, cellsAt, srcA, subA, eqFs, Int.cast_ofNat_Int, simprocAttr, ac_chain_Check, lc, oc, ↓e0, et]
  refine callQ.vc (hT c.bits c.fl.tp h3.1) ?_
  simp (maxSteps := 4000000) (disch := omega) only [abv, step, stepv, ev, wl, wn, wp, wz, aop, cV, cV1, AV.one, partCells, okW, onlyFr, app, sliceCells, cellsAt, srcA, subA, eqFs, Int.cast_ofNat_Int, simprocAttr, tnewA, if_neg h1, l1, t1', o1, ↓en, ↓e2, h2, dn]

def cfwdZ (c : Chan) (x : Int) : Int := w32 (x - firstN c.bits c.last)
def cfwdY (c : Chan) (x : Int) : Int := fwdY c.fl (cfwdZ c x)
def cfwdC (c : Chan) (x : Int) : Chan := ⟨c.bits, x, fwdF c.fl (cfwdZ c x)⟩
theorem ok_cfwd {c : Chan} (h : okCh c) {x : Int} (hx : -2147483648 ≤ x ∧ x ≤ 2147483647) : okCh (cfwdC c x) := ⟨h.1, h.2.1, ok_behind h.2.2.1 (w32_rng _) _, hx⟩

def S_CForward (P : Prg) (f : Nat) : Prop := ∀ (c : Chan) (x : Int), okCh c → -2147483648 ≤ x ∧ x ≤ 2147483647 → VC P f [.agg (chanL c), .int .i32 x] (.tup [.int .i32 (cfwdY c x), .agg (chanL (cfwdC c x)), .int .i64 0])

theorem chain_Forward {P : Prg} {f fC fG fF t0 t1 : Nat} (b : Body P f 44 [.tmp 4, .cell 5 t0, .tmp 6] (ac_chain_Forward fC fG fF t0 t1)) (ht : aggO P t0 = some (some 35)) (hC : S_CCheck P fC) (hG : S_FGuess P fG) (hF : S_LForward P fF) : S_CForward P f := by
  intro c x hc hx
  obtain ⟨h1, h2, h3, h4⟩ := id hc
  have hs : c.fl.sh = 9 ∨ c.fl.sh = 10 := by rw [h2]; exact shift_of _
  have lc := chan_len h3
  have tc : (chanL c).take 35 = chanL c := take_all (by omega)
  have oc := chan_one c
  have e0 : (chanL c).drop 0 = .int .i64 c.bits :: .int .i32 c.last :: filtL c.fl := rfl
  have e1 : (chanL c).drop 1 = .int .i32 c.last :: filtL c.fl := rfl
  have e2 := chan_fl h3
  have hzr := w32_rng (x - firstN c.bits c.last)
  have hok := ok_cfwd hc hx
  have l1 := filt_len hok.2.2.1
  have t1' : (filtL (cfwdC c x).fl).take 33 = filtL (cfwdC c x).fl := take_all (by omega)
  have o1 := filt_one (cfwdC c x).fl
  have d1 : (filtL (cfwdC c x).fl).drop 33 = [] := List.drop_eq_nil_of_le (by omega)
  have l2 := chan_len hok.2.2.1
  have t2 : (chanL (cfwdC c x)).take 35 = chanL (cfwdC c x) := take_all (by omega)
  have o2 := chan_one (cfwdC c x)
  have mk : AV.int .i64 c.bits :: .int .i32 x :: filtL (cfwdC c x).fl = chanL (cfwdC c x) := rfl
  have hfe : fwdF c.fl (w32 (x - firstN c.bits c.last)) = (cfwdC c x).fl := rfl
  have hye : fwdY c.fl (w32 (x - firstN c.bits c.last)) = cfwdY c x := rfl
  refine VC.of_acall (by simp [isDL, isD, isDL_chan]) (by simp [isD, isDL, isDL_chan]) (ACall.of_body b (by simp) ?_)
  simp (maxSteps := 4000000) (disch := omega) only [abv, step, stepv, ev, wl, wn, wp, wz, aop, cV, cV1, AV.one, partCells, okW, onlyFr, app, sliceCells, cellsAt, srcA, subA, eqFs, Int.cast_ofNat_Int, simprocAttr, ac_chain_Forward, lc, tc, oc]
  refine callQ.vc (hC c hc) ?_
  simp (maxSteps := 4000000) (disch := omega) only [abv, step, stepv, ev, wl, wn, wp, wz, aop, cV, cV1, AV.one, partCells, okW, onlyFr, app, sliceCells, cellsAt, srcA, subA, eqFs, Int.cast_ofNat_Int, simprocAttr, lc, tc, oc, ↓e0, ↓e1]
  refine callQ.vc (hG c.bits c.last h1 h4) ?_
  simp (maxSteps := 4000000) (disch := omega) only [abv, step, stepv, ev, wl, wn, wp, wz, aop, cV, cV1, AV.one, partCells, okW, onlyFr, app, sliceCells, cellsAt, srcA, subA, eqFs, Int.cast_ofNat_Int, simprocAttr, lc, tc, oc, e2, w32_def]
  refine callQ.vc (hF c.fl _ h3 hs hzr) ?_
  rw [hfe, hye]
  simp (maxSteps := 4000000) (disch := omega) only [abv, step, stepv, ev, wl, wn, wp, wz, aop, cV, cV1, AV.one, partCells, okW, onlyFr, app, sliceCells, cellsAt, srcA, subA, eqFs, Int.cast_ofNat_Int, simprocAttr, lc, tc, oc, ↓e0, l1, t1', o1, d1, l2, t2, o2, mk, resA, ht, zeroC_eq]
end Go.Am

namespace Go.Am
open Go.RowKit

/-! ### chain.Back -/

/-! ### The references -/

theorem tdiv_neg' {x : Int} (h : x < 0) (n : Int) : x.tdiv n = -(-x / n) ∧ x.tmod n = -(-x % n) := by
  have e : x = -(-x) := by omega
  constructor
  · rw [e, Int.neg_tdiv, Int.tdiv_eq_ediv_of_nonneg (by omega)]; simp
  · rw [e, Int.neg_tmod, Int.tmod_eq_emod_of_nonneg (by omega)]; simp

def pushK (x : Filt) (k : Nat) : List Int := (List.range 16).map fun j => if k < j then x.ps.getD (j - 1) 0 else x.ps.getD j 0
def pf (x : Filt) (k : Nat) : Filt := { x with ps := pushK x k }
end Go.Am

namespace Go.Am
open Go.RowKit

/-! ### New -/


/-! ### fold -/

def foldN (x : Int) : Int := if x < 0 then -2 * x - 1 else 2 * x
def S_Fold (P : Prg) (f : Nat) : Prop := ∀ x : Int, -2147483648 ≤ x ∧ x ≤ 2147483647 → VC P f [.int .i32 x] (.int .u32 (foldN x))
theorem foldN_rng {x : Int} (h : -2147483648 ≤ x ∧ x ≤ 2147483647) : 0 ≤ foldN x ∧ foldN x < 4294967296 := by unfold foldN; split <;> omega

theorem xor_ones {a : Nat} (h : a < 4294967296) : (BitVec.ofInt 32 (a : Int) ^^^ BitVec.ofInt 32 4294967295).toNat = 4294967295 - a := by
  have e : BitVec.ofInt 32 4294967295 = BitVec.allOnes 32 := by decide
  rw [e, BitVec.xor_allOnes, BitVec.toNat_not]
  have : (BitVec.ofInt 32 (a : Int)).toNat = a := by simp; omega
  rw [this]
theorem xor_zero' {a : Nat} (h : a < 4294967296) : (BitVec.ofInt 32 (a : Int) ^^^ BitVec.ofInt 32 0).toNat = a := by
  have : (BitVec.ofInt 32 (a : Int)).toNat = a := by simp; omega
  rw [BitVec.toNat_xor, this]
  simp

theorem fold_Fold {P : Prg} {f : Nat} (b : Body P f 10 [.tmp 2] ac_fold_Fold) : S_Fold P f := by
  intro x hx
  refine VC.of_acall rfl rfl (ACall.of_body b (by simp) ?_)
  by_cases h : x < 0
  · have a1 : IntKind.u32.wrap x = x + 4294967296 := by rw [wrap_u32_mod]; omega
    have a2 : shiftA true .u32 (x + 4294967296) 1 = some (.int .u32 (2 * x + 4294967296)) := by
      show some (AV.int .u32 (IntKind.u32.wrap ((x + 4294967296) * 2))) = _
      rw [wrap_u32_mod]; congr 2; omega
    have a3 : shiftA false .i32 x 31 = some (.int .i32 (-1)) := by
      show some (AV.int .i32 (x.fdiv 2147483648)) = _
      rw [Int.fdiv_eq_ediv_of_nonneg _ (by omega)]; congr 2; omega
    have a4 : IntKind.u32.wrap (-1) = 4294967295 := rfl
    have a5 : (BitVec.ofInt IntKind.u32.bits (2 * x + 4294967296) ^^^ BitVec.ofInt IntKind.u32.bits 4294967295).toNat = (-2 * x - 1).toNat := by
      show (BitVec.ofInt 32 (2 * x + 4294967296) ^^^ BitVec.ofInt 32 4294967295).toNat = (-2 * x - 1).toNat
      have := xor_ones (a := (2 * x + 4294967296).toNat) (by omega)
      rw [show (((2 * x + 4294967296).toNat : Nat) : Int) = 2 * x + 4294967296 by omega] at this
      rw [this]; omega
    have a6 : (((BitVec.ofInt IntKind.u32.bits (2 * x + 4294967296) ^^^ BitVec.ofInt IntKind.u32.bits 4294967295).toNat : Nat) : Int) = -2 * x - 1 := by rw [a5]; omega
    simp (maxSteps := 4000000) (disch := omega) only [abv, step, stepv, ev, wl, wn, wp, wz, aop, cV, cV1, AV.one, partCells, okW, onlyFr, app, sliceCells, cellsAt, srcA, subA, eqFs, Int.cast_ofNat_Int, simprocAttr, ac_fold_Fold, a1, a2, a3, a4, a6, foldN]
  · have a2 : shiftA true .u32 x 1 = some (.int .u32 (2 * x)) := by
      show some (AV.int .u32 (IntKind.u32.wrap (x * 2))) = _
      rw [wrap_u32_mod]; congr 2; omega
    have a3 : shiftA false .i32 x 31 = some (.int .i32 0) := by
      show some (AV.int .i32 (x.fdiv 2147483648)) = _
      rw [Int.fdiv_eq_ediv_of_nonneg _ (by omega)]; congr 2; omega
    have a5 : (BitVec.ofInt IntKind.u32.bits (2 * x) ^^^ BitVec.ofInt IntKind.u32.bits 0).toNat = (2 * x).toNat := by
      show (BitVec.ofInt 32 (2 * x) ^^^ BitVec.ofInt 32 0).toNat = (2 * x).toNat
      have := xor_zero' (a := (2 * x).toNat) (by omega)
      rwa [show (((2 * x).toNat : Nat) : Int) = 2 * x by omega] at this
    have a6 : (((BitVec.ofInt IntKind.u32.bits (2 * x) ^^^ BitVec.ofInt IntKind.u32.bits 0).toNat : Nat) : Int) = 2 * x := by rw [a5]; omega
    simp (maxSteps := 4000000) (disch := omega) only [abv, step, stepv, ev, wl, wn, wp, wz, aop, cV, cV1, AV.one, partCells, okW, onlyFr, app, sliceCells, cellsAt, srcA, subA, eqFs, Int.cast_ofNat_Int, simprocAttr, ac_fold_Fold, a2, a3, a6, foldN]

end Go.Am

namespace Go.Am
open Go.RowKit

theorem ks_set {K : IntKind} {l : List Int} {i : Nat} (h : i < l.length) (v : Int) : (ks K l).take i ++ [.int K v] ++ (ks K l).drop (i + 1) = ks K (l.set i v) := by
  rw [List.set_eq_take_append_cons_drop, if_pos h]
  simp [ks]
theorem ks_at {K : IntKind} {l : List Int} {i : Nat} (h : i < l.length) : (ks K l).drop i = .int K (l.getD i 0) :: ks K (l.drop (i + 1)) := by
  rw [drop_ks h]; simp [List.getD_eq_getElem?_getD, List.getElem?_eq_getElem h]

theorem get_end {α : Type} (l : List α) (x : α) : (l ++ [x])[l.length]? = some x := by simp
theorem set_end {α : Type} (l : List α) (x y : α) : (l ++ [x]).set l.length y = l ++ [y] := by simp

/-! ### slices.Clone of numbers -/

def S_CloneA (t : Nat) (P : Prg) (f : Nat) : Prop := ∀ (l : List Int) (ob : List Ob) (K : AV → List Ob → Prop), 0 < l.length → l.length ≤ 1000000 → K (.own ob.length l.length) (ob ++ [⟨t, 1, l.length, ks .i32 l, 0⟩]) → ACall P f [il l] ob K

theorem clone_i32 {P : Prg} {f t0 : Nat} (b : Body P f 8 [.tmp 2] (ac_slices_Clone_int32_int32 t0)) : S_CloneA t0 P f := by
  intro l ob K h0 h1 hK
  refine ACall.of_body b (by simp) ?_
  have g1 := fun x : Ob => get_end ob x
  have g2 := fun x y : Ob => set_end ob x y
  have n0 : l.length ≠ 0 := by omega
  simp (maxSteps := 4000000) (disch := omega) only [abv, step, stepv, ev, wl, wn, wp, wz, aop, cV, cV1, AV.one, partCells, okW, onlyFr, app, sliceCells, cellsAt, srcA, subA, eqFs, Int.cast_ofNat_Int, simprocAttr, ac_slices_Clone_int32_int32, il, nilA, n0, g1, g2, ks_nil]
  exact hK

/-! ### mix.mix: in its place -/

def segK (L : List Int) (k i : Nat) : List Int := (List.range L.length).map fun j => if k ≤ j ∧ j < k + i then w32 (L.getD (j + 1) 0 - L.getD j 0) else L.getD j 0
def mixSeg (L : List Int) (k n : Nat) : List Int := if n = 1 then L else (segK L k (n - 1)).set (k + (n - 1)) (w32 (L.getD (k + (n - 1)) 0 - (w32 (L.getD (k + (n - 1)) 0 - L.getD (k + (n - 2)) 0)).tdiv 2))

theorem getD_ext {a b : List Int} (h : a.length = b.length) (h2 : ∀ j, j < a.length → a.getD j 0 = b.getD j 0) : a = b := by
  apply List.ext_getElem h
  intro i h1 h3
  have := h2 i h1
  simpa [List.getD_eq_getElem?_getD, List.getElem?_eq_getElem h1, List.getElem?_eq_getElem h3] using this
theorem seg_len (L : List Int) (k i : Nat) : (segK L k i).length = L.length := by simp [segK]
theorem map_getD {g : Nat → Int} {n j : Nat} (h : j < n) : ((List.range n).map g).getD j 0 = g j := by
  simp [List.getD_eq_getElem?_getD, h]
theorem set_getD {l : List Int} {i j : Nat} {v : Int} (h : j < l.length) : (l.set i v).getD j 0 = if i = j then v else l.getD j 0 := by
  simp only [List.getD_eq_getElem?_getD, List.getElem?_set]
  split
  · subst_vars; simp [h]
  · rfl
theorem seg_0 (L : List Int) (k : Nat) : segK L k 0 = L := getD_ext (seg_len _ _ _) fun j hj => by
  rw [seg_len] at hj
  rw [segK, map_getD hj, if_neg (by omega)]
theorem seg_at {L : List Int} {k i j : Nat} (h : j < L.length) (h2 : k + i ≤ j) : (segK L k i).getD j 0 = L.getD j 0 := by
  rw [segK, map_getD h, if_neg (by omega)]
theorem seg_step {L : List Int} {k i : Nat} (h : k + i < L.length) : (segK L k i).set (k + i) (w32 (L.getD (k + i + 1) 0 - L.getD (k + i) 0)) = segK L k (i + 1) := getD_ext (by simp [seg_len]) fun j hj => by
  have hj' : j < L.length := by simpa [seg_len] using hj
  rw [set_getD (by rw [seg_len]; exact hj'), segK, segK, map_getD hj', map_getD hj']
  by_cases e : k + i = j
  · subst e; rw [if_pos rfl, if_pos (by omega)]
  · rw [if_neg e]
    by_cases q : k ≤ j ∧ j < k + i
    · rw [if_pos q, if_pos (by omega)]
    · rw [if_neg q, if_neg (by omega)]

def S_Mix (P : Prg) (f : Nat) : Prop := ∀ (t : Nat) (L : List Int) (k n : Nat) (K : AV → List Ob → Prop), I32 L → 1 ≤ n → k + n ≤ L.length → L.length ≤ 1000000 →
  K (.tup []) [⟨t, 1, L.length, ks .i32 (mixSeg L k n), 0⟩] → ACall P f [.view 0 L.length k n] [⟨t, 1, L.length, ks .i32 L, 0⟩] K

theorem tdiv2_rng {x : Int} (h : -2147483648 ≤ x ∧ x ≤ 2147483647) : -2147483648 ≤ x.tdiv 2 ∧ x.tdiv 2 ≤ 2147483647 := by
  by_cases hx : x < 0
  · rw [(tdiv_neg' hx 2).1]; omega
  · rw [Int.tdiv_eq_ediv_of_nonneg (by omega)]; omega

theorem mix_mix {P : Prg} {f : Nat} (b : Body P f 39 [] ac_mix_mix) : S_Mix P f := by
  intro t L k n K hL h1 h2 h3 hK
  refine ACall.of_body b (by simp) ?_
  simp (maxSteps := 4000000) (disch := omega) only [abv, step, stepv, ev, wl, wn, wp, wz, aop, cV, cV1, AV.one, partCells, okW, onlyFr, app, sliceCells, cellsAt, srcA, subA, eqFs, Int.cast_ofNat_Int, simprocAttr, ac_mix_mix]
  refine ALoop.by (ι := Nat) (fun i => ⟨[(8, .int .i64 i), (7, .int .i64 ((n : Int) - 1)), (2, .int .i64 ((n : Int) - 1)), (0, .view 0 L.length k n)], [⟨t, 1, L.length, ks .i32 (segK L k i), 0⟩]⟩) (fun i => i ≤ n - 1) (fun i => n - 1 - i) 0 (by rw [seg_0]; exact Le.slots (by simp [Am.look])) (by omega) ?_
  intro i hi
  have ls := seg_len L k i
  by_cases hlt : i < n - 1
  · have e1 := ks_at (K := .i32) (l := segK L k i) (i := k + i) (by omega)
    have e2 := ks_at (K := .i32) (l := segK L k i) (i := k + (i + 1)) (by omega)
    have e3 := fun v => ks_set (K := .i32) (l := segK L k i) (i := k + i) (by omega) v
    have a1 := seg_at (L := L) (k := k) (i := i) (j := k + i) (by omega) (by omega)
    have a2 := seg_at (L := L) (k := k) (i := i) (j := k + (i + 1)) (by omega) (by omega)
    have a3 := seg_step (L := L) (k := k) (i := i) (by omega)
    rw [show k + i + 1 = k + (i + 1) by omega] at a3
    rw [a1] at e1
    rw [a2] at e2
    simp (maxSteps := 4000000) (disch := omega) only [abv, step, stepv, ev, wl, wn, wp, wz, aop, cV, cV1, AV.one, partCells, okW, onlyFr, app, sliceCells, cellsAt, srcA, subA, eqFs, Int.cast_ofNat_Int, simprocAttr, e1, e2, e3, w32_def, a3, ls]
    exact ⟨i + 1, by omega, by omega, Le.slots (by simp [Am.look])⟩
  · have e : i = n - 1 := by omega
    subst e
    by_cases hn : n = 1
    · subst hn
      have e0 : mixSeg L k 1 = segK L k (1 - 1) := by simp [mixSeg, seg_0]
      rw [e0] at hK
      simp (maxSteps := 4000000) (disch := omega) only [abv, step, stepv, ev, wl, wn, wp, wz, aop, cV, cV1, AV.one, partCells, okW, onlyFr, app, sliceCells, cellsAt, srcA, subA, eqFs, Int.cast_ofNat_Int, simprocAttr]
      exact hK
    · have e1 := ks_at (K := .i32) (l := segK L k (n - 1)) (i := k + (n - 1)) (by omega)
      have e2 := ks_at (K := .i32) (l := segK L k (n - 1)) (i := k + (n - 2)) (by omega)
      have e3 := fun v => ks_set (K := .i32) (l := segK L k (n - 1)) (i := k + (n - 1)) (by omega) v
      have a1 := seg_at (L := L) (k := k) (i := n - 1) (j := k + (n - 1)) (by omega) (by omega)
      have a2 : (segK L k (n - 1)).getD (k + (n - 2)) 0 = w32 (L.getD (k + (n - 1)) 0 - L.getD (k + (n - 2)) 0) := by
        rw [segK, map_getD (by omega), if_pos (by omega), show k + (n - 2) + 1 = k + (n - 1) by omega]
      rw [a1] at e1
      rw [a2] at e2
      have hr := tdiv2_rng (w32_rng (L.getD (k + (n - 1)) 0 - L.getD (k + (n - 2)) 0))
      simp only [mixSeg, if_neg hn] at hK
      rw [show k + (n - 2) = k + (n - 1 - 1) by omega] at e2 hK hr
      simp (maxSteps := 4000000) (disch := omega) only [abv, step, stepv, ev, wl, wn, wp, wz, aop, cV, cV1, AV.one, partCells, okW, onlyFr, app, sliceCells, cellsAt, srcA, subA, eqFs, Int.cast_ofNat_Int, simprocAttr, e1, e2, e3, w32_def, ls]
      exact hK
end Go.Am

namespace Go.Am
open Go.RowKit

def mcheckN (c : Int) (n : Nat) : Int := if c < 1 ∨ 6 < c then 2 else if 4000 < n then 4 else if (n : Int) % c ≠ 0 then 2 else 0
def S_MCheck (P : Prg) (f : Nat) : Prop := ∀ (c : Int) (l : List Int), VC P f [.int .i64 c, il l] (.int .i64 (mcheckN c l.length))

theorem mix_check {P : Prg} {f : Nat} (b : Body P f 22 [.tmp 4] ac_mix_check) : S_MCheck P f := by
  intro c l
  refine VC.of_acall (by simp [isDL, isD, isD_il]) rfl (ACall.of_body b (by simp) ?_)
  by_cases h1 : c < 1
  · simp (maxSteps := 4000000) (disch := omega) only [abv, step, stepv, ev, wl, wn, wp, wz, aop, cV, cV1, AV.one, partCells, okW, onlyFr, app, sliceCells, cellsAt, srcA, subA, eqFs, Int.cast_ofNat_Int, simprocAttr, ac_mix_check, il, mcheckN]
  by_cases h2 : 6 < c
  · simp (maxSteps := 4000000) (disch := omega) only [abv, step, stepv, ev, wl, wn, wp, wz, aop, cV, cV1, AV.one, partCells, okW, onlyFr, app, sliceCells, cellsAt, srcA, subA, eqFs, Int.cast_ofNat_Int, simprocAttr, ac_mix_check, il, mcheckN]
  by_cases h3 : 4000 < l.length
  · simp (maxSteps := 4000000) (disch := omega) only [abv, step, stepv, ev, wl, wn, wp, wz, aop, cV, cV1, AV.one, partCells, okW, onlyFr, app, sliceCells, cellsAt, srcA, subA, eqFs, Int.cast_ofNat_Int, simprocAttr, ac_mix_check, il, mcheckN]
  have hm := mod_small (n := l.length) (c := c) (by omega)
  by_cases h4 : (l.length : Int) % c = 0
  · simp (maxSteps := 4000000) (disch := omega) only [abv, step, stepv, ev, wl, wn, wp, wz, aop, cV, cV1, AV.one, partCells, okW, onlyFr, app, sliceCells, cellsAt, srcA, subA, eqFs, Int.cast_ofNat_Int, simprocAttr, ac_mix_check, il, mcheckN, h4]
  · simp (maxSteps := 4000000) (disch := omega) only [abv, step, stepv, ev, wl, wn, wp, wz, aop, cV, cV1, AV.one, partCells, okW, onlyFr, app, sliceCells, cellsAt, srcA, subA, eqFs, Int.cast_ofNat_Int, simprocAttr, ac_mix_check, il, mcheckN, h4]

def mixV (c : Nat) (l : List Int) (j : Nat) : Int :=
  if c = 1 then l.getD j 0
  else if j % c + 1 < c then w32 (l.getD (j + 1) 0 - l.getD j 0)
  else w32 (l.getD j 0 - (w32 (l.getD j 0 - l.getD (j - 1) 0)).tdiv 2)
def mixP (c : Nat) (l : List Int) (a : Nat) : List Int := (List.range l.length).map fun j => if j < a then mixV c l j else l.getD j 0
def mixAll (c : Nat) (l : List Int) : List Int := (List.range l.length).map (mixV c l)

theorem mixP_len (c : Nat) (l : List Int) (a : Nat) : (mixP c l a).length = l.length := by simp [mixP]
theorem mixP_0 (c : Nat) (l : List Int) : mixP c l 0 = l := getD_ext (mixP_len _ _ _) fun j hj => by
  rw [mixP_len] at hj; rw [mixP, map_getD hj, if_neg (by omega)]
theorem mixP_all (c : Nat) (l : List Int) : mixP c l l.length = mixAll c l := by
  simp only [mixP, mixAll]
  apply List.map_congr_left
  intro j hj
  rw [if_pos (by simpa using hj)]
theorem mixV_rng {c : Nat} {l : List Int} (h : I32 l) (j : Nat) : -2147483648 ≤ mixV c l j ∧ mixV c l j ≤ 2147483647 := by
  unfold mixV
  split
  · exact getD_mem h j
  · split <;> exact w32_rng _
theorem I32_mixP {c : Nat} {l : List Int} (h : I32 l) (a : Nat) : I32 (mixP c l a) := by
  intro v hv
  simp only [mixP, List.mem_map] at hv
  obtain ⟨j, _, rfl⟩ := hv
  split
  · exact mixV_rng h j
  · exact getD_mem h j
theorem I32_mixAll {c : Nat} {l : List Int} (h : I32 l) : I32 (mixAll c l) := by rw [← mixP_all]; exact I32_mixP h _
theorem mixAll_len (c : Nat) (l : List Int) : (mixAll c l).length = l.length := by simp [mixAll]

theorem mix_seg {c : Nat} {l : List Int} {m : Nat} (hc : 1 ≤ c) (h : c * m + c ≤ l.length) : mixSeg (mixP c l (c * m)) (c * m) c = mixP c l (c * m + c) := by
  have mod : ∀ j, c * m ≤ j → j < c * m + c → j % c = j - c * m := fun j h1 h2 => by
    rw [show j = c * m + (j - c * m) by omega, Nat.mul_add_mod]
    rw [Nat.mod_eq_of_lt (by omega)]; omega
  have at' : ∀ j, j < l.length → c * m ≤ j → (mixP c l (c * m)).getD j 0 = l.getD j 0 := fun j h1 h2 => by rw [mixP, map_getD h1, if_neg (by omega)]
  by_cases h1 : c = 1
  · subst h1
    simp only [mixSeg, if_true]
    refine getD_ext (by simp [mixP_len]) fun j hj => ?_
    rw [mixP_len] at hj
    rw [mixP, mixP, map_getD hj, map_getD hj]
    by_cases q : j < 1 * m
    · rw [if_pos q, if_pos (by omega)]
    · rw [if_neg q]; split
      · simp [mixV]
      · rfl
  · simp only [mixSeg, if_neg h1]
    refine getD_ext (by simp [seg_len, mixP_len]) fun j hj => ?_
    have hj' : j < l.length := by simpa [seg_len, mixP_len] using hj
    rw [set_getD (by simpa [seg_len, mixP_len] using hj')]
    rw [segK, mixP_len, map_getD hj']
    conv => rhs; rw [mixP, map_getD hj']
    by_cases e : c * m + (c - 1) = j
    · rw [if_pos e, if_pos (by omega), at' _ (by omega) (by omega), at' _ (by omega) (by omega)]
      subst e
      have := mod (c * m + (c - 1)) (by omega) (by omega)
      unfold mixV
      rw [if_neg h1, if_neg (by rw [this]; omega), show c * m + (c - 1) - 1 = c * m + (c - 2) by omega]
    · rw [if_neg e]
      by_cases q : c * m ≤ j ∧ j < c * m + (c - 1)
      · rw [if_pos q, if_pos (by omega), at' _ (by omega) (by omega), at' _ (by omega) (by omega)]
        have := mod j (by omega) (by omega)
        unfold mixV
        rw [if_neg h1, if_pos (by rw [this]; omega)]
      · rw [if_neg q, mixP, map_getD hj']
        by_cases r : j < c * m
        · rw [if_pos r, if_pos (by omega)]
        · rw [if_neg r, if_neg (by omega)]

def okM (c : Nat) (l : List Int) : Prop := 1 ≤ c ∧ c ≤ 6 ∧ 0 < l.length ∧ l.length ≤ 4000 ∧ l.length % c = 0 ∧ I32 l
theorem okM_check {c : Nat} {l : List Int} (h : okM c l) : mcheckN c l.length = 0 := by
  obtain ⟨h1, h2, h3, h4, h5, _⟩ := h
  unfold mcheckN
  rw [if_neg (by omega), if_neg (by omega), if_neg (by rw [← Int.natCast_emod, h5]; simp)]

def S_MixAll (P : Prg) (f : Nat) : Prop := ∀ (c : Nat) (l : List Int), okM c l → VC P f [.int .i64 c, il l] (.tup [il (mixAll c l), .int .i64 0])

theorem mul_step {c m q : Nat} (h : c * m < c * q) : c * m + c ≤ c * q := by
  have : m < q := Nat.lt_of_mul_lt_mul_left h
  have := Nat.mul_le_mul_left c (show m + 1 ≤ q by omega)
  rw [Nat.mul_add, Nat.mul_one] at this
  exact this

theorem mix_All {P : Prg} {f fC fK fM t : Nat} (b : Body P f 32 [.tmp 4, .tmp 5] (ac_mix_All fC fK fM)) (hC : S_MCheck P fC) (hK : S_CloneA t P fK) (hM : S_Mix P fM) : S_MixAll P f := by
  intro c l hok
  obtain ⟨h1, h2, h3, h4, h5, h6⟩ := id hok
  have hc := okM_check hok
  obtain ⟨q, hq⟩ : ∃ q, l.length = c * q := ⟨l.length / c, by have := Nat.div_add_mod l.length c; omega⟩
  refine VC.of_walk 1 (by simp [isDL, isD, isD_il]) (by simp [isD, isDL, isD_il]) (ACall.of_body b (by simp) ?_)
  simp (maxSteps := 4000000) (disch := omega) only [abv, step, stepv, ev, wl, wn, wp, wz, aop, cV, cV1, AV.one, partCells, okW, onlyFr, app, sliceCells, cellsAt, srcA, subA, eqFs, Int.cast_ofNat_Int, simprocAttr, ac_mix_All]
  refine callQ.vc (hC c l) ?_
  have n0 : l.length ≠ 0 := by omega
  simp (maxSteps := 4000000) (disch := omega) only [abv, step, stepv, ev, wl, wn, wp, wz, aop, cV, cV1, AV.one, partCells, okW, onlyFr, app, sliceCells, cellsAt, srcA, subA, eqFs, Int.cast_ofNat_Int, simprocAttr, hc, n0]
  refine hK l [] _ h3 (by omega) ?_
  simp (maxSteps := 4000000) (disch := omega) only [abv, step, stepv, ev, wl, wn, wp, wz, aop, cV, cV1, AV.one, partCells, okW, onlyFr, app, sliceCells, cellsAt, srcA, subA, eqFs, Int.cast_ofNat_Int, simprocAttr, n0]
  refine ALoop.by (ι := Nat) (fun m => ⟨[(8, .int .i64 (c * m : Nat)), (7, .own 0 l.length), (0, .int .i64 c)], [⟨t, 1, l.length, ks .i32 (mixP c l (c * m)), 0⟩]⟩) (fun m => m ≤ q) (fun m => q - m) 0 (by rw [Nat.mul_zero, mixP_0]; exact Le.slots (by simp [Am.look])) (by omega) ?_
  intro m hm
  by_cases hlt : c * m < l.length
  · have hs := mul_step (c := c) (m := m) (q := q) (by rw [← hq]; exact hlt)
    rw [← hq] at hs
    have hmq : m < q := Nat.lt_of_mul_lt_mul_left (a := c) (b := m) (c := q) (by rw [← hq]; exact hlt)
    have e0 : c * m + c - c * m = c := by omega
    have hM' := hM t (mixP c l (c * m)) (c * m) c
    rw [mixP_len, mix_seg h1 hs] at hM'
    simp (maxSteps := 4000000) (disch := omega) only [abv, step, stepv, ev, wl, wn, wp, wz, aop, cV, cV1, AV.one, partCells, okW, onlyFr, app, sliceCells, cellsAt, srcA, subA, eqFs, Int.cast_ofNat_Int, simprocAttr, e0, n0]
    refine hM' _ (I32_mixP h6 _) h1 hs (by omega) ?_
    simp (maxSteps := 4000000) (disch := omega) only [abv, step, stepv, ev, wl, wn, wp, wz, aop, cV, cV1, AV.one, partCells, okW, onlyFr, app, sliceCells, cellsAt, srcA, subA, eqFs, Int.cast_ofNat_Int, simprocAttr]
    exact ⟨m + 1, by omega, by omega, by rw [show c * (m + 1) = c * m + c by rw [Nat.mul_add, Nat.mul_one]]; exact Le.slots (by simp [Am.look])⟩
  · have e : c * m = l.length := by
      have := Nat.mul_le_mul_left c hm
      omega
    rw [e, mixP_all]
    have lm := mixAll_len c l
    simp (maxSteps := 4000000) (disch := omega) only [abv, step, stepv, ev, wl, wn, wp, wz, aop, cV, cV1, AV.one, partCells, okW, onlyFr, app, sliceCells, cellsAt, srcA, subA, eqFs, Int.cast_ofNat_Int, simprocAttr]
    simp [frzN, frzK, frzL, frzV, isDL, isD, il, lm, frzL_T _ (isTL_ks .i32 (mixAll c l))]
end Go.Am

namespace Go.Am
open Go.RowKit

theorem Le.drop1 {o : Ob} {xs : List Ob} {fr fr' : List (Nat × AV)} (h : isTL o.cs = true)
    (hfr : ∀ p ∈ fr', p.2 = .any ∨ frzK (fun o => decide (o < 1)) (fun o => decide (1 ≤ o)) (o :: xs) 2 [look fr p.1] = some [p.2]) : Le 0 ⟨fr, o :: xs⟩ ⟨fr', [o]⟩ := by
  refine Le.drop 1 2 (by omega) rfl hfr ?_
  intro i y hy
  match i, hy with
  | 0, hy =>
    simp at hy
    subst hy
    exact ⟨o.cs, by simp, by simp only [frzK]; exact frzL_T _ h⟩
  | i + 1, hy => simp at hy

end Go.Am

namespace Go.Am
open Go.RowKit

def askN (c x : Int) (l : List Int) : Int := if eCheck c x ≠ 0 then 2 else if checkN x l ≠ 0 then checkN x l else if l.length = 0 ∨ (l.length : Int) % c ≠ 0 then 2 else 0
theorem ask_err {c x : Int} {l : List Int} (h : eCheck c x = 2) : askN c x l = 2 := by simp [askN, h]
theorem ask_chk {c x : Int} {l : List Int} (h : eCheck c x = 0) (h2 : checkN x l ≠ 0) : askN c x l = checkN x l := by simp [askN, h, h2]
theorem ask_odd {c x : Int} {l : List Int} (h : eCheck c x = 0) (h2 : checkN x l = 0) (h3 : l.length = 0 ∨ (l.length : Int) % c ≠ 0) : askN c x l = 2 := by simp only [askN, h, h2, if_pos h3]; simp
theorem ask_ok {c x : Int} {l : List Int} (h : eCheck c x = 0) (h2 : checkN x l = 0) (h3 : ¬ (l.length = 0 ∨ (l.length : Int) % c ≠ 0)) : askN c x l = 0 := by simp only [askN, h, h2, if_neg h3]; simp
theorem eCheck_cases (c x : Int) : eCheck c x = 2 ∨ (eCheck c x = 0 ∧ half x ≠ 0 ∧ 1 ≤ c ∧ c ≤ 6) := by unfold eCheck; split <;> omega
theorem chkN_cases (x : Int) (l : List Int) : checkN x l = 2 ∨ checkN x l = 4 ∨ checkN x l = 16 ∨ (checkN x l = 0 ∧ half x ≠ 0 ∧ l.length ≤ 4000) := by
  unfold checkN
  by_cases h : half x = 0
  · simp [h]
  by_cases h2 : 4000 < l.length
  · simp [h, h2]
  by_cases h3 : l.all (inR x)
  · simp [h, h2, h3]; omega
  · simp [h, h2, h3]
theorem ask_okM {c x : Int} {l : List Int} (hI : I32 l) (h : askN c x l = 0) : ∃ k : Nat, c = k ∧ okM k l ∧ half x ≠ 0 := by
  rcases eCheck_cases c x with h1 | ⟨h1, h2, h3, h4⟩
  · rw [ask_err h1] at h; omega
  by_cases h5 : checkN x l = 0
  · by_cases h6 : l.length = 0 ∨ (l.length : Int) % c ≠ 0
    · rw [ask_odd h1 h5 h6] at h; omega
    · obtain ⟨k, rfl⟩ : ∃ k : Nat, c = k := ⟨c.toNat, by omega⟩
      refine ⟨k, rfl, ⟨by omega, by omega, by omega, by rcases chkN_cases x l with h | h | h | h <;> omega, by omega, hI⟩, h2⟩
  · rw [ask_chk h1 h5] at h; exact absurd h h5

def S_EAsk (P : Prg) (f : Nat) : Prop := ∀ (c x : Int) (l : List Int), I32 l → VC P f [shA c x, il l] (.int .i64 (askN c x l))

theorem enframe_check {P : Prg} {f fE fW t0 : Nat} (b : Body P f 30 [.tmp 4] (ac_enframe_check fE fW t0)) (hE : S_ECheck P fE) (hW : S_WCheck P fW) : S_EAsk P f := by
  intro c x l hI
  refine VC.of_acall (by simp [isDL, isD, isD_il, shA]) rfl (ACall.of_body b (by simp) ?_)
  have hE' := hE c x
  rw [shA] at hE'
  simp (maxSteps := 4000000) (disch := omega) only [abv, step, stepv, ev, wl, wn, wp, wz, aop, cV, cV1, AV.one, partCells, okW, onlyFr, app, sliceCells, cellsAt, srcA, subA, eqFs, Int.cast_ofNat_Int, simprocAttr, ac_enframe_check, shA]
  refine callQ.vc hE' ?_
  rcases eCheck_cases c x with h1 | ⟨h1, h2, h3, h4⟩
  · simp (maxSteps := 4000000) (disch := omega) only [abv, step, stepv, ev, wl, wn, wp, wz, aop, cV, cV1, AV.one, partCells, okW, onlyFr, app, sliceCells, cellsAt, srcA, subA, eqFs, Int.cast_ofNat_Int, simprocAttr, h1, ask_err h1]
  simp (maxSteps := 4000000) (disch := omega) only [abv, step, stepv, ev, wl, wn, wp, wz, aop, cV, cV1, AV.one, partCells, okW, onlyFr, app, sliceCells, cellsAt, srcA, subA, eqFs, Int.cast_ofNat_Int, simprocAttr, h1]
  refine callQ.vc (hW x l hI) ?_
  by_cases h5 : checkN x l = 0
  · have h9 : l.length ≤ 4000 := by rcases chkN_cases x l with h | h | h | h <;> omega
    by_cases h6 : l.length = 0
    · simp (maxSteps := 4000000) (disch := omega) only [abv, step, stepv, ev, wl, wn, wp, wz, aop, cV, cV1, AV.one, partCells, okW, onlyFr, app, sliceCells, cellsAt, srcA, subA, eqFs, Int.cast_ofNat_Int, simprocAttr, h5, il, h6, ask_odd h1 h5 (.inl h6)]
    · by_cases h7 : (l.length : Int) % c = 0
      · have hm := mod_small (n := l.length) (c := c) (by omega)
        simp (maxSteps := 4000000) (disch := omega) only [abv, step, stepv, ev, wl, wn, wp, wz, aop, cV, cV1, AV.one, partCells, okW, onlyFr, app, sliceCells, cellsAt, srcA, subA, eqFs, Int.cast_ofNat_Int, simprocAttr, h5, il, h6, h7, ask_ok h1 h5 (by omega)]
      · have hm := mod_small (n := l.length) (c := c) (by omega)
        simp (maxSteps := 4000000) (disch := omega) only [abv, step, stepv, ev, wl, wn, wp, wz, aop, cV, cV1, AV.one, partCells, okW, onlyFr, app, sliceCells, cellsAt, srcA, subA, eqFs, Int.cast_ofNat_Int, simprocAttr, h5, il, h6, h7, ask_odd h1 h5 (.inr h7)]
  · simp (maxSteps := 4000000) (disch := omega) only [abv, step, stepv, ev, wl, wn, wp, wz, aop, cV, cV1, AV.one, partCells, okW, onlyFr, app, sliceCells, cellsAt, srcA, subA, eqFs, Int.cast_ofNat_Int, simprocAttr, h5, ask_chk h1 h5]

theorem ref20_Asked {P : Prg} {f fE fW t0 : Nat} (b : Body P f 28 [.tmp 4] (ac_cadenzaref20_Asked fE fW t0)) (hE : S_ECheck P fE) (hW : S_WCheck P fW) : S_EAsk P f := by
  intro c x l hI
  refine VC.of_acall (by simp [isDL, isD, isD_il, shA]) rfl (ACall.of_body b (by simp) ?_)
  have hE' := hE c x
  rw [shA] at hE'
  simp (maxSteps := 4000000) (disch := omega) only [abv, step, stepv, ev, wl, wn, wp, wz, aop, cV, cV1, AV.one, partCells, okW, onlyFr, app, sliceCells, cellsAt, srcA, subA, eqFs, Int.cast_ofNat_Int, simprocAttr, ac_cadenzaref20_Asked, shA]
  refine callQ.vc hE' ?_
  rcases eCheck_cases c x with h1 | ⟨h1, h2, h3, h4⟩
  · simp (maxSteps := 4000000) (disch := omega) only [abv, step, stepv, ev, wl, wn, wp, wz, aop, cV, cV1, AV.one, partCells, okW, onlyFr, app, sliceCells, cellsAt, srcA, subA, eqFs, Int.cast_ofNat_Int, simprocAttr, h1, ask_err h1]
  simp (maxSteps := 4000000) (disch := omega) only [abv, step, stepv, ev, wl, wn, wp, wz, aop, cV, cV1, AV.one, partCells, okW, onlyFr, app, sliceCells, cellsAt, srcA, subA, eqFs, Int.cast_ofNat_Int, simprocAttr, h1]
  refine callQ.vc (hW x l hI) ?_
  by_cases h5 : checkN x l = 0
  · have h9 : l.length ≤ 4000 := by rcases chkN_cases x l with h | h | h | h <;> omega
    by_cases h6 : l.length = 0
    · simp (maxSteps := 4000000) (disch := omega) only [abv, step, stepv, ev, wl, wn, wp, wz, aop, cV, cV1, AV.one, partCells, okW, onlyFr, app, sliceCells, cellsAt, srcA, subA, eqFs, Int.cast_ofNat_Int, simprocAttr, h5, il, h6, ask_odd h1 h5 (.inl h6)]
    · by_cases h7 : (l.length : Int) % c = 0
      · have hm := mod_small (n := l.length) (c := c) (by omega)
        simp (maxSteps := 4000000) (disch := omega) only [abv, step, stepv, ev, wl, wn, wp, wz, aop, cV, cV1, AV.one, partCells, okW, onlyFr, app, sliceCells, cellsAt, srcA, subA, eqFs, Int.cast_ofNat_Int, simprocAttr, h5, il, h6, h7, ask_ok h1 h5 (by omega)]
      · have hm := mod_small (n := l.length) (c := c) (by omega)
        have hp : 0 < (l.length : Int) % c := by omega
        simp (maxSteps := 4000000) (disch := omega) only [abv, step, stepv, ev, wl, wn, wp, wz, aop, cV, cV1, AV.one, partCells, okW, onlyFr, app, sliceCells, cellsAt, srcA, subA, eqFs, Int.cast_ofNat_Int, simprocAttr, h5, il, h6, h7, ask_odd h1 h5 (.inr h7)]
  · simp (maxSteps := 4000000) (disch := omega) only [abv, step, stepv, ev, wl, wn, wp, wz, aop, cV, cV1, AV.one, partCells, okW, onlyFr, app, sliceCells, cellsAt, srcA, subA, eqFs, Int.cast_ofNat_Int, simprocAttr, h5]
    refine callQ.vc (hW x l hI) ?_
    simp (maxSteps := 4000000) (disch := omega) only [abv, step, stepv, ev, wl, wn, wp, wz, aop, cV, cV1, AV.one, partCells, okW, onlyFr, app, sliceCells, cellsAt, srcA, subA, eqFs, Int.cast_ofNat_Int, simprocAttr, ask_chk h1 h5]

end Go.Am

namespace Go.Am
open Go.RowKit

/-! ### Six channels in one array -/

def six (S : Nat → Chan) : List AV := chanL (S 0) ++ (chanL (S 1) ++ (chanL (S 2) ++ (chanL (S 3) ++ (chanL (S 4) ++ chanL (S 5)))))
def okS (S : Nat → Chan) : Prop := ∀ k, okFl (S k).fl
theorem six_len {S : Nat → Chan} (h : okS S) : (six S).length = 210 := by simp [six, chan_len (h _)]
theorem sixK {k : Nat} (h : k < 6) : k = 0 ∨ k = 1 ∨ k = 2 ∨ k = 3 ∨ k = 4 ∨ k = 5 := by omega
theorem six_at {S : Nat → Chan} (h : okS S) {k : Nat} (hk : k < 6) : ((six S).drop (k * 35)).take 35 = chanL (S k) := by
  have l := fun k => chan_len (h k)
  rcases sixK hk with rfl | rfl | rfl | rfl | rfl | rfl <;> simp [six, List.drop_append, List.take_append, l, List.drop_eq_nil_of_le, take_all]
def upd (S : Nat → Chan) (k : Nat) (c : Chan) : Nat → Chan := fun j => if j = k then c else S j
theorem six_set {S : Nat → Chan} (h : okS S) {k : Nat} (hk : k < 6) (c : Chan) : (six S).take (k * 35) ++ chanL c ++ (six S).drop (k * 35 + 35) = six (upd S k c) := by
  have l := fun k => chan_len (h k)
  rcases sixK hk with rfl | rfl | rfl | rfl | rfl | rfl <;> simp [six, upd, List.drop_append, List.take_append, l, List.drop_eq_nil_of_le, take_all]
theorem isTL_chan (c : Chan) : isTL (chanL c) = true := by simp [chanL, filtL, isTL, isT, isTL_append, isTL_ks]
theorem isTL_six (S : Nat → Chan) : isTL (six S) = true := by simp [six, isTL_append, isTL_chan]
theorem all_six (S : Nat → Chan) : (six S).all AV.one = true := by simp only [six, List.all_append, chan_one, Bool.and_self]

/-! ### What is coded -/

def stC (c : Nat) (L : List Int) (z : Chan) (k : Nat) : Nat → Chan
  | 0 => z
  | n + 1 => cfwdC (stC c L z k n) (L.getD (k + n * c) 0)
def outV (c : Nat) (L : List Int) (z : Chan) (j : Nat) : Int := foldN (cfwdY (stC c L z (j % c) (j / c)) (L.getD j 0))
def outT (c : Nat) (L : List Int) (z : Chan) (a : Nat) : List Int := (List.range a).map (outV c L z)
theorem outT_len (c : Nat) (L : List Int) (z : Chan) (a : Nat) : (outT c L z a).length = a := by simp [outT]
theorem outT_succ (c : Nat) (L : List Int) (z : Chan) (a : Nat) : outT c L z a ++ [outV c L z a] = outT c L z (a + 1) := by simp [outT, List.range_succ]
theorem ok_stC {c : Nat} {L : List Int} {z : Chan} (hL : I32 L) (hz : okCh z) (k : Nat) : ∀ n, okCh (stC c L z k n)
  | 0 => hz
  | n + 1 => ok_cfwd (ok_stC hL hz k n) (getD_mem hL _)

def cnt (c k i : Nat) : Nat := if k < i % c then i / c + 1 else i / c
theorem cnt_0 (c k : Nat) : cnt c k 0 = 0 := by simp [cnt]
theorem cnt_self (c i : Nat) : cnt c (i % c) i = i / c := by simp [cnt]
theorem cnt_succ {c k i : Nat} (hk : k < c) : cnt c k (i + 1) = if k = i % c then i / c + 1 else cnt c k i := by
  have hc : 0 < c := by omega
  have hr := Nat.mod_lt i hc
  have hi := Nat.div_add_mod i c
  unfold cnt
  by_cases h : i % c + 1 < c
  · have e1 : (i + 1) % c = i % c + 1 := by
      rw [show i + 1 = c * (i / c) + (i % c + 1) by omega, Nat.mul_add_mod, Nat.mod_eq_of_lt h]
    have e2 : (i + 1) / c = i / c := by
      rw [show i + 1 = (i % c + 1) + c * (i / c) by omega, Nat.add_mul_div_left _ _ hc, Nat.div_eq_of_lt h, Nat.zero_add]
    rw [e1, e2]
    split <;> split <;> (try split) <;> omega
  · have e0 : i + 1 = c * (i / c + 1) := by rw [Nat.mul_add]; omega
    have e1 : (i + 1) % c = 0 := by rw [e0, Nat.mul_mod_right]
    have e2 : (i + 1) / c = i / c + 1 := by rw [e0, Nat.mul_div_cancel_left _ hc]
    rw [e1, e2]
    split <;> split <;> (try split) <;> omega
def stA (c : Nat) (L : List Int) (z : Chan) (i : Nat) : Nat → Chan := fun k => if k < c then stC c L z k (cnt c k i) else z
theorem stA_0 (c : Nat) (L : List Int) (z : Chan) : stA c L z 0 = fun _ => z := by
  funext k; simp [stA, cnt_0, stC]
theorem stA_at {c : Nat} (hc : 1 ≤ c) (L : List Int) (z : Chan) (i : Nat) : stA c L z i (i % c) = stC c L z (i % c) (i / c) := by
  rw [stA, if_pos (Nat.mod_lt _ (by omega)), cnt_self]
theorem stA_succ {c : Nat} (hc : 1 ≤ c) (L : List Int) (z : Chan) (i : Nat) : upd (stA c L z i) (i % c) (cfwdC (stC c L z (i % c) (i / c)) (L.getD i 0)) = stA c L z (i + 1) := by
  funext k
  have hr := Nat.mod_lt i (show 0 < c by omega)
  by_cases hk : k < c
  · simp only [upd, stA, if_pos hk, cnt_succ hk]
    by_cases e : k = i % c
    · rw [if_pos e, if_pos e, e, stC]
      rw [show i % c + i / c * c = i by have := Nat.div_add_mod i c; rw [Nat.mul_comm]; omega]
    · rw [if_neg e, if_neg e]
  · simp only [upd, stA, if_neg hk]
    rw [if_neg (by omega)]
theorem ok_stA {c : Nat} {L : List Int} {z : Chan} (hL : I32 L) (hz : okCh z) (i : Nat) : okS (stA c L z i) := fun k => by
  unfold stA; split
  · exact (ok_stC hL hz k _).2.2.1
  · exact hz.2.2.1
def u32L (l : List Int) : AV := .list l.length (ks .u32 l)
theorem isD_u32L (l : List Int) : isD (u32L l) = true := by simp [u32L, isD, isDL_ks]
theorem Le.dropT (os : List Ob) {xs : List Ob} {fr fr' : List (Nat × AV)} (h : ∀ o ∈ os, isTL o.cs = true)
    (hfr : ∀ p ∈ fr', p.2 = .any ∨ frzK (fun o => decide (o < os.length)) (fun o => decide (os.length ≤ o)) (os ++ xs) 2 [look fr p.1] = some [p.2]) : Le 0 ⟨fr, os ++ xs⟩ ⟨fr', os⟩ := by
  refine Le.drop os.length 2 (by omega) rfl hfr ?_
  intro i y hy
  have hi : i < os.length := by
    rcases Nat.lt_or_ge i os.length with h | h
    · exact h
    · rw [List.getElem?_eq_none h] at hy; cases hy
  refine ⟨y.cs, by rw [List.getElem?_append_left hi]; exact hy, ?_⟩
  simp only [frzK]
  exact frzL_T _ (h y (List.mem_of_getElem? hy))
end Go.Am

namespace Go.Am
open Go.RowKit

def valA (c x : Int) (t l : List Int) : AV := if askN c x l ≠ 0 then .tup [.list 0 [], .int .i64 (askN c x l)] else .tup [u32L (outT c.toNat (mixAll c.toNat l) (newC x t) l.length), .int .i64 0]
theorem isD_val (c x : Int) (t l : List Int) : isD (valA c x t l) = true := by unfold valA; split <;> simp [isD, isDL, isD_u32L]
def S_EVals (P : Prg) (f : Nat) : Prop := ∀ (c x : Int) (t l : List Int), t.length = 16 → I32 t → I32 l → VC P f [shA c x, .agg (ks .i32 t), il l] (valA c x t l)

theorem ok_zeroC : okFl zeroC.fl := ⟨by simp [zeroC, zeroF, z16], by simp [zeroC, zeroF, z16], fun x hx => by simp [zeroC, zeroF, z16] at hx; omega, fun x hx => by simp [zeroC, zeroF, z16] at hx; omega⟩
def newS (z : Chan) (i : Nat) : Nat → Chan := fun k => if k < i then z else zeroC
theorem newS_0 (z : Chan) : newS z 0 = fun _ => zeroC := by funext k; simp [newS]
theorem newS_succ (z : Chan) (i : Nat) : upd (newS z i) i z = newS z (i + 1) := by
  funext k
  simp only [upd, newS]
  split <;> split <;> (try split) <;> first | rfl | omega
theorem ok_newS {z : Chan} (h : okFl z.fl) (i : Nat) : okS (newS z i) := fun k => by
  unfold newS; split
  · exact h
  · exact ok_zeroC
theorem six_6 (z : Chan) : six (newS z 6) = six (fun _ => z) := by simp [six, newS]
theorem ok_newC {x : Int} (hx : half x ≠ 0) {t : List Int} (hl : t.length = 16) (hI : I32 t) : okCh (newC x t) := ⟨hx, rfl, ok_new hl hI, by simp [newC]⟩

set_option maxRecDepth 20000 in
theorem enframe_Values {P : Prg} {f fA fM fN fF fO t0 t1 t2 t3 t4 : Nat} (b : Body P f 83 [.tmp 6, .tmp 7] (ac_enframe_Values fA fM fN fF fO t0 t1 t2 t3 t4)) (hA : S_EAsk P fA) (hM : S_MixAll P fM) (hN : S_CNew P fN) (hF : S_CForward P fF) (hO : S_Fold P fO) : S_EVals P f := by
  intro c x t l hl hI hL
  have hk : (ks .i32 t).length = 16 := by simp [ks_length, hl]
  have ot := ks_one .i32 t
  have tt : (ks .i32 t).take 16 = ks .i32 t := take_all (by omega)
  refine VC.of_walk 1 (by simp [isDL, isD, isD_il, isDL_ks, shA]) (isD_val _ _ _ _) (ACall.of_body b (by simp) ?_)
  have hA' := hA c x l hL
  rw [shA] at hA'
  unfold ac_enframe_Values
  rw [show ([.int .i64 0, .int .i32 0, .int .i64 0, .int .i32 0, .int .i32 0, .int .i32 0, .int .i32 0, .int .i32 0, .int .i32 0, .int .i32 0, .int .i32 0, .int .i32 0, .int .i32 0, .int .i32 0, .int .i32 0, .int .i32 0, .int .i32 0, .int .i32 0, .int .i32 0, .int .i32 0, .int .i32 0, .int .i32 0, .int .i32 0, .int .i32 0, .int .i32 0, .int .i32 0, .int .i32 0, .int .i32 0, .int .i32 0, .int .i32 0, .int .i32 0, .int .i32 0, .int .i32 0, .int .i32 0, .int .i32 0, .int .i64 0, .int .i32 0, .int .i64 0, .int .i32 0, .int .i32 0, .int .i32 0, .int .i32 0, .int .i32 0, .int .i32 0, .int .i32 0, .int .i32 0, .int .i32 0, .int .i32 0, .int .i32 0, .int .i32 0, .int .i32 0, .int .i32 0, .int .i32 0, .int .i32 0, .int .i32 0, .int .i32 0, .int .i32 0, .int .i32 0, .int .i32 0, .int .i32 0, .int .i32 0, .int .i32 0, .int .i32 0, .int .i32 0, .int .i32 0, .int .i32 0, .int .i32 0, .int .i32 0, .int .i32 0, .int .i32 0, .int .i64 0, .int .i32 0, .int .i64 0, .int .i32 0, .int .i32 0, .int .i32 0, .int .i32 0, .int .i32 0, .int .i32 0, .int .i32 0, .int .i32 0, .int .i32 0, .int .i32 0, .int .i32 0, .int .i32 0, .int .i32 0, .int .i32 0, .int .i32 0, .int .i32 0, .int .i32 0, .int .i32 0, .int .i32 0, .int .i32 0, .int .i32 0, .int .i32 0, .int .i32 0, .int .i32 0, .int .i32 0, .int .i32 0, .int .i32 0, .int .i32 0, .int .i32 0, .int .i32 0, .int .i32 0, .int .i32 0, .int .i64 0, .int .i32 0, .int .i64 0, .int .i32 0, .int .i32 0, .int .i32 0, .int .i32 0, .int .i32 0, .int .i32 0, .int .i32 0, .int .i32 0, .int .i32 0, .int .i32 0, .int .i32 0, .int .i32 0, .int .i32 0, .int .i32 0, .int .i32 0, .int .i32 0, .int .i32 0, .int .i32 0, .int .i32 0, .int .i32 0, .int .i32 0, .int .i32 0, .int .i32 0, .int .i32 0, .int .i32 0, .int .i32 0, .int .i32 0, .int .i32 0, .int .i32 0, .int .i32 0, .int .i32 0, .int .i32 0, .int .i64 0, .int .i32 0, .int .i64 0, .int .i32 0, .int .i32 0, .int .i32 0, .int .i32 0, .int .i32 0, .int .i32 0, .int .i32 0, .int .i32 0, .int .i32 0, .int .i32 0, .int .i32 0, .int .i32 0, .int .i32 0, .int .i32 0, .int .i32 0, .int .i32 0, .int .i32 0, .int .i32 0, .int .i32 0, .int .i32 0, .int .i32 0, .int .i32 0, .int .i32 0, .int .i32 0, .int .i32 0, .int .i32 0, .int .i32 0, .int .i32 0, .int .i32 0, .int .i32 0, .int .i32 0, .int .i32 0, .int .i64 0, .int .i32 0, .int .i64 0, .int .i32 0, .int .i32 0, .int .i32 0, .int .i32 0, .int .i32 0, .int .i32 0, .int .i32 0, .int .i32 0, .int .i32 0, .int .i32 0, .int .i32 0, .int .i32 0, .int .i32 0, .int .i32 0, .int .i32 0, .int .i32 0, .int .i32 0, .int .i32 0, .int .i32 0, .int .i32 0, .int .i32 0, .int .i32 0, .int .i32 0, .int .i32 0, .int .i32 0, .int .i32 0, .int .i32 0, .int .i32 0, .int .i32 0, .int .i32 0, .int .i32 0, .int .i32 0] : List AV) = six (fun _ => zeroC) from rfl, ← zeroC_eq]
  simp (maxSteps := 4000000) (disch := omega) only [abv, step, stepv, ev, wl, wn, wp, wz, aop, cV, cV1, AV.one, partCells, okW, onlyFr, app, sliceCells, cellsAt, srcA, subA, eqFs, Int.cast_ofNat_Int, simprocAttr, shA, hk, ot, tt]
  refine callQ.vc hA' ?_
  by_cases h0 : askN c x l = 0
  · obtain ⟨k, rfl, hok, hx⟩ := ask_okM hL h0
    have hz := ok_newC hx hl hI
    have l0 := six_len (S := fun _ => zeroC) (fun _ => ok_zeroC)
    have o0 := all_six (fun _ => zeroC)
    simp (maxSteps := 4000000) (disch := omega) only [abv, step, stepv, ev, wl, wn, wp, wz, aop, cV, cV1, AV.one, partCells, okW, onlyFr, app, sliceCells, cellsAt, srcA, subA, eqFs, Int.cast_ofNat_Int, simprocAttr, h0]
    refine callQ.vc (hM k l hok) ?_
    obtain ⟨h1, h2, h3, h4, h5, h6⟩ := id hok
    have lm := mixAll_len k l
    have hI2 := I32_mixAll (c := k) hL
    have tm : isTL (ks .i32 (mixAll k l)) = true := isTL_ks _ _
    generalize hm : mixAll k l = m at lm hI2 tm
    simp (maxSteps := 4000000) (disch := omega) only [abv, step, stepv, ev, wl, wn, wp, wz, aop, cV, cV1, AV.one, partCells, okW, onlyFr, app, sliceCells, cellsAt, srcA, subA, eqFs, Int.cast_ofNat_Int, simprocAttr, l0, o0]
    refine ALoop.by (ι := Nat) (fun i => ⟨[(36, .int .i64 i), (11, .ref 2 1 0), (9, il m), (4, .ref 1 1 0), (3, .ref 0 1 0)], [⟨t0, 2, 1, [.int .i64 k, .int .i64 x], 0⟩, ⟨t1, 16, 1, ks .i32 t, 0⟩, ⟨t2, 210, 1, six (newS (newC x t) i), 0⟩]⟩) (fun i => i ≤ 6) (fun i => 6 - i) 0 (by rw [newS_0]; exact Le.slots (by simp [Am.look])) (by omega) ?_
    intro i hi
    have oS := ok_newS hz.2.2.1 i
    have lS := six_len oS
    by_cases hlt : i < 6
    · have e1 := six_set oS hlt (newC x t)
      rw [newS_succ] at e1
      have lc := chan_len hz.2.2.1
      have oc := chan_one (newC x t)
      simp (maxSteps := 4000000) (disch := omega) only [abv, step, stepv, ev, wl, wn, wp, wz, aop, cV, cV1, AV.one, partCells, okW, onlyFr, app, sliceCells, cellsAt, srcA, subA, eqFs, Int.cast_ofNat_Int, simprocAttr, hk, tt]
      refine callQ.vc (hN x t hl hI) ?_
      simp (maxSteps := 4000000) (disch := omega) only [abv, step, stepv, ev, wl, wn, wp, wz, aop, cV, cV1, AV.one, partCells, okW, onlyFr, app, sliceCells, cellsAt, srcA, subA, eqFs, Int.cast_ofNat_Int, simprocAttr, cnewA, if_neg hx, lS, lc, oc, e1]
      exact ⟨i + 1, by omega, by omega, Le.slots (by simp [Am.look])⟩
    · have : i = 6 := by omega
      subst this
      simp (maxSteps := 4000000) (disch := omega) only [abv, step, stepv, ev, wl, wn, wp, wz, aop, cV, cV1, AV.one, partCells, okW, onlyFr, app, sliceCells, cellsAt, srcA, subA, eqFs, Int.cast_ofNat_Int, simprocAttr, il]
      refine ALoop.by (ι := Nat) (fun i => ⟨[(51, .int .i64 i), (50, .int .i64 m.length), (49, il m), (13, .own 3 i), (11, .ref 2 1 0), (3, .ref 0 1 0)], [⟨t0, 2, 1, [.int .i64 k, .int .i64 x], 0⟩, ⟨t1, 16, 1, ks .i32 t, 0⟩, ⟨t2, 210, 1, six (stA k m (newC x t) i), 0⟩, ⟨t4, 1, i, ks .u32 (outT k m (newC x t) i), 0⟩]⟩) (fun i => i ≤ m.length) (fun i => m.length - i) 0 (by rw [stA_0, ← six_6]; exact Le.trans (Le.virt 13 t4 1 (by omega) rfl) (Le.slots (by simp [Am.look, outT, il]))) (by omega) ?_
      intro i hi
      have lo := outT_len k m (newC x t) i
      by_cases hlt : i < m.length
      · have oS := ok_stA hI2 hz (c := k) i
        have lS := six_len oS
        have hr := Nat.mod_lt i (show 0 < k by omega)
        have e0 := six_at oS (k := i % k) (by omega)
        rw [stA_at h1] at e0
        have e1 := six_set oS (k := i % k) (by omega) (cfwdC (stC k m (newC x t) (i % k) (i / k)) (m.getD i 0))
        rw [stA_succ h1] at e1
        have hok2 := ok_stC (c := k) hI2 hz (i % k) (i / k)
        have hok3 := ok_cfwd hok2 (getD_mem hI2 i)
        have hF' := hF _ (m.getD i 0) hok2 (getD_mem hI2 i)
        have hO' := hO (cfwdY (stC k m (newC x t) (i % k) (i / k)) (m.getD i 0)) (w32_rng _)
        have e2 := ks_at (K := .i32) (l := m) (i := i) hlt
        have e3 : ks .u32 (outT k m (newC x t) i) ++ [.int .u32 (foldN (cfwdY (stC k m (newC x t) (i % k) (i / k)) (m.getD i 0)))] = ks .u32 (outT k m (newC x t) (i + 1)) := by rw [ks_snoc, ← outT_succ]; rfl
        have lc := chan_len hok3.2.2.1
        have oc := chan_one (cfwdC (stC k m (newC x t) (i % k) (i / k)) (m.getD i 0))
        have tc : (chanL (cfwdC (stC k m (newC x t) (i % k) (i / k)) (m.getD i 0))).take 35 = chanL (cfwdC (stC k m (newC x t) (i % k) (i / k)) (m.getD i 0)) := take_all (by omega)
        have lz := chan_len ok_zeroC
        have oz := chan_one zeroC
        have dz : (chanL zeroC).drop 35 = [] := List.drop_eq_nil_of_le (by omega)
        have em : (i : Int) % k = (i % k : Nat) := by omega
        simp (maxSteps := 4000000) (disch := omega) only [abv, step, stepv, ev, wl, wn, wp, wz, aop, cV, cV1, AV.one, partCells, okW, onlyFr, app, sliceCells, cellsAt, srcA, subA, eqFs, Int.cast_ofNat_Int, simprocAttr, il, e2, em, e0]
        refine callQ.vc hF' ?_
        simp (maxSteps := 4000000) (disch := omega) only [abv, step, stepv, ev, wl, wn, wp, wz, aop, cV, cV1, AV.one, partCells, okW, onlyFr, app, sliceCells, cellsAt, srcA, subA, eqFs, Int.cast_ofNat_Int, simprocAttr, lz, oz, lc, oc, tc, e1, lS, dz, List.append_nil]
        refine callQ.vc hO' ?_
        simp (maxSteps := 4000000) (disch := omega) only [abv, step, stepv, ev, wl, wn, wp, wz, aop, cV, cV1, AV.one, partCells, okW, onlyFr, app, sliceCells, cellsAt, srcA, subA, eqFs, Int.cast_ofNat_Int, simprocAttr, e3]
        exact ⟨i + 1, by omega, by omega, Le.dropT [_, _, _, _] (by simp [isTL_six, isTL_ks, isTL, isT]) (by simp [Am.look, frzK, frzL, frzV, frzL_T _ tm])⟩
      · have : i = m.length := by omega
        subst this
        have e9 : valA k x t l = .tup [u32L (outT k m (newC x t) m.length), .int .i64 0] := by simp [valA, h0, hm, lm]
        clear hi hlt
        have hq : ¬ (m.length : Int) < m.length := by omega
        simp (maxSteps := 4000000) (disch := omega) only [abv, step, stepv, ev, wl, wn, wp, wz, aop, cV, cV1, AV.one, partCells, okW, onlyFr, app, sliceCells, cellsAt, srcA, subA, eqFs, Int.cast_ofNat_Int, simprocAttr, e9]
        simp [frzN, frzK, frzL, frzV, isDL, isD, u32L, lo, frzL_T _ (isTL_ks .u32 _)]
  · have e9 : valA c x t l = .tup [.list 0 [], .int .i64 (askN c x l)] := by simp [valA, h0]
    simp (maxSteps := 4000000) (disch := omega) only [abv, step, stepv, ev, wl, wn, wp, wz, aop, cV, cV1, AV.one, partCells, okW, onlyFr, app, sliceCells, cellsAt, srcA, subA, eqFs, Int.cast_ofNat_Int, simprocAttr, h0, e9]
    simp [frzN, frzK, frzL, frzV, isDL, isD]
end Go.Am

namespace Go.Am
open Go.RowKit

theorem rep_ks (K : IntKind) : ∀ n : Nat, repCells [.int K 0] n = ks K (List.replicate n 0)
  | 0 => rfl
  | n + 1 => by rw [repCells, rep_ks K n]; simp [ks, List.replicate_succ]

end Go.Am

namespace Go.Am
open Go.RowKit

def tapSh : Sh := .tuple (List.replicate 16 (.int .i32))
theorem fitsL_ints (K : IntKind) : ∀ (n : Nat) (cs0 : List AV), FitsL (List.replicate n (.int K)) cs0 → ∃ t : List Int, cs0 = ks K t ∧ t.length = n ∧ ∀ x ∈ t, K.min ≤ x ∧ x ≤ K.max
  | 0, cs0, h => by
    simp only [List.replicate, FitsL] at h
    exact ⟨[], by simpa [ks] using h, rfl, by simp⟩
  | n + 1, cs0, h => by
    simp only [List.replicate, FitsL, Fits] at h
    obtain ⟨_, r, rfl, ⟨x, rfl, h1, h2⟩, h3⟩ := h
    obtain ⟨t, rfl, h4, h5⟩ := fitsL_ints K n r h3
    exact ⟨x :: t, by simp [ks], by simp [h4], fun y hy => by
      rcases List.mem_cons.1 hy with rfl | hy
      · exact ⟨h1, h2⟩
      · exact h5 y hy⟩
theorem fits_taps {cs0 : List AV} (h : Fits tapSh cs0) : ∃ t : List Int, cs0 = ks .i32 t ∧ t.length = 16 ∧ I32 t := by
  simp only [tapSh, Fits] at h
  obtain ⟨t, h1, h2, h3⟩ := fitsL_ints .i32 16 cs0 h
  exact ⟨t, h1, h2, fun x hx => by have := h3 x hx; simpa [IntKind.min, IntKind.max, IntKind.signed, IntKind.bits] using this⟩
end Go.Am

namespace Go.Am
open Go.RowKit

/-! ### What is uncoded -/

def U32 (l : List Int) : Prop := ∀ x ∈ l, 0 ≤ x ∧ x < 4294967296
end Go.Am

namespace Go.Am
open Go.RowKit

def cntA (r n : Int) : AV := if r < 1 ∨ 1048576 < r then .tup [.int .i64 0, .int .i64 2] else if n < 1 ∨ 4000 < n then .tup [.int .i64 0, .int .i64 2] else if 1000 < (n + longN r - 1) / longN r then .tup [.int .i64 0, .int .i64 4] else .tup [.int .i64 ((n + longN r - 1) / longN r), .int .i64 0]
theorem isD_cnt (r n : Int) : isD (cntA r n) = true := by unfold cntA; split <;> (try split) <;> (try split) <;> rfl
def S_Count22 (P : Prg) (f : Nat) : Prop := ∀ r n : Int, VC P f [.int .i64 r, .int .i64 n] (cntA r n)

theorem lengths_Count {P : Prg} {f fL : Nat} (b : Body P f 32 [.tmp 4, .tmp 5] (ac_lengths_Count fL)) (hL : S_Long22 P fL) : S_Count22 P f := by
  intro r n
  refine VC.of_acall rfl (isD_cnt _ _) (ACall.of_body b (by simp) ?_)
  have hL' := hL r
  simp (maxSteps := 4000000) (disch := omega) only [abv, step, stepv, ev, wl, wn, wp, wz, aop, cV, cV1, AV.one, partCells, okW, onlyFr, app, sliceCells, cellsAt, srcA, subA, eqFs, Int.cast_ofNat_Int, simprocAttr, ac_lengths_Count]
  refine callQ.vc hL' ?_
  by_cases h1 : r < 1 ∨ 1048576 < r
  · have e1 : longA r = .tup [.int .i64 0, .int .i64 2] := by rw [longA, if_pos h1]
    have e2 : cntA r n = .tup [.int .i64 0, .int .i64 2] := by rw [cntA, if_pos h1]
    simp (maxSteps := 4000000) (disch := omega) only [abv, step, stepv, ev, wl, wn, wp, wz, aop, cV, cV1, AV.one, partCells, okW, onlyFr, app, sliceCells, cellsAt, srcA, subA, eqFs, Int.cast_ofNat_Int, simprocAttr, e1, e2]
  have e1 : longA r = .tup [.int .i64 (longN r), .int .i64 0] := by rw [longA, if_neg h1]
  have p1 := longN_pos r
  have p2 := longN_le (r := r) (by omega)
  by_cases h2 : n < 1
  · have e2 : cntA r n = .tup [.int .i64 0, .int .i64 2] := by rw [cntA, if_neg h1, if_pos (.inl h2)]
    simp (maxSteps := 4000000) (disch := omega) only [abv, step, stepv, ev, wl, wn, wp, wz, aop, cV, cV1, AV.one, partCells, okW, onlyFr, app, sliceCells, cellsAt, srcA, subA, eqFs, Int.cast_ofNat_Int, simprocAttr, e1, e2]
  by_cases h3 : 4000 < n
  · have e2 : cntA r n = .tup [.int .i64 0, .int .i64 2] := by rw [cntA, if_neg h1, if_pos (.inr h3)]
    simp (maxSteps := 4000000) (disch := omega) only [abv, step, stepv, ev, wl, wn, wp, wz, aop, cV, cV1, AV.one, partCells, okW, onlyFr, app, sliceCells, cellsAt, srcA, subA, eqFs, Int.cast_ofNat_Int, simprocAttr, e1, e2]
  have e2 : cntA r n = if 1000 < (n + longN r - 1) / longN r then .tup [.int .i64 0, .int .i64 4] else .tup [.int .i64 ((n + longN r - 1) / longN r), .int .i64 0] := by
    rw [cntA, if_neg h1, if_neg (by omega)]
  generalize longN r = L at *
  have q0 : (n + L - 1).tdiv L = (n + L - 1) / L := Int.tdiv_eq_ediv_of_nonneg (by omega)
  have q1 : 0 ≤ (n + L - 1) / L := Int.ediv_nonneg (by omega) (by omega)
  have q2 : (n + L - 1) / L ≤ n + L - 1 := Int.ediv_le_self _ (by omega)
  generalize hq : (n + L - 1) / L = Q at *
  by_cases h4 : 1000 < Q
  · rw [if_pos h4] at e2
    simp (maxSteps := 4000000) (disch := omega) only [abv, step, stepv, ev, wl, wn, wp, wz, aop, cV, cV1, AV.one, partCells, okW, onlyFr, app, sliceCells, cellsAt, srcA, subA, eqFs, Int.cast_ofNat_Int, simprocAttr, e1, q0, hq, e2]
  · rw [if_neg h4] at e2
    simp (maxSteps := 4000000) (disch := omega) only [abv, step, stepv, ev, wl, wn, wp, wz, aop, cV, cV1, AV.one, partCells, okW, onlyFr, app, sliceCells, cellsAt, srcA, subA, eqFs, Int.cast_ofNat_Int, simprocAttr, e1, q0, hq, e2]

def S_Shape24 (P : Prg) (f : Nat) : Prop := ∀ (c x r : Int) (l : List Int), VC P f [.agg [.int .i64 c, .int .i64 x, .int .i64 r, il l]] (shA c x)
theorem clip_shape {P : Prg} {f t0 t1 : Nat} (b : Body P f 8 [.cell 2 t1] (ac_clip_shape t0 t1)) (ht : aggO P t1 = some (some 2)) : S_Shape24 P f := by
  intro c x r l
  refine VC.of_acall (by simp [isDL, isD, isD_il]) rfl (ACall.of_body b (by simp) ?_)
  simp (maxSteps := 4000000) (disch := omega) only [abv, step, stepv, ev, wl, wn, wp, wz, aop, cV, cV1, AV.one, partCells, okW, onlyFr, app, sliceCells, cellsAt, srcA, subA, eqFs, Int.cast_ofNat_Int, simprocAttr, ac_clip_shape, il, resA, ht, shA]
theorem ref24_Shape {P : Prg} {f t0 t1 : Nat} (b : Body P f 8 [.cell 2 t1] (ac_cadenzaref24_Shape t0 t1)) (ht : aggO P t1 = some (some 2)) : S_Shape24 P f := by
  intro c x r l
  refine VC.of_acall (by simp [isDL, isD, isD_il]) rfl (ACall.of_body b (by simp) ?_)
  simp (maxSteps := 4000000) (disch := omega) only [abv, step, stepv, ev, wl, wn, wp, wz, aop, cV, cV1, AV.one, partCells, okW, onlyFr, app, sliceCells, cellsAt, srcA, subA, eqFs, Int.cast_ofNat_Int, simprocAttr, ac_cadenzaref24_Shape, il, resA, ht, shA]

def cntE (r n : Int) : Int := if r < 1 ∨ 1048576 < r then 2 else if n < 1 ∨ 4000 < n then 2 else if 1000 < (n + longN r - 1) / longN r then 4 else 0
theorem cnt_form (r n : Int) : ∃ k : Int, cntA r n = .tup [.int .i64 k, .int .i64 (cntE r n)] := by
  unfold cntA cntE
  split
  · exact ⟨_, rfl⟩
  split
  · exact ⟨_, rfl⟩
  split
  · exact ⟨_, rfl⟩
  · exact ⟨_, rfl⟩
def headN (c x r n : Int) : Int := if eCheck c x ≠ 0 then 8 else if n < 1 then 8 else if 4000 / c < n then 8 else if cntE r n ≠ 0 then 8 else 0
def S_CHead (P : Prg) (f : Nat) : Prop := ∀ (c x r n : Int) (l : List Int), VC P f [.agg [.int .i64 c, .int .i64 x, .int .i64 r, il l], .int .i64 n] (.int .i64 (headN c x r n))
theorem clip_head {P : Prg} {f fS fE fC t0 : Nat} (b : Body P f 31 [.tmp 4] (ac_clip_head fS fE fC t0)) (hS : S_Shape24 P fS) (hE : S_ECheck P fE) (hC : S_Count22 P fC) : S_CHead P f := by
  intro c x r n l
  refine VC.of_acall (by simp [isDL, isD, isD_il]) rfl (ACall.of_body b (by simp) ?_)
  have hS' := hS c x r l
  have hE' := hE c x
  rw [shA] at hS' hE'
  rw [il] at hS'
  obtain ⟨k, ek⟩ := cnt_form r n
  have hC' := hC r n
  rw [ek] at hC'
  simp (maxSteps := 4000000) (disch := omega) only [abv, step, stepv, ev, wl, wn, wp, wz, aop, cV, cV1, AV.one, partCells, okW, onlyFr, app, sliceCells, cellsAt, srcA, subA, eqFs, Int.cast_ofNat_Int, simprocAttr, ac_clip_head, il]
  refine callQ.vc hS' ?_
  simp (maxSteps := 4000000) (disch := omega) only [abv, step, stepv, ev, wl, wn, wp, wz, aop, cV, cV1, AV.one, partCells, okW, onlyFr, app, sliceCells, cellsAt, srcA, subA, eqFs, Int.cast_ofNat_Int, simprocAttr]
  refine callQ.vc hE' ?_
  rcases eCheck_cases c x with h1 | ⟨h1, h2, h3, h4⟩
  · have e9 : headN c x r n = 8 := by simp [headN, h1]
    simp (maxSteps := 4000000) (disch := omega) only [abv, step, stepv, ev, wl, wn, wp, wz, aop, cV, cV1, AV.one, partCells, okW, onlyFr, app, sliceCells, cellsAt, srcA, subA, eqFs, Int.cast_ofNat_Int, simprocAttr, h1, e9]
  have q0 : (4000 : Int).tdiv c = 4000 / c := Int.tdiv_eq_ediv_of_nonneg (by omega)
  have q1 : 0 ≤ (4000 : Int) / c := Int.ediv_nonneg (by omega) (by omega)
  have q2 : (4000 : Int) / c ≤ 4000 := Int.ediv_le_self _ (by omega)
  by_cases h5 : n < 1
  · have e9 : headN c x r n = 8 := by simp [headN, h5]
    simp (maxSteps := 4000000) (disch := omega) only [abv, step, stepv, ev, wl, wn, wp, wz, aop, cV, cV1, AV.one, partCells, okW, onlyFr, app, sliceCells, cellsAt, srcA, subA, eqFs, Int.cast_ofNat_Int, simprocAttr, h1, e9]
  by_cases h6 : 4000 / c < n
  · have e9 : headN c x r n = 8 := by simp [headN, h6]
    simp (maxSteps := 4000000) (disch := omega) only [abv, step, stepv, ev, wl, wn, wp, wz, aop, cV, cV1, AV.one, partCells, okW, onlyFr, app, sliceCells, cellsAt, srcA, subA, eqFs, Int.cast_ofNat_Int, simprocAttr, h1, e9, q0]
  simp (maxSteps := 4000000) (disch := omega) only [abv, step, stepv, ev, wl, wn, wp, wz, aop, cV, cV1, AV.one, partCells, okW, onlyFr, app, sliceCells, cellsAt, srcA, subA, eqFs, Int.cast_ofNat_Int, simprocAttr, h1, q0]
  refine callQ.vc hC' ?_
  by_cases h7 : cntE r n = 0
  · have e9 : headN c x r n = 0 := by simp [headN, h1, h5, h6, h7]
    simp (maxSteps := 4000000) (disch := omega) only [abv, step, stepv, ev, wl, wn, wp, wz, aop, cV, cV1, AV.one, partCells, okW, onlyFr, app, sliceCells, cellsAt, srcA, subA, eqFs, Int.cast_ofNat_Int, simprocAttr, h7, e9]
  · have e9 : headN c x r n = 8 := by simp [headN, h7]
    simp (maxSteps := 4000000) (disch := omega) only [abv, step, stepv, ev, wl, wn, wp, wz, aop, cV, cV1, AV.one, partCells, okW, onlyFr, app, sliceCells, cellsAt, srcA, subA, eqFs, Int.cast_ofNat_Int, simprocAttr, h7, e9]

def clipN (c x r : Int) (l : List Int) : Int := if c < 1 then 8 else if (l.length : Int) % c ≠ 0 then 8 else if headN c x r (l.length / c) ≠ 0 then 8 else if checkN x l ≠ 0 then 8 else 0
theorem head_cases (c x r n : Int) : headN c x r n = 8 ∨ headN c x r n = 0 := by
  unfold headN; split <;> (try split) <;> (try split) <;> (try split) <;> simp
def S_ClipCheck (P : Prg) (f : Nat) : Prop := ∀ (c x r : Int) (l : List Int), I32 l → l.length ≤ 1000000 → VC P f [.agg [.int .i64 c, .int .i64 x, .int .i64 r, il l]] (.int .i64 (clipN c x r l))
theorem clip_Check {P : Prg} {f fH fW t0 : Nat} (b : Body P f 33 [.tmp 2] (ac_clip_Check fH fW t0)) (hH : S_CHead P fH) (hW : S_WCheck P fW) : S_ClipCheck P f := by
  intro c x r l hI hl
  · refine VC.of_acall (by simp [isDL, isD, isD_il]) rfl (ACall.of_body b (by simp) ?_)
    by_cases h1 : c < 1
    · have e9 : clipN c x r l = 8 := by simp [clipN, h1]
      simp (maxSteps := 4000000) (disch := omega) only [abv, step, stepv, ev, wl, wn, wp, wz, aop, cV, cV1, AV.one, partCells, okW, onlyFr, app, sliceCells, cellsAt, srcA, subA, eqFs, Int.cast_ofNat_Int, simprocAttr, ac_clip_Check, il, e9]
    have hm := mod_small (n := l.length) (c := c) (by omega)
    have hd := div_small (n := l.length) (c := c) (by omega)
    have q0 : (l.length : Int).tdiv c = l.length / c := Int.tdiv_eq_ediv_of_nonneg (by omega)
    by_cases h2 : (l.length : Int) % c = 0
    · have hH' := hH c x r (l.length / c) l
      have hW' := hW x l hI
      rw [il] at hH' hW'
      simp (maxSteps := 4000000) (disch := omega) only [abv, step, stepv, ev, wl, wn, wp, wz, aop, cV, cV1, AV.one, partCells, okW, onlyFr, app, sliceCells, cellsAt, srcA, subA, eqFs, Int.cast_ofNat_Int, simprocAttr, ac_clip_Check, il, h2, q0]
      refine callD.vc hH' ?_
      rcases head_cases c x r (l.length / c) with h3 | h3
      · have e9 : clipN c x r l = 8 := by simp [clipN, h3]
        simp (maxSteps := 4000000) (disch := omega) only [abv, step, stepv, ev, wl, wn, wp, wz, aop, cV, cV1, AV.one, partCells, okW, onlyFr, app, sliceCells, cellsAt, srcA, subA, eqFs, Int.cast_ofNat_Int, simprocAttr, h3, e9]
      · simp (maxSteps := 4000000) (disch := omega) only [abv, step, stepv, ev, wl, wn, wp, wz, aop, cV, cV1, AV.one, partCells, okW, onlyFr, app, sliceCells, cellsAt, srcA, subA, eqFs, Int.cast_ofNat_Int, simprocAttr, h3]
        refine callQ.vc hW' ?_
        by_cases h4 : checkN x l = 0
        · have e9 : clipN c x r l = 0 := by simp [clipN, h1, h2, h3, h4]
          simp (maxSteps := 4000000) (disch := omega) only [abv, step, stepv, ev, wl, wn, wp, wz, aop, cV, cV1, AV.one, partCells, okW, onlyFr, app, sliceCells, cellsAt, srcA, subA, eqFs, Int.cast_ofNat_Int, simprocAttr, h4, e9]
        · have e9 : clipN c x r l = 8 := by simp [clipN, h4]
          simp (maxSteps := 4000000) (disch := omega) only [abv, step, stepv, ev, wl, wn, wp, wz, aop, cV, cV1, AV.one, partCells, okW, onlyFr, app, sliceCells, cellsAt, srcA, subA, eqFs, Int.cast_ofNat_Int, simprocAttr, h4, e9]
    · have e9 : clipN c x r l = 8 := by simp [clipN, h2]
      simp (maxSteps := 4000000) (disch := omega) only [abv, step, stepv, ev, wl, wn, wp, wz, aop, cV, cV1, AV.one, partCells, okW, onlyFr, app, sliceCells, cellsAt, srcA, subA, eqFs, Int.cast_ofNat_Int, simprocAttr, ac_clip_Check, il, h2, e9]

def ask21 (c x n : Int) : Int := if eCheck c x ≠ 0 then 2 else if n < 1 then 2 else if 4000 / c < n then 2 else 0
def S_Ask21 (P : Prg) (f : Nat) : Prop := ∀ c x n : Int, VC P f [shA c x, .int .i64 n] (.int .i64 (ask21 c x n))
theorem ref21_Asked {P : Prg} {f fE t0 : Nat} (b : Body P f 19 [.tmp 4] (ac_cadenzaref21_Asked fE t0)) (hE : S_ECheck P fE) : S_Ask21 P f := by
  intro c x n
  refine VC.of_acall (by simp [isDL, isD, shA]) rfl (ACall.of_body b (by simp) ?_)
  have hE' := hE c x
  rw [shA] at hE'
  simp (maxSteps := 4000000) (disch := omega) only [abv, step, stepv, ev, wl, wn, wp, wz, aop, cV, cV1, AV.one, partCells, okW, onlyFr, app, sliceCells, cellsAt, srcA, subA, eqFs, Int.cast_ofNat_Int, simprocAttr, ac_cadenzaref21_Asked, shA]
  refine callQ.vc hE' ?_
  rcases eCheck_cases c x with h1 | ⟨h1, h2, h3, h4⟩
  · have e9 : ask21 c x n = 2 := by simp [ask21, h1]
    simp (maxSteps := 4000000) (disch := omega) only [abv, step, stepv, ev, wl, wn, wp, wz, aop, cV, cV1, AV.one, partCells, okW, onlyFr, app, sliceCells, cellsAt, srcA, subA, eqFs, Int.cast_ofNat_Int, simprocAttr, h1, e9]
  have q0 : (4000 : Int).tdiv c = 4000 / c := Int.tdiv_eq_ediv_of_nonneg (by omega)
  have q1 : 0 ≤ (4000 : Int) / c := Int.ediv_nonneg (by omega) (by omega)
  have q2 : (4000 : Int) / c ≤ 4000 := Int.ediv_le_self _ (by omega)
  by_cases h5 : n < 1
  · have e9 : ask21 c x n = 2 := by simp [ask21, h5]
    simp (maxSteps := 4000000) (disch := omega) only [abv, step, stepv, ev, wl, wn, wp, wz, aop, cV, cV1, AV.one, partCells, okW, onlyFr, app, sliceCells, cellsAt, srcA, subA, eqFs, Int.cast_ofNat_Int, simprocAttr, h1, e9]
  by_cases h6 : 4000 / c < n
  · have e9 : ask21 c x n = 2 := by simp [ask21, h6]
    simp (maxSteps := 4000000) (disch := omega) only [abv, step, stepv, ev, wl, wn, wp, wz, aop, cV, cV1, AV.one, partCells, okW, onlyFr, app, sliceCells, cellsAt, srcA, subA, eqFs, Int.cast_ofNat_Int, simprocAttr, h1, e9, q0]
  · have e9 : ask21 c x n = 0 := by simp [ask21, h1, h5, h6]
    simp (maxSteps := 4000000) (disch := omega) only [abv, step, stepv, ev, wl, wn, wp, wz, aop, cV, cV1, AV.one, partCells, okW, onlyFr, app, sliceCells, cellsAt, srcA, subA, eqFs, Int.cast_ofNat_Int, simprocAttr, h1, e9, q0]
end Go.Am

namespace Go.Am
open Go.RowKit

def lensL (L n : Nat) : List Int := List.replicate ((n - 1) / L) (L : Int) ++ [(n : Int) - ((n - 1) / L * L : Nat)]
theorem lensL_len (L n : Nat) : (lensL L n).length = (n - 1) / L + 1 := by simp [lensL]
theorem rep_snoc (k : Nat) (a : Int) : List.replicate k a ++ [a] = List.replicate (k + 1) a := by rw [List.replicate_succ']
def i64L (l : List Int) : AV := .list l.length (ks .i64 l)
theorem isD_i64L (l : List Int) : isD (i64L l) = true := by simp [i64L, isD, isDL_ks]
def allA (r n : Int) : AV := if r < 1 ∨ 1048576 < r ∨ n < 1 ∨ 4000 < n then .tup [.list 0 [], .int .i64 2] else if 1000 < (lensL (longN r).toNat n.toNat).length then .tup [.list 0 [], .int .i64 4] else .tup [i64L (lensL (longN r).toNat n.toNat), .int .i64 0]
theorem isD_all (r n : Int) : isD (allA r n) = true := by unfold allA; split <;> (try split) <;> simp [isD, isDL, isD_i64L]
def S_All22 (P : Prg) (f : Nat) : Prop := ∀ r n : Int, VC P f [.int .i64 r, .int .i64 n] (allA r n)

theorem ref22_All {P : Prg} {f fL t0 : Nat} (b : Body P f 41 [.tmp 4, .tmp 5] (ac_cadenzaref22_All fL t0)) (hL : S_Long22 P fL) : S_All22 P f := by
  intro r n
  refine VC.of_walk 1 rfl (isD_all _ _) (ACall.of_body b (by simp) ?_)
  have hL' := hL r
  by_cases h1 : r < 1 ∨ 1048576 < r
  · have e1 : longA r = .tup [.int .i64 0, .int .i64 2] := by rw [longA, if_pos h1]
    have e2 : allA r n = .tup [.list 0 [], .int .i64 2] := by rw [allA, if_pos (by omega)]
    simp (maxSteps := 4000000) (disch := omega) only [abv, step, stepv, ev, wl, wn, wp, wz, aop, cV, cV1, AV.one, partCells, okW, onlyFr, app, sliceCells, cellsAt, srcA, subA, eqFs, Int.cast_ofNat_Int, simprocAttr, ac_cadenzaref22_All]
    refine callQ.vc hL' ?_
    simp (maxSteps := 4000000) (disch := omega) only [abv, step, stepv, ev, wl, wn, wp, wz, aop, cV, cV1, AV.one, partCells, okW, onlyFr, app, sliceCells, cellsAt, srcA, subA, eqFs, Int.cast_ofNat_Int, simprocAttr, e1, e2]
    simp [frzN, frzK, frzL, frzV, isDL, isD]
  have e1 : longA r = .tup [.int .i64 (longN r), .int .i64 0] := by rw [longA, if_neg h1]
  rw [e1] at hL'
  have p1 := longN_pos r
  have p2 := longN_le (r := r) (by omega)
  by_cases h2 : n < 1
  · have e2 : allA r n = .tup [.list 0 [], .int .i64 2] := by rw [allA, if_pos (by omega)]
    simp (maxSteps := 4000000) (disch := omega) only [abv, step, stepv, ev, wl, wn, wp, wz, aop, cV, cV1, AV.one, partCells, okW, onlyFr, app, sliceCells, cellsAt, srcA, subA, eqFs, Int.cast_ofNat_Int, simprocAttr, ac_cadenzaref22_All]
    refine callQ.vc hL' ?_
    simp (maxSteps := 4000000) (disch := omega) only [abv, step, stepv, ev, wl, wn, wp, wz, aop, cV, cV1, AV.one, partCells, okW, onlyFr, app, sliceCells, cellsAt, srcA, subA, eqFs, Int.cast_ofNat_Int, simprocAttr, e2]
    simp [frzN, frzK, frzL, frzV, isDL, isD]
  by_cases h3 : 4000 < n
  · have e2 : allA r n = .tup [.list 0 [], .int .i64 2] := by rw [allA, if_pos (by omega)]
    simp (maxSteps := 4000000) (disch := omega) only [abv, step, stepv, ev, wl, wn, wp, wz, aop, cV, cV1, AV.one, partCells, okW, onlyFr, app, sliceCells, cellsAt, srcA, subA, eqFs, Int.cast_ofNat_Int, simprocAttr, ac_cadenzaref22_All]
    refine callQ.vc hL' ?_
    simp (maxSteps := 4000000) (disch := omega) only [abv, step, stepv, ev, wl, wn, wp, wz, aop, cV, cV1, AV.one, partCells, okW, onlyFr, app, sliceCells, cellsAt, srcA, subA, eqFs, Int.cast_ofNat_Int, simprocAttr, e2]
    simp [frzN, frzK, frzL, frzV, isDL, isD]
  have e2 : allA r n = if 1000 < (lensL (longN r).toNat n.toNat).length then .tup [.list 0 [], .int .i64 4] else .tup [i64L (lensL (longN r).toNat n.toNat), .int .i64 0] := by rw [allA, if_neg (by omega)]
  generalize longN r = Li at *
  obtain ⟨L, rfl⟩ : ∃ L : Nat, Li = L := ⟨Li.toNat, by omega⟩
  obtain ⟨m, rfl⟩ : ∃ m : Nat, n = m := ⟨n.toNat, by omega⟩
  simp only [Int.toNat_natCast] at e2
  have g1 : (m - 1) / L * L ≤ m - 1 := Nat.div_mul_le_self _ _
  have g2 : m - 1 < ((m - 1) / L + 1) * L := by
    have := Nat.lt_div_mul_add (a := m - 1) (b := L) (by omega)
    rw [Nat.add_mul, Nat.one_mul]; omega
  rw [Nat.add_mul, Nat.one_mul] at g2
  have g3 : (m - 1) / L ≤ m - 1 := Nat.div_le_self _ _
  have ll := lensL_len L m
  have lf : lensL L m = List.replicate ((m - 1) / L) (L : Int) ++ [(m : Int) - ((m - 1) / L * L : Nat)] := rfl
  generalize hq : (m - 1) / L = q at *
  simp (maxSteps := 4000000) (disch := omega) only [abv, step, stepv, ev, wl, wn, wp, wz, aop, cV, cV1, AV.one, partCells, okW, onlyFr, app, sliceCells, cellsAt, srcA, subA, eqFs, Int.cast_ofNat_Int, simprocAttr, ac_cadenzaref22_All]
  refine callQ.vc hL' ?_
  simp (maxSteps := 4000000) (disch := omega) only [abv, step, stepv, ev, wl, wn, wp, wz, aop, cV, cV1, AV.one, partCells, okW, onlyFr, app, sliceCells, cellsAt, srcA, subA, eqFs, Int.cast_ofNat_Int, simprocAttr]
  refine ALoop.by (ι := Option Nat) (fun i => match i with
      | some k => ⟨[(1, .int .i64 ((m : Int) - (k * L : Nat))), (8, .own 0 k), (6, .int .i64 L)], [⟨t0, 1, k, ks .i64 (List.replicate k (L : Int)), 0⟩]⟩
      | none => ⟨[(1, .int .i64 0), (8, .own 0 (q + 1)), (6, .int .i64 L)], [⟨t0, 1, q + 1, ks .i64 (lensL L m), 0⟩]⟩)
    (fun i => match i with | some k => k ≤ q | none => True) (fun i => match i with | some k => q - k + 1 | none => 0) (some 0)
    (by simp only [Nat.zero_mul]; exact Le.trans (Le.virt 8 t0 1 (by omega) rfl) (Le.slots (by simp [Am.look]))) (by simp) ?_
  intro i hi
  cases i with
  | some k =>
    simp only at hi
    have g4 : k * L ≤ q * L := Nat.mul_le_mul_right L hi
    have lr : (List.replicate k (L : Int)).length = k := by simp
    by_cases hk : k < q
    · have g5 : (k + 1) * L ≤ q * L := Nat.mul_le_mul_right L (by omega)
      rw [Nat.add_mul, Nat.one_mul] at g5
      simp (maxSteps := 4000000) (disch := omega) only [abv, step, stepv, ev, wl, wn, wp, wz, aop, cV, cV1, AV.one, partCells, okW, onlyFr, app, sliceCells, cellsAt, srcA, subA, eqFs, Int.cast_ofNat_Int, simprocAttr, ks_snoc, rep_snoc, lr]
      refine ⟨some (k + 1), by simp only; omega, by simp only; omega, ?_⟩
      exact Le.drop1 (isTL_ks _ _) (by simp [Am.look, frzK, frzL, frzV, Nat.add_mul]; omega)
    · have : k = q := by omega
      subst this
      simp (maxSteps := 4000000) (disch := omega) only [abv, step, stepv, ev, wl, wn, wp, wz, aop, cV, cV1, AV.one, partCells, okW, onlyFr, app, sliceCells, cellsAt, srcA, subA, eqFs, Int.cast_ofNat_Int, simprocAttr, ks_snoc, lr, ← lf]
      refine ⟨none, trivial, by simp only; omega, ?_⟩
      exact Le.drop1 (isTL_ks _ _) (by simp [Am.look, frzK, frzL, frzV])
  | none =>
    by_cases h9 : 1000 < (lensL L m).length
    · rw [if_pos h9] at e2
      simp (maxSteps := 4000000) (disch := omega) only [abv, step, stepv, ev, wl, wn, wp, wz, aop, cV, cV1, AV.one, partCells, okW, onlyFr, app, sliceCells, cellsAt, srcA, subA, eqFs, Int.cast_ofNat_Int, simprocAttr, e2]
      simp [frzN, frzK, frzL, frzV, isDL, isD]
    · rw [if_neg h9] at e2
      simp (maxSteps := 4000000) (disch := omega) only [abv, step, stepv, ev, wl, wn, wp, wz, aop, cV, cV1, AV.one, partCells, okW, onlyFr, app, sliceCells, cellsAt, srcA, subA, eqFs, Int.cast_ofNat_Int, simprocAttr, e2]
      simp [frzN, frzK, frzL, frzV, isDL, isD, i64L, ll, frzL_T _ (isTL_ks .i64 _)]
end Go.Am

namespace Go.Am
open Go.RowKit

theorem all_cnt (r n : Int) : (∃ k : Int, allA r n = .tup [.list 0 [], .int .i64 k] ∧ cntA r n = .tup [.int .i64 0, .int .i64 k]) ∨
    (∃ l : List Int, allA r n = .tup [i64L l, .int .i64 0] ∧ cntA r n = .tup [.int .i64 l.length, .int .i64 0]) := by
  by_cases h1 : r < 1 ∨ 1048576 < r
  · exact .inl ⟨2, by rw [allA, if_pos (by omega)], by rw [cntA, if_pos h1]⟩
  by_cases h2 : n < 1 ∨ 4000 < n
  · exact .inl ⟨2, by rw [allA, if_pos (by omega)], by rw [cntA, if_neg h1, if_pos h2]⟩
  have p1 := longN_pos r
  have e : (n + longN r - 1) / longN r = (lensL (longN r).toNat n.toNat).length := by
    generalize longN r = Li at *
    obtain ⟨L, rfl⟩ : ∃ L : Nat, Li = L := ⟨Li.toNat, by omega⟩
    obtain ⟨m, rfl⟩ : ∃ m : Nat, n = m := ⟨n.toNat, by omega⟩
    rw [Int.toNat_natCast, Int.toNat_natCast, lensL_len]
    have : (m : Int) + L - 1 = ((m - 1 + L : Nat) : Int) := by omega
    rw [this, ← Int.natCast_ediv, Nat.add_div_right _ (by omega)]
  by_cases h3 : 1000 < (lensL (longN r).toNat n.toNat).length
  · exact .inl ⟨4, by rw [allA, if_neg (by omega), if_pos h3], by rw [cntA, if_neg h1, if_neg h2, e, if_pos (by omega)]⟩
  · exact .inr ⟨_, by rw [allA, if_neg (by omega), if_neg h3], by rw [cntA, if_neg h1, if_neg h2, e, if_neg (by omega)]⟩

theorem ref22_Count {P : Prg} {f fA : Nat} (b : Body P f 17 [.tmp 4, .tmp 5] (ac_cadenzaref22_Count fA)) (hA : S_All22 P fA) : S_Count22 P f := by
  intro r n
  refine VC.of_acall rfl (isD_cnt _ _) (ACall.of_body b (by simp) ?_)
  have hA' := hA r n
  rcases all_cnt r n with ⟨k, e1, e2⟩ | ⟨l, e1, e2⟩
  · rw [e1] at hA'
    simp (maxSteps := 4000000) (disch := omega) only [abv, step, stepv, ev, wl, wn, wp, wz, aop, cV, cV1, AV.one, partCells, okW, onlyFr, app, sliceCells, cellsAt, srcA, subA, eqFs, Int.cast_ofNat_Int, simprocAttr, ac_cadenzaref22_Count]
    refine callQ.vc hA' ?_
    simp (maxSteps := 4000000) (disch := omega) only [abv, step, stepv, ev, wl, wn, wp, wz, aop, cV, cV1, AV.one, partCells, okW, onlyFr, app, sliceCells, cellsAt, srcA, subA, eqFs, Int.cast_ofNat_Int, simprocAttr, e2, List.length_nil]
    try simp
  · rw [e1] at hA'
    simp (maxSteps := 4000000) (disch := omega) only [abv, step, stepv, ev, wl, wn, wp, wz, aop, cV, cV1, AV.one, partCells, okW, onlyFr, app, sliceCells, cellsAt, srcA, subA, eqFs, Int.cast_ofNat_Int, simprocAttr, ac_cadenzaref22_Count]
    refine callQ.vc hA' ?_
    simp (maxSteps := 4000000) (disch := omega) only [abv, step, stepv, ev, wl, wn, wp, wz, aop, cV, cV1, AV.one, partCells, okW, onlyFr, app, sliceCells, cellsAt, srcA, subA, eqFs, Int.cast_ofNat_Int, simprocAttr, i64L, e2]
end Go.Am

namespace Go.Am
open Go.RowKit

theorem head_eq (c x r n : Int) : headN c x r n = if ask21 c x n = 0 ∧ cntE r n = 0 then 0 else 8 := by
  unfold headN ask21
  by_cases h1 : eCheck c x = 0 <;> by_cases h2 : n < 1 <;> by_cases h3 : 4000 / c < n <;> by_cases h4 : cntE r n = 0 <;> simp [h1, h2, h3, h4]
theorem clip_ask {c x r : Int} {l : List Int} : clipN c x r l = if askN c x l = 0 ∧ headN c x r (l.length / c) = 0 then 0 else 8 := by
  unfold clipN askN
  by_cases h0 : headN c x r (l.length / c) = 0
  · have h0' := h0
    rw [head_eq] at h0'
    have ha : ask21 c x (l.length / c) = 0 := by
      by_cases h : ask21 c x (l.length / c) = 0 ∧ cntE r (l.length / c) = 0
      · exact h.1
      · rw [if_neg h] at h0'; cases h0'
    have hE : eCheck c x = 0 := by
      by_cases h : eCheck c x = 0
      · exact h
      · simp [ask21, h] at ha
    have hn : ¬ (l.length : Int) / c < 1 := by
      intro h
      simp [ask21, h] at ha
    have hc : ¬ c < 1 := by
      rcases eCheck_cases c x with h | h <;> omega
    have hl : l.length ≠ 0 := by
      intro h
      rw [h] at hn
      simp at hn
    by_cases h2 : (l.length : Int) % c = 0 <;> by_cases h3 : checkN x l = 0 <;> simp [hE, hc, hl, h0, h2, h3]
  · simp [h0]

def S_RHead24 (P : Prg) (f : Nat) : Prop := ∀ (c x r n : Int) (l : List Int), VC P f [.agg [.int .i64 c, .int .i64 x, .int .i64 r, il l], .int .i64 n] (.bool (decide (headN c x r n = 0)))
theorem ref24_Head {P : Prg} {f fS fA fC t0 : Nat} (b : Body P f 21 [.tmp 4] (ac_cadenzaref24_Head fS fA fC t0)) (hS : S_Shape24 P fS) (hA : S_Ask21 P fA) (hC : S_Count22 P fC) : S_RHead24 P f := by
  intro c x r n l
  refine VC.of_acall (by simp [isDL, isD, isD_il]) rfl (ACall.of_body b (by simp) ?_)
  have hS' := hS c x r l
  have hA' := hA c x n
  rw [shA] at hS' hA'
  rw [il] at hS'
  obtain ⟨k, ek⟩ := cnt_form r n
  have hC' := hC r n
  rw [ek] at hC'
  simp (maxSteps := 4000000) (disch := omega) only [abv, step, stepv, ev, wl, wn, wp, wz, aop, cV, cV1, AV.one, partCells, okW, onlyFr, app, sliceCells, cellsAt, srcA, subA, eqFs, Int.cast_ofNat_Int, simprocAttr, ac_cadenzaref24_Head, il]
  refine callQ.vc hS' ?_
  simp (maxSteps := 4000000) (disch := omega) only [abv, step, stepv, ev, wl, wn, wp, wz, aop, cV, cV1, AV.one, partCells, okW, onlyFr, app, sliceCells, cellsAt, srcA, subA, eqFs, Int.cast_ofNat_Int, simprocAttr]
  refine callQ.vc hA' ?_
  by_cases h1 : ask21 c x n = 0
  · simp (maxSteps := 4000000) (disch := omega) only [abv, step, stepv, ev, wl, wn, wp, wz, aop, cV, cV1, AV.one, partCells, okW, onlyFr, app, sliceCells, cellsAt, srcA, subA, eqFs, Int.cast_ofNat_Int, simprocAttr, h1]
    refine callQ.vc hC' ?_
    by_cases h7 : cntE r n = 0
    · have e9 : headN c x r n = 0 := by rw [head_eq, if_pos ⟨h1, h7⟩]
      simp (maxSteps := 4000000) (disch := omega) only [abv, step, stepv, ev, wl, wn, wp, wz, aop, cV, cV1, AV.one, partCells, okW, onlyFr, app, sliceCells, cellsAt, srcA, subA, eqFs, Int.cast_ofNat_Int, simprocAttr, h7, e9]
      try simp
    · have e9 : headN c x r n = 8 := by rw [head_eq, if_neg (by simp [h7])]
      simp (maxSteps := 4000000) (disch := omega) only [abv, step, stepv, ev, wl, wn, wp, wz, aop, cV, cV1, AV.one, partCells, okW, onlyFr, app, sliceCells, cellsAt, srcA, subA, eqFs, Int.cast_ofNat_Int, simprocAttr, e9]
      try simp [h7]
  · have e9 : headN c x r n = 8 := by rw [head_eq, if_neg (by simp [h1])]
    simp (maxSteps := 4000000) (disch := omega) only [abv, step, stepv, ev, wl, wn, wp, wz, aop, cV, cV1, AV.one, partCells, okW, onlyFr, app, sliceCells, cellsAt, srcA, subA, eqFs, Int.cast_ofNat_Int, simprocAttr, h1, e9]
    try simp

theorem ref24_Check {P : Prg} {f fS fA fH t0 : Nat} (b : Body P f 20 [.tmp 2] (ac_cadenzaref24_Check fS fA fH t0)) (hS : S_Shape24 P fS) (hA : S_EAsk P fA) (hH : S_RHead24 P fH) : S_ClipCheck P f := by
  intro c x r l hI hl
  refine VC.of_acall (by simp [isDL, isD, isD_il]) rfl (ACall.of_body b (by simp) ?_)
  have hS' := hS c x r l
  have hA' := hA c x l hI
  have hH' := hH c x r (l.length / c) l
  rw [shA] at hS' hA'
  rw [il] at hS' hA' hH'
  simp (maxSteps := 4000000) (disch := omega) only [abv, step, stepv, ev, wl, wn, wp, wz, aop, cV, cV1, AV.one, partCells, okW, onlyFr, app, sliceCells, cellsAt, srcA, subA, eqFs, Int.cast_ofNat_Int, simprocAttr, ac_cadenzaref24_Check, il]
  refine callD.vc hS' ?_
  simp (maxSteps := 4000000) (disch := omega) only [abv, step, stepv, ev, wl, wn, wp, wz, aop, cV, cV1, AV.one, partCells, okW, onlyFr, app, sliceCells, cellsAt, srcA, subA, eqFs, Int.cast_ofNat_Int, simprocAttr]
  refine callD.vc hA' ?_
  by_cases h1 : askN c x l = 0
  · have hc : 1 ≤ c := by
      obtain ⟨k, rfl, hk, _⟩ := ask_okM hI h1
      have := hk.1
      omega
    have hd := div_small (n := l.length) hc
    have q0 : (l.length : Int).tdiv c = l.length / c := Int.tdiv_eq_ediv_of_nonneg (by omega)
    simp (maxSteps := 4000000) (disch := omega) only [abv, step, stepv, ev, wl, wn, wp, wz, aop, cV, cV1, AV.one, partCells, okW, onlyFr, app, sliceCells, cellsAt, srcA, subA, eqFs, Int.cast_ofNat_Int, simprocAttr, h1, q0]
    refine callD.vc hH' ?_
    by_cases h2 : headN c x r (l.length / c) = 0
    · have e9 : clipN c x r l = 0 := by rw [clip_ask, if_pos ⟨h1, h2⟩]
      simp (maxSteps := 4000000) (disch := omega) only [abv, step, stepv, ev, wl, wn, wp, wz, aop, cV, cV1, AV.one, partCells, okW, onlyFr, app, sliceCells, cellsAt, srcA, subA, eqFs, Int.cast_ofNat_Int, simprocAttr, h2, e9, decide_true, Bool.not_true]
    · have e9 : clipN c x r l = 8 := by rw [clip_ask, if_neg (by simp [h2])]
      have e8 : decide (headN c x r (l.length / c) = 0) = false := by simp [h2]
      simp (maxSteps := 4000000) (disch := omega) only [abv, step, stepv, ev, wl, wn, wp, wz, aop, cV, cV1, AV.one, partCells, okW, onlyFr, app, sliceCells, cellsAt, srcA, subA, eqFs, Int.cast_ofNat_Int, simprocAttr, e8, e9, Bool.not_false]
  · have e9 : clipN c x r l = 8 := by rw [clip_ask, if_neg (by simp [h1])]
    simp (maxSteps := 4000000) (disch := omega) only [abv, step, stepv, ev, wl, wn, wp, wz, aop, cV, cV1, AV.one, partCells, okW, onlyFr, app, sliceCells, cellsAt, srcA, subA, eqFs, Int.cast_ofNat_Int, simprocAttr, h1, e9]
end Go.Am

namespace Go.Am
open Go.RowKit

def clA (c x r : Int) (l : List Int) : AV := .agg [.int .i64 c, .int .i64 x, .int .i64 r, il l]
def S_IEq (P : Prg) (f : Nat) : Prop := ∀ a b : List Int, a.length ≤ 1000000 → b.length ≤ 1000000 → VC P f [il a, il b] (.bool (decide (a = b)))
theorem ref13_Eq {P : Prg} {f : Nat} (bd : Body P f 26 [.tmp 4] ac_cadenzaref13_Same) : S_IEq P f := by
  intro a b ha hb
  refine VC.of_acall (by simp [isDL, isD, isD_il]) rfl (ACall.of_body bd (by simp) ?_)
  by_cases hn : a.length = b.length
  · simp (maxSteps := 4000000) (disch := omega) only [abv, step, stepv, ev, wl, wn, wp, wz, aop, cV, cV1, AV.one, partCells, okW, onlyFr, app, sliceCells, cellsAt, srcA, subA, eqFs, Int.cast_ofNat_Int, simprocAttr, ac_cadenzaref13_Same, il, hn]
    refine ALoop.by (ι := Nat) (fun k => ⟨[(5, .int .i64 k), (1, .list b.length (ks .i32 b)), (0, .list b.length (ks .i32 a))], []⟩) (fun k => k ≤ b.length ∧ ∀ j, j < k → a.getD j 0 = b.getD j 0) (fun k => b.length - k) 0 (Le.slots (by simp [Am.look, il])) ⟨by omega, by simp⟩ ?_
    intro k ⟨hk, hg⟩
    by_cases hlt : k < b.length
    · have e1 := ks_at (K := .i32) (l := a) (i := k) (by omega)
      have e2 := ks_at (K := .i32) (l := b) (i := k) hlt
      have la : (ks .i32 a).length = b.length := by rw [ks_length, hn]
      by_cases he : a.getD k 0 = b.getD k 0
      · simp (maxSteps := 4000000) (disch := omega) only [abv, step, stepv, ev, wl, wn, wp, wz, aop, cV, cV1, AV.one, partCells, okW, onlyFr, app, sliceCells, cellsAt, srcA, subA, eqFs, Int.cast_ofNat_Int, simprocAttr, e1, e2, he, la]
        exact ⟨k + 1, ⟨by omega, fun j hj => by
          by_cases e : j = k
          · rw [e]; exact he
          · exact hg j (by omega)⟩, by omega, Le.slots (by simp [Am.look, il])⟩
      · have e9 : decide (a = b) = false := by simp; intro h; rw [h] at he; exact he rfl
        simp (maxSteps := 4000000) (disch := omega) only [abv, step, stepv, ev, wl, wn, wp, wz, aop, cV, cV1, AV.one, partCells, okW, onlyFr, app, sliceCells, cellsAt, srcA, subA, eqFs, Int.cast_ofNat_Int, simprocAttr, e1, e2, e9, la, he]
    · have e9 : decide (a = b) = true := by simp; exact getD_ext hn fun j hj => hg j (by omega)
      simp (maxSteps := 4000000) (disch := omega) only [abv, step, stepv, ev, wl, wn, wp, wz, aop, cV, cV1, AV.one, partCells, okW, onlyFr, app, sliceCells, cellsAt, srcA, subA, eqFs, Int.cast_ofNat_Int, simprocAttr, e9]
  · have e9 : decide (a = b) = false := by simp; intro h; rw [h] at hn; exact hn rfl
    simp (maxSteps := 4000000) (disch := omega) only [abv, step, stepv, ev, wl, wn, wp, wz, aop, cV, cV1, AV.one, partCells, okW, onlyFr, app, sliceCells, cellsAt, srcA, subA, eqFs, Int.cast_ofNat_Int, simprocAttr, ac_cadenzaref13_Same, il, e9]
end Go.Am

namespace Go.Am
open Go.RowKit

def iss (L : List (List Int)) : AV := .list L.length (L.map il)
theorem isDL_ils : ∀ L : List (List Int), isDL (L.map il) = true
  | [] => rfl
  | l :: L => by simp [isDL, isD_il, isDL_ils L]
theorem isD_iss (L : List (List Int)) : isD (iss L) = true := by simp [iss, isD, isDL_ils]
theorem ils_at {L : List (List Int)} {k : Nat} (h : k < L.length) : (L.map il).drop k = il (L.getD k []) :: (L.map il).drop (k + 1) := by
  rw [List.drop_eq_getElem_cons (by simpa using h)]
  simp [List.getD_eq_getElem?_getD, List.getElem?_eq_getElem h]
theorem parts_ext {a b : List (List Int)} (h : a.length = b.length) (h2 : ∀ j, j < a.length → a.getD j [] = b.getD j []) : a = b := by
  apply List.ext_getElem h
  intro i h1 h3
  have := h2 i h1
  simpa [List.getD_eq_getElem?_getD, List.getElem?_eq_getElem h1, List.getElem?_eq_getElem h3] using this
def okPts (L : List (List Int)) : Prop := L.length ≤ 1000000 ∧ ∀ j, (L.getD j []).length ≤ 1000000
def S_PEq (P : Prg) (f : Nat) : Prop := ∀ a b : List (List Int), okPts a → okPts b → VC P f [iss a, iss b] (.bool (decide (a = b)))
theorem ref24_SameParts {P : Prg} {f fS : Nat} (bd : Body P f 27 [.tmp 4] (ac_cadenzaref24_SameParts fS)) (hS : S_IEq P fS) : S_PEq P f := by
  intro a b ⟨ha, ha2⟩ ⟨hb, hb2⟩
  refine VC.of_acall (by simp [isDL, isD, isD_iss]) rfl (ACall.of_body bd (by simp) ?_)
  have la' : (a.map il).length = a.length := by simp
  have lb' : (b.map il).length = b.length := by simp
  by_cases hn : a.length = b.length
  · simp (maxSteps := 4000000) (disch := omega) only [abv, step, stepv, ev, wl, wn, wp, wz, aop, cV, cV1, AV.one, partCells, okW, onlyFr, app, sliceCells, cellsAt, srcA, subA, eqFs, Int.cast_ofNat_Int, simprocAttr, ac_cadenzaref24_SameParts, iss, hn]
    refine ALoop.by (ι := Nat) (fun k => ⟨[(5, .int .i64 k), (1, .list b.length (b.map il)), (0, .list b.length (a.map il))], []⟩) (fun k => k ≤ b.length ∧ ∀ j, j < k → a.getD j [] = b.getD j []) (fun k => b.length - k) 0 (Le.slots (by simp [Am.look, iss])) ⟨by omega, by simp⟩ ?_
    intro k ⟨hk, hg⟩
    by_cases hlt : k < b.length
    · have e1 := ils_at (L := a) (k := k) (by omega)
      have e2 := ils_at (L := b) (k := k) hlt
      have hS' := hS (a.getD k []) (b.getD k []) (ha2 k) (hb2 k)
      simp (maxSteps := 4000000) (disch := omega) only [abv, step, stepv, ev, wl, wn, wp, wz, aop, cV, cV1, AV.one, partCells, okW, onlyFr, app, sliceCells, cellsAt, srcA, subA, eqFs, Int.cast_ofNat_Int, simprocAttr, e1, e2]
      refine callD.vc hS' ?_
      by_cases he : a.getD k [] = b.getD k []
      · have e8 : decide (a.getD k [] = b.getD k []) = true := by simp only [he, decide_true]
        simp (maxSteps := 4000000) (disch := omega) only [abv, step, stepv, ev, wl, wn, wp, wz, aop, cV, cV1, AV.one, partCells, okW, onlyFr, app, sliceCells, cellsAt, srcA, subA, eqFs, Int.cast_ofNat_Int, simprocAttr, e8, Bool.not_true]
        exact ⟨k + 1, ⟨by omega, fun j hj => by
          by_cases e : j = k
          · rw [e]; exact he
          · exact hg j (by omega)⟩, by omega, Le.slots (by simp [Am.look])⟩
      · have e8 : decide (a.getD k [] = b.getD k []) = false := decide_eq_false he
        have e9 : decide (a = b) = false := decide_eq_false (fun h => he (by rw [h]))
        simp (maxSteps := 4000000) (disch := omega) only [abv, step, stepv, ev, wl, wn, wp, wz, aop, cV, cV1, AV.one, partCells, okW, onlyFr, app, sliceCells, cellsAt, srcA, subA, eqFs, Int.cast_ofNat_Int, simprocAttr, e8, e9, Bool.not_false]
    · have e9 : decide (a = b) = true := decide_eq_true (parts_ext hn fun j hj => hg j (by omega))
      simp (maxSteps := 4000000) (disch := omega) only [abv, step, stepv, ev, wl, wn, wp, wz, aop, cV, cV1, AV.one, partCells, okW, onlyFr, app, sliceCells, cellsAt, srcA, subA, eqFs, Int.cast_ofNat_Int, simprocAttr, e9]
  · have e9 : decide (a = b) = false := decide_eq_false (fun h => hn (by rw [h]))
    simp (maxSteps := 4000000) (disch := omega) only [abv, step, stepv, ev, wl, wn, wp, wz, aop, cV, cV1, AV.one, partCells, okW, onlyFr, app, sliceCells, cellsAt, srcA, subA, eqFs, Int.cast_ofNat_Int, simprocAttr, ac_cadenzaref24_SameParts, iss, e9]
end Go.Am

namespace Go.Am
open Go.RowKit

/-! ### le.Bytes -/

def leB (n : Nat) : Nat → List UInt8
  | 0 => []
  | k + 1 => UInt8.ofNat (n % 256) :: leB (n / 256) k

theorem leB_length : ∀ (k n : Nat), (leB n k).length = k
  | 0, _ => rfl
  | k + 1, n => by simp [leB, leB_length k]

theorem leB_get : ∀ (k n i : Nat) (h : i < k), (leB n k)[i]? = some (UInt8.ofNat (n / 256 ^ i % 256))
  | k + 1, n, 0, _ => by simp [leB]
  | k + 1, n, i + 1, h => by
    simp only [leB, List.getElem?_cons_succ]
    rw [leB_get k (n / 256) i (by omega), Nat.div_div_eq_div_mul, Nat.pow_succ, Nat.mul_comm]

theorem leB_take_succ {n k i : Nat} (h : i < k) : (leB n k).take (i + 1) = (leB n k).take i ++ [UInt8.ofNat (n / 256 ^ i % 256)] := by
  rw [List.take_add_one, leB_get k n i h]
  rfl

theorem shrN {K : IntKind} {n k : Nat} (hk : k ≤ K.bits) : shiftA false K (n : Int) (k : Int) = some (.int K ((n / 2 ^ k : Nat) : Int)) := by
  have h3 : ¬ ((k : Int) < 0) := by omega
  have h5 : min k K.bits = k := by omega
  have h6 : (n : Int).fdiv (2 ^ k) = ((n / 2 ^ k : Nat) : Int) := by
    rw [Int.fdiv_eq_ediv_of_nonneg _ (Int.pow_nonneg (by decide))]
    simp [Int.natCast_ediv, Int.natCast_pow]
  simp only [shiftA, if_neg h3, Bool.false_eq_true, if_false, Int.toNat_natCast, h5, h6]

def S_fits (P : Prg) (f : Nat) : Prop := ∀ n w : Nat, 1 ≤ w → w ≤ 8 → VC P f [.int .u64 n, .int .i64 w] (.bool (decide (w = 8) || decide (n / 2 ^ (8 * w) = 0)))
theorem le_fits {P : Prg} {f : Nat} (b : Body P f 14 [.tmp 4] ac_le_fits) : S_fits P f := by
  intro n w h1 h2
  refine VC.of_acall rfl rfl (ACall.of_body b (by simp) ?_)
  by_cases h8 : w = 8
  · subst h8
    simp (maxSteps := 4000000) (disch := omega) only [abv, step, stepv, ev, wl, wn, wp, wz, aop, cV, cV1, AV.one, partCells, okW, onlyFr, app, sliceCells, cellsAt, srcA, subA, eqFs, Int.cast_ofNat_Int, simprocAttr, ac_le_fits]
  · have e1 : (decide (w = 8)) = false := by simpa using h8
    have e2 : shiftA false .u64 (n : Int) (8 * (w : Int)) = some (.int .u64 ((n / 2 ^ (8 * w) : Nat) : Int)) := by
      have := shrN (K := .u64) (n := n) (k := 8 * w) (by simp [IntKind.bits]; omega)
      rwa [Int.natCast_mul] at this
    have e3 : (((n / 2 ^ (8 * w) : Nat) : Int) == 0) = decide (n / 2 ^ (8 * w) = 0) := by rw [Bool.eq_iff_iff]; simp only [beq_iff_eq, decide_eq_true_eq]; omega
    have e4 : ((w : Int) = 8) = False := eq_false (by omega)
    by_cases h9 : n / 2 ^ (8 * w) = 0
    · have e5 : (decide (n / 2 ^ (8 * w) = 0)) = true := by simpa using h9
      have e6 : (((n / 2 ^ (8 * w) : Nat) : Int) = 0) = True := eq_true (by omega)
      rw [e5]
      simp (maxSteps := 4000000) (disch := omega) only [abv, step, stepv, ev, wl, wn, wp, wz, aop, cV, cV1, AV.one, partCells, okW, onlyFr, app, sliceCells, cellsAt, srcA, subA, eqFs, Int.cast_ofNat_Int, simprocAttr, ac_le_fits, e1, e2, e4, e6]
    · have e5 : (decide (n / 2 ^ (8 * w) = 0)) = false := by simpa using h9
      have e6 : (((n / 2 ^ (8 * w) : Nat) : Int) = 0) = False := eq_false (by omega)
      rw [e5]
      simp (maxSteps := 4000000) (disch := omega) only [abv, step, stepv, ev, wl, wn, wp, wz, aop, cV, cV1, AV.one, partCells, okW, onlyFr, app, sliceCells, cellsAt, srcA, subA, eqFs, Int.cast_ofNat_Int, simprocAttr, ac_le_fits, e1, e2, e4, e6]

def S_leBytes (P : Prg) (f : Nat) : Prop := ∀ n w : Nat, 1 ≤ w → w ≤ 8 → n < 256 ^ w → VC P f [.int .u64 n, .int .i64 w] (.tup [bs (leB n w), .int .i64 0])

theorem frz_own0 {t n : Nat} {l : List UInt8} (h : n = l.length) {e : Int} : frzN (fun _ => true) [⟨t, 1, n, u8 l, 0⟩] 2 [.tup [.own 0 n, .int .i64 e]] = some [.tup [bs l, .int .i64 e]] := by
  subst h
  simp only [frzN, frzK, frzL, frzV, Bool.false_eq_true, if_false, List.getElem?_cons_zero, and_self, if_true, frzL_T _ (isT_u8 l), Option.map_some, bs]

theorem le_Bytes {P : Prg} {f fF t0 : Nat} (b : Body P f 35 [.tmp 4, .tmp 5] (ac_le_Bytes fF t0)) (hF : S_fits P fF) : S_leBytes P f := by
  intro n w h1 h2 hn
  refine VC.of_walk 1 (by simp [isDL, isD]) (by simp [isD, isDL, isD_bs]) (ACall.of_body b (by simp) ?_)
  have hn8 : n < 18446744073709551616 := Nat.lt_of_lt_of_le hn (Nat.le_trans (Nat.pow_le_pow_right (by omega) h2) (by decide))
  simp (maxSteps := 4000000) (disch := omega) only [abv, step, stepv, ev, wl, wn, wp, wz, aop, cV, cV1, AV.one, partCells, okW, onlyFr, app, sliceCells, cellsAt, srcA, subA, eqFs, Int.cast_ofNat_Int, simprocAttr, ac_le_Bytes]
  refine callQ.vc (hF n w h1 h2) ?_
  have e0 : (decide (w = 8) || decide (n / 2 ^ (8 * w) = 0)) = true := by
    have : n / 2 ^ (8 * w) = 0 := Nat.div_eq_of_lt (by rw [Nat.pow_mul]; exact hn)
    simp [this]
  rw [e0]
  have r0 : repCells [.int .u8 0] w = u8 ([] : List UInt8) ++ List.replicate w (.int .u8 0) := by
    have : ∀ k, repCells [AV.int .u8 0] k = List.replicate k (.int .u8 0) := fun k => by
      induction k with
      | zero => rfl
      | succ k ih => simp [repCells, ih, List.replicate_succ]
    rw [this]; rfl
  simp (maxSteps := 4000000) (disch := omega) only [abv, step, stepv, ev, wl, wn, wp, wz, aop, cV, cV1, AV.one, partCells, okW, onlyFr, app, sliceCells, cellsAt, srcA, subA, eqFs, Int.cast_ofNat_Int, simprocAttr, ac_le_Bytes]
  rw [r0]
  refine ALoop.by (ι := Nat) (fun k => ⟨[(22, .int .i64 k), (21, .int .i64 w), (6, .own 0 w), (0, .int .u64 n)], [⟨t0, 1, w, u8 ((leB n w).take k) ++ List.replicate (w - k) (.int .u8 0), 0⟩]⟩) (fun k => k ≤ w) (fun k => w - k) 0 (Le.slots (by simp [Am.look])) (by omega) ?_
  intro k hk
  by_cases hlt : k < w
  · have e2 : shiftA false .u64 (n : Int) (8 * (k : Int)) = some (.int .u64 ((n / 256 ^ k : Nat) : Int)) := by
      have := shrN (K := .u64) (n := n) (k := 8 * k) (by simp [IntKind.bits]; omega)
      rwa [Int.natCast_mul, Nat.pow_mul] at this
    have e3 : IntKind.u8.wrap ((n / 256 ^ k : Nat) : Int) = ((UInt8.ofNat (n / 256 ^ k % 256)).toNat : Int) := by
      simp [IntKind.wrap, IntKind.signed, IntKind.bits]
    have hl : (u8 ((leB n w).take k)).length = k := by simp [u8_length, leB_length]; omega
    have e4 : (u8 ((leB n w).take k) ++ List.replicate (w - k) (AV.int .u8 0)).take k = u8 ((leB n w).take k) := by rw [List.take_left' hl]
    have e5 : (u8 ((leB n w).take k) ++ List.replicate (w - k) (AV.int .u8 0)).drop (k + 1) = List.replicate (w - (k + 1)) (.int .u8 0) := by
      rw [List.drop_append, List.drop_of_length_le (by omega), hl]
      simp
      omega
    have e6 : u8 ((leB n w).take k) ++ [AV.int .u8 ((UInt8.ofNat (n / 256 ^ k % 256)).toNat : Int)] = u8 ((leB n w).take (k + 1)) := by
      rw [leB_take_succ hlt, ← u8_append]; rfl
    simp (maxSteps := 4000000) (disch := omega) only [abv, step, stepv, ev, wl, wn, wp, wz, aop, cV, cV1, AV.one, partCells, okW, onlyFr, app, sliceCells, cellsAt, srcA, subA, eqFs, Int.cast_ofNat_Int, simprocAttr, e2, e3, hl, e4, e5, e6]
    refine ⟨k + 1, by omega, by omega, ?_⟩
    refine Le.slots ?_
    simp [Am.look]
  · have ek : k = w := by omega
    subst ek
    have e7 : (leB n k).take k = leB n k := List.take_of_length_le (by rw [leB_length]; exact Nat.le_refl _)
    have e8 : u8 (leB n k) ++ List.replicate (k - k) (AV.int .u8 0) = u8 (leB n k) := by simp
    simp (maxSteps := 4000000) (disch := omega) only [abv, step, stepv, ev, wl, wn, wp, wz, aop, cV, cV1, AV.one, partCells, okW, onlyFr, app, sliceCells, cellsAt, srcA, subA, eqFs, Int.cast_ofNat_Int, simprocAttr, e7]
    rw [e8, frz_own0 (leB_length k n).symm]

end Go.Am

namespace Go.Am
open Go.RowKit

/-! ### The chunk that tells the form: without a program -/

def sndOk (c b r : Int) : Prop := 1 ≤ c ∧ c ≤ 6 ∧ half b ≠ 0 ∧ 1 ≤ r ∧ r ≤ 1048576
instance (c b r : Int) : Decidable (sndOk c b r) := by unfold sndOk; exact inferInstance
/-! ### Check, Wide -/

end Go.Am

namespace Go.Am
open Go.RowKit

/-! ### Numbers: bit by bit -/

theorem bv_ofInt {w n : Nat} (h : n < 2 ^ w) : BitVec.ofInt w (n : Int) = BitVec.ofNat w n := by
  apply BitVec.eq_of_toNat_eq
  rw [BitVec.toNat_ofInt, BitVec.toNat_ofNat]
  omega

theorem wrap_nat {K : IntKind} (hs : K.signed = false) {n : Nat} (h : n < 2 ^ K.bits) : K.wrap (n : Int) = n := by
  have h1 : (n : Int) % 2 ^ K.bits = n := by
    rw [Int.emod_eq_of_lt (by omega)]
    exact_mod_cast h
  unfold IntKind.wrap
  simp [hs, h1]

theorem xorK {K : IntKind} (hs : K.signed = false) {a b : Nat} (ha : a < 2 ^ K.bits) (hb : b < 2 ^ K.bits) : K.wrap (BitVec.ofInt K.bits (a : Int) ^^^ BitVec.ofInt K.bits (b : Int)).toNat = ((a ^^^ b : Nat) : Int) := by
  rw [bv_ofInt ha, bv_ofInt hb, BitVec.toNat_xor, BitVec.toNat_ofNat, BitVec.toNat_ofNat, Nat.mod_eq_of_lt ha, Nat.mod_eq_of_lt hb]
  exact wrap_nat hs (Nat.xor_lt_two_pow ha hb)
theorem andK {K : IntKind} (hs : K.signed = false) {a b : Nat} (ha : a < 2 ^ K.bits) (hb : b < 2 ^ K.bits) : K.wrap (BitVec.ofInt K.bits (a : Int) &&& BitVec.ofInt K.bits (b : Int)).toNat = ((a &&& b : Nat) : Int) := by
  rw [bv_ofInt ha, bv_ofInt hb, BitVec.toNat_and, BitVec.toNat_ofNat, BitVec.toNat_ofNat, Nat.mod_eq_of_lt ha, Nat.mod_eq_of_lt hb]
  exact wrap_nat hs (Nat.and_lt_two_pow _ hb)
theorem orK {K : IntKind} (hs : K.signed = false) {a b : Nat} (ha : a < 2 ^ K.bits) (hb : b < 2 ^ K.bits) : K.wrap (BitVec.ofInt K.bits (a : Int) ||| BitVec.ofInt K.bits (b : Int)).toNat = ((a ||| b : Nat) : Int) := by
  rw [bv_ofInt ha, bv_ofInt hb, BitVec.toNat_or, BitVec.toNat_ofNat, BitVec.toNat_ofNat, Nat.mod_eq_of_lt ha, Nat.mod_eq_of_lt hb]
  exact wrap_nat hs (Nat.or_lt_two_pow ha hb)

theorem shrK {K : IntKind} {n k : Nat} (hk : k ≤ K.bits) : shiftA false K (n : Int) (k : Int) = some (.int K ((n / 2 ^ k : Nat) : Int)) := by
  have h3 : ¬ ((k : Int) < 0) := by omega
  have h5 : min k K.bits = k := by omega
  have h6 : (n : Int).fdiv (2 ^ k) = ((n / 2 ^ k : Nat) : Int) := by
    rw [Int.fdiv_eq_ediv_of_nonneg _ (Int.pow_nonneg (by decide))]
    simp [Int.natCast_ediv, Int.natCast_pow]
  simp only [shiftA, if_neg h3, Bool.false_eq_true, if_false, Int.toNat_natCast, h5, h6]

theorem shlK {K : IntKind} (hs : K.signed = false) {c s : Nat} (h : s ≤ K.bits) (h2 : c * 2 ^ s < 2 ^ K.bits) : shiftA true K (c : Int) (s : Int) = some (.int K ((c * 2 ^ s : Nat) : Int)) := by
  have h3 : ¬ ((s : Int) < 0) := by omega
  have h5 : min s K.bits = s := by omega
  have h6 : (c : Int) * 2 ^ s = ((c * 2 ^ s : Nat) : Int) := by simp
  simp only [shiftA, if_neg h3, if_true, Int.toNat_natCast, h5, h6]
  rw [wrap_nat hs h2]

end Go.Am

namespace Go.Am
open Go.RowKit

/-! ### CRC-32 (plain) -/

def crcS (c : Nat) : Nat := (c / 2) ^^^ (if c % 2 = 1 then 3988292384 else 0)
def crcN : Nat → Nat → Nat
  | 0, c => c
  | k + 1, c => crcN k (crcS c)

theorem crcS_lt {c : Nat} (h : c < 4294967296) : crcS c < 4294967296 := by
  unfold crcS
  have : (if c % 2 = 1 then 3988292384 else 0) < 2 ^ 32 := by split <;> decide
  exact Nat.xor_lt_two_pow (n := 32) (by omega) this
theorem crcN_lt : ∀ (k : Nat) {c : Nat}, c < 4294967296 → crcN k c < 4294967296
  | 0, _, h => h
  | k + 1, _, h => crcN_lt k (crcS_lt h)
theorem crcN_succ : ∀ (k c : Nat), crcN (k + 1) c = crcS (crcN k c)
  | 0, _ => rfl
  | k + 1, c => by rw [crcN, crcN_succ k, crcN]

theorem crcS_xor (x h : Nat) : crcS (x ^^^ 2 * h) = crcS x ^^^ h := by
  have e1 : (x ^^^ 2 * h) % 2 = x % 2 := by
    have := Nat.xor_mod_two_pow (a := x) (b := 2 * h) (n := 1)
    simpa using this
  have e2 : (x ^^^ 2 * h) / 2 = x / 2 ^^^ h := by rw [Nat.xor_div_two, Nat.mul_div_cancel_left _ (by omega)]
  unfold crcS
  rw [e1, e2, Nat.xor_assoc, Nat.xor_assoc, Nat.xor_comm h]

theorem crcN_xor : ∀ (k x h : Nat), crcN k (x ^^^ 2 ^ k * h) = crcN k x ^^^ h
  | 0, x, h => by simp [crcN]
  | k + 1, x, h => by
    rw [crcN, Nat.pow_succ, Nat.mul_comm (2 ^ k) 2, Nat.mul_assoc, crcS_xor, crcN_xor k, crcN]

theorem xor_split (b k : Nat) : b = b % 2 ^ k ^^^ 2 ^ k * (b / 2 ^ k) := by
  apply Nat.eq_of_testBit_eq
  intro i
  rw [Nat.testBit_xor, Nat.testBit_mod_two_pow, Nat.testBit_two_pow_mul, Nat.testBit_div_two_pow]
  by_cases h : i < k
  · have : ¬ k ≤ i := by omega
    simp [h, this]
  · have h' : k ≤ i := by omega
    simp [h, h', show i - k + k = i by omega]

def crcB (s b : Nat) : Nat := crcN 8 (s ^^^ b)
theorem crcB_split (s b : Nat) : crcB s b = s / 256 ^^^ crcN 8 (s % 256 ^^^ b) := by
  have h : s ^^^ b = (s % 256 ^^^ b) ^^^ 2 ^ 8 * (s / 256) := by
    have := xor_split s 8
    rw [show (2 : Nat) ^ 8 = 256 from rfl] at this ⊢
    rw [Nat.xor_assoc, Nat.xor_comm b, ← Nat.xor_assoc, ← this]
  rw [crcB, h, crcN_xor, Nat.xor_comm]
theorem crcB_lt {s b : Nat} (hs : s < 4294967296) (hb : b < 256) : crcB s b < 4294967296 := crcN_lt 8 (Nat.xor_lt_two_pow (n := 32) (by omega) (by omega))

def crcL (s : Nat) (l : List UInt8) : Nat := l.foldl (fun s b => crcB s b.toNat) s
theorem crcL_succ {s : Nat} {l : List UInt8} {k : Nat} (h : k < l.length) : crcL s (l.take (k + 1)) = crcB (crcL s (l.take k)) (l[k]).toNat := by
  rw [List.take_succ_eq_append_getElem h, crcL, List.foldl_append]; rfl
theorem crcL_lt : ∀ {l : List UInt8} {s : Nat}, s < 4294967296 → crcL s l < 4294967296
  | [], _, h => h
  | b :: l, s, h => crcL_lt (l := l) (crcB_lt h (UInt8.toNat_lt b))

end Go.Am

namespace Go.Am
open Go.RowKit

/-! ### CRC-32 -/

def tabL (i : Nat) : List Int := (List.range 256).map fun j => if j < i then ((crcN 8 j : Nat) : Int) else 0
theorem tabL_length (i : Nat) : (tabL i).length = 256 := by simp [tabL]
theorem tabL_get {i j : Nat} (h : j < 256) : (tabL i)[j]'(by rw [tabL_length]; exact h) = if j < i then ((crcN 8 j : Nat) : Int) else 0 := by simp [tabL]
theorem tabL_set {i : Nat} (h : i < 256) : (tabL i).set i ((crcN 8 i : Nat) : Int) = tabL (i + 1) := by
  refine List.ext_getElem (by simp [tabL_length]) fun j h1 h2 => ?_
  have hj : j < 256 := by simpa [tabL_length] using h2
  rw [List.getElem_set, tabL_get hj]
  split
  · rename_i e; subst e; rw [tabL_get hj, if_pos (by omega)]
  · rename_i e; rw [tabL_get hj]
    by_cases h3 : j < i
    · rw [if_pos h3, if_pos (by omega)]
    · rw [if_neg h3, if_neg (by omega)]

def S_table (P : Prg) (f : Nat) : Prop := VC P f [] (.cell (ks .u32 (tabL 256)))
theorem u8_drop_cons {l : List UInt8} {k : Nat} (h : k < l.length) : (u8 l).drop k = .int .u8 (l[k]).toNat :: u8 (l.drop (k + 1)) := by
  rw [u8_drop, List.drop_eq_getElem_cons h]; rfl

set_option maxRecDepth 40000 in
theorem crc32_table {P : Prg} {f t0 : Nat} (bd : Body P f 24 [.tmp 0] (ac_crc32_table t0)) : S_table P f := by
  refine VC.of_walk 1 rfl (by simp [isD, isTL_D (isTL_ks _ _)]) (ACall.of_body bd (by simp) ?_)
  unfold ac_crc32_table
  have z0 : ([.int .u32 0, .int .u32 0] : List AV) = [.int .u32 0, .int .u32 0] := rfl
  simp (maxSteps := 4000000) (disch := omega) only [abv, step, stepv, ev, wl, wn, wp, wz, aop, cV, cV1, AV.one, partCells, okW, onlyFr, app, sliceCells, cellsAt, srcA, subA, eqFs, Int.cast_ofNat_Int, simprocAttr]
  refine ALoop.by (ι := Nat) (fun i => ⟨[(5, .int .i64 i), (1, .ref 0 1 0)], [⟨t0, 256, 1, ks .u32 (tabL i), 0⟩]⟩) (fun i => i ≤ 256) (fun i => 256 - i) 0 (Le.slots (by simp [Am.look])) (by omega) ?_
  intro i hi
  by_cases hlt : i < 256
  · simp (maxSteps := 4000000) (disch := omega) only [abv, step, stepv, ev, wl, wn, wp, wz, aop, cV, cV1, AV.one, partCells, okW, onlyFr, app, sliceCells, cellsAt, srcA, subA, eqFs, Int.cast_ofNat_Int, simprocAttr]
    refine ALoop.by (ι := Nat) (fun j => ⟨[(10, .int .i64 j), (3, .int .u32 (crcN j i)), (5, .int .i64 i), (2, .int .i64 i), (1, .ref 0 1 0)], [⟨t0, 256, 1, ks .u32 (tabL i), 0⟩]⟩) (fun j => j ≤ 8) (fun j => 8 - j) 0 (Le.slots (by simp [Am.look, crcN])) (by omega) ?_
    intro j hj
    by_cases hjl : j < 8
    · have hc := crcN_lt j (c := i) (by omega)
      have hn := crcN_succ j i
      generalize crcN j i = c at *
      have a1 : IntKind.u32.wrap (BitVec.ofInt IntKind.u32.bits (c : Int) &&& BitVec.ofInt IntKind.u32.bits 1).toNat = ((c % 2 : Nat) : Int) := by
        have h := andK (K := .u32) rfl (a := c) (b := 1) (by exact hc) (by decide)
        rw [Nat.and_one_is_mod] at h
        exact h
      have a2 : shiftA false .u32 (c : Int) 1 = some (.int .u32 ((c / 2 : Nat) : Int)) := shrK (K := .u32) (n := c) (k := 1) (by decide)
      rcases Nat.mod_two_eq_zero_or_one c with h2 | h2
      · have a3 : IntKind.u32.wrap (BitVec.ofInt IntKind.u32.bits ((c / 2 : Nat) : Int) ^^^ BitVec.ofInt IntKind.u32.bits 0).toNat = ((crcN (j + 1) i : Nat) : Int) := by
          rw [hn, crcS, h2, if_neg (by decide)]
          exact xorK (K := .u32) rfl (a := c / 2) (b := 0) (by show c / 2 < 4294967296; omega) (by decide)
        have a1' : IntKind.u32.wrap (BitVec.ofInt IntKind.u32.bits (c : Int) &&& BitVec.ofInt IntKind.u32.bits 1).toNat = 0 := by rw [a1, h2]; rfl
        simp (maxSteps := 4000000) (disch := omega) only [abv, step, stepv, ev, wl, wn, wp, wz, aop, cV, cV1, AV.one, partCells, okW, onlyFr, app, sliceCells, cellsAt, srcA, subA, eqFs, Int.cast_ofNat_Int, simprocAttr, a1', a2, a3]
        exact ⟨j + 1, by omega, by omega, Le.slots (by simp [Am.look])⟩
      · have a3 : IntKind.u32.wrap (BitVec.ofInt IntKind.u32.bits ((c / 2 : Nat) : Int) ^^^ BitVec.ofInt IntKind.u32.bits 3988292384).toNat = ((crcN (j + 1) i : Nat) : Int) := by
          rw [hn, crcS, h2, if_pos rfl]
          exact xorK (K := .u32) rfl (a := c / 2) (b := 3988292384) (by show c / 2 < 4294967296; omega) (by decide)
        have a1' : IntKind.u32.wrap (BitVec.ofInt IntKind.u32.bits (c : Int) &&& BitVec.ofInt IntKind.u32.bits 1).toNat = 1 := by rw [a1, h2]; rfl
        simp (maxSteps := 4000000) (disch := omega) only [abv, step, stepv, ev, wl, wn, wp, wz, aop, cV, cV1, AV.one, partCells, okW, onlyFr, app, sliceCells, cellsAt, srcA, subA, eqFs, Int.cast_ofNat_Int, simprocAttr, a1', a2, a3]
        exact ⟨j + 1, by omega, by omega, Le.slots (by simp [Am.look])⟩
    · obtain rfl : j = 8 := by omega
      have e1 := tabL_length i
      have e2 := ks_length .u32 (tabL i)
      have e3 : (ks .u32 (tabL i)).take i ++ [.int .u32 (crcN 8 i)] ++ (ks .u32 (tabL i)).drop (i + 1) = ks .u32 (tabL (i + 1)) := by
        rw [← tabL_set hlt, List.set_eq_take_append_cons_drop, if_pos (by rw [tabL_length]; exact hlt)]; simp [ks, List.map_take, List.map_drop]
      simp (maxSteps := 4000000) (disch := omega) only [abv, step, stepv, ev, wl, wn, wp, wz, aop, cV, cV1, AV.one, partCells, okW, onlyFr, app, sliceCells, cellsAt, srcA, subA, eqFs, Int.cast_ofNat_Int, simprocAttr, e1, e2, e3]
      exact ⟨i + 1, by omega, by omega, Le.slots (by simp [Am.look])⟩
  · obtain rfl : i = 256 := by omega
    simp (maxSteps := 4000000) (disch := omega) only [abv, step, stepv, ev, wl, wn, wp, wz, aop, cV, cV1, AV.one, partCells, okW, onlyFr, app, sliceCells, cellsAt, srcA, subA, eqFs, Int.cast_ofNat_Int, simprocAttr]
    simp [frzN, frzK, frzL, frzV, frzL_T _ (isTL_ks _ _)]

def S_CNext (P : Prg) (f : Nat) : Prop := ∀ (s : Nat) (l : List UInt8), s < 4294967296 → VC P f [.int .u32 s, bs l] (if 100000 < l.length then .tup [.int .u32 0, .int .i64 4] else .tup [.int .u32 (crcL s l), .int .i64 0])
set_option maxRecDepth 40000 in
theorem crc32_Next {P : Prg} {f fT : Nat} (bd : Body P f 32 [.tmp 4, .tmp 5] (ac_crc32_Next fT)) (hT : S_table P fT) : S_CNext P f := by
  intro s l hs
  refine VC.of_acall (by simp [isDL, isD, isD_bs]) (by split <;> rfl) (ACall.of_body bd (by simp) ?_)
  by_cases hl : 100000 < l.length
  · rw [if_pos hl]
    simp (maxSteps := 4000000) (disch := omega) only [abv, step, stepv, ev, wl, wn, wp, wz, aop, cV, cV1, AV.one, partCells, okW, onlyFr, app, sliceCells, cellsAt, srcA, subA, eqFs, Int.cast_ofNat_Int, simprocAttr, ac_crc32_Next, bs]
  · rw [if_neg hl]
    have hT' := hT
    have t0 := ks_length .u32 (tabL 256)
    rw [tabL_length] at t0
    simp (maxSteps := 4000000) (disch := omega) only [abv, step, stepv, ev, wl, wn, wp, wz, aop, cV, cV1, AV.one, partCells, okW, onlyFr, app, sliceCells, cellsAt, srcA, subA, eqFs, Int.cast_ofNat_Int, simprocAttr, ac_crc32_Next, bs]
    refine callQ.vc hT' ?_
    simp (maxSteps := 4000000) (disch := omega) only [abv, step, stepv, ev, wl, wn, wp, wz, aop, cV, cV1, AV.one, partCells, okW, onlyFr, app, sliceCells, cellsAt, srcA, subA, eqFs, Int.cast_ofNat_Int, simprocAttr]
    refine ALoop.by (ι := Nat) (fun k => ⟨[(15, .int .i64 k), (14, .int .i64 l.length), (13, .list l.length (u8 l)), (6, .cell (ks .u32 (tabL 256))), (0, .int .u32 (crcL s (l.take k)))], []⟩) (fun k => k ≤ l.length) (fun k => l.length - k) 0 (Le.slots (by simp [Am.look, crcL])) (by omega) ?_
    intro k hk
    have hc := crcL_lt (l := l.take k) hs
    by_cases hlt : k < l.length
    · have e1 := u8_drop_cons hlt
      have hn := crcL_succ (s := s) hlt
      generalize crcL s (l.take k) = c at *
      rw [crcB_split] at hn
      have hb := (l[k]).toNat_lt
      have h0 : (c % 256 ^^^ (l[k]).toNat) < 256 := Nat.xor_lt_two_pow (n := 8) (Nat.mod_lt _ (by decide)) hb
      have h1 := crcN_lt 8 (c := c % 256 ^^^ (l[k]).toNat) (by omega)
      have a1 : shiftA false .u32 (c : Int) 8 = some (.int .u32 ((c / 256 : Nat) : Int)) := shrK (K := .u32) (n := c) (k := 8) (by decide)
      have a2 : IntKind.u8.wrap (c : Int) = ((c % 256 : Nat) : Int) := by rw [wrap_u8_mod]; omega
      have a3 : IntKind.u8.wrap (BitVec.ofInt IntKind.u8.bits ((c % 256 : Nat) : Int) ^^^ BitVec.ofInt IntKind.u8.bits ((l[k]).toNat : Int)).toNat = ((c % 256 ^^^ (l[k]).toNat : Nat) : Int) :=
        xorK (K := .u8) rfl (a := c % 256) (b := (l[k]).toNat) (Nat.mod_lt _ (by decide)) hb
      have a4 : IntKind.u32.wrap (BitVec.ofInt IntKind.u32.bits ((c / 256 : Nat) : Int) ^^^ BitVec.ofInt IntKind.u32.bits ((crcN 8 (c % 256 ^^^ (l[k]).toNat) : Nat) : Int)).toNat = ((crcL s (l.take (k + 1)) : Nat) : Int) := by
        rw [hn]; exact xorK (K := .u32) rfl (by show c / 256 < 4294967296; omega) h1
      generalize c % 256 ^^^ (l[k]).toNat = x at *
      have e2 : (ks .u32 (tabL 256)).drop x = .int .u32 ((crcN 8 x : Nat) : Int) :: ks .u32 ((tabL 256).drop (x + 1)) := by
        rw [ks_drop, List.drop_eq_getElem_cons (by rw [tabL_length]; exact h0), ks_cons, tabL_get h0, if_pos h0]
      simp (maxSteps := 4000000) (disch := omega) only [abv, step, stepv, ev, wl, wn, wp, wz, aop, cV, cV1, AV.one, partCells, okW, onlyFr, app, sliceCells, cellsAt, srcA, subA, eqFs, Int.cast_ofNat_Int, simprocAttr, e1, a1, a2, a3, a4, e2, t0]
      exact ⟨k + 1, by omega, by omega, Le.slots (by simp [Am.look])⟩
    · have ek : k = l.length := by omega
      subst ek
      rw [List.take_length]
      simp (maxSteps := 4000000) (disch := omega) only [abv, step, stepv, ev, wl, wn, wp, wz, aop, cV, cV1, AV.one, partCells, okW, onlyFr, app, sliceCells, cellsAt, srcA, subA, eqFs, Int.cast_ofNat_Int, simprocAttr]

def S_CSum (P : Prg) (f : Nat) : Prop := ∀ (l : List UInt8), VC P f [bs l] (if 100000 < l.length then .tup [.int .u32 0, .int .i64 4] else .tup [.int .u32 ((4294967295 - crcL 4294967295 l : Nat) : Int), .int .i64 0])

theorem xor_max {c : Nat} (h : c < 4294967296) : 4294967295 ^^^ c = 4294967295 - c := by
  have h1 : BitVec.allOnes 32 ^^^ BitVec.ofNat 32 c = ~~~ BitVec.ofNat 32 c := by
    apply BitVec.eq_of_getElem_eq
    intro i hi
    rw [BitVec.getElem_xor, BitVec.getElem_allOnes, BitVec.getElem_not, Bool.true_xor]
  have h2 := congrArg BitVec.toNat h1
  rw [BitVec.toNat_xor, BitVec.toNat_not, BitVec.toNat_allOnes, BitVec.toNat_ofNat, Nat.mod_eq_of_lt h] at h2
  exact h2

theorem crc32_Sum {P : Prg} {f fN : Nat} (bd : Body P f 16 [.tmp 2, .tmp 3] (ac_crc32_Sum fN)) (hN : S_CNext P fN) : S_CSum P f := by
  intro l
  refine VC.of_acall (by simp [isDL, isD, isD_bs]) (by split <;> rfl) (ACall.of_body bd (by simp) ?_)
  have hN' := hN 4294967295 l (by decide)
  have hc := crcL_lt (l := l) (s := 4294967295) (by decide)
  generalize crcL 4294967295 l = c at *
  simp only [bs] at hN'
  by_cases hl : 100000 < l.length
  · rw [if_pos hl] at hN' ⊢
    simp (maxSteps := 4000000) (disch := omega) only [abv, step, stepv, ev, wl, wn, wp, wz, aop, cV, cV1, AV.one, partCells, okW, onlyFr, app, sliceCells, cellsAt, srcA, subA, eqFs, Int.cast_ofNat_Int, simprocAttr, ac_crc32_Sum, bs]
    refine callQ.vc hN' ?_
    simp (maxSteps := 4000000) (disch := omega) only [abv, step, stepv, ev, wl, wn, wp, wz, aop, cV, cV1, AV.one, partCells, okW, onlyFr, app, sliceCells, cellsAt, srcA, subA, eqFs, Int.cast_ofNat_Int, simprocAttr]
  · rw [if_neg hl] at hN' ⊢
    have a1 : IntKind.u32.wrap (BitVec.ofInt IntKind.u32.bits IntKind.u32.max ^^^ BitVec.ofInt IntKind.u32.bits (c : Int)).toNat = ((4294967295 - c : Nat) : Int) := by
      rw [← xor_max hc]
      exact xorK (K := .u32) rfl (a := 4294967295) (b := c) (by decide) hc
    have a2 : IntKind.u32.signed = false := rfl
    simp (maxSteps := 4000000) (disch := omega) only [abv, step, stepv, ev, wl, wn, wp, wz, aop, cV, cV1, AV.one, partCells, okW, onlyFr, app, sliceCells, cellsAt, srcA, subA, eqFs, Int.cast_ofNat_Int, simprocAttr, ac_crc32_Sum, bs]
    refine callQ.vc hN' ?_
    simp (maxSteps := 4000000) (disch := omega) only [abv, step, stepv, ev, wl, wn, wp, wz, aop, cV, cV1, AV.one, partCells, okW, onlyFr, app, sliceCells, cellsAt, srcA, subA, eqFs, Int.cast_ofNat_Int, simprocAttr, a1, a2]

/-! ### Its reference -/

end Go.Am

namespace Go.Am
open Go.RowKit

/-! ### Bits as a number: N bits, whose number is V; their bytes are leB V (nB N) -/

def nB (N : Nat) : Nat := (N + 7) / 8

theorem leB_snoc (V i : Nat) : leB V (i + 1) = leB V i ++ [UInt8.ofNat (V / 256 ^ i % 256)] := by
  have h1 : (leB V (i + 1)).take (i + 1) = (leB V (i + 1)).take i ++ [UInt8.ofNat (V / 256 ^ i % 256)] := leB_take_succ (by omega)
  have h2 : ∀ k j n : Nat, k ≤ j → (leB n j).take k = leB n k := by
    intro k
    induction k with
    | zero => intro j n _; simp [leB]
    | succ k ih =>
      intro j n h
      obtain ⟨j, rfl⟩ : ∃ j', j = j' + 1 := ⟨j - 1, by omega⟩
      simp [leB, ih j (n / 256) (by omega)]
  rw [h2 (i + 1) (i + 1) V (by omega), h2 i (i + 1) V (by omega)] at h1
  exact h1

theorem leB_mod : ∀ (i V u : Nat), leB (V + 256 ^ i * u) i = leB V i
  | 0, _, _ => rfl
  | i + 1, V, u => by
    have e : 256 ^ (i + 1) * u = 256 * (256 ^ i * u) := by rw [Nat.pow_succ, Nat.mul_comm (256 ^ i) 256, Nat.mul_assoc]
    have e1 : (V + 256 ^ (i + 1) * u) % 256 = V % 256 := by rw [e]; omega
    have e2 : (V + 256 ^ (i + 1) * u) / 256 = V / 256 + 256 ^ i * u := by rw [e]; omega
    simp only [leB, e1, e2, leB_mod i]

theorem pow256 (i : Nat) : (256 : Nat) ^ i = 2 ^ (8 * i) := by rw [Nat.pow_mul]

theorem bits_last {V i at_ : Nat} (h : V < 2 ^ (8 * i + at_)) (ha : at_ ≤ 8) : leB V (i + 1) = leB V i ++ [UInt8.ofNat (V / 256 ^ i)] ∧ V / 256 ^ i < 2 ^ at_ := by
  have h1 : V / 256 ^ i < 2 ^ at_ := Nat.div_lt_of_lt_mul (by rw [pow256, ← Nat.pow_add]; exact h)
  have h2 : 2 ^ at_ ≤ 2 ^ 8 := Nat.pow_le_pow_right (by omega) ha
  exact ⟨by rw [leB_snoc, Nat.mod_eq_of_lt (by omega)], h1⟩

theorem bits_put_plain {V i at_ w r : Nat} (h : V < 2 ^ (8 * i + at_)) (hw : w < 2 ^ r) (hr : at_ + r ≤ 8) :
    leB (V + 2 ^ (8 * i + at_) * w) (i + 1) = leB V i ++ [UInt8.ofNat (V / 256 ^ i + 2 ^ at_ * w)] ∧ V / 256 ^ i + 2 ^ at_ * w < 2 ^ (at_ + r) ∧ V + 2 ^ (8 * i + at_) * w < 2 ^ (8 * i + (at_ + r)) := by
  obtain ⟨_, h1⟩ := bits_last h (by omega)
  have e : 2 ^ (8 * i + at_) * w = 256 ^ i * (2 ^ at_ * w) := by rw [pow256, Nat.pow_add, Nat.mul_assoc]
  have h2 : V / 256 ^ i + 2 ^ at_ * w < 2 ^ (at_ + r) := by
    have : 2 ^ at_ * (w + 1) ≤ 2 ^ at_ * 2 ^ r := Nat.mul_le_mul_left _ hw
    rw [Nat.pow_add]; rw [Nat.mul_add, Nat.mul_one] at this; omega
  have h3 : V + 2 ^ (8 * i + at_) * w < 2 ^ (8 * i + (at_ + r)) := by
    have : 2 ^ (8 * i + at_) * (w + 1) ≤ 2 ^ (8 * i + at_) * 2 ^ r := Nat.mul_le_mul_left _ hw
    rw [← Nat.add_assoc, Nat.pow_add 2 (8 * i + at_)]; rw [Nat.mul_add, Nat.mul_one] at this; omega
  refine ⟨?_, h2, h3⟩
  have h4 := (bits_last (V := V + 2 ^ (8 * i + at_) * w) (i := i) (at_ := at_ + r) h3 hr).1
  rw [h4, e, leB_mod, Nat.add_mul_div_left _ _ (Nat.pow_pos (by omega))]

theorem bit_at (V q r : Nat) (hr : r < 8) : V / 256 ^ q % 256 / 2 ^ r % 2 = V / 2 ^ (8 * q + r) % 2 := by
  rw [pow256, show (256 : Nat) = 2 ^ r * 2 ^ (8 - r) by rw [← Nat.pow_add, show r + (8 - r) = 8 by omega], Nat.mod_mul_right_div_self, Nat.div_div_eq_div_mul, ← Nat.pow_add]
  rw [Nat.mod_mod_of_dvd]
  exact ⟨2 ^ (8 - r - 1), by rw [← Nat.pow_succ']; congr 1; omega⟩

end Go.Am

namespace Go.Am
open Go.RowKit

/-! ### Bits: Check, get, Get -/

def bA (N V : Nat) : AV := .agg [.list (nB N) (u8 (leB V (nB N))), .int .i64 N]
theorem isD_bA (N V : Nat) : isD (bA N V) = true := by simp [bA, isD, isDL, isDL_u8]

theorem and7_i64 {n : Nat} (h : n < 9223372036854775808) : IntKind.i64.wrap (BitVec.ofInt IntKind.i64.bits (n : Int) &&& BitVec.ofInt IntKind.i64.bits 7).toNat = ((n % 8 : Nat) : Int) := by
  have e1 : (BitVec.ofInt 64 (n : Int)).toNat = n := by
    rw [BitVec.toNat_ofInt]
    show ((n : Int) % 18446744073709551616).toNat = n
    omega
  have e2 : (BitVec.ofInt 64 7).toNat = 7 := by decide
  have : (BitVec.ofInt 64 (n : Int) &&& BitVec.ofInt 64 7).toNat = n % 8 := by
    rw [BitVec.toNat_and, e1, e2]
    exact Nat.and_two_pow_sub_one_eq_mod n 3
  show IntKind.i64.wrap ((BitVec.ofInt 64 (n : Int) &&& BitVec.ofInt 64 7).toNat : Int) = _
  rw [this, wrap_i64] <;> omega

theorem u8_at0 {l : List UInt8} {k : Nat} (h : k < l.length) : (u8 l).drop k = .int .u8 (l[k]).toNat :: u8 (l.drop (k + 1)) := by
  rw [u8_drop, List.drop_eq_getElem_cons h]; rfl

theorem leB_at {V k i : Nat} (h : i < k) : (u8 (leB V k)).drop i = .int .u8 ((V / 256 ^ i % 256 : Nat) : Int) :: u8 ((leB V k).drop (i + 1)) := by
  rw [u8_at0 (by rw [leB_length]; exact h)]
  have := leB_get k V i h
  rw [List.getElem?_eq_getElem (by rw [leB_length]; exact h)] at this
  rw [Option.some.inj this]
  have : (UInt8.ofNat (V / 256 ^ i % 256)).toNat = V / 256 ^ i % 256 := by simp
  rw [this]

def S_bCheck (P : Prg) (f : Nat) : Prop := ∀ N V : Nat, V < 2 ^ N → N ≤ 330000 → VC P f [bA N V] (.int .i64 0)
theorem bits_Check {P : Prg} {f t0 : Nat} (bd : Body P f 40 [.tmp 2] (ac_bits_Check t0)) : S_bCheck P f := by
  intro N V hV hN
  refine VC.of_acall (by simp [isDL, isD_bA]) rfl (ACall.of_body bd (by simp) ?_)
  have e1 : shiftA false .i64 ((N : Int) + 7) 3 = some (.int .i64 ((nB N : Nat) : Int)) := by
    rw [show (N : Int) + 7 = ((N + 7 : Nat) : Int) by omega]
    exact shrK (K := .i64) (n := N + 7) (k := 3) (by decide)
  have e2 := and7_i64 (n := N) (by omega)
  have e3 : (u8 (leB V (nB N))).length = nB N := by simp [u8, leB_length]
  by_cases h0 : N % 8 = 0
  · rw [h0] at e2
    have e2' : IntKind.i64.wrap (BitVec.ofInt IntKind.i64.bits (N : Int) &&& BitVec.ofInt IntKind.i64.bits 7).toNat = 0 := e2
    simp (maxSteps := 4000000) (disch := omega) only [abv, step, stepv, ev, wl, wn, wp, wz, aop, cV, cV1, AV.one, partCells, okW, onlyFr, app, sliceCells, cellsAt, srcA, subA, eqFs, Int.cast_ofNat_Int, simprocAttr, ac_bits_Check, bA, e1, e2', e3]
  · have hn : nB N = N / 8 + 1 := by unfold nB; omega
    have h8 : N = 8 * (N / 8) + N % 8 := by omega
    obtain ⟨l1, l2⟩ := bits_last (V := V) (i := N / 8) (at_ := N % 8) (by rw [← h8]; exact hV) (by omega)
    have e4 := leB_at (V := V) (k := nB N) (i := N / 8) (by omega)
    have h256 : V / 256 ^ (N / 8) % 256 = V / 256 ^ (N / 8) := Nat.mod_eq_of_lt (by
      have : 2 ^ (N % 8) ≤ 2 ^ 8 := Nat.pow_le_pow_right (by omega) (by omega)
      omega)
    rw [h256] at e4
    have e5 : shiftA false .u8 ((V / 256 ^ (N / 8) : Nat) : Int) ((N % 8 : Nat) : Int) = some (.int .u8 0) := by
      have := shrK (K := .u8) (n := V / 256 ^ (N / 8)) (k := N % 8) (by show N % 8 ≤ 8; omega)
      rw [this, Nat.div_eq_of_lt l2]; rfl
    have e6 : nB N - 1 = N / 8 := by omega
    have hq : ((N % 8 : Nat) : Int) = (N : Int) % 8 := by omega
    generalize V / 256 ^ (N / 8) = y at *
    obtain ⟨a, ha⟩ : ∃ a, a = N % 8 := ⟨_, rfl⟩
    rw [← ha] at e2 e5 hq
    simp (maxSteps := 4000000) (disch := omega) only [abv, step, stepv, ev, wl, wn, wp, wz, aop, cV, cV1, AV.one, partCells, okW, onlyFr, app, sliceCells, cellsAt, srcA, subA, eqFs, Int.cast_ofNat_Int, simprocAttr, ac_bits_Check, bA, e1, e2, e3, e4, e5, e6]

end Go.Am

namespace Go.Am
open Go.RowKit

/-! ### The state of the code with two levels -/

structure Dl where
  k0 : Nat
  k1 : Nat
  s0 : Nat
  s1 : Nat
def dlC (d : Dl) : List AV := [.int .i64 d.k0, .int .i64 d.k1, .int .u64 d.s0, .int .u64 d.s1]
def dlA (d : Dl) : AV := .agg (dlC d)
def okD (d : Dl) : Prop := d.k0 ≤ 24 ∧ d.k1 ≤ 24 ∧ d.s0 ≤ 68719476735 ∧ d.s1 ≤ 68719476735
def startM : Dl := ⟨10, 10, 16384, 16384⟩
def pairM (k s n : Nat) : Nat × Nat :=
  if 0 < k ∧ s + n - s / 16 < 2 ^ (k + 4) then (k - 1, s + n - s / 16) else if k < 24 ∧ 2 ^ (k + 5) < s + n - s / 16 then (k + 1, s + n - s / 16) else (k, s + n - s / 16)
def learnM (d : Dl) (v : Nat) : Dl :=
  if v < 2 ^ d.k0 then ⟨(pairM d.k0 d.s0 v).1, d.k1, (pairM d.k0 d.s0 v).2, d.s1⟩
  else ⟨(pairM d.k0 d.s0 v).1, (pairM d.k1 d.s1 (v - 2 ^ d.k0)).1, (pairM d.k0 d.s0 v).2, (pairM d.k1 d.s1 (v - 2 ^ d.k0)).2⟩

theorem pair_ok {k s n : Nat} (hk : k ≤ 24) (hs : s ≤ 68719476735) (hn : n < 4294967296) : (pairM k s n).1 ≤ 24 ∧ (pairM k s n).2 ≤ 68719476735 := by
  unfold pairM
  have ht : s + n - s / 16 ≤ 68719476735 := by omega
  generalize s + n - s / 16 = t at *
  split
  · exact ⟨by simp only; omega, ht⟩
  · split
    · rename_i h; exact ⟨by have := h.1; simp only; omega, ht⟩
    · exact ⟨hk, ht⟩
theorem learn_ok {d : Dl} {v : Nat} (h : okD d) (hv : v < 4294967296) : okD (learnM d v) := by
  obtain ⟨h1, h2, h3, h4⟩ := h
  have p0 := pair_ok h1 h3 hv
  have p1 := pair_ok (n := v - 2 ^ d.k0) h2 h4 (Nat.lt_of_le_of_lt (Nat.sub_le _ _) hv)
  unfold learnM
  split
  · exact ⟨p0.1, h2, p0.2, h4⟩
  · exact ⟨p0.1, p1.1, p0.2, p1.2⟩
theorem start_ok : okD startM := by unfold okD startM; decide
theorem isD_dlA (d : Dl) : isD (dlA d) = true := rfl

theorem p24 {k : Nat} (h : k ≤ 24) : 2 ^ k ≤ 16777216 ∧ 2 ^ (k + 4) = 16 * 2 ^ k ∧ 2 ^ (k + 5) = 32 * 2 ^ k := by
  have := Nat.pow_le_pow_right (n := 2) (by omega) h
  refine ⟨by simpa using this, ?_, ?_⟩ <;> rw [Nat.pow_add, Nat.mul_comm]

def S_Start (P : Prg) (f : Nat) : Prop := VC P f [] (dlA startM)
theorem dual_Start {P : Prg} {f t0 : Nat} (bd : Body P f 2 [.cell 0 t0] (ac_dual_Start t0)) (ht : aggO P t0 = some (some 4)) : S_Start P f := by
  refine VC.of_acall rfl rfl (ACall.of_body bd (by simp) ?_)
  simp (maxSteps := 4000000) (disch := omega) only [abv, step, stepv, ev, wl, wn, wp, wz, aop, cV, cV1, AV.one, partCells, okW, onlyFr, app, sliceCells, cellsAt, srcA, subA, eqFs, Int.cast_ofNat_Int, simprocAttr, ac_dual_Start, resA, ht, oneOf, dlA, dlC, startM]
  try rfl
def S_DCheck (P : Prg) (f : Nat) : Prop := ∀ d : Dl, okD d → VC P f [dlA d] (.int .i64 0)
theorem dual_Check {P : Prg} {f t0 : Nat} (bd : Body P f 26 [.tmp 2] (ac_dual_Check t0)) : S_DCheck P f := by
  intro d h
  obtain ⟨k0, k1, s0, s1⟩ := d
  obtain ⟨h1, h2, h3, h4⟩ := h
  simp only at h1 h2 h3 h4
  refine VC.of_acall rfl rfl (ACall.of_cut 1 bd (by simp) ?_)
  simp (maxSteps := 4000000) (disch := omega) only [abv, step, stepv, ev, wl, wn, wp, wz, aop, cV, cV1, AV.one, partCells, okW, onlyFr, app, sliceCells, cellsAt, srcA, subA, eqFs, Int.cast_ofNat_Int, simprocAttr, ac_dual_Check, dlA, dlC, cuts]
  refine ⟨⟨[(2, .int .i64 0), (1, .cell [.int .i64 k0, .int .i64 k1, .int .u64 s0, .int .u64 s1])], []⟩, Le.dropT [] (by simp) (by simp [Am.look, frzK, frzL, frzV]), ?_⟩
  simp (maxSteps := 4000000) (disch := omega) only [abv, step, stepv, ev, wl, wn, wp, wz, aop, cV, cV1, AV.one, partCells, okW, onlyFr, app, sliceCells, cellsAt, srcA, subA, eqFs, Int.cast_ofNat_Int, simprocAttr]

def S_Level (P : Prg) (f : Nat) : Prop := ∀ (d : Dl) (v : Nat), okD d → v < 4294967296 → VC P f [dlA d, .int .u32 v] (if v < 2 ^ d.k0 then .tup [.int .i64 0, .int .u32 v] else .tup [.int .i64 1, .int .u32 ((v - 2 ^ d.k0 : Nat) : Int)])
theorem dual_level {P : Prg} {f t0 : Nat} (bd : Body P f 17 [.tmp 4, .tmp 5] (ac_dual_level t0)) : S_Level P f := by
  intro d v h hv
  obtain ⟨k0, k1, s0, s1⟩ := d
  obtain ⟨h1, h2, h3, h4⟩ := h
  simp only at h1 h2 h3 h4
  refine VC.of_acall rfl (by simp only; split <;> rfl) (ACall.of_body bd (by simp) ?_)
  have e1 : shiftA false .u32 (v : Int) (k0 : Int) = some (.int .u32 ((v / 2 ^ k0 : Nat) : Int)) := shrK (K := .u32) (by show k0 ≤ 32; omega)
  obtain ⟨q1, _⟩ := p24 h1
  have e2 : shiftA true .u32 1 (k0 : Int) = some (.int .u32 ((2 ^ k0 : Nat) : Int)) := by
    have := shlK (K := .u32) rfl (c := 1) (s := k0) (by show k0 ≤ 32; omega) (by show 1 * 2 ^ k0 < 4294967296; omega)
    rw [Nat.one_mul] at this
    exact this
  simp only
  by_cases c : v < 2 ^ k0
  · rw [if_pos c]
    rw [Nat.div_eq_of_lt c] at e1
    have e1' : shiftA false .u32 (v : Int) (k0 : Int) = some (.int .u32 0) := e1
    simp (maxSteps := 4000000) (disch := omega) only [abv, step, stepv, ev, wl, wn, wp, wz, aop, cV, cV1, AV.one, partCells, okW, onlyFr, app, sliceCells, cellsAt, srcA, subA, eqFs, Int.cast_ofNat_Int, simprocAttr, ac_dual_level, dlA, dlC, e1']
  · rw [if_neg c]
    have hpos : 0 < v / 2 ^ k0 := Nat.div_pos (by omega) (Nat.pow_pos (by omega))
    have hle : v / 2 ^ k0 ≤ v := Nat.div_le_self _ _
    have e3 : ((v - 2 ^ k0 : Nat) : Int) = (v : Int) - ((2 ^ k0 : Nat) : Int) := by omega
    generalize v / 2 ^ k0 = w at *
    generalize 2 ^ k0 = p at *
    simp (maxSteps := 4000000) (disch := omega) only [abv, step, stepv, ev, wl, wn, wp, wz, aop, cV, cV1, AV.one, partCells, okW, onlyFr, app, sliceCells, cellsAt, srcA, subA, eqFs, Int.cast_ofNat_Int, simprocAttr, ac_dual_level, dlA, dlC, e1, e2, e3]

theorem learn_pair {P : Prg} {f : Nat} (bd : Body P f 58 [] ac_dual_learn_1) {ob : List Ob} {p : Nat} {t : Nat} {d : Dl} (hp : ob[p]? = some ⟨t, 4, 1, dlC d, 0⟩) (hd : okD d) {n : Nat} (hn : n < 4294967296) (b : Bool) {K : AV → List Ob → Prop}
    (hK : K (.tup []) (ob.set p ⟨t, 4, 1, dlC (if b then ⟨d.k0, (pairM d.k1 d.s1 n).1, d.s0, (pairM d.k1 d.s1 n).2⟩ else ⟨(pairM d.k0 d.s0 n).1, d.k1, (pairM d.k0 d.s0 n).2, d.s1⟩), 0⟩)) :
    ACall P f [.ref p 1 (if b then 1 else 0), .ref p 1 (if b then 3 else 2), .int .u32 n] ob K := by
  have hpl : p < ob.length := (List.getElem?_eq_some_iff.1 hp).1
  have g1 : ∀ x, (ob.set p x)[p]? = some x := fun x => by simp [hpl]
  have g2 : ∀ x y, (ob.set p x).set p y = ob.set p y := fun x y => List.set_set _
  have key : ∀ k s : Nat, k ≤ 24 → s ≤ 68719476735 → ∃ t p4 p5 : Nat, t ≤ 68719476735 ∧ IntKind.u64.wrap ((s : Int) + IntKind.u64.wrap ((n : Int) - ((s / 16 : Nat) : Int))) = (t : Int) ∧ shiftA false .u64 (s : Int) 4 = some (.int .u64 ((s / 16 : Nat) : Int)) ∧
      shiftA true .u64 16 (k : Int) = some (.int .u64 (p4 : Int)) ∧ shiftA true .u64 32 (k : Int) = some (.int .u64 (p5 : Int)) ∧
      shiftA true .u64 16 (k : Int) = some (.int .u64 (p4 : Int)) ∧ pairM k s n = if 0 < k ∧ t < p4 then (k - 1, t) else if k < 24 ∧ p5 < t then (k + 1, t) else (k, t) := by
    intro k s hk hs
    obtain ⟨q1, q2, q3⟩ := p24 hk
    refine ⟨s + n - s / 16, 2 ^ (k + 4), 2 ^ (k + 5), by omega, ?_, shrK (K := .u64) (k := 4) (by decide), ?_, ?_, ?_, rfl⟩
    · rw [wrap_u64_mod, wrap_u64_mod]; omega
    · rw [q2]; exact shlK (K := .u64) rfl (c := 16) (by show k ≤ 64; omega) (by show 16 * 2 ^ k < 18446744073709551616; omega)
    · rw [q3]; exact shlK (K := .u64) rfl (c := 32) (by show k ≤ 64; omega) (by show 32 * 2 ^ k < 18446744073709551616; omega)
    · rw [q2]; exact shlK (K := .u64) rfl (c := 16) (by show k ≤ 64; omega) (by show 16 * 2 ^ k < 18446744073709551616; omega)
  obtain ⟨k0, k1, s0, s1⟩ := d
  obtain ⟨h1, h2, h3, h4⟩ := hd
  simp only at h1 h2 h3 h4
  refine ACall.of_body bd (by simp) ?_
  simp only [dlC] at hp hK
  cases b with
  | false =>
    obtain ⟨u, p4, p5, hu, e1, e2, e3, e4, _, e5⟩ := key k0 s0 h1 h3
    simp only [e5, Bool.false_eq_true, if_false] at hK ⊢
    by_cases c1 : 0 < k0
    · by_cases c2 : u < p4
      · rw [if_pos ⟨c1, c2⟩] at hK
        have e6 : ((k0 - 1 : Nat) : Int) = (k0 : Int) - 1 := by omega
        simp only [e6] at hK
        simp (maxSteps := 4000000) (disch := omega) only [abv, step, stepv, ev, wl, wn, wp, wz, aop, cV, cV1, AV.one, partCells, okW, onlyFr, app, sliceCells, cellsAt, srcA, subA, eqFs, Int.cast_ofNat_Int, simprocAttr, ac_dual_learn_1, hp, g1, g2, e1, e2, e3, e4, e6]
        exact hK
      · rw [if_neg (fun h => c2 h.2)] at hK
        by_cases c3 : k0 < 24
        · by_cases c4 : p5 < u
          · rw [if_pos ⟨c3, c4⟩] at hK
            simp only [Int.natCast_add] at hK
            simp (maxSteps := 4000000) (disch := omega) only [abv, step, stepv, ev, wl, wn, wp, wz, aop, cV, cV1, AV.one, partCells, okW, onlyFr, app, sliceCells, cellsAt, srcA, subA, eqFs, Int.cast_ofNat_Int, simprocAttr, ac_dual_learn_1, hp, g1, g2, e1, e2, e3, e4]
            exact hK
          · rw [if_neg (fun h => c4 h.2)] at hK
            simp (maxSteps := 4000000) (disch := omega) only [abv, step, stepv, ev, wl, wn, wp, wz, aop, cV, cV1, AV.one, partCells, okW, onlyFr, app, sliceCells, cellsAt, srcA, subA, eqFs, Int.cast_ofNat_Int, simprocAttr, ac_dual_learn_1, hp, g1, g2, e1, e2, e3, e4]
            exact hK
        · rw [if_neg (fun h => c3 h.1)] at hK
          simp (maxSteps := 4000000) (disch := omega) only [abv, step, stepv, ev, wl, wn, wp, wz, aop, cV, cV1, AV.one, partCells, okW, onlyFr, app, sliceCells, cellsAt, srcA, subA, eqFs, Int.cast_ofNat_Int, simprocAttr, ac_dual_learn_1, hp, g1, g2, e1, e2, e3, e4]
          exact hK
    · rw [if_neg (fun h => c1 h.1)] at hK
      by_cases c4 : p5 < u
      · rw [if_pos ⟨by omega, c4⟩] at hK
        simp only [Int.natCast_add] at hK
        simp (maxSteps := 4000000) (disch := omega) only [abv, step, stepv, ev, wl, wn, wp, wz, aop, cV, cV1, AV.one, partCells, okW, onlyFr, app, sliceCells, cellsAt, srcA, subA, eqFs, Int.cast_ofNat_Int, simprocAttr, ac_dual_learn_1, hp, g1, g2, e1, e2, e3, e4]
        exact hK
      · rw [if_neg (fun h => c4 h.2)] at hK
        simp (maxSteps := 4000000) (disch := omega) only [abv, step, stepv, ev, wl, wn, wp, wz, aop, cV, cV1, AV.one, partCells, okW, onlyFr, app, sliceCells, cellsAt, srcA, subA, eqFs, Int.cast_ofNat_Int, simprocAttr, ac_dual_learn_1, hp, g1, g2, e1, e2, e3, e4]
        exact hK
  | true =>
    obtain ⟨u, p4, p5, hu, e1, e2, e3, e4, _, e5⟩ := key k1 s1 h2 h4
    simp only [e5, if_true] at hK ⊢
    by_cases c1 : 0 < k1
    · by_cases c2 : u < p4
      · rw [if_pos ⟨c1, c2⟩] at hK
        have e6 : ((k1 - 1 : Nat) : Int) = (k1 : Int) - 1 := by omega
        simp only [e6] at hK
        simp (maxSteps := 4000000) (disch := omega) only [abv, step, stepv, ev, wl, wn, wp, wz, aop, cV, cV1, AV.one, partCells, okW, onlyFr, app, sliceCells, cellsAt, srcA, subA, eqFs, Int.cast_ofNat_Int, simprocAttr, ac_dual_learn_1, hp, g1, g2, e1, e2, e3, e4, e6]
        exact hK
      · rw [if_neg (fun h => c2 h.2)] at hK
        by_cases c3 : k1 < 24
        · by_cases c4 : p5 < u
          · rw [if_pos ⟨c3, c4⟩] at hK
            simp only [Int.natCast_add] at hK
            simp (maxSteps := 4000000) (disch := omega) only [abv, step, stepv, ev, wl, wn, wp, wz, aop, cV, cV1, AV.one, partCells, okW, onlyFr, app, sliceCells, cellsAt, srcA, subA, eqFs, Int.cast_ofNat_Int, simprocAttr, ac_dual_learn_1, hp, g1, g2, e1, e2, e3, e4]
            exact hK
          · rw [if_neg (fun h => c4 h.2)] at hK
            simp (maxSteps := 4000000) (disch := omega) only [abv, step, stepv, ev, wl, wn, wp, wz, aop, cV, cV1, AV.one, partCells, okW, onlyFr, app, sliceCells, cellsAt, srcA, subA, eqFs, Int.cast_ofNat_Int, simprocAttr, ac_dual_learn_1, hp, g1, g2, e1, e2, e3, e4]
            exact hK
        · rw [if_neg (fun h => c3 h.1)] at hK
          simp (maxSteps := 4000000) (disch := omega) only [abv, step, stepv, ev, wl, wn, wp, wz, aop, cV, cV1, AV.one, partCells, okW, onlyFr, app, sliceCells, cellsAt, srcA, subA, eqFs, Int.cast_ofNat_Int, simprocAttr, ac_dual_learn_1, hp, g1, g2, e1, e2, e3, e4]
          exact hK
    · rw [if_neg (fun h => c1 h.1)] at hK
      by_cases c4 : p5 < u
      · rw [if_pos ⟨by omega, c4⟩] at hK
        simp only [Int.natCast_add] at hK
        simp (maxSteps := 4000000) (disch := omega) only [abv, step, stepv, ev, wl, wn, wp, wz, aop, cV, cV1, AV.one, partCells, okW, onlyFr, app, sliceCells, cellsAt, srcA, subA, eqFs, Int.cast_ofNat_Int, simprocAttr, ac_dual_learn_1, hp, g1, g2, e1, e2, e3, e4]
        exact hK
      · rw [if_neg (fun h => c4 h.2)] at hK
        simp (maxSteps := 4000000) (disch := omega) only [abv, step, stepv, ev, wl, wn, wp, wz, aop, cV, cV1, AV.one, partCells, okW, onlyFr, app, sliceCells, cellsAt, srcA, subA, eqFs, Int.cast_ofNat_Int, simprocAttr, ac_dual_learn_1, hp, g1, g2, e1, e2, e3, e4]
        exact hK

end Go.Am

namespace Go.Am
open Go.RowKit

/-! ### Bits are put behind bits -/

def bO (t o N : Nat) : Ob := ⟨t, 2, 1, [.own o (nB N), .int .i64 N], 0⟩
def bY (t N V : Nat) : Ob := ⟨t, 1, nB N, u8 (leB V (nB N)), 0⟩

theorem isDL_leB (V n : Nat) : isDL (u8 (leB V n)) = true := isDL_u8 _
theorem Low.put {ob : List Ob} (h : Low ob.length ob) {t t0 o p N V N' : Nat} (ho : o < ob.length) : Low ob.length (upd2 ob o p (bY t0 N V) (bO t o N')) := by
  unfold upd2
  refine (h.set ?_).set ?_
  · exact lowL_D _ (isDL_leB _ _)
  · simp [bO, lowL, lowV, ho]
theorem Low.drop {ob : List Ob} (h : Low ob.length ob) {t t0 o p N V : Nat} (ho : o < ob.length) {M : Nat} (hM : M ≤ ob.length) {J : List Ob} {fr fr' : List (Nat × AV)}
    (hfr : ∀ q ∈ fr', q.2 = .any ∨ (q.2 = Am.look fr q.1 ∧ lowV ob.length q.2 = true)) :
    Le M ⟨fr, upd2 ob o p (bY t0 N V) (bO t o N) ++ J⟩ ⟨fr', upd2 ob o p (bY t0 N V) (bO t o N)⟩ := by
  have hl : (upd2 ob o p (bY t0 N V) (bO t o N)).length = ob.length := upd2_len
  refine Le.low (by omega) (by rw [hl]; exact h.put ho) ?_
  rw [hl]
  exact hfr

theorem putN {V N v j r : Nat} : V + 2 ^ N * (v % 2 ^ (j + r)) = V + 2 ^ N * (v % 2 ^ j) + 2 ^ (N + j) * (v / 2 ^ j % 2 ^ r) := by
  rw [Nat.pow_add, Nat.mod_mul, Nat.mul_add, Nat.pow_add, Nat.mul_assoc, Nat.add_assoc]

set_option maxHeartbeats 1000000 in
theorem bits_put {P : Prg} {f t0 t : Nat} (bd : Body P f 75 [] (ac_bits_put t0)) {ob : List Ob} {p o N V v n : Nat} (hp : ob[p]? = some (bO t o N)) (ho : ob[o]? = some (bY t0 N V)) (hpo : p ≠ o) (hV : V < 2 ^ N) (hv : v < 2 ^ n) (hn : n ≤ 64) (hN : N + n ≤ 400000) (hfz : Low ob.length ob)
    {K : AV → List Ob → Prop} (hK : K (.tup []) (upd2 ob o p (bY t0 (N + n) (V + 2 ^ N * v)) (bO t o (N + n)))) : ACall P f [.ref p 1 0, .int .u64 v, .int .i64 n] ob K := by
  have hol : o < ob.length := (List.getElem?_eq_some_iff.1 ho).1
  have hpl : p < ob.length := (List.getElem?_eq_some_iff.1 hp).1
  refine ACall.of_body bd (by simp) ?_
  have g0 : ∀ x y J, (upd2 ob o p x y ++ J)[p]? = some y := fun x y J => by rw [List.getElem?_append_left (by rw [upd2_len]; exact hpl)]; exact upd2_gp hpl
  have g1 : ∀ x y J, (upd2 ob o p x y ++ J)[o]? = some x := fun x y J => by rw [List.getElem?_append_left (by rw [upd2_len]; exact hol)]; exact upd2_go hol hpo
  have g2 : ∀ x y J y', (upd2 ob o p x y ++ J).set p y' = upd2 ob o p x y' ++ J := fun x y J y' => by rw [List.set_append_left _ _ (by rw [upd2_len]; exact hpl), upd2_p]
  have g3 : ∀ x y J x', (upd2 ob o p x y ++ J).set o x' = upd2 ob o p x' y ++ J := fun x y J x' => by rw [List.set_append_left _ _ (by rw [upd2_len]; exact hol), upd2_o hpo]
  have g4 : ∀ x y j, (upd2 ob o p x y ++ [j])[ob.length]? = some j := fun x y j => by rw [List.getElem?_append_right (by rw [upd2_len]; exact Nat.le_refl _), upd2_len, Nat.sub_self]; rfl
  have gp : ∀ x y, (upd2 ob o p x y)[p]? = some y := fun x y => upd2_gp hpl
  have go : ∀ x y, (upd2 ob o p x y)[o]? = some x := fun x y => upd2_go hol hpo
  have sp : ∀ x y y', (upd2 ob o p x y).set p y' = upd2 ob o p x y' := fun x y y' => upd2_p
  have so : ∀ x y x', (upd2 ob o p x y).set o x' = upd2 ob o p x' y := fun x y x' => upd2_o hpo
  have ln : ∀ x y, (upd2 ob o p x y).length = ob.length := fun x y => upd2_len
  simp (maxSteps := 4000000) (disch := omega) only [abv, step, stepv, ev, wl, wn, wp, wz, aop, cV, cV1, AV.one, partCells, okW, onlyFr, app, sliceCells, cellsAt, srcA, subA, eqFs, Int.cast_ofNat_Int, simprocAttr, ac_bits_put]
  refine ALoop.by (ι := Nat) (fun j => ⟨[(2, .int .i64 ((n - j : Nat) : Int)), (1, .int .u64 ((v / 2 ^ j : Nat) : Int)), (0, .ref p 1 0)], upd2 ob o p (bY t0 (N + j) (V + 2 ^ N * (v % 2 ^ j))) (bO t o (N + j))⟩) (fun j => j ≤ n) (fun j => n - j) 0 ?_ (by omega) ?_
  · have : upd2 ob o p (bY t0 (N + 0) (V + 2 ^ N * (v % 2 ^ 0))) (bO t o (N + 0)) = ob := by
      rw [Nat.add_zero, Nat.pow_zero, Nat.mod_one, Nat.mul_zero, Nat.add_zero]
      exact upd2_same ho hp hpo
    rw [this]
    exact Le.slots (by simp [Am.look])
  intro j hj
  by_cases hlt : j < n
  · obtain ⟨M, hM⟩ : ∃ M, M = N + j := ⟨_, rfl⟩
    obtain ⟨i, hi⟩ : ∃ i, i = M / 8 := ⟨_, rfl⟩
    obtain ⟨a, ha⟩ : ∃ a, a = M % 8 := ⟨_, rfl⟩
    obtain ⟨r, hr⟩ : ∃ r, r = min (n - j) (8 - a) := ⟨_, rfl⟩
    have hM8 : M = 8 * i + a := by omega
    have hW : V + 2 ^ N * (v % 2 ^ j) < 2 ^ M := by
      have h1 : v % 2 ^ j < 2 ^ j := Nat.mod_lt _ (Nat.pow_pos (by omega))
      have h2 : 2 ^ N * (v % 2 ^ j + 1) ≤ 2 ^ N * 2 ^ j := Nat.mul_le_mul_left _ h1
      rw [hM, Nat.pow_add]; rw [Nat.mul_add, Nat.mul_one] at h2; omega
    have hstep := putN (V := V) (N := N) (v := v) (j := j) (r := r)
    rw [← hM] at hstep ⊢
    have hx : v / 2 ^ j < 18446744073709551616 := by
      have h1 : v / 2 ^ j ≤ v := Nat.div_le_self _ _
      have h2 : 2 ^ n ≤ 2 ^ 64 := Nat.pow_le_pow_right (by omega) hn
      omega
    have hxr : v / 2 ^ (j + r) = v / 2 ^ j / 2 ^ r := by rw [Nat.pow_add, Nat.div_div_eq_div_mul]
    generalize V + 2 ^ N * (v % 2 ^ j) = W at *
    generalize hWW : V + 2 ^ N * (v % 2 ^ (j + r)) = W' at *
    generalize hxx : v / 2 ^ j = x at *
    have h2r : 2 ^ r ≤ 2 ^ 8 := Nat.pow_le_pow_right (by omega) (by omega)
    have h2a : 2 ^ a * 2 ^ r ≤ 2 ^ 8 := by rw [← Nat.pow_add]; exact Nat.pow_le_pow_right (by omega) (by omega)
    have hpos : 0 < 2 ^ r := Nat.pow_pos (by omega)
    have hc : x % 2 ^ r < 2 ^ r := Nat.mod_lt _ hpos
    obtain ⟨l1, l2⟩ := bits_last (V := W) (i := i) (at_ := a) (by rw [← hM8]; exact hW) (by omega)
    obtain ⟨b1, b2, _⟩ := bits_put_plain (V := W) (i := i) (at_ := a) (w := x % 2 ^ r) (r := r) (by rw [← hM8]; exact hW) hc (by omega)
    rw [← hM8, ← hstep] at b1
    have hyb : W / 256 ^ i < 256 := by
      have : 2 ^ a ≤ 2 ^ 8 := Nat.pow_le_pow_right (by omega) (by omega)
      omega
    have hyb2 : W / 256 ^ i + 2 ^ a * (x % 2 ^ r) < 256 := by
      have : 2 ^ (a + r) ≤ 2 ^ 8 := Nat.pow_le_pow_right (by omega) (by omega)
      omega
    have hca : x % 2 ^ r * 2 ^ a < 2 ^ 8 := by
      rw [Nat.mul_comm]
      exact Nat.lt_of_lt_of_le (Nat.mul_lt_mul_of_pos_left hc (Nat.pow_pos (by omega))) h2a
    have hu : ∀ y, y < 256 → u8 [UInt8.ofNat y] = [.int .u8 (y : Int)] := fun y hy => by simp [u8]; omega
    have e8 : IntKind.u8.wrap (BitVec.ofInt IntKind.u8.bits ((W / 256 ^ i : Nat) : Int) ||| BitVec.ofInt IntKind.u8.bits ((x % 2 ^ r * 2 ^ a : Nat) : Int)).toNat = ((W / 256 ^ i + 2 ^ a * (x % 2 ^ r) : Nat) : Int) := by
      rw [orK (K := .u8) rfl hyb hca, or_add l2, Nat.mul_comm]
    have e7 : shiftA true .u8 ((x % 2 ^ r : Nat) : Int) (a : Int) = some (.int .u8 ((x % 2 ^ r * 2 ^ a : Nat) : Int)) := shlK rfl (by show a ≤ 8; omega) hca
    have e6 : IntKind.u8.wrap ((x % 2 ^ r : Nat) : Int) = ((x % 2 ^ r : Nat) : Int) := by rw [wrap_u8_mod]; omega
    have e5 : IntKind.u64.wrap (BitVec.ofInt IntKind.u64.bits (x : Int) &&& BitVec.ofInt IntKind.u64.bits ((2 ^ r - 1 : Nat) : Int)).toNat = ((x % 2 ^ r : Nat) : Int) := by
      rw [and_u64 _ _ hx (by omega), Nat.and_two_pow_sub_one_eq_mod]
    have e4 : IntKind.u64.wrap (((2 ^ r : Nat) : Int) - 1) = ((2 ^ r - 1 : Nat) : Int) := by rw [wrap_u64_mod]; omega
    have e3 : shiftA true .u64 1 (r : Int) = some (.int .u64 ((2 ^ r : Nat) : Int)) := by
      have := shlK (K := .u64) rfl (c := 1) (s := r) (by show r ≤ 64; omega) (by show 1 * 2 ^ r < 18446744073709551616; omega)
      rw [Nat.one_mul] at this
      exact this
    have e9 : shiftA false .u64 (x : Int) (r : Int) = some (.int .u64 ((x / 2 ^ r : Nat) : Int)) := shrK (K := .u64) (by show r ≤ 64; omega)
    have e1 := and7_i64 (n := M) (by omega)
    rw [← ha] at e1
    have e2 : (if (8 : Int) - a < ((n - j : Nat) : Int) then (8 : Int) - a else ((n - j : Nat) : Int)) = (r : Int) := by split <;> omega
    have hnB : nB (M + r) = i + 1 := by unfold nB; omega
    have hcell : u8 (leB W' (i + 1)) = u8 (leB W i) ++ [.int .u8 ((W / 256 ^ i + 2 ^ a * (x % 2 ^ r) : Nat) : Int)] := by
      rw [b1, show u8 (leB W i ++ [UInt8.ofNat (W / 256 ^ i + 2 ^ a * (x % 2 ^ r))]) = u8 (leB W i) ++ u8 [UInt8.ofNat (W / 256 ^ i + 2 ^ a * (x % 2 ^ r))] by simp [u8]]
      rw [hu _ hyb2]
    have hlen : (u8 (leB W i)).length = i := by simp [u8, leB_length]
    rw [← hxr] at e9
    generalize W / 256 ^ i + 2 ^ a * (x % 2 ^ r) = y' at *
    generalize x % 2 ^ r * 2 ^ a = ca at *
    generalize x % 2 ^ r = c at *
    generalize 2 ^ r - 1 = mk at *
    generalize 2 ^ r = pr at *
    have d1 : ∀ z : AV, (u8 (leB W i) ++ [z]).drop i = [z] := fun z => by rw [List.drop_left' hlen]
    have d2 : ∀ z : AV, (u8 (leB W i) ++ [z]).take i = u8 (leB W i) := fun z => by rw [List.take_left' hlen]
    have d3 : ∀ z : AV, (u8 (leB W i) ++ [z]).drop (i + 1) = [] := fun z => List.drop_of_length_le (by simp [hlen])
    have jr : n - j - r = n - (j + r) := by omega
    have el : (⟨t0, 1, i + 1, u8 (leB W i) ++ [.int .u8 (y' : Int)], 0⟩ : Ob) = bY t0 (M + r) W' := by rw [bY, hnB, hcell]
    have er : (⟨t, 2, 1, [.own o (i + 1), .int .i64 ((M : Int) + r)], 0⟩ : Ob) = bO t o (M + r) := by rw [bO, hnB, Int.natCast_add]
    have hMr : N + (j + r) = M + r := by omega
    have e10 : ((n - j : Nat) : Int) - r = ((n - (j + r) : Nat) : Int) := by omega
    have e11 : (M : Int) + r = ((M + r : Nat) : Int) := by omega
    by_cases h0 : a = 0
    · subst h0
      have hnM : nB M = i := by unfold nB; omega
      have hW0 : W / 256 ^ i = 0 := by
        have := l2
        rw [Nat.pow_zero] at this
        exact Nat.lt_one_iff.1 this
      rw [hW0] at e8
      have e8' : IntKind.u8.wrap (BitVec.ofInt IntKind.u8.bits 0 ||| BitVec.ofInt IntKind.u8.bits (ca : Int)).toNat = (y' : Int) := e8
      have e1' : IntKind.i64.wrap (BitVec.ofInt IntKind.i64.bits (M : Int) &&& BitVec.ofInt IntKind.i64.bits 7).toNat = 0 := e1
      have e2' : (if (8 : Int) < ((n - j : Nat) : Int) then (8 : Int) else ((n - j : Nat) : Int)) = (r : Int) := by split <;> omega
      have e12 : i + 1 - 1 = i := by omega
      have e7' : shiftA true .u8 (c : Int) 0 = some (.int .u8 (ca : Int)) := e7
      have e13 : (i : Int) + 1 - 1 = i := by omega
      simp (maxSteps := 4000000) (disch := omega) only [abv, step, stepv, ev, wl, wn, wp, wz, aop, cV, cV1, AV.one, partCells, okW, onlyFr, app, sliceCells, cellsAt, srcA, subA, eqFs, Int.cast_ofNat_Int, simprocAttr, e2', e12, e13, bO, bY, gp, go, sp, so, ln, g0, g1, g2, g3, g4, hnM, hlen, e1', e2, e3, e4, e5, e6, e7', e8', e9, d1, d2, d3]
      refine ⟨j + r, by omega, by omega, ?_⟩
      show Le ob.length _ ⟨[(2, .int .i64 ((n - (j + r) : Nat) : Int)), (1, .int .u64 ((v / 2 ^ (j + r) : Nat) : Int)), (0, .ref p 1 0)], upd2 ob o p (bY t0 (N + (j + r)) (V + 2 ^ N * (v % 2 ^ (j + r)))) (bO t o (N + (j + r)))⟩
      rw [hWW, hMr, el, er]
      exact hfz.drop hol (Nat.le_refl _) (by simp [Am.look, lowV, hpl, e10])
    · have hnM : nB M = i + 1 := by unfold nB; omega
      have l3 : u8 (leB W (i + 1)) = u8 (leB W i) ++ [.int .u8 ((W / 256 ^ i : Nat) : Int)] := by
        rw [l1, show u8 (leB W i ++ [UInt8.ofNat (W / 256 ^ i)]) = u8 (leB W i) ++ u8 [UInt8.ofNat (W / 256 ^ i)] by simp [u8], hu _ hyb]
      have e12 : i + 1 - 1 = i := by omega
      have e13 : (i : Int) + 1 - 1 = i := by omega
      have ha0 : (a : Int) ≠ 0 := by omega
      generalize W / 256 ^ i = y at *
      simp (maxSteps := 4000000) (disch := omega) only [abv, step, stepv, ev, wl, wn, wp, wz, aop, cV, cV1, AV.one, partCells, okW, onlyFr, app, sliceCells, cellsAt, srcA, subA, eqFs, Int.cast_ofNat_Int, simprocAttr, e12, e13, bO, bY, gp, go, sp, so, ln, hnM, hlen, l3, e1, e2, e3, e4, e5, e6, e7, e8, e9, d1, d2, d3]
      refine ⟨j + r, by omega, by omega, ?_⟩
      show Le ob.length _ ⟨[(2, .int .i64 ((n - (j + r) : Nat) : Int)), (1, .int .u64 ((v / 2 ^ (j + r) : Nat) : Int)), (0, .ref p 1 0)], upd2 ob o p (bY t0 (N + (j + r)) (V + 2 ^ N * (v % 2 ^ (j + r)))) (bO t o (N + (j + r)))⟩
      rw [hWW, hMr, el, er]
      exact Le.slots (by simp [Am.look, e10])
  · obtain rfl : j = n := by omega
    rw [Nat.mod_eq_of_lt hv]
    simp (maxSteps := 4000000) (disch := omega) only [abv, step, stepv, ev, wl, wn, wp, wz, aop, cV, cV1, AV.one, partCells, okW, onlyFr, app, sliceCells, cellsAt, srcA, subA, eqFs, Int.cast_ofNat_Int, simprocAttr]
    exact hK

end Go.Am

namespace Go.Am
open Go.RowKit

/-! ### Codes are read -/

theorem dual_learn {P : Prg} {f f1 fL t : Nat} (bd : Body P f 36 [] (ac_dual_learn f1 fL)) (b1 : Body P f1 58 [] ac_dual_learn_1) (hL : S_Level P fL) {ob : List Ob} {p : Nat} {d : Dl} (hp : ob[p]? = some ⟨t, 4, 1, dlC d, 0⟩) (hd : okD d) {v : Nat} (hv : v < 4294967296) {K : AV → List Ob → Prop}
    (hK : K (.tup []) (ob.set p ⟨t, 4, 1, dlC (learnM d v), 0⟩)) : ACall P f [.ref p 1 0, .int .u32 v] ob K := by
  have hpl : p < ob.length := (List.getElem?_eq_some_iff.1 hp).1
  have hL' := hL d v hd hv
  have nph : ∀ cs, (⟨t, 4, 1, cs, 0⟩ : Ob) ≠ ph := fun cs e => by have := congrArg Ob.sz e; simp [ph] at this
  refine ACall.of_body bd (by simp) ?_
  unfold learnM at hK
  have hp0 := hp
  obtain ⟨k0, k1, s0, s1⟩ := d
  simp only [dlC] at hp
  simp only [dlA, dlC] at hL' hK
  by_cases c : v < 2 ^ k0
  · rw [if_pos c] at hL' hK
    simp (maxSteps := 4000000) (disch := omega) only [abv, step, stepv, ev, wl, wn, wp, wz, aop, cV, cV1, AV.one, partCells, okW, onlyFr, app, sliceCells, cellsAt, srcA, subA, eqFs, Int.cast_ofNat_Int, simprocAttr, ac_dual_learn, hp]
    refine callQ.vc hL' ?_
    simp (maxSteps := 4000000) (disch := omega) only [abv, step, stepv, ev, wl, wn, wp, wz, aop, cV, cV1, AV.one, partCells, okW, onlyFr, app, sliceCells, cellsAt, srcA, subA, eqFs, Int.cast_ofNat_Int, simprocAttr, hp]
    refine callE.by hp0 (nph _) (fun K hK => learn_pair b1 hp0 hd hv false hK) ?_
    simp (maxSteps := 4000000) (disch := omega) only [abv, step, stepv, ev, wl, wn, wp, wz, aop, cV, cV1, AV.one, partCells, okW, onlyFr, app, sliceCells, cellsAt, srcA, subA, eqFs, Int.cast_ofNat_Int, simprocAttr]
    exact hK
  · rw [if_neg c] at hL' hK
    have hv2 : v - 2 ^ k0 < 4294967296 := Nat.lt_of_le_of_lt (Nat.sub_le _ _) hv
    obtain ⟨h1, h2, h3, h4⟩ := hd
    have pk := pair_ok h2 h4 hv2
    simp only at h1 h2 h3 h4 pk
    generalize v - 2 ^ k0 = w at *
    simp (maxSteps := 4000000) (disch := omega) only [abv, step, stepv, ev, wl, wn, wp, wz, aop, cV, cV1, AV.one, partCells, okW, onlyFr, app, sliceCells, cellsAt, srcA, subA, eqFs, Int.cast_ofNat_Int, simprocAttr, ac_dual_learn, hp]
    refine callQ.vc hL' ?_
    simp (maxSteps := 4000000) (disch := omega) only [abv, step, stepv, ev, wl, wn, wp, wz, aop, cV, cV1, AV.one, partCells, okW, onlyFr, app, sliceCells, cellsAt, srcA, subA, eqFs, Int.cast_ofNat_Int, simprocAttr, hp]
    refine callE.by hp0 (nph _) (fun K hK => learn_pair b1 hp0 ⟨h1, h2, h3, h4⟩ hv2 true hK) ?_
    have hp1 : (ob.set p ⟨t, 4, 1, dlC ⟨k0, (pairM k1 s1 w).1, s0, (pairM k1 s1 w).2⟩, 0⟩)[p]? = some ⟨t, 4, 1, dlC ⟨k0, (pairM k1 s1 w).1, s0, (pairM k1 s1 w).2⟩, 0⟩ := by simp [hpl]
    have hp2 := hp1
    simp only [dlC] at hp2
    simp (maxSteps := 4000000) (disch := omega) only [abv, step, stepv, ev, wl, wn, wp, wz, aop, cV, cV1, AV.one, partCells, okW, onlyFr, app, sliceCells, cellsAt, srcA, subA, eqFs, Int.cast_ofNat_Int, simprocAttr, dlC, hp2]
    refine callE.by hp1 (nph _) (fun K hK => learn_pair b1 hp1 ⟨h1, pk.1, h3, pk.2⟩ hv false hK) ?_
    rw [List.set_set]
    simp (maxSteps := 4000000) (disch := omega) only [abv, step, stepv, ev, wl, wn, wp, wz, aop, cV, cV1, AV.one, partCells, okW, onlyFr, app, sliceCells, cellsAt, srcA, subA, eqFs, Int.cast_ofNat_Int, simprocAttr]
    exact hK

theorem rice_escaped {P : Prg} {f : Nat} (bd : Body P f 9 [.tmp 4] ac_rice_escaped) {v k : Nat} (hk : k ≤ 24) (hv : v < 4294967296) : VC P f [.int .u32 v, .int .i64 k] (.bool (decide (48 ≤ v / 2 ^ k))) := by
  refine VC.of_acall rfl rfl (ACall.of_body bd (by simp) ?_)
  have e1 : shiftA false .u32 (v : Int) (k : Int) = some (.int .u32 ((v / 2 ^ k : Nat) : Int)) := shrK (K := .u32) (by show k ≤ 32; omega)
  generalize v / 2 ^ k = w at *
  have e2 : decide ((48 : Int) ≤ (w : Int)) = decide (48 ≤ w) := decide_eq_decide.2 (by omega)
  simp (maxSteps := 4000000) (disch := omega) only [abv, step, stepv, ev, wl, wn, wp, wz, aop, cV, cV1, AV.one, partCells, okW, onlyFr, app, sliceCells, cellsAt, srcA, subA, eqFs, Int.cast_ofNat_Int, simprocAttr, ac_rice_escaped, e1, e2]
def S_esc (P : Prg) (f : Nat) : Prop := ∀ v k : Nat, k ≤ 24 → v < 4294967296 → VC P f [.int .u32 v, .int .i64 k] (.bool (decide (48 ≤ v / 2 ^ k)))
theorem rice_esc {P : Prg} {f : Nat} (bd : Body P f 9 [.tmp 4] ac_rice_escaped) : S_esc P f := by
  exact fun _ _ h1 h2 => rice_escaped bd h1 h2

end Go.Am

namespace Go.Am
open Go.RowKit

/-! ### The values of a frame (plain) -/

def chanM (c r : Nat) (v : List Nat) : Dl := ((List.range v.length).filter fun j => j % c == r).foldl (fun d j => learnM d (v.getD j 0)) startM

theorem chan_snoc {c r x : Nat} {v : List Nat} : chanM c r (v ++ [x]) = if v.length % c = r then learnM (chanM c r v) x else chanM c r v := by
  have h1 : ∀ (l : List Nat) (d : Dl), (∀ j ∈ l, j < v.length) → l.foldl (fun d j => learnM d ((v ++ [x]).getD j 0)) d = l.foldl (fun d j => learnM d (v.getD j 0)) d := by
    intro l
    induction l with
    | nil => intro d _; rfl
    | cons a l ih =>
      intro d h
      simp only [List.foldl_cons]
      have ha : a < v.length := h a (by simp)
      rw [ih _ fun j hj => h j (by simp [hj])]
      congr 2
      rw [List.getD_eq_getElem?_getD, List.getD_eq_getElem?_getD, List.getElem?_append_left ha]
  unfold chanM
  rw [List.length_append, List.length_cons, List.length_nil, Nat.zero_add, List.range_succ, List.filter_append, List.foldl_append]
  have hf := h1 ((List.range v.length).filter fun j => j % c == r) startM (fun j hj => by
    have := (List.mem_filter.1 hj).1
    simpa using this)
  rw [hf]
  have hx : (v ++ [x]).getD v.length 0 = x := by simp [List.getD_eq_getElem?_getD]
  by_cases h : v.length % c = r
  · rw [if_pos h]
    have : (List.filter (fun j => j % c == r) [v.length]) = [v.length] := by simp [h]
    rw [this]
    simp only [List.foldl_cons, List.foldl_nil]
    rw [hx]
  · rw [if_neg h]
    have : (List.filter (fun j => j % c == r) [v.length]) = [] := by simp [h]
    rw [this]
    rfl

def N32 (v : List Nat) : Prop := ∀ x ∈ v, x < 4294967296
theorem chan_ok {c r : Nat} {v : List Nat} (h : N32 v) : okD (chanM c r v) := by
  unfold chanM
  have key : ∀ (l : List Nat) (d : Dl), okD d → (∀ j ∈ l, j < v.length) → okD (l.foldl (fun d j => learnM d (v.getD j 0)) d) := by
    intro l
    induction l with
    | nil => intro d h _; exact h
    | cons a l ih =>
      intro d hd hl
      have ha : a < v.length := hl a (by simp)
      refine ih _ (learn_ok hd ?_) fun j hj => hl j (by simp [hj])
      rw [List.getD_eq_getElem?_getD, List.getElem?_eq_getElem ha]
      exact h _ (List.getElem_mem ha)
  exact key _ _ start_ok fun j hj => by
    have := (List.mem_filter.1 hj).1
    simpa using this

def sumM (p : List UInt8) : Nat := 4294967295 - crcL 4294967295 p
end Go.Am

namespace Go.Am
open Go.RowKit

/-! ### A frame's sum -/

theorem sumM_lt (p : List UInt8) : sumM p < 4294967296 := by unfold sumM; omega

end Go.Am

namespace Go.Am
open Go.RowKit

/-! ### values -/

def sixD (F : Nat → Dl) : List AV := dlC (F 0) ++ dlC (F 1) ++ dlC (F 2) ++ dlC (F 3) ++ dlC (F 4) ++ dlC (F 5)
theorem isTL_sixD (F : Nat → Dl) : isTL (sixD F) = true := rfl
theorem sixD_len (F : Nat → Dl) : (sixD F).length = 24 := rfl
theorem sixD_get (F : Nat → Dl) {j : Nat} (h : j < 6) : ∃ r, (sixD F).drop (j * 4) = .int .i64 (F j).k0 :: .int .i64 (F j).k1 :: .int .u64 (F j).s0 :: .int .u64 (F j).s1 :: r := by
  rcases (by omega : j = 0 ∨ j = 1 ∨ j = 2 ∨ j = 3 ∨ j = 4 ∨ j = 5) with rfl | rfl | rfl | rfl | rfl | rfl <;> exact ⟨_, rfl⟩
def updD (F : Nat → Dl) (j : Nat) (d : Dl) : Nat → Dl := fun i => if i = j then d else F i
theorem sixD_set (F : Nat → Dl) {j : Nat} (h : j < 6) (d : Dl) : (sixD F).take (j * 4) ++ [.int .i64 d.k0, .int .i64 d.k1, .int .u64 d.s0, .int .u64 d.s1] ++ (sixD F).drop (j * 4 + 4) = sixD (updD F j d) := by
  rcases (by omega : j = 0 ∨ j = 1 ∨ j = 2 ∨ j = 3 ∨ j = 4 ∨ j = 5) with rfl | rfl | rfl | rfl | rfl | rfl <;> rfl

end Go.Am

namespace Go.Am
open Go.RowKit

/-! ### Decode -/

def iL (o : List Nat) : List Int := o.map fun n : Nat => (n : Int)
end Go.Am

namespace Go.Am
open Go.RowKit

/-! ### verdict.good -/

theorem mod_mul (m c : Nat) : (m * c) % c = 0 := Nat.mul_mod_left m c
/-! ### verdict.Judge -/

end Go.Am

namespace Go.Am
open Go.RowKit

/-! ### Codes (plain) -/

def riceN (v k : Nat) : Nat := if 48 ≤ v / 2 ^ k then 80 else v / 2 ^ k + 1 + k
def riceC (v k : Nat) : Nat := if 48 ≤ v / 2 ^ k then 2 ^ 48 - 1 + 2 ^ 48 * v else 2 ^ (v / 2 ^ k) - 1 + 2 ^ (v / 2 ^ k + 1) * (v % 2 ^ k)
def codeN (d : Dl) (v : Nat) : Nat := if v < 2 ^ d.k0 then 1 + d.k0 else 1 + riceN (v - 2 ^ d.k0) d.k1
def codeC (d : Dl) (v : Nat) : Nat := if v < 2 ^ d.k0 then 2 * v else 1 + 2 * riceC (v - 2 ^ d.k0) d.k1

theorem lt_append {V N W n : Nat} (hV : V < 2 ^ N) (hW : W < 2 ^ n) : V + 2 ^ N * W < 2 ^ (N + n) := by
  have h1 : 2 ^ N * (W + 1) ≤ 2 ^ N * 2 ^ n := Nat.mul_le_mul_left _ hW
  rw [Nat.pow_add]
  rw [Nat.mul_add, Nat.mul_one] at h1
  omega
theorem riceC_lt {v k : Nat} (hv : v < 4294967296) : riceC v k < 2 ^ riceN v k := by
  unfold riceC riceN
  split
  · exact lt_append (N := 48) (n := 32) (by decide) hv
  · have h1 : v % 2 ^ k < 2 ^ k := Nat.mod_lt _ (Nat.pow_pos (by omega))
    refine lt_append ?_ h1
    have : 0 < 2 ^ (v / 2 ^ k) := Nat.pow_pos (by omega)
    rw [Nat.pow_succ]
    omega
theorem riceN_le {v k : Nat} (hk : k ≤ 24) : riceN v k ≤ 80 := by unfold riceN; split <;> omega
theorem codeN_le {d : Dl} {v : Nat} (hd : okD d) : codeN d v ≤ 81 := by
  have := riceN_le (v := v - 2 ^ d.k0) hd.2.1
  have := hd.1
  unfold codeN
  split <;> omega
theorem codeN_pos (d : Dl) (v : Nat) : 1 ≤ codeN d v := by unfold codeN; split <;> omega
theorem codeC_lt {d : Dl} {v : Nat} (hv : v < 4294967296) : codeC d v < 2 ^ codeN d v := by
  unfold codeC codeN
  split
  · rename_i h
    rw [Nat.pow_add, Nat.pow_one]
    omega
  · have h := riceC_lt (v := v - 2 ^ d.k0) (k := d.k1) (Nat.lt_of_le_of_lt (Nat.sub_le _ _) hv)
    exact lt_append (N := 1) (V := 1) (by decide) h

def frmM (c : Nat) (v : List Nat) : Nat → Nat × Nat
  | 0 => (0, 0)
  | i + 1 => ((frmM c v i).1 + codeN (chanM c (i % c) (v.take i)) (v.getD i 0), (frmM c v i).2 + 2 ^ (frmM c v i).1 * codeC (chanM c (i % c) (v.take i)) (v.getD i 0))
def frmN (c : Nat) (v : List Nat) (i : Nat) : Nat := (frmM c v i).1
def frmV (c : Nat) (v : List Nat) (i : Nat) : Nat := (frmM c v i).2
theorem frmN_zero (c : Nat) (v : List Nat) : frmN c v 0 = 0 := rfl
theorem frmV_zero (c : Nat) (v : List Nat) : frmV c v 0 = 0 := rfl
theorem frmN_succ (c : Nat) (v : List Nat) (i : Nat) : frmN c v (i + 1) = frmN c v i + codeN (chanM c (i % c) (v.take i)) (v.getD i 0) := rfl
theorem frmV_succ (c : Nat) (v : List Nat) (i : Nat) : frmV c v (i + 1) = frmV c v i + 2 ^ frmN c v i * codeC (chanM c (i % c) (v.take i)) (v.getD i 0) := rfl
theorem N32.take {v : List Nat} (h : N32 v) (i : Nat) : N32 (v.take i) := fun x hx => h x (List.mem_of_mem_take hx)
theorem N32.getD {v : List Nat} (h : N32 v) (i : Nat) : v.getD i 0 < 4294967296 := by
  rw [List.getD_eq_getElem?_getD]
  cases hx : v[i]? with
  | none => simp
  | some x => exact h x (List.mem_of_getElem? hx)
theorem frm_bounds {c : Nat} {v : List Nat} (h : N32 v) : ∀ i, frmV c v i < 2 ^ frmN c v i ∧ frmN c v i ≤ 81 * i ∧ i ≤ frmN c v i
  | 0 => by rw [frmN_zero, frmV_zero]; decide
  | i + 1 => by
    obtain ⟨h1, h2, h3⟩ := frm_bounds h i
    have hd := chan_ok (c := c) (r := i % c) (h.take i)
    have h4 := codeN_le (v := v.getD i 0) hd
    have h5 := codeN_pos (chanM c (i % c) (v.take i)) (v.getD i 0)
    rw [frmN_succ, frmV_succ]
    exact ⟨lt_append h1 (codeC_lt (h.getD i)), by omega, by omega⟩

def frmB (c : Nat) (v : List Nat) : List UInt8 := leB (frmV c v v.length) (nB (frmN c v v.length))
def sealB (p : List UInt8) : List UInt8 := p ++ leB (sumM p) 4
theorem sealB_len (p : List UInt8) : (sealB p).length = p.length + 4 := by simp [sealB, leB_length]
theorem frmB_len (c : Nat) (v : List Nat) : (frmB c v).length = nB (frmN c v v.length) := by simp [frmB, leB_length]

end Go.Am

namespace Go.Am
open Go.RowKit

/-! ### Codes are written -/

theorem getJ (ob J : List Ob) (k : Nat) : (ob ++ J)[ob.length + k]? = J[k]? := by rw [List.getElem?_append_right (by omega), Nat.add_sub_cancel_left]
theorem getJ0 (ob J : List Ob) : (ob ++ J)[ob.length]? = J[0]? := getJ ob J 0
theorem setJ (ob J : List Ob) (k : Nat) (y : Ob) : (ob ++ J).set (ob.length + k) y = ob ++ J.set k y := by rw [List.set_append_right _ _ (by omega), Nat.add_sub_cancel_left]
theorem setJ0 (ob J : List Ob) (y : Ob) : (ob ++ J).set ob.length y = ob ++ J.set 0 y := setJ ob J 0 y

def S_CloneB (t : Nat) (P : Prg) (f : Nat) : Prop := ∀ l : List UInt8, l.length ≤ 1000000 → VO P f [bs l] (.own 0 l.length) ⟨t, 1, l.length, u8 l, 0⟩
theorem clone_b {P : Prg} {f t0 : Nat} (b : Body P f 8 [.tmp 2] (ac_slices_Clone_byte_byte t0)) : S_CloneB t0 P f := by
  intro l hl
  refine VO.of_walk (by simp [isDL, isD_bs]) (isDL_u8 l) (by simp [okr]) (ACall.virtR t0 1 (by decide) (ACall.of_body b (by simp) ?_))
  by_cases h0 : l = []
  · subst h0
    simp (maxSteps := 4000000) (disch := omega) only [abv, step, stepv, ev, wl, wn, wp, wz, aop, cV, cV1, AV.one, partCells, okW, onlyFr, app, sliceCells, cellsAt, srcA, subA, eqFs, Int.cast_ofNat_Int, simprocAttr, ac_slices_Clone_byte_byte, bs, nilA, u8_nil]
    exact ⟨.inr ⟨true, rfl, 0, rfl, rfl⟩, .inl ⟨0, rfl, rfl⟩⟩
  · have h1 : l.length ≠ 0 := by simpa using h0
    simp (maxSteps := 4000000) (disch := omega) only [abv, step, stepv, ev, wl, wn, wp, wz, aop, cV, cV1, AV.one, partCells, okW, onlyFr, app, sliceCells, cellsAt, srcA, subA, eqFs, Int.cast_ofNat_Int, simprocAttr, ac_slices_Clone_byte_byte, bs, nilA, h1]
    exact .inl ⟨0, rfl, rfl⟩

theorem bits_twin {P : Prg} {f fC t0 tb : Nat} (bd : Body P f 9 [.cell 2 t0] (ac_bits_twin fC t0)) (hC : S_CloneB tb P fC) (ht : aggO P t0 = some (some 2)) {N V : Nat} (hN : N ≤ 400000) {ob : List Ob} (hl : Low ob.length ob) {K : AV → List Ob → Prop}
    (hK : K (.agg [.own ob.length (nB N), .int .i64 N]) (ob ++ [bY tb N V])) : ACall P f [bA N V] ob K := by
  refine ACall.low (ACall.pad (ACall.of_body bd (by simp) ?_))
  have hC' := hC (leB V (nB N)) (by rw [leB_length]; unfold nB; omega)
  rw [bs, leB_length] at hC'
  have hlow : Low (ob.length + 1) (ob ++ [bY tb N V]) := (hl.mono (by omega)).append (Low.cons (lowL_D _ (isDL_leB _ _)) Low.nil)
  simp (maxSteps := 4000000) (disch := omega) only [abv, step, stepv, ev, wl, wn, wp, wz, aop, cV, cV1, AV.one, partCells, okW, onlyFr, app, sliceCells, cellsAt, srcA, subA, eqFs, Int.cast_ofNat_Int, simprocAttr, ac_bits_twin, bA, List.append_assoc, List.cons_append, List.nil_append, getJ, getJ0, setJ, setJ0]
  refine callD.vo hC' ob.length (by rw [getJ0]; rfl) Nat.one_ne_zero ?_
  simp (maxSteps := 4000000) (disch := omega) only [abv, step, stepv, ev, wl, wn, wp, wz, aop, cV, cV1, AV.one, partCells, okW, onlyFr, app, sliceCells, cellsAt, srcA, subA, eqFs, Int.cast_ofNat_Int, simprocAttr, shr, List.append_assoc, List.cons_append, List.nil_append, getJ, getJ0, setJ, setJ0, resA, ht, oneOf]
  exact ⟨ob ++ [bY tb N V], [_, _], by simp [bY]; exact ⟨rfl, rfl⟩, by simp, by simpa using hlow, by simp [lowV, lowL], hK⟩

def S_bPut (P : Prg) (f : Nat) : Prop := ∀ N V v n : Nat, V < 2 ^ N → v < 2 ^ n → n ≤ 64 → N + n ≤ 330000 → VC P f [bA N V, .int .u64 v, .int .i64 n] (.tup [bA (N + n) (V + 2 ^ N * v), .int .i64 0])
theorem bits_Put {P : Prg} {f fC fT fK fP t0 t1 tb : Nat} (bd : Body P f 44 [.cell 6 t0, .tmp 7] (ac_bits_Put fC fT fP t0)) (hC : S_bCheck P fC) (bT : Body P fT 9 [.cell 2 t1] (ac_bits_twin fK t1)) (bP : Body P fP 75 [] (ac_bits_put tb)) (hK : S_CloneB tb P fK) (ht : aggO P t0 = some (some 2)) (ht1 : aggO P t1 = some (some 2)) : S_bPut P f := by
  intro N V v n hV hv hn hN
  refine VC.of_walk 2 (by simp [isDL, isD_bA, isD]) (by simp [isD, isDL, isD_bA]) (ACall.of_body bd (by simp) ?_)
  have hC' := hC N V hV (by omega)
  rw [bA] at hC'
  have e1 : n < 64 → shiftA false .u64 (v : Int) (n : Int) = some (.int .u64 0) := fun h => by
    rw [shrK (K := .u64) (by show n ≤ 64; omega), Nat.div_eq_of_lt hv]; rfl
  have tu : isTL (u8 (leB V (nB N))) = true := isT_u8 _
  have tl : ∀ W M, isTL (u8 (leB W M)) = true := fun W M => isT_u8 _
  have tw : ∀ (Q : Exit → St → Prop) os fr dst, wpQ P os Q ⟨putA fr dst (.agg [.own 2 (nB N), .int .i64 N]), [⟨t0, 2, 1, [.list (nB N) (u8 (leB V (nB N))), .int .i64 N], 0⟩, ⟨t0, 2, 1, [.emp true, .int .i64 0], 0⟩, bY tb N V]⟩ →
      callQ P fT [.agg [.list (nB N) (u8 (leB V (nB N))), .int .i64 N]] [⟨t0, 2, 1, [.list (nB N) (u8 (leB V (nB N))), .int .i64 N], 0⟩, ⟨t0, 2, 1, [.emp true, .int .i64 0], 0⟩] os Q fr dst := fun Q os fr dst h =>
    bits_twin bT hK ht1 (N := N) (V := V) (by omega) (Low.cons (by simp [lowL, lowV, lowL_D _ (isDL_leB _ _)]) (Low.cons (by simp [lowL, lowV]) Low.nil)) h
  have pt : ∀ (Q : Exit → St → Prop) os fr dst, wpQ P os Q ⟨putA fr dst (.tup []), [⟨t0, 2, 1, [.own 2 (nB (N + n)), .int .i64 ((N + n : Nat) : Int)], 0⟩, ⟨t0, 2, 1, [.emp true, .int .i64 0], 0⟩, bY tb (N + n) (V + 2 ^ N * v)]⟩ →
      callQ P fP [.ref 0 1 0, .int .u64 v, .int .i64 n] [⟨t0, 2, 1, [.own 2 (nB N), .int .i64 N], 0⟩, ⟨t0, 2, 1, [.emp true, .int .i64 0], 0⟩, bY tb N V] os Q fr dst := fun Q os fr dst h =>
    bits_put bP (ob := [⟨t0, 2, 1, [.own 2 (nB N), .int .i64 N], 0⟩, ⟨t0, 2, 1, [.emp true, .int .i64 0], 0⟩, bY tb N V]) (p := 0) (o := 2) (t := t0) rfl rfl (by decide) hV hv hn (by omega)
      (Low.cons (by simp [lowL, lowV]) (Low.cons (by simp [lowL, lowV]) (Low.cons (lowL_D _ (isDL_leB _ _)) Low.nil))) h
  have tu' := tl (V + 2 ^ N * v) (nB (N + n))
  generalize V + 2 ^ N * v = W at *
  by_cases h64 : n < 64
  · have e1' := e1 h64
    simp (maxSteps := 4000000) (disch := omega) only [abv, step, stepv, ev, wl, wn, wp, wz, aop, cV, cV1, AV.one, partCells, okW, onlyFr, app, sliceCells, cellsAt, srcA, subA, eqFs, Int.cast_ofNat_Int, simprocAttr, ac_bits_Put, bA]
    refine callQ.vc hC' ?_
    simp (maxSteps := 4000000) (disch := omega) only [abv, step, stepv, ev, wl, wn, wp, wz, aop, cV, cV1, AV.one, partCells, okW, onlyFr, app, sliceCells, cellsAt, srcA, subA, eqFs, Int.cast_ofNat_Int, simprocAttr, e1']
    refine tw _ _ _ _ ?_
    simp (maxSteps := 4000000) (disch := omega) only [abv, step, stepv, ev, wl, wn, wp, wz, aop, cV, cV1, AV.one, partCells, okW, onlyFr, app, sliceCells, cellsAt, srcA, subA, eqFs, Int.cast_ofNat_Int, simprocAttr]
    refine pt _ _ _ _ ?_
    simp (maxSteps := 4000000) (disch := omega) only [abv, step, stepv, ev, wl, wn, wp, wz, aop, cV, cV1, AV.one, partCells, okW, onlyFr, app, sliceCells, cellsAt, srcA, subA, eqFs, Int.cast_ofNat_Int, simprocAttr, resA, ht, oneOf]
    simp [frzN, frzK, frzL, frzV, bY, frzL_T _ tu']
  · simp (maxSteps := 4000000) (disch := omega) only [abv, step, stepv, ev, wl, wn, wp, wz, aop, cV, cV1, AV.one, partCells, okW, onlyFr, app, sliceCells, cellsAt, srcA, subA, eqFs, Int.cast_ofNat_Int, simprocAttr, ac_bits_Put, bA]
    refine callQ.vc hC' ?_
    simp (maxSteps := 4000000) (disch := omega) only [abv, step, stepv, ev, wl, wn, wp, wz, aop, cV, cV1, AV.one, partCells, okW, onlyFr, app, sliceCells, cellsAt, srcA, subA, eqFs, Int.cast_ofNat_Int, simprocAttr]
    refine tw _ _ _ _ ?_
    simp (maxSteps := 4000000) (disch := omega) only [abv, step, stepv, ev, wl, wn, wp, wz, aop, cV, cV1, AV.one, partCells, okW, onlyFr, app, sliceCells, cellsAt, srcA, subA, eqFs, Int.cast_ofNat_Int, simprocAttr]
    refine pt _ _ _ _ ?_
    simp (maxSteps := 4000000) (disch := omega) only [abv, step, stepv, ev, wl, wn, wp, wz, aop, cV, cV1, AV.one, partCells, okW, onlyFr, app, sliceCells, cellsAt, srcA, subA, eqFs, Int.cast_ofNat_Int, simprocAttr, resA, ht, oneOf]
    simp [frzN, frzK, frzL, frzV, bY, frzL_T _ tu']

end Go.Am
