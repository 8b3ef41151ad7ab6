/- What the functions that the law reaches return, for every program that has their code; the conditions stand in each statement. -/
import Derived.Test.YtpanmoedefeniaaGreatDoorClipReadsD1
set_option linter.unusedSectionVars false
set_option linter.unusedSimpArgs false
set_option linter.unusedVariables false
namespace Go.Am
open Go.RowKit

def leN : List UInt8 → Nat
  | [] => 0
  | b :: l => b.toNat + 256 * leN l

theorem leN_lt : ∀ l : List UInt8, leN l < 2 ^ (8 * l.length)
  | [] => by simp [leN]
  | b :: l => by
    have h1 := leN_lt l
    have h2 := b.toNat_lt
    have h3 : 2 ^ (8 * (b :: l).length) = 256 * 2 ^ (8 * l.length) := by
      rw [List.length_cons, Nat.mul_add, Nat.pow_add, Nat.mul_comm]
    rw [h3]
    simp only [leN]
    omega

theorem leN_append : ∀ (a b : List UInt8), leN (a ++ b) = leN a + 2 ^ (8 * a.length) * leN b
  | [], b => by simp [leN]
  | x :: a, b => by
    have h3 : 2 ^ (8 * (x :: a).length) = 256 * 2 ^ (8 * a.length) := by
      rw [List.length_cons, Nat.mul_add, Nat.pow_add, Nat.mul_comm]
    rw [h3]
    simp only [List.cons_append, leN, leN_append a b, Nat.mul_add, Nat.mul_assoc]
    omega

theorem leN_lt64 {l : List UInt8} (h : l.length ≤ 8) : leN l < 18446744073709551616 := by
  have h1 := leN_lt l
  have h2 : 2 ^ (8 * l.length) ≤ 2 ^ 64 := Nat.pow_le_pow_right (by omega) (by omega)
  omega

theorem leN_step {l : List UInt8} {k : Nat} (h : k < l.length) : leN (l.take (k + 1)) = leN (l.take k) + l[k].toNat * 2 ^ (8 * k) := by
  rw [List.take_succ_eq_append_getElem h, leN_append]
  simp [leN, Nat.min_eq_left (Nat.le_of_lt h), Nat.mul_comm]

def S_le_Value (P : Prg) (f : Nat) : Prop := ∀ l : List UInt8, 1 ≤ l.length → l.length ≤ 8 → VC P f [bs l] (.tup [.int .u64 (leN l), .int .i64 0])

set_option maxRecDepth 10000 in
theorem le_Value {P : Prg} {f : Nat} (b : Body P f 31 [.tmp 2, .tmp 3] ac_le_Value) : S_le_Value P f := by
  intro l h1 h2
  refine VC.of_acall (by simp [isDL, isD_bs]) rfl (ACall.of_body b (by simp) ?_)
  have d1 : ¬ ((l.length : Int) < 1) := by omega
  have d2 : ¬ ((8 : Int) < l.length) := by omega
  simp only [abv, walk, ev, okW, onlyFr, Bool.false_and, sealw, aop, cV, cV1, List.length_nil, List.length_cons, List.map_nil, List.map_cons, List.cons_append, List.nil_append, ↓reduceIte, Nat.reduceEqDiff, Nat.reduceAdd, Option.map_some, Option.map_none, Option.bind_some, decide_true, decide_false, Bool.false_eq_true, Bool.not_true, Bool.not_false, Int.toNat_natCast, List.getElem?_cons_zero, List.getElem?_cons_succ, Int.natCast_add, Int.cast_ofNat_Int, true_and, and_true, and_self, if_true, if_false, u8_length, Nat.mul_one, Nat.one_mul, Nat.zero_add, Nat.add_zero, List.drop_zero, beq_self_eq_true, Bool.and_self, Bool.and_true, Bool.true_and, AV.one, List.all_cons, List.all_nil, repCells, fillA, partCells, Nat.reduceLT, Nat.reduceLeDiff, Nat.reduceBEq, Nat.reduceMul, Nat.reduceSub, Int.reduceLT, Int.reduceLE, Int.reduceAdd, Int.reduceSub, Int.reduceMul, Int.reduceToNat, List.take_nil, List.drop_nil, List.take_zero, List.append_nil, sliceCells, cellsAt, srcA, app, List.set_cons_zero, List.set_cons_succ, List.length_set, Nat.le_refl, Nat.zero_le, List.take_length, decU8_u8, reduceCtorEq, List.drop_succ_cons, List.take_succ_cons, Int.reduceEq, ac_le_Value, bs, d1, d2]
  refine ALoop.by (ι := Nat) (fun k => ⟨[(17, .int .i64 k), (16, .int .i64 l.length), (15, .list l.length (u8 l)), (4, .int .u64 (leN (l.take k)))], []⟩) (fun k => k ≤ l.length) (fun k => l.length - k) 0 (Le.slots (by simp [Am.look, leN])) (by omega) ?_
  intro k hk
  by_cases hlt : k < l.length
  · have e1 : (k : Int) < l.length := by omega
    have e2 : (0 : Int) ≤ k := by omega
    have e4 := drop_u8 hlt
    have e5 : IntKind.u64.wrap ((l[k].toNat : Nat) : Int) = (l[k].toNat : Nat) := wrap_u64 (by omega) (by have := l[k].toNat_lt; omega)
    have e6 : IntKind.i64.wrap (8 * (k : Int)) = (8 * k : Nat) := by rw [wrap_i64] <;> omega
    have e7 : shiftA true .u64 ((l[k].toNat : Nat) : Int) ((8 * k : Nat) : Int) = some (.int .u64 ((l[k].toNat * 2 ^ (8 * k) : Nat) : Int)) := shl_u64 (by omega) (by
      have h1 := l[k].toNat_lt
      have h2 : 2 ^ (8 * k) ≤ 2 ^ 56 := Nat.pow_le_pow_right (by omega) (by omega)
      calc l[k].toNat * 2 ^ (8 * k) ≤ 255 * 2 ^ 56 := Nat.mul_le_mul (by omega) h2
        _ < _ := by omega)
    have e8 : leN (l.take (k + 1)) < 18446744073709551616 := leN_lt64 (by simp; omega)
    have e9 := leN_step hlt
    have e10 : leN (l.take k) < 2 ^ (8 * k) := by have := leN_lt (l.take k); rwa [List.length_take, Nat.min_eq_left hk] at this
    have e11 : IntKind.u64.wrap (BitVec.ofInt IntKind.u64.bits (leN (l.take k) : Nat) ||| BitVec.ofInt IntKind.u64.bits (l[k].toNat * 2 ^ (8 * k) : Nat)).toNat = (leN (l.take (k + 1)) : Nat) := by
      rw [or_u64 _ _ (by omega) (by omega), or_add e10, e9]
    have e12 : IntKind.i64.wrap ((k : Int) + 1) = ((k + 1 : Nat) : Int) := by rw [wrap_i64] <;> omega
    simp only [abv, walk, ev, okW, onlyFr, Bool.false_and, sealw, aop, cV, cV1, List.length_nil, List.length_cons, List.map_nil, List.map_cons, List.cons_append, List.nil_append, ↓reduceIte, Nat.reduceEqDiff, Nat.reduceAdd, Option.map_some, Option.map_none, Option.bind_some, decide_true, decide_false, Bool.false_eq_true, Bool.not_true, Bool.not_false, Int.toNat_natCast, List.getElem?_cons_zero, List.getElem?_cons_succ, Int.natCast_add, Int.cast_ofNat_Int, true_and, and_true, and_self, if_true, if_false, u8_length, Nat.mul_one, Nat.one_mul, Nat.zero_add, Nat.add_zero, List.drop_zero, beq_self_eq_true, Bool.and_self, Bool.and_true, Bool.true_and, AV.one, List.all_cons, List.all_nil, repCells, fillA, partCells, Nat.reduceLT, Nat.reduceLeDiff, Nat.reduceBEq, Nat.reduceMul, Nat.reduceSub, Int.reduceLT, Int.reduceLE, Int.reduceAdd, Int.reduceSub, Int.reduceMul, Int.reduceToNat, List.take_nil, List.drop_nil, List.take_zero, List.append_nil, sliceCells, cellsAt, srcA, app, List.set_cons_zero, List.set_cons_succ, List.length_set, Nat.le_refl, Nat.zero_le, List.take_length, decU8_u8, reduceCtorEq, List.drop_succ_cons, List.take_succ_cons, Int.reduceEq, e1, e2, hlt, e4, e5, e6, e7, e11, e12]
    exact ⟨k + 1, by omega, by omega, Le.slots (by simp [Am.look])⟩
  · have e1 : ¬ (k : Int) < l.length := by omega
    have e2 : k = l.length := by omega
    subst e2
    simp only [abv, walk, ev, okW, onlyFr, Bool.false_and, sealw, aop, cV, cV1, List.length_nil, List.length_cons, List.map_nil, List.map_cons, List.cons_append, List.nil_append, ↓reduceIte, Nat.reduceEqDiff, Nat.reduceAdd, Option.map_some, Option.map_none, Option.bind_some, decide_true, decide_false, Bool.false_eq_true, Bool.not_true, Bool.not_false, Int.toNat_natCast, List.getElem?_cons_zero, List.getElem?_cons_succ, Int.natCast_add, Int.cast_ofNat_Int, true_and, and_true, and_self, if_true, if_false, u8_length, Nat.mul_one, Nat.one_mul, Nat.zero_add, Nat.add_zero, List.drop_zero, beq_self_eq_true, Bool.and_self, Bool.and_true, Bool.true_and, AV.one, List.all_cons, List.all_nil, repCells, fillA, partCells, Nat.reduceLT, Nat.reduceLeDiff, Nat.reduceBEq, Nat.reduceMul, Nat.reduceSub, Int.reduceLT, Int.reduceLE, Int.reduceAdd, Int.reduceSub, Int.reduceMul, Int.reduceToNat, List.take_nil, List.drop_nil, List.take_zero, List.append_nil, sliceCells, cellsAt, srcA, app, List.set_cons_zero, List.set_cons_succ, List.length_set, Nat.le_refl, Nat.zero_le, List.take_length, decU8_u8, reduceCtorEq, List.drop_succ_cons, List.take_succ_cons, Int.reduceEq, e1, List.take_length]

/-! ### layer 1's reference -/

end Go.Am

namespace Go.Am
open Go.RowKit

theorem isT_u8 (l : List UInt8) : isTL (u8 l) = true := by
  induction l with
  | nil => rfl
  | cons x l ih => simp [u8_cons, isTL, isT, ih]
def S_bytes_Clone (P : Prg) (f : Nat) : Prop := ∀ l : List UInt8, l.length < 140737488355328 → VC P f [bs l] (bs l)

set_option maxRecDepth 10000 in
theorem bytes_Clone {P : Prg} {f t0 : Nat} (b : Body P f 8 [.tmp 2] (ac_bytes_Clone t0)) : S_bytes_Clone P f := by
  intro l hl
  refine VC.of_walk 1 (by simp [isDL, isD_bs]) (isD_bs l) (ACall.of_body b (by simp) ?_)
  have fin : ∀ ob, ob = [⟨t0, 1, l.length, u8 l, 0⟩] → frzN (fun _ => true) ob (1 + 1) [.own 0 l.length] = some [bs l] := by
    rintro ob rfl
    simp only [frzN, frzK, frzL, frzV, Bool.false_eq_true, if_false, List.getElem?_cons_zero, and_self, if_true, frzL_T _ (isT_u8 l), Option.map_some]
    rfl
  have d1 : l.length * 1 ≤ 140737488355328 := by omega
  have d2 : l.length ≤ 9223372036854775807 := by omega
  by_cases h0 : l = []
  · subst h0
    simp only [abv, walk, ev, okW, onlyFr, Bool.false_and, sealw, aop, cV, cV1, List.length_nil, List.length_cons, List.map_nil, List.map_cons, List.cons_append, List.nil_append, ↓reduceIte, Nat.reduceEqDiff, Nat.reduceAdd, Option.map_some, Option.map_none, Option.bind_some, decide_true, decide_false, Bool.false_eq_true, Bool.not_true, Bool.not_false, Int.toNat_natCast, List.getElem?_cons_zero, List.getElem?_cons_succ, Int.natCast_add, Int.cast_ofNat_Int, true_and, and_true, and_self, if_true, if_false, u8_length, Nat.mul_one, Nat.one_mul, Nat.zero_add, Nat.add_zero, List.drop_zero, beq_self_eq_true, Bool.and_self, Bool.and_true, Bool.true_and, AV.one, List.all_cons, List.all_nil, repCells, fillA, partCells, Nat.reduceLT, Nat.reduceLeDiff, Nat.reduceBEq, Nat.reduceMul, Nat.reduceSub, Int.reduceLT, Int.reduceLE, Int.reduceAdd, Int.reduceSub, Int.reduceMul, Int.reduceToNat, List.take_nil, List.drop_nil, List.take_zero, List.append_nil, sliceCells, cellsAt, srcA, app, List.set_cons_zero, List.set_cons_succ, List.length_set, Nat.le_refl, Nat.zero_le, List.take_length, decU8_u8, reduceCtorEq, List.drop_succ_cons, List.take_succ_cons, Int.reduceEq, ac_bytes_Clone, bs, nilA, u8_nil]
    simp [frzN, frzK, frzL, frzV, isDL]
  · have h1 : l.length ≠ 0 := by simpa using h0
    have d3 : l.length ≤ 140737488355328 := by omega
    simp only [abv, walk, ev, okW, onlyFr, Bool.false_and, sealw, aop, cV, cV1, List.length_nil, List.length_cons, List.map_nil, List.map_cons, List.cons_append, List.nil_append, ↓reduceIte, Nat.reduceEqDiff, Nat.reduceAdd, Option.map_some, Option.map_none, Option.bind_some, decide_true, decide_false, Bool.false_eq_true, Bool.not_true, Bool.not_false, Int.toNat_natCast, List.getElem?_cons_zero, List.getElem?_cons_succ, Int.natCast_add, Int.cast_ofNat_Int, true_and, and_true, and_self, if_true, if_false, u8_length, Nat.mul_one, Nat.one_mul, Nat.zero_add, Nat.add_zero, List.drop_zero, beq_self_eq_true, Bool.and_self, Bool.and_true, Bool.true_and, AV.one, List.all_cons, List.all_nil, repCells, fillA, partCells, Nat.reduceLT, Nat.reduceLeDiff, Nat.reduceBEq, Nat.reduceMul, Nat.reduceSub, Int.reduceLT, Int.reduceLE, Int.reduceAdd, Int.reduceSub, Int.reduceMul, Int.reduceToNat, List.take_nil, List.drop_nil, List.take_zero, List.append_nil, sliceCells, cellsAt, srcA, app, List.set_cons_zero, List.set_cons_succ, List.length_set, Nat.le_refl, Nat.zero_le, List.take_length, decU8_u8, reduceCtorEq, List.drop_succ_cons, List.take_succ_cons, Int.reduceEq, ac_bytes_Clone, bs, nilA, h1, d2, d3]
    exact fin _ rfl

end Go.Am

namespace Go.Am
open Go.RowKit

def half (b : Int) : Int := if b = 8 then 128 else if b = 16 then 32768 else if b = 24 then 8388608 else 0

theorem half_cases (b : Int) : (b = 8 ∧ half b = 128) ∨ (b = 16 ∧ half b = 32768) ∨ (b = 24 ∧ half b = 8388608) ∨ (b ≠ 8 ∧ b ≠ 16 ∧ b ≠ 24 ∧ half b = 0) := by
  unfold half; split <;> (try split) <;> (try split) <;> omega

def rangeA (b : Int) : AV := if half b = 0 then .tup [.int .i32 0, .int .i32 0, .int .i64 2] else .tup [.int .i32 (-half b), .int .i32 (half b - 1), .int .i64 0]

def S_Range (P : Prg) (f : Nat) : Prop := ∀ b : Int, VC P f [.int .i64 b] (rangeA b)

theorem width_Range {P : Prg} {f : Nat} (b : Body P f 18 [.tmp 2, .tmp 3, .tmp 4] ac_width_Range) : S_Range P f := by
  intro x
  refine VC.of_acall rfl (by unfold rangeA; split <;> rfl) (ACall.of_body b (by simp) ?_)
  rcases half_cases x with ⟨rfl, h⟩ | ⟨rfl, h⟩ | ⟨rfl, h⟩ | ⟨h1, h2, h3, h⟩
  · simp (maxSteps := 4000000) (disch := omega) only [abv, step, stepv, ev, wl, wn, wp, wz, aop, cV, cV1, AV.one, partCells, okW, onlyFr, app, sliceCells, cellsAt, srcA, subA, eqFs, Int.cast_ofNat_Int, simprocAttr, ac_width_Range, rangeA, h]
    rfl
  · simp (maxSteps := 4000000) (disch := omega) only [abv, step, stepv, ev, wl, wn, wp, wz, aop, cV, cV1, AV.one, partCells, okW, onlyFr, app, sliceCells, cellsAt, srcA, subA, eqFs, Int.cast_ofNat_Int, simprocAttr, ac_width_Range, rangeA, h]
    rfl
  · simp (maxSteps := 4000000) (disch := omega) only [abv, step, stepv, ev, wl, wn, wp, wz, aop, cV, cV1, AV.one, partCells, okW, onlyFr, app, sliceCells, cellsAt, srcA, subA, eqFs, Int.cast_ofNat_Int, simprocAttr, ac_width_Range, rangeA, h]
    rfl
  · simp (maxSteps := 4000000) (disch := omega) only [abv, step, stepv, ev, wl, wn, wp, wz, aop, cV, cV1, AV.one, partCells, okW, onlyFr, app, sliceCells, cellsAt, srcA, subA, eqFs, Int.cast_ofNat_Int, simprocAttr, ac_width_Range, rangeA, h]

end Go.Am

namespace Go.Am
open Go.RowKit

def il (l : List Int) : AV := .list l.length (ks .i32 l)
theorem isD_il (l : List Int) : isD (il l) = true := by simp [il, isD, isDL_ks]

def inR (b x : Int) : Bool := decide (-half b ≤ x) && decide (x < half b)
def checkN (b : Int) (l : List Int) : Int := if half b = 0 then 2 else if 4000 < l.length then 4 else if l.all (inR b) then 0 else 16
def I32 (l : List Int) : Prop := ∀ x ∈ l, -2147483648 ≤ x ∧ x ≤ 2147483647
def S_WCheck (P : Prg) (f : Nat) : Prop := ∀ (b : Int) (l : List Int), I32 l → VC P f [.int .i64 b, il l] (.int .i64 (checkN b l))

theorem all_take_step {l : List Int} {k : Nat} (h : k < l.length) {p : Int → Bool} : (l.take (k + 1)).all p = ((l.take k).all p && p l[k]) := by
  rw [List.take_succ_eq_append_getElem h, List.all_append]; simp

theorem not_all_of {l : List Int} {k : Nat} (h : k < l.length) {p : Int → Bool} (hp : p l[k] = false) : l.all p = false := by
  rw [List.all_eq_false]
  exact ⟨l[k], List.getElem_mem h, by simp [hp]⟩

set_option maxRecDepth 10000 in
theorem width_Check {P : Prg} {f fR : Nat} (b : Body P f 37 [.tmp 4] (ac_width_Check fR)) (hR : S_Range P fR) : S_WCheck P f := by
  intro x l hl
  refine VC.of_acall (by simp [isDL, isD, isD_il]) rfl (ACall.of_body b (by simp) ?_)
  simp (maxSteps := 4000000) (disch := omega) only [abv, step, stepv, ev, wl, wn, wp, wz, aop, cV, cV1, AV.one, partCells, okW, onlyFr, app, sliceCells, cellsAt, srcA, subA, eqFs, Int.cast_ofNat_Int, simprocAttr, ac_width_Check]
  refine callQ.vc (hR x) ?_
  by_cases h0 : half x = 0
  · simp (maxSteps := 4000000) (disch := omega) only [abv, step, stepv, ev, wl, wn, wp, wz, aop, cV, cV1, AV.one, partCells, okW, onlyFr, app, sliceCells, cellsAt, srcA, subA, eqFs, Int.cast_ofNat_Int, simprocAttr, rangeA, checkN, h0]
  have h3 : half x = 128 ∨ half x = 32768 ∨ half x = 8388608 := by rcases half_cases x with h | h | h | h <;> omega
  by_cases h1 : 4000 < l.length
  · simp (maxSteps := 4000000) (disch := omega) only [abv, step, stepv, ev, wl, wn, wp, wz, aop, cV, cV1, AV.one, partCells, okW, onlyFr, app, sliceCells, cellsAt, srcA, subA, eqFs, Int.cast_ofNat_Int, simprocAttr, rangeA, checkN, h0, il, h1]
  simp (maxSteps := 4000000) (disch := omega) only [abv, step, stepv, ev, wl, wn, wp, wz, aop, cV, cV1, AV.one, partCells, okW, onlyFr, app, sliceCells, cellsAt, srcA, subA, eqFs, Int.cast_ofNat_Int, simprocAttr, rangeA, il, if_neg h0]
  refine ALoop.by (ι := Nat) (fun k => ⟨[(24, .int .i64 k), (23, .int .i64 l.length), (22, il l), (6, .int .i32 (half x - 1)), (5, .int .i32 (-half x))], []⟩) (fun k => k ≤ l.length ∧ (l.take k).all (inR x) = true) (fun k => l.length - k) 0 (Le.slots (by simp [Am.look, il])) ⟨by omega, by simp⟩ ?_
  intro k ⟨hk, hg⟩
  by_cases hlt : k < l.length
  · by_cases hp : -half x ≤ l[k] ∧ l[k] < half x
    · have hs := all_take_step hlt (p := inR x)
      simp (maxSteps := 4000000) (disch := omega) only [abv, step, stepv, ev, wl, wn, wp, wz, aop, cV, cV1, AV.one, partCells, okW, onlyFr, app, sliceCells, cellsAt, srcA, subA, eqFs, Int.cast_ofNat_Int, simprocAttr, il, drop_ks, hlt]
      exact ⟨k + 1, ⟨by omega, by rw [hs, hg]; simp [inR, hp]⟩, by omega, Le.slots (by simp [Am.look, il])⟩
    · have e : checkN x l = 16 := by simp [checkN, h0, h1, not_all_of hlt (p := inR x) (by simp [inR]; omega)]
      by_cases hq : l[k] < -half x
      · simp (maxSteps := 4000000) (disch := omega) only [abv, step, stepv, ev, wl, wn, wp, wz, aop, cV, cV1, AV.one, partCells, okW, onlyFr, app, sliceCells, cellsAt, srcA, subA, eqFs, Int.cast_ofNat_Int, simprocAttr, il, drop_ks, hlt, e]
      · simp (maxSteps := 4000000) (disch := omega) only [abv, step, stepv, ev, wl, wn, wp, wz, aop, cV, cV1, AV.one, partCells, okW, onlyFr, app, sliceCells, cellsAt, srcA, subA, eqFs, Int.cast_ofNat_Int, simprocAttr, il, drop_ks, hlt, e]
  · have e2 : k = l.length := by omega
    subst e2
    rw [List.take_length] at hg
    simp (maxSteps := 4000000) (disch := omega) only [abv, step, stepv, ev, wl, wn, wp, wz, aop, cV, cV1, AV.one, partCells, okW, onlyFr, app, sliceCells, cellsAt, srcA, subA, eqFs, Int.cast_ofNat_Int, simprocAttr, il, checkN, h0, h1, hg]

def S_Half (P : Prg) (f : Nat) : Prop := ∀ x : Int, VC P f [.int .i64 x] (.int .i64 (half x))

theorem ref18_Half {P : Prg} {f : Nat} (b : Body P f 10 [.tmp 2] ac_cadenzaref18_Half) : S_Half P f := by
  intro x
  refine VC.of_acall rfl rfl (ACall.of_body b (by simp) ?_)
  rcases half_cases x with ⟨rfl, h⟩ | ⟨rfl, h⟩ | ⟨rfl, h⟩ | ⟨h1, h2, h3, h⟩ <;> simp (maxSteps := 4000000) (disch := omega) only [abv, step, stepv, ev, wl, wn, wp, wz, aop, cV, cV1, AV.one, partCells, okW, onlyFr, app, sliceCells, cellsAt, srcA, subA, eqFs, Int.cast_ofNat_Int, simprocAttr, ac_cadenzaref18_Half, h]

set_option maxRecDepth 10000 in
theorem ref18_Check {P : Prg} {f fH : Nat} (b : Body P f 37 [.tmp 4] (ac_cadenzaref18_Check fH)) (hH : S_Half P fH) : S_WCheck P f := by
  intro x l hl
  refine VC.of_acall (by simp [isDL, isD, isD_il]) rfl (ACall.of_body b (by simp) ?_)
  simp (maxSteps := 4000000) (disch := omega) only [abv, step, stepv, ev, wl, wn, wp, wz, aop, cV, cV1, AV.one, partCells, okW, onlyFr, app, sliceCells, cellsAt, srcA, subA, eqFs, Int.cast_ofNat_Int, simprocAttr, ac_cadenzaref18_Check]
  refine callQ.vc (hH x) ?_
  by_cases h0 : half x = 0
  · simp (maxSteps := 4000000) (disch := omega) only [abv, step, stepv, ev, wl, wn, wp, wz, aop, cV, cV1, AV.one, partCells, okW, onlyFr, app, sliceCells, cellsAt, srcA, subA, eqFs, Int.cast_ofNat_Int, simprocAttr, checkN, h0]
  have h3 : half x = 128 ∨ half x = 32768 ∨ half x = 8388608 := by rcases half_cases x with h | h | h | h <;> omega
  by_cases h1 : 4000 < l.length
  · simp (maxSteps := 4000000) (disch := omega) only [abv, step, stepv, ev, wl, wn, wp, wz, aop, cV, cV1, AV.one, partCells, okW, onlyFr, app, sliceCells, cellsAt, srcA, subA, eqFs, Int.cast_ofNat_Int, simprocAttr, checkN, h0, il, h1]
  simp (maxSteps := 4000000) (disch := omega) only [abv, step, stepv, ev, wl, wn, wp, wz, aop, cV, cV1, AV.one, partCells, okW, onlyFr, app, sliceCells, cellsAt, srcA, subA, eqFs, Int.cast_ofNat_Int, simprocAttr, il]
  refine ALoop.by (ι := Nat) (fun k => ⟨[(6, .int .i64 k), (1, il l), (5, .int .i64 (half x))], []⟩) (fun k => k ≤ l.length ∧ (l.take k).all (inR x) = true) (fun k => l.length - k) 0 (Le.slots (by simp [Am.look, il])) ⟨by omega, by simp⟩ ?_
  intro k ⟨hk, hg⟩
  by_cases hlt : k < l.length
  · have hb := hl _ (List.getElem_mem hlt)
    by_cases hp : -half x ≤ l[k] ∧ l[k] < half x
    · have hs := all_take_step hlt (p := inR x)
      simp (maxSteps := 4000000) (disch := omega) only [abv, step, stepv, ev, wl, wn, wp, wz, aop, cV, cV1, AV.one, partCells, okW, onlyFr, app, sliceCells, cellsAt, srcA, subA, eqFs, Int.cast_ofNat_Int, simprocAttr, il, drop_ks, hlt]
      exact ⟨k + 1, ⟨by omega, by rw [hs, hg]; simp [inR, hp]⟩, by omega, Le.slots (by simp [Am.look, il])⟩
    · have e : checkN x l = 16 := by simp [checkN, h0, h1, not_all_of hlt (p := inR x) (by simp [inR]; omega)]
      by_cases hq : l[k] < -half x
      · simp (maxSteps := 4000000) (disch := omega) only [abv, step, stepv, ev, wl, wn, wp, wz, aop, cV, cV1, AV.one, partCells, okW, onlyFr, app, sliceCells, cellsAt, srcA, subA, eqFs, Int.cast_ofNat_Int, simprocAttr, il, drop_ks, hlt, e]
      · simp (maxSteps := 4000000) (disch := omega) only [abv, step, stepv, ev, wl, wn, wp, wz, aop, cV, cV1, AV.one, partCells, okW, onlyFr, app, sliceCells, cellsAt, srcA, subA, eqFs, Int.cast_ofNat_Int, simprocAttr, il, drop_ks, hlt, e]
  · have e2 : k = l.length := by omega
    subst e2
    rw [List.take_length] at hg
    simp (maxSteps := 4000000) (disch := omega) only [abv, step, stepv, ev, wl, wn, wp, wz, aop, cV, cV1, AV.one, partCells, okW, onlyFr, app, sliceCells, cellsAt, srcA, subA, eqFs, Int.cast_ofNat_Int, simprocAttr, il, checkN, h0, h1, hg]

theorem mod_small {n : Nat} {c : Int} (h : 1 ≤ c) : 0 ≤ (n : Int) % c ∧ (n : Int) % c < c := ⟨Int.emod_nonneg _ (by omega), Int.emod_lt_of_pos _ (by omega)⟩

end Go.Am

namespace Go.Am
open Go.RowKit

def longN (r : Int) : Int := if 256 * r / 245 < 1 then 1 else 256 * r / 245
theorem longN_pos (r : Int) : 1 ≤ longN r := by unfold longN; split <;> omega
theorem longN_le {r : Int} (h : r ≤ 1048576) : longN r ≤ 1095654 := by unfold longN; split <;> omega
def longA (r : Int) : AV := if r < 1 ∨ 1048576 < r then .tup [.int .i64 0, .int .i64 2] else .tup [.int .i64 (longN r), .int .i64 0]
def S_Long22 (P : Prg) (f : Nat) : Prop := ∀ r : Int, VC P f [.int .i64 r] (longA r)

theorem isD_long (r : Int) : isD (longA r) = true := by unfold longA; split <;> rfl

theorem lengths_Long {P : Prg} {f : Nat} (b : Body P f 14 [.tmp 2, .tmp 3] ac_lengths_Long) : S_Long22 P f := by
  intro r
  refine VC.of_acall rfl (isD_long r) (ACall.of_body b (by simp) ?_)
  by_cases h1 : r < 1
  · simp (maxSteps := 4000000) (disch := omega) only [abv, step, stepv, ev, wl, wn, wp, wz, aop, cV, cV1, AV.one, partCells, okW, onlyFr, app, sliceCells, cellsAt, srcA, subA, eqFs, Int.cast_ofNat_Int, simprocAttr, ac_lengths_Long, longA, true_or]
  by_cases h2 : 1048576 < r
  · simp (maxSteps := 4000000) (disch := omega) only [abv, step, stepv, ev, wl, wn, wp, wz, aop, cV, cV1, AV.one, partCells, okW, onlyFr, app, sliceCells, cellsAt, srcA, subA, eqFs, Int.cast_ofNat_Int, simprocAttr, ac_lengths_Long, longA, or_true]
  have h3 : 1 ≤ 256 * r / 245 := by omega
  simp (maxSteps := 4000000) (disch := omega) only [abv, step, stepv, ev, wl, wn, wp, wz, aop, cV, cV1, AV.one, partCells, okW, onlyFr, app, sliceCells, cellsAt, srcA, subA, eqFs, Int.cast_ofNat_Int, simprocAttr, ac_lengths_Long, longA, or_self, longN]
  rw [show (if (1 : Int) < 256 * r / 245 then 256 * r / 245 else 1) = 256 * r / 245 by split <;> omega]

theorem ref22_Long {P : Prg} {f : Nat} (b : Body P f 17 [.tmp 2, .tmp 3] ac_cadenzaref22_Long) : S_Long22 P f := by
  intro r
  refine VC.of_acall rfl (isD_long r) (ACall.of_body b (by simp) ?_)
  by_cases h1 : r < 1
  · simp (maxSteps := 4000000) (disch := omega) only [abv, step, stepv, ev, wl, wn, wp, wz, aop, cV, cV1, AV.one, partCells, okW, onlyFr, app, sliceCells, cellsAt, srcA, subA, eqFs, Int.cast_ofNat_Int, simprocAttr, ac_cadenzaref22_Long, longA, true_or]
  by_cases h2 : 1048576 < r
  · simp (maxSteps := 4000000) (disch := omega) only [abv, step, stepv, ev, wl, wn, wp, wz, aop, cV, cV1, AV.one, partCells, okW, onlyFr, app, sliceCells, cellsAt, srcA, subA, eqFs, Int.cast_ofNat_Int, simprocAttr, ac_cadenzaref22_Long, longA, or_true]
  have e : r * 256 / 245 = 256 * r / 245 := by rw [Int.mul_comm]
  have h3 : 1 ≤ 256 * r / 245 := by omega
  simp (maxSteps := 4000000) (disch := omega) only [abv, step, stepv, ev, wl, wn, wp, wz, aop, cV, cV1, AV.one, partCells, okW, onlyFr, app, sliceCells, cellsAt, srcA, subA, eqFs, Int.cast_ofNat_Int, simprocAttr, ac_cadenzaref22_Long, longA, or_self, longN, e]

def eCheck (c b : Int) : Int := if half b = 0 ∨ c < 1 ∨ 6 < c then 2 else 0
def shA (c b : Int) : AV := .agg [.int .i64 c, .int .i64 b]
def S_ECheck (P : Prg) (f : Nat) : Prop := ∀ c b : Int, VC P f [shA c b] (.int .i64 (eCheck c b))

theorem enframe_Check {P : Prg} {f fR t0 : Nat} (b : Body P f 25 [.tmp 2] (ac_enframe_Check fR t0)) (hR : S_Range P fR) : S_ECheck P f := by
  intro c x
  refine VC.of_acall rfl rfl (ACall.of_body b (by simp) ?_)
  simp (maxSteps := 4000000) (disch := omega) only [abv, step, stepv, ev, wl, wn, wp, wz, aop, cV, cV1, AV.one, partCells, okW, onlyFr, app, sliceCells, cellsAt, srcA, subA, eqFs, Int.cast_ofNat_Int, simprocAttr, ac_enframe_Check, shA]
  refine callQ.vc (hR x) ?_
  by_cases h0 : half x = 0
  · simp (maxSteps := 4000000) (disch := omega) only [abv, step, stepv, ev, wl, wn, wp, wz, aop, cV, cV1, AV.one, partCells, okW, onlyFr, app, sliceCells, cellsAt, srcA, subA, eqFs, Int.cast_ofNat_Int, simprocAttr, rangeA, h0, eCheck, true_or]
  by_cases h1 : c < 1
  · simp (maxSteps := 4000000) (disch := omega) only [abv, step, stepv, ev, wl, wn, wp, wz, aop, cV, cV1, AV.one, partCells, okW, onlyFr, app, sliceCells, cellsAt, srcA, subA, eqFs, Int.cast_ofNat_Int, simprocAttr, rangeA, if_neg h0, eCheck, h0, or_true, true_or]
  by_cases h2 : 6 < c
  · simp (maxSteps := 4000000) (disch := omega) only [abv, step, stepv, ev, wl, wn, wp, wz, aop, cV, cV1, AV.one, partCells, okW, onlyFr, app, sliceCells, cellsAt, srcA, subA, eqFs, Int.cast_ofNat_Int, simprocAttr, rangeA, if_neg h0, eCheck, h0, or_true]
  · simp (maxSteps := 4000000) (disch := omega) only [abv, step, stepv, ev, wl, wn, wp, wz, aop, cV, cV1, AV.one, partCells, okW, onlyFr, app, sliceCells, cellsAt, srcA, subA, eqFs, Int.cast_ofNat_Int, simprocAttr, rangeA, if_neg h0, eCheck, h0, or_self]

theorem ref20_Check {P : Prg} {f fH t0 : Nat} (b : Body P f 17 [.tmp 2] (ac_cadenzaref20_Check fH t0)) (hH : S_Half P fH) : S_ECheck P f := by
  intro c x
  refine VC.of_acall rfl rfl (ACall.of_body b (by simp) ?_)
  have hx := half_cases x
  by_cases h1 : c < 1
  · simp (maxSteps := 4000000) (disch := omega) only [abv, step, stepv, ev, wl, wn, wp, wz, aop, cV, cV1, AV.one, partCells, okW, onlyFr, app, sliceCells, cellsAt, srcA, subA, eqFs, Int.cast_ofNat_Int, simprocAttr, ac_cadenzaref20_Check, shA, eCheck, or_true, true_or]
  by_cases h2 : 6 < c
  · simp (maxSteps := 4000000) (disch := omega) only [abv, step, stepv, ev, wl, wn, wp, wz, aop, cV, cV1, AV.one, partCells, okW, onlyFr, app, sliceCells, cellsAt, srcA, subA, eqFs, Int.cast_ofNat_Int, simprocAttr, ac_cadenzaref20_Check, shA, eCheck, or_true]
  simp (maxSteps := 4000000) (disch := omega) only [abv, step, stepv, ev, wl, wn, wp, wz, aop, cV, cV1, AV.one, partCells, okW, onlyFr, app, sliceCells, cellsAt, srcA, subA, eqFs, Int.cast_ofNat_Int, simprocAttr, ac_cadenzaref20_Check, shA]
  refine callQ.vc (hH x) ?_
  by_cases h0 : half x = 0
  · simp (maxSteps := 4000000) (disch := omega) only [abv, step, stepv, ev, wl, wn, wp, wz, aop, cV, cV1, AV.one, partCells, okW, onlyFr, app, sliceCells, cellsAt, srcA, subA, eqFs, Int.cast_ofNat_Int, simprocAttr, h0, eCheck, true_or]
  · simp (maxSteps := 4000000) (disch := omega) only [abv, step, stepv, ev, wl, wn, wp, wz, aop, cV, cV1, AV.one, partCells, okW, onlyFr, app, sliceCells, cellsAt, srcA, subA, eqFs, Int.cast_ofNat_Int, simprocAttr, h0, eCheck, or_self]
end Go.Am

namespace Go.Am
open Go.RowKit

structure Enc where
  ch : Int
  bits : Int
  rate : Int
  pw : List UInt8
  rest : List UInt8
  smp : List Int
  frs : List (List UInt8)
  out : List UInt8
  done : Bool
  err : Int

def bss (l : List (List UInt8)) : AV := .list l.length (l.map bs)
def encL (e : Enc) : List AV := [.int .i64 e.ch, .int .i64 e.bits, .int .i64 e.rate, .str e.pw, bs e.rest, il e.smp, bss e.frs, bs e.out, .bool e.done, .int .i64 e.err]
theorem isDL_bss : ∀ l : List (List UInt8), isDL (l.map bs) = true
  | [] => rfl
  | x :: l => by simp [isDL, isD_bs, isDL_bss l]
theorem isD_bss (l : List (List UInt8)) : isD (bss l) = true := by simp [bss, isD, isDL_bss]
end Go.Am

namespace Go.Am
open Go.RowKit

/-! ### slices.IndexFunc, slices.ContainsFunc at elements of one cell -/

theorem isTL_bss : ∀ l : List (List UInt8), isTL (l.map bs) = true
  | [] => rfl
  | x :: l => by
    have : isT (bs x) = true := by simp [bs, isT]; induction x with | nil => rfl | cons y x ih => simp [u8_cons, isTL, isT, ih]
    simp [isTL, this, isTL_bss l]

/-! ### feeding -/

end Go.Am

namespace Go.Am
open Go.RowKit

theorem flatten_one {α : Type} (f : α → AV) : ∀ l : List α, (l.map fun x => [f x]).flatten = l.map f
  | [] => rfl
  | x :: l => by simp [flatten_one f l]

theorem fits_u8s {L : List (List AV)} (h : ∀ c ∈ L, Fits (.int .u8) c) : ∃ l : List UInt8, L.length = l.length ∧ AV.list L.length L.flatten = bs l := by
  obtain ⟨l, rfl, _⟩ := map_of_all (f := fun b : UInt8 => [AV.int .u8 b.toNat]) (q := fun _ => True) h (fun c hc => by
    simp only [Fits] at hc
    obtain ⟨n, rfl, h1, h2⟩ := hc
    simp only [IntKind.min, IntKind.max, IntKind.signed, IntKind.bits] at h1 h2
    refine ⟨UInt8.ofNat n.toNat, ?_, trivial⟩
    simp at h1 h2
    simp; omega)
  exact ⟨l, by simp, by simp [bs, u8, flatten_one]⟩

theorem fits_ints {K : IntKind} {L : List (List AV)} (h : ∀ c ∈ L, Fits (.int K) c) : ∃ l : List Int, L.length = l.length ∧ AV.list L.length L.flatten = .list l.length (ks K l) ∧ ∀ x ∈ l, K.min ≤ x ∧ x ≤ K.max := by
  obtain ⟨l, rfl, h2⟩ := map_of_all (f := fun n : Int => [AV.int K n]) (q := fun x => K.min ≤ x ∧ x ≤ K.max) h (fun c hc => by
    simp only [Fits] at hc
    obtain ⟨n, rfl, h1, h2⟩ := hc
    exact ⟨n, rfl, h1, h2⟩)
  exact ⟨l, by simp, by simp [ks, flatten_one], h2⟩

def isStr (P : Program) (t : TypeId) : Bool := match P.underlying t with | some (.struct _) => true | _ => false
def isArr (P : Program) (t : TypeId) : Bool := match P.underlying t with | some (.array _ _) => true | _ => false
def isSl (P : Program) (t : TypeId) : Bool := match P.underlying t with | some (.slice _) => true | _ => false
theorem isStr_eq {P : Program} {t : TypeId} (h : isStr P t = true) : ∃ fs, P.underlying t = some (.struct fs) := by
  unfold isStr at h; split at h
  · exact ⟨_, by assumption⟩
  · cases h
theorem isArr_eq {P : Program} {t : TypeId} (h : isArr P t = true) : ∃ n e, P.underlying t = some (.array n e) := by
  unfold isArr at h; split at h
  · exact ⟨_, _, by assumption⟩
  · cases h
theorem isSl_eq {P : Program} {t : TypeId} (h : isSl P t = true) : ∃ e, P.underlying t = some (.slice e) := by
  unfold isSl at h; split at h
  · exact ⟨_, by assumption⟩
  · cases h

end Go.Am

namespace Go.Am
open Go.RowKit

theorem fits_i32s {L : List (List AV)} (h : ∀ c ∈ L, Fits (.int .i32) c) : ∃ l : List Int, L.length = l.length ∧ AV.list L.length L.flatten = il l ∧ I32 l := by
  obtain ⟨l, h1, h2, h3⟩ := fits_ints h
  exact ⟨l, h1, h2, fun x hx => by have := h3 x hx; simpa [IntKind.min, IntKind.max, IntKind.signed, IntKind.bits] using this⟩

theorem fits_bss {L : List (List AV)} (h : ∀ c ∈ L, Fits (.slice (.int .u8)) c) : ∃ l : List (List UInt8), L.length = l.length ∧ AV.list L.length L.flatten = bss l ∧ ∀ x ∈ l, x.length ≤ maxLen := by
  obtain ⟨l, rfl, h2⟩ := map_of_all (f := fun b : List UInt8 => [bs b]) (q := fun x => x.length ≤ maxLen) h (fun c hc => by
    simp only [Fits] at hc
    obtain ⟨L', rfl, h1, h2⟩ := hc
    obtain ⟨l, h3, h4⟩ := fits_u8s h2
    exact ⟨l, by rw [h4], by omega⟩)
  exact ⟨l, by simp, by simp [bss, flatten_one], h2⟩

def shSh : Sh := .tuple [.int .i64, .int .i64]
def encSh : Sh := .tuple [shSh, .int .i64, .str, .slice (.int .u8), .slice (.int .i32), .slice (.slice (.int .u8)), .slice (.int .u8), .bool, .int .i64]

theorem fits_shape {cs0 : List AV} (h : Fits shSh cs0) : ∃ c b : Int, cs0 = [.int .i64 c, .int .i64 b] := by
  simp only [shSh, Fits, FitsL] at h
  obtain ⟨_, _, rfl, ⟨c, rfl, _⟩, _, _, rfl, ⟨b, rfl, _⟩, rfl⟩ := h
  exact ⟨c, b, rfl⟩

theorem fits_enc {cs0 : List AV} (h : Fits encSh cs0) : ∃ e : Enc, cs0 = encL e ∧ I32 e.smp := by
  simp only [encSh, Fits, FitsL] at h
  obtain ⟨_, _, rfl, h1, _, _, rfl, ⟨r, rfl, _⟩, _, _, rfl, ⟨p, rfl, _⟩, _, _, rfl, ⟨L1, rfl, _, h2⟩, _, _, rfl, ⟨L2, rfl, _, h3⟩, _, _, rfl, ⟨L3, rfl, _, h4⟩, _, _, rfl, ⟨L4, rfl, _, h5⟩, _, _, rfl, ⟨d, rfl⟩, _, _, rfl, ⟨x, rfl, _⟩, rfl⟩ := h
  obtain ⟨c, b, rfl⟩ := fits_shape h1
  obtain ⟨l1, _, e1⟩ := fits_u8s (L := L1) (fun c hc => by simp only [Fits]; exact h2 c hc)
  obtain ⟨l2, _, e2, hi⟩ := fits_i32s (L := L2) (fun c hc => by simp only [Fits]; exact h3 c hc)
  obtain ⟨l3, _, e3, _⟩ := fits_bss (L := L3) (fun c hc => by simp only [Fits]; exact h4 c hc)
  obtain ⟨l4, _, e4⟩ := fits_u8s (L := L4) (fun c hc => by simp only [Fits]; exact h5 c hc)
  exact ⟨⟨c, b, r, p, l1, l2, l3, l4, d, x⟩, by simp [encL, e1, e2, e3, e4], hi⟩
end Go.Am

namespace Go.Am
open Go.RowKit

def w32 (x : Int) : Int := IntKind.i32.wrap x
theorem w32_eq (x : Int) : w32 x = (x + 2147483648) % 4294967296 - 2147483648 := by
  simp [w32, IntKind.wrap, IntKind.bits, IntKind.signed]; split <;> omega
theorem w32_add (a b : Int) : w32 (w32 a + w32 b) = w32 (a + b) := by simp only [w32_eq]; omega
theorem w32_addl (a b : Int) : w32 (w32 a + b) = w32 (a + b) := by simp only [w32_eq]; omega
theorem w32_id {a : Int} (h1 : -2147483648 ≤ a) (h2 : a ≤ 2147483647) : w32 a = a := wrap_i32 h1 h2
theorem w32_rng (a : Int) : -2147483648 ≤ w32 a ∧ w32 a ≤ 2147483647 := by simp only [w32_eq]; omega
theorem w32_def (x : Int) : IntKind.i32.wrap x = w32 x := rfl

theorem getD_mem {l : List Int} (h : I32 l) (k : Nat) : -2147483648 ≤ l.getD k 0 ∧ l.getD k 0 ≤ 2147483647 := by
  rw [List.getD_eq_getElem?_getD]
  cases hk : l[k]? with
  | none => simp
  | some v => exact h v (List.mem_of_getElem? hk)

theorem ks_get {K : IntKind} {l : List Int} {k : Nat} (h : k < l.length) : (ks K l)[k]? = some (.int K (l.getD k 0)) := by
  simp [ks, List.getD_eq_getElem?_getD, List.getElem?_eq_getElem h]

structure Filt where
  sh : Int
  tp : List Int
  ps : List Int

def filtL (f : Filt) : List AV := .int .i64 f.sh :: (ks .i32 f.tp ++ ks .i32 f.ps)
def okFl (f : Filt) : Prop := f.tp.length = 16 ∧ f.ps.length = 16 ∧ I32 f.tp ∧ I32 f.ps

theorem filt_len {f : Filt} (h : okFl f) : (filtL f).length = 33 := by
  obtain ⟨h1, h2, _⟩ := h
  simp [filtL, ks_length, h1, h2]
theorem filt_one (f : Filt) : (filtL f).all AV.one = true := by
  simp only [filtL, List.all_cons, List.all_append, ks_one]; rfl
theorem isDL_filt (f : Filt) : isDL (filtL f) = true := by
  have : ∀ a b, isDL (ks .i32 a ++ ks .i32 b) = true := fun a b => by rw [ks_append]; exact isDL_ks _ _
  simp [filtL, isDL, isD, this]
theorem filt_taps {f : Filt} (h : okFl f) : ((filtL f).drop 1).take 16 = ks .i32 f.tp := by
  obtain ⟨h1, h2, _⟩ := h
  simp only [filtL, List.drop_succ_cons, List.drop_zero]
  rw [List.take_left' (by simp [ks_length, h1])]
theorem filt_pasts {f : Filt} (h : okFl f) : ((filtL f).drop 17).take 16 = ks .i32 f.ps := by
  obtain ⟨h1, h2, _⟩ := h
  simp only [filtL, List.drop_succ_cons]
  rw [List.drop_left' (by simp [ks_length, h1]), List.take_of_length_le (by simp [ks_length, h2])]
theorem filt_tap {f : Filt} (h : okFl f) {k : Nat} (hk : k < 16) : (filtL f).drop (1 + k) = .int .i32 (f.tp.getD k 0) :: ((ks .i32 f.tp).drop (k + 1) ++ ks .i32 f.ps) := by
  obtain ⟨h1, h2, _⟩ := h
  rw [Nat.add_comm]
  simp only [filtL, List.drop_succ_cons]
  rw [List.drop_append_of_le_length (by simp [ks_length, h1]; omega), drop_ks (by omega), ← ks_drop]
  simp [List.getD_eq_getElem?_getD, List.getElem?_eq_getElem (show k < f.tp.length by omega)]
theorem filt_past {f : Filt} (h : okFl f) {k : Nat} (hk : k < 16) : (filtL f).drop (17 + k) = .int .i32 (f.ps.getD k 0) :: (ks .i32 f.ps).drop (k + 1) := by
  obtain ⟨h1, h2, _⟩ := h
  rw [show 17 + k = (16 + k) + 1 by omega]
  simp only [filtL, List.drop_succ_cons]
  rw [← List.drop_drop, List.drop_left' (by simp [ks_length, h1]), drop_ks (by omega), ← ks_drop]
  simp [List.getD_eq_getElem?_getD, List.getElem?_eq_getElem (show k < f.ps.length by omega)]
theorem filt_setTap {f : Filt} (h : okFl f) {k : Nat} (hk : k < 16) (v : Int) : (filtL f).take (1 + k) ++ [.int .i32 v] ++ (filtL f).drop (1 + k + 1) = filtL { f with tp := f.tp.set k v } := by
  obtain ⟨h1, h2, _⟩ := h
  rw [Nat.add_comm 1 k]
  simp only [filtL, List.take_succ_cons, List.drop_succ_cons, List.cons_append]
  congr 1
  rw [List.take_append_of_le_length (by simp [ks_length, h1]; omega), List.drop_append_of_le_length (by simp [ks_length, h1]; omega), ← List.append_assoc]
  congr 1
  rw [List.set_eq_take_append_cons_drop, if_pos (by omega)]
  simp [ks]
theorem filt_setPast {f : Filt} (h : okFl f) {k : Nat} (hk : k < 16) (v : Int) : (filtL f).take (17 + k) ++ [.int .i32 v] ++ (filtL f).drop (17 + k + 1) = filtL { f with ps := f.ps.set k v } := by
  obtain ⟨h1, h2, _⟩ := h
  rw [show 17 + k = (16 + k) + 1 by omega]
  simp only [filtL, List.take_succ_cons, List.drop_succ_cons, List.cons_append]
  congr 1
  have e : (ks .i32 f.tp).length = 16 := by simp [ks_length, h1]
  rw [List.take_append, List.take_of_length_le (by omega), e, show 16 + k + 1 = 16 + (k + 1) by omega, ← List.drop_drop, List.drop_left' e, show 16 + k - 16 = k by omega, List.append_assoc, List.append_assoc]
  congr 1
  rw [List.set_eq_take_append_cons_drop, if_pos (by omega)]
  simp [ks]

theorem take_all {α : Type} {l : List α} {n : Nat} (h : l.length ≤ n) : l.take n = l := List.take_of_length_le h

/-! ### taps.New, taps.Check -/

def shiftOf (b : Int) : Int := if b = 16 then 9 else 10
def z16 : List Int := List.replicate 16 0
def newF (b : Int) (t : List Int) : Filt := ⟨shiftOf b, t, z16⟩
def zeroF : Filt := ⟨0, z16, z16⟩
def tnewA (b : Int) (t : List Int) : AV := if half b = 0 then .tup [.agg (filtL zeroF), .int .i64 2] else .tup [.agg (filtL (newF b t)), .int .i64 0]
def S_TNew (P : Prg) (f : Nat) : Prop := ∀ (b : Int) (t : List Int), t.length = 16 → VC P f [.int .i64 b, .agg (ks .i32 t)] (tnewA b t)

theorem isD_tnew (b : Int) (t : List Int) : isD (tnewA b t) = true := by
  unfold tnewA; split <;> simp [isD, isDL, isDL_filt]
theorem zeroF_eq : filtL zeroF = [.int .i64 0, .int .i32 0, .int .i32 0, .int .i32 0, .int .i32 0, .int .i32 0, .int .i32 0, .int .i32 0, .int .i32 0, .int .i32 0, .int .i32 0, .int .i32 0, .int .i32 0, .int .i32 0, .int .i32 0, .int .i32 0, .int .i32 0, .int .i32 0, .int .i32 0, .int .i32 0, .int .i32 0, .int .i32 0, .int .i32 0, .int .i32 0, .int .i32 0, .int .i32 0, .int .i32 0, .int .i32 0, .int .i32 0, .int .i32 0, .int .i32 0, .int .i32 0, .int .i32 0] := rfl

theorem taps_New {P : Prg} {f t0 t1 : Nat} (b : Body P f 18 [.cell 4 t1, .tmp 5] (ac_taps_New t0 t1)) (ht : aggO P t1 = some (some 33)) : S_TNew P f := by
  intro x t hl
  have hk : (ks .i32 t).length = 16 := by simp [ks_length, hl]
  have h1 := ks_one .i32 t
  have tk16 : (ks .i32 t).take 16 = ks .i32 t := take_all (by omega)
  refine VC.of_acall (by simp [isDL, isD, isDL_ks]) (isD_tnew _ _) (ACall.of_body b (by simp) ?_)
  have fin : ∀ s : Int, .int .i64 s :: (ks .i32 t ++ [.int .i32 0, .int .i32 0, .int .i32 0, .int .i32 0, .int .i32 0, .int .i32 0, .int .i32 0, .int .i32 0, .int .i32 0, .int .i32 0, .int .i32 0, .int .i32 0, .int .i32 0, .int .i32 0, .int .i32 0, .int .i32 0]) = filtL ⟨s, t, z16⟩ := fun _ => rfl
  have hl33 : ∀ s : Int, (filtL ⟨s, t, z16⟩).length = 33 := fun s => by simp [filtL, ks_length, hl, z16]
  have ho := fun s => filt_one ⟨s, t, z16⟩
  have tk : ∀ s : Int, (filtL ⟨s, t, z16⟩).take 33 = filtL ⟨s, t, z16⟩ := fun s => take_all (by rw [hl33]; omega)
  have st9 : ([] : List AV) ++ [.int .i64 9] ++ (filtL ⟨10, t, z16⟩).drop 1 = filtL ⟨9, t, z16⟩ := rfl
  have d9 : AV.int .i64 9 :: (filtL ⟨10, t, z16⟩).drop 1 = filtL ⟨9, t, z16⟩ := rfl
  rcases half_cases x with ⟨rfl, h⟩ | ⟨rfl, h⟩ | ⟨rfl, h⟩ | ⟨h2, h3, h4, h⟩
  · simp (maxSteps := 4000000) (disch := omega) only [abv, step, stepv, ev, wl, wn, wp, wz, aop, cV, cV1, AV.one, partCells, okW, onlyFr, app, sliceCells, cellsAt, srcA, subA, eqFs, Int.cast_ofNat_Int, simprocAttr, ac_taps_New, tnewA, h, hk, h1, tk16, fin, hl33, ho, tk, resA, ht, newF, shiftOf]
  · simp (maxSteps := 4000000) (disch := omega) only [abv, step, stepv, ev, wl, wn, wp, wz, aop, cV, cV1, AV.one, partCells, okW, onlyFr, app, sliceCells, cellsAt, srcA, subA, eqFs, Int.cast_ofNat_Int, simprocAttr, ac_taps_New, tnewA, h, hk, h1, tk16, fin, hl33, ho, tk, resA, ht, newF, shiftOf, d9]
  · simp (maxSteps := 4000000) (disch := omega) only [abv, step, stepv, ev, wl, wn, wp, wz, aop, cV, cV1, AV.one, partCells, okW, onlyFr, app, sliceCells, cellsAt, srcA, subA, eqFs, Int.cast_ofNat_Int, simprocAttr, ac_taps_New, tnewA, h, hk, h1, tk16, fin, hl33, ho, tk, resA, ht, newF, shiftOf]
  · simp (maxSteps := 4000000) (disch := omega) only [abv, step, stepv, ev, wl, wn, wp, wz, aop, cV, cV1, AV.one, partCells, okW, onlyFr, app, sliceCells, cellsAt, srcA, subA, eqFs, Int.cast_ofNat_Int, simprocAttr, ac_taps_New, tnewA, h, hk, h1, tk16, fin, hl33, ho, tk, resA, ht, zeroF_eq]

def tchk (s : Int) : Int := if s = 9 ∨ s = 10 then 0 else 8
def S_TCheck (P : Prg) (f : Nat) : Prop := ∀ x : Filt, okFl x → VC P f [.agg (filtL x)] (.int .i64 (tchk x.sh))

theorem tchk9 : tchk 9 = 0 := rfl
theorem tchk10 : tchk 10 = 0 := rfl

/-! ### taps.Guess -/

def dotN (a b : List Int) : Nat → Int
  | 0 => 0
  | k + 1 => dotN a b k + a.getD k 0 * b.getD k 0
def partN (s : Int) : Int := if s = 9 then 512 else 1024
def guessF (f : Filt) : Int := w32 (partN f.sh / 2 + dotN f.tp f.ps 16) / partN f.sh
def S_TGuess (P : Prg) (f : Nat) : Prop := ∀ x : Filt, okFl x → x.sh = 9 ∨ x.sh = 10 → VC P f [.agg (filtL x)] (.tup [.int .i32 (guessF x), .int .i64 0])

theorem guess_rng (f : Filt) (h : f.sh = 9 ∨ f.sh = 10) : -2147483648 ≤ guessF f ∧ guessF f ≤ 2147483647 := by
  have := w32_rng (partN f.sh / 2 + dotN f.tp f.ps 16)
  unfold guessF partN at *
  rcases h with h | h <;> simp [h] at * <;> omega

theorem shl32_8 : shiftA true .i32 1 8 = some (.int .i32 256) := rfl
theorem shl32_9 : shiftA true .i32 1 9 = some (.int .i32 512) := rfl
theorem shr32_9 (s : Int) : shiftA false .i32 s 9 = some (.int .i32 (s / 512)) := by
  show some (AV.int .i32 (s.fdiv 512)) = _
  rw [Int.fdiv_eq_ediv_of_nonneg _ (by omega)]
theorem shr32_10 (s : Int) : shiftA false .i32 s 10 = some (.int .i32 (s / 1024)) := by
  show some (AV.int .i32 (s.fdiv 1024)) = _
  rw [Int.fdiv_eq_ediv_of_nonneg _ (by omega)]

theorem taps_Guess {P : Prg} {f fC t0 : Nat} (b : Body P f 36 [.tmp 2, .tmp 3] (ac_taps_Guess fC t0)) (hC : S_TCheck P fC) : S_TGuess P f := by
  intro x hx hs
  have l33 := filt_len hx
  have tk : (filtL x).take 33 = filtL x := take_all (by omega)
  have ho := filt_one x
  have e1 := filt_taps hx
  have e0 : (filtL x).drop 0 = .int .i64 x.sh :: (ks .i32 x.tp ++ ks .i32 x.ps) := rfl
  have ht : tchk x.sh = 0 := by simp [tchk, hs]
  have hl := hx.1
  refine VC.of_acall (by simp [isDL, isD, isDL_filt]) rfl (ACall.of_body b (by simp) ?_)
  simp (maxSteps := 4000000) (disch := omega) only [abv, step, stepv, ev, wl, wn, wp, wz, aop, cV, cV1, AV.one, partCells, okW, onlyFr, app, sliceCells, cellsAt, srcA, subA, eqFs, Int.cast_ofNat_Int, simprocAttr, ac_taps_Guess, l33, tk, ho]
  refine callQ.vc (hC x hx) ?_
  rcases hs with h | h
  all_goals
    have z0 : w32 (partN x.sh / 2 + dotN x.tp x.ps 0) = partN x.sh / 2 := by simp only [dotN, Int.add_zero]; exact w32_id (by simp [partN, h]) (by simp [partN, h])
    have z1 : partN x.sh = 512 ∧ x.sh = 9 ∨ partN x.sh = 1024 ∧ x.sh = 10 := by simp [partN, h]
    simp (maxSteps := 4000000) (disch := omega) only [abv, step, stepv, ev, wl, wn, wp, wz, aop, cV, cV1, AV.one, partCells, okW, onlyFr, app, sliceCells, cellsAt, srcA, subA, eqFs, Int.cast_ofNat_Int, simprocAttr, l33, tk, ho, tchk9, tchk10, e1, ↓e0, h, shl32_8, shl32_9]
    refine ALoop.by (ι := Nat) (fun k => ⟨[(19, .int .i64 k), (18, .agg (ks .i32 x.tp)), (5, .int .i32 (w32 (partN x.sh / 2 + dotN x.tp x.ps k))), (1, .ref 0 1 0)], [⟨t0, 33, 1, filtL x, 0⟩]⟩) (fun k => k ≤ 16) (fun k => 16 - k) 0 (Le.slots (by rw [z0]; simp [Am.look, h, partN])) (by omega) ?_
    intro k hk
    by_cases hlt : k < 16
    · have e2 := filt_past hx hlt
      have e3 := ks_get (K := .i32) (l := x.tp) (k := k) (by omega)
      have e4 : w32 (w32 (partN x.sh / 2 + dotN x.tp x.ps k) + w32 (x.tp.getD k 0 * x.ps.getD k 0)) = w32 (partN x.sh / 2 + dotN x.tp x.ps (k + 1)) := by
        rw [w32_add]; simp only [dotN]; congr 1; omega
      simp (maxSteps := 4000000) (disch := omega) only [abv, step, stepv, ev, wl, wn, wp, wz, aop, cV, cV1, AV.one, partCells, okW, onlyFr, app, sliceCells, cellsAt, srcA, subA, eqFs, Int.cast_ofNat_Int, simprocAttr, l33, e2, e3, w32_def, e4]
      exact ⟨k + 1, by omega, by omega, Le.slots (by simp [Am.look])⟩
    · have e : k = 16 := by omega
      subst e
      simp (maxSteps := 4000000) (disch := omega) only [abv, step, stepv, ev, wl, wn, wp, wz, aop, cV, cV1, AV.one, partCells, okW, onlyFr, app, sliceCells, cellsAt, srcA, subA, eqFs, Int.cast_ofNat_Int, simprocAttr, ↓e0, h, shr32_9, shr32_10, guessF, partN]
/-! ### taps.Learn, taps.Push -/

theorem taps_Check {P : Prg} {f t0 : Nat} (b : Body P f 11 [.tmp 2] (ac_taps_Check t0)) : S_TCheck P f := by
  intro x hx
  have l33 := filt_len hx
  have ho := filt_one x
  have e0 : (filtL x).drop 0 = .int .i64 x.sh :: (ks .i32 x.tp ++ ks .i32 x.ps) := rfl
  refine VC.of_acall (by simp [isDL, isD, isDL_filt]) rfl (ACall.of_body b (by simp) ?_)
  by_cases h9 : x.sh = 9
  · simp (maxSteps := 4000000) (disch := omega) only [abv, step, stepv, ev, wl, wn, wp, wz, aop, cV, cV1, AV.one, partCells, okW, onlyFr, app, sliceCells, cellsAt, srcA, subA, eqFs, Int.cast_ofNat_Int, simprocAttr, ac_taps_Check, l33, ho, ↓e0, h9, tchk]
  by_cases h10 : x.sh = 10
  · simp (maxSteps := 4000000) (disch := omega) only [abv, step, stepv, ev, wl, wn, wp, wz, aop, cV, cV1, AV.one, partCells, okW, onlyFr, app, sliceCells, cellsAt, srcA, subA, eqFs, Int.cast_ofNat_Int, simprocAttr, ac_taps_Check, l33, ho, ↓e0, h10, tchk]
  · simp (maxSteps := 4000000) (disch := omega) only [abv, step, stepv, ev, wl, wn, wp, wz, aop, cV, cV1, AV.one, partCells, okW, onlyFr, app, sliceCells, cellsAt, srcA, subA, eqFs, Int.cast_ofNat_Int, simprocAttr, ac_taps_Check, l33, ho, ↓e0, tchk]

def stepN (i : Nat) : Int := if i = 0 then 4 else if i < 4 then 2 else 1
def S_TStep (P : Prg) (f : Nat) : Prop := ∀ i : Nat, VC P f [.int .i64 i] (.int .i32 (stepN i))
theorem taps_step {P : Prg} {f : Nat} (b : Body P f 9 [.tmp 2] ac_taps_step) : S_TStep P f := by
  intro i
  refine VC.of_acall rfl rfl (ACall.of_body b (by simp) ?_)
  by_cases h0 : i = 0
  · subst h0; simp (maxSteps := 4000000) (disch := omega) only [abv, step, stepv, ev, wl, wn, wp, wz, aop, cV, cV1, AV.one, partCells, okW, onlyFr, app, sliceCells, cellsAt, srcA, subA, eqFs, Int.cast_ofNat_Int, simprocAttr, ac_taps_step, stepN, Int.natCast_zero]
  by_cases h1 : i < 4
  · simp (maxSteps := 4000000) (disch := omega) only [abv, step, stepv, ev, wl, wn, wp, wz, aop, cV, cV1, AV.one, partCells, okW, onlyFr, app, sliceCells, cellsAt, srcA, subA, eqFs, Int.cast_ofNat_Int, simprocAttr, ac_taps_step, stepN, h0]
  · simp (maxSteps := 4000000) (disch := omega) only [abv, step, stepv, ev, wl, wn, wp, wz, aop, cV, cV1, AV.one, partCells, okW, onlyFr, app, sliceCells, cellsAt, srcA, subA, eqFs, Int.cast_ofNat_Int, simprocAttr, ac_taps_step, stepN, h0]

end Go.Am

namespace Go.Am
open Go.RowKit

def sgn (x : Int) : Int := if x < 0 then -1 else if 0 < x then 1 else 0
def updT (x : Filt) (w : Int) (k : Nat) : Int := w32 (x.tp.getD k 0 + stepN k * sgn (x.ps.getD k 0) * sgn w)
def learnK (x : Filt) (w : Int) (k : Nat) : List Int := (List.range 16).map fun i => if i < k then updT x w i else x.tp.getD i 0
def lf (x : Filt) (w : Int) (k : Nat) : Filt := { x with tp := learnK x w k }
def learnF (x : Filt) (w : Int) : Filt := lf x w 16

theorem range_getD {l : List Int} (h : l.length = 16) : (List.range 16).map (fun i => l.getD i 0) = l := by
  apply List.ext_getElem (by simp [h])
  intro i h1 h2
  simp [List.getD_eq_getElem?_getD, List.getElem?_eq_getElem h2]
theorem learn_len (x : Filt) (w : Int) (k : Nat) : (learnK x w k).length = 16 := by simp [learnK]
theorem learn_zero {x : Filt} (h : okFl x) (w : Int) : learnK x w 0 = x.tp := by
  have := range_getD h.1
  simpa [learnK] using this
theorem learn_getD (x : Filt) (w : Int) {k : Nat} (hk : k < 16) : (learnK x w k).getD k 0 = x.tp.getD k 0 := by
  simp [learnK, List.getD_eq_getElem?_getD, hk]
theorem learn_set (x : Filt) (w : Int) {k : Nat} (hk : k < 16) : (learnK x w k).set k (updT x w k) = learnK x w (k + 1) := by
  apply List.ext_getElem (by simp [learnK])
  intro i h1 h2
  rw [List.getElem_set]
  simp only [learnK, List.getElem_map, List.getElem_range]
  by_cases e : k = i
  · subst e; simp
  · rw [if_neg e]
    by_cases h : i < k
    · rw [if_pos h, if_pos (by omega)]
    · rw [if_neg h, if_neg (by omega)]
theorem learn_same (x : Filt) (w : Int) {k : Nat} (h : updT x w k = x.tp.getD k 0) : learnK x w (k + 1) = learnK x w k := by
  simp only [learnK]
  apply List.map_congr_left
  intro i _
  by_cases e : i = k
  · subst e; simp [h]
  · by_cases h : i < k
    · rw [if_pos h, if_pos (by omega)]
    · rw [if_neg h, if_neg (by omega)]
theorem I32_learn {x : Filt} (h : okFl x) (w : Int) (k : Nat) : I32 (learnK x w k) := by
  intro v hv
  simp only [learnK, List.mem_map] at hv
  obtain ⟨i, _, rfl⟩ := hv
  split
  · exact w32_rng _
  · exact getD_mem h.2.2.1 i
theorem ok_learnK {x : Filt} (h : okFl x) (w : Int) (k : Nat) : okFl (lf x w k) := ⟨learn_len x w k, h.2.1, I32_learn h w k, h.2.2.2⟩
theorem ok_learn {x : Filt} (h : okFl x) (w : Int) : okFl (learnF x w) := ok_learnK h w 16
theorem learn_w0 {x : Filt} (h : okFl x) : learnF x 0 = x := by
  have key : ∀ k, learnK x 0 k = x.tp := fun k => by
    induction k with
    | zero => exact learn_zero h 0
    | succ k ih =>
      rw [learn_same x 0, ih]
      have := getD_mem h.2.2.1 k
      simp only [updT, sgn]
      simp
      exact w32_id (by simpa using this.1) (by simpa using this.2)
  simp [learnF, lf, key]

def S_TLearn (P : Prg) (f : Nat) : Prop := ∀ (x : Filt) (w : Int), okFl x → x.sh = 9 ∨ x.sh = 10 → VC P f [.agg (filtL x), .int .i32 w] (.tup [.agg (filtL (learnF x w)), .int .i64 0])

theorem tchk_ok {s : Int} (h : s = 9 ∨ s = 10) : tchk s = 0 := by simp [tchk, h]

theorem taps_Learn {P : Prg} {f fC fS t0 : Nat} (b : Body P f 53 [.cell 4 t0, .tmp 5] (ac_taps_Learn fC fS t0)) (ht : aggO P t0 = some (some 33)) (hC : S_TCheck P fC) (hS : S_TStep P fS) : S_TLearn P f := by
  intro x w hx hs
  have l33 := filt_len hx
  have tk : (filtL x).take 33 = filtL x := take_all (by omega)
  have ho := filt_one x
  have hc := tchk_ok hs
  have pp := filt_pasts hx
  have lw := filt_len (ok_learn hx w)
  have tkw : (filtL (learnF x w)).take 33 = filtL (learnF x w) := take_all (by omega)
  have how := filt_one (learnF x w)
  refine VC.of_acall (by simp [isDL, isD, isDL_filt]) (by simp [isD, isDL, isDL_filt]) (ACall.of_body b (by simp) ?_)
  simp (maxSteps := 4000000) (disch := omega) only [abv, step, stepv, ev, wl, wn, wp, wz, aop, cV, cV1, AV.one, partCells, okW, onlyFr, app, sliceCells, cellsAt, srcA, subA, eqFs, Int.cast_ofNat_Int, simprocAttr, ac_taps_Learn, l33, tk, ho]
  refine callQ.vc (hC x hx) ?_
  by_cases hw : w = 0
  · subst hw
    have e := learn_w0 hx
    simp (maxSteps := 4000000) (disch := omega) only [abv, step, stepv, ev, wl, wn, wp, wz, aop, cV, cV1, AV.one, partCells, okW, onlyFr, app, sliceCells, cellsAt, srcA, subA, eqFs, Int.cast_ofNat_Int, simprocAttr, l33, tk, ho, hc, resA, ht, e]
  simp (maxSteps := 4000000) (disch := omega) only [abv, step, stepv, ev, wl, wn, wp, wz, aop, cV, cV1, AV.one, partCells, okW, onlyFr, app, sliceCells, cellsAt, srcA, subA, eqFs, Int.cast_ofNat_Int, simprocAttr, l33, tk, ho, hc, pp]
  refine ALoop.by (ι := Nat) (fun k => ⟨[(20, .int .i64 k), (19, .agg (ks .i32 x.ps)), (4, .ref 1 1 0), (2, .ref 0 1 0), (1, .int .i32 w), (5, .int .i64 0)], [⟨t0, 33, 1, filtL (lf x w k), 0⟩, ⟨t0, 33, 1, filtL zeroF, 0⟩]⟩) (fun k => k ≤ 16) (fun k => 16 - k) 0 (by rw [show lf x w 0 = x by simp [lf, learn_zero hx]]; exact Le.slots (by simp [Am.look])) (by omega) ?_
  intro k hk
  by_cases hlt : k < 16
  · have hok := ok_learnK hx w k
    have e1 := ks_get (K := .i32) (l := x.ps) (k := k) (by have := hx.2.1; omega)
    have e2 := filt_tap hok hlt
    have e3 := fun v => filt_setTap hok hlt v
    have e4 := learn_getD x w hlt
    have e5 := filt_len hok
    have hu := learn_set x w hlt
    have hp := getD_mem hx.2.2.2 k
    have htp := getD_mem hx.2.2.1 k
    have ef : ∀ v, ({ lf x w k with tp := (lf x w k).tp.set k v } : Filt) = { x with tp := (learnK x w k).set k v } := fun _ => rfl
    have e7 : (lf x w k).tp.getD k 0 = x.tp.getD k 0 := e4
    by_cases p0 : x.ps.getD k 0 = 0
    · have e6 := learn_same x w (k := k) (by simp only [updT, p0, sgn]; simp; exact w32_id (by simpa using htp.1) (by simpa using htp.2))
      simp (maxSteps := 4000000) (disch := omega) only [abv, step, stepv, ev, wl, wn, wp, wz, aop, cV, cV1, AV.one, partCells, okW, onlyFr, app, sliceCells, cellsAt, srcA, subA, eqFs, Int.cast_ofNat_Int, simprocAttr, e1, p0]
      exact ⟨k + 1, by omega, by omega, by rw [show lf x w (k + 1) = lf x w k by simp [lf, e6]]; exact Le.slots (by simp [Am.look])⟩
    · by_cases hsame : (x.ps.getD k 0 < 0 ↔ w < 0)
      · have e6 : updT x w k = w32 (x.tp.getD k 0 + stepN k) := by
          simp only [updT, sgn]; congr 1
          by_cases q : w < 0
          · rw [if_pos q, if_pos (hsame.2 q)]; omega
          · rw [if_neg q, if_neg (fun h => q (hsame.1 h)), if_pos (by omega), if_pos (by omega)]; omega
        rw [e6] at hu
        by_cases q : w < 0
        · have q2 := hsame.2 q
          simp (maxSteps := 4000000) (disch := omega) only [abv, step, stepv, ev, wl, wn, wp, wz, aop, cV, cV1, AV.one, partCells, okW, onlyFr, app, sliceCells, cellsAt, srcA, subA, eqFs, Int.cast_ofNat_Int, simprocAttr, e1, e2, e7]
          refine callD.vc (hS k) ?_
          simp (maxSteps := 4000000) (disch := omega) only [abv, step, stepv, ev, wl, wn, wp, wz, aop, cV, cV1, AV.one, partCells, okW, onlyFr, app, sliceCells, cellsAt, srcA, subA, eqFs, Int.cast_ofNat_Int, simprocAttr, e3, e5, w32_def, ef, hu]
          exact ⟨k + 1, by omega, by omega, Le.slots (by simp [Am.look])⟩
        · have q2 : ¬ x.ps.getD k 0 < 0 := fun h => q (hsame.1 h)
          simp (maxSteps := 4000000) (disch := omega) only [abv, step, stepv, ev, wl, wn, wp, wz, aop, cV, cV1, AV.one, partCells, okW, onlyFr, app, sliceCells, cellsAt, srcA, subA, eqFs, Int.cast_ofNat_Int, simprocAttr, e1, e2, e7]
          refine callD.vc (hS k) ?_
          simp (maxSteps := 4000000) (disch := omega) only [abv, step, stepv, ev, wl, wn, wp, wz, aop, cV, cV1, AV.one, partCells, okW, onlyFr, app, sliceCells, cellsAt, srcA, subA, eqFs, Int.cast_ofNat_Int, simprocAttr, e3, e5, w32_def, ef, hu]
          exact ⟨k + 1, by omega, by omega, Le.slots (by simp [Am.look])⟩
      · have e6 : updT x w k = w32 (x.tp.getD k 0 - stepN k) := by
          simp only [updT, sgn]; congr 1
          by_cases q : w < 0
          · rw [if_pos q, if_neg (fun h => hsame ⟨fun _ => q, fun _ => h⟩), if_pos (by omega)]; omega
          · rw [if_neg q, if_pos (Classical.byContradiction fun h => hsame ⟨fun h' => absurd h' h, fun h' => absurd h' q⟩), if_pos (by omega)]; omega
        rw [e6] at hu
        by_cases q : w < 0
        · have q2 : ¬ x.ps.getD k 0 < 0 := fun h => hsame ⟨fun _ => q, fun _ => h⟩
          simp (maxSteps := 4000000) (disch := omega) only [abv, step, stepv, ev, wl, wn, wp, wz, aop, cV, cV1, AV.one, partCells, okW, onlyFr, app, sliceCells, cellsAt, srcA, subA, eqFs, Int.cast_ofNat_Int, simprocAttr, e1, e2, e7]
          refine callD.vc (hS k) ?_
          simp (maxSteps := 4000000) (disch := omega) only [abv, step, stepv, ev, wl, wn, wp, wz, aop, cV, cV1, AV.one, partCells, okW, onlyFr, app, sliceCells, cellsAt, srcA, subA, eqFs, Int.cast_ofNat_Int, simprocAttr, e3, e5, w32_def, ef, hu]
          exact ⟨k + 1, by omega, by omega, Le.slots (by simp [Am.look])⟩
        · have q2 : x.ps.getD k 0 < 0 := Classical.byContradiction fun h => hsame ⟨fun h' => absurd h' h, fun h' => absurd h' q⟩
          simp (maxSteps := 4000000) (disch := omega) only [abv, step, stepv, ev, wl, wn, wp, wz, aop, cV, cV1, AV.one, partCells, okW, onlyFr, app, sliceCells, cellsAt, srcA, subA, eqFs, Int.cast_ofNat_Int, simprocAttr, e1, e2, e7]
          refine callD.vc (hS k) ?_
          simp (maxSteps := 4000000) (disch := omega) only [abv, step, stepv, ev, wl, wn, wp, wz, aop, cV, cV1, AV.one, partCells, okW, onlyFr, app, sliceCells, cellsAt, srcA, subA, eqFs, Int.cast_ofNat_Int, simprocAttr, e3, e5, w32_def, ef, hu]
          exact ⟨k + 1, by omega, by omega, Le.slots (by simp [Am.look])⟩
  · have e : k = 16 := by omega
    subst e
    have hF : lf x w 16 = learnF x w := rfl
    rw [hF]
    simp (maxSteps := 4000000) (disch := omega) only [abv, step, stepv, ev, wl, wn, wp, wz, aop, cV, cV1, AV.one, partCells, okW, onlyFr, app, sliceCells, cellsAt, srcA, subA, eqFs, Int.cast_ofNat_Int, simprocAttr, lw, tkw, how, resA, ht, zeroF_eq]
/-! ### taps.Push -/

def pushF (x : Filt) (v : Int) : Filt := { x with ps := v :: x.ps.take 15 }
theorem ok_push {x : Filt} (h : okFl x) {v : Int} (hv : -2147483648 ≤ v ∧ v ≤ 2147483647) : okFl (pushF x v) := by
  obtain ⟨h1, h2, h3, h4⟩ := h
  refine ⟨h1, by simp [pushF, h2], h3, fun y hy => ?_⟩
  simp only [pushF, List.mem_cons] at hy
  rcases hy with rfl | hy
  · exact hv
  · exact h4 y (List.mem_of_mem_take hy)

def S_TPush (P : Prg) (f : Nat) : Prop := ∀ (x : Filt) (v : Int), okFl x → x.sh = 9 ∨ x.sh = 10 → VC P f [.agg (filtL x), .int .i32 v] (.tup [.agg (filtL (pushF x v)), .int .i64 0])

theorem taps_Push {P : Prg} {f fC t0 : Nat} (b : Body P f 22 [.cell 4 t0, .tmp 5] (ac_taps_Push fC t0)) (ht : aggO P t0 = some (some 33)) (hC : S_TCheck P fC) : S_TPush P f := by
  intro x v hx hs
  have l33 := filt_len hx
  have tk : (filtL x).take 33 = filtL x := take_all (by omega)
  have ho := filt_one x
  have hc := tchk_ok hs
  have pp := filt_pasts hx
  have h16 : (ks .i32 x.ps).length = 16 := by simp [ks_length, hx.2.1]
  have o16 := ks_one .i32 x.ps
  refine VC.of_acall (by simp [isDL, isD, isDL_filt]) (by simp [isD, isDL, isDL_filt]) (ACall.of_body b (by simp) ?_)
  simp (maxSteps := 4000000) (disch := omega) only [abv, step, stepv, ev, wl, wn, wp, wz, aop, cV, cV1, AV.one, partCells, okW, onlyFr, app, sliceCells, cellsAt, srcA, subA, eqFs, Int.cast_ofNat_Int, simprocAttr, ac_taps_Push, l33, tk, ho]
  refine callQ.vc (hC x hx) ?_
  have hm : Nat.min 16 15 = 15 := rfl
  let y : Filt := { x with ps := x.ps.getD 0 0 :: x.ps.take 15 }
  have hy : okFl y := ok_push hx (getD_mem hx.2.2.2 0)
  have hcp : (filtL x).take 18 ++ (ks .i32 x.ps).take 15 ++ (filtL x).drop 33 = filtL y := by
    have e1 : (filtL x).drop 33 = [] := List.drop_eq_nil_of_le (by omega)
    have e2 : (ks .i32 x.tp).length = 16 := by simp [ks_length, hx.1]
    have e3 : (ks .i32 x.ps).take 1 = [.int .i32 (x.ps.getD 0 0)] := by
      have h1 : 0 < x.ps.length := by have := hx.2.1; omega
      match hps : x.ps, h1 with
      | a :: l, _ => rfl
    rw [e1, List.append_nil]
    simp only [filtL, List.take_succ_cons, List.cons_append, y]
    congr 1
    rw [List.take_append, List.take_of_length_le (by omega), e2, e3, List.append_assoc, ks_take]
    rfl
  have hset : (filtL y).take 17 ++ [.int .i32 v] ++ (filtL y).drop 18 = filtL (pushF x v) := filt_setPast hy (k := 0) (by omega) v
  have ly := filt_len hy
  have lp : (filtL (pushF x v)).length = 33 := by rw [← hset]; simp [ly]
  have tkp : (filtL (pushF x v)).take 33 = filtL (pushF x v) := take_all (by omega)
  have op := filt_one (pushF x v)
  simp (maxSteps := 4000000) (disch := omega) only [abv, step, stepv, ev, wl, wn, wp, wz, aop, cV, cV1, AV.one, partCells, okW, onlyFr, app, sliceCells, cellsAt, srcA, subA, eqFs, Int.cast_ofNat_Int, simprocAttr, l33, tk, ho, hc, pp, h16, o16, hm, hcp, hset, ly, lp, tkp, op, resA, ht, zeroF_eq]
end Go.Am

namespace Go.Am
open Go.RowKit

def behindF (x : Filt) (v y : Int) : Filt := pushF (learnF x y) v
theorem ok_behind {x : Filt} (h : okFl x) {v : Int} (hv : -2147483648 ≤ v ∧ v ≤ 2147483647) (y : Int) : okFl (behindF x v y) := ok_push (ok_learn h y) hv
def S_LBehind (P : Prg) (f : Nat) : Prop := ∀ (x : Filt) (v y : Int), okFl x → x.sh = 9 ∨ x.sh = 10 → -2147483648 ≤ v ∧ v ≤ 2147483647 → VC P f [.agg (filtL x), .int .i32 v, .int .i32 y] (.agg (filtL (behindF x v y)))

theorem lms_behind {P : Prg} {f fL fP t0 : Nat} (b : Body P f 20 [.cell 6 t0] (ac_lms_behind fL fP t0)) (ht : aggO P t0 = some (some 33)) (hL : S_TLearn P fL) (hP : S_TPush P fP) : S_LBehind P f := by
  intro x v y hx hs hv
  have l1 := filt_len hx
  have t1 : (filtL x).take 33 = filtL x := take_all (by omega)
  have o1 := filt_one x
  have l2 := filt_len (ok_learn hx y)
  have t2 : (filtL (learnF x y)).take 33 = filtL (learnF x y) := take_all (by omega)
  have o2 := filt_one (learnF x y)
  have l3 := filt_len (ok_behind hx hv y)
  have t3 : (filtL (behindF x v y)).take 33 = filtL (behindF x v y) := take_all (by omega)
  have o3 := filt_one (behindF x v y)
  have d1 : (filtL x).drop 33 = [] := List.drop_eq_nil_of_le (by omega)
  have d2 : (filtL (learnF x y)).drop 33 = [] := List.drop_eq_nil_of_le (by omega)
  refine VC.of_acall (by simp [isDL, isD, isDL_filt]) (by simp [isD, isDL_filt]) (ACall.of_body b (by simp) ?_)
  simp (maxSteps := 4000000) (disch := omega) only [abv, step, stepv, ev, wl, wn, wp, wz, aop, cV, cV1, AV.one, partCells, okW, onlyFr, app, sliceCells, cellsAt, srcA, subA, eqFs, Int.cast_ofNat_Int, simprocAttr, ac_lms_behind, l1, t1, o1]
  refine callQ.vc (hL x y hx hs) ?_
  simp (maxSteps := 4000000) (disch := omega) only [abv, step, stepv, ev, wl, wn, wp, wz, aop, cV, cV1, AV.one, partCells, okW, onlyFr, app, sliceCells, cellsAt, srcA, subA, eqFs, Int.cast_ofNat_Int, simprocAttr, l1, t1, o1, l2, t2, o2, d1]
  refine callQ.vc (hP (learnF x y) v (ok_learn hx y) hs) ?_
  rw [← behindF]
  simp (maxSteps := 4000000) (disch := omega) only [abv, step, stepv, ev, wl, wn, wp, wz, aop, cV, cV1, AV.one, partCells, okW, onlyFr, app, sliceCells, cellsAt, srcA, subA, eqFs, Int.cast_ofNat_Int, simprocAttr, l1, t1, o1, l2, t2, o2, l3, t3, o3, d1, d2, resA, ht, zeroF_eq]

def bckX (x : Filt) (y : Int) : Int := w32 (y + guessF x)
def bckF (x : Filt) (y : Int) : Filt := behindF x (bckX x y) y
def S_LBack (P : Prg) (f : Nat) : Prop := ∀ (x : Filt) (y : Int), okFl x → x.sh = 9 ∨ x.sh = 10 → VC P f [.agg (filtL x), .int .i32 y] (.tup [.int .i32 (bckX x y), .agg (filtL (bckF x y)), .int .i64 0])

theorem lms_Back {P : Prg} {f fG fB t0 : Nat} (b : Body P f 27 [.tmp 4, .cell 5 t0, .tmp 6] (ac_lms_Back fG fB t0)) (ht : aggO P t0 = some (some 33)) (hG : S_TGuess P fG) (hB : S_LBehind P fB) : S_LBack P f := by
  intro x y hx hs
  have hv := w32_rng (y + guessF x)
  have l1 := filt_len hx
  have t1 : (filtL x).take 33 = filtL x := take_all (by omega)
  have o1 := filt_one x
  have l3 := filt_len (ok_behind hx hv y)
  have t3 : (filtL (behindF x (bckX x y) y)).take 33 = filtL (behindF x (bckX x y) y) := take_all (by unfold bckX; omega)
  have o3 := filt_one (behindF x (bckX x y) y)
  refine VC.of_acall (by simp [isDL, isD, isDL_filt]) (by simp [isD, isDL, isDL_filt]) (ACall.of_body b (by simp) ?_)
  simp (maxSteps := 4000000) (disch := omega) only [abv, step, stepv, ev, wl, wn, wp, wz, aop, cV, cV1, AV.one, partCells, okW, onlyFr, app, sliceCells, cellsAt, srcA, subA, eqFs, Int.cast_ofNat_Int, simprocAttr, ac_lms_Back, l1, t1, o1]
  refine callQ.vc (hG x hx hs) ?_
  simp (maxSteps := 4000000) (disch := omega) only [abv, step, stepv, ev, wl, wn, wp, wz, aop, cV, cV1, AV.one, partCells, okW, onlyFr, app, sliceCells, cellsAt, srcA, subA, eqFs, Int.cast_ofNat_Int, simprocAttr, l1, t1, o1, w32_def]
  refine callQ.vc (hB x (bckX x y) y hx hs hv) ?_
  simp only [bckX] at l3 t3 o3
  simp (maxSteps := 4000000) (disch := omega) only [abv, step, stepv, ev, wl, wn, wp, wz, aop, cV, cV1, AV.one, partCells, okW, onlyFr, app, sliceCells, cellsAt, srcA, subA, eqFs, Int.cast_ofNat_Int, simprocAttr, l1, t1, o1, l3, t3, o3, resA, ht, zeroF_eq, bckF, bckX]

/-! ### first -/

def firstN (b last : Int) : Int := if b = 8 then 15 * last / 16 else 31 * last / 32
theorem firstN_rng (b : Int) {l : Int} (h : -2147483648 ≤ l ∧ l ≤ 2147483647) : -2147483648 ≤ firstN b l ∧ firstN b l ≤ 2147483647 := by unfold firstN; split <;> omega

def S_FShift (P : Prg) (f : Nat) : Prop := ∀ b : Int, half b ≠ 0 → VC P f [.int .i64 b] (.tup [.int .i64 (if b = 8 then 4 else 5), .int .i64 0])
theorem first_Shift {P : Prg} {f : Nat} (b : Body P f 10 [.tmp 2, .tmp 3] ac_first_Shift) : S_FShift P f := by
  intro x hx
  refine VC.of_acall rfl rfl (ACall.of_body b (by simp) ?_)
  rcases half_cases x with ⟨rfl, h⟩ | ⟨rfl, h⟩ | ⟨rfl, h⟩ | ⟨h2, h3, h4, h⟩
  · simp (maxSteps := 4000000) (disch := omega) only [abv, step, stepv, ev, wl, wn, wp, wz, aop, cV, cV1, AV.one, partCells, okW, onlyFr, app, sliceCells, cellsAt, srcA, subA, eqFs, Int.cast_ofNat_Int, simprocAttr, ac_first_Shift]
  · simp (maxSteps := 4000000) (disch := omega) only [abv, step, stepv, ev, wl, wn, wp, wz, aop, cV, cV1, AV.one, partCells, okW, onlyFr, app, sliceCells, cellsAt, srcA, subA, eqFs, Int.cast_ofNat_Int, simprocAttr, ac_first_Shift]
  · simp (maxSteps := 4000000) (disch := omega) only [abv, step, stepv, ev, wl, wn, wp, wz, aop, cV, cV1, AV.one, partCells, okW, onlyFr, app, sliceCells, cellsAt, srcA, subA, eqFs, Int.cast_ofNat_Int, simprocAttr, ac_first_Shift]
  · exact absurd h hx

theorem shl64_4 {x : Int} (h : -2147483648 ≤ x ∧ x ≤ 2147483647) : shiftA true .i64 x 4 = some (.int .i64 (x * 16)) := by
  show some (AV.int .i64 (IntKind.i64.wrap (x * 16))) = _
  rw [wrap_i64 (by omega) (by omega)]
theorem shl64_5 {x : Int} (h : -2147483648 ≤ x ∧ x ≤ 2147483647) : shiftA true .i64 x 5 = some (.int .i64 (x * 32)) := by
  show some (AV.int .i64 (IntKind.i64.wrap (x * 32))) = _
  rw [wrap_i64 (by omega) (by omega)]
theorem shr64_4 (x : Int) : shiftA false .i64 x 4 = some (.int .i64 (x / 16)) := by
  show some (AV.int .i64 (x.fdiv 16)) = _
  rw [Int.fdiv_eq_ediv_of_nonneg _ (by omega)]
theorem shr64_5 (x : Int) : shiftA false .i64 x 5 = some (.int .i64 (x / 32)) := by
  show some (AV.int .i64 (x.fdiv 32)) = _
  rw [Int.fdiv_eq_ediv_of_nonneg _ (by omega)]

def S_Fguess (P : Prg) (f : Nat) : Prop := ∀ (b l : Int), -2147483648 ≤ l ∧ l ≤ 2147483647 → VC P f [.int .i64 (if b = 8 then 4 else 5), .int .i32 l] (.int .i32 (firstN b l))
theorem first_guess {P : Prg} {f : Nat} (b : Body P f 16 [.tmp 4] ac_first_guess) : S_Fguess P f := by
  intro x l hl
  refine VC.of_acall rfl rfl (ACall.of_body b (by simp) ?_)
  have e1 : l * 16 - l = 15 * l := by omega
  have e2 : l * 32 - l = 31 * l := by omega
  have a := shl64_4 hl
  have c := shl64_5 hl
  by_cases h : x = 8
  · simp (maxSteps := 4000000) (disch := omega) only [abv, step, stepv, ev, wl, wn, wp, wz, aop, cV, cV1, AV.one, partCells, okW, onlyFr, app, sliceCells, cellsAt, srcA, subA, eqFs, Int.cast_ofNat_Int, simprocAttr, ac_first_guess, h, firstN, a, shr64_4, e1]
  · simp (maxSteps := 4000000) (disch := omega) only [abv, step, stepv, ev, wl, wn, wp, wz, aop, cV, cV1, AV.one, partCells, okW, onlyFr, app, sliceCells, cellsAt, srcA, subA, eqFs, Int.cast_ofNat_Int, simprocAttr, ac_first_guess, if_neg h, firstN, c, shr64_5, e2]

def S_FGuess (P : Prg) (f : Nat) : Prop := ∀ (b l : Int), half b ≠ 0 → -2147483648 ≤ l ∧ l ≤ 2147483647 → VC P f [.int .i64 b, .int .i32 l] (.tup [.int .i32 (firstN b l), .int .i64 0])
theorem first_Guess {P : Prg} {f fS fg : Nat} (b : Body P f 19 [.tmp 4, .tmp 5] (ac_first_Guess fS fg)) (hS : S_FShift P fS) (hg : S_Fguess P fg) : S_FGuess P f := by
  intro x l hx hl
  refine VC.of_acall rfl rfl (ACall.of_body b (by simp) ?_)
  simp (maxSteps := 4000000) (disch := omega) only [abv, step, stepv, ev, wl, wn, wp, wz, aop, cV, cV1, AV.one, partCells, okW, onlyFr, app, sliceCells, cellsAt, srcA, subA, eqFs, Int.cast_ofNat_Int, simprocAttr, ac_first_Guess]
  refine callQ.vc (hS x hx) ?_
  simp (maxSteps := 4000000) (disch := omega) only [abv, step, stepv, ev, wl, wn, wp, wz, aop, cV, cV1, AV.one, partCells, okW, onlyFr, app, sliceCells, cellsAt, srcA, subA, eqFs, Int.cast_ofNat_Int, simprocAttr]
  refine callQ.vc (hg x l hl) ?_
  simp (maxSteps := 4000000) (disch := omega) only [abv, step, stepv, ev, wl, wn, wp, wz, aop, cV, cV1, AV.one, partCells, okW, onlyFr, app, sliceCells, cellsAt, srcA, subA, eqFs, Int.cast_ofNat_Int, simprocAttr]
/-! ### chain -/

structure Chan where
  bits : Int
  last : Int
  fl : Filt

def chanL (c : Chan) : List AV := .int .i64 c.bits :: .int .i32 c.last :: filtL c.fl
def okCh (c : Chan) : Prop := half c.bits ≠ 0 ∧ c.fl.sh = shiftOf c.bits ∧ okFl c.fl ∧ (-2147483648 ≤ c.last ∧ c.last ≤ 2147483647)
def zeroC : Chan := ⟨0, 0, zeroF⟩

theorem chan_len {c : Chan} (h : okFl c.fl) : (chanL c).length = 35 := by simp [chanL, filt_len h]
theorem chan_one (c : Chan) : (chanL c).all AV.one = true := by simp [chanL, AV.one, filt_one]
theorem isDL_chan (c : Chan) : isDL (chanL c) = true := by simp [chanL, isDL, isD, isDL_filt]
theorem shift_of (b : Int) : shiftOf b = 9 ∨ shiftOf b = 10 := by unfold shiftOf; split <;> simp
theorem ok_new {b : Int} {t : List Int} (h1 : t.length = 16) (h2 : I32 t) : okFl (newF b t) := ⟨h1, by simp [newF, z16], h2, fun x hx => by simp [newF, z16] at hx; omega⟩
theorem zeroC_eq : chanL zeroC = [.int .i64 0, .int .i32 0, .int .i64 0, .int .i32 0, .int .i32 0, .int .i32 0, .int .i32 0, .int .i32 0, .int .i32 0, .int .i32 0, .int .i32 0, .int .i32 0, .int .i32 0, .int .i32 0, .int .i32 0, .int .i32 0, .int .i32 0, .int .i32 0, .int .i32 0, .int .i32 0, .int .i32 0, .int .i32 0, .int .i32 0, .int .i32 0, .int .i32 0, .int .i32 0, .int .i32 0, .int .i32 0, .int .i32 0, .int .i32 0, .int .i32 0, .int .i32 0, .int .i32 0, .int .i32 0, .int .i32 0] := rfl

def newC (b : Int) (t : List Int) : Chan := ⟨b, 0, newF b t⟩
def cnewA (b : Int) (t : List Int) : AV := if half b = 0 then .tup [.agg (chanL zeroC), .int .i64 2] else .tup [.agg (chanL (newC b t)), .int .i64 0]
def S_CNew (P : Prg) (f : Nat) : Prop := ∀ (b : Int) (t : List Int), t.length = 16 → I32 t → VC P f [.int .i64 b, .agg (ks .i32 t)] (cnewA b t)
theorem isD_cnew (b : Int) (t : List Int) : isD (cnewA b t) = true := by unfold cnewA; split <;> simp [isD, isDL, isDL_chan]

theorem chain_New {P : Prg} {f fT t0 t1 t2 : Nat} (b : Body P f 21 [.cell 4 t1, .tmp 5] (ac_chain_New fT t0 t1 t2)) (ht : aggO P t1 = some (some 35)) (hT : S_TNew P fT) : S_CNew P f := by
  intro x t hl hI
  have hk : (ks .i32 t).length = 16 := by simp [ks_length, hl]
  have h1 := ks_one .i32 t
  have tk16 : (ks .i32 t).take 16 = ks .i32 t := take_all (by omega)
  have hok : okFl (newF x t) := ok_new hl hI
  have l1 := filt_len hok
  have t1' : (filtL (newF x t)).take 33 = filtL (newF x t) := take_all (by omega)
  have o1 := filt_one (newF x t)
  have lc := chan_len (c := newC x t) hok
  have tc : (chanL (newC x t)).take 35 = chanL (newC x t) := take_all (by omega)
  have oc := chan_one (newC x t)
  have mk : AV.int .i64 x :: .int .i32 0 :: filtL (newF x t) = chanL (newC x t) := rfl
  refine VC.of_acall (by simp [isDL, isD, isDL_ks]) (isD_cnew _ _) (ACall.of_body b (by simp) ?_)
  simp (maxSteps := 4000000) (disch := omega) only [abv, step, stepv, ev, wl, wn, wp, wz, aop, cV, cV1, AV.one, partCells, okW, onlyFr, app, sliceCells, cellsAt, srcA, subA, eqFs, Int.cast_ofNat_Int, simprocAttr, ac_chain_New, hk, h1, tk16]
  refine callQ.vc (hT x t hl) ?_
  by_cases h0 : half x = 0
  · simp (maxSteps := 4000000) (disch := omega) only [abv, step, stepv, ev, wl, wn, wp, wz, aop, cV, cV1, AV.one, partCells, okW, onlyFr, app, sliceCells, cellsAt, srcA, subA, eqFs, Int.cast_ofNat_Int, simprocAttr, tnewA, h0, cnewA, zeroF_eq, zeroC_eq, resA, ht]
  · simp (maxSteps := 4000000) (disch := omega) only [abv, step, stepv, ev, wl, wn, wp, wz, aop, cV, cV1, AV.one, partCells, okW, onlyFr, app, sliceCells, cellsAt, srcA, subA, eqFs, Int.cast_ofNat_Int, simprocAttr, tnewA, if_neg h0, cnewA, l1, t1', o1, lc, tc, oc, mk, zeroC_eq, resA, ht]

theorem chan_fl {c : Chan} (h : okFl c.fl) : ((chanL c).drop 2).take 33 = filtL c.fl := by
  simp only [chanL, List.drop_succ_cons, List.drop_zero]
  exact take_all (by rw [filt_len h]; omega)
theorem chan_taps {c : Chan} (h : okFl c.fl) : ((chanL c).drop 3).take 16 = ks .i32 c.fl.tp := filt_taps h

def S_CCheck (P : Prg) (f : Nat) : Prop := ∀ c : Chan, okCh c → VC P f [.agg (chanL c)] (.int .i64 0)
theorem chain_Check {P : Prg} {f fT t0 t1 : Nat} (b : Body P f 24 [.tmp 2] (ac_chain_Check fT t0 t1)) (hT : S_TNew P fT) : S_CCheck P f := by
  intro c ⟨h1, h2, h3, h4⟩
  have lc := chan_len h3
  have oc := chan_one c
  have e0 : (chanL c).drop 0 = .int .i64 c.bits :: .int .i32 c.last :: filtL c.fl := rfl
  have e2 : (chanL c).drop 2 = .int .i64 c.fl.sh :: (ks .i32 c.fl.tp ++ ks .i32 c.fl.ps) := rfl
  have et := chan_taps h3
  have hk : (ks .i32 c.fl.tp).length = 16 := by simp [ks_length, h3.1]
  have hok : okFl (newF c.bits c.fl.tp) := ok_new h3.1 h3.2.2.1
  have l1 := filt_len hok
  have t1' : (filtL (newF c.bits c.fl.tp)).take 33 = filtL (newF c.bits c.fl.tp) := take_all (by omega)
  have o1 := filt_one (newF c.bits c.fl.tp)
  have en : (filtL (newF c.bits c.fl.tp)).drop 0 = .int .i64 (shiftOf c.bits) :: (ks .i32 c.fl.tp ++ ks .i32 z16) := rfl
  have dn : (filtL (newF c.bits c.fl.tp)).drop 33 = [] := List.drop_eq_nil_of_le (by omega)
  refine VC.of_acall (by simp [isDL, isD, isDL_chan]) rfl (ACall.of_body b (by simp) ?_)
  simp (maxSteps := 4000000) (disch := omega) only [abv, step, stepv, ev, wl, wn, wp, wz, aop, cV, cV1, AV.one, partCells, okW, onlyFr, app, sliceCells, cellsAt, srcA, subA, eqFs, Int.cast_ofNat_Int, simprocAttr, ac_chain_Check, lc, oc, ↓e0, et]
  refine callQ.vc (hT c.bits c.fl.tp h3.1) ?_
  simp (maxSteps := 4000000) (disch := omega) only [abv, step, stepv, ev, wl, wn, wp, wz, aop, cV, cV1, AV.one, partCells, okW, onlyFr, app, sliceCells, cellsAt, srcA, subA, eqFs, Int.cast_ofNat_Int, simprocAttr, tnewA, if_neg h1, l1, t1', o1, ↓en, ↓e2, h2, dn]

end Go.Am

namespace Go.Am
open Go.RowKit

/-! ### chain.Back -/

def cbckX (c : Chan) (y : Int) : Int := w32 (bckX c.fl y + firstN c.bits c.last)
def cbckC (c : Chan) (y : Int) : Chan := ⟨c.bits, cbckX c y, bckF c.fl y⟩
theorem ok_cbck {c : Chan} (h : okCh c) (y : Int) : okCh (cbckC c y) := ⟨h.1, h.2.1, ok_behind h.2.2.1 (w32_rng _) _, w32_rng _⟩

def S_CBack (P : Prg) (f : Nat) : Prop := ∀ (c : Chan) (y : Int), okCh c → VC P f [.agg (chanL c), .int .i32 y] (.tup [.int .i32 (cbckX c y), .agg (chanL (cbckC c y)), .int .i64 0])

theorem chain_Back {P : Prg} {f fC fG fF t0 t1 : Nat} (b : Body P f 46 [.tmp 4, .cell 5 t0, .tmp 6] (ac_chain_Back fC fG fF t0 t1)) (ht : aggO P t0 = some (some 35)) (hC : S_CCheck P fC) (hG : S_FGuess P fG) (hF : S_LBack P fF) : S_CBack P f := by
  intro c x hc
  obtain ⟨h1, h2, h3, h4⟩ := id hc
  have hs : c.fl.sh = 9 ∨ c.fl.sh = 10 := by rw [h2]; exact shift_of _
  have lc := chan_len h3
  have tc : (chanL c).take 35 = chanL c := take_all (by omega)
  have oc := chan_one c
  have e0 : (chanL c).drop 0 = .int .i64 c.bits :: .int .i32 c.last :: filtL c.fl := rfl
  have e1 : (chanL c).drop 1 = .int .i32 c.last :: filtL c.fl := rfl
  have e2 := chan_fl h3
  have hok := ok_cbck hc x
  have l1 := filt_len hok.2.2.1
  have t1' : (filtL (cbckC c x).fl).take 33 = filtL (cbckC c x).fl := take_all (by omega)
  have o1 := filt_one (cbckC c x).fl
  have d1 : (filtL (cbckC c x).fl).drop 33 = [] := List.drop_eq_nil_of_le (by omega)
  have l2 := chan_len hok.2.2.1
  have t2 : (chanL (cbckC c x)).take 35 = chanL (cbckC c x) := take_all (by omega)
  have o2 := chan_one (cbckC c x)
  have mk : AV.int .i64 c.bits :: .int .i32 (cbckX c x) :: filtL (cbckC c x).fl = chanL (cbckC c x) := rfl
  have hfe : bckF c.fl x = (cbckC c x).fl := rfl
  have hye : w32 (bckX c.fl x + firstN c.bits c.last) = cbckX c x := rfl
  refine VC.of_acall (by simp [isDL, isD, isDL_chan]) (by simp [isD, isDL, isDL_chan]) (ACall.of_body b (by simp) ?_)
  simp (maxSteps := 4000000) (disch := omega) only [abv, step, stepv, ev, wl, wn, wp, wz, aop, cV, cV1, AV.one, partCells, okW, onlyFr, app, sliceCells, cellsAt, srcA, subA, eqFs, Int.cast_ofNat_Int, simprocAttr, ac_chain_Back, lc, tc, oc]
  refine callQ.vc (hC c hc) ?_
  simp (maxSteps := 4000000) (disch := omega) only [abv, step, stepv, ev, wl, wn, wp, wz, aop, cV, cV1, AV.one, partCells, okW, onlyFr, app, sliceCells, cellsAt, srcA, subA, eqFs, Int.cast_ofNat_Int, simprocAttr, lc, tc, oc, ↓e0, ↓e1]
  refine callQ.vc (hG c.bits c.last h1 h4) ?_
  simp (maxSteps := 4000000) (disch := omega) only [abv, step, stepv, ev, wl, wn, wp, wz, aop, cV, cV1, AV.one, partCells, okW, onlyFr, app, sliceCells, cellsAt, srcA, subA, eqFs, Int.cast_ofNat_Int, simprocAttr, lc, tc, oc, e2, w32_def]
  refine callQ.vc (hF c.fl x h3 hs) ?_
  rw [hfe]
  simp (maxSteps := 4000000) (disch := omega) only [abv, step, stepv, ev, wl, wn, wp, wz, aop, cV, cV1, AV.one, partCells, okW, onlyFr, app, sliceCells, cellsAt, srcA, subA, eqFs, Int.cast_ofNat_Int, simprocAttr, lc, tc, oc, ↓e0, l1, t1', o1, d1, l2, t2, o2, mk, resA, ht, zeroC_eq, w32_def, hye]

/-! ### The references -/

def S_Wrap (P : Prg) (f : Nat) : Prop := ∀ x : Int, VC P f [.int .i64 x] (.int .i32 (w32 x))
theorem ref13_Wrap {P : Prg} {f : Nat} (b : Body P f 7 [.tmp 2] ac_cadenzaref13_Wrap) : S_Wrap P f := by
  intro x
  have e : IntKind.i32.wrap (IntKind.u32.wrap (IntKind.u64.wrap x)) = w32 x := by
    rw [wrap_u64_mod, wrap_u32_mod, w32_def, w32_eq, w32_eq]; omega
  refine VC.of_acall rfl rfl (ACall.of_body b (by simp) ?_)
  simp (maxSteps := 4000000) (disch := omega) only [abv, step, stepv, ev, wl, wn, wp, wz, aop, cV, cV1, AV.one, partCells, okW, onlyFr, app, sliceCells, cellsAt, srcA, subA, eqFs, Int.cast_ofNat_Int, simprocAttr, ac_cadenzaref13_Wrap, e]

theorem tdiv_neg' {x : Int} (h : x < 0) (n : Int) : x.tdiv n = -(-x / n) ∧ x.tmod n = -(-x % n) := by
  have e : x = -(-x) := by omega
  constructor
  · rw [e, Int.neg_tdiv, Int.tdiv_eq_ediv_of_nonneg (by omega)]; simp
  · rw [e, Int.neg_tmod, Int.tmod_eq_emod_of_nonneg (by omega)]; simp

def S_Behind (P : Prg) (f : Nat) : Prop := ∀ (b l : Int), -2147483648 ≤ l ∧ l ≤ 2147483647 → VC P f [.int .i64 (if b = 8 then 4 else 5), .int .i32 l] (.int .i32 (firstN b l))
theorem ref13_Behind {P : Prg} {f : Nat} (b : Body P f 26 [.tmp 4] ac_cadenzaref13_Behind) : S_Behind P f := by
  intro x l hl
  have hr := firstN_rng x hl
  refine VC.of_acall rfl rfl (ACall.of_body b (by simp) ?_)
  by_cases hn : l < 0
  · have e1 := tdiv_neg' (x := 15 * l) (by omega) 16
    have e2 := tdiv_neg' (x := 31 * l) (by omega) 32
    by_cases h : x = 8
    · by_cases hm : -(15 * l) % 16 = 0
      · have e3 : -(-(15 * l) / 16) = firstN x l := by unfold firstN; rw [if_pos h]; omega
        rw [← e3] at hr
        simp (maxSteps := 4000000) (disch := omega) only [abv, step, stepv, ev, wl, wn, wp, wz, aop, cV, cV1, AV.one, partCells, okW, onlyFr, app, sliceCells, cellsAt, srcA, subA, eqFs, Int.cast_ofNat_Int, simprocAttr, ac_cadenzaref13_Behind, h, e1.1, e1.2, hm]
        rw [h] at e3; rw [e3]
      · have e3 : -(-(15 * l) / 16) - 1 = firstN x l := by unfold firstN; rw [if_pos h]; omega
        rw [← e3] at hr
        simp (maxSteps := 4000000) (disch := omega) only [abv, step, stepv, ev, wl, wn, wp, wz, aop, cV, cV1, AV.one, partCells, okW, onlyFr, app, sliceCells, cellsAt, srcA, subA, eqFs, Int.cast_ofNat_Int, simprocAttr, ac_cadenzaref13_Behind, h, e1.1, e1.2, hm]
        rw [h] at e3; rw [e3]
    · by_cases hm : -(31 * l) % 32 = 0
      · have e3 : -(-(31 * l) / 32) = firstN x l := by unfold firstN; rw [if_neg h]; omega
        rw [← e3] at hr
        simp (maxSteps := 4000000) (disch := omega) only [abv, step, stepv, ev, wl, wn, wp, wz, aop, cV, cV1, AV.one, partCells, okW, onlyFr, app, sliceCells, cellsAt, srcA, subA, eqFs, Int.cast_ofNat_Int, simprocAttr, ac_cadenzaref13_Behind, if_neg h, e2.1, e2.2, hm, e3]
      · have e3 : -(-(31 * l) / 32) - 1 = firstN x l := by unfold firstN; rw [if_neg h]; omega
        rw [← e3] at hr
        simp (maxSteps := 4000000) (disch := omega) only [abv, step, stepv, ev, wl, wn, wp, wz, aop, cV, cV1, AV.one, partCells, okW, onlyFr, app, sliceCells, cellsAt, srcA, subA, eqFs, Int.cast_ofNat_Int, simprocAttr, ac_cadenzaref13_Behind, if_neg h, e2.1, e2.2, hm, e3]
  · by_cases h : x = 8
    · simp (maxSteps := 4000000) (disch := omega) only [abv, step, stepv, ev, wl, wn, wp, wz, aop, cV, cV1, AV.one, partCells, okW, onlyFr, app, sliceCells, cellsAt, srcA, subA, eqFs, Int.cast_ofNat_Int, simprocAttr, ac_cadenzaref13_Behind, h, firstN]
    · simp (maxSteps := 4000000) (disch := omega) only [abv, step, stepv, ev, wl, wn, wp, wz, aop, cV, cV1, AV.one, partCells, okW, onlyFr, app, sliceCells, cellsAt, srcA, subA, eqFs, Int.cast_ofNat_Int, simprocAttr, ac_cadenzaref13_Behind, if_neg h, firstN]

def S_Shift13 (P : Prg) (f : Nat) : Prop := ∀ x : Int, VC P f [.int .i64 x] (if half x = 0 then .tup [.int .i64 0, .int .i64 2] else .tup [.int .i64 (if x = 8 then 4 else 5), .int .i64 0])
theorem ref13_Shift {P : Prg} {f : Nat} (b : Body P f 12 [.tmp 2, .tmp 3] ac_cadenzaref13_Shift) : S_Shift13 P f := by
  intro x
  refine VC.of_acall rfl (by split <;> rfl) (ACall.of_body b (by simp) ?_)
  rcases half_cases x with ⟨rfl, h⟩ | ⟨rfl, h⟩ | ⟨rfl, h⟩ | ⟨h2, h3, h4, h⟩ <;> simp (maxSteps := 4000000) (disch := omega) only [abv, step, stepv, ev, wl, wn, wp, wz, aop, cV, cV1, AV.one, partCells, okW, onlyFr, app, sliceCells, cellsAt, srcA, subA, eqFs, Int.cast_ofNat_Int, simprocAttr, ac_cadenzaref13_Shift, h]

def S_R14Step (P : Prg) (f : Nat) : Prop := S_TStep P f
theorem ref14_Step {P : Prg} {f : Nat} (b : Body P f 7 [.tmp 2] ac_cadenzaref14_Step) : S_R14Step P f := by
  intro i
  refine VC.of_acall rfl rfl (ACall.of_body b (by simp) ?_)
  by_cases h0 : i = 0
  · subst h0; simp (maxSteps := 4000000) (disch := omega) only [abv, step, stepv, ev, wl, wn, wp, wz, aop, cV, cV1, AV.one, partCells, okW, onlyFr, app, sliceCells, cellsAt, srcA, subA, eqFs, Int.cast_ofNat_Int, simprocAttr, ac_cadenzaref14_Step, stepN, Int.natCast_zero]
  by_cases h1 : i < 4
  · simp (maxSteps := 4000000) (disch := omega) only [abv, step, stepv, ev, wl, wn, wp, wz, aop, cV, cV1, AV.one, partCells, okW, onlyFr, app, sliceCells, cellsAt, srcA, subA, eqFs, Int.cast_ofNat_Int, simprocAttr, ac_cadenzaref14_Step, stepN, h0]
  · simp (maxSteps := 4000000) (disch := omega) only [abv, step, stepv, ev, wl, wn, wp, wz, aop, cV, cV1, AV.one, partCells, okW, onlyFr, app, sliceCells, cellsAt, srcA, subA, eqFs, Int.cast_ofNat_Int, simprocAttr, ac_cadenzaref14_Step, stepN, h0]

def S_Sign (P : Prg) (f : Nat) : Prop := ∀ x : Int, VC P f [.int .i32 x] (.int .i32 (sgn x))
theorem ref14_Sign {P : Prg} {f : Nat} (b : Body P f 7 [.tmp 2] ac_cadenzaref14_Sign) : S_Sign P f := by
  intro x
  refine VC.of_acall rfl rfl (ACall.of_body b (by simp) ?_)
  by_cases h0 : x < 0
  · simp (maxSteps := 4000000) (disch := omega) only [abv, step, stepv, ev, wl, wn, wp, wz, aop, cV, cV1, AV.one, partCells, okW, onlyFr, app, sliceCells, cellsAt, srcA, subA, eqFs, Int.cast_ofNat_Int, simprocAttr, ac_cadenzaref14_Sign, sgn]
  by_cases h1 : 0 < x
  · simp (maxSteps := 4000000) (disch := omega) only [abv, step, stepv, ev, wl, wn, wp, wz, aop, cV, cV1, AV.one, partCells, okW, onlyFr, app, sliceCells, cellsAt, srcA, subA, eqFs, Int.cast_ofNat_Int, simprocAttr, ac_cadenzaref14_Sign, sgn]
  · simp (maxSteps := 4000000) (disch := omega) only [abv, step, stepv, ev, wl, wn, wp, wz, aop, cV, cV1, AV.one, partCells, okW, onlyFr, app, sliceCells, cellsAt, srcA, subA, eqFs, Int.cast_ofNat_Int, simprocAttr, ac_cadenzaref14_Sign, sgn]

def S_RSum (P : Prg) (f : Nat) : Prop := ∀ x : Filt, okFl x → VC P f [.agg (filtL x)] (.int .i32 (w32 (dotN x.tp x.ps 16)))
theorem mul_rng {a b : Int} (ha : -2147483648 ≤ a ∧ a ≤ 2147483647) (hb : -2147483648 ≤ b ∧ b ≤ 2147483647) : -4611686018427387904 ≤ a * b ∧ a * b ≤ 4611686018427387904 := by
  have h : (a * b).natAbs ≤ 2147483648 * 2147483648 := by rw [Int.natAbs_mul]; exact Nat.mul_le_mul (by omega) (by omega)
  omega
theorem ref14_Sum {P : Prg} {f fW t0 : Nat} (b : Body P f 28 [.tmp 2] (ac_cadenzaref14_Sum fW t0)) (hW : S_Wrap P fW) : S_RSum P f := by
  intro x hx
  have l33 := filt_len hx
  have tk : (filtL x).take 33 = filtL x := take_all (by omega)
  have ho := filt_one x
  refine VC.of_acall (by simp [isDL, isD, isDL_filt]) rfl (ACall.of_body b (by simp) ?_)
  simp (maxSteps := 4000000) (disch := omega) only [abv, step, stepv, ev, wl, wn, wp, wz, aop, cV, cV1, AV.one, partCells, okW, onlyFr, app, sliceCells, cellsAt, srcA, subA, eqFs, Int.cast_ofNat_Int, simprocAttr, ac_cadenzaref14_Sum, l33, tk, ho]
  have z : w32 (dotN x.tp x.ps 0) = 0 := rfl
  refine ALoop.by (ι := Nat) (fun k => ⟨[(4, .int .i64 k), (3, .int .i64 (w32 (dotN x.tp x.ps k))), (1, .ref 0 1 0)], [⟨t0, 33, 1, filtL x, 0⟩]⟩) (fun k => k ≤ 16) (fun k => 16 - k) 0 (Le.slots (by rw [z]; simp [Am.look])) (by omega) ?_
  intro k hk
  have hr := w32_rng (dotN x.tp x.ps k)
  by_cases hlt : k < 16
  · have e1 := filt_tap hx hlt
    have e2 := filt_past hx hlt
    have h1 := getD_mem hx.2.2.1 k
    have h2 := getD_mem hx.2.2.2 k
    have h3 := mul_rng h1 h2
    have h4 := w32_rng (x.tp.getD k 0 * x.ps.getD k 0)
    have h5 := w32_rng (dotN x.tp x.ps (k + 1))
    have e4 : w32 (w32 (dotN x.tp x.ps k) + w32 (x.tp.getD k 0 * x.ps.getD k 0)) = w32 (dotN x.tp x.ps (k + 1)) := by rw [w32_add]; rfl
    simp (maxSteps := 4000000) (disch := omega) only [abv, step, stepv, ev, wl, wn, wp, wz, aop, cV, cV1, AV.one, partCells, okW, onlyFr, app, sliceCells, cellsAt, srcA, subA, eqFs, Int.cast_ofNat_Int, simprocAttr, l33, e1, e2]
    refine callD.vc (hW _) ?_
    simp (maxSteps := 4000000) (disch := omega) only [abv, step, stepv, ev, wl, wn, wp, wz, aop, cV, cV1, AV.one, partCells, okW, onlyFr, app, sliceCells, cellsAt, srcA, subA, eqFs, Int.cast_ofNat_Int, simprocAttr]
    refine callD.vc (hW _) ?_
    rw [e4]
    simp (maxSteps := 4000000) (disch := omega) only [abv, step, stepv, ev, wl, wn, wp, wz, aop, cV, cV1, AV.one, partCells, okW, onlyFr, app, sliceCells, cellsAt, srcA, subA, eqFs, Int.cast_ofNat_Int, simprocAttr]
    exact ⟨k + 1, by omega, by omega, Le.slots (by simp [Am.look])⟩
  · have e : k = 16 := by omega
    subst e
    simp (maxSteps := 4000000) (disch := omega) only [abv, step, stepv, ev, wl, wn, wp, wz, aop, cV, cV1, AV.one, partCells, okW, onlyFr, app, sliceCells, cellsAt, srcA, subA, eqFs, Int.cast_ofNat_Int, simprocAttr]

def S_RTold (P : Prg) (f : Nat) : Prop := ∀ x : Filt, okFl x → x.sh = 9 ∨ x.sh = 10 → VC P f [.agg (filtL x)] (.int .i32 (guessF x))
theorem ref14_Told {P : Prg} {f fS fW t0 : Nat} (b : Body P f 28 [.tmp 2] (ac_cadenzaref14_Told fS fW t0)) (hS : S_RSum P fS) (hW : S_Wrap P fW) : S_RTold P f := by
  intro x hx hs
  have l33 := filt_len hx
  have tk : (filtL x).take 33 = filtL x := take_all (by omega)
  have ho := filt_one x
  have e0 : (filtL x).drop 0 = .int .i64 x.sh :: (ks .i32 x.tp ++ ks .i32 x.ps) := rfl
  have hg := guess_rng x hs
  have q1 := hx.1
  have q2 := hx.2.1
  have tk32 : (ks .i32 (x.tp ++ x.ps)).take 32 = ks .i32 (x.tp ++ x.ps) := take_all (by simp [ks_length]; omega)
  have hr := w32_rng (dotN x.tp x.ps 16)
  have hr2 := w32_rng (partN x.sh / 2 + dotN x.tp x.ps 16)
  refine VC.of_acall (by simp [isDL, isD, isDL_filt]) rfl (ACall.of_body b (by simp) ?_)
  rcases hs with h | h
  · have hp : partN x.sh = 512 := by simp [partN, h]
    have back : AV.int .i64 9 :: ks .i32 (x.tp ++ x.ps) = filtL x := by simp only [filtL, h, ks_append]
    simp only [guessF, hp] at hg hr2 ⊢
    have e4 : w32 (w32 (dotN x.tp x.ps 16) + 256) = w32 (512 / 2 + dotN x.tp x.ps 16) := by rw [w32_addl]; congr 1; omega
    generalize hG : w32 (512 / 2 + dotN x.tp x.ps 16) = G at *
    simp (maxSteps := 4000000) (disch := omega) only [abv, step, stepv, ev, wl, wn, wp, wz, aop, cV, cV1, AV.one, partCells, okW, onlyFr, app, sliceCells, cellsAt, srcA, subA, eqFs, Int.cast_ofNat_Int, simprocAttr, ac_cadenzaref14_Told, l33, tk, ho, ↓e0, h, tk32]
    simp only [back]
    refine callQ.vc (hS x hx) ?_
    simp (maxSteps := 4000000) (disch := omega) only [abv, step, stepv, ev, wl, wn, wp, wz, aop, cV, cV1, AV.one, partCells, okW, onlyFr, app, sliceCells, cellsAt, srcA, subA, eqFs, Int.cast_ofNat_Int, simprocAttr]
    refine callQ.vc (hW _) ?_
    rw [e4]
    by_cases hn : G < 0
    · have e5 := tdiv_neg' hn 512
      by_cases hm : -G % 512 = 0
      · have e6 : -(-G / 512) = G / 512 := by omega
        simp (maxSteps := 4000000) (disch := omega) only [abv, step, stepv, ev, wl, wn, wp, wz, aop, cV, cV1, AV.one, partCells, okW, onlyFr, app, sliceCells, cellsAt, srcA, subA, eqFs, Int.cast_ofNat_Int, simprocAttr, e5.1, e5.2, hm, e6]
      · have e6 : -(-G / 512) - 1 = G / 512 := by omega
        simp (maxSteps := 4000000) (disch := omega) only [abv, step, stepv, ev, wl, wn, wp, wz, aop, cV, cV1, AV.one, partCells, okW, onlyFr, app, sliceCells, cellsAt, srcA, subA, eqFs, Int.cast_ofNat_Int, simprocAttr, e5.1, e5.2, hm, e6]
    · simp (maxSteps := 4000000) (disch := omega) only [abv, step, stepv, ev, wl, wn, wp, wz, aop, cV, cV1, AV.one, partCells, okW, onlyFr, app, sliceCells, cellsAt, srcA, subA, eqFs, Int.cast_ofNat_Int, simprocAttr]
  · have hp : partN x.sh = 1024 := by simp [partN, h]
    have back : AV.int .i64 10 :: ks .i32 (x.tp ++ x.ps) = filtL x := by simp only [filtL, h, ks_append]
    simp only [guessF, hp] at hg hr2 ⊢
    have e4 : w32 (w32 (dotN x.tp x.ps 16) + 512) = w32 (1024 / 2 + dotN x.tp x.ps 16) := by rw [w32_addl]; congr 1; omega
    generalize hG : w32 (1024 / 2 + dotN x.tp x.ps 16) = G at *
    simp (maxSteps := 4000000) (disch := omega) only [abv, step, stepv, ev, wl, wn, wp, wz, aop, cV, cV1, AV.one, partCells, okW, onlyFr, app, sliceCells, cellsAt, srcA, subA, eqFs, Int.cast_ofNat_Int, simprocAttr, ac_cadenzaref14_Told, l33, tk, ho, ↓e0, h, tk32]
    simp only [back]
    refine callQ.vc (hS x hx) ?_
    simp (maxSteps := 4000000) (disch := omega) only [abv, step, stepv, ev, wl, wn, wp, wz, aop, cV, cV1, AV.one, partCells, okW, onlyFr, app, sliceCells, cellsAt, srcA, subA, eqFs, Int.cast_ofNat_Int, simprocAttr]
    refine callQ.vc (hW _) ?_
    rw [e4]
    by_cases hn : G < 0
    · have e5 := tdiv_neg' hn 1024
      by_cases hm : -G % 1024 = 0
      · have e6 : -(-G / 1024) = G / 1024 := by omega
        simp (maxSteps := 4000000) (disch := omega) only [abv, step, stepv, ev, wl, wn, wp, wz, aop, cV, cV1, AV.one, partCells, okW, onlyFr, app, sliceCells, cellsAt, srcA, subA, eqFs, Int.cast_ofNat_Int, simprocAttr, e5.1, e5.2, hm, e6]
      · have e6 : -(-G / 1024) - 1 = G / 1024 := by omega
        simp (maxSteps := 4000000) (disch := omega) only [abv, step, stepv, ev, wl, wn, wp, wz, aop, cV, cV1, AV.one, partCells, okW, onlyFr, app, sliceCells, cellsAt, srcA, subA, eqFs, Int.cast_ofNat_Int, simprocAttr, e5.1, e5.2, hm, e6]
    · simp (maxSteps := 4000000) (disch := omega) only [abv, step, stepv, ev, wl, wn, wp, wz, aop, cV, cV1, AV.one, partCells, okW, onlyFr, app, sliceCells, cellsAt, srcA, subA, eqFs, Int.cast_ofNat_Int, simprocAttr]
theorem sgn_cases (x : Int) : sgn x = -1 ∨ sgn x = 0 ∨ sgn x = 1 := by unfold sgn; split <;> (try split) <;> omega
theorem step_cases (i : Nat) : stepN i = 1 ∨ stepN i = 2 ∨ stepN i = 4 := by unfold stepN; split <;> (try split) <;> omega
theorem step_rng (i : Nat) (a b : Int) : (-4 ≤ stepN i * sgn a ∧ stepN i * sgn a ≤ 4) ∧ (-4 ≤ stepN i * sgn a * sgn b ∧ stepN i * sgn a * sgn b ≤ 4) := by
  rcases step_cases i with h | h | h <;> rcases sgn_cases a with g | g | g <;> rcases sgn_cases b with k | k | k <;> rw [h, g, k] <;> decide

def S_RLearned (P : Prg) (f : Nat) : Prop := ∀ (x : Filt) (w : Int), okFl x → VC P f [.agg (filtL x), .int .i32 w] (.agg (filtL (learnF x w)))
theorem ref14_Learned {P : Prg} {f fS fG t0 : Nat} (b : Body P f 29 [.cell 4 t0] (ac_cadenzaref14_Learned fS fG t0)) (ht : aggO P t0 = some (some 33)) (hS : S_R14Step P fS) (hG : S_Sign P fG) : S_RLearned P f := by
  intro x w hx
  have l33 := filt_len hx
  have tk : (filtL x).take 33 = filtL x := take_all (by omega)
  have ho := filt_one x
  have lw := filt_len (ok_learn hx w)
  have tkw : (filtL (learnF x w)).take 33 = filtL (learnF x w) := take_all (by omega)
  have how := filt_one (learnF x w)
  refine VC.of_acall (by simp [isDL, isD, isDL_filt]) (by simp [isD, isDL_filt]) (ACall.of_body b (by simp) ?_)
  simp (maxSteps := 4000000) (disch := omega) only [abv, step, stepv, ev, wl, wn, wp, wz, aop, cV, cV1, AV.one, partCells, okW, onlyFr, app, sliceCells, cellsAt, srcA, subA, eqFs, Int.cast_ofNat_Int, simprocAttr, ac_cadenzaref14_Learned, l33, tk, ho]
  refine ALoop.by (ι := Nat) (fun k => ⟨[(5, .int .i64 k), (4, .ref 1 1 0), (2, .ref 0 1 0), (1, .int .i32 w)], [⟨t0, 33, 1, filtL (lf x w k), 0⟩, ⟨t0, 33, 1, filtL zeroF, 0⟩]⟩) (fun k => k ≤ 16) (fun k => 16 - k) 0 (by rw [show lf x w 0 = x by simp [lf, learn_zero hx]]; exact Le.slots (by simp [Am.look])) (by omega) ?_
  intro k hk
  by_cases hlt : k < 16
  · have hok := ok_learnK hx w k
    have e2 := filt_tap hok hlt
    have e2p := filt_past hok hlt
    have e3 := fun v => filt_setTap hok hlt v
    have e4 := learn_getD x w hlt
    have e5 := filt_len hok
    have hu := learn_set x w hlt
    have ef : ∀ v, ({ lf x w k with tp := (lf x w k).tp.set k v } : Filt) = { x with tp := (learnK x w k).set k v } := fun _ => rfl
    have e7 : (lf x w k).tp.getD k 0 = x.tp.getD k 0 := e4
    have e8 : (lf x w k).ps.getD k 0 = x.ps.getD k 0 := rfl
    have hr := step_rng k (x.ps.getD k 0) w
    simp only [updT] at hu
    simp (maxSteps := 4000000) (disch := omega) only [abv, step, stepv, ev, wl, wn, wp, wz, aop, cV, cV1, AV.one, partCells, okW, onlyFr, app, sliceCells, cellsAt, srcA, subA, eqFs, Int.cast_ofNat_Int, simprocAttr, e2, e7]
    refine callD.vc (hS k) ?_
    simp (maxSteps := 4000000) (disch := omega) only [abv, step, stepv, ev, wl, wn, wp, wz, aop, cV, cV1, AV.one, partCells, okW, onlyFr, app, sliceCells, cellsAt, srcA, subA, eqFs, Int.cast_ofNat_Int, simprocAttr, e2p, e8, e5]
    refine callD.vc (hG _) ?_
    simp (maxSteps := 4000000) (disch := omega) only [abv, step, stepv, ev, wl, wn, wp, wz, aop, cV, cV1, AV.one, partCells, okW, onlyFr, app, sliceCells, cellsAt, srcA, subA, eqFs, Int.cast_ofNat_Int, simprocAttr]
    refine callD.vc (hG _) ?_
    simp (maxSteps := 4000000) (disch := omega) only [abv, step, stepv, ev, wl, wn, wp, wz, aop, cV, cV1, AV.one, partCells, okW, onlyFr, app, sliceCells, cellsAt, srcA, subA, eqFs, Int.cast_ofNat_Int, simprocAttr, e3, e5, w32_def, ef, hu]
    exact ⟨k + 1, by omega, by omega, Le.slots (by simp [Am.look])⟩
  · have e : k = 16 := by omega
    subst e
    have hF : lf x w 16 = learnF x w := rfl
    rw [hF]
    simp (maxSteps := 4000000) (disch := omega) only [abv, step, stepv, ev, wl, wn, wp, wz, aop, cV, cV1, AV.one, partCells, okW, onlyFr, app, sliceCells, cellsAt, srcA, subA, eqFs, Int.cast_ofNat_Int, simprocAttr, lw, tkw, how, resA, ht, zeroF_eq]

def pushK (x : Filt) (k : Nat) : List Int := (List.range 16).map fun j => if k < j then x.ps.getD (j - 1) 0 else x.ps.getD j 0
def pf (x : Filt) (k : Nat) : Filt := { x with ps := pushK x k }
theorem push_15 {x : Filt} (h : okFl x) : pf x 15 = x := by
  have := range_getD h.2.1
  have e : pushK x 15 = x.ps := by
    refine Eq.trans ?_ this
    simp only [pushK]
    apply List.map_congr_left
    intro j hj
    rw [if_neg (by simp at hj; omega)]
  simp [pf, e]
theorem push_0 {x : Filt} (h : okFl x) (v : Int) : (pushK x 0).set 0 v = v :: x.ps.take 15 := by
  apply List.ext_getElem (by simp [pushK, h.2.1])
  intro i h1 h2
  rw [List.getElem_set]
  simp only [pushK, List.getElem_map, List.getElem_range]
  cases i with
  | zero => simp
  | succ i =>
    have hi : i < x.ps.length := by simp [pushK] at h1; have := h.2.1; omega
    simp [List.getD_eq_getElem?_getD, List.getElem?_eq_getElem hi]
theorem push_step (x : Filt) {k : Nat} (h0 : 0 < k) (hk : k < 16) : (pushK x k).set k (x.ps.getD (k - 1) 0) = pushK x (k - 1) := by
  apply List.ext_getElem (by simp [pushK])
  intro i h1 h2
  rw [List.getElem_set]
  simp only [pushK, List.getElem_map, List.getElem_range]
  by_cases e : k = i
  · subst e; rw [if_pos rfl, if_pos (by omega)]
  · rw [if_neg e]
    by_cases h : k < i
    · rw [if_pos h, if_pos (by omega)]
    · rw [if_neg h, if_neg (by omega)]
theorem ok_pf {x : Filt} (h : okFl x) (k : Nat) : okFl (pf x k) := by
  refine ⟨h.1, by simp [pf, pushK], h.2.2.1, fun v hv => ?_⟩
  simp only [pf, pushK, List.mem_map] at hv
  obtain ⟨i, _, rfl⟩ := hv
  split
  · exact getD_mem h.2.2.2 _
  · exact getD_mem h.2.2.2 _
theorem pf_getD (x : Filt) {k j : Nat} (hj : j < 16) (h : j ≤ k) : (pf x k).ps.getD j 0 = x.ps.getD j 0 := by
  simp only [pf, pushK]
  rw [List.getD_eq_getElem?_getD]
  simp [hj]
  omega

def S_RPushed (P : Prg) (f : Nat) : Prop := ∀ (x : Filt) (v : Int), okFl x → -2147483648 ≤ v ∧ v ≤ 2147483647 → VC P f [.agg (filtL x), .int .i32 v] (.agg (filtL (pushF x v)))
theorem ref14_Pushed {P : Prg} {f t0 : Nat} (b : Body P f 22 [.cell 4 t0] (ac_cadenzaref14_Pushed t0)) (ht : aggO P t0 = some (some 33)) : S_RPushed P f := by
  intro x v hx hv
  have l33 := filt_len hx
  have ho := filt_one x
  have lw := filt_len (ok_push hx hv)
  have tkw : (filtL (pushF x v)).take 33 = filtL (pushF x v) := take_all (by omega)
  have how := filt_one (pushF x v)
  refine VC.of_acall (by simp [isDL, isD, isDL_filt]) (by simp [isD, isDL_filt]) (ACall.of_body b (by simp) ?_)
  simp (maxSteps := 4000000) (disch := omega) only [abv, step, stepv, ev, wl, wn, wp, wz, aop, cV, cV1, AV.one, partCells, okW, onlyFr, app, sliceCells, cellsAt, srcA, subA, eqFs, Int.cast_ofNat_Int, simprocAttr, ac_cadenzaref14_Pushed, l33, ho]
  refine ALoop.by (ι := Nat) (fun k => ⟨[(5, .int .i64 k), (4, .ref 1 1 0), (2, .ref 0 1 0), (1, .int .i32 v)], [⟨t0, 33, 1, filtL (pf x k), 0⟩, ⟨t0, 33, 1, filtL zeroF, 0⟩]⟩) (fun k => k ≤ 15) (fun k => k) 15 (by rw [push_15 hx]; exact Le.slots (by simp [Am.look])) (by omega) ?_
  intro k hk
  have hok := ok_pf hx k
  have e5 := filt_len hok
  by_cases h0 : 0 < k
  · have e2 := filt_past hok (k := k - 1) (by omega)
    have e3 := fun v => filt_setPast hok (k := k) (by omega) v
    have e7 := pf_getD x (k := k) (j := k - 1) (by omega) (by omega)
    have hu := push_step x h0 (by omega)
    have ef : ∀ v, ({ pf x k with ps := (pf x k).ps.set k v } : Filt) = { x with ps := (pushK x k).set k v } := fun _ => rfl
    simp (maxSteps := 4000000) (disch := omega) only [abv, step, stepv, ev, wl, wn, wp, wz, aop, cV, cV1, AV.one, partCells, okW, onlyFr, app, sliceCells, cellsAt, srcA, subA, eqFs, Int.cast_ofNat_Int, simprocAttr, e2, e7, e3, e5, ef, hu]
    exact ⟨k - 1, by omega, by omega, by rw [show ((k - 1 : Nat) : Int) = (k : Int) - 1 by omega]; exact Le.slots (by simp [Am.look])⟩
  · have e : k = 0 := by omega
    subst e
    have e3 : (filtL (pf x 0)).take 17 ++ [.int .i32 v] ++ (filtL (pf x 0)).drop 18 = filtL (pushF x v) := by
      have := filt_setPast hok (k := 0) (by omega) v
      simp only [Nat.add_zero, pf, push_0 hx] at this
      exact this
    simp (maxSteps := 4000000) (disch := omega) only [abv, step, stepv, ev, wl, wn, wp, wz, aop, cV, cV1, AV.one, partCells, okW, onlyFr, app, sliceCells, cellsAt, srcA, subA, eqFs, Int.cast_ofNat_Int, simprocAttr, Int.natCast_zero, e3, e5, lw, tkw, how, resA, ht, zeroF_eq]
end Go.Am

namespace Go.Am
open Go.RowKit

def S_RStepped15 (P : Prg) (f : Nat) : Prop := ∀ (x : Filt) (y : Int), okFl x → x.sh = 9 ∨ x.sh = 10 → -2147483648 ≤ y ∧ y ≤ 2147483647 → VC P f [.agg (filtL x), .int .i32 y] (.tup [.int .i32 (bckX x y), .agg (filtL (bckF x y))])
theorem ref15_Stepped {P : Prg} {f fT fW fL fP t0 : Nat} (b : Body P f 20 [.tmp 4, .cell 5 t0] (ac_cadenzaref15_Stepped fT fW fL fP t0)) (ht : aggO P t0 = some (some 33)) (hT : S_RTold P fT) (hW : S_Wrap P fW) (hL : S_RLearned P fL) (hP : S_RPushed P fP) : S_RStepped15 P f := by
  intro x y hx hs hy
  have l1 := filt_len hx
  have t1 : (filtL x).take 33 = filtL x := take_all (by omega)
  have o1 := filt_one x
  have hv : -2147483648 ≤ bckX x y ∧ bckX x y ≤ 2147483647 := w32_rng _
  have l3 := filt_len (ok_behind hx hv y)
  have t3 : (filtL (bckF x y)).take 33 = filtL (bckF x y) := take_all (by unfold bckF; omega)
  have o3 := filt_one (bckF x y)
  have hg := guess_rng x hs
  have hw : w32 (y + guessF x) = bckX x y := rfl
  have hf : pushF (learnF x y) (bckX x y) = bckF x y := rfl
  rw [← bckF] at l3
  refine VC.of_acall (by simp [isDL, isD, isDL_filt]) (by simp [isD, isDL, isDL_filt]) (ACall.of_body b (by simp) ?_)
  simp (maxSteps := 4000000) (disch := omega) only [abv, step, stepv, ev, wl, wn, wp, wz, aop, cV, cV1, AV.one, partCells, okW, onlyFr, app, sliceCells, cellsAt, srcA, subA, eqFs, Int.cast_ofNat_Int, simprocAttr, ac_cadenzaref15_Stepped, l1, t1, o1]
  refine callQ.vc (hT x hx hs) ?_
  simp (maxSteps := 4000000) (disch := omega) only [abv, step, stepv, ev, wl, wn, wp, wz, aop, cV, cV1, AV.one, partCells, okW, onlyFr, app, sliceCells, cellsAt, srcA, subA, eqFs, Int.cast_ofNat_Int, simprocAttr]
  refine callQ.vc (hW _) ?_
  rw [hw]
  simp (maxSteps := 4000000) (disch := omega) only [abv, step, stepv, ev, wl, wn, wp, wz, aop, cV, cV1, AV.one, partCells, okW, onlyFr, app, sliceCells, cellsAt, srcA, subA, eqFs, Int.cast_ofNat_Int, simprocAttr, l1, t1, o1]
  refine callQ.vc (hL x _ hx) ?_
  simp (maxSteps := 4000000) (disch := omega) only [abv, step, stepv, ev, wl, wn, wp, wz, aop, cV, cV1, AV.one, partCells, okW, onlyFr, app, sliceCells, cellsAt, srcA, subA, eqFs, Int.cast_ofNat_Int, simprocAttr]
  refine callQ.vc (hP _ _ (ok_learn hx _) hv) ?_
  rw [hf]
  simp (maxSteps := 4000000) (disch := omega) only [abv, step, stepv, ev, wl, wn, wp, wz, aop, cV, cV1, AV.one, partCells, okW, onlyFr, app, sliceCells, cellsAt, srcA, subA, eqFs, Int.cast_ofNat_Int, simprocAttr, l3, t3, o3, resA, ht, zeroF_eq]

def S_RBehind19 (P : Prg) (f : Nat) : Prop := ∀ c : Chan, okCh c → VC P f [.agg (chanL c)] (.int .i64 (firstN c.bits c.last))
theorem ref19_behind {P : Prg} {f fB t0 : Nat} (b : Body P f 12 [.tmp 2] (ac_cadenzaref19_behind fB t0)) (hB : S_Behind P fB) : S_RBehind19 P f := by
  intro c ⟨h1, h2, h3, h4⟩
  have lc := chan_len h3
  have oc := chan_one c
  have e0 : (chanL c).drop 0 = .int .i64 c.bits :: .int .i32 c.last :: filtL c.fl := rfl
  have e1 : (chanL c).drop 1 = .int .i32 c.last :: filtL c.fl := rfl
  have hr := firstN_rng c.bits h4
  have hb := hB c.bits c.last h4
  refine VC.of_acall (by simp [isDL, isD, isDL_chan]) rfl (ACall.of_body b (by simp) ?_)
  by_cases h8 : c.bits = 8
  · rw [if_pos h8] at hb
    simp (maxSteps := 4000000) (disch := omega) only [abv, step, stepv, ev, wl, wn, wp, wz, aop, cV, cV1, AV.one, partCells, okW, onlyFr, app, sliceCells, cellsAt, srcA, subA, eqFs, Int.cast_ofNat_Int, simprocAttr, ac_cadenzaref19_behind, lc, oc, ↓e0, ↓e1]
    refine callQ.vc hb ?_
    simp (maxSteps := 4000000) (disch := omega) only [abv, step, stepv, ev, wl, wn, wp, wz, aop, cV, cV1, AV.one, partCells, okW, onlyFr, app, sliceCells, cellsAt, srcA, subA, eqFs, Int.cast_ofNat_Int, simprocAttr]
  · rw [if_neg h8] at hb
    simp (maxSteps := 4000000) (disch := omega) only [abv, step, stepv, ev, wl, wn, wp, wz, aop, cV, cV1, AV.one, partCells, okW, onlyFr, app, sliceCells, cellsAt, srcA, subA, eqFs, Int.cast_ofNat_Int, simprocAttr, ac_cadenzaref19_behind, lc, oc, ↓e0, ↓e1, h8]
    refine callQ.vc hb ?_
    simp (maxSteps := 4000000) (disch := omega) only [abv, step, stepv, ev, wl, wn, wp, wz, aop, cV, cV1, AV.one, partCells, okW, onlyFr, app, sliceCells, cellsAt, srcA, subA, eqFs, Int.cast_ofNat_Int, simprocAttr]

def S_RStepped19 (P : Prg) (f : Nat) : Prop := ∀ (c : Chan) (y : Int), okCh c → -2147483648 ≤ y ∧ y ≤ 2147483647 → VC P f [.agg (chanL c), .int .i32 y] (.tup [.int .i32 (cbckX c y), .agg (chanL (cbckC c y))])
theorem ref19_Stepped {P : Prg} {f fS fB fW t0 t1 : Nat} (b : Body P f 28 [.tmp 4, .cell 5 t0] (ac_cadenzaref19_Stepped fS fB fW t0 t1)) (ht : aggO P t0 = some (some 35)) (hS : S_RStepped15 P fS) (hB : S_RBehind19 P fB) (hW : S_Wrap P fW) : S_RStepped19 P f := by
  intro c y hc hy
  obtain ⟨h1, h2, h3, h4⟩ := id hc
  have hs : c.fl.sh = 9 ∨ c.fl.sh = 10 := by rw [h2]; exact shift_of _
  have lc := chan_len h3
  have tc : (chanL c).take 35 = chanL c := take_all (by omega)
  have oc := chan_one c
  have e0 : (chanL c).drop 0 = .int .i64 c.bits :: .int .i32 c.last :: filtL c.fl := rfl
  have e2 := chan_fl h3
  have hr := firstN_rng c.bits h4
  have hbr : -2147483648 ≤ bckX c.fl y ∧ bckX c.fl y ≤ 2147483647 := w32_rng _
  have hok := ok_cbck hc y
  have l1 := filt_len hok.2.2.1
  have t1' : (filtL (cbckC c y).fl).take 33 = filtL (cbckC c y).fl := take_all (by omega)
  have o1 := filt_one (cbckC c y).fl
  have d1 : (filtL (cbckC c y).fl).drop 33 = [] := List.drop_eq_nil_of_le (by omega)
  have l2 := chan_len hok.2.2.1
  have t2 : (chanL (cbckC c y)).take 35 = chanL (cbckC c y) := take_all (by omega)
  have o2 := chan_one (cbckC c y)
  have mk : AV.int .i64 c.bits :: .int .i32 (cbckX c y) :: filtL (cbckC c y).fl = chanL (cbckC c y) := rfl
  have hz : w32 (bckX c.fl y + firstN c.bits c.last) = cbckX c y := rfl
  have hfe : bckF c.fl y = (cbckC c y).fl := rfl
  refine VC.of_acall (by simp [isDL, isD, isDL_chan]) (by simp [isD, isDL, isDL_chan]) (ACall.of_body b (by simp) ?_)
  simp (maxSteps := 4000000) (disch := omega) only [abv, step, stepv, ev, wl, wn, wp, wz, aop, cV, cV1, AV.one, partCells, okW, onlyFr, app, sliceCells, cellsAt, srcA, subA, eqFs, Int.cast_ofNat_Int, simprocAttr, ac_cadenzaref19_Stepped, lc, tc, oc, e2]
  refine callQ.vc (hS c.fl _ h3 hs hy) ?_
  rw [hfe]
  simp (maxSteps := 4000000) (disch := omega) only [abv, step, stepv, ev, wl, wn, wp, wz, aop, cV, cV1, AV.one, partCells, okW, onlyFr, app, sliceCells, cellsAt, srcA, subA, eqFs, Int.cast_ofNat_Int, simprocAttr, lc, tc, oc, l1, t1', o1, d1]
  refine callQ.vc (hB c hc) ?_
  simp (maxSteps := 4000000) (disch := omega) only [abv, step, stepv, ev, wl, wn, wp, wz, aop, cV, cV1, AV.one, partCells, okW, onlyFr, app, sliceCells, cellsAt, srcA, subA, eqFs, Int.cast_ofNat_Int, simprocAttr]
  refine callQ.vc (hW _) ?_
  rw [hz]
  simp (maxSteps := 4000000) (disch := omega) only [abv, step, stepv, ev, wl, wn, wp, wz, aop, cV, cV1, AV.one, partCells, okW, onlyFr, app, sliceCells, cellsAt, srcA, subA, eqFs, Int.cast_ofNat_Int, simprocAttr, lc, tc, oc, ↓e0, l1, t1', o1, d1, l2, t2, o2, mk, resA, ht, zeroC_eq]

/-! ### New -/


theorem ref14_New {P : Prg} {f fS t0 t1 : Nat} (b : Body P f 22 [.cell 4 t1, .tmp 5] (ac_cadenzaref14_New fS t0 t1)) (ht : aggO P t1 = some (some 33)) (hS : S_Shift13 P fS) : S_TNew P f := by
  intro x t hl
  have hk : (ks .i32 t).length = 16 := by simp [ks_length, hl]
  have h1 := ks_one .i32 t
  have tk16 : (ks .i32 t).take 16 = ks .i32 t := take_all (by omega)
  have hs := hS x
  have fin : ∀ s : Int, .int .i64 s :: (ks .i32 t ++ [.int .i32 0, .int .i32 0, .int .i32 0, .int .i32 0, .int .i32 0, .int .i32 0, .int .i32 0, .int .i32 0, .int .i32 0, .int .i32 0, .int .i32 0, .int .i32 0, .int .i32 0, .int .i32 0, .int .i32 0, .int .i32 0]) = filtL ⟨s, t, z16⟩ := fun _ => rfl
  have hl33 : ∀ s : Int, (filtL ⟨s, t, z16⟩).length = 33 := fun s => by simp [filtL, ks_length, hl, z16]
  have ho := fun s => filt_one ⟨s, t, z16⟩
  have tk : ∀ s : Int, (filtL ⟨s, t, z16⟩).take 33 = filtL ⟨s, t, z16⟩ := fun s => take_all (by rw [hl33]; omega)
  refine VC.of_acall (by simp [isDL, isD, isDL_ks]) (isD_tnew _ _) (ACall.of_body b (by simp) ?_)
  simp (maxSteps := 4000000) (disch := omega) only [abv, step, stepv, ev, wl, wn, wp, wz, aop, cV, cV1, AV.one, partCells, okW, onlyFr, app, sliceCells, cellsAt, srcA, subA, eqFs, Int.cast_ofNat_Int, simprocAttr, ac_cadenzaref14_New, hk, h1, tk16]
  refine callQ.vc hs ?_
  rcases half_cases x with ⟨rfl, h⟩ | ⟨rfl, h⟩ | ⟨rfl, h⟩ | ⟨h2, h3, h4, h⟩
  · simp (maxSteps := 4000000) (disch := omega) only [abv, step, stepv, ev, wl, wn, wp, wz, aop, cV, cV1, AV.one, partCells, okW, onlyFr, app, sliceCells, cellsAt, srcA, subA, eqFs, Int.cast_ofNat_Int, simprocAttr, tnewA, h, hk, h1, tk16, fin, hl33, ho, tk, resA, ht, newF, shiftOf]
  · simp (maxSteps := 4000000) (disch := omega) only [abv, step, stepv, ev, wl, wn, wp, wz, aop, cV, cV1, AV.one, partCells, okW, onlyFr, app, sliceCells, cellsAt, srcA, subA, eqFs, Int.cast_ofNat_Int, simprocAttr, tnewA, h, hk, h1, tk16, fin, hl33, ho, tk, resA, ht, newF, shiftOf]
  · simp (maxSteps := 4000000) (disch := omega) only [abv, step, stepv, ev, wl, wn, wp, wz, aop, cV, cV1, AV.one, partCells, okW, onlyFr, app, sliceCells, cellsAt, srcA, subA, eqFs, Int.cast_ofNat_Int, simprocAttr, tnewA, h, hk, h1, tk16, fin, hl33, ho, tk, resA, ht, newF, shiftOf]
  · simp (maxSteps := 4000000) (disch := omega) only [abv, step, stepv, ev, wl, wn, wp, wz, aop, cV, cV1, AV.one, partCells, okW, onlyFr, app, sliceCells, cellsAt, srcA, subA, eqFs, Int.cast_ofNat_Int, simprocAttr, tnewA, h, hk, h1, tk16, fin, hl33, ho, tk, resA, ht, zeroF_eq]

theorem ref19_New {P : Prg} {f fT t0 t1 t2 : Nat} (b : Body P f 20 [.cell 4 t1, .tmp 5] (ac_cadenzaref19_New fT t0 t1 t2)) (ht : aggO P t1 = some (some 35)) (hT : S_TNew P fT) : S_CNew P f := by
  intro x t hl hI
  have hk : (ks .i32 t).length = 16 := by simp [ks_length, hl]
  have h1 := ks_one .i32 t
  have tk16 : (ks .i32 t).take 16 = ks .i32 t := take_all (by omega)
  have hok : okFl (newF x t) := ok_new hl hI
  have l1 := filt_len hok
  have t1' : (filtL (newF x t)).take 33 = filtL (newF x t) := take_all (by omega)
  have o1 := filt_one (newF x t)
  have lc := chan_len (c := newC x t) hok
  have tc : (chanL (newC x t)).take 35 = chanL (newC x t) := take_all (by omega)
  have oc := chan_one (newC x t)
  have mk : AV.int .i64 x :: .int .i32 0 :: filtL (newF x t) = chanL (newC x t) := rfl
  refine VC.of_acall (by simp [isDL, isD, isDL_ks]) (isD_cnew _ _) (ACall.of_body b (by simp) ?_)
  simp (maxSteps := 4000000) (disch := omega) only [abv, step, stepv, ev, wl, wn, wp, wz, aop, cV, cV1, AV.one, partCells, okW, onlyFr, app, sliceCells, cellsAt, srcA, subA, eqFs, Int.cast_ofNat_Int, simprocAttr, ac_cadenzaref19_New, hk, h1, tk16]
  refine callQ.vc (hT x t hl) ?_
  by_cases h0 : half x = 0
  · simp (maxSteps := 4000000) (disch := omega) only [abv, step, stepv, ev, wl, wn, wp, wz, aop, cV, cV1, AV.one, partCells, okW, onlyFr, app, sliceCells, cellsAt, srcA, subA, eqFs, Int.cast_ofNat_Int, simprocAttr, tnewA, h0, cnewA, zeroF_eq, zeroC_eq, resA, ht]
  · simp (maxSteps := 4000000) (disch := omega) only [abv, step, stepv, ev, wl, wn, wp, wz, aop, cV, cV1, AV.one, partCells, okW, onlyFr, app, sliceCells, cellsAt, srcA, subA, eqFs, Int.cast_ofNat_Int, simprocAttr, tnewA, if_neg h0, cnewA, l1, t1', o1, lc, tc, oc, mk, zeroC_eq, resA, ht]

/-! ### fold -/

theorem xor_ones {a : Nat} (h : a < 4294967296) : (BitVec.ofInt 32 (a : Int) ^^^ BitVec.ofInt 32 4294967295).toNat = 4294967295 - a := by
  have e : BitVec.ofInt 32 4294967295 = BitVec.allOnes 32 := by decide
  rw [e, BitVec.xor_allOnes, BitVec.toNat_not]
  have : (BitVec.ofInt 32 (a : Int)).toNat = a := by simp; omega
  rw [this]
theorem xor_zero' {a : Nat} (h : a < 4294967296) : (BitVec.ofInt 32 (a : Int) ^^^ BitVec.ofInt 32 0).toNat = a := by
  have : (BitVec.ofInt 32 (a : Int)).toNat = a := by simp; omega
  rw [BitVec.toNat_xor, this]
  simp

def backN (n : Int) : Int := if n % 2 = 0 then n / 2 else -(n / 2) - 1
def S_UBack (P : Prg) (f : Nat) : Prop := ∀ n : Int, 0 ≤ n ∧ n < 4294967296 → VC P f [.int .u32 n] (.int .i32 (backN n))
theorem and_one {a : Nat} (h : a < 4294967296) : (BitVec.ofInt 32 (a : Int) &&& BitVec.ofInt 32 1).toNat = a % 2 := by
  have : (BitVec.ofInt 32 (a : Int)).toNat = a := by simp; omega
  rw [BitVec.toNat_and, this]
  exact Nat.and_one_is_mod a

theorem fold_Back {P : Prg} {f : Nat} (b : Body P f 11 [.tmp 2] ac_fold_Back) : S_UBack P f := by
  intro n hn
  refine VC.of_acall rfl rfl (ACall.of_body b (by simp) ?_)
  have a1 : shiftA false .u32 n 1 = some (.int .u32 (n / 2)) := by
    show some (AV.int .u32 (n.fdiv 2)) = _
    rw [Int.fdiv_eq_ediv_of_nonneg _ (by omega)]
  have a2 : (((BitVec.ofInt IntKind.u32.bits n &&& BitVec.ofInt IntKind.u32.bits 1).toNat : Nat) : Int) = n % 2 := by
    show (((BitVec.ofInt 32 n &&& BitVec.ofInt 32 1).toNat : Nat) : Int) = n % 2
    have := and_one (a := n.toNat) (by omega)
    rw [show ((n.toNat : Nat) : Int) = n by omega] at this
    rw [this]; omega
  by_cases h : n % 2 = 0
  · have a3 : (((BitVec.ofInt IntKind.i32.bits (n / 2) ^^^ BitVec.ofInt IntKind.i32.bits 0).toNat : Nat) : Int) = n / 2 := by
      show (((BitVec.ofInt 32 (n / 2) ^^^ BitVec.ofInt 32 0).toNat : Nat) : Int) = n / 2
      have := xor_zero' (a := (n / 2).toNat) (by omega)
      rw [show (((n / 2).toNat : Nat) : Int) = n / 2 by omega] at this
      rw [this]; omega
    simp (maxSteps := 4000000) (disch := omega) only [abv, step, stepv, ev, wl, wn, wp, wz, aop, cV, cV1, AV.one, partCells, okW, onlyFr, app, sliceCells, cellsAt, srcA, subA, eqFs, Int.cast_ofNat_Int, simprocAttr, ac_fold_Back, a1, a2, h, a3, backN]
  · have h1 : n % 2 = 1 := by omega
    have a3 : (((BitVec.ofInt IntKind.i32.bits (n / 2) ^^^ BitVec.ofInt IntKind.i32.bits (-1)).toNat : Nat) : Int) = 4294967295 - n / 2 := by
      show (((BitVec.ofInt 32 (n / 2) ^^^ BitVec.ofInt 32 (-1)).toNat : Nat) : Int) = 4294967295 - n / 2
      have := xor_ones (a := (n / 2).toNat) (by omega)
      rw [show (((n / 2).toNat : Nat) : Int) = n / 2 by omega] at this
      rw [show BitVec.ofInt 32 (-1) = BitVec.ofInt 32 4294967295 by decide, this]; omega
    have a4 : IntKind.i32.wrap (4294967295 - n / 2) = -(n / 2) - 1 := by rw [w32_def, w32_eq]; omega
    simp (maxSteps := 4000000) (disch := omega) only [abv, step, stepv, ev, wl, wn, wp, wz, aop, cV, cV1, AV.one, partCells, okW, onlyFr, app, sliceCells, cellsAt, srcA, subA, eqFs, Int.cast_ofNat_Int, simprocAttr, ac_fold_Back, a1, a2, h1, a3, a4, backN]

theorem ref05_Back {P : Prg} {f : Nat} (b : Body P f 15 [.tmp 2] ac_cadenzaref05_Back) : S_UBack P f := by
  intro n hn
  refine VC.of_acall rfl rfl (ACall.of_body b (by simp) ?_)
  by_cases h : n % 2 = 0
  · simp (maxSteps := 4000000) (disch := omega) only [abv, step, stepv, ev, wl, wn, wp, wz, aop, cV, cV1, AV.one, partCells, okW, onlyFr, app, sliceCells, cellsAt, srcA, subA, eqFs, Int.cast_ofNat_Int, simprocAttr, ac_cadenzaref05_Back, h, backN]
  · have e := (tdiv_neg' (x := 0 - (n + 1)) (by omega) 2).1
    have e2 : -(-(0 - (n + 1)) / 2) = -(n / 2) - 1 := by omega
    simp (maxSteps := 4000000) (disch := omega) only [abv, step, stepv, ev, wl, wn, wp, wz, aop, cV, cV1, AV.one, partCells, okW, onlyFr, app, sliceCells, cellsAt, srcA, subA, eqFs, Int.cast_ofNat_Int, simprocAttr, ac_cadenzaref05_Back, h, backN, e, e2]
end Go.Am

namespace Go.Am
open Go.RowKit

theorem ks_set {K : IntKind} {l : List Int} {i : Nat} (h : i < l.length) (v : Int) : (ks K l).take i ++ [.int K v] ++ (ks K l).drop (i + 1) = ks K (l.set i v) := by
  rw [List.set_eq_take_append_cons_drop, if_pos h]
  simp [ks]
theorem ks_at {K : IntKind} {l : List Int} {i : Nat} (h : i < l.length) : (ks K l).drop i = .int K (l.getD i 0) :: ks K (l.drop (i + 1)) := by
  rw [drop_ks h]; simp [List.getD_eq_getElem?_getD, List.getElem?_eq_getElem h]

theorem get_end {α : Type} (l : List α) (x : α) : (l ++ [x])[l.length]? = some x := by simp
theorem set_end {α : Type} (l : List α) (x y : α) : (l ++ [x]).set l.length y = l ++ [y] := by simp

/-! ### slices.Clone of numbers -/

def S_CloneA (t : Nat) (P : Prg) (f : Nat) : Prop := ∀ (l : List Int) (ob : List Ob) (K : AV → List Ob → Prop), 0 < l.length → l.length ≤ 1000000 → K (.own ob.length l.length) (ob ++ [⟨t, 1, l.length, ks .i32 l, 0⟩]) → ACall P f [il l] ob K

theorem clone_i32 {P : Prg} {f t0 : Nat} (b : Body P f 8 [.tmp 2] (ac_slices_Clone_int32_int32 t0)) : S_CloneA t0 P f := by
  intro l ob K h0 h1 hK
  refine ACall.of_body b (by simp) ?_
  have g1 := fun x : Ob => get_end ob x
  have g2 := fun x y : Ob => set_end ob x y
  have n0 : l.length ≠ 0 := by omega
  simp (maxSteps := 4000000) (disch := omega) only [abv, step, stepv, ev, wl, wn, wp, wz, aop, cV, cV1, AV.one, partCells, okW, onlyFr, app, sliceCells, cellsAt, srcA, subA, eqFs, Int.cast_ofNat_Int, simprocAttr, ac_slices_Clone_int32_int32, il, nilA, n0, g1, g2, ks_nil]
  exact hK

/-! ### mix.mix: in its place -/

theorem getD_ext {a b : List Int} (h : a.length = b.length) (h2 : ∀ j, j < a.length → a.getD j 0 = b.getD j 0) : a = b := by
  apply List.ext_getElem h
  intro i h1 h3
  have := h2 i h1
  simpa [List.getD_eq_getElem?_getD, List.getElem?_eq_getElem h1, List.getElem?_eq_getElem h3] using this
theorem map_getD {g : Nat → Int} {n j : Nat} (h : j < n) : ((List.range n).map g).getD j 0 = g j := by
  simp [List.getD_eq_getElem?_getD, h]
theorem set_getD {l : List Int} {i j : Nat} {v : Int} (h : j < l.length) : (l.set i v).getD j 0 = if i = j then v else l.getD j 0 := by
  simp only [List.getD_eq_getElem?_getD, List.getElem?_set]
  split
  · subst_vars; simp [h]
  · rfl
theorem tdiv2_rng {x : Int} (h : -2147483648 ≤ x ∧ x ≤ 2147483647) : -2147483648 ≤ x.tdiv 2 ∧ x.tdiv 2 ≤ 2147483647 := by
  by_cases hx : x < 0
  · rw [(tdiv_neg' hx 2).1]; omega
  · rw [Int.tdiv_eq_ediv_of_nonneg (by omega)]; omega

end Go.Am

namespace Go.Am
open Go.RowKit

def mcheckN (c : Int) (n : Nat) : Int := if c < 1 ∨ 6 < c then 2 else if 4000 < n then 4 else if (n : Int) % c ≠ 0 then 2 else 0
def S_MCheck (P : Prg) (f : Nat) : Prop := ∀ (c : Int) (l : List Int), VC P f [.int .i64 c, il l] (.int .i64 (mcheckN c l.length))

theorem mix_check {P : Prg} {f : Nat} (b : Body P f 22 [.tmp 4] ac_mix_check) : S_MCheck P f := by
  intro c l
  refine VC.of_acall (by simp [isDL, isD, isD_il]) rfl (ACall.of_body b (by simp) ?_)
  by_cases h1 : c < 1
  · simp (maxSteps := 4000000) (disch := omega) only [abv, step, stepv, ev, wl, wn, wp, wz, aop, cV, cV1, AV.one, partCells, okW, onlyFr, app, sliceCells, cellsAt, srcA, subA, eqFs, Int.cast_ofNat_Int, simprocAttr, ac_mix_check, il, mcheckN]
  by_cases h2 : 6 < c
  · simp (maxSteps := 4000000) (disch := omega) only [abv, step, stepv, ev, wl, wn, wp, wz, aop, cV, cV1, AV.one, partCells, okW, onlyFr, app, sliceCells, cellsAt, srcA, subA, eqFs, Int.cast_ofNat_Int, simprocAttr, ac_mix_check, il, mcheckN]
  by_cases h3 : 4000 < l.length
  · simp (maxSteps := 4000000) (disch := omega) only [abv, step, stepv, ev, wl, wn, wp, wz, aop, cV, cV1, AV.one, partCells, okW, onlyFr, app, sliceCells, cellsAt, srcA, subA, eqFs, Int.cast_ofNat_Int, simprocAttr, ac_mix_check, il, mcheckN]
  have hm := mod_small (n := l.length) (c := c) (by omega)
  by_cases h4 : (l.length : Int) % c = 0
  · simp (maxSteps := 4000000) (disch := omega) only [abv, step, stepv, ev, wl, wn, wp, wz, aop, cV, cV1, AV.one, partCells, okW, onlyFr, app, sliceCells, cellsAt, srcA, subA, eqFs, Int.cast_ofNat_Int, simprocAttr, ac_mix_check, il, mcheckN, h4]
  · simp (maxSteps := 4000000) (disch := omega) only [abv, step, stepv, ev, wl, wn, wp, wz, aop, cV, cV1, AV.one, partCells, okW, onlyFr, app, sliceCells, cellsAt, srcA, subA, eqFs, Int.cast_ofNat_Int, simprocAttr, ac_mix_check, il, mcheckN, h4]

theorem ref17_Check {P : Prg} {f : Nat} (b : Body P f 19 [.tmp 4] ac_cadenzaref17_Check) : S_MCheck P f := by
  intro c l
  refine VC.of_acall (by simp [isDL, isD, isD_il]) rfl (ACall.of_body b (by simp) ?_)
  by_cases h1 : c < 1
  · simp (maxSteps := 4000000) (disch := omega) only [abv, step, stepv, ev, wl, wn, wp, wz, aop, cV, cV1, AV.one, partCells, okW, onlyFr, app, sliceCells, cellsAt, srcA, subA, eqFs, Int.cast_ofNat_Int, simprocAttr, ac_cadenzaref17_Check, il, mcheckN]
  by_cases h2 : 6 < c
  · simp (maxSteps := 4000000) (disch := omega) only [abv, step, stepv, ev, wl, wn, wp, wz, aop, cV, cV1, AV.one, partCells, okW, onlyFr, app, sliceCells, cellsAt, srcA, subA, eqFs, Int.cast_ofNat_Int, simprocAttr, ac_cadenzaref17_Check, il, mcheckN]
  by_cases h3 : 4000 < l.length
  · simp (maxSteps := 4000000) (disch := omega) only [abv, step, stepv, ev, wl, wn, wp, wz, aop, cV, cV1, AV.one, partCells, okW, onlyFr, app, sliceCells, cellsAt, srcA, subA, eqFs, Int.cast_ofNat_Int, simprocAttr, ac_cadenzaref17_Check, il, mcheckN]
  have hm := mod_small (n := l.length) (c := c) (by omega)
  by_cases h4 : (l.length : Int) % c = 0
  · simp (maxSteps := 4000000) (disch := omega) only [abv, step, stepv, ev, wl, wn, wp, wz, aop, cV, cV1, AV.one, partCells, okW, onlyFr, app, sliceCells, cellsAt, srcA, subA, eqFs, Int.cast_ofNat_Int, simprocAttr, ac_cadenzaref17_Check, il, mcheckN, h4]
  · have h5 : 0 < (l.length : Int) % c := by omega
    simp (maxSteps := 4000000) (disch := omega) only [abv, step, stepv, ev, wl, wn, wp, wz, aop, cV, cV1, AV.one, partCells, okW, onlyFr, app, sliceCells, cellsAt, srcA, subA, eqFs, Int.cast_ofNat_Int, simprocAttr, ac_cadenzaref17_Check, il, mcheckN, h4]

def okM (c : Nat) (l : List Int) : Prop := 1 ≤ c ∧ c ≤ 6 ∧ 0 < l.length ∧ l.length ≤ 4000 ∧ l.length % c = 0 ∧ I32 l
theorem okM_check {c : Nat} {l : List Int} (h : okM c l) : mcheckN c l.length = 0 := by
  obtain ⟨h1, h2, h3, h4, h5, _⟩ := h
  unfold mcheckN
  rw [if_neg (by omega), if_neg (by omega), if_neg (by rw [← Int.natCast_emod, h5]; simp)]

theorem mul_step {c m q : Nat} (h : c * m < c * q) : c * m + c ≤ c * q := by
  have : m < q := Nat.lt_of_mul_lt_mul_left h
  have := Nat.mul_le_mul_left c (show m + 1 ≤ q by omega)
  rw [Nat.mul_add, Nat.mul_one] at this
  exact this

end Go.Am

namespace Go.Am
open Go.RowKit

theorem Le.drop1 {o : Ob} {xs : List Ob} {fr fr' : List (Nat × AV)} (h : isTL o.cs = true)
    (hfr : ∀ p ∈ fr', p.2 = .any ∨ frzK (fun o => decide (o < 1)) (fun o => decide (1 ≤ o)) (o :: xs) 2 [look fr p.1] = some [p.2]) : Le 0 ⟨fr, o :: xs⟩ ⟨fr', [o]⟩ := by
  refine Le.drop 1 2 (by omega) rfl hfr ?_
  intro i y hy
  match i, hy with
  | 0, hy =>
    simp at hy
    subst hy
    exact ⟨o.cs, by simp, by simp only [frzK]; exact frzL_T _ h⟩
  | i + 1, hy => simp at hy

end Go.Am

namespace Go.Am
open Go.RowKit

theorem ks_seg (K : IntKind) (l : List Int) (a c : Nat) : ((ks K l).drop a).take c = ks K ((l.drop a).take c) := by simp [ks, List.map_drop, List.map_take]
theorem seg_getD {l : List Int} {a c j : Nat} (h : j < c) : ((l.drop a).take c).getD j 0 = l.getD (a + j) 0 := by
  simp [List.getD_eq_getElem?_getD, List.getElem?_take, h, List.getElem?_drop]
theorem I32_seg {l : List Int} (h : I32 l) (a c : Nat) : I32 ((l.drop a).take c) := fun v hv => h v (List.mem_of_mem_drop (List.mem_of_mem_take hv))
end Go.Am

namespace Go.Am
open Go.RowKit

theorem eCheck_cases (c x : Int) : eCheck c x = 2 ∨ (eCheck c x = 0 ∧ half x ≠ 0 ∧ 1 ≤ c ∧ c ≤ 6) := by unfold eCheck; split <;> omega
theorem own_lt {c k q n : Nat} (hk : k < c) : k + n * c < c * q ↔ n < q := by
  constructor
  · intro h
    refine Nat.lt_of_not_le fun h2 => ?_
    have := Nat.mul_le_mul_right c h2
    rw [Nat.mul_comm c q] at h
    omega
  · intro h
    have := Nat.mul_le_mul_right c (show n + 1 ≤ q from h)
    rw [Nat.add_mul, Nat.one_mul] at this
    rw [Nat.mul_comm c q]
    omega

end Go.Am

namespace Go.Am
open Go.RowKit

/-! ### Six channels in one array -/

def six (S : Nat → Chan) : List AV := chanL (S 0) ++ (chanL (S 1) ++ (chanL (S 2) ++ (chanL (S 3) ++ (chanL (S 4) ++ chanL (S 5)))))
def okS (S : Nat → Chan) : Prop := ∀ k, okFl (S k).fl
theorem six_len {S : Nat → Chan} (h : okS S) : (six S).length = 210 := by simp [six, chan_len (h _)]
theorem sixK {k : Nat} (h : k < 6) : k = 0 ∨ k = 1 ∨ k = 2 ∨ k = 3 ∨ k = 4 ∨ k = 5 := by omega
theorem six_at {S : Nat → Chan} (h : okS S) {k : Nat} (hk : k < 6) : ((six S).drop (k * 35)).take 35 = chanL (S k) := by
  have l := fun k => chan_len (h k)
  rcases sixK hk with rfl | rfl | rfl | rfl | rfl | rfl <;> simp [six, List.drop_append, List.take_append, l, List.drop_eq_nil_of_le, take_all]
def upd (S : Nat → Chan) (k : Nat) (c : Chan) : Nat → Chan := fun j => if j = k then c else S j
theorem six_set {S : Nat → Chan} (h : okS S) {k : Nat} (hk : k < 6) (c : Chan) : (six S).take (k * 35) ++ chanL c ++ (six S).drop (k * 35 + 35) = six (upd S k c) := by
  have l := fun k => chan_len (h k)
  rcases sixK hk with rfl | rfl | rfl | rfl | rfl | rfl <;> simp [six, upd, List.drop_append, List.take_append, l, List.drop_eq_nil_of_le, take_all]
theorem isTL_chan (c : Chan) : isTL (chanL c) = true := by simp [chanL, filtL, isTL, isT, isTL_append, isTL_ks]
theorem isTL_six (S : Nat → Chan) : isTL (six S) = true := by simp [six, isTL_append, isTL_chan]
theorem all_six (S : Nat → Chan) : (six S).all AV.one = true := by simp only [six, List.all_append, chan_one, Bool.and_self]

/-! ### What is coded -/

def cnt (c k i : Nat) : Nat := if k < i % c then i / c + 1 else i / c
theorem cnt_0 (c k : Nat) : cnt c k 0 = 0 := by simp [cnt]
theorem cnt_self (c i : Nat) : cnt c (i % c) i = i / c := by simp [cnt]
theorem cnt_succ {c k i : Nat} (hk : k < c) : cnt c k (i + 1) = if k = i % c then i / c + 1 else cnt c k i := by
  have hc : 0 < c := by omega
  have hr := Nat.mod_lt i hc
  have hi := Nat.div_add_mod i c
  unfold cnt
  by_cases h : i % c + 1 < c
  · have e1 : (i + 1) % c = i % c + 1 := by
      rw [show i + 1 = c * (i / c) + (i % c + 1) by omega, Nat.mul_add_mod, Nat.mod_eq_of_lt h]
    have e2 : (i + 1) / c = i / c := by
      rw [show i + 1 = (i % c + 1) + c * (i / c) by omega, Nat.add_mul_div_left _ _ hc, Nat.div_eq_of_lt h, Nat.zero_add]
    rw [e1, e2]
    split <;> split <;> (try split) <;> omega
  · have e0 : i + 1 = c * (i / c + 1) := by rw [Nat.mul_add]; omega
    have e1 : (i + 1) % c = 0 := by rw [e0, Nat.mul_mod_right]
    have e2 : (i + 1) / c = i / c + 1 := by rw [e0, Nat.mul_div_cancel_left _ hc]
    rw [e1, e2]
    split <;> split <;> (try split) <;> omega
def u32L (l : List Int) : AV := .list l.length (ks .u32 l)
theorem isD_u32L (l : List Int) : isD (u32L l) = true := by simp [u32L, isD, isDL_ks]
theorem Le.dropT (os : List Ob) {xs : List Ob} {fr fr' : List (Nat × AV)} (h : ∀ o ∈ os, isTL o.cs = true)
    (hfr : ∀ p ∈ fr', p.2 = .any ∨ frzK (fun o => decide (o < os.length)) (fun o => decide (os.length ≤ o)) (os ++ xs) 2 [look fr p.1] = some [p.2]) : Le 0 ⟨fr, os ++ xs⟩ ⟨fr', os⟩ := by
  refine Le.drop os.length 2 (by omega) rfl hfr ?_
  intro i y hy
  have hi : i < os.length := by
    rcases Nat.lt_or_ge i os.length with h | h
    · exact h
    · rw [List.getElem?_eq_none h] at hy; cases hy
  refine ⟨y.cs, by rw [List.getElem?_append_left hi]; exact hy, ?_⟩
  simp only [frzK]
  exact frzL_T _ (h y (List.mem_of_getElem? hy))
end Go.Am

namespace Go.Am
open Go.RowKit

theorem ok_zeroC : okFl zeroC.fl := ⟨by simp [zeroC, zeroF, z16], by simp [zeroC, zeroF, z16], fun x hx => by simp [zeroC, zeroF, z16] at hx; omega, fun x hx => by simp [zeroC, zeroF, z16] at hx; omega⟩
def newS (z : Chan) (i : Nat) : Nat → Chan := fun k => if k < i then z else zeroC
theorem newS_0 (z : Chan) : newS z 0 = fun _ => zeroC := by funext k; simp [newS]
theorem newS_succ (z : Chan) (i : Nat) : upd (newS z i) i z = newS z (i + 1) := by
  funext k
  simp only [upd, newS]
  split <;> split <;> (try split) <;> first | rfl | omega
theorem ok_newS {z : Chan} (h : okFl z.fl) (i : Nat) : okS (newS z i) := fun k => by
  unfold newS; split
  · exact h
  · exact ok_zeroC
theorem six_6 (z : Chan) : six (newS z 6) = six (fun _ => z) := by simp [six, newS]
theorem ok_newC {x : Int} (hx : half x ≠ 0) {t : List Int} (hl : t.length = 16) (hI : I32 t) : okCh (newC x t) := ⟨hx, rfl, ok_new hl hI, by simp [newC]⟩

end Go.Am

namespace Go.Am
open Go.RowKit

theorem at_mod {c k : Nat} (n : Nat) (hk : k < c) : (k + n * c) % c = k ∧ (k + n * c) / c = n := by
  rw [Nat.mul_comm, Nat.add_mul_mod_self_left, Nat.mod_eq_of_lt hk, Nat.add_mul_div_left _ _ (by omega), Nat.div_eq_of_lt hk]
  omega
theorem rep_ks (K : IntKind) : ∀ n : Nat, repCells [.int K 0] n = ks K (List.replicate n 0)
  | 0 => rfl
  | n + 1 => by rw [repCells, rep_ks K n]; simp [ks, List.replicate_succ]

end Go.Am

namespace Go.Am
open Go.RowKit

def S_ISame (P : Prg) (f : Nat) : Prop := ∀ l : List Int, l.length ≤ 100000000 → VC P f [il l, il l] (.bool true)
theorem ref13_Same {P : Prg} {f : Nat} (b : Body P f 26 [.tmp 4] ac_cadenzaref13_Same) : S_ISame P f := by
  intro l hl
  refine VC.of_acall (by simp [isDL, isD, isD_il]) rfl (ACall.of_body b (by simp) ?_)
  simp (maxSteps := 4000000) (disch := omega) only [abv, step, stepv, ev, wl, wn, wp, wz, aop, cV, cV1, AV.one, partCells, okW, onlyFr, app, sliceCells, cellsAt, srcA, subA, eqFs, Int.cast_ofNat_Int, simprocAttr, ac_cadenzaref13_Same, il]
  refine ALoop.by (ι := Nat) (fun k => ⟨[(5, .int .i64 k), (1, il l), (0, il l)], []⟩) (fun k => k ≤ l.length) (fun k => l.length - k) 0 (Le.slots (by simp [Am.look, il])) (by omega) ?_
  intro k hk
  by_cases hlt : k < l.length
  · have e1 := ks_at (K := .i32) hlt
    simp (maxSteps := 4000000) (disch := omega) only [abv, step, stepv, ev, wl, wn, wp, wz, aop, cV, cV1, AV.one, partCells, okW, onlyFr, app, sliceCells, cellsAt, srcA, subA, eqFs, Int.cast_ofNat_Int, simprocAttr, il, e1]
    exact ⟨k + 1, by omega, by omega, Le.slots (by simp [Am.look, il])⟩
  · simp (maxSteps := 4000000) (disch := omega) only [abv, step, stepv, ev, wl, wn, wp, wz, aop, cV, cV1, AV.one, partCells, okW, onlyFr, app, sliceCells, cellsAt, srcA, subA, eqFs, Int.cast_ofNat_Int, simprocAttr, il]

end Go.Am

namespace Go.Am
open Go.RowKit

def tapSh : Sh := .tuple (List.replicate 16 (.int .i32))
theorem fitsL_ints (K : IntKind) : ∀ (n : Nat) (cs0 : List AV), FitsL (List.replicate n (.int K)) cs0 → ∃ t : List Int, cs0 = ks K t ∧ t.length = n ∧ ∀ x ∈ t, K.min ≤ x ∧ x ≤ K.max
  | 0, cs0, h => by
    simp only [List.replicate, FitsL] at h
    exact ⟨[], by simpa [ks] using h, rfl, by simp⟩
  | n + 1, cs0, h => by
    simp only [List.replicate, FitsL, Fits] at h
    obtain ⟨_, r, rfl, ⟨x, rfl, h1, h2⟩, h3⟩ := h
    obtain ⟨t, rfl, h4, h5⟩ := fitsL_ints K n r h3
    exact ⟨x :: t, by simp [ks], by simp [h4], fun y hy => by
      rcases List.mem_cons.1 hy with rfl | hy
      · exact ⟨h1, h2⟩
      · exact h5 y hy⟩
theorem fits_taps {cs0 : List AV} (h : Fits tapSh cs0) : ∃ t : List Int, cs0 = ks .i32 t ∧ t.length = 16 ∧ I32 t := by
  simp only [tapSh, Fits] at h
  obtain ⟨t, h1, h2, h3⟩ := fitsL_ints .i32 16 cs0 h
  exact ⟨t, h1, h2, fun x hx => by have := h3 x hx; simpa [IntKind.min, IntKind.max, IntKind.signed, IntKind.bits] using this⟩
end Go.Am

namespace Go.Am
open Go.RowKit

/-! ### Unmixing -/

def ud (l : List Int) (b c : Nat) : Nat → Int
  | 0 => if c = 1 then l.getD b 0 else w32 (l.getD (b + (c - 1)) 0 + (l.getD (b + (c - 2)) 0).tdiv 2)
  | d + 1 => w32 (ud l b c d - l.getD (b + (c - 2 - d)) 0)
theorem ud_congr {l l' : List Int} {b b' c : Nat} (hc : 1 ≤ c) (h : ∀ j, j < c → l.getD (b + j) 0 = l'.getD (b' + j) 0) : ∀ d, ud l b c d = ud l' b' c d
  | 0 => by
    unfold ud
    have h0 := h 0 (by omega)
    simp only [Nat.add_zero] at h0
    rw [h0, h (c - 1) (by omega), h (c - 2) (by omega)]
  | d + 1 => by
    unfold ud
    rw [ud_congr hc h d, h (c - 2 - d) (by omega)]
theorem ud_rng {l : List Int} (h : I32 l) (b c : Nat) : ∀ d, -2147483648 ≤ ud l b c d ∧ ud l b c d ≤ 2147483647
  | 0 => by
    unfold ud; split
    · exact getD_mem h b
    · exact w32_rng _
  | d + 1 => by unfold ud; exact w32_rng _
def segU (L : List Int) (k n d : Nat) : List Int := (List.range L.length).map fun j => if k + (n - 1 - d) ≤ j ∧ j < k + n then ud L k n (k + n - 1 - j) else L.getD j 0
theorem segU_len (L : List Int) (k n d : Nat) : (segU L k n d).length = L.length := by simp [segU]
theorem segU_in {L : List Int} {k n d j : Nat} (h : j < L.length) (h1 : k + (n - 1 - d) ≤ j) (h2 : j < k + n) : (segU L k n d).getD j 0 = ud L k n (k + n - 1 - j) := by
  rw [segU, map_getD h, if_pos ⟨h1, h2⟩]
theorem segU_out {L : List Int} {k n d j : Nat} (h : j < L.length) (h1 : j < k + (n - 1 - d)) : (segU L k n d).getD j 0 = L.getD j 0 := by
  rw [segU, map_getD h, if_neg (by omega)]
theorem segU_0 {L : List Int} {k n : Nat} (h1 : 1 ≤ n) (h : k + n ≤ L.length) : L.set (k + (n - 1)) (ud L k n 0) = segU L k n 0 := getD_ext (by simp [segU_len]) fun j hj => by
  have hj' : j < L.length := by simpa using hj
  rw [set_getD hj', segU, map_getD hj']
  by_cases e : k + (n - 1) = j
  · subst e
    rw [if_pos rfl, if_pos (by omega), show k + n - 1 - (k + (n - 1)) = 0 by omega]
  · rw [if_neg e, if_neg (by omega)]
theorem segU_1 {L : List Int} {k : Nat} : segU L k 1 0 = L := getD_ext (by simp [segU_len]) fun j hj => by
  rw [segU_len] at hj
  rw [segU, map_getD hj]
  split
  · rw [show j = k by omega, show k + 1 - 1 - k = 0 by omega]; simp [ud]
  · rfl
theorem segU_succ {L : List Int} {k n d : Nat} (hd : d + 1 < n) (h : k + n ≤ L.length) : (segU L k n d).set (k + (n - 2 - d)) (w32 (ud L k n d - L.getD (k + (n - 2 - d)) 0)) = segU L k n (d + 1) := getD_ext (by simp [segU_len]) fun j hj => by
  have hj' : j < L.length := by simpa [segU_len] using hj
  rw [set_getD (by rw [segU_len]; exact hj'), segU, segU, map_getD hj', map_getD hj']
  by_cases e : k + (n - 2 - d) = j
  · subst e
    rw [if_pos rfl, if_pos (by omega), show k + n - 1 - (k + (n - 2 - d)) = d + 1 by omega]
    rfl
  · rw [if_neg e]
    by_cases q : k + (n - 1 - d) ≤ j ∧ j < k + n
    · rw [if_pos q, if_pos (by omega)]
    · rw [if_neg q, if_neg (by omega)]
def S_Unmix (P : Prg) (f : Nat) : Prop := ∀ (t : Nat) (L : List Int) (k n : Nat) (K : AV → List Ob → Prop), I32 L → 1 ≤ n → k + n ≤ L.length → L.length ≤ 1000000 →
  K (.tup []) [⟨t, 1, L.length, ks .i32 (segU L k n (n - 1)), 0⟩] → ACall P f [.view 0 L.length k n] [⟨t, 1, L.length, ks .i32 L, 0⟩] K

theorem mix_unmix {P : Prg} {f : Nat} (b : Body P f 40 [] ac_mix_unmix) : S_Unmix P f := by
  intro t L k n K hL h1 h2 h3 hK
  refine ACall.of_body b (by simp) ?_
  by_cases hn : n = 1
  · subst hn
    simp (maxSteps := 4000000) (disch := omega) only [abv, step, stepv, ev, wl, wn, wp, wz, aop, cV, cV1, AV.one, partCells, okW, onlyFr, app, sliceCells, cellsAt, srcA, subA, eqFs, Int.cast_ofNat_Int, simprocAttr, ac_mix_unmix]
    refine ALoop.by (ι := Nat) (fun d => ⟨[(3, .int .i64 (-1)), (0, .view 0 L.length k 1)], [⟨t, 1, L.length, ks .i32 (segU L k 1 0), 0⟩]⟩) (fun _ => True) (fun d => d) 0 (by rw [segU_1]; exact Le.slots (by simp [Am.look])) trivial ?_
    intro d _
    simp (maxSteps := 4000000) (disch := omega) only [abv, step, stepv, ev, wl, wn, wp, wz, aop, cV, cV1, AV.one, partCells, okW, onlyFr, app, sliceCells, cellsAt, srcA, subA, eqFs, Int.cast_ofNat_Int, simprocAttr]
    exact hK
  · have e1 := ks_at (K := .i32) (l := L) (i := k + (n - 1)) (by omega)
    have e2 := ks_at (K := .i32) (l := L) (i := k + (n - 1 - 1)) (by omega)
    have e3 := fun v => ks_set (K := .i32) (l := L) (i := k + (n - 1)) (by omega) v
    have hr := tdiv2_rng (getD_mem hL (k + (n - 2)))
    have a0 := segU_0 (L := L) (k := k) h1 h2
    have u0 : ud L k n 0 = w32 (L.getD (k + (n - 1)) 0 + (L.getD (k + (n - 2)) 0).tdiv 2) := by rw [ud, if_neg hn]
    rw [u0] at a0
    rw [show n - 1 - 1 = n - 2 by omega] at e2
    have en : n - 1 - 1 = n - 2 := by omega
    simp (maxSteps := 4000000) (disch := omega) only [abv, step, stepv, ev, wl, wn, wp, wz, aop, cV, cV1, AV.one, partCells, okW, onlyFr, app, sliceCells, cellsAt, srcA, subA, eqFs, Int.cast_ofNat_Int, simprocAttr, ac_mix_unmix, e1, en, e2, e3, w32_def, a0]
    refine ALoop.by (ι := Nat) (fun d => ⟨[(3, .int .i64 ((n : Int) - 2 - d)), (0, .view 0 L.length k n)], [⟨t, 1, L.length, ks .i32 (segU L k n d), 0⟩]⟩) (fun d => d ≤ n - 1) (fun d => n - 1 - d) 0 (Le.slots (by simp [Am.look]; omega)) (by omega) ?_
    intro d hd
    have ls := segU_len L k n d
    by_cases hlt : d < n - 1
    · have f1 := ks_at (K := .i32) (l := segU L k n d) (i := k + (n - 1 - d)) (by omega)
      have f2 := ks_at (K := .i32) (l := segU L k n d) (i := k + (n - 2 - d)) (by omega)
      have f3 := fun v => ks_set (K := .i32) (l := segU L k n d) (i := k + (n - 2 - d)) (by omega) v
      rw [segU_in (by omega) (by omega) (by omega), show k + n - 1 - (k + (n - 1 - d)) = d by omega, show n - 1 - d = n - 2 - d + 1 by omega] at f1
      rw [segU_out (by omega) (by omega)] at f2
      have a3 := segU_succ (L := L) (k := k) (n := n) (d := d) (by omega) h2
      simp (maxSteps := 4000000) (disch := omega) only [abv, step, stepv, ev, wl, wn, wp, wz, aop, cV, cV1, AV.one, partCells, okW, onlyFr, app, sliceCells, cellsAt, srcA, subA, eqFs, Int.cast_ofNat_Int, simprocAttr, f1, f2, f3, w32_def, a3, ls]
      exact ⟨d + 1, by omega, by omega, Le.slots (by simp [Am.look]; omega)⟩
    · have e : d = n - 1 := by omega
      subst e
      simp (maxSteps := 4000000) (disch := omega) only [abv, step, stepv, ev, wl, wn, wp, wz, aop, cV, cV1, AV.one, partCells, okW, onlyFr, app, sliceCells, cellsAt, srcA, subA, eqFs, Int.cast_ofNat_Int, simprocAttr]
      exact hK
end Go.Am

namespace Go.Am
open Go.RowKit

def undV (c : Nat) (l : List Int) (j : Nat) : Int := ud l (c * (j / c)) c (c - 1 - j % c)
def undT (c : Nat) (l : List Int) (a : Nat) : List Int := (List.range a).map (undV c l)
def undP (c : Nat) (l : List Int) (a : Nat) : List Int := (List.range l.length).map fun j => if j < a then undV c l j else l.getD j 0
def undAll (c : Nat) (l : List Int) : List Int := undT c l l.length
theorem undT_len (c : Nat) (l : List Int) (a : Nat) : (undT c l a).length = a := by simp [undT]
theorem undP_len (c : Nat) (l : List Int) (a : Nat) : (undP c l a).length = l.length := by simp [undP]
theorem undP_0 (c : Nat) (l : List Int) : undP c l 0 = l := getD_ext (undP_len _ _ _) fun j hj => by
  rw [undP_len] at hj; rw [undP, map_getD hj, if_neg (by omega)]
theorem undP_all (c : Nat) (l : List Int) : undP c l l.length = undAll c l := by
  simp only [undP, undAll, undT]
  apply List.map_congr_left
  intro j hj
  rw [if_pos (by simpa using hj)]
theorem undV_rng {c : Nat} {l : List Int} (h : I32 l) (j : Nat) : -2147483648 ≤ undV c l j ∧ undV c l j ≤ 2147483647 := ud_rng h _ _ _
theorem I32_undP {c : Nat} {l : List Int} (h : I32 l) (a : Nat) : I32 (undP c l a) := by
  intro v hv
  simp only [undP, List.mem_map] at hv
  obtain ⟨j, _, rfl⟩ := hv
  split
  · exact undV_rng h j
  · exact getD_mem h j
theorem I32_undAll {c : Nat} {l : List Int} (h : I32 l) : I32 (undAll c l) := by rw [← undP_all]; exact I32_undP h _
theorem undAll_len (c : Nat) (l : List Int) : (undAll c l).length = l.length := by simp [undAll, undT]
theorem divmod_seg {c m r : Nat} (h : r < c) : (c * m + r) / c = m ∧ (c * m + r) % c = r := by
  rw [Nat.mul_add_mod, Nat.mod_eq_of_lt h, Nat.mul_add_div (by omega), Nat.div_eq_of_lt h]; simp

theorem und_seg {c : Nat} {l : List Int} {m : Nat} (hc : 1 ≤ c) (h : c * m + c ≤ l.length) : segU (undP c l (c * m)) (c * m) c (c - 1) = undP c l (c * m + c) := getD_ext (by simp [segU_len, undP_len]) fun j hj => by
  have hj' : j < l.length := by simpa [segU_len, undP_len] using hj
  rw [segU, undP_len, map_getD hj']
  conv => rhs; rw [undP, map_getD hj']
  by_cases q : c * m ≤ j ∧ j < c * m + c
  · rw [if_pos (by omega), if_pos q.2]
    have e := divmod_seg (c := c) (m := m) (r := j - c * m) (by omega)
    rw [show c * m + (j - c * m) = j by omega] at e
    rw [undV, e.1, e.2, show c * m + c - 1 - j = c - 1 - (j - c * m) by omega]
    refine ud_congr hc (fun i hi => ?_) _
    rw [undP, map_getD (by omega), if_neg (by omega)]
  · rw [if_neg (by omega), undP, map_getD hj']
    by_cases r : j < c * m
    · rw [if_pos r, if_pos (by omega)]
    · rw [if_neg r, if_neg (by omega)]

def S_MixUndo (P : Prg) (f : Nat) : Prop := ∀ (c : Nat) (l : List Int), okM c l → VC P f [.int .i64 c, il l] (.tup [il (undAll c l), .int .i64 0])

theorem mix_Undo {P : Prg} {f fC fK fM t : Nat} (b : Body P f 32 [.tmp 4, .tmp 5] (ac_mix_Undo fC fK fM)) (hC : S_MCheck P fC) (hK : S_CloneA t P fK) (hM : S_Unmix P fM) : S_MixUndo P f := by
  intro c l hok
  obtain ⟨h1, h2, h3, h4, h5, h6⟩ := id hok
  have hc := okM_check hok
  obtain ⟨q, hq⟩ : ∃ q, l.length = c * q := ⟨l.length / c, by have := Nat.div_add_mod l.length c; omega⟩
  refine VC.of_walk 1 (by simp [isDL, isD, isD_il]) (by simp [isD, isDL, isD_il]) (ACall.of_body b (by simp) ?_)
  simp (maxSteps := 4000000) (disch := omega) only [abv, step, stepv, ev, wl, wn, wp, wz, aop, cV, cV1, AV.one, partCells, okW, onlyFr, app, sliceCells, cellsAt, srcA, subA, eqFs, Int.cast_ofNat_Int, simprocAttr, ac_mix_Undo]
  refine callQ.vc (hC c l) ?_
  have n0 : l.length ≠ 0 := by omega
  simp (maxSteps := 4000000) (disch := omega) only [abv, step, stepv, ev, wl, wn, wp, wz, aop, cV, cV1, AV.one, partCells, okW, onlyFr, app, sliceCells, cellsAt, srcA, subA, eqFs, Int.cast_ofNat_Int, simprocAttr, hc, n0]
  refine hK l [] _ h3 (by omega) ?_
  simp (maxSteps := 4000000) (disch := omega) only [abv, step, stepv, ev, wl, wn, wp, wz, aop, cV, cV1, AV.one, partCells, okW, onlyFr, app, sliceCells, cellsAt, srcA, subA, eqFs, Int.cast_ofNat_Int, simprocAttr, n0]
  refine ALoop.by (ι := Nat) (fun m => ⟨[(8, .int .i64 (c * m : Nat)), (7, .own 0 l.length), (0, .int .i64 c)], [⟨t, 1, l.length, ks .i32 (undP c l (c * m)), 0⟩]⟩) (fun m => m ≤ q) (fun m => q - m) 0 (by rw [Nat.mul_zero, undP_0]; exact Le.slots (by simp [Am.look])) (by omega) ?_
  intro m hm
  by_cases hlt : c * m < l.length
  · have hs := mul_step (c := c) (m := m) (q := q) (by rw [← hq]; exact hlt)
    rw [← hq] at hs
    have hmq : m < q := Nat.lt_of_mul_lt_mul_left (a := c) (b := m) (c := q) (by rw [← hq]; exact hlt)
    have e0 : c * m + c - c * m = c := by omega
    have hM' := hM t (undP c l (c * m)) (c * m) c
    rw [undP_len, und_seg h1 hs] at hM'
    simp (maxSteps := 4000000) (disch := omega) only [abv, step, stepv, ev, wl, wn, wp, wz, aop, cV, cV1, AV.one, partCells, okW, onlyFr, app, sliceCells, cellsAt, srcA, subA, eqFs, Int.cast_ofNat_Int, simprocAttr, e0, n0]
    refine hM' _ (I32_undP h6 _) h1 hs (by omega) ?_
    simp (maxSteps := 4000000) (disch := omega) only [abv, step, stepv, ev, wl, wn, wp, wz, aop, cV, cV1, AV.one, partCells, okW, onlyFr, app, sliceCells, cellsAt, srcA, subA, eqFs, Int.cast_ofNat_Int, simprocAttr]
    exact ⟨m + 1, by omega, by omega, by rw [show c * (m + 1) = c * m + c by rw [Nat.mul_add, Nat.mul_one]]; exact Le.slots (by simp [Am.look])⟩
  · have e : c * m = l.length := by
      have := Nat.mul_le_mul_left c hm
      omega
    rw [e, undP_all]
    have lm := undAll_len c l
    simp (maxSteps := 4000000) (disch := omega) only [abv, step, stepv, ev, wl, wn, wp, wz, aop, cV, cV1, AV.one, partCells, okW, onlyFr, app, sliceCells, cellsAt, srcA, subA, eqFs, Int.cast_ofNat_Int, simprocAttr]
    simp [frzN, frzK, frzL, frzV, isDL, isD, il, lm, frzL_T _ (isTL_ks .i32 (undAll c l))]

/-! ### The reference -/

def unO (m : List Int) (d : Nat) : List Int := (List.range m.length).map fun j => if m.length - 1 - d ≤ j then ud m 0 m.length (m.length - 1 - j) else 0
theorem unO_len (m : List Int) (d : Nat) : (unO m d).length = m.length := by simp [unO]
theorem unO_0 {m : List Int} (h : 0 < m.length) : (List.replicate m.length (0 : Int)).set (m.length - 1) (ud m 0 m.length 0) = unO m 0 := getD_ext (by simp [unO_len]) fun j hj => by
  have hj' : j < m.length := by simpa using hj
  rw [set_getD (by simpa using hj'), unO, map_getD hj']
  by_cases e : m.length - 1 = j
  · rw [if_pos e, if_pos (by omega), show m.length - 1 - j = 0 by omega]
  · rw [if_neg e, if_neg (by omega)]
    simp [List.getD_eq_getElem?_getD, hj']
theorem set_set' (l : List Int) (i : Nat) (a b : Int) : (l.set i a).set i b = l.set i b := by simp
theorem unO_at {m : List Int} {d : Nat} (h : d < m.length) : (unO m d).getD (m.length - 1 - d) 0 = ud m 0 m.length d := by
  rw [unO, map_getD (by omega), if_pos (by omega), show m.length - 1 - (m.length - 1 - d) = d by omega]
theorem unO_succ {m : List Int} {d : Nat} (hd : d + 1 < m.length) : (unO m d).set (m.length - 2 - d) (w32 (ud m 0 m.length d - m.getD (m.length - 2 - d) 0)) = unO m (d + 1) := getD_ext (by simp [unO_len]) fun j hj => by
  have hj' : j < m.length := by simpa [unO_len] using hj
  rw [set_getD (by rw [unO_len]; exact hj'), unO, unO, map_getD hj', map_getD hj']
  by_cases e : m.length - 2 - d = j
  · subst e
    rw [if_pos rfl, if_pos (by omega), show m.length - 1 - (m.length - 2 - d) = d + 1 by omega, ud, Nat.zero_add]
  · rw [if_neg e]
    by_cases q : m.length - 1 - d ≤ j
    · rw [if_pos q, if_pos (by omega)]
    · rw [if_neg q, if_neg (by omega)]
theorem unO_all {m : List Int} (h : 0 < m.length) : unO m (m.length - 1) = undAll m.length m := by
  simp only [unO, undAll, undT]
  apply List.map_congr_left
  intro j hj
  have hj' : j < m.length := by simpa using hj
  rw [if_pos (by omega), undV, Nat.div_eq_of_lt hj', Nat.mod_eq_of_lt hj', Nat.mul_zero]

def S_RUnmixed (P : Prg) (f : Nat) : Prop := ∀ m : List Int, 0 < m.length → m.length ≤ 4000 → I32 m → VC P f [il m] (il (undAll m.length m))
theorem ref17_Unmixed {P : Prg} {f fW t0 : Nat} (b : Body P f 63 [.tmp 2] (ac_cadenzaref17_Unmixed fW t0)) (hW : S_Wrap P fW) : S_RUnmixed P f := by
  intro m h0 h1 hI
  have rep_ks : ∀ n : Nat, repCells [.int .i32 0] n = ks .i32 (List.replicate n 0) := fun n => by
    induction n with
    | zero => rfl
    | succ n ih => rw [repCells, ih]; simp [ks, List.replicate_succ]
  have tm : isTL (ks .i32 m) = true := isTL_ks _ _
  have lr : (List.replicate m.length (0 : Int)).length = m.length := by simp
  refine VC.of_walk 1 (by simp [isDL, isD, isD_il]) (by simp [isD_il]) (ACall.of_body b (by simp) ?_)
  have e1 := ks_at (K := .i32) (l := m) (i := m.length - 1) (by omega)
  have e3 := fun v => ks_set (K := .i32) (l := List.replicate m.length (0 : Int)) (i := m.length - 1) (by simp; omega) v
  have r0 := rep_ks m.length
  by_cases hn : m.length = 1
  · have u0 : ud m 0 m.length 0 = m.getD (m.length - 1) 0 := by rw [ud, if_pos hn, hn]
    have a0 := unO_0 h0
    rw [u0] at a0
    have hn' : m.length - 1 = 0 := by omega
    simp (maxSteps := 4000000) (disch := omega) only [abv, step, stepv, ev, wl, wn, wp, wz, aop, cV, cV1, AV.one, partCells, okW, onlyFr, app, sliceCells, cellsAt, srcA, subA, eqFs, Int.cast_ofNat_Int, simprocAttr, ac_cadenzaref17_Unmixed, il, r0, e1, e3, lr, a0]
    refine ALoop.by (ι := Nat) (fun d => ⟨[(5, .int .i64 (-1)), (4, .own 0 m.length), (0, il m)], [⟨t0, 1, m.length, ks .i32 (unO m 0), 0⟩]⟩) (fun _ => True) (fun d => d) 0 (Le.slots (by simp [Am.look, il]; omega)) trivial ?_
    intro d _
    have u1 := unO_all h0
    rw [hn'] at u1
    rw [u1]
    simp (maxSteps := 4000000) (disch := omega) only [abv, step, stepv, ev, wl, wn, wp, wz, aop, cV, cV1, AV.one, partCells, okW, onlyFr, app, sliceCells, cellsAt, srcA, subA, eqFs, Int.cast_ofNat_Int, simprocAttr]
    simp [frzN, frzK, frzL, frzV, il, frzL_T _ (isTL_ks .i32 (undAll m.length m)), undAll_len]
  · have e2 := ks_at (K := .i32) (l := m) (i := m.length - 2) (by omega)
    have u0 : ud m 0 m.length 0 = w32 (m.getD (m.length - 1) 0 + (m.getD (m.length - 2) 0).tdiv 2) := by rw [ud, if_neg hn, Nat.zero_add, Nat.zero_add]
    have a0 := unO_0 h0
    rw [u0] at a0
    have e4 := fun v => ks_set (K := .i32) (l := (List.replicate m.length (0 : Int)).set (m.length - 1) (m.getD (m.length - 1) 0)) (i := m.length - 1) (by simp; omega) v
    have r1 := getD_mem hI (m.length - 1)
    have r2 := getD_mem hI (m.length - 2)
    have r3 := tdiv2_rng r2
    simp (maxSteps := 4000000) (disch := omega) only [abv, step, stepv, ev, wl, wn, wp, wz, aop, cV, cV1, AV.one, partCells, okW, onlyFr, app, sliceCells, cellsAt, srcA, subA, eqFs, Int.cast_ofNat_Int, simprocAttr, ac_cadenzaref17_Unmixed, il, r0, e1, e2, e3, lr, List.length_set]
    refine callD.vc (hW _) ?_
    simp (maxSteps := 4000000) (disch := omega) only [abv, step, stepv, ev, wl, wn, wp, wz, aop, cV, cV1, AV.one, partCells, okW, onlyFr, app, sliceCells, cellsAt, srcA, subA, eqFs, Int.cast_ofNat_Int, simprocAttr, e4, set_set', a0, lr, List.length_set]
    refine ALoop.by (ι := Nat) (fun d => ⟨[(5, .int .i64 ((m.length : Int) - 2 - d)), (4, .own 0 m.length), (0, il m)], [⟨t0, 1, m.length, ks .i32 (unO m d), 0⟩]⟩) (fun d => d ≤ m.length - 1) (fun d => m.length - 1 - d) 0 (Le.slots (by simp [Am.look, il])) (by omega) ?_
    intro d hd
    have ls := unO_len m d
    by_cases hlt : d < m.length - 1
    · have f1 := ks_at (K := .i32) (l := unO m d) (i := m.length - 1 - d) (by omega)
      rw [unO_at (by omega), show m.length - 1 - d = m.length - 2 - d + 1 by omega] at f1
      have f2 := ks_at (K := .i32) (l := m) (i := m.length - 2 - d) (by omega)
      have f3 := fun v => ks_set (K := .i32) (l := unO m d) (i := m.length - 2 - d) (by omega) v
      have a3 := unO_succ (m := m) (d := d) (by omega)
      have q1 := ud_rng hI 0 m.length d
      have q2 := getD_mem hI (m.length - 2 - d)
      simp (maxSteps := 4000000) (disch := omega) only [abv, step, stepv, ev, wl, wn, wp, wz, aop, cV, cV1, AV.one, partCells, okW, onlyFr, app, sliceCells, cellsAt, srcA, subA, eqFs, Int.cast_ofNat_Int, simprocAttr, il, f1, f2, ls]
      refine callD.vc (hW _) ?_
      simp (maxSteps := 4000000) (disch := omega) only [abv, step, stepv, ev, wl, wn, wp, wz, aop, cV, cV1, AV.one, partCells, okW, onlyFr, app, sliceCells, cellsAt, srcA, subA, eqFs, Int.cast_ofNat_Int, simprocAttr, f3, a3, ls]
      exact ⟨d + 1, by omega, by omega, Le.slots (by simp [Am.look, il]; omega)⟩
    · have e : d = m.length - 1 := by omega
      subst e
      rw [unO_all h0]
      simp (maxSteps := 4000000) (disch := omega) only [abv, step, stepv, ev, wl, wn, wp, wz, aop, cV, cV1, AV.one, partCells, okW, onlyFr, app, sliceCells, cellsAt, srcA, subA, eqFs, Int.cast_ofNat_Int, simprocAttr, il]
      simp [frzN, frzK, frzL, frzV, il, frzL_T _ (isTL_ks .i32 (undAll m.length m)), undAll_len]

theorem undT_seg {c : Nat} {l : List Int} {m : Nat} (hc : 1 ≤ c) (h : c * m + c ≤ l.length) : undT c l (c * m) ++ undAll c ((l.drop (c * m)).take c) = undT c l (c * m + c) := by
  have hl : ((l.drop (c * m)).take c).length = c := by simp; omega
  rw [undAll, undT, undT, undT, hl, List.range_add, List.map_append, List.map_map]
  congr 1
  apply List.map_congr_left
  intro j hj
  have hj' : j < c := by simpa using hj
  have e := divmod_seg (c := c) (m := m) hj'
  simp only [Function.comp, undV]
  rw [e.1, e.2, Nat.div_eq_of_lt hj', Nat.mod_eq_of_lt hj', Nat.mul_zero]
  refine ud_congr hc (fun i hi => ?_) _
  rw [Nat.zero_add, seg_getD hi]

theorem ref17_Undo {P : Prg} {f fC fM t0 : Nat} (b : Body P f 32 [.tmp 4, .tmp 5] (ac_cadenzaref17_Undo fC fM t0)) (hC : S_MCheck P fC) (hM : S_RUnmixed P fM) : S_MixUndo P f := by
  intro c l hok
  obtain ⟨h1, h2, h3, h4, h5, h6⟩ := id hok
  have hc := okM_check hok
  obtain ⟨q, hq⟩ : ∃ q, l.length = c * q := ⟨l.length / c, by have := Nat.div_add_mod l.length c; omega⟩
  refine VC.of_walk 1 (by simp [isDL, isD, isD_il]) (by simp [isD, isDL, isD_il]) (ACall.of_body b (by simp) ?_)
  simp (maxSteps := 4000000) (disch := omega) only [abv, step, stepv, ev, wl, wn, wp, wz, aop, cV, cV1, AV.one, partCells, okW, onlyFr, app, sliceCells, cellsAt, srcA, subA, eqFs, Int.cast_ofNat_Int, simprocAttr, ac_cadenzaref17_Undo]
  refine callQ.vc (hC c l) ?_
  have n0 : l.length ≠ 0 := by omega
  simp (maxSteps := 4000000) (disch := omega) only [abv, step, stepv, ev, wl, wn, wp, wz, aop, cV, cV1, AV.one, partCells, okW, onlyFr, app, sliceCells, cellsAt, srcA, subA, eqFs, Int.cast_ofNat_Int, simprocAttr, hc, n0]
  refine ALoop.by (ι := Nat) (fun m => ⟨[(7, .int .i64 (c * m : Nat)), (6, .own 0 (c * m)), (1, il l), (0, .int .i64 c)], [⟨t0, 1, c * m, ks .i32 (undT c l (c * m)), 0⟩]⟩) (fun m => m ≤ q) (fun m => q - m) 0 (by rw [Nat.mul_zero]; exact Le.trans (Le.virt 6 t0 1 (by omega) rfl) (Le.slots (by simp [Am.look, undT]))) (by omega) ?_
  intro m hm
  have tm : isTL (ks .i32 l) = true := isTL_ks _ _
  have lt := undT_len c l (c * m)
  by_cases hlt : c * m < l.length
  · have hs := mul_step (c := c) (m := m) (q := q) (by rw [← hq]; exact hlt)
    rw [← hq] at hs
    have hmq : m < q := Nat.lt_of_mul_lt_mul_left (a := c) (b := m) (c := q) (by rw [← hq]; exact hlt)
    have e0 : c * m + c - c * m = c := by omega
    have hl : ((l.drop (c * m)).take c).length = c := by simp; omega
    have la := undAll_len c ((l.drop (c * m)).take c)
    have e1 := ks_seg .i32 l (c * m) c
    have hM' := hM ((l.drop (c * m)).take c) (by omega) (by omega) (I32_seg h6 _ _)
    rw [il, hl] at hM'
    have e2 : ks .i32 (undT c l (c * m)) ++ ks .i32 (undAll c ((l.drop (c * m)).take c)) = ks .i32 (undT c l (c * m + c)) := by rw [← undT_seg h1 hs]; simp [ks]
    simp (maxSteps := 4000000) (disch := omega) only [abv, step, stepv, ev, wl, wn, wp, wz, aop, cV, cV1, AV.one, partCells, okW, onlyFr, app, sliceCells, cellsAt, srcA, subA, eqFs, Int.cast_ofNat_Int, simprocAttr, e0, n0, il, e1]
    refine callQ.vc hM' ?_
    simp (maxSteps := 4000000) (disch := omega) only [abv, step, stepv, ev, wl, wn, wp, wz, aop, cV, cV1, AV.one, partCells, okW, onlyFr, app, sliceCells, cellsAt, srcA, subA, eqFs, Int.cast_ofNat_Int, simprocAttr, il, la, hl, e2]
    exact ⟨m + 1, by omega, by omega, by rw [show c * (m + 1) = c * m + c by rw [Nat.mul_add, Nat.mul_one]]; exact Le.slots (by simp [Am.look, il])⟩
  · have e : c * m = l.length := by
      have := Nat.mul_le_mul_left c hm
      omega
    rw [e]
    have e9 : undT c l l.length = undAll c l := rfl
    rw [e9]
    have lm := undAll_len c l
    simp (maxSteps := 4000000) (disch := omega) only [abv, step, stepv, ev, wl, wn, wp, wz, aop, cV, cV1, AV.one, partCells, okW, onlyFr, app, sliceCells, cellsAt, srcA, subA, eqFs, Int.cast_ofNat_Int, simprocAttr, il]
    simp [frzN, frzK, frzL, frzV, isDL, isD, il, lm, frzL_T _ (isTL_ks .i32 (undAll c l))]
end Go.Am

namespace Go.Am
open Go.RowKit

/-! ### What is uncoded -/

def stB (c : Nat) (L : List Int) (z : Chan) (k : Nat) : Nat → Chan
  | 0 => z
  | n + 1 => cbckC (stB c L z k n) (L.getD (k + n * c) 0)
def bacV (c : Nat) (L : List Int) (z : Chan) (j : Nat) : Int := cbckX (stB c L z (j % c) (j / c)) (L.getD j 0)
def bacT (c : Nat) (L : List Int) (z : Chan) (a : Nat) : List Int := (List.range a).map (bacV c L z)
theorem bacT_len (c : Nat) (L : List Int) (z : Chan) (a : Nat) : (bacT c L z a).length = a := by simp [bacT]
theorem bacT_succ (c : Nat) (L : List Int) (z : Chan) (a : Nat) : bacT c L z a ++ [bacV c L z a] = bacT c L z (a + 1) := by simp [bacT, List.range_succ]
theorem I32_bacT (c : Nat) (L : List Int) (z : Chan) (a : Nat) : I32 (bacT c L z a) := by
  intro v hv
  simp only [bacT, List.mem_map] at hv
  obtain ⟨j, _, rfl⟩ := hv
  exact w32_rng _
theorem ok_stB {c : Nat} {L : List Int} {z : Chan} (hz : okCh z) (k : Nat) : ∀ n, okCh (stB c L z k n)
  | 0 => hz
  | n + 1 => ok_cbck (ok_stB hz k n) _
def stAB (c : Nat) (L : List Int) (z : Chan) (i : Nat) : Nat → Chan := fun k => if k < c then stB c L z k (cnt c k i) else z
theorem stAB_0 (c : Nat) (L : List Int) (z : Chan) : stAB c L z 0 = fun _ => z := by
  funext k; simp [stAB, cnt_0, stB]
theorem stAB_at {c : Nat} (hc : 1 ≤ c) (L : List Int) (z : Chan) (i : Nat) : stAB c L z i (i % c) = stB c L z (i % c) (i / c) := by
  rw [stAB, if_pos (Nat.mod_lt _ (by omega)), cnt_self]
theorem stAB_succ {c : Nat} (hc : 1 ≤ c) (L : List Int) (z : Chan) (i : Nat) : upd (stAB c L z i) (i % c) (cbckC (stB c L z (i % c) (i / c)) (L.getD i 0)) = stAB c L z (i + 1) := by
  funext k
  have hr := Nat.mod_lt i (show 0 < c by omega)
  by_cases hk : k < c
  · simp only [upd, stAB, if_pos hk, cnt_succ hk]
    by_cases e : k = i % c
    · rw [if_pos e, if_pos e, e, stB]
      rw [show i % c + i / c * c = i by have := Nat.div_add_mod i c; rw [Nat.mul_comm]; omega]
    · rw [if_neg e, if_neg e]
  · simp only [upd, stAB, if_neg hk]
    rw [if_neg (by omega)]
theorem ok_stAB {c : Nat} {L : List Int} {z : Chan} (hz : okCh z) (i : Nat) : okS (stAB c L z i) := fun k => by
  unfold stAB; split
  · exact (ok_stB hz k _).2.2.1
  · exact hz.2.2.1
def U32 (l : List Int) : Prop := ∀ x ∈ l, 0 ≤ x ∧ x < 4294967296
theorem U32_getD {l : List Int} (h : U32 l) (j : Nat) : 0 ≤ l.getD j 0 ∧ l.getD j 0 < 4294967296 := by
  by_cases hj : j < l.length
  · rw [List.getD_eq_getElem?_getD, List.getElem?_eq_getElem hj]
    exact h _ (List.getElem_mem hj)
  · rw [List.getD_eq_getElem?_getD, List.getElem?_eq_none (by omega)]; simp
theorem backs_getD {v : List Int} {j : Nat} (h : j < v.length) : (v.map backN).getD j 0 = backN (v.getD j 0) := by
  simp [List.getD_eq_getElem?_getD, List.getElem?_map, List.getElem?_eq_getElem h]

def unB (c : Nat) (x : Int) (t v : List Int) : List Int := undAll c (bacT c (v.map backN) (newC x t) v.length)
theorem unB_len (c : Nat) (x : Int) (t v : List Int) : (unB c x t v).length = v.length := by simp [unB, undAll_len, bacT_len]
def okV (c : Nat) (v : List Int) : Prop := 1 ≤ c ∧ c ≤ 6 ∧ 0 < v.length ∧ v.length ≤ 4000 ∧ v.length % c = 0 ∧ U32 v
theorem okV_M {c : Nat} {v : List Int} (h : okV c v) (x : Int) (t : List Int) : okM c (bacT c (v.map backN) (newC x t) v.length) := by
  obtain ⟨h1, h2, h3, h4, h5, _⟩ := h
  exact ⟨h1, h2, by rw [bacT_len]; omega, by rw [bacT_len]; omega, by rw [bacT_len]; exact h5, I32_bacT _ _ _ _⟩
def rngA (x : Int) (l : List Int) : AV := if checkN x l ≠ 0 then .tup [.list 0 [], .int .i64 (checkN x l)] else .tup [il l, .int .i64 0]
theorem isD_rng (x : Int) (l : List Int) : isD (rngA x l) = true := by unfold rngA; split <;> simp [isD, isDL, isD_il]
def S_DSam (P : Prg) (f : Nat) : Prop := ∀ (c : Nat) (x : Int) (t v : List Int), t.length = 16 → I32 t → okV c v → half x ≠ 0 → VC P f [shA c x, .agg (ks .i32 t), u32L v] (rngA x (unB c x t v))

set_option maxRecDepth 20000 in
theorem deframe_samples {P : Prg} {f fN fO fB fU fW t0 t1 t2 t3 t4 : Nat} (b : Body P f 84 [.tmp 6, .tmp 7] (ac_deframe_samples fN fO fB fU fW t0 t1 t2 t3 t4)) (hN : S_CNew P fN) (hO : S_UBack P fO) (hB : S_CBack P fB) (hU : S_MixUndo P fU) (hW : S_WCheck P fW) : S_DSam P f := by
  intro k x t v hl hI hok hx
  have hk : (ks .i32 t).length = 16 := by simp [ks_length, hl]
  have ot := ks_one .i32 t
  have tt : (ks .i32 t).take 16 = ks .i32 t := take_all (by omega)
  refine VC.of_walk 1 (by simp [isDL, isD, isD_u32L, isDL_ks, shA]) (isD_rng _ _) (ACall.of_cut 5 b (by simp) ?_)
  have hz := ok_newC hx hl hI
  have l0 := six_len (S := fun _ => zeroC) (fun _ => ok_zeroC)
  have o0 := all_six (fun _ => zeroC)
  obtain ⟨h1, h2, h3, h4, h5, h6⟩ := id hok
  unfold ac_deframe_samples
  rw [show ([.int .i64 0, .int .i32 0, .int .i64 0, .int .i32 0, .int .i32 0, .int .i32 0, .int .i32 0, .int .i32 0, .int .i32 0, .int .i32 0, .int .i32 0, .int .i32 0, .int .i32 0, .int .i32 0, .int .i32 0, .int .i32 0, .int .i32 0, .int .i32 0, .int .i32 0, .int .i32 0, .int .i32 0, .int .i32 0, .int .i32 0, .int .i32 0, .int .i32 0, .int .i32 0, .int .i32 0, .int .i32 0, .int .i32 0, .int .i32 0, .int .i32 0, .int .i32 0, .int .i32 0, .int .i32 0, .int .i32 0, .int .i64 0, .int .i32 0, .int .i64 0, .int .i32 0, .int .i32 0, .int .i32 0, .int .i32 0, .int .i32 0, .int .i32 0, .int .i32 0, .int .i32 0, .int .i32 0, .int .i32 0, .int .i32 0, .int .i32 0, .int .i32 0, .int .i32 0, .int .i32 0, .int .i32 0, .int .i32 0, .int .i32 0, .int .i32 0, .int .i32 0, .int .i32 0, .int .i32 0, .int .i32 0, .int .i32 0, .int .i32 0, .int .i32 0, .int .i32 0, .int .i32 0, .int .i32 0, .int .i32 0, .int .i32 0, .int .i32 0, .int .i64 0, .int .i32 0, .int .i64 0, .int .i32 0, .int .i32 0, .int .i32 0, .int .i32 0, .int .i32 0, .int .i32 0, .int .i32 0, .int .i32 0, .int .i32 0, .int .i32 0, .int .i32 0, .int .i32 0, .int .i32 0, .int .i32 0, .int .i32 0, .int .i32 0, .int .i32 0, .int .i32 0, .int .i32 0, .int .i32 0, .int .i32 0, .int .i32 0, .int .i32 0, .int .i32 0, .int .i32 0, .int .i32 0, .int .i32 0, .int .i32 0, .int .i32 0, .int .i32 0, .int .i32 0, .int .i32 0, .int .i64 0, .int .i32 0, .int .i64 0, .int .i32 0, .int .i32 0, .int .i32 0, .int .i32 0, .int .i32 0, .int .i32 0, .int .i32 0, .int .i32 0, .int .i32 0, .int .i32 0, .int .i32 0, .int .i32 0, .int .i32 0, .int .i32 0, .int .i32 0, .int .i32 0, .int .i32 0, .int .i32 0, .int .i32 0, .int .i32 0, .int .i32 0, .int .i32 0, .int .i32 0, .int .i32 0, .int .i32 0, .int .i32 0, .int .i32 0, .int .i32 0, .int .i32 0, .int .i32 0, .int .i32 0, .int .i32 0, .int .i64 0, .int .i32 0, .int .i64 0, .int .i32 0, .int .i32 0, .int .i32 0, .int .i32 0, .int .i32 0, .int .i32 0, .int .i32 0, .int .i32 0, .int .i32 0, .int .i32 0, .int .i32 0, .int .i32 0, .int .i32 0, .int .i32 0, .int .i32 0, .int .i32 0, .int .i32 0, .int .i32 0, .int .i32 0, .int .i32 0, .int .i32 0, .int .i32 0, .int .i32 0, .int .i32 0, .int .i32 0, .int .i32 0, .int .i32 0, .int .i32 0, .int .i32 0, .int .i32 0, .int .i32 0, .int .i32 0, .int .i64 0, .int .i32 0, .int .i64 0, .int .i32 0, .int .i32 0, .int .i32 0, .int .i32 0, .int .i32 0, .int .i32 0, .int .i32 0, .int .i32 0, .int .i32 0, .int .i32 0, .int .i32 0, .int .i32 0, .int .i32 0, .int .i32 0, .int .i32 0, .int .i32 0, .int .i32 0, .int .i32 0, .int .i32 0, .int .i32 0, .int .i32 0, .int .i32 0, .int .i32 0, .int .i32 0, .int .i32 0, .int .i32 0, .int .i32 0, .int .i32 0, .int .i32 0, .int .i32 0, .int .i32 0, .int .i32 0] : List AV) = six (fun _ => zeroC) from rfl, ← zeroC_eq]
  simp (maxSteps := 4000000) (disch := omega) only [abv, step, stepv, ev, wl, wn, wp, wz, aop, cV, cV1, AV.one, partCells, okW, onlyFr, app, sliceCells, cellsAt, srcA, subA, eqFs, Int.cast_ofNat_Int, simprocAttr, cuts, shA, u32L, hk, ot, tt, l0, o0]
  refine ALoop.by (ι := Nat) (fun i => ⟨[(20, .int .i64 i), (8, .ref 2 1 0), (4, .ref 1 1 0), (3, .ref 0 1 0), (2, u32L v)], [⟨t0, 2, 1, [.int .i64 k, .int .i64 x], 0⟩, ⟨t1, 16, 1, ks .i32 t, 0⟩, ⟨t2, 210, 1, six (newS (newC x t) i), 0⟩]⟩) (fun i => i ≤ 6) (fun i => 6 - i) 0 (by rw [newS_0]; exact Le.slots (by simp [Am.look, u32L])) (by omega) ?_
  intro i hi
  have oS := ok_newS hz.2.2.1 i
  have lS := six_len oS
  by_cases hlt : i < 6
  · have e1 := six_set oS hlt (newC x t)
    rw [newS_succ] at e1
    have lc := chan_len hz.2.2.1
    have oc := chan_one (newC x t)
    simp (maxSteps := 4000000) (disch := omega) only [abv, step, stepv, ev, wl, wn, wp, wz, aop, cV, cV1, AV.one, partCells, okW, onlyFr, app, sliceCells, cellsAt, srcA, subA, eqFs, Int.cast_ofNat_Int, simprocAttr, hk, tt]
    refine callQ.vc (hN x t hl hI) ?_
    simp (maxSteps := 4000000) (disch := omega) only [abv, step, stepv, ev, wl, wn, wp, wz, aop, cV, cV1, AV.one, partCells, okW, onlyFr, app, sliceCells, cellsAt, srcA, subA, eqFs, Int.cast_ofNat_Int, simprocAttr, cnewA, if_neg hx, lS, lc, oc, e1]
    exact ⟨i + 1, by omega, by omega, Le.slots (by simp [Am.look])⟩
  · have : i = 6 := by omega
    subst this
    simp (maxSteps := 4000000) (disch := omega) only [abv, step, stepv, ev, wl, wn, wp, wz, aop, cV, cV1, AV.one, partCells, okW, onlyFr, app, sliceCells, cellsAt, srcA, subA, eqFs, Int.cast_ofNat_Int, simprocAttr, cuts, u32L]
    have tv : isTL (ks .u32 v) = true := isTL_ks _ _
    refine ALoop.by (ι := Nat) (fun i => ⟨[(35, .int .i64 i), (34, .int .i64 v.length), (33, u32L v), (10, .own 3 i), (8, .ref 2 1 0), (3, .ref 0 1 0)], [⟨t0, 2, 1, [.int .i64 k, .int .i64 x], 0⟩, ⟨t1, 16, 1, ks .i32 t, 0⟩, ⟨t2, 210, 1, six (stAB k (v.map backN) (newC x t) i), 0⟩, ⟨t4, 1, i, ks .i32 (bacT k (v.map backN) (newC x t) i), 0⟩]⟩) (fun i => i ≤ v.length) (fun i => v.length - i) 0 (by rw [stAB_0, ← six_6]; exact Le.trans (Le.virt 10 t4 1 (by omega) rfl) (Le.slots (by simp [Am.look, bacT, u32L]))) (by omega) ?_
    intro i hi
    have lo := bacT_len k (v.map backN) (newC x t) i
    have to : isTL (ks .i32 (bacT k (v.map backN) (newC x t) i)) = true := isTL_ks _ _
    by_cases hlt : i < v.length
    · have oS := ok_stAB hz (c := k) (L := v.map backN) i
      have lS := six_len oS
      have hr := Nat.mod_lt i (show 0 < k by omega)
      have e0 := six_at oS (k := i % k) (by omega)
      rw [stAB_at h1] at e0
      have e1 := six_set oS (k := i % k) (by omega) (cbckC (stB k (v.map backN) (newC x t) (i % k) (i / k)) ((v.map backN).getD i 0))
      rw [stAB_succ h1] at e1
      have hok2 := ok_stB (c := k) (L := v.map backN) hz (i % k) (i / k)
      have eb := backs_getD hlt
      have hO' := hO (v.getD i 0) (U32_getD h6 i)
      rw [← eb] at hO'
      have hB' := hB _ ((v.map backN).getD i 0) hok2
      have hok3 := ok_cbck hok2 ((v.map backN).getD i 0)
      have e2 := ks_at (K := .u32) (l := v) (i := i) hlt
      have e3 : ks .i32 (bacT k (v.map backN) (newC x t) i) ++ [.int .i32 (cbckX (stB k (v.map backN) (newC x t) (i % k) (i / k)) ((v.map backN).getD i 0))] = ks .i32 (bacT k (v.map backN) (newC x t) (i + 1)) := by rw [ks_snoc, ← bacT_succ]; rfl
      have lc := chan_len hok3.2.2.1
      have oc := chan_one (cbckC (stB k (v.map backN) (newC x t) (i % k) (i / k)) ((v.map backN).getD i 0))
      have tc : (chanL (cbckC (stB k (v.map backN) (newC x t) (i % k) (i / k)) ((v.map backN).getD i 0))).take 35 = chanL (cbckC (stB k (v.map backN) (newC x t) (i % k) (i / k)) ((v.map backN).getD i 0)) := take_all (by omega)
      have lz := chan_len ok_zeroC
      have oz := chan_one zeroC
      have dz : (chanL zeroC).drop 35 = [] := List.drop_eq_nil_of_le (by omega)
      have em : (i : Int) % k = (i % k : Nat) := by omega
      simp (maxSteps := 4000000) (disch := omega) only [abv, step, stepv, ev, wl, wn, wp, wz, aop, cV, cV1, AV.one, partCells, okW, onlyFr, app, sliceCells, cellsAt, srcA, subA, eqFs, Int.cast_ofNat_Int, simprocAttr, u32L, e2, em, e0]
      refine callD.vc hO' ?_
      simp (maxSteps := 4000000) (disch := omega) only [abv, step, stepv, ev, wl, wn, wp, wz, aop, cV, cV1, AV.one, partCells, okW, onlyFr, app, sliceCells, cellsAt, srcA, subA, eqFs, Int.cast_ofNat_Int, simprocAttr]
      refine callD.vc hB' ?_
      simp (maxSteps := 4000000) (disch := omega) only [abv, step, stepv, ev, wl, wn, wp, wz, aop, cV, cV1, AV.one, partCells, okW, onlyFr, app, sliceCells, cellsAt, srcA, subA, eqFs, Int.cast_ofNat_Int, simprocAttr, lz, oz, lc, oc, tc, e1, lS, dz, e3, List.append_nil, List.take_zero, List.nil_append]
      exact ⟨i + 1, by omega, by omega, Le.dropT [_, _, _, _] (by simp [isTL_six, isTL_ks, isTL, isT]) (by simp [Am.look, frzK, frzL, frzV, frzL_T _ tv])⟩
    · have e : i = v.length := by omega
      subst e
      simp (maxSteps := 4000000) (disch := omega) only [abv, step, stepv, ev, wl, wn, wp, wz, aop, cV, cV1, AV.one, partCells, okW, onlyFr, app, sliceCells, cellsAt, srcA, subA, eqFs, Int.cast_ofNat_Int, simprocAttr, cuts]
      refine ⟨⟨[(10, il (bacT k (v.map backN) (newC x t) v.length)), (3, .ref 0 1 0)], [⟨t0, 2, 1, [.int .i64 k, .int .i64 x], 0⟩]⟩, Le.dropT [_] (by simp [isTL, isT]) (by simp [Am.look, frzK, frzL, frzV, il, lo, frzL_T _ to]), ?_⟩
      simp (maxSteps := 4000000) (disch := omega) only [abv, step, stepv, ev, wl, wn, wp, wz, aop, cV, cV1, AV.one, partCells, okW, onlyFr, app, sliceCells, cellsAt, srcA, subA, eqFs, Int.cast_ofNat_Int, simprocAttr]
      refine callQ.vc (hU k _ (okV_M hok x t)) ?_
      simp (maxSteps := 4000000) (disch := omega) only [abv, step, stepv, ev, wl, wn, wp, wz, aop, cV, cV1, AV.one, partCells, okW, onlyFr, app, sliceCells, cellsAt, srcA, subA, eqFs, Int.cast_ofNat_Int, simprocAttr]
      refine callQ.vc (hW x (unB k x t v) (I32_undAll (I32_bacT _ _ _ _))) ?_
      have lu := unB_len k x t v
      by_cases h9 : checkN x (unB k x t v) = 0
      · have e9 : rngA x (unB k x t v) = .tup [il (unB k x t v), .int .i64 0] := by simp [rngA, h9]
        simp (maxSteps := 4000000) (disch := omega) only [abv, step, stepv, ev, wl, wn, wp, wz, aop, cV, cV1, AV.one, partCells, okW, onlyFr, app, sliceCells, cellsAt, srcA, subA, eqFs, Int.cast_ofNat_Int, simprocAttr, h9, e9]
        simp only [unB] at *
        simp [frzN, frzK, frzL, frzV, isDL, isD, il, frzL_T _ (isTL_ks .i32 _)]
      · have e9 : rngA x (unB k x t v) = .tup [.list 0 [], .int .i64 (checkN x (unB k x t v))] := by simp [rngA, h9]
        simp (maxSteps := 4000000) (disch := omega) only [abv, step, stepv, ev, wl, wn, wp, wz, aop, cV, cV1, AV.one, partCells, okW, onlyFr, app, sliceCells, cellsAt, srcA, subA, eqFs, Int.cast_ofNat_Int, simprocAttr, h9, e9]
        simp [frzN, frzK, frzL, frzV, isDL, isD]
end Go.Am

namespace Go.Am
open Go.RowKit

def codG (g : Nat → Int) (c len k n : Nat) : List Int := (List.range len).map fun j => if j % c < k ∨ (j % c = k ∧ j / c < n) then g j else 0
theorem codG_len (g : Nat → Int) (c len k n : Nat) : (codG g c len k n).length = len := by simp [codG]
theorem codG_00 (g : Nat → Int) (c len : Nat) : codG g c len 0 0 = List.replicate len 0 := by
  apply List.ext_getElem (by simp [codG])
  intro i h1 h2
  simp [codG]
theorem codG_step {c k n len : Nat} (hk : k < c) (h : k + n * c < len) (g : Nat → Int) : (codG g c len k n).set (k + n * c) (g (k + n * c)) = codG g c len k (n + 1) := getD_ext (by simp [codG_len]) fun j hj => by
  have hj' : j < len := by simpa [codG_len] using hj
  rw [set_getD (by rw [codG_len]; exact hj'), codG, codG, map_getD hj', map_getD hj']
  have ha := at_mod n hk
  by_cases e : k + n * c = j
  · subst e
    rw [if_pos rfl, ha.1, ha.2, if_pos (by omega)]
  · rw [if_neg e]
    have hd := Nat.div_add_mod j c
    by_cases q : j % c < k ∨ (j % c = k ∧ j / c < n)
    · rw [if_pos q, if_pos (by omega)]
    · rw [if_neg q, if_neg]
      rintro (h1 | ⟨h1, h2⟩)
      · omega
      · have : j / c = n := by omega
        rw [this, h1, Nat.mul_comm] at hd
        omega
theorem codG_next {c k q len : Nat} (h : len = c * q) (g : Nat → Int) : codG g c len k q = codG g c len (k + 1) 0 := by
  simp only [codG]
  apply List.map_congr_left
  intro j hj
  have hj' : j < c * q := by rw [← h]; simpa using hj
  have hd : j / c < q := Nat.div_lt_of_lt_mul hj'
  generalize j / c = d at hd
  generalize g j = v
  by_cases e : j % c < k + 1
  · rw [if_pos (by omega), if_pos (.inl e)]
  · rw [if_neg (by omega), if_neg (by omega)]
theorem codG_all {c len : Nat} (hc : 1 ≤ c) (g : Nat → Int) : codG g c len c 0 = (List.range len).map g := by
  simp only [codG]
  apply List.map_congr_left
  intro j hj
  rw [if_pos (.inl (Nat.mod_lt _ (by omega)))]
theorem bacV_at {c k : Nat} (n : Nat) (hk : k < c) (m : List Int) (z : Chan) : bacV c m z (k + n * c) = cbckX (stB c m z k n) (m.getD (k + n * c) 0) := by
  rw [bacV, (at_mod n hk).1, (at_mod n hk).2]

def S_RUndone (P : Prg) (f : Nat) : Prop := ∀ (c : Nat) (x : Int) (t v : List Int), t.length = 16 → I32 t → okV c v → half x ≠ 0 → VC P f [shA c x, .agg (ks .i32 t), u32L v] (il (unB c x t v))

set_option maxRecDepth 20000 in
theorem ref21_Undone {P : Prg} {f fN fO fS fU t0 t1 t2 t3 : Nat} (b : Body P f 64 [.tmp 6] (ac_cadenzaref21_Undone fN fO fS fU t0 t1 t2 t3)) (hN : S_CNew P fN) (hO : S_UBack P fO) (hS : S_RStepped19 P fS) (hU : S_MixUndo P fU) : S_RUndone P f := by
  intro c x t v hl hI hok hx
  have hk : (ks .i32 t).length = 16 := by simp [ks_length, hl]
  have ot := ks_one .i32 t
  have tt : (ks .i32 t).take 16 = ks .i32 t := take_all (by omega)
  refine VC.of_walk 1 (by simp [isDL, isD, isD_u32L, isDL_ks, shA]) (by simp [isD_il]) (ACall.of_cut 3 b (by simp) ?_)
  have hz := ok_newC hx hl hI
  obtain ⟨h1, h2, h3, h4, h5, h6⟩ := id hok
  obtain ⟨q, hq⟩ : ∃ q, v.length = c * q := ⟨v.length / c, by have := Nat.div_add_mod v.length c; omega⟩
  have hq2 : q ≤ 4000 := Nat.le_trans (Nat.le_mul_of_pos_left q (by omega)) (hq ▸ h4)
  have tv : isTL (ks .u32 v) = true := isTL_ks _ _
  unfold ac_cadenzaref21_Undone
  rw [← zeroC_eq]
  have e0 : repCells [.int .i32 0] v.length = ks .i32 (codG (bacV c (v.map backN) (newC x t)) c v.length 0 0) := by rw [codG_00, rep_ks]
  simp (maxSteps := 4000000) (disch := omega) only [abv, step, stepv, ev, wl, wn, wp, wz, aop, cV, cV1, AV.one, partCells, okW, onlyFr, app, sliceCells, cellsAt, srcA, subA, eqFs, Int.cast_ofNat_Int, simprocAttr, cuts, shA, hk, ot, tt, u32L, e0]
  refine ALoop.by (ι := Nat) (fun k => ⟨[(8, .int .i64 k), (7, .own 2 v.length), (4, .ref 1 1 0), (3, .ref 0 1 0), (2, u32L v)], [⟨t0, 2, 1, [.int .i64 c, .int .i64 x], 0⟩, ⟨t1, 16, 1, ks .i32 t, 0⟩, ⟨t2, 1, v.length, ks .i32 (codG (bacV c (v.map backN) (newC x t)) c v.length k 0), 0⟩]⟩) (fun k => k ≤ c) (fun k => c - k) 0 (Le.slots (by simp [Am.look, u32L])) (by omega) ?_
  intro k hkc
  by_cases hlt : k < c
  · simp (maxSteps := 4000000) (disch := omega) only [abv, step, stepv, ev, wl, wn, wp, wz, aop, cV, cV1, AV.one, partCells, okW, onlyFr, app, sliceCells, cellsAt, srcA, subA, eqFs, Int.cast_ofNat_Int, simprocAttr, hk, tt]
    refine callQ.vc (hN x t hl hI) ?_
    have lz := chan_len ok_zeroC
    have oz := chan_one zeroC
    have dz : (chanL zeroC).drop 35 = [] := List.drop_eq_nil_of_le (by omega)
    have ln := chan_len hz.2.2.1
    have on := chan_one (newC x t)
    simp (maxSteps := 4000000) (disch := omega) only [abv, step, stepv, ev, wl, wn, wp, wz, aop, cV, cV1, AV.one, partCells, okW, onlyFr, app, sliceCells, cellsAt, srcA, subA, eqFs, Int.cast_ofNat_Int, simprocAttr, cnewA, if_neg hx, lz, oz, dz, ln, on, List.append_nil, List.take_zero, List.nil_append]
    refine ALoop.by (ι := Nat) (fun n => ⟨[(11, .int .i64 (k + n * c : Nat)), (9, .ref 3 1 0), (8, .int .i64 k), (7, .own 2 v.length), (4, .ref 1 1 0), (3, .ref 0 1 0), (2, u32L v)], [⟨t0, 2, 1, [.int .i64 c, .int .i64 x], 0⟩, ⟨t1, 16, 1, ks .i32 t, 0⟩, ⟨t2, 1, v.length, ks .i32 (codG (bacV c (v.map backN) (newC x t)) c v.length k n), 0⟩, ⟨t3, 35, 1, chanL (stB c (v.map backN) (newC x t) k n), 0⟩]⟩) (fun n => n ≤ q) (fun n => q - n) 0 (by rw [Nat.zero_mul]; exact Le.slots (by simp [Am.look, u32L])) (by omega) ?_
    intro n hn
    have hst := ok_stB (c := c) (L := v.map backN) hz k n
    have lst := chan_len hst.2.2.1
    have ost := chan_one (stB c (v.map backN) (newC x t) k n)
    have tst : (chanL (stB c (v.map backN) (newC x t) k n)).take 35 = chanL (stB c (v.map backN) (newC x t) k n) := take_all (by omega)
    have dst : (chanL (stB c (v.map backN) (newC x t) k n)).drop 35 = [] := List.drop_eq_nil_of_le (by omega)
    have lcod := codG_len (bacV c (v.map backN) (newC x t)) c v.length k n
    by_cases hnq : n < q
    · have hin : k + n * c < v.length := by rw [hq]; exact (own_lt hlt).2 hnq
      have e1 := ks_at (K := .u32) (l := v) (i := k + n * c) hin
      have eb := backs_getD hin
      have hO' := hO (v.getD (k + n * c) 0) (U32_getD h6 _)
      rw [← eb] at hO'
      have hr : -2147483648 ≤ (v.map backN).getD (k + n * c) 0 ∧ (v.map backN).getD (k + n * c) 0 ≤ 2147483647 := by
        rw [eb]
        have := U32_getD h6 (k + n * c)
        unfold backN; split <;> omega
      have hS' := hS _ ((v.map backN).getD (k + n * c) 0) hst hr
      rw [← bacV_at n hlt] at hS'
      have hst2 := ok_stB (c := c) (L := v.map backN) hz k (n + 1)
      have eC : cbckC (stB c (v.map backN) (newC x t) k n) ((v.map backN).getD (k + n * c) 0) = stB c (v.map backN) (newC x t) k (n + 1) := rfl
      rw [eC] at hS'
      have lst2 := chan_len hst2.2.2.1
      have ost2 := chan_one (stB c (v.map backN) (newC x t) k (n + 1))
      have tst2 : (chanL (stB c (v.map backN) (newC x t) k (n + 1))).take 35 = chanL (stB c (v.map backN) (newC x t) k (n + 1)) := take_all (by omega)
      have e2 := ks_set (K := .i32) (l := codG (bacV c (v.map backN) (newC x t)) c v.length k n) (i := k + n * c) (by omega) (bacV c (v.map backN) (newC x t) (k + n * c))
      rw [codG_step hlt hin] at e2
      have hc2 : c ≤ 4000 := by omega
      simp (maxSteps := 4000000) (disch := omega) only [abv, step, stepv, ev, wl, wn, wp, wz, aop, cV, cV1, AV.one, partCells, okW, onlyFr, app, sliceCells, cellsAt, srcA, subA, eqFs, Int.cast_ofNat_Int, simprocAttr, u32L, tst, e1]
      refine callD.vc hO' ?_
      simp (maxSteps := 4000000) (disch := omega) only [abv, step, stepv, ev, wl, wn, wp, wz, aop, cV, cV1, AV.one, partCells, okW, onlyFr, app, sliceCells, cellsAt, srcA, subA, eqFs, Int.cast_ofNat_Int, simprocAttr]
      refine callD.vc hS' ?_
      simp (maxSteps := 4000000) (disch := omega) only [abv, step, stepv, ev, wl, wn, wp, wz, aop, cV, cV1, AV.one, partCells, okW, onlyFr, app, sliceCells, cellsAt, srcA, subA, eqFs, Int.cast_ofNat_Int, simprocAttr, lz, oz, dz, lst2, ost2, tst2, List.append_nil, List.take_zero, List.nil_append, lst, dst, e2]
      exact ⟨n + 1, by omega, by omega, Le.dropT [_, _, _, _] (by simp [isTL_chan, isTL_ks, isTL, isT]) (by simp [Am.look, frzK, frzL, frzV, frzL_T _ tv, Nat.add_mul, Int.add_mul, Int.add_assoc])⟩
    · have : n = q := by omega
      subst this
      have hin : v.length ≤ k + n * c := by rw [hq]; exact Nat.le_of_not_lt fun h => hnq ((own_lt hlt).1 h)
      rw [codG_next hq]
      simp (maxSteps := 4000000) (disch := omega) only [abv, step, stepv, ev, wl, wn, wp, wz, aop, cV, cV1, AV.one, partCells, okW, onlyFr, app, sliceCells, cellsAt, srcA, subA, eqFs, Int.cast_ofNat_Int, simprocAttr, u32L]
      exact ⟨k + 1, by omega, by omega, Le.dropT [_, _, _] (by simp [isTL_ks, isTL, isT]) (by simp [Am.look, frzK, frzL, frzV, frzL_T _ tv])⟩
  · have : k = c := by omega
    subst this
    have e9 : codG (bacV k (v.map backN) (newC x t)) k v.length k 0 = bacT k (v.map backN) (newC x t) v.length := codG_all h1 _
    rw [e9]
    have lo := bacT_len k (v.map backN) (newC x t) v.length
    have to : isTL (ks .i32 (bacT k (v.map backN) (newC x t) v.length)) = true := isTL_ks _ _
    simp (maxSteps := 4000000) (disch := omega) only [abv, step, stepv, ev, wl, wn, wp, wz, aop, cV, cV1, AV.one, partCells, okW, onlyFr, app, sliceCells, cellsAt, srcA, subA, eqFs, Int.cast_ofNat_Int, simprocAttr, cuts]
    refine ⟨⟨[(7, il (bacT k (v.map backN) (newC x t) v.length)), (3, .ref 0 1 0)], [⟨t0, 2, 1, [.int .i64 k, .int .i64 x], 0⟩]⟩, Le.dropT [_] (by simp [isTL, isT]) (by simp [Am.look, frzK, frzL, frzV, il, lo, frzL_T _ to]), ?_⟩
    simp (maxSteps := 4000000) (disch := omega) only [abv, step, stepv, ev, wl, wn, wp, wz, aop, cV, cV1, AV.one, partCells, okW, onlyFr, app, sliceCells, cellsAt, srcA, subA, eqFs, Int.cast_ofNat_Int, simprocAttr]
    refine callQ.vc (hU k _ (okV_M hok x t)) ?_
    simp (maxSteps := 4000000) (disch := omega) only [abv, step, stepv, ev, wl, wn, wp, wz, aop, cV, cV1, AV.one, partCells, okW, onlyFr, app, sliceCells, cellsAt, srcA, subA, eqFs, Int.cast_ofNat_Int, simprocAttr]
    have lu := unB_len k x t v
    simp only [unB] at *
    simp [frzN, frzK, frzL, frzV, isDL, isD, il, frzL_T _ (isTL_ks .i32 _)]

def S_Ranged (P : Prg) (f : Nat) : Prop := ∀ (c x : Int) (l : List Int), I32 l → VC P f [shA c x, il l] (rngA x l)
theorem ref21_ranged {P : Prg} {f fW t0 : Nat} (b : Body P f 15 [.tmp 4, .tmp 5] (ac_cadenzaref21_ranged fW t0)) (hW : S_WCheck P fW) : S_Ranged P f := by
  intro c x l hI
  refine VC.of_walk 1 (by simp [isDL, isD, isD_il, shA]) (isD_rng _ _) (ACall.of_body b (by simp) ?_)
  simp (maxSteps := 4000000) (disch := omega) only [abv, step, stepv, ev, wl, wn, wp, wz, aop, cV, cV1, AV.one, partCells, okW, onlyFr, app, sliceCells, cellsAt, srcA, subA, eqFs, Int.cast_ofNat_Int, simprocAttr, ac_cadenzaref21_ranged, shA]
  refine callQ.vc (hW x l hI) ?_
  by_cases h9 : checkN x l = 0
  · have e9 : rngA x l = .tup [il l, .int .i64 0] := by simp [rngA, h9]
    simp (maxSteps := 4000000) (disch := omega) only [abv, step, stepv, ev, wl, wn, wp, wz, aop, cV, cV1, AV.one, partCells, okW, onlyFr, app, sliceCells, cellsAt, srcA, subA, eqFs, Int.cast_ofNat_Int, simprocAttr, h9, e9]
    simp [frzN, frzK, frzL, frzV, isDL, isD, il, frzL_T _ (isTL_ks .i32 _)]
  · have e9 : rngA x l = .tup [.list 0 [], .int .i64 (checkN x l)] := by simp [rngA, h9]
    simp (maxSteps := 4000000) (disch := omega) only [abv, step, stepv, ev, wl, wn, wp, wz, aop, cV, cV1, AV.one, partCells, okW, onlyFr, app, sliceCells, cellsAt, srcA, subA, eqFs, Int.cast_ofNat_Int, simprocAttr, h9, e9]
    simp [frzN, frzK, frzL, frzV, isDL, isD]
end Go.Am

namespace Go.Am
open Go.RowKit

def erA (e : Int) : AV := .tup [.list 0 [], .int .i64 e]
end Go.Am

namespace Go.Am
open Go.RowKit

def cntA (r n : Int) : AV := if r < 1 ∨ 1048576 < r then .tup [.int .i64 0, .int .i64 2] else if n < 1 ∨ 4000 < n then .tup [.int .i64 0, .int .i64 2] else if 1000 < (n + longN r - 1) / longN r then .tup [.int .i64 0, .int .i64 4] else .tup [.int .i64 ((n + longN r - 1) / longN r), .int .i64 0]
theorem isD_cnt (r n : Int) : isD (cntA r n) = true := by unfold cntA; split <;> (try split) <;> (try split) <;> rfl
def S_Count22 (P : Prg) (f : Nat) : Prop := ∀ r n : Int, VC P f [.int .i64 r, .int .i64 n] (cntA r n)

theorem lengths_Count {P : Prg} {f fL : Nat} (b : Body P f 32 [.tmp 4, .tmp 5] (ac_lengths_Count fL)) (hL : S_Long22 P fL) : S_Count22 P f := by
  intro r n
  refine VC.of_acall rfl (isD_cnt _ _) (ACall.of_body b (by simp) ?_)
  have hL' := hL r
  simp (maxSteps := 4000000) (disch := omega) only [abv, step, stepv, ev, wl, wn, wp, wz, aop, cV, cV1, AV.one, partCells, okW, onlyFr, app, sliceCells, cellsAt, srcA, subA, eqFs, Int.cast_ofNat_Int, simprocAttr, ac_lengths_Count]
  refine callQ.vc hL' ?_
  by_cases h1 : r < 1 ∨ 1048576 < r
  · have e1 : longA r = .tup [.int .i64 0, .int .i64 2] := by rw [longA, if_pos h1]
    have e2 : cntA r n = .tup [.int .i64 0, .int .i64 2] := by rw [cntA, if_pos h1]
    simp (maxSteps := 4000000) (disch := omega) only [abv, step, stepv, ev, wl, wn, wp, wz, aop, cV, cV1, AV.one, partCells, okW, onlyFr, app, sliceCells, cellsAt, srcA, subA, eqFs, Int.cast_ofNat_Int, simprocAttr, e1, e2]
  have e1 : longA r = .tup [.int .i64 (longN r), .int .i64 0] := by rw [longA, if_neg h1]
  have p1 := longN_pos r
  have p2 := longN_le (r := r) (by omega)
  by_cases h2 : n < 1
  · have e2 : cntA r n = .tup [.int .i64 0, .int .i64 2] := by rw [cntA, if_neg h1, if_pos (.inl h2)]
    simp (maxSteps := 4000000) (disch := omega) only [abv, step, stepv, ev, wl, wn, wp, wz, aop, cV, cV1, AV.one, partCells, okW, onlyFr, app, sliceCells, cellsAt, srcA, subA, eqFs, Int.cast_ofNat_Int, simprocAttr, e1, e2]
  by_cases h3 : 4000 < n
  · have e2 : cntA r n = .tup [.int .i64 0, .int .i64 2] := by rw [cntA, if_neg h1, if_pos (.inr h3)]
    simp (maxSteps := 4000000) (disch := omega) only [abv, step, stepv, ev, wl, wn, wp, wz, aop, cV, cV1, AV.one, partCells, okW, onlyFr, app, sliceCells, cellsAt, srcA, subA, eqFs, Int.cast_ofNat_Int, simprocAttr, e1, e2]
  have e2 : cntA r n = if 1000 < (n + longN r - 1) / longN r then .tup [.int .i64 0, .int .i64 4] else .tup [.int .i64 ((n + longN r - 1) / longN r), .int .i64 0] := by
    rw [cntA, if_neg h1, if_neg (by omega)]
  generalize longN r = L at *
  have q0 : (n + L - 1).tdiv L = (n + L - 1) / L := Int.tdiv_eq_ediv_of_nonneg (by omega)
  have q1 : 0 ≤ (n + L - 1) / L := Int.ediv_nonneg (by omega) (by omega)
  have q2 : (n + L - 1) / L ≤ n + L - 1 := Int.ediv_le_self _ (by omega)
  generalize hq : (n + L - 1) / L = Q at *
  by_cases h4 : 1000 < Q
  · rw [if_pos h4] at e2
    simp (maxSteps := 4000000) (disch := omega) only [abv, step, stepv, ev, wl, wn, wp, wz, aop, cV, cV1, AV.one, partCells, okW, onlyFr, app, sliceCells, cellsAt, srcA, subA, eqFs, Int.cast_ofNat_Int, simprocAttr, e1, q0, hq, e2]
  · rw [if_neg h4] at e2
    simp (maxSteps := 4000000) (disch := omega) only [abv, step, stepv, ev, wl, wn, wp, wz, aop, cV, cV1, AV.one, partCells, okW, onlyFr, app, sliceCells, cellsAt, srcA, subA, eqFs, Int.cast_ofNat_Int, simprocAttr, e1, q0, hq, e2]

def S_Shape24 (P : Prg) (f : Nat) : Prop := ∀ (c x r : Int) (l : List Int), VC P f [.agg [.int .i64 c, .int .i64 x, .int .i64 r, il l]] (shA c x)
theorem clip_shape {P : Prg} {f t0 t1 : Nat} (b : Body P f 8 [.cell 2 t1] (ac_clip_shape t0 t1)) (ht : aggO P t1 = some (some 2)) : S_Shape24 P f := by
  intro c x r l
  refine VC.of_acall (by simp [isDL, isD, isD_il]) rfl (ACall.of_body b (by simp) ?_)
  simp (maxSteps := 4000000) (disch := omega) only [abv, step, stepv, ev, wl, wn, wp, wz, aop, cV, cV1, AV.one, partCells, okW, onlyFr, app, sliceCells, cellsAt, srcA, subA, eqFs, Int.cast_ofNat_Int, simprocAttr, ac_clip_shape, il, resA, ht, shA]
theorem ref24_Shape {P : Prg} {f t0 t1 : Nat} (b : Body P f 8 [.cell 2 t1] (ac_cadenzaref24_Shape t0 t1)) (ht : aggO P t1 = some (some 2)) : S_Shape24 P f := by
  intro c x r l
  refine VC.of_acall (by simp [isDL, isD, isD_il]) rfl (ACall.of_body b (by simp) ?_)
  simp (maxSteps := 4000000) (disch := omega) only [abv, step, stepv, ev, wl, wn, wp, wz, aop, cV, cV1, AV.one, partCells, okW, onlyFr, app, sliceCells, cellsAt, srcA, subA, eqFs, Int.cast_ofNat_Int, simprocAttr, ac_cadenzaref24_Shape, il, resA, ht, shA]

def cntE (r n : Int) : Int := if r < 1 ∨ 1048576 < r then 2 else if n < 1 ∨ 4000 < n then 2 else if 1000 < (n + longN r - 1) / longN r then 4 else 0
theorem cnt_form (r n : Int) : ∃ k : Int, cntA r n = .tup [.int .i64 k, .int .i64 (cntE r n)] := by
  unfold cntA cntE
  split
  · exact ⟨_, rfl⟩
  split
  · exact ⟨_, rfl⟩
  split
  · exact ⟨_, rfl⟩
  · exact ⟨_, rfl⟩
def headN (c x r n : Int) : Int := if eCheck c x ≠ 0 then 8 else if n < 1 then 8 else if 4000 / c < n then 8 else if cntE r n ≠ 0 then 8 else 0
def S_CHead (P : Prg) (f : Nat) : Prop := ∀ (c x r n : Int) (l : List Int), VC P f [.agg [.int .i64 c, .int .i64 x, .int .i64 r, il l], .int .i64 n] (.int .i64 (headN c x r n))
theorem clip_head {P : Prg} {f fS fE fC t0 : Nat} (b : Body P f 31 [.tmp 4] (ac_clip_head fS fE fC t0)) (hS : S_Shape24 P fS) (hE : S_ECheck P fE) (hC : S_Count22 P fC) : S_CHead P f := by
  intro c x r n l
  refine VC.of_acall (by simp [isDL, isD, isD_il]) rfl (ACall.of_body b (by simp) ?_)
  have hS' := hS c x r l
  have hE' := hE c x
  rw [shA] at hS' hE'
  rw [il] at hS'
  obtain ⟨k, ek⟩ := cnt_form r n
  have hC' := hC r n
  rw [ek] at hC'
  simp (maxSteps := 4000000) (disch := omega) only [abv, step, stepv, ev, wl, wn, wp, wz, aop, cV, cV1, AV.one, partCells, okW, onlyFr, app, sliceCells, cellsAt, srcA, subA, eqFs, Int.cast_ofNat_Int, simprocAttr, ac_clip_head, il]
  refine callQ.vc hS' ?_
  simp (maxSteps := 4000000) (disch := omega) only [abv, step, stepv, ev, wl, wn, wp, wz, aop, cV, cV1, AV.one, partCells, okW, onlyFr, app, sliceCells, cellsAt, srcA, subA, eqFs, Int.cast_ofNat_Int, simprocAttr]
  refine callQ.vc hE' ?_
  rcases eCheck_cases c x with h1 | ⟨h1, h2, h3, h4⟩
  · have e9 : headN c x r n = 8 := by simp [headN, h1]
    simp (maxSteps := 4000000) (disch := omega) only [abv, step, stepv, ev, wl, wn, wp, wz, aop, cV, cV1, AV.one, partCells, okW, onlyFr, app, sliceCells, cellsAt, srcA, subA, eqFs, Int.cast_ofNat_Int, simprocAttr, h1, e9]
  have q0 : (4000 : Int).tdiv c = 4000 / c := Int.tdiv_eq_ediv_of_nonneg (by omega)
  have q1 : 0 ≤ (4000 : Int) / c := Int.ediv_nonneg (by omega) (by omega)
  have q2 : (4000 : Int) / c ≤ 4000 := Int.ediv_le_self _ (by omega)
  by_cases h5 : n < 1
  · have e9 : headN c x r n = 8 := by simp [headN, h5]
    simp (maxSteps := 4000000) (disch := omega) only [abv, step, stepv, ev, wl, wn, wp, wz, aop, cV, cV1, AV.one, partCells, okW, onlyFr, app, sliceCells, cellsAt, srcA, subA, eqFs, Int.cast_ofNat_Int, simprocAttr, h1, e9]
  by_cases h6 : 4000 / c < n
  · have e9 : headN c x r n = 8 := by simp [headN, h6]
    simp (maxSteps := 4000000) (disch := omega) only [abv, step, stepv, ev, wl, wn, wp, wz, aop, cV, cV1, AV.one, partCells, okW, onlyFr, app, sliceCells, cellsAt, srcA, subA, eqFs, Int.cast_ofNat_Int, simprocAttr, h1, e9, q0]
  simp (maxSteps := 4000000) (disch := omega) only [abv, step, stepv, ev, wl, wn, wp, wz, aop, cV, cV1, AV.one, partCells, okW, onlyFr, app, sliceCells, cellsAt, srcA, subA, eqFs, Int.cast_ofNat_Int, simprocAttr, h1, q0]
  refine callQ.vc hC' ?_
  by_cases h7 : cntE r n = 0
  · have e9 : headN c x r n = 0 := by simp [headN, h1, h5, h6, h7]
    simp (maxSteps := 4000000) (disch := omega) only [abv, step, stepv, ev, wl, wn, wp, wz, aop, cV, cV1, AV.one, partCells, okW, onlyFr, app, sliceCells, cellsAt, srcA, subA, eqFs, Int.cast_ofNat_Int, simprocAttr, h7, e9]
  · have e9 : headN c x r n = 8 := by simp [headN, h7]
    simp (maxSteps := 4000000) (disch := omega) only [abv, step, stepv, ev, wl, wn, wp, wz, aop, cV, cV1, AV.one, partCells, okW, onlyFr, app, sliceCells, cellsAt, srcA, subA, eqFs, Int.cast_ofNat_Int, simprocAttr, h7, e9]

theorem head_cases (c x r n : Int) : headN c x r n = 8 ∨ headN c x r n = 0 := by
  unfold headN; split <;> (try split) <;> (try split) <;> (try split) <;> simp
def ask21 (c x n : Int) : Int := if eCheck c x ≠ 0 then 2 else if n < 1 then 2 else if 4000 / c < n then 2 else 0
def S_Ask21 (P : Prg) (f : Nat) : Prop := ∀ c x n : Int, VC P f [shA c x, .int .i64 n] (.int .i64 (ask21 c x n))
theorem ref21_Asked {P : Prg} {f fE t0 : Nat} (b : Body P f 19 [.tmp 4] (ac_cadenzaref21_Asked fE t0)) (hE : S_ECheck P fE) : S_Ask21 P f := by
  intro c x n
  refine VC.of_acall (by simp [isDL, isD, shA]) rfl (ACall.of_body b (by simp) ?_)
  have hE' := hE c x
  rw [shA] at hE'
  simp (maxSteps := 4000000) (disch := omega) only [abv, step, stepv, ev, wl, wn, wp, wz, aop, cV, cV1, AV.one, partCells, okW, onlyFr, app, sliceCells, cellsAt, srcA, subA, eqFs, Int.cast_ofNat_Int, simprocAttr, ac_cadenzaref21_Asked, shA]
  refine callQ.vc hE' ?_
  rcases eCheck_cases c x with h1 | ⟨h1, h2, h3, h4⟩
  · have e9 : ask21 c x n = 2 := by simp [ask21, h1]
    simp (maxSteps := 4000000) (disch := omega) only [abv, step, stepv, ev, wl, wn, wp, wz, aop, cV, cV1, AV.one, partCells, okW, onlyFr, app, sliceCells, cellsAt, srcA, subA, eqFs, Int.cast_ofNat_Int, simprocAttr, h1, e9]
  have q0 : (4000 : Int).tdiv c = 4000 / c := Int.tdiv_eq_ediv_of_nonneg (by omega)
  have q1 : 0 ≤ (4000 : Int) / c := Int.ediv_nonneg (by omega) (by omega)
  have q2 : (4000 : Int) / c ≤ 4000 := Int.ediv_le_self _ (by omega)
  by_cases h5 : n < 1
  · have e9 : ask21 c x n = 2 := by simp [ask21, h5]
    simp (maxSteps := 4000000) (disch := omega) only [abv, step, stepv, ev, wl, wn, wp, wz, aop, cV, cV1, AV.one, partCells, okW, onlyFr, app, sliceCells, cellsAt, srcA, subA, eqFs, Int.cast_ofNat_Int, simprocAttr, h1, e9]
  by_cases h6 : 4000 / c < n
  · have e9 : ask21 c x n = 2 := by simp [ask21, h6]
    simp (maxSteps := 4000000) (disch := omega) only [abv, step, stepv, ev, wl, wn, wp, wz, aop, cV, cV1, AV.one, partCells, okW, onlyFr, app, sliceCells, cellsAt, srcA, subA, eqFs, Int.cast_ofNat_Int, simprocAttr, h1, e9, q0]
  · have e9 : ask21 c x n = 0 := by simp [ask21, h1, h5, h6]
    simp (maxSteps := 4000000) (disch := omega) only [abv, step, stepv, ev, wl, wn, wp, wz, aop, cV, cV1, AV.one, partCells, okW, onlyFr, app, sliceCells, cellsAt, srcA, subA, eqFs, Int.cast_ofNat_Int, simprocAttr, h1, e9, q0]
end Go.Am

namespace Go.Am
open Go.RowKit

def lensL (L n : Nat) : List Int := List.replicate ((n - 1) / L) (L : Int) ++ [(n : Int) - ((n - 1) / L * L : Nat)]
theorem lensL_len (L n : Nat) : (lensL L n).length = (n - 1) / L + 1 := by simp [lensL]
theorem rep_snoc (k : Nat) (a : Int) : List.replicate k a ++ [a] = List.replicate (k + 1) a := by rw [List.replicate_succ']
def i64L (l : List Int) : AV := .list l.length (ks .i64 l)
theorem isD_i64L (l : List Int) : isD (i64L l) = true := by simp [i64L, isD, isDL_ks]
def allA (r n : Int) : AV := if r < 1 ∨ 1048576 < r ∨ n < 1 ∨ 4000 < n then .tup [.list 0 [], .int .i64 2] else if 1000 < (lensL (longN r).toNat n.toNat).length then .tup [.list 0 [], .int .i64 4] else .tup [i64L (lensL (longN r).toNat n.toNat), .int .i64 0]
theorem isD_all (r n : Int) : isD (allA r n) = true := by unfold allA; split <;> (try split) <;> simp [isD, isDL, isD_i64L]
def S_All22 (P : Prg) (f : Nat) : Prop := ∀ r n : Int, VC P f [.int .i64 r, .int .i64 n] (allA r n)

theorem ref22_All {P : Prg} {f fL t0 : Nat} (b : Body P f 41 [.tmp 4, .tmp 5] (ac_cadenzaref22_All fL t0)) (hL : S_Long22 P fL) : S_All22 P f := by
  intro r n
  refine VC.of_walk 1 rfl (isD_all _ _) (ACall.of_body b (by simp) ?_)
  have hL' := hL r
  by_cases h1 : r < 1 ∨ 1048576 < r
  · have e1 : longA r = .tup [.int .i64 0, .int .i64 2] := by rw [longA, if_pos h1]
    have e2 : allA r n = .tup [.list 0 [], .int .i64 2] := by rw [allA, if_pos (by omega)]
    simp (maxSteps := 4000000) (disch := omega) only [abv, step, stepv, ev, wl, wn, wp, wz, aop, cV, cV1, AV.one, partCells, okW, onlyFr, app, sliceCells, cellsAt, srcA, subA, eqFs, Int.cast_ofNat_Int, simprocAttr, ac_cadenzaref22_All]
    refine callQ.vc hL' ?_
    simp (maxSteps := 4000000) (disch := omega) only [abv, step, stepv, ev, wl, wn, wp, wz, aop, cV, cV1, AV.one, partCells, okW, onlyFr, app, sliceCells, cellsAt, srcA, subA, eqFs, Int.cast_ofNat_Int, simprocAttr, e1, e2]
    simp [frzN, frzK, frzL, frzV, isDL, isD]
  have e1 : longA r = .tup [.int .i64 (longN r), .int .i64 0] := by rw [longA, if_neg h1]
  rw [e1] at hL'
  have p1 := longN_pos r
  have p2 := longN_le (r := r) (by omega)
  by_cases h2 : n < 1
  · have e2 : allA r n = .tup [.list 0 [], .int .i64 2] := by rw [allA, if_pos (by omega)]
    simp (maxSteps := 4000000) (disch := omega) only [abv, step, stepv, ev, wl, wn, wp, wz, aop, cV, cV1, AV.one, partCells, okW, onlyFr, app, sliceCells, cellsAt, srcA, subA, eqFs, Int.cast_ofNat_Int, simprocAttr, ac_cadenzaref22_All]
    refine callQ.vc hL' ?_
    simp (maxSteps := 4000000) (disch := omega) only [abv, step, stepv, ev, wl, wn, wp, wz, aop, cV, cV1, AV.one, partCells, okW, onlyFr, app, sliceCells, cellsAt, srcA, subA, eqFs, Int.cast_ofNat_Int, simprocAttr, e2]
    simp [frzN, frzK, frzL, frzV, isDL, isD]
  by_cases h3 : 4000 < n
  · have e2 : allA r n = .tup [.list 0 [], .int .i64 2] := by rw [allA, if_pos (by omega)]
    simp (maxSteps := 4000000) (disch := omega) only [abv, step, stepv, ev, wl, wn, wp, wz, aop, cV, cV1, AV.one, partCells, okW, onlyFr, app, sliceCells, cellsAt, srcA, subA, eqFs, Int.cast_ofNat_Int, simprocAttr, ac_cadenzaref22_All]
    refine callQ.vc hL' ?_
    simp (maxSteps := 4000000) (disch := omega) only [abv, step, stepv, ev, wl, wn, wp, wz, aop, cV, cV1, AV.one, partCells, okW, onlyFr, app, sliceCells, cellsAt, srcA, subA, eqFs, Int.cast_ofNat_Int, simprocAttr, e2]
    simp [frzN, frzK, frzL, frzV, isDL, isD]
  have e2 : allA r n = if 1000 < (lensL (longN r).toNat n.toNat).length then .tup [.list 0 [], .int .i64 4] else .tup [i64L (lensL (longN r).toNat n.toNat), .int .i64 0] := by rw [allA, if_neg (by omega)]
  generalize longN r = Li at *
  obtain ⟨L, rfl⟩ : ∃ L : Nat, Li = L := ⟨Li.toNat, by omega⟩
  obtain ⟨m, rfl⟩ : ∃ m : Nat, n = m := ⟨n.toNat, by omega⟩
  simp only [Int.toNat_natCast] at e2
  have g1 : (m - 1) / L * L ≤ m - 1 := Nat.div_mul_le_self _ _
  have g2 : m - 1 < ((m - 1) / L + 1) * L := by
    have := Nat.lt_div_mul_add (a := m - 1) (b := L) (by omega)
    rw [Nat.add_mul, Nat.one_mul]; omega
  rw [Nat.add_mul, Nat.one_mul] at g2
  have g3 : (m - 1) / L ≤ m - 1 := Nat.div_le_self _ _
  have ll := lensL_len L m
  have lf : lensL L m = List.replicate ((m - 1) / L) (L : Int) ++ [(m : Int) - ((m - 1) / L * L : Nat)] := rfl
  generalize hq : (m - 1) / L = q at *
  simp (maxSteps := 4000000) (disch := omega) only [abv, step, stepv, ev, wl, wn, wp, wz, aop, cV, cV1, AV.one, partCells, okW, onlyFr, app, sliceCells, cellsAt, srcA, subA, eqFs, Int.cast_ofNat_Int, simprocAttr, ac_cadenzaref22_All]
  refine callQ.vc hL' ?_
  simp (maxSteps := 4000000) (disch := omega) only [abv, step, stepv, ev, wl, wn, wp, wz, aop, cV, cV1, AV.one, partCells, okW, onlyFr, app, sliceCells, cellsAt, srcA, subA, eqFs, Int.cast_ofNat_Int, simprocAttr]
  refine ALoop.by (ι := Option Nat) (fun i => match i with
      | some k => ⟨[(1, .int .i64 ((m : Int) - (k * L : Nat))), (8, .own 0 k), (6, .int .i64 L)], [⟨t0, 1, k, ks .i64 (List.replicate k (L : Int)), 0⟩]⟩
      | none => ⟨[(1, .int .i64 0), (8, .own 0 (q + 1)), (6, .int .i64 L)], [⟨t0, 1, q + 1, ks .i64 (lensL L m), 0⟩]⟩)
    (fun i => match i with | some k => k ≤ q | none => True) (fun i => match i with | some k => q - k + 1 | none => 0) (some 0)
    (by simp only [Nat.zero_mul]; exact Le.trans (Le.virt 8 t0 1 (by omega) rfl) (Le.slots (by simp [Am.look]))) (by simp) ?_
  intro i hi
  cases i with
  | some k =>
    simp only at hi
    have g4 : k * L ≤ q * L := Nat.mul_le_mul_right L hi
    have lr : (List.replicate k (L : Int)).length = k := by simp
    by_cases hk : k < q
    · have g5 : (k + 1) * L ≤ q * L := Nat.mul_le_mul_right L (by omega)
      rw [Nat.add_mul, Nat.one_mul] at g5
      simp (maxSteps := 4000000) (disch := omega) only [abv, step, stepv, ev, wl, wn, wp, wz, aop, cV, cV1, AV.one, partCells, okW, onlyFr, app, sliceCells, cellsAt, srcA, subA, eqFs, Int.cast_ofNat_Int, simprocAttr, ks_snoc, rep_snoc, lr]
      refine ⟨some (k + 1), by simp only; omega, by simp only; omega, ?_⟩
      exact Le.drop1 (isTL_ks _ _) (by simp [Am.look, frzK, frzL, frzV, Nat.add_mul]; omega)
    · have : k = q := by omega
      subst this
      simp (maxSteps := 4000000) (disch := omega) only [abv, step, stepv, ev, wl, wn, wp, wz, aop, cV, cV1, AV.one, partCells, okW, onlyFr, app, sliceCells, cellsAt, srcA, subA, eqFs, Int.cast_ofNat_Int, simprocAttr, ks_snoc, lr, ← lf]
      refine ⟨none, trivial, by simp only; omega, ?_⟩
      exact Le.drop1 (isTL_ks _ _) (by simp [Am.look, frzK, frzL, frzV])
  | none =>
    by_cases h9 : 1000 < (lensL L m).length
    · rw [if_pos h9] at e2
      simp (maxSteps := 4000000) (disch := omega) only [abv, step, stepv, ev, wl, wn, wp, wz, aop, cV, cV1, AV.one, partCells, okW, onlyFr, app, sliceCells, cellsAt, srcA, subA, eqFs, Int.cast_ofNat_Int, simprocAttr, e2]
      simp [frzN, frzK, frzL, frzV, isDL, isD]
    · rw [if_neg h9] at e2
      simp (maxSteps := 4000000) (disch := omega) only [abv, step, stepv, ev, wl, wn, wp, wz, aop, cV, cV1, AV.one, partCells, okW, onlyFr, app, sliceCells, cellsAt, srcA, subA, eqFs, Int.cast_ofNat_Int, simprocAttr, e2]
      simp [frzN, frzK, frzL, frzV, isDL, isD, i64L, ll, frzL_T _ (isTL_ks .i64 _)]
end Go.Am

namespace Go.Am
open Go.RowKit

theorem all_cnt (r n : Int) : (∃ k : Int, allA r n = .tup [.list 0 [], .int .i64 k] ∧ cntA r n = .tup [.int .i64 0, .int .i64 k]) ∨
    (∃ l : List Int, allA r n = .tup [i64L l, .int .i64 0] ∧ cntA r n = .tup [.int .i64 l.length, .int .i64 0]) := by
  by_cases h1 : r < 1 ∨ 1048576 < r
  · exact .inl ⟨2, by rw [allA, if_pos (by omega)], by rw [cntA, if_pos h1]⟩
  by_cases h2 : n < 1 ∨ 4000 < n
  · exact .inl ⟨2, by rw [allA, if_pos (by omega)], by rw [cntA, if_neg h1, if_pos h2]⟩
  have p1 := longN_pos r
  have e : (n + longN r - 1) / longN r = (lensL (longN r).toNat n.toNat).length := by
    generalize longN r = Li at *
    obtain ⟨L, rfl⟩ : ∃ L : Nat, Li = L := ⟨Li.toNat, by omega⟩
    obtain ⟨m, rfl⟩ : ∃ m : Nat, n = m := ⟨n.toNat, by omega⟩
    rw [Int.toNat_natCast, Int.toNat_natCast, lensL_len]
    have : (m : Int) + L - 1 = ((m - 1 + L : Nat) : Int) := by omega
    rw [this, ← Int.natCast_ediv, Nat.add_div_right _ (by omega)]
  by_cases h3 : 1000 < (lensL (longN r).toNat n.toNat).length
  · exact .inl ⟨4, by rw [allA, if_neg (by omega), if_pos h3], by rw [cntA, if_neg h1, if_neg h2, e, if_pos (by omega)]⟩
  · exact .inr ⟨_, by rw [allA, if_neg (by omega), if_neg h3], by rw [cntA, if_neg h1, if_neg h2, e, if_neg (by omega)]⟩

theorem ref22_Count {P : Prg} {f fA : Nat} (b : Body P f 17 [.tmp 4, .tmp 5] (ac_cadenzaref22_Count fA)) (hA : S_All22 P fA) : S_Count22 P f := by
  intro r n
  refine VC.of_acall rfl (isD_cnt _ _) (ACall.of_body b (by simp) ?_)
  have hA' := hA r n
  rcases all_cnt r n with ⟨k, e1, e2⟩ | ⟨l, e1, e2⟩
  · rw [e1] at hA'
    simp (maxSteps := 4000000) (disch := omega) only [abv, step, stepv, ev, wl, wn, wp, wz, aop, cV, cV1, AV.one, partCells, okW, onlyFr, app, sliceCells, cellsAt, srcA, subA, eqFs, Int.cast_ofNat_Int, simprocAttr, ac_cadenzaref22_Count]
    refine callQ.vc hA' ?_
    simp (maxSteps := 4000000) (disch := omega) only [abv, step, stepv, ev, wl, wn, wp, wz, aop, cV, cV1, AV.one, partCells, okW, onlyFr, app, sliceCells, cellsAt, srcA, subA, eqFs, Int.cast_ofNat_Int, simprocAttr, e2, List.length_nil]
    try simp
  · rw [e1] at hA'
    simp (maxSteps := 4000000) (disch := omega) only [abv, step, stepv, ev, wl, wn, wp, wz, aop, cV, cV1, AV.one, partCells, okW, onlyFr, app, sliceCells, cellsAt, srcA, subA, eqFs, Int.cast_ofNat_Int, simprocAttr, ac_cadenzaref22_Count]
    refine callQ.vc hA' ?_
    simp (maxSteps := 4000000) (disch := omega) only [abv, step, stepv, ev, wl, wn, wp, wz, aop, cV, cV1, AV.one, partCells, okW, onlyFr, app, sliceCells, cellsAt, srcA, subA, eqFs, Int.cast_ofNat_Int, simprocAttr, i64L, e2]
end Go.Am

namespace Go.Am
open Go.RowKit

theorem head_eq (c x r n : Int) : headN c x r n = if ask21 c x n = 0 ∧ cntE r n = 0 then 0 else 8 := by
  unfold headN ask21
  by_cases h1 : eCheck c x = 0 <;> by_cases h2 : n < 1 <;> by_cases h3 : 4000 / c < n <;> by_cases h4 : cntE r n = 0 <;> simp [h1, h2, h3, h4]
def S_RHead24 (P : Prg) (f : Nat) : Prop := ∀ (c x r n : Int) (l : List Int), VC P f [.agg [.int .i64 c, .int .i64 x, .int .i64 r, il l], .int .i64 n] (.bool (decide (headN c x r n = 0)))
theorem ref24_Head {P : Prg} {f fS fA fC t0 : Nat} (b : Body P f 21 [.tmp 4] (ac_cadenzaref24_Head fS fA fC t0)) (hS : S_Shape24 P fS) (hA : S_Ask21 P fA) (hC : S_Count22 P fC) : S_RHead24 P f := by
  intro c x r n l
  refine VC.of_acall (by simp [isDL, isD, isD_il]) rfl (ACall.of_body b (by simp) ?_)
  have hS' := hS c x r l
  have hA' := hA c x n
  rw [shA] at hS' hA'
  rw [il] at hS'
  obtain ⟨k, ek⟩ := cnt_form r n
  have hC' := hC r n
  rw [ek] at hC'
  simp (maxSteps := 4000000) (disch := omega) only [abv, step, stepv, ev, wl, wn, wp, wz, aop, cV, cV1, AV.one, partCells, okW, onlyFr, app, sliceCells, cellsAt, srcA, subA, eqFs, Int.cast_ofNat_Int, simprocAttr, ac_cadenzaref24_Head, il]
  refine callQ.vc hS' ?_
  simp (maxSteps := 4000000) (disch := omega) only [abv, step, stepv, ev, wl, wn, wp, wz, aop, cV, cV1, AV.one, partCells, okW, onlyFr, app, sliceCells, cellsAt, srcA, subA, eqFs, Int.cast_ofNat_Int, simprocAttr]
  refine callQ.vc hA' ?_
  by_cases h1 : ask21 c x n = 0
  · simp (maxSteps := 4000000) (disch := omega) only [abv, step, stepv, ev, wl, wn, wp, wz, aop, cV, cV1, AV.one, partCells, okW, onlyFr, app, sliceCells, cellsAt, srcA, subA, eqFs, Int.cast_ofNat_Int, simprocAttr, h1]
    refine callQ.vc hC' ?_
    by_cases h7 : cntE r n = 0
    · have e9 : headN c x r n = 0 := by rw [head_eq, if_pos ⟨h1, h7⟩]
      simp (maxSteps := 4000000) (disch := omega) only [abv, step, stepv, ev, wl, wn, wp, wz, aop, cV, cV1, AV.one, partCells, okW, onlyFr, app, sliceCells, cellsAt, srcA, subA, eqFs, Int.cast_ofNat_Int, simprocAttr, h7, e9]
      try simp
    · have e9 : headN c x r n = 8 := by rw [head_eq, if_neg (by simp [h7])]
      simp (maxSteps := 4000000) (disch := omega) only [abv, step, stepv, ev, wl, wn, wp, wz, aop, cV, cV1, AV.one, partCells, okW, onlyFr, app, sliceCells, cellsAt, srcA, subA, eqFs, Int.cast_ofNat_Int, simprocAttr, e9]
      try simp [h7]
  · have e9 : headN c x r n = 8 := by rw [head_eq, if_neg (by simp [h1])]
    simp (maxSteps := 4000000) (disch := omega) only [abv, step, stepv, ev, wl, wn, wp, wz, aop, cV, cV1, AV.one, partCells, okW, onlyFr, app, sliceCells, cellsAt, srcA, subA, eqFs, Int.cast_ofNat_Int, simprocAttr, h1, e9]
    try simp

end Go.Am

namespace Go.Am
open Go.RowKit

def clA (c x r : Int) (l : List Int) : AV := .agg [.int .i64 c, .int .i64 x, .int .i64 r, il l]
def S_With24 (P : Prg) (f : Nat) : Prop := ∀ (c x r : Int) (l m : List Int), VC P f [clA c x r l, il m] (clA c x r m)
theorem ref24_With {P : Prg} {f t0 : Nat} (b : Body P f 13 [.cell 4 t0] (ac_cadenzaref24_With t0)) (ht : aggO P t0 = some (some 4)) : S_With24 P f := by
  intro c x r l m
  refine VC.of_acall (by simp [isDL, isD, isD_il, clA]) (by simp [isDL, isD, isD_il, clA]) (ACall.of_body b (by simp) ?_)
  simp (maxSteps := 4000000) (disch := omega) only [abv, step, stepv, ev, wl, wn, wp, wz, aop, cV, cV1, AV.one, partCells, okW, onlyFr, app, sliceCells, cellsAt, srcA, subA, eqFs, Int.cast_ofNat_Int, simprocAttr, ac_cadenzaref24_With, clA, il, resA, ht]

def S_CSame (P : Prg) (f : Nat) : Prop := ∀ (c x r : Int) (l : List Int), l.length ≤ 100000000 → VC P f [clA c x r l, clA c x r l] (.bool true)
theorem ref24_Same {P : Prg} {f fS t0 : Nat} (b : Body P f 31 [.tmp 4] (ac_cadenzaref24_Same fS t0)) (hS : S_ISame P fS) : S_CSame P f := by
  intro c x r l hl
  refine VC.of_acall (by simp [isDL, isD, isD_il, clA]) rfl (ACall.of_body b (by simp) ?_)
  have hS' := hS l hl
  rw [il] at hS'
  simp (maxSteps := 4000000) (disch := omega) only [abv, step, stepv, ev, wl, wn, wp, wz, aop, cV, cV1, AV.one, partCells, okW, onlyFr, app, sliceCells, cellsAt, srcA, subA, eqFs, Int.cast_ofNat_Int, simprocAttr, ac_cadenzaref24_Same, clA, il]
  refine callQ.vc hS' ?_
  simp (maxSteps := 4000000) (disch := omega) only [abv, step, stepv, ev, wl, wn, wp, wz, aop, cV, cV1, AV.one, partCells, okW, onlyFr, app, sliceCells, cellsAt, srcA, subA, eqFs, Int.cast_ofNat_Int, simprocAttr]

end Go.Am

namespace Go.Am
open Go.RowKit

/-! ### le.Bytes -/

def leB (n : Nat) : Nat → List UInt8
  | 0 => []
  | k + 1 => UInt8.ofNat (n % 256) :: leB (n / 256) k

theorem leB_length : ∀ (k n : Nat), (leB n k).length = k
  | 0, _ => rfl
  | k + 1, n => by simp [leB, leB_length k]

theorem leB_get : ∀ (k n i : Nat) (h : i < k), (leB n k)[i]? = some (UInt8.ofNat (n / 256 ^ i % 256))
  | k + 1, n, 0, _ => by simp [leB]
  | k + 1, n, i + 1, h => by
    simp only [leB, List.getElem?_cons_succ]
    rw [leB_get k (n / 256) i (by omega), Nat.div_div_eq_div_mul, Nat.pow_succ, Nat.mul_comm]

theorem leB_take_succ {n k i : Nat} (h : i < k) : (leB n k).take (i + 1) = (leB n k).take i ++ [UInt8.ofNat (n / 256 ^ i % 256)] := by
  rw [List.take_add_one, leB_get k n i h]
  rfl

end Go.Am

namespace Go.Am
open Go.RowKit

/-! ### The chunk that tells the form: without a program -/

def sndOk (c b r : Int) : Prop := 1 ≤ c ∧ c ≤ 6 ∧ half b ≠ 0 ∧ 1 ≤ r ∧ r ≤ 1048576
instance (c b r : Int) : Decidable (sndOk c b r) := by unfold sndOk; exact inferInstance
/-! ### Check, Wide -/

end Go.Am

namespace Go.Am
open Go.RowKit

theorem leN_leB2 : ∀ (k n : Nat), n < 256 ^ k → leN (leB n k) = n
  | 0, n, h => by simp at h; subst h; rfl
  | k + 1, n, h => by
    have h1 : n / 256 < 256 ^ k := by rw [Nat.pow_succ] at h; exact Nat.div_lt_of_lt_mul (by omega)
    have h2 : (UInt8.ofNat (n % 256)).toNat = n % 256 := by simp
    simp only [leB, leN, leN_leB2 k _ h1, h2]
    omega

end Go.Am

namespace Go.Am
open Go.RowKit

/-! ### Numbers: bit by bit -/

theorem bv_ofInt {w n : Nat} (h : n < 2 ^ w) : BitVec.ofInt w (n : Int) = BitVec.ofNat w n := by
  apply BitVec.eq_of_toNat_eq
  rw [BitVec.toNat_ofInt, BitVec.toNat_ofNat]
  omega

theorem wrap_nat {K : IntKind} (hs : K.signed = false) {n : Nat} (h : n < 2 ^ K.bits) : K.wrap (n : Int) = n := by
  have h1 : (n : Int) % 2 ^ K.bits = n := by
    rw [Int.emod_eq_of_lt (by omega)]
    exact_mod_cast h
  unfold IntKind.wrap
  simp [hs, h1]

theorem xorK {K : IntKind} (hs : K.signed = false) {a b : Nat} (ha : a < 2 ^ K.bits) (hb : b < 2 ^ K.bits) : K.wrap (BitVec.ofInt K.bits (a : Int) ^^^ BitVec.ofInt K.bits (b : Int)).toNat = ((a ^^^ b : Nat) : Int) := by
  rw [bv_ofInt ha, bv_ofInt hb, BitVec.toNat_xor, BitVec.toNat_ofNat, BitVec.toNat_ofNat, Nat.mod_eq_of_lt ha, Nat.mod_eq_of_lt hb]
  exact wrap_nat hs (Nat.xor_lt_two_pow ha hb)
theorem andK {K : IntKind} (hs : K.signed = false) {a b : Nat} (ha : a < 2 ^ K.bits) (hb : b < 2 ^ K.bits) : K.wrap (BitVec.ofInt K.bits (a : Int) &&& BitVec.ofInt K.bits (b : Int)).toNat = ((a &&& b : Nat) : Int) := by
  rw [bv_ofInt ha, bv_ofInt hb, BitVec.toNat_and, BitVec.toNat_ofNat, BitVec.toNat_ofNat, Nat.mod_eq_of_lt ha, Nat.mod_eq_of_lt hb]
  exact wrap_nat hs (Nat.and_lt_two_pow _ hb)
theorem orK {K : IntKind} (hs : K.signed = false) {a b : Nat} (ha : a < 2 ^ K.bits) (hb : b < 2 ^ K.bits) : K.wrap (BitVec.ofInt K.bits (a : Int) ||| BitVec.ofInt K.bits (b : Int)).toNat = ((a ||| b : Nat) : Int) := by
  rw [bv_ofInt ha, bv_ofInt hb, BitVec.toNat_or, BitVec.toNat_ofNat, BitVec.toNat_ofNat, Nat.mod_eq_of_lt ha, Nat.mod_eq_of_lt hb]
  exact wrap_nat hs (Nat.or_lt_two_pow ha hb)

theorem shrK {K : IntKind} {n k : Nat} (hk : k ≤ K.bits) : shiftA false K (n : Int) (k : Int) = some (.int K ((n / 2 ^ k : Nat) : Int)) := by
  have h3 : ¬ ((k : Int) < 0) := by omega
  have h5 : min k K.bits = k := by omega
  have h6 : (n : Int).fdiv (2 ^ k) = ((n / 2 ^ k : Nat) : Int) := by
    rw [Int.fdiv_eq_ediv_of_nonneg _ (Int.pow_nonneg (by decide))]
    simp [Int.natCast_ediv, Int.natCast_pow]
  simp only [shiftA, if_neg h3, Bool.false_eq_true, if_false, Int.toNat_natCast, h5, h6]

theorem shlK {K : IntKind} (hs : K.signed = false) {c s : Nat} (h : s ≤ K.bits) (h2 : c * 2 ^ s < 2 ^ K.bits) : shiftA true K (c : Int) (s : Int) = some (.int K ((c * 2 ^ s : Nat) : Int)) := by
  have h3 : ¬ ((s : Int) < 0) := by omega
  have h5 : min s K.bits = s := by omega
  have h6 : (c : Int) * 2 ^ s = ((c * 2 ^ s : Nat) : Int) := by simp
  simp only [shiftA, if_neg h3, if_true, Int.toNat_natCast, h5, h6]
  rw [wrap_nat hs h2]

end Go.Am

namespace Go.Am
open Go.RowKit

/-! ### CRC-32 (plain) -/

def crcS (c : Nat) : Nat := (c / 2) ^^^ (if c % 2 = 1 then 3988292384 else 0)
def crcN : Nat → Nat → Nat
  | 0, c => c
  | k + 1, c => crcN k (crcS c)

theorem crcS_lt {c : Nat} (h : c < 4294967296) : crcS c < 4294967296 := by
  unfold crcS
  have : (if c % 2 = 1 then 3988292384 else 0) < 2 ^ 32 := by split <;> decide
  exact Nat.xor_lt_two_pow (n := 32) (by omega) this
theorem crcN_lt : ∀ (k : Nat) {c : Nat}, c < 4294967296 → crcN k c < 4294967296
  | 0, _, h => h
  | k + 1, _, h => crcN_lt k (crcS_lt h)
theorem crcN_succ : ∀ (k c : Nat), crcN (k + 1) c = crcS (crcN k c)
  | 0, _ => rfl
  | k + 1, c => by rw [crcN, crcN_succ k, crcN]

theorem crcS_xor (x h : Nat) : crcS (x ^^^ 2 * h) = crcS x ^^^ h := by
  have e1 : (x ^^^ 2 * h) % 2 = x % 2 := by
    have := Nat.xor_mod_two_pow (a := x) (b := 2 * h) (n := 1)
    simpa using this
  have e2 : (x ^^^ 2 * h) / 2 = x / 2 ^^^ h := by rw [Nat.xor_div_two, Nat.mul_div_cancel_left _ (by omega)]
  unfold crcS
  rw [e1, e2, Nat.xor_assoc, Nat.xor_assoc, Nat.xor_comm h]

theorem crcN_xor : ∀ (k x h : Nat), crcN k (x ^^^ 2 ^ k * h) = crcN k x ^^^ h
  | 0, x, h => by simp [crcN]
  | k + 1, x, h => by
    rw [crcN, Nat.pow_succ, Nat.mul_comm (2 ^ k) 2, Nat.mul_assoc, crcS_xor, crcN_xor k, crcN]

theorem xor_split (b k : Nat) : b = b % 2 ^ k ^^^ 2 ^ k * (b / 2 ^ k) := by
  apply Nat.eq_of_testBit_eq
  intro i
  rw [Nat.testBit_xor, Nat.testBit_mod_two_pow, Nat.testBit_two_pow_mul, Nat.testBit_div_two_pow]
  by_cases h : i < k
  · have : ¬ k ≤ i := by omega
    simp [h, this]
  · have h' : k ≤ i := by omega
    simp [h, h', show i - k + k = i by omega]

theorem crcS_bit (s b : Nat) : crcS (s ^^^ b) = crcS (s ^^^ b % 2) ^^^ (b / 2) := by
  have h : s ^^^ b = (s ^^^ b % 2) ^^^ 2 * (b / 2) := by
    have := xor_split b 1
    rw [Nat.pow_one] at this
    rw [Nat.xor_assoc, ← this]
  rw [h, crcS_xor]

def crcB (s b : Nat) : Nat := crcN 8 (s ^^^ b)
theorem crcB_split (s b : Nat) : crcB s b = s / 256 ^^^ crcN 8 (s % 256 ^^^ b) := by
  have h : s ^^^ b = (s % 256 ^^^ b) ^^^ 2 ^ 8 * (s / 256) := by
    have := xor_split s 8
    rw [show (2 : Nat) ^ 8 = 256 from rfl] at this ⊢
    rw [Nat.xor_assoc, Nat.xor_comm b, ← Nat.xor_assoc, ← this]
  rw [crcB, h, crcN_xor, Nat.xor_comm]
theorem crcB_lt {s b : Nat} (hs : s < 4294967296) (hb : b < 256) : crcB s b < 4294967296 := crcN_lt 8 (Nat.xor_lt_two_pow (n := 32) (by omega) (by omega))

def crcL (s : Nat) (l : List UInt8) : Nat := l.foldl (fun s b => crcB s b.toNat) s
theorem crcL_succ {s : Nat} {l : List UInt8} {k : Nat} (h : k < l.length) : crcL s (l.take (k + 1)) = crcB (crcL s (l.take k)) (l[k]).toNat := by
  rw [List.take_succ_eq_append_getElem h, crcL, List.foldl_append]; rfl
theorem crcL_lt : ∀ {l : List UInt8} {s : Nat}, s < 4294967296 → crcL s l < 4294967296
  | [], _, h => h
  | b :: l, s, h => crcL_lt (l := l) (crcB_lt h (UInt8.toNat_lt b))

end Go.Am
