/- What the functions that the law reaches return, for every program that has their code; the conditions stand in each statement. -/
import Derived.Test.YtjkgohbljmmmdaaDoorWavNamesD1
set_option linter.unusedSectionVars false
set_option linter.unusedSimpArgs false
set_option linter.unusedVariables false
namespace Go.Am
open Go.RowKit

/-- The number of some bytes, the lowest first. -/
def leN : List UInt8 → Nat
  | [] => 0
  | b :: l => b.toNat + 256 * leN l

theorem leN_lt : ∀ l : List UInt8, leN l < 2 ^ (8 * l.length)
  | [] => by simp [leN]
  | b :: l => by
    have h1 := leN_lt l
    have h2 := b.toNat_lt
    have h3 : 2 ^ (8 * (b :: l).length) = 256 * 2 ^ (8 * l.length) := by
      rw [List.length_cons, Nat.mul_add, Nat.pow_add, Nat.mul_comm]
    rw [h3]
    simp only [leN]
    omega

theorem leN_append : ∀ (a b : List UInt8), leN (a ++ b) = leN a + 2 ^ (8 * a.length) * leN b
  | [], b => by simp [leN]
  | x :: a, b => by
    have h3 : 2 ^ (8 * (x :: a).length) = 256 * 2 ^ (8 * a.length) := by
      rw [List.length_cons, Nat.mul_add, Nat.pow_add, Nat.mul_comm]
    rw [h3]
    simp only [List.cons_append, leN, leN_append a b, Nat.mul_add, Nat.mul_assoc]
    omega

theorem leN_lt64 {l : List UInt8} (h : l.length ≤ 8) : leN l < 18446744073709551616 := by
  have h1 := leN_lt l
  have h2 : 2 ^ (8 * l.length) ≤ 2 ^ 64 := Nat.pow_le_pow_right (by omega) (by omega)
  omega

theorem leN_step {l : List UInt8} {k : Nat} (h : k < l.length) : leN (l.take (k + 1)) = leN (l.take k) + l[k].toNat * 2 ^ (8 * k) := by
  rw [List.take_succ_eq_append_getElem h, leN_append]
  simp [leN, Nat.min_eq_left (Nat.le_of_lt h), Nat.mul_comm]

def S_le_Value (P : Prg) (f : Nat) : Prop := ∀ l : List UInt8, 1 ≤ l.length → l.length ≤ 8 → VC P f [bs l] (.tup [.int .u64 (leN l), .int .i64 0])

set_option maxRecDepth 10000 in
theorem le_Value {P : Prg} {f : Nat} (b : Body P f 31 [.tmp 2, .tmp 3] ac_le_Value) : S_le_Value P f := by
  intro l h1 h2
  refine VC.of_acall (by simp [isDL, isD_bs]) rfl (ACall.of_body b (by simp) ?_)
  have d1 : ¬ ((l.length : Int) < 1) := by omega
  have d2 : ¬ ((8 : Int) < l.length) := by omega
  simp only [walk, ev, okW, onlyFr, Bool.false_and, sealw, aop, cV, cV1, List.length_nil, List.length_cons, List.map_nil, List.map_cons, List.cons_append, List.nil_append, ↓reduceIte, Nat.reduceEqDiff, Nat.reduceAdd, Option.map_some, Option.map_none, Option.bind_some, decide_true, decide_false, Bool.false_eq_true, Bool.not_true, Bool.not_false, Int.toNat_natCast, List.getElem?_cons_zero, List.getElem?_cons_succ, Int.natCast_add, Int.cast_ofNat_Int, true_and, and_true, and_self, if_true, if_false, u8_length, Nat.mul_one, Nat.one_mul, Nat.zero_add, Nat.add_zero, List.drop_zero, beq_self_eq_true, Bool.and_self, Bool.and_true, Bool.true_and, AV.one, List.all_cons, List.all_nil, repCells, fillA, partCells, Nat.reduceLT, Nat.reduceLeDiff, Nat.reduceBEq, Nat.reduceMul, Nat.reduceSub, Int.reduceLT, Int.reduceLE, Int.reduceAdd, Int.reduceSub, Int.reduceMul, Int.reduceToNat, List.take_nil, List.drop_nil, List.take_zero, List.append_nil, sliceCells, cellsAt, srcA, app, List.set_cons_zero, List.set_cons_succ, List.length_set, Nat.le_refl, Nat.zero_le, List.take_length, decU8_u8, reduceCtorEq, List.drop_succ_cons, List.take_succ_cons, Int.reduceEq, ac_le_Value, bs, d1, d2]
  refine ALoop.by (ι := Nat) (fun k => ⟨[(17, .int .i64 k), (16, .int .i64 l.length), (15, .list l.length (u8 l)), (4, .int .u64 (leN (l.take k)))], []⟩) (fun k => k ≤ l.length) (fun k => l.length - k) 0 (Le.slots (by simp [Am.look, leN])) (by omega) ?_
  intro k hk
  by_cases hlt : k < l.length
  · have e1 : (k : Int) < l.length := by omega
    have e2 : (0 : Int) ≤ k := by omega
    have e4 := drop_u8 hlt
    have e5 : IntKind.u64.wrap ((l[k].toNat : Nat) : Int) = (l[k].toNat : Nat) := wrap_u64 (by omega) (by have := l[k].toNat_lt; omega)
    have e6 : IntKind.i64.wrap (8 * (k : Int)) = (8 * k : Nat) := by rw [wrap_i64] <;> omega
    have e7 : shiftA true .u64 ((l[k].toNat : Nat) : Int) ((8 * k : Nat) : Int) = some (.int .u64 ((l[k].toNat * 2 ^ (8 * k) : Nat) : Int)) := shl_u64 (by omega) (by
      have h1 := l[k].toNat_lt
      have h2 : 2 ^ (8 * k) ≤ 2 ^ 56 := Nat.pow_le_pow_right (by omega) (by omega)
      calc l[k].toNat * 2 ^ (8 * k) ≤ 255 * 2 ^ 56 := Nat.mul_le_mul (by omega) h2
        _ < _ := by omega)
    have e8 : leN (l.take (k + 1)) < 18446744073709551616 := leN_lt64 (by simp; omega)
    have e9 := leN_step hlt
    have e10 : leN (l.take k) < 2 ^ (8 * k) := by have := leN_lt (l.take k); rwa [List.length_take, Nat.min_eq_left hk] at this
    have e11 : IntKind.u64.wrap (BitVec.ofInt IntKind.u64.bits (leN (l.take k) : Nat) ||| BitVec.ofInt IntKind.u64.bits (l[k].toNat * 2 ^ (8 * k) : Nat)).toNat = (leN (l.take (k + 1)) : Nat) := by
      rw [or_u64 _ _ (by omega) (by omega), or_add e10, e9]
    have e12 : IntKind.i64.wrap ((k : Int) + 1) = ((k + 1 : Nat) : Int) := by rw [wrap_i64] <;> omega
    simp only [walk, ev, okW, onlyFr, Bool.false_and, sealw, aop, cV, cV1, List.length_nil, List.length_cons, List.map_nil, List.map_cons, List.cons_append, List.nil_append, ↓reduceIte, Nat.reduceEqDiff, Nat.reduceAdd, Option.map_some, Option.map_none, Option.bind_some, decide_true, decide_false, Bool.false_eq_true, Bool.not_true, Bool.not_false, Int.toNat_natCast, List.getElem?_cons_zero, List.getElem?_cons_succ, Int.natCast_add, Int.cast_ofNat_Int, true_and, and_true, and_self, if_true, if_false, u8_length, Nat.mul_one, Nat.one_mul, Nat.zero_add, Nat.add_zero, List.drop_zero, beq_self_eq_true, Bool.and_self, Bool.and_true, Bool.true_and, AV.one, List.all_cons, List.all_nil, repCells, fillA, partCells, Nat.reduceLT, Nat.reduceLeDiff, Nat.reduceBEq, Nat.reduceMul, Nat.reduceSub, Int.reduceLT, Int.reduceLE, Int.reduceAdd, Int.reduceSub, Int.reduceMul, Int.reduceToNat, List.take_nil, List.drop_nil, List.take_zero, List.append_nil, sliceCells, cellsAt, srcA, app, List.set_cons_zero, List.set_cons_succ, List.length_set, Nat.le_refl, Nat.zero_le, List.take_length, decU8_u8, reduceCtorEq, List.drop_succ_cons, List.take_succ_cons, Int.reduceEq, e1, e2, hlt, e4, e5, e6, e7, e11, e12]
    exact ⟨k + 1, by omega, by omega, Le.slots (by simp [Am.look])⟩
  · have e1 : ¬ (k : Int) < l.length := by omega
    have e2 : k = l.length := by omega
    subst e2
    simp only [walk, ev, okW, onlyFr, Bool.false_and, sealw, aop, cV, cV1, List.length_nil, List.length_cons, List.map_nil, List.map_cons, List.cons_append, List.nil_append, ↓reduceIte, Nat.reduceEqDiff, Nat.reduceAdd, Option.map_some, Option.map_none, Option.bind_some, decide_true, decide_false, Bool.false_eq_true, Bool.not_true, Bool.not_false, Int.toNat_natCast, List.getElem?_cons_zero, List.getElem?_cons_succ, Int.natCast_add, Int.cast_ofNat_Int, true_and, and_true, and_self, if_true, if_false, u8_length, Nat.mul_one, Nat.one_mul, Nat.zero_add, Nat.add_zero, List.drop_zero, beq_self_eq_true, Bool.and_self, Bool.and_true, Bool.true_and, AV.one, List.all_cons, List.all_nil, repCells, fillA, partCells, Nat.reduceLT, Nat.reduceLeDiff, Nat.reduceBEq, Nat.reduceMul, Nat.reduceSub, Int.reduceLT, Int.reduceLE, Int.reduceAdd, Int.reduceSub, Int.reduceMul, Int.reduceToNat, List.take_nil, List.drop_nil, List.take_zero, List.append_nil, sliceCells, cellsAt, srcA, app, List.set_cons_zero, List.set_cons_succ, List.length_set, Nat.le_refl, Nat.zero_le, List.take_length, decU8_u8, reduceCtorEq, List.drop_succ_cons, List.take_succ_cons, Int.reduceEq, e1, List.take_length]

def S_le_At (P : Prg) (f : Nat) : Prop := ∀ (l : List UInt8) (a w : Nat), l.length < 4611686018427387904 → 1 ≤ w → w ≤ 8 → a < 4611686018427387904 →
  VC P f [bs l, .int .i64 a, .int .i64 w] (if a + w ≤ l.length then .tup [.int .u64 (leN ((l.drop a).take w)), .int .i64 0] else .tup [.int .u64 0, .int .i64 24])

set_option maxRecDepth 10000 in
theorem le_At {P : Prg} {f g : Nat} (b : Body P f 33 [.tmp 6, .tmp 7] (ac_le_At g)) (hg : S_le_Value P g) : S_le_At P f := by
  intro l a w hl h1 h2 ha
  have d1 : ¬ ((w : Int) < 1) := by omega
  have d2 : ¬ ((8 : Int) < w) := by omega
  have d3 : ¬ ((a : Int) < 0) := by omega
  have d4 : IntKind.i64.wrap ((l.length : Int) - w) = (l.length : Int) - w := by rw [wrap_i64] <;> omega
  have d5 : IntKind.i64.wrap ((a : Int) + w) = (a : Int) + w := by rw [wrap_i64] <;> omega
  by_cases hle : a + w ≤ l.length
  · rw [if_pos hle]
    refine VC.of_acall (by simp [isDL, isD_bs, isD]) rfl (ACall.of_body b (by simp) ?_)
    have d6 : ¬ ((l.length : Int) - w < a) := by omega
    have d7 := sub_bs (ob := []) (l := l) (a := a) (b := (a : Int) + w) (i := a) (j := a + w) rfl (by omega) (by omega) hle
    simp only [walk, ev, okW, onlyFr, Bool.false_and, sealw, aop, cV, cV1, List.length_nil, List.length_cons, List.map_nil, List.map_cons, List.cons_append, List.nil_append, ↓reduceIte, Nat.reduceEqDiff, Nat.reduceAdd, Option.map_some, Option.map_none, Option.bind_some, decide_true, decide_false, Bool.false_eq_true, Bool.not_true, Bool.not_false, Int.toNat_natCast, List.getElem?_cons_zero, List.getElem?_cons_succ, Int.natCast_add, Int.cast_ofNat_Int, true_and, and_true, and_self, if_true, if_false, u8_length, Nat.mul_one, Nat.one_mul, Nat.zero_add, Nat.add_zero, List.drop_zero, beq_self_eq_true, Bool.and_self, Bool.and_true, Bool.true_and, AV.one, List.all_cons, List.all_nil, repCells, fillA, partCells, Nat.reduceLT, Nat.reduceLeDiff, Nat.reduceBEq, Nat.reduceMul, Nat.reduceSub, Int.reduceLT, Int.reduceLE, Int.reduceAdd, Int.reduceSub, Int.reduceMul, Int.reduceToNat, List.take_nil, List.drop_nil, List.take_zero, List.append_nil, sliceCells, cellsAt, srcA, app, List.set_cons_zero, List.set_cons_succ, List.length_set, Nat.le_refl, Nat.zero_le, List.take_length, decU8_u8, reduceCtorEq, List.drop_succ_cons, List.take_succ_cons, Int.reduceEq, ac_le_At, bs, d1, d2, d3, d4, d5, d6, d7]
    have hlen : ((l.drop a).take w).length = w := by simp; omega
    have e : a + w - a = w := by omega
    rw [e]
    have := hg ((l.drop a).take w) (by omega) (by omega)
    rw [bs, hlen] at this
    refine callQ.vc this ?_
    simp only [walk, ev, okW, onlyFr, Bool.false_and, sealw, aop, cV, cV1, List.length_nil, List.length_cons, List.map_nil, List.map_cons, List.cons_append, List.nil_append, ↓reduceIte, Nat.reduceEqDiff, Nat.reduceAdd, Option.map_some, Option.map_none, Option.bind_some, decide_true, decide_false, Bool.false_eq_true, Bool.not_true, Bool.not_false, Int.toNat_natCast, List.getElem?_cons_zero, List.getElem?_cons_succ, Int.natCast_add, Int.cast_ofNat_Int, true_and, and_true, and_self, if_true, if_false, u8_length, Nat.mul_one, Nat.one_mul, Nat.zero_add, Nat.add_zero, List.drop_zero, beq_self_eq_true, Bool.and_self, Bool.and_true, Bool.true_and, AV.one, List.all_cons, List.all_nil, repCells, fillA, partCells, Nat.reduceLT, Nat.reduceLeDiff, Nat.reduceBEq, Nat.reduceMul, Nat.reduceSub, Int.reduceLT, Int.reduceLE, Int.reduceAdd, Int.reduceSub, Int.reduceMul, Int.reduceToNat, List.take_nil, List.drop_nil, List.take_zero, List.append_nil, sliceCells, cellsAt, srcA, app, List.set_cons_zero, List.set_cons_succ, List.length_set, Nat.le_refl, Nat.zero_le, List.take_length, decU8_u8, reduceCtorEq, List.drop_succ_cons, List.take_succ_cons, Int.reduceEq]
  · rw [if_neg hle]
    refine VC.of_acall (by simp [isDL, isD_bs, isD]) rfl (ACall.of_body b (by simp) ?_)
    have d6 : ((l.length : Int) - w < a) := by omega
    simp only [walk, ev, okW, onlyFr, Bool.false_and, sealw, aop, cV, cV1, List.length_nil, List.length_cons, List.map_nil, List.map_cons, List.cons_append, List.nil_append, ↓reduceIte, Nat.reduceEqDiff, Nat.reduceAdd, Option.map_some, Option.map_none, Option.bind_some, decide_true, decide_false, Bool.false_eq_true, Bool.not_true, Bool.not_false, Int.toNat_natCast, List.getElem?_cons_zero, List.getElem?_cons_succ, Int.natCast_add, Int.cast_ofNat_Int, true_and, and_true, and_self, if_true, if_false, u8_length, Nat.mul_one, Nat.one_mul, Nat.zero_add, Nat.add_zero, List.drop_zero, beq_self_eq_true, Bool.and_self, Bool.and_true, Bool.true_and, AV.one, List.all_cons, List.all_nil, repCells, fillA, partCells, Nat.reduceLT, Nat.reduceLeDiff, Nat.reduceBEq, Nat.reduceMul, Nat.reduceSub, Int.reduceLT, Int.reduceLE, Int.reduceAdd, Int.reduceSub, Int.reduceMul, Int.reduceToNat, List.take_nil, List.drop_nil, List.take_zero, List.append_nil, sliceCells, cellsAt, srcA, app, List.set_cons_zero, List.set_cons_succ, List.length_set, Nat.le_refl, Nat.zero_le, List.take_length, decU8_u8, reduceCtorEq, List.drop_succ_cons, List.take_succ_cons, Int.reduceEq, ac_le_At, bs, d1, d2, d3, d4, d6]

/-! ### layer 1's reference -/

end Go.Am

namespace Go.Am
open Go.RowKit

def goodB (c : UInt8) : Bool := decide (32 ≤ c.toNat) && decide (c.toNat ≤ 126)
def nameB (s : List UInt8) : Bool := s.all goodB && s.length == 4

theorem all_take_succ {s : List UInt8} {k : Nat} (h : k < s.length) {p : UInt8 → Bool} : (s.take (k + 1)).all p = ((s.take k).all p && p s[k]) := by
  rw [List.take_succ_eq_append_getElem h, List.all_append]; simp

theorem not_all {s : List UInt8} {k : Nat} (h : k < s.length) {p : UInt8 → Bool} (hp : p s[k] = false) : s.all p = false := by
  rw [List.all_eq_false]
  exact ⟨s[k], List.getElem_mem h, by simp [hp]⟩

def S_isName (P : Prg) (f : Nat) : Prop := ∀ s : List UInt8, s.length < 4611686018427387904 → VC P f [.str s] (.bool (nameB s))

set_option maxRecDepth 10000 in
theorem riff_isName {P : Prg} {f : Nat} (b : Body P f 22 [.tmp 2] ac_riff_isName) : S_isName P f := by
  intro s hs
  refine VC.of_acall rfl rfl (ACall.of_body b (by simp) ?_)
  simp only [walk, ev, okW, onlyFr, Bool.false_and, sealw, aop, cV, cV1, List.length_nil, List.length_cons, List.map_nil, List.map_cons, List.cons_append, List.nil_append, ↓reduceIte, Nat.reduceEqDiff, Nat.reduceAdd, Option.map_some, Option.map_none, Option.bind_some, decide_true, decide_false, Bool.false_eq_true, Bool.not_true, Bool.not_false, Int.toNat_natCast, List.getElem?_cons_zero, List.getElem?_cons_succ, Int.natCast_add, Int.cast_ofNat_Int, true_and, and_true, and_self, if_true, if_false, u8_length, Nat.mul_one, Nat.one_mul, Nat.zero_add, Nat.add_zero, List.drop_zero, beq_self_eq_true, Bool.and_self, Bool.and_true, Bool.true_and, AV.one, List.all_cons, List.all_nil, repCells, fillA, partCells, Nat.reduceLT, Nat.reduceLeDiff, Nat.reduceBEq, Nat.reduceMul, Nat.reduceSub, Int.reduceLT, Int.reduceLE, Int.reduceAdd, Int.reduceSub, Int.reduceMul, Int.reduceToNat, List.take_nil, List.drop_nil, List.take_zero, List.append_nil, sliceCells, cellsAt, srcA, app, List.set_cons_zero, List.set_cons_succ, List.length_set, Nat.le_refl, Nat.zero_le, List.take_length, decU8_u8, reduceCtorEq, List.drop_succ_cons, List.take_succ_cons, Int.reduceEq, ac_riff_isName]
  refine ALoop.by (ι := Nat) (fun k => ⟨[(8, .int .i64 k), (7, .int .i64 s.length), (6, bs s), (0, .str s)], []⟩) (fun k => k ≤ s.length ∧ (s.take k).all goodB = true) (fun k => s.length - k) 0 (Le.slots (by simp [Am.look, bs])) ⟨by omega, by simp⟩ ?_
  intro k ⟨hk, hg⟩
  by_cases hlt : k < s.length
  · have e1 : (k : Int) < s.length := by omega
    have e2 : (0 : Int) ≤ k := by omega
    have e4 := drop_u8 hlt
    have e12 : IntKind.i64.wrap ((k : Int) + 1) = ((k + 1 : Nat) : Int) := by rw [wrap_i64] <;> omega
    by_cases h1 : s[k].toNat < 32
    · have f1 : ((s[k].toNat : Nat) : Int) < 32 := by omega
      have f2 : nameB s = false := by simp [nameB, not_all hlt (p := goodB) (by simp [goodB]; omega)]
      simp only [walk, ev, okW, onlyFr, Bool.false_and, sealw, aop, cV, cV1, List.length_nil, List.length_cons, List.map_nil, List.map_cons, List.cons_append, List.nil_append, ↓reduceIte, Nat.reduceEqDiff, Nat.reduceAdd, Option.map_some, Option.map_none, Option.bind_some, decide_true, decide_false, Bool.false_eq_true, Bool.not_true, Bool.not_false, Int.toNat_natCast, List.getElem?_cons_zero, List.getElem?_cons_succ, Int.natCast_add, Int.cast_ofNat_Int, true_and, and_true, and_self, if_true, if_false, u8_length, Nat.mul_one, Nat.one_mul, Nat.zero_add, Nat.add_zero, List.drop_zero, beq_self_eq_true, Bool.and_self, Bool.and_true, Bool.true_and, AV.one, List.all_cons, List.all_nil, repCells, fillA, partCells, Nat.reduceLT, Nat.reduceLeDiff, Nat.reduceBEq, Nat.reduceMul, Nat.reduceSub, Int.reduceLT, Int.reduceLE, Int.reduceAdd, Int.reduceSub, Int.reduceMul, Int.reduceToNat, List.take_nil, List.drop_nil, List.take_zero, List.append_nil, sliceCells, cellsAt, srcA, app, List.set_cons_zero, List.set_cons_succ, List.length_set, Nat.le_refl, Nat.zero_le, List.take_length, decU8_u8, reduceCtorEq, List.drop_succ_cons, List.take_succ_cons, Int.reduceEq, bs, e1, e2, hlt, e4, e12, f1, f2]
    · have f1 : ¬ ((s[k].toNat : Nat) : Int) < 32 := by omega
      by_cases h2 : 126 < s[k].toNat
      · have f3 : (126 : Int) < ((s[k].toNat : Nat) : Int) := by omega
        have f2 : nameB s = false := by simp [nameB, not_all hlt (p := goodB) (by simp [goodB]; omega)]
        simp only [walk, ev, okW, onlyFr, Bool.false_and, sealw, aop, cV, cV1, List.length_nil, List.length_cons, List.map_nil, List.map_cons, List.cons_append, List.nil_append, ↓reduceIte, Nat.reduceEqDiff, Nat.reduceAdd, Option.map_some, Option.map_none, Option.bind_some, decide_true, decide_false, Bool.false_eq_true, Bool.not_true, Bool.not_false, Int.toNat_natCast, List.getElem?_cons_zero, List.getElem?_cons_succ, Int.natCast_add, Int.cast_ofNat_Int, true_and, and_true, and_self, if_true, if_false, u8_length, Nat.mul_one, Nat.one_mul, Nat.zero_add, Nat.add_zero, List.drop_zero, beq_self_eq_true, Bool.and_self, Bool.and_true, Bool.true_and, AV.one, List.all_cons, List.all_nil, repCells, fillA, partCells, Nat.reduceLT, Nat.reduceLeDiff, Nat.reduceBEq, Nat.reduceMul, Nat.reduceSub, Int.reduceLT, Int.reduceLE, Int.reduceAdd, Int.reduceSub, Int.reduceMul, Int.reduceToNat, List.take_nil, List.drop_nil, List.take_zero, List.append_nil, sliceCells, cellsAt, srcA, app, List.set_cons_zero, List.set_cons_succ, List.length_set, Nat.le_refl, Nat.zero_le, List.take_length, decU8_u8, reduceCtorEq, List.drop_succ_cons, List.take_succ_cons, Int.reduceEq, bs, e1, e2, hlt, e4, e12, f1, f2, f3]
      · have f3 : ¬ (126 : Int) < ((s[k].toNat : Nat) : Int) := by omega
        simp only [walk, ev, okW, onlyFr, Bool.false_and, sealw, aop, cV, cV1, List.length_nil, List.length_cons, List.map_nil, List.map_cons, List.cons_append, List.nil_append, ↓reduceIte, Nat.reduceEqDiff, Nat.reduceAdd, Option.map_some, Option.map_none, Option.bind_some, decide_true, decide_false, Bool.false_eq_true, Bool.not_true, Bool.not_false, Int.toNat_natCast, List.getElem?_cons_zero, List.getElem?_cons_succ, Int.natCast_add, Int.cast_ofNat_Int, true_and, and_true, and_self, if_true, if_false, u8_length, Nat.mul_one, Nat.one_mul, Nat.zero_add, Nat.add_zero, List.drop_zero, beq_self_eq_true, Bool.and_self, Bool.and_true, Bool.true_and, AV.one, List.all_cons, List.all_nil, repCells, fillA, partCells, Nat.reduceLT, Nat.reduceLeDiff, Nat.reduceBEq, Nat.reduceMul, Nat.reduceSub, Int.reduceLT, Int.reduceLE, Int.reduceAdd, Int.reduceSub, Int.reduceMul, Int.reduceToNat, List.take_nil, List.drop_nil, List.take_zero, List.append_nil, sliceCells, cellsAt, srcA, app, List.set_cons_zero, List.set_cons_succ, List.length_set, Nat.le_refl, Nat.zero_le, List.take_length, decU8_u8, reduceCtorEq, List.drop_succ_cons, List.take_succ_cons, Int.reduceEq, bs, e1, e2, hlt, e4, e12, f1, f3]
        exact ⟨k + 1, ⟨by omega, by rw [all_take_succ hlt, hg]; simp [goodB]; omega⟩, by omega, Le.slots (by simp [Am.look, bs])⟩
  · have e1 : ¬ (k : Int) < s.length := by omega
    have e2 : k = s.length := by omega
    subst e2
    rw [List.take_length] at hg
    have e3 : (((s.length : Nat) : Int) == 4) = nameB s := by
      simp only [nameB, hg, Bool.true_and]
      rw [Bool.eq_iff_iff]; simp; omega
    simp only [walk, ev, okW, onlyFr, Bool.false_and, sealw, aop, cV, cV1, List.length_nil, List.length_cons, List.map_nil, List.map_cons, List.cons_append, List.nil_append, ↓reduceIte, Nat.reduceEqDiff, Nat.reduceAdd, Option.map_some, Option.map_none, Option.bind_some, decide_true, decide_false, Bool.false_eq_true, Bool.not_true, Bool.not_false, Int.toNat_natCast, List.getElem?_cons_zero, List.getElem?_cons_succ, Int.natCast_add, Int.cast_ofNat_Int, true_and, and_true, and_self, if_true, if_false, u8_length, Nat.mul_one, Nat.one_mul, Nat.zero_add, Nat.add_zero, List.drop_zero, beq_self_eq_true, Bool.and_self, Bool.and_true, Bool.true_and, AV.one, List.all_cons, List.all_nil, repCells, fillA, partCells, Nat.reduceLT, Nat.reduceLeDiff, Nat.reduceBEq, Nat.reduceMul, Nat.reduceSub, Int.reduceLT, Int.reduceLE, Int.reduceAdd, Int.reduceSub, Int.reduceMul, Int.reduceToNat, List.take_nil, List.drop_nil, List.take_zero, List.append_nil, sliceCells, cellsAt, srcA, app, List.set_cons_zero, List.set_cons_succ, List.length_set, Nat.le_refl, Nat.zero_le, List.take_length, decU8_u8, reduceCtorEq, List.drop_succ_cons, List.take_succ_cons, Int.reduceEq, bs, e1, e3]

theorem isT_u8 (l : List UInt8) : isTL (u8 l) = true := by
  induction l with
  | nil => rfl
  | cons x l ih => simp [u8_cons, isTL, isT, ih]
theorem isT_bs (l : List UInt8) : isT (bs l) = true := by simp [bs, isT, isT_u8]
theorem frz_bs {f : List AV → Option (List AV)} {kp ok : Nat → Bool} {ob : List Ob} (l : List UInt8) : frzV f kp ok ob (bs l) = some (bs l) := frzV_T _ (isT_bs l)

def S_bytes_Clone (P : Prg) (f : Nat) : Prop := ∀ l : List UInt8, l.length < 140737488355328 → VC P f [bs l] (bs l)

set_option maxRecDepth 10000 in
theorem bytes_Clone {P : Prg} {f t0 : Nat} (b : Body P f 8 [.tmp 2] (ac_bytes_Clone t0)) : S_bytes_Clone P f := by
  intro l hl
  refine VC.of_walk 1 (by simp [isDL, isD_bs]) (isD_bs l) (ACall.of_body b (by simp) ?_)
  have fin : ∀ ob, ob = [⟨t0, 1, l.length, u8 l, 0⟩] → frzN (fun _ => true) ob (1 + 1) [.own 0 l.length] = some [bs l] := by
    rintro ob rfl
    simp only [frzN, frzK, frzL, frzV, Bool.false_eq_true, if_false, List.getElem?_cons_zero, and_self, if_true, frzL_T _ (isT_u8 l), Option.map_some]
    rfl
  have d1 : l.length * 1 ≤ 140737488355328 := by omega
  have d2 : l.length ≤ 9223372036854775807 := by omega
  by_cases h0 : l = []
  · subst h0
    simp only [walk, ev, okW, onlyFr, Bool.false_and, sealw, aop, cV, cV1, List.length_nil, List.length_cons, List.map_nil, List.map_cons, List.cons_append, List.nil_append, ↓reduceIte, Nat.reduceEqDiff, Nat.reduceAdd, Option.map_some, Option.map_none, Option.bind_some, decide_true, decide_false, Bool.false_eq_true, Bool.not_true, Bool.not_false, Int.toNat_natCast, List.getElem?_cons_zero, List.getElem?_cons_succ, Int.natCast_add, Int.cast_ofNat_Int, true_and, and_true, and_self, if_true, if_false, u8_length, Nat.mul_one, Nat.one_mul, Nat.zero_add, Nat.add_zero, List.drop_zero, beq_self_eq_true, Bool.and_self, Bool.and_true, Bool.true_and, AV.one, List.all_cons, List.all_nil, repCells, fillA, partCells, Nat.reduceLT, Nat.reduceLeDiff, Nat.reduceBEq, Nat.reduceMul, Nat.reduceSub, Int.reduceLT, Int.reduceLE, Int.reduceAdd, Int.reduceSub, Int.reduceMul, Int.reduceToNat, List.take_nil, List.drop_nil, List.take_zero, List.append_nil, sliceCells, cellsAt, srcA, app, List.set_cons_zero, List.set_cons_succ, List.length_set, Nat.le_refl, Nat.zero_le, List.take_length, decU8_u8, reduceCtorEq, List.drop_succ_cons, List.take_succ_cons, Int.reduceEq, ac_bytes_Clone, bs, nilA, u8_nil]
    simp [frzN, frzK, frzL, frzV, isDL]
  · have h1 : l.length ≠ 0 := by simpa using h0
    have d3 : l.length ≤ 140737488355328 := by omega
    simp only [walk, ev, okW, onlyFr, Bool.false_and, sealw, aop, cV, cV1, List.length_nil, List.length_cons, List.map_nil, List.map_cons, List.cons_append, List.nil_append, ↓reduceIte, Nat.reduceEqDiff, Nat.reduceAdd, Option.map_some, Option.map_none, Option.bind_some, decide_true, decide_false, Bool.false_eq_true, Bool.not_true, Bool.not_false, Int.toNat_natCast, List.getElem?_cons_zero, List.getElem?_cons_succ, Int.natCast_add, Int.cast_ofNat_Int, true_and, and_true, and_self, if_true, if_false, u8_length, Nat.mul_one, Nat.one_mul, Nat.zero_add, Nat.add_zero, List.drop_zero, beq_self_eq_true, Bool.and_self, Bool.and_true, Bool.true_and, AV.one, List.all_cons, List.all_nil, repCells, fillA, partCells, Nat.reduceLT, Nat.reduceLeDiff, Nat.reduceBEq, Nat.reduceMul, Nat.reduceSub, Int.reduceLT, Int.reduceLE, Int.reduceAdd, Int.reduceSub, Int.reduceMul, Int.reduceToNat, List.take_nil, List.drop_nil, List.take_zero, List.append_nil, sliceCells, cellsAt, srcA, app, List.set_cons_zero, List.set_cons_succ, List.length_set, Nat.le_refl, Nat.zero_le, List.take_length, decU8_u8, reduceCtorEq, List.drop_succ_cons, List.take_succ_cons, Int.reduceEq, ac_bytes_Clone, bs, nilA, h1, d2, d3]
    exact fin _ rfl

/-- A part of bytes, its length told. -/
theorem sub_at {ob : List Ob} {l : List UInt8} {a b : Int} (i j n : Nat) (ha : a = i) (hb : b = j) (hn : j = i + n) (h2 : j ≤ l.length) : subA ob 1 (.list l.length (u8 l)) a b = some (.list n (u8 ((l.drop i).take n))) := by
  have := sub_bs (ob := ob) ha hb (by omega) h2
  rwa [show j - i = n by omega] at this

theorem len_at {l : List UInt8} {i n : Nat} (h : i + n ≤ l.length) : ((l.drop i).take n).length = n := by simp; omega

/-- A chunk: its name, its data. -/
abbrev Ck := List UInt8 × List UInt8
def ckA (c : Ck) : AV := .agg [.str c.1, bs c.2]

def nextM (l : List UInt8) : Option (Ck × List UInt8) :=
  if l.length < 8 ∨ nameB (l.take 4) = false then none
  else
    let n := leN ((l.drop 4).take 4)
    if l.length - 8 < n then none
    else if n % 2 = 1 then
      (if l.length = 8 + n ∨ (l.getD (8 + n) 0) ≠ 0 then none else some ((l.take 4, (l.drop 8).take n), l.drop (9 + n)))
    else some ((l.take 4, (l.drop 8).take n), l.drop (8 + n))

def nextA : Option (Ck × List UInt8) → AV
  | none => .tup [ckA ([], []), bs [], .bool false]
  | some (c, r) => .tup [ckA c, bs r, .bool true]

def S_riff_next (P : Prg) (f : Nat) : Prop := ∀ l : List UInt8, l.length < 140737488355328 → VC P f [bs l] (nextA (nextM l))

theorem isD_next (r : Option (Ck × List UInt8)) : isD (nextA r) = true := by
  cases r with
  | none => rfl
  | some p => obtain ⟨c, r⟩ := p; simp [nextA, ckA, isD, isDL, isD_bs]

set_option maxRecDepth 20000 in
theorem riff_next {P : Prg} {f fN fA fC t0 : Nat} (b : Body P f 62 [.cell 2 t0, .tmp 3, .tmp 4] (ac_riff_next fN fA fC t0)) (ht : aggO P t0 = some (some 2)) (hN : S_isName P fN) (hA : S_le_At P fA) (hC : S_bytes_Clone P fC) : S_riff_next P f := by
  intro l hl
  refine VC.of_walk 1 (by simp [isDL, isD_bs]) (isD_next _) (ACall.of_body b (by simp) ?_)
  have fin0 : ∀ ob, frzN (fun _ => true) ob 2 [.tup [.agg [.str [], .emp true], .emp true, .bool false]] = some [nextA none] := by
    intro ob
    simp [frzN, frzK, frzL, frzV, nextA, ckA, bs, u8]
  have fin1 : ∀ ob (c : Ck) r, frzN (fun _ => true) ob 2 [.tup [.agg [.str c.1, bs c.2], bs r, .bool true]] = some [nextA (some (c, r))] := by
    intro ob c r
    simp [frzN, frzK, frzL, frzV, nextA, ckA, frz_bs]
  have fin2 : ∀ ob (c : Ck) r n m, n = c.2.length → m = r.length → frzN (fun _ => true) ob 2 [.tup [.agg [.str c.1, .list n (u8 c.2)], .list m (u8 r), .bool true]] = some [nextA (some (c, r))] := by
    rintro ob c r n m rfl rfl
    exact fin1 ob c r
  by_cases h8 : l.length < 8
  · have e0 : nextM l = none := by simp [nextM, h8]
    have e1 : (l.length : Int) < 8 := by omega
    rw [e0]
    simp only [walk, ev, okW, onlyFr, Bool.false_and, sealw, aop, cV, cV1, List.length_nil, List.length_cons, List.map_nil, List.map_cons, List.cons_append, List.nil_append, ↓reduceIte, Nat.reduceEqDiff, Nat.reduceAdd, Option.map_some, Option.map_none, Option.bind_some, decide_true, decide_false, Bool.false_eq_true, Bool.not_true, Bool.not_false, Int.toNat_natCast, List.getElem?_cons_zero, List.getElem?_cons_succ, Int.natCast_add, Int.cast_ofNat_Int, true_and, and_true, and_self, if_true, if_false, u8_length, Nat.mul_one, Nat.one_mul, Nat.zero_add, Nat.add_zero, List.drop_zero, beq_self_eq_true, Bool.and_self, Bool.and_true, Bool.true_and, AV.one, List.all_cons, List.all_nil, repCells, fillA, partCells, Nat.reduceLT, Nat.reduceLeDiff, Nat.reduceBEq, Nat.reduceMul, Nat.reduceSub, Int.reduceLT, Int.reduceLE, Int.reduceAdd, Int.reduceSub, Int.reduceMul, Int.reduceToNat, List.take_nil, List.drop_nil, List.take_zero, List.append_nil, sliceCells, cellsAt, srcA, app, List.set_cons_zero, List.set_cons_succ, List.length_set, Nat.le_refl, Nat.zero_le, List.take_length, decU8_u8, reduceCtorEq, List.drop_succ_cons, List.take_succ_cons, Int.reduceEq, ac_riff_next, bs, e1, resA, ht]
    exact fin0 _
  · have e1 : ¬ (l.length : Int) < 8 := by omega
    have e2 := sub_at (ob := [⟨t0, 2, 1, [.str [], .emp true], 0⟩]) (l := l) (a := 0) (b := 4) 0 4 4 rfl rfl rfl (by omega)
    have e3 := len_at (l := l) (i := 0) (n := 4) (by omega)
    simp only [List.drop_zero] at e2 e3
    simp only [walk, ev, okW, onlyFr, Bool.false_and, sealw, aop, cV, cV1, List.length_nil, List.length_cons, List.map_nil, List.map_cons, List.cons_append, List.nil_append, ↓reduceIte, Nat.reduceEqDiff, Nat.reduceAdd, Option.map_some, Option.map_none, Option.bind_some, decide_true, decide_false, Bool.false_eq_true, Bool.not_true, Bool.not_false, Int.toNat_natCast, List.getElem?_cons_zero, List.getElem?_cons_succ, Int.natCast_add, Int.cast_ofNat_Int, true_and, and_true, and_self, if_true, if_false, u8_length, Nat.mul_one, Nat.one_mul, Nat.zero_add, Nat.add_zero, List.drop_zero, beq_self_eq_true, Bool.and_self, Bool.and_true, Bool.true_and, AV.one, List.all_cons, List.all_nil, repCells, fillA, partCells, Nat.reduceLT, Nat.reduceLeDiff, Nat.reduceBEq, Nat.reduceMul, Nat.reduceSub, Int.reduceLT, Int.reduceLE, Int.reduceAdd, Int.reduceSub, Int.reduceMul, Int.reduceToNat, List.take_nil, List.drop_nil, List.take_zero, List.append_nil, sliceCells, cellsAt, srcA, app, List.set_cons_zero, List.set_cons_succ, List.length_set, Nat.le_refl, Nat.zero_le, List.take_length, decU8_u8, reduceCtorEq, List.drop_succ_cons, List.take_succ_cons, Int.reduceEq, ac_riff_next, bs, e1, e2, e3, resA, ht]
    refine callQ.vc (hN (l.take 4) (by omega)) ?_
    by_cases hn : nameB (l.take 4) = false
    · have e0 : nextM l = none := by simp [nextM, hn]
      rw [e0]
      simp only [walk, ev, okW, onlyFr, Bool.false_and, sealw, aop, cV, cV1, List.length_nil, List.length_cons, List.map_nil, List.map_cons, List.cons_append, List.nil_append, ↓reduceIte, Nat.reduceEqDiff, Nat.reduceAdd, Option.map_some, Option.map_none, Option.bind_some, decide_true, decide_false, Bool.false_eq_true, Bool.not_true, Bool.not_false, Int.toNat_natCast, List.getElem?_cons_zero, List.getElem?_cons_succ, Int.natCast_add, Int.cast_ofNat_Int, true_and, and_true, and_self, if_true, if_false, u8_length, Nat.mul_one, Nat.one_mul, Nat.zero_add, Nat.add_zero, List.drop_zero, beq_self_eq_true, Bool.and_self, Bool.and_true, Bool.true_and, AV.one, List.all_cons, List.all_nil, repCells, fillA, partCells, Nat.reduceLT, Nat.reduceLeDiff, Nat.reduceBEq, Nat.reduceMul, Nat.reduceSub, Int.reduceLT, Int.reduceLE, Int.reduceAdd, Int.reduceSub, Int.reduceMul, Int.reduceToNat, List.take_nil, List.drop_nil, List.take_zero, List.append_nil, sliceCells, cellsAt, srcA, app, List.set_cons_zero, List.set_cons_succ, List.length_set, Nat.le_refl, Nat.zero_le, List.take_length, decU8_u8, reduceCtorEq, List.drop_succ_cons, List.take_succ_cons, Int.reduceEq, hn, resA, ht]
      exact fin0 _
    · have hn' : nameB (l.take 4) = true := by simpa using hn
      simp only [walk, ev, okW, onlyFr, Bool.false_and, sealw, aop, cV, cV1, List.length_nil, List.length_cons, List.map_nil, List.map_cons, List.cons_append, List.nil_append, ↓reduceIte, Nat.reduceEqDiff, Nat.reduceAdd, Option.map_some, Option.map_none, Option.bind_some, decide_true, decide_false, Bool.false_eq_true, Bool.not_true, Bool.not_false, Int.toNat_natCast, List.getElem?_cons_zero, List.getElem?_cons_succ, Int.natCast_add, Int.cast_ofNat_Int, true_and, and_true, and_self, if_true, if_false, u8_length, Nat.mul_one, Nat.one_mul, Nat.zero_add, Nat.add_zero, List.drop_zero, beq_self_eq_true, Bool.and_self, Bool.and_true, Bool.true_and, AV.one, List.all_cons, List.all_nil, repCells, fillA, partCells, Nat.reduceLT, Nat.reduceLeDiff, Nat.reduceBEq, Nat.reduceMul, Nat.reduceSub, Int.reduceLT, Int.reduceLE, Int.reduceAdd, Int.reduceSub, Int.reduceMul, Int.reduceToNat, List.take_nil, List.drop_nil, List.take_zero, List.append_nil, sliceCells, cellsAt, srcA, app, List.set_cons_zero, List.set_cons_succ, List.length_set, Nat.le_refl, Nat.zero_le, List.take_length, decU8_u8, reduceCtorEq, List.drop_succ_cons, List.take_succ_cons, Int.reduceEq, hn']
      have hv := hA l 4 4 (by omega) (by omega) (by omega) (by omega)
      rw [if_pos (by omega : 4 + 4 ≤ l.length)] at hv
      refine callQ.vc hv ?_
      generalize hnn : leN ((l.drop 4).take 4) = n
      have hn4 : n < 4294967296 := by
        have := leN_lt ((l.drop 4).take 4)
        rw [hnn, len_at (by omega)] at this
        exact this
      have f1 := sub_at (ob := [⟨t0, 2, 1, [.str [], .emp true], 0⟩]) (l := l) (a := 8) (b := l.length) 8 l.length (l.length - 8) rfl rfl (by omega) (by omega)
      have f2 := len_at (l := l) (i := 8) (n := l.length - 8) (by omega)
      have f3 : (l.drop 8).take (l.length - 8) = l.drop 8 := List.take_of_length_le (by simp)
      have f4 : (l.drop 8).length = l.length - 8 := by simp
      rw [f3] at f1 f2
      have f5 : IntKind.u64.wrap ((l.length - 8 : Nat) : Int) = (l.length - 8 : Nat) := wrap_u64 (by omega) (by omega)
      by_cases hlt : l.length - 8 < n
      · have e0 : nextM l = none := by simp [nextM, hn', hnn, hlt]
        have e4 : ((l.length - 8 : Nat) : Int) < (n : Int) := by omega
        rw [e0]
        simp only [walk, ev, okW, onlyFr, Bool.false_and, sealw, aop, cV, cV1, List.length_nil, List.length_cons, List.map_nil, List.map_cons, List.cons_append, List.nil_append, ↓reduceIte, Nat.reduceEqDiff, Nat.reduceAdd, Option.map_some, Option.map_none, Option.bind_some, decide_true, decide_false, Bool.false_eq_true, Bool.not_true, Bool.not_false, Int.toNat_natCast, List.getElem?_cons_zero, List.getElem?_cons_succ, Int.natCast_add, Int.cast_ofNat_Int, true_and, and_true, and_self, if_true, if_false, u8_length, Nat.mul_one, Nat.one_mul, Nat.zero_add, Nat.add_zero, List.drop_zero, beq_self_eq_true, Bool.and_self, Bool.and_true, Bool.true_and, AV.one, List.all_cons, List.all_nil, repCells, fillA, partCells, Nat.reduceLT, Nat.reduceLeDiff, Nat.reduceBEq, Nat.reduceMul, Nat.reduceSub, Int.reduceLT, Int.reduceLE, Int.reduceAdd, Int.reduceSub, Int.reduceMul, Int.reduceToNat, List.take_nil, List.drop_nil, List.take_zero, List.append_nil, sliceCells, cellsAt, srcA, app, List.set_cons_zero, List.set_cons_succ, List.length_set, Nat.le_refl, Nat.zero_le, List.take_length, decU8_u8, reduceCtorEq, List.drop_succ_cons, List.take_succ_cons, Int.reduceEq, e1, e2, e3, f1, f5, e4, resA, ht]
        exact fin0 _
      · have e4 : ¬ ((l.length - 8 : Nat) : Int) < (n : Int) := by omega
        generalize hr : l.drop 8 = r at *
        have g1 := sub_at (ob := [⟨t0, 2, 1, [.str [], .emp true], 0⟩]) (l := r) (a := 0) (b := n) 0 n n rfl rfl (by omega) (by omega)
        have g2 := len_at (l := r) (i := 0) (n := n) (by omega)
        simp only [List.drop_zero] at g1 g2
        rw [← f4] at f1 f5 e4
        simp only [walk, ev, okW, onlyFr, Bool.false_and, sealw, aop, cV, cV1, List.length_nil, List.length_cons, List.map_nil, List.map_cons, List.cons_append, List.nil_append, ↓reduceIte, Nat.reduceEqDiff, Nat.reduceAdd, Option.map_some, Option.map_none, Option.bind_some, decide_true, decide_false, Bool.false_eq_true, Bool.not_true, Bool.not_false, Int.toNat_natCast, List.getElem?_cons_zero, List.getElem?_cons_succ, Int.natCast_add, Int.cast_ofNat_Int, true_and, and_true, and_self, if_true, if_false, u8_length, Nat.mul_one, Nat.one_mul, Nat.zero_add, Nat.add_zero, List.drop_zero, beq_self_eq_true, Bool.and_self, Bool.and_true, Bool.true_and, AV.one, List.all_cons, List.all_nil, repCells, fillA, partCells, Nat.reduceLT, Nat.reduceLeDiff, Nat.reduceBEq, Nat.reduceMul, Nat.reduceSub, Int.reduceLT, Int.reduceLE, Int.reduceAdd, Int.reduceSub, Int.reduceMul, Int.reduceToNat, List.take_nil, List.drop_nil, List.take_zero, List.append_nil, sliceCells, cellsAt, srcA, app, List.set_cons_zero, List.set_cons_succ, List.length_set, Nat.le_refl, Nat.zero_le, List.take_length, decU8_u8, reduceCtorEq, List.drop_succ_cons, List.take_succ_cons, Int.reduceEq, e1, e2, e3, f1, f5, e4, g1]
        have hcl := hC (r.take n) (by omega)
        rw [bs, g2] at hcl
        refine callQ.vc hcl ?_
        have g3 := sub_at (ob := [⟨t0, 2, 1, [.str [], .emp true], 0⟩, ⟨t0, 2, 1, [.str (l.take 4), .list n (u8 (r.take n))], 0⟩]) (l := r) (a := n) (b := r.length) n r.length (r.length - n) rfl rfl (by omega) (by omega)
        have g4 : (r.drop n).length = r.length - n := by simp
        have g5 : (r.drop n).take (r.length - n) = r.drop n := List.take_of_length_le (by omega)
        rw [g5, ← g4] at g3
        have g6 : ((n : Int).tmod 2) = ((n % 2 : Nat) : Int) := rfl
        have g7 : leN ((l.drop 4).take 4) = n := hnn
        by_cases hodd : n % 2 = 1
        · have g8 : (((n % 2 : Nat) : Int) == 1) = true := by rw [hodd]; rfl
          by_cases hend : r.length = n
          · have e0 : nextM l = none := by
              simp only [nextM, hn', g7]
              rw [if_neg (by simp; omega), if_neg (by omega), if_pos hodd, if_pos (.inl (by omega))]
            have g9 : (((r.drop n).length : Int) == 0) = true := by simp; omega
            rw [e0]
            simp only [walk, ev, okW, onlyFr, Bool.false_and, sealw, aop, cV, cV1, List.length_nil, List.length_cons, List.map_nil, List.map_cons, List.cons_append, List.nil_append, ↓reduceIte, Nat.reduceEqDiff, Nat.reduceAdd, Option.map_some, Option.map_none, Option.bind_some, decide_true, decide_false, Bool.false_eq_true, Bool.not_true, Bool.not_false, Int.toNat_natCast, List.getElem?_cons_zero, List.getElem?_cons_succ, Int.natCast_add, Int.cast_ofNat_Int, true_and, and_true, and_self, if_true, if_false, u8_length, Nat.mul_one, Nat.one_mul, Nat.zero_add, Nat.add_zero, List.drop_zero, beq_self_eq_true, Bool.and_self, Bool.and_true, Bool.true_and, AV.one, List.all_cons, List.all_nil, repCells, fillA, partCells, Nat.reduceLT, Nat.reduceLeDiff, Nat.reduceBEq, Nat.reduceMul, Nat.reduceSub, Int.reduceLT, Int.reduceLE, Int.reduceAdd, Int.reduceSub, Int.reduceMul, Int.reduceToNat, List.take_nil, List.drop_nil, List.take_zero, List.append_nil, sliceCells, cellsAt, srcA, app, List.set_cons_zero, List.set_cons_succ, List.length_set, Nat.le_refl, Nat.zero_le, List.take_length, decU8_u8, reduceCtorEq, List.drop_succ_cons, List.take_succ_cons, Int.reduceEq, g3, g6, g8, g9, resA, ht]
            exact fin0 _
          · have hlt2 : 0 < (r.drop n).length := by omega
            have g9 : (((r.drop n).length : Int) == 0) = false := by simp; omega
            have g10 : (0 : Int) < (r.drop n).length := by omega
            have g11 := drop_u8 hlt2
            simp only [List.drop_zero] at g11
            have g12 : (r.drop n)[0] = l.getD (8 + n) 0 := by
              subst hr
              simp [List.getD_eq_getElem?_getD, List.getElem?_eq_getElem (show 8 + n < l.length by omega)]
            have g14 : 0 < ((r.drop n).drop 1).length + 1 := by omega
            by_cases hz : l.getD (8 + n) 0 = 0
            · have e0 : nextM l = some ((l.take 4, r.take n), (r.drop n).drop 1) := by
                simp only [nextM, hn', g7]
                rw [if_neg (by simp; omega), if_neg (by omega), if_pos hodd, if_neg (by rintro (h | h); omega; exact h hz), ← hr, List.drop_drop, List.drop_drop]
                congr 3
                omega
              have g13 : (((r.drop n)[0].toNat : Int) != 0) = false := by rw [g12, hz]; rfl
              have h1 := sub_at (ob := [⟨t0, 2, 1, [.str [], .emp true], 0⟩, ⟨t0, 2, 1, [.str (l.take 4), .list n (u8 (r.take n))], 0⟩]) (l := r.drop n) (a := 1) (b := (r.drop n).length) 1 (r.drop n).length ((r.drop n).length - 1) rfl rfl (by omega) (by omega)
              have h2 : ((r.drop n).drop 1).take ((r.drop n).length - 1) = (r.drop n).drop 1 := List.take_of_length_le (by rw [List.length_drop]; exact Nat.le_refl _)
              rw [h2, g11] at h1
              rw [e0]
              simp only [walk, ev, okW, onlyFr, Bool.false_and, sealw, aop, cV, cV1, List.length_nil, List.length_cons, List.map_nil, List.map_cons, List.cons_append, List.nil_append, ↓reduceIte, Nat.reduceEqDiff, Nat.reduceAdd, Option.map_some, Option.map_none, Option.bind_some, decide_true, decide_false, Bool.false_eq_true, Bool.not_true, Bool.not_false, Int.toNat_natCast, List.getElem?_cons_zero, List.getElem?_cons_succ, Int.natCast_add, Int.cast_ofNat_Int, true_and, and_true, and_self, if_true, if_false, u8_length, Nat.mul_one, Nat.one_mul, Nat.zero_add, Nat.add_zero, List.drop_zero, beq_self_eq_true, Bool.and_self, Bool.and_true, Bool.true_and, AV.one, List.all_cons, List.all_nil, repCells, fillA, partCells, Nat.reduceLT, Nat.reduceLeDiff, Nat.reduceBEq, Nat.reduceMul, Nat.reduceSub, Int.reduceLT, Int.reduceLE, Int.reduceAdd, Int.reduceSub, Int.reduceMul, Int.reduceToNat, List.take_nil, List.drop_nil, List.take_zero, List.append_nil, sliceCells, cellsAt, srcA, app, List.set_cons_zero, List.set_cons_succ, List.length_set, Nat.le_refl, Nat.zero_le, List.take_length, decU8_u8, reduceCtorEq, List.drop_succ_cons, List.take_succ_cons, Int.reduceEq, g3, g6, g8, g9, g10, g11, g13, g14, h1, hlt2, resA, ht]
              exact fin2 _ (l.take 4, r.take n) ((r.drop n).drop 1) _ _ g2.symm (by rw [List.length_drop (i := 1)])
            · have e0 : nextM l = none := by
                simp only [nextM, hn', g7]
                rw [if_neg (by simp; omega), if_neg (by omega), if_pos hodd, if_pos (.inr hz)]
              have g13 : (((r.drop n)[0].toNat : Int) != 0) = true := by
                rw [g12]
                have : (l.getD (8 + n) 0).toNat ≠ 0 := fun h => hz (UInt8.toNat_inj.1 h)
                exact bne_iff_ne.2 (by omega)
              rw [e0]
              simp only [walk, ev, okW, onlyFr, Bool.false_and, sealw, aop, cV, cV1, List.length_nil, List.length_cons, List.map_nil, List.map_cons, List.cons_append, List.nil_append, ↓reduceIte, Nat.reduceEqDiff, Nat.reduceAdd, Option.map_some, Option.map_none, Option.bind_some, decide_true, decide_false, Bool.false_eq_true, Bool.not_true, Bool.not_false, Int.toNat_natCast, List.getElem?_cons_zero, List.getElem?_cons_succ, Int.natCast_add, Int.cast_ofNat_Int, true_and, and_true, and_self, if_true, if_false, u8_length, Nat.mul_one, Nat.one_mul, Nat.zero_add, Nat.add_zero, List.drop_zero, beq_self_eq_true, Bool.and_self, Bool.and_true, Bool.true_and, AV.one, List.all_cons, List.all_nil, repCells, fillA, partCells, Nat.reduceLT, Nat.reduceLeDiff, Nat.reduceBEq, Nat.reduceMul, Nat.reduceSub, Int.reduceLT, Int.reduceLE, Int.reduceAdd, Int.reduceSub, Int.reduceMul, Int.reduceToNat, List.take_nil, List.drop_nil, List.take_zero, List.append_nil, sliceCells, cellsAt, srcA, app, List.set_cons_zero, List.set_cons_succ, List.length_set, Nat.le_refl, Nat.zero_le, List.take_length, decU8_u8, reduceCtorEq, List.drop_succ_cons, List.take_succ_cons, Int.reduceEq, g3, g6, g8, g9, g10, g11, g13, g14, hlt2, resA, ht]
              exact fin0 _
        · have g8 : (((n % 2 : Nat) : Int) == 1) = false := by simp; omega
          have e0 : nextM l = some ((l.take 4, r.take n), r.drop n) := by
            simp only [nextM, hn', g7, hr]
            rw [if_neg (by simp; omega), if_neg (by omega), if_neg hodd, ← hr, List.drop_drop]
          rw [e0]
          simp only [walk, ev, okW, onlyFr, Bool.false_and, sealw, aop, cV, cV1, List.length_nil, List.length_cons, List.map_nil, List.map_cons, List.cons_append, List.nil_append, ↓reduceIte, Nat.reduceEqDiff, Nat.reduceAdd, Option.map_some, Option.map_none, Option.bind_some, decide_true, decide_false, Bool.false_eq_true, Bool.not_true, Bool.not_false, Int.toNat_natCast, List.getElem?_cons_zero, List.getElem?_cons_succ, Int.natCast_add, Int.cast_ofNat_Int, true_and, and_true, and_self, if_true, if_false, u8_length, Nat.mul_one, Nat.one_mul, Nat.zero_add, Nat.add_zero, List.drop_zero, beq_self_eq_true, Bool.and_self, Bool.and_true, Bool.true_and, AV.one, List.all_cons, List.all_nil, repCells, fillA, partCells, Nat.reduceLT, Nat.reduceLeDiff, Nat.reduceBEq, Nat.reduceMul, Nat.reduceSub, Int.reduceLT, Int.reduceLE, Int.reduceAdd, Int.reduceSub, Int.reduceMul, Int.reduceToNat, List.take_nil, List.drop_nil, List.take_zero, List.append_nil, sliceCells, cellsAt, srcA, app, List.set_cons_zero, List.set_cons_succ, List.length_set, Nat.le_refl, Nat.zero_le, List.take_length, decU8_u8, reduceCtorEq, List.drop_succ_cons, List.take_succ_cons, Int.reduceEq, g3, g6, g8, resA, ht]
          exact fin2 _ (l.take 4, r.take n) (r.drop n) _ _ g2.symm rfl
end Go.Am

namespace Go.Am
open Go.RowKit

def chunksM : Nat → List Ck → List UInt8 → Nat ⊕ List Ck
  | 0, _, _ => .inl 0
  | k + 1, out, rest =>
    if rest = [] then .inr out
    else if out.length = 20 then .inl 4
    else match nextM rest with
      | none => .inl 12
      | some (c, left) => chunksM k (out ++ [c]) left

def riffW : List UInt8 := [82, 73, 70, 70]

def readM (l : List UInt8) : Nat ⊕ (List UInt8 × List Ck) :=
  if l.length < 12 then .inl 24
  else
    let n := leN ((l.drop 4).take 4)
    let form := (l.drop 8).take 4
    if l.take 4 ≠ riffW ∨ nameB form = false ∨ n < 4 then .inl 12
    else if 100000 < n + 8 then .inl 4
    else if l.length < n + 8 then .inl 24
    else match chunksM (n + 1) [] ((l.drop 12).take (n - 4)) with
      | .inl e => .inl e
      | .inr out => if n + 8 < l.length then .inl 38 else .inr (form, out)

def ckL : List Ck → List AV
  | [] => []
  | c :: r => .str c.1 :: bs c.2 :: ckL r

theorem ckL_length : ∀ l : List Ck, (ckL l).length = l.length * 2
  | [] => rfl
  | c :: r => by simp [ckL, ckL_length r]; omega
theorem ckL_append : ∀ a b : List Ck, ckL a ++ ckL b = ckL (a ++ b)
  | [], b => rfl
  | c :: a, b => by simp [ckL, ckL_append a b]
theorem isT_ckL : ∀ l : List Ck, isTL (ckL l) = true
  | [] => rfl
  | c :: r => by simp [ckL, isTL, isT, isT_bs, isT_ckL r]

def readA : Nat ⊕ (List UInt8 × List Ck) → AV
  | .inl e => .tup [.str [], .list 0 [], .int .i64 e]
  | .inr (form, out) => .tup [.str form, .list out.length (ckL out), .int .i64 0]

theorem isD_read (r : Nat ⊕ (List UInt8 × List Ck)) : isD (readA r) = true := by
  cases r with
  | inl e => rfl
  | inr p => obtain ⟨f, o⟩ := p; simp [readA, isD, isDL, isTL_D (isT_ckL o)]

theorem nextM_lt {l : List UInt8} {c : Ck} {r : List UInt8} (h : nextM l = some (c, r)) : r.length < l.length ∧ c.1.length = 4 := by
  unfold nextM at h
  split at h
  · cases h
  rename_i h0
  simp only at h
  split at h
  · cases h
  split at h
  · split at h
    · cases h
    · cases h; simp; omega
  · cases h; simp; omega

def S_Read (P : Prg) (f : Nat) : Prop := ∀ l : List UInt8, l.length < 140737488355328 → VC P f [bs l] (readA (readM l))

set_option maxRecDepth 20000 in
theorem riff_Read {P : Prg} {f fA fN fX t0 : Nat} (b : Body P f 80 [.tmp 2, .tmp 3, .tmp 4] (ac_riff_Read fA fN fX t0)) (hA : S_le_At P fA) (hN : S_isName P fN) (hX : S_riff_next P fX) : S_Read P f := by
  intro l hl
  refine VC.of_walk 1 (by simp [isDL, isD_bs]) (isD_read _) (ACall.of_body b (by simp) ?_)
  have fin0 : ∀ ob (e : Int) (n : Nat), e = n → frzN (fun _ => true) ob 2 [.tup [.str [], .emp true, .int .i64 e]] = some [readA (.inl n)] := by
    rintro ob e n rfl
    simp [frzN, frzK, frzL, frzV, readA]
  by_cases h12 : l.length < 12
  · have e0 : readM l = .inl 24 := by simp [readM, h12]
    have e1 : (l.length : Int) < 12 := by omega
    rw [e0]
    simp only [walk, ev, okW, onlyFr, Bool.false_and, sealw, aop, cV, cV1, List.length_nil, List.length_cons, List.map_nil, List.map_cons, List.cons_append, List.nil_append, ↓reduceIte, Nat.reduceEqDiff, Nat.reduceAdd, Option.map_some, Option.map_none, Option.bind_some, decide_true, decide_false, Bool.false_eq_true, Bool.not_true, Bool.not_false, Int.toNat_natCast, List.getElem?_cons_zero, List.getElem?_cons_succ, Int.natCast_add, Int.cast_ofNat_Int, true_and, and_true, and_self, if_true, if_false, u8_length, Nat.mul_one, Nat.one_mul, Nat.zero_add, Nat.add_zero, List.drop_zero, beq_self_eq_true, Bool.and_self, Bool.and_true, Bool.true_and, AV.one, List.all_cons, List.all_nil, repCells, fillA, partCells, Nat.reduceLT, Nat.reduceLeDiff, Nat.reduceBEq, Nat.reduceMul, Nat.reduceSub, Int.reduceLT, Int.reduceLE, Int.reduceAdd, Int.reduceSub, Int.reduceMul, Int.reduceToNat, List.take_nil, List.drop_nil, List.take_zero, List.append_nil, sliceCells, cellsAt, srcA, app, List.set_cons_zero, List.set_cons_succ, List.length_set, Nat.le_refl, Nat.zero_le, List.take_length, decU8_u8, reduceCtorEq, List.drop_succ_cons, List.take_succ_cons, Int.reduceEq, ac_riff_Read, bs, e1, resA]
    exact fin0 _ _ _ rfl
  · have e1 : ¬ (l.length : Int) < 12 := by omega
    have hv := hA l 4 4 (by omega) (by omega) (by omega) (by omega)
    rw [if_pos (by omega : 4 + 4 ≤ l.length)] at hv
    generalize hnn : leN ((l.drop 4).take 4) = n at hv
    have hn4 : n < 4294967296 := by
      have := leN_lt ((l.drop 4).take 4)
      rw [hnn, len_at (by omega)] at this
      exact this
    have e2 := sub_at (ob := []) (l := l) (a := 8) (b := 12) 8 12 4 rfl rfl rfl (by omega)
    have e3 := len_at (l := l) (i := 8) (n := 4) (by omega)
    have e4 := sub_at (ob := []) (l := l) (a := 0) (b := 4) 0 4 4 rfl rfl rfl (by omega)
    have e5 := len_at (l := l) (i := 0) (n := 4) (by omega)
    simp only [List.drop_zero] at e4 e5
    simp only [walk, ev, okW, onlyFr, Bool.false_and, sealw, aop, cV, cV1, List.length_nil, List.length_cons, List.map_nil, List.map_cons, List.cons_append, List.nil_append, ↓reduceIte, Nat.reduceEqDiff, Nat.reduceAdd, Option.map_some, Option.map_none, Option.bind_some, decide_true, decide_false, Bool.false_eq_true, Bool.not_true, Bool.not_false, Int.toNat_natCast, List.getElem?_cons_zero, List.getElem?_cons_succ, Int.natCast_add, Int.cast_ofNat_Int, true_and, and_true, and_self, if_true, if_false, u8_length, Nat.mul_one, Nat.one_mul, Nat.zero_add, Nat.add_zero, List.drop_zero, beq_self_eq_true, Bool.and_self, Bool.and_true, Bool.true_and, AV.one, List.all_cons, List.all_nil, repCells, fillA, partCells, Nat.reduceLT, Nat.reduceLeDiff, Nat.reduceBEq, Nat.reduceMul, Nat.reduceSub, Int.reduceLT, Int.reduceLE, Int.reduceAdd, Int.reduceSub, Int.reduceMul, Int.reduceToNat, List.take_nil, List.drop_nil, List.take_zero, List.append_nil, sliceCells, cellsAt, srcA, app, List.set_cons_zero, List.set_cons_succ, List.length_set, Nat.le_refl, Nat.zero_le, List.take_length, decU8_u8, reduceCtorEq, List.drop_succ_cons, List.take_succ_cons, Int.reduceEq, ac_riff_Read, bs, e1, resA]
    refine callQ.vc hv ?_
    simp only [walk, ev, okW, onlyFr, Bool.false_and, sealw, aop, cV, cV1, List.length_nil, List.length_cons, List.map_nil, List.map_cons, List.cons_append, List.nil_append, ↓reduceIte, Nat.reduceEqDiff, Nat.reduceAdd, Option.map_some, Option.map_none, Option.bind_some, decide_true, decide_false, Bool.false_eq_true, Bool.not_true, Bool.not_false, Int.toNat_natCast, List.getElem?_cons_zero, List.getElem?_cons_succ, Int.natCast_add, Int.cast_ofNat_Int, true_and, and_true, and_self, if_true, if_false, u8_length, Nat.mul_one, Nat.one_mul, Nat.zero_add, Nat.add_zero, List.drop_zero, beq_self_eq_true, Bool.and_self, Bool.and_true, Bool.true_and, AV.one, List.all_cons, List.all_nil, repCells, fillA, partCells, Nat.reduceLT, Nat.reduceLeDiff, Nat.reduceBEq, Nat.reduceMul, Nat.reduceSub, Int.reduceLT, Int.reduceLE, Int.reduceAdd, Int.reduceSub, Int.reduceMul, Int.reduceToNat, List.take_nil, List.drop_nil, List.take_zero, List.append_nil, sliceCells, cellsAt, srcA, app, List.set_cons_zero, List.set_cons_succ, List.length_set, Nat.le_refl, Nat.zero_le, List.take_length, decU8_u8, reduceCtorEq, List.drop_succ_cons, List.take_succ_cons, Int.reduceEq, e2, e3, e4, e5, strA]
    generalize hform : (l.drop 8).take 4 = form at *
    have hR : ([82, 73, 70, 70] : List UInt8) = riffW := rfl
    have f1 : IntKind.u64.wrap ((n : Int) + 8) = (n : Int) + 8 := by rw [wrap_u64] <;> omega
    have f2 : IntKind.u64.wrap (l.length : Int) = (l.length : Int) := by rw [wrap_u64] <;> omega
    by_cases hr : l.take 4 = riffW
    · have g1 : (l.take 4 == riffW) = true := by rw [hr]; rfl
      simp only [walk, ev, okW, onlyFr, Bool.false_and, sealw, aop, cV, cV1, List.length_nil, List.length_cons, List.map_nil, List.map_cons, List.cons_append, List.nil_append, ↓reduceIte, Nat.reduceEqDiff, Nat.reduceAdd, Option.map_some, Option.map_none, Option.bind_some, decide_true, decide_false, Bool.false_eq_true, Bool.not_true, Bool.not_false, Int.toNat_natCast, List.getElem?_cons_zero, List.getElem?_cons_succ, Int.natCast_add, Int.cast_ofNat_Int, true_and, and_true, and_self, if_true, if_false, u8_length, Nat.mul_one, Nat.one_mul, Nat.zero_add, Nat.add_zero, List.drop_zero, beq_self_eq_true, Bool.and_self, Bool.and_true, Bool.true_and, AV.one, List.all_cons, List.all_nil, repCells, fillA, partCells, Nat.reduceLT, Nat.reduceLeDiff, Nat.reduceBEq, Nat.reduceMul, Nat.reduceSub, Int.reduceLT, Int.reduceLE, Int.reduceAdd, Int.reduceSub, Int.reduceMul, Int.reduceToNat, List.take_nil, List.drop_nil, List.take_zero, List.append_nil, sliceCells, cellsAt, srcA, app, List.set_cons_zero, List.set_cons_succ, List.length_set, Nat.le_refl, Nat.zero_le, List.take_length, decU8_u8, reduceCtorEq, List.drop_succ_cons, List.take_succ_cons, Int.reduceEq, hR, g1]
      refine callQ.vc (hN form (by omega)) ?_
      by_cases hf : nameB form = true
      · simp only [walk, ev, okW, onlyFr, Bool.false_and, sealw, aop, cV, cV1, List.length_nil, List.length_cons, List.map_nil, List.map_cons, List.cons_append, List.nil_append, ↓reduceIte, Nat.reduceEqDiff, Nat.reduceAdd, Option.map_some, Option.map_none, Option.bind_some, decide_true, decide_false, Bool.false_eq_true, Bool.not_true, Bool.not_false, Int.toNat_natCast, List.getElem?_cons_zero, List.getElem?_cons_succ, Int.natCast_add, Int.cast_ofNat_Int, true_and, and_true, and_self, if_true, if_false, u8_length, Nat.mul_one, Nat.one_mul, Nat.zero_add, Nat.add_zero, List.drop_zero, beq_self_eq_true, Bool.and_self, Bool.and_true, Bool.true_and, AV.one, List.all_cons, List.all_nil, repCells, fillA, partCells, Nat.reduceLT, Nat.reduceLeDiff, Nat.reduceBEq, Nat.reduceMul, Nat.reduceSub, Int.reduceLT, Int.reduceLE, Int.reduceAdd, Int.reduceSub, Int.reduceMul, Int.reduceToNat, List.take_nil, List.drop_nil, List.take_zero, List.append_nil, sliceCells, cellsAt, srcA, app, List.set_cons_zero, List.set_cons_succ, List.length_set, Nat.le_refl, Nat.zero_le, List.take_length, decU8_u8, reduceCtorEq, List.drop_succ_cons, List.take_succ_cons, Int.reduceEq, hf]
        by_cases h4 : n < 4
        · have g2 : (n : Int) < 4 := by omega
          have e0 : readM l = .inl 12 := by simp [readM, h12, hnn, hform, hr, hf, h4]
          rw [e0]
          simp only [walk, ev, okW, onlyFr, Bool.false_and, sealw, aop, cV, cV1, List.length_nil, List.length_cons, List.map_nil, List.map_cons, List.cons_append, List.nil_append, ↓reduceIte, Nat.reduceEqDiff, Nat.reduceAdd, Option.map_some, Option.map_none, Option.bind_some, decide_true, decide_false, Bool.false_eq_true, Bool.not_true, Bool.not_false, Int.toNat_natCast, List.getElem?_cons_zero, List.getElem?_cons_succ, Int.natCast_add, Int.cast_ofNat_Int, true_and, and_true, and_self, if_true, if_false, u8_length, Nat.mul_one, Nat.one_mul, Nat.zero_add, Nat.add_zero, List.drop_zero, beq_self_eq_true, Bool.and_self, Bool.and_true, Bool.true_and, AV.one, List.all_cons, List.all_nil, repCells, fillA, partCells, Nat.reduceLT, Nat.reduceLeDiff, Nat.reduceBEq, Nat.reduceMul, Nat.reduceSub, Int.reduceLT, Int.reduceLE, Int.reduceAdd, Int.reduceSub, Int.reduceMul, Int.reduceToNat, List.take_nil, List.drop_nil, List.take_zero, List.append_nil, sliceCells, cellsAt, srcA, app, List.set_cons_zero, List.set_cons_succ, List.length_set, Nat.le_refl, Nat.zero_le, List.take_length, decU8_u8, reduceCtorEq, List.drop_succ_cons, List.take_succ_cons, Int.reduceEq, g2, resA]
          exact fin0 _ _ _ rfl
        · have g2 : ¬ (n : Int) < 4 := by omega
          by_cases hbig : 100000 < n + 8
          · have g3 : (100000 : Int) < (n : Int) + 8 := by omega
            have e0 : readM l = .inl 4 := by simp [readM, h12, hnn, hform, hr, hf, h4, hbig]
            rw [e0]
            simp only [walk, ev, okW, onlyFr, Bool.false_and, sealw, aop, cV, cV1, List.length_nil, List.length_cons, List.map_nil, List.map_cons, List.cons_append, List.nil_append, ↓reduceIte, Nat.reduceEqDiff, Nat.reduceAdd, Option.map_some, Option.map_none, Option.bind_some, decide_true, decide_false, Bool.false_eq_true, Bool.not_true, Bool.not_false, Int.toNat_natCast, List.getElem?_cons_zero, List.getElem?_cons_succ, Int.natCast_add, Int.cast_ofNat_Int, true_and, and_true, and_self, if_true, if_false, u8_length, Nat.mul_one, Nat.one_mul, Nat.zero_add, Nat.add_zero, List.drop_zero, beq_self_eq_true, Bool.and_self, Bool.and_true, Bool.true_and, AV.one, List.all_cons, List.all_nil, repCells, fillA, partCells, Nat.reduceLT, Nat.reduceLeDiff, Nat.reduceBEq, Nat.reduceMul, Nat.reduceSub, Int.reduceLT, Int.reduceLE, Int.reduceAdd, Int.reduceSub, Int.reduceMul, Int.reduceToNat, List.take_nil, List.drop_nil, List.take_zero, List.append_nil, sliceCells, cellsAt, srcA, app, List.set_cons_zero, List.set_cons_succ, List.length_set, Nat.le_refl, Nat.zero_le, List.take_length, decU8_u8, reduceCtorEq, List.drop_succ_cons, List.take_succ_cons, Int.reduceEq, g2, f1, g3, resA]
            exact fin0 _ _ _ rfl
          · have g3 : ¬ (100000 : Int) < (n : Int) + 8 := by omega
            by_cases hsh : l.length < n + 8
            · have g4 : (l.length : Int) < (n : Int) + 8 := by omega
              have e0 : readM l = .inl 24 := by simp [readM, h12, hnn, hform, hr, hf, h4, hbig, hsh]
              rw [e0]
              simp only [walk, ev, okW, onlyFr, Bool.false_and, sealw, aop, cV, cV1, List.length_nil, List.length_cons, List.map_nil, List.map_cons, List.cons_append, List.nil_append, ↓reduceIte, Nat.reduceEqDiff, Nat.reduceAdd, Option.map_some, Option.map_none, Option.bind_some, decide_true, decide_false, Bool.false_eq_true, Bool.not_true, Bool.not_false, Int.toNat_natCast, List.getElem?_cons_zero, List.getElem?_cons_succ, Int.natCast_add, Int.cast_ofNat_Int, true_and, and_true, and_self, if_true, if_false, u8_length, Nat.mul_one, Nat.one_mul, Nat.zero_add, Nat.add_zero, List.drop_zero, beq_self_eq_true, Bool.and_self, Bool.and_true, Bool.true_and, AV.one, List.all_cons, List.all_nil, repCells, fillA, partCells, Nat.reduceLT, Nat.reduceLeDiff, Nat.reduceBEq, Nat.reduceMul, Nat.reduceSub, Int.reduceLT, Int.reduceLE, Int.reduceAdd, Int.reduceSub, Int.reduceMul, Int.reduceToNat, List.take_nil, List.drop_nil, List.take_zero, List.append_nil, sliceCells, cellsAt, srcA, app, List.set_cons_zero, List.set_cons_succ, List.length_set, Nat.le_refl, Nat.zero_le, List.take_length, decU8_u8, reduceCtorEq, List.drop_succ_cons, List.take_succ_cons, Int.reduceEq, g2, f1, f2, g3, g4, resA]
              exact fin0 _ _ _ rfl
            · have g4 : ¬ (l.length : Int) < (n : Int) + 8 := by omega
              have g5 := sub_at (ob := []) (l := l) (a := 12) (b := (n : Int) + 8) 12 (n + 8) (n - 4) rfl (by omega) (by omega) (by omega)
              have g6 := len_at (l := l) (i := 12) (n := n - 4) (by omega)
              simp only [walk, ev, okW, onlyFr, Bool.false_and, sealw, aop, cV, cV1, List.length_nil, List.length_cons, List.map_nil, List.map_cons, List.cons_append, List.nil_append, ↓reduceIte, Nat.reduceEqDiff, Nat.reduceAdd, Option.map_some, Option.map_none, Option.bind_some, decide_true, decide_false, Bool.false_eq_true, Bool.not_true, Bool.not_false, Int.toNat_natCast, List.getElem?_cons_zero, List.getElem?_cons_succ, Int.natCast_add, Int.cast_ofNat_Int, true_and, and_true, and_self, if_true, if_false, u8_length, Nat.mul_one, Nat.one_mul, Nat.zero_add, Nat.add_zero, List.drop_zero, beq_self_eq_true, Bool.and_self, Bool.and_true, Bool.true_and, AV.one, List.all_cons, List.all_nil, repCells, fillA, partCells, Nat.reduceLT, Nat.reduceLeDiff, Nat.reduceBEq, Nat.reduceMul, Nat.reduceSub, Int.reduceLT, Int.reduceLE, Int.reduceAdd, Int.reduceSub, Int.reduceMul, Int.reduceToNat, List.take_nil, List.drop_nil, List.take_zero, List.append_nil, sliceCells, cellsAt, srcA, app, List.set_cons_zero, List.set_cons_succ, List.length_set, Nat.le_refl, Nat.zero_le, List.take_length, decU8_u8, reduceCtorEq, List.drop_succ_cons, List.take_succ_cons, Int.reduceEq, g2, f1, f2, g3, g4, g5]
              generalize hrest : (l.drop 12).take (n - 4) = rest0 at *
              generalize hR0 : chunksM (n + 1) [] rest0 = R
              have e0 : readM l = match R with
                  | .inl e => .inl e
                  | .inr out => if n + 8 < l.length then .inl 38 else .inr (form, out) := by
                simp only [readM, hnn, hform, hrest, hR0]
                rw [if_neg h12, if_neg (by simp [hr, hf]; omega), if_neg hbig, if_neg hsh]
                cases R <;> rfl
              rw [e0]
              refine ALoop.by (ι := Nat × List Ck × List UInt8) (fun i => ⟨[(9, bs i.2.2), (8, .own 0 i.2.1.length), (7, .str form), (5, .int .u64 n), (0, bs l)], [⟨t0, 2, i.2.1.length, ckL i.2.1, 0⟩]⟩)
                (fun i => chunksM i.1 i.2.1 i.2.2 = R ∧ i.2.2.length < i.1 ∧ i.2.2.length ≤ n ∧ i.2.1.length ≤ 20) (fun i => i.2.2.length) (n + 1, [], rest0)
                (Le.trans (Le.virt 8 t0 2 (by omega) rfl) (Le.slots (by simp [Am.look, bs, g6]))) ⟨hR0, by simp only; omega, by simp only; omega, by simp⟩ ?_
              rintro ⟨k, out, rest⟩ ⟨i1, i2, i3, i4⟩
              simp only at i1 i2 i3 i4
              obtain ⟨k, rfl⟩ : ∃ k', k = k' + 1 := ⟨k - 1, by omega⟩
              simp only [chunksM] at i1
              by_cases hemp : rest = []
              · rw [if_pos hemp] at i1
                subst hemp
                subst i1
                by_cases hmore : n + 8 < l.length
                · have h1 : (n : Int) + 8 < l.length := by omega
                  simp only [walk, ev, okW, onlyFr, Bool.false_and, sealw, aop, cV, cV1, List.length_nil, List.length_cons, List.map_nil, List.map_cons, List.cons_append, List.nil_append, ↓reduceIte, Nat.reduceEqDiff, Nat.reduceAdd, Option.map_some, Option.map_none, Option.bind_some, decide_true, decide_false, Bool.false_eq_true, Bool.not_true, Bool.not_false, Int.toNat_natCast, List.getElem?_cons_zero, List.getElem?_cons_succ, Int.natCast_add, Int.cast_ofNat_Int, true_and, and_true, and_self, if_true, if_false, u8_length, Nat.mul_one, Nat.one_mul, Nat.zero_add, Nat.add_zero, List.drop_zero, beq_self_eq_true, Bool.and_self, Bool.and_true, Bool.true_and, AV.one, List.all_cons, List.all_nil, repCells, fillA, partCells, Nat.reduceLT, Nat.reduceLeDiff, Nat.reduceBEq, Nat.reduceMul, Nat.reduceSub, Int.reduceLT, Int.reduceLE, Int.reduceAdd, Int.reduceSub, Int.reduceMul, Int.reduceToNat, List.take_nil, List.drop_nil, List.take_zero, List.append_nil, sliceCells, cellsAt, srcA, app, List.set_cons_zero, List.set_cons_succ, List.length_set, Nat.le_refl, Nat.zero_le, List.take_length, decU8_u8, reduceCtorEq, List.drop_succ_cons, List.take_succ_cons, Int.reduceEq, bs, f1, f2, h1, hmore, resA]
                  exact fin0 _ _ _ rfl
                · have h1 : ¬ (n : Int) + 8 < l.length := by omega
                  simp only [walk, ev, okW, onlyFr, Bool.false_and, sealw, aop, cV, cV1, List.length_nil, List.length_cons, List.map_nil, List.map_cons, List.cons_append, List.nil_append, ↓reduceIte, Nat.reduceEqDiff, Nat.reduceAdd, Option.map_some, Option.map_none, Option.bind_some, decide_true, decide_false, Bool.false_eq_true, Bool.not_true, Bool.not_false, Int.toNat_natCast, List.getElem?_cons_zero, List.getElem?_cons_succ, Int.natCast_add, Int.cast_ofNat_Int, true_and, and_true, and_self, if_true, if_false, u8_length, Nat.mul_one, Nat.one_mul, Nat.zero_add, Nat.add_zero, List.drop_zero, beq_self_eq_true, Bool.and_self, Bool.and_true, Bool.true_and, AV.one, List.all_cons, List.all_nil, repCells, fillA, partCells, Nat.reduceLT, Nat.reduceLeDiff, Nat.reduceBEq, Nat.reduceMul, Nat.reduceSub, Int.reduceLT, Int.reduceLE, Int.reduceAdd, Int.reduceSub, Int.reduceMul, Int.reduceToNat, List.take_nil, List.drop_nil, List.take_zero, List.append_nil, sliceCells, cellsAt, srcA, app, List.set_cons_zero, List.set_cons_succ, List.length_set, Nat.le_refl, Nat.zero_le, List.take_length, decU8_u8, reduceCtorEq, List.drop_succ_cons, List.take_succ_cons, Int.reduceEq, bs, f1, f2, h1, hmore, resA]
                  simp [frzN, frzK, frzL, frzV, readA, frzL_T _ (isT_ckL out)]
              · rw [if_neg hemp] at i1
                have hpos : 0 < rest.length := List.length_pos_iff.2 hemp
                have h1 : (0 : Int) < rest.length := by omega
                by_cases h20 : out.length = 20
                · rw [if_pos h20] at i1
                  subst i1
                  have h2 : ((out.length : Int) == 20) = true := by simp; omega
                  simp only [walk, ev, okW, onlyFr, Bool.false_and, sealw, aop, cV, cV1, List.length_nil, List.length_cons, List.map_nil, List.map_cons, List.cons_append, List.nil_append, ↓reduceIte, Nat.reduceEqDiff, Nat.reduceAdd, Option.map_some, Option.map_none, Option.bind_some, decide_true, decide_false, Bool.false_eq_true, Bool.not_true, Bool.not_false, Int.toNat_natCast, List.getElem?_cons_zero, List.getElem?_cons_succ, Int.natCast_add, Int.cast_ofNat_Int, true_and, and_true, and_self, if_true, if_false, u8_length, Nat.mul_one, Nat.one_mul, Nat.zero_add, Nat.add_zero, List.drop_zero, beq_self_eq_true, Bool.and_self, Bool.and_true, Bool.true_and, AV.one, List.all_cons, List.all_nil, repCells, fillA, partCells, Nat.reduceLT, Nat.reduceLeDiff, Nat.reduceBEq, Nat.reduceMul, Nat.reduceSub, Int.reduceLT, Int.reduceLE, Int.reduceAdd, Int.reduceSub, Int.reduceMul, Int.reduceToNat, List.take_nil, List.drop_nil, List.take_zero, List.append_nil, sliceCells, cellsAt, srcA, app, List.set_cons_zero, List.set_cons_succ, List.length_set, Nat.le_refl, Nat.zero_le, List.take_length, decU8_u8, reduceCtorEq, List.drop_succ_cons, List.take_succ_cons, Int.reduceEq, bs, h1, h2, resA]
                  exact fin0 _ _ _ rfl
                · rw [if_neg h20] at i1
                  have h2 : ((out.length : Int) == 20) = false := by simp; omega
                  simp only [walk, ev, okW, onlyFr, Bool.false_and, sealw, aop, cV, cV1, List.length_nil, List.length_cons, List.map_nil, List.map_cons, List.cons_append, List.nil_append, ↓reduceIte, Nat.reduceEqDiff, Nat.reduceAdd, Option.map_some, Option.map_none, Option.bind_some, decide_true, decide_false, Bool.false_eq_true, Bool.not_true, Bool.not_false, Int.toNat_natCast, List.getElem?_cons_zero, List.getElem?_cons_succ, Int.natCast_add, Int.cast_ofNat_Int, true_and, and_true, and_self, if_true, if_false, u8_length, Nat.mul_one, Nat.one_mul, Nat.zero_add, Nat.add_zero, List.drop_zero, beq_self_eq_true, Bool.and_self, Bool.and_true, Bool.true_and, AV.one, List.all_cons, List.all_nil, repCells, fillA, partCells, Nat.reduceLT, Nat.reduceLeDiff, Nat.reduceBEq, Nat.reduceMul, Nat.reduceSub, Int.reduceLT, Int.reduceLE, Int.reduceAdd, Int.reduceSub, Int.reduceMul, Int.reduceToNat, List.take_nil, List.drop_nil, List.take_zero, List.append_nil, sliceCells, cellsAt, srcA, app, List.set_cons_zero, List.set_cons_succ, List.length_set, Nat.le_refl, Nat.zero_le, List.take_length, decU8_u8, reduceCtorEq, List.drop_succ_cons, List.take_succ_cons, Int.reduceEq, bs, h1, h2, resA]
                  refine callQ.vc (hX rest (by omega)) ?_
                  cases hnx : nextM rest with
                  | none =>
                    rw [hnx] at i1
                    subst i1
                    simp only [walk, ev, okW, onlyFr, Bool.false_and, sealw, aop, cV, cV1, List.length_nil, List.length_cons, List.map_nil, List.map_cons, List.cons_append, List.nil_append, ↓reduceIte, Nat.reduceEqDiff, Nat.reduceAdd, Option.map_some, Option.map_none, Option.bind_some, decide_true, decide_false, Bool.false_eq_true, Bool.not_true, Bool.not_false, Int.toNat_natCast, List.getElem?_cons_zero, List.getElem?_cons_succ, Int.natCast_add, Int.cast_ofNat_Int, true_and, and_true, and_self, if_true, if_false, u8_length, Nat.mul_one, Nat.one_mul, Nat.zero_add, Nat.add_zero, List.drop_zero, beq_self_eq_true, Bool.and_self, Bool.and_true, Bool.true_and, AV.one, List.all_cons, List.all_nil, repCells, fillA, partCells, Nat.reduceLT, Nat.reduceLeDiff, Nat.reduceBEq, Nat.reduceMul, Nat.reduceSub, Int.reduceLT, Int.reduceLE, Int.reduceAdd, Int.reduceSub, Int.reduceMul, Int.reduceToNat, List.take_nil, List.drop_nil, List.take_zero, List.append_nil, sliceCells, cellsAt, srcA, app, List.set_cons_zero, List.set_cons_succ, List.length_set, Nat.le_refl, Nat.zero_le, List.take_length, decU8_u8, reduceCtorEq, List.drop_succ_cons, List.take_succ_cons, Int.reduceEq, nextA, ckA, bs, u8_nil, resA]
                    exact fin0 _ _ _ rfl
                  | some p =>
                    obtain ⟨c, left⟩ := p
                    rw [hnx] at i1
                    simp only at i1
                    have hlt := (nextM_lt hnx).1
                    have h3 : (out.length + 1) * 40 ≤ 140737488355328 := by omega
                    have h4' : out.length + 1 ≤ 9223372036854775807 := by omega
                    have h5 := ckL_length out
                    simp only [walk, ev, okW, onlyFr, Bool.false_and, sealw, aop, cV, cV1, List.length_nil, List.length_cons, List.map_nil, List.map_cons, List.cons_append, List.nil_append, ↓reduceIte, Nat.reduceEqDiff, Nat.reduceAdd, Option.map_some, Option.map_none, Option.bind_some, decide_true, decide_false, Bool.false_eq_true, Bool.not_true, Bool.not_false, Int.toNat_natCast, List.getElem?_cons_zero, List.getElem?_cons_succ, Int.natCast_add, Int.cast_ofNat_Int, true_and, and_true, and_self, if_true, if_false, u8_length, Nat.mul_one, Nat.one_mul, Nat.zero_add, Nat.add_zero, List.drop_zero, beq_self_eq_true, Bool.and_self, Bool.and_true, Bool.true_and, AV.one, List.all_cons, List.all_nil, repCells, fillA, partCells, Nat.reduceLT, Nat.reduceLeDiff, Nat.reduceBEq, Nat.reduceMul, Nat.reduceSub, Int.reduceLT, Int.reduceLE, Int.reduceAdd, Int.reduceSub, Int.reduceMul, Int.reduceToNat, List.take_nil, List.drop_nil, List.take_zero, List.append_nil, sliceCells, cellsAt, srcA, app, List.set_cons_zero, List.set_cons_succ, List.length_set, Nat.le_refl, Nat.zero_le, List.take_length, decU8_u8, reduceCtorEq, List.drop_succ_cons, List.take_succ_cons, Int.reduceEq, nextA, ckA, bs, h3, h4', h5]
                    refine ⟨(k, out ++ [c], left), ⟨i1, by simp only; omega, by simp only; omega, by simp; omega⟩, hlt, ?_⟩
                    have hck : ckL out ++ [.str c.1, .list c.2.length (u8 c.2)] = ckL (out ++ [c]) := by rw [← ckL_append]; rfl
                    rw [hck]
                    refine Le.drop 1 2 (by omega) rfl ?_ ?_
                    · simp [Am.look, frzK, frzL, frzV, frzL_T _ (isT_u8 _)]
                    · intro i y hy
                      match i, hy with
                      | 0, hy =>
                        simp at hy
                        subst hy
                        exact ⟨ckL (out ++ [c]), by simp, by simp only [frzK]; exact frzL_T _ (isT_ckL _)⟩
                      | i + 1, hy => simp at hy
      · have e0 : readM l = .inl 12 := by simp [readM, h12, hnn, hform, hr, hf]
        have hf' : nameB form = false := by simpa using hf
        rw [e0]
        simp only [walk, ev, okW, onlyFr, Bool.false_and, sealw, aop, cV, cV1, List.length_nil, List.length_cons, List.map_nil, List.map_cons, List.cons_append, List.nil_append, ↓reduceIte, Nat.reduceEqDiff, Nat.reduceAdd, Option.map_some, Option.map_none, Option.bind_some, decide_true, decide_false, Bool.false_eq_true, Bool.not_true, Bool.not_false, Int.toNat_natCast, List.getElem?_cons_zero, List.getElem?_cons_succ, Int.natCast_add, Int.cast_ofNat_Int, true_and, and_true, and_self, if_true, if_false, u8_length, Nat.mul_one, Nat.one_mul, Nat.zero_add, Nat.add_zero, List.drop_zero, beq_self_eq_true, Bool.and_self, Bool.and_true, Bool.true_and, AV.one, List.all_cons, List.all_nil, repCells, fillA, partCells, Nat.reduceLT, Nat.reduceLeDiff, Nat.reduceBEq, Nat.reduceMul, Nat.reduceSub, Int.reduceLT, Int.reduceLE, Int.reduceAdd, Int.reduceSub, Int.reduceMul, Int.reduceToNat, List.take_nil, List.drop_nil, List.take_zero, List.append_nil, sliceCells, cellsAt, srcA, app, List.set_cons_zero, List.set_cons_succ, List.length_set, Nat.le_refl, Nat.zero_le, List.take_length, decU8_u8, reduceCtorEq, List.drop_succ_cons, List.take_succ_cons, Int.reduceEq, hf', resA]
        exact fin0 _ _ _ rfl
    · have g1 : (l.take 4 == riffW) = false := by simpa using hr
      have e0 : readM l = .inl 12 := by simp [readM, h12, hnn, hform, hr]
      rw [e0]
      simp only [walk, ev, okW, onlyFr, Bool.false_and, sealw, aop, cV, cV1, List.length_nil, List.length_cons, List.map_nil, List.map_cons, List.cons_append, List.nil_append, ↓reduceIte, Nat.reduceEqDiff, Nat.reduceAdd, Option.map_some, Option.map_none, Option.bind_some, decide_true, decide_false, Bool.false_eq_true, Bool.not_true, Bool.not_false, Int.toNat_natCast, List.getElem?_cons_zero, List.getElem?_cons_succ, Int.natCast_add, Int.cast_ofNat_Int, true_and, and_true, and_self, if_true, if_false, u8_length, Nat.mul_one, Nat.one_mul, Nat.zero_add, Nat.add_zero, List.drop_zero, beq_self_eq_true, Bool.and_self, Bool.and_true, Bool.true_and, AV.one, List.all_cons, List.all_nil, repCells, fillA, partCells, Nat.reduceLT, Nat.reduceLeDiff, Nat.reduceBEq, Nat.reduceMul, Nat.reduceSub, Int.reduceLT, Int.reduceLE, Int.reduceAdd, Int.reduceSub, Int.reduceMul, Int.reduceToNat, List.take_nil, List.drop_nil, List.take_zero, List.append_nil, sliceCells, cellsAt, srcA, app, List.set_cons_zero, List.set_cons_succ, List.length_set, Nat.le_refl, Nat.zero_le, List.take_length, decU8_u8, reduceCtorEq, List.drop_succ_cons, List.take_succ_cons, Int.reduceEq, hR, g1, resA]
      exact fin0 _ _ _ rfl
end Go.Am

namespace Go.Am
open Go.RowKit

theorem ckL_drop : ∀ {l : List Ck} {k : Nat} (h : k < l.length), (ckL l).drop (k * 2) = .str (l[k]).1 :: bs (l[k]).2 :: ckL (l.drop (k + 1))
  | c :: l, 0, _ => by simp [ckL]
  | c :: l, k + 1, h => by
    have := ckL_drop (l := l) (k := k) (by simpa using h)
    rw [Nat.add_mul, Nat.one_mul]
    simpa [ckL] using this

end Go.Am

namespace Go.Am
open Go.RowKit

end Go.Am

namespace Go.Am
open Go.RowKit

theorem out_le : ∀ (k : Nat) (out : List Ck) (rest : List UInt8) (r : List Ck), chunksM k out rest = .inr r → out.length ≤ 20 → r.length ≤ 20
  | 0, _, _, _, h, _ => by simp [chunksM] at h
  | k + 1, out, rest, r, h, hl => by
    simp only [chunksM] at h
    split at h
    · cases h; exact hl
    · split at h
      · cases h
      · split at h
        · cases h
        · exact out_le k _ _ r h (by simp; omega)

theorem readM_le {l form : List UInt8} {out : List Ck} (h : readM l = .inr (form, out)) : out.length ≤ 20 := by
  unfold readM at h
  split at h
  · cases h
  simp only at h
  split at h
  · cases h
  split at h
  · cases h
  split at h
  · cases h
  split at h
  · cases h
  · rename_i o ho
    split at h
    · cases h
    · cases h
      exact out_le _ _ _ _ ho (by simp)

end Go.Am

namespace Go.Am
open Go.RowKit

/-- Half of the range of samples of so many bits; 0: there are none. -/
def half (b : Int) : Int := if b = 8 then 128 else if b = 16 then 32768 else if b = 24 then 8388608 else 0

theorem half_cases (b : Int) : (b = 8 ∧ half b = 128) ∨ (b = 16 ∧ half b = 32768) ∨ (b = 24 ∧ half b = 8388608) ∨ (b ≠ 8 ∧ b ≠ 16 ∧ b ≠ 24 ∧ half b = 0) := by
  unfold half; split <;> (try split) <;> (try split) <;> omega

def rangeA (b : Int) : AV := if half b = 0 then .tup [.int .i32 0, .int .i32 0, .int .i64 2] else .tup [.int .i32 (-half b), .int .i32 (half b - 1), .int .i64 0]

def S_Range (P : Prg) (f : Nat) : Prop := ∀ b : Int, VC P f [.int .i64 b] (rangeA b)

theorem width_Range {P : Prg} {f : Nat} (b : Body P f 18 [.tmp 2, .tmp 3, .tmp 4] ac_width_Range) : S_Range P f := by
  intro x
  refine VC.of_acall rfl (by unfold rangeA; split <;> rfl) (ACall.of_body b (by simp) ?_)
  rcases half_cases x with ⟨rfl, h⟩ | ⟨rfl, h⟩ | ⟨rfl, h⟩ | ⟨h1, h2, h3, h⟩
  · simp (config := { maxSteps := 4000000 }) (disch := omega) only [step, stepv, ev, okW, onlyFr, Bool.false_and, Bool.true_and, sealw, wl, wn, wp, aop, cV, cV1, ↓reduceIte, Nat.reduceEqDiff, Nat.reduceAdd, Int.cast_ofNat_Int, if_true, if_false, AV.one, repCells, fillA, partCells, Nat.reduceLT, Nat.reduceLeDiff, Nat.reduceMul, Nat.reduceSub, Int.reduceLT, Int.reduceLE, Int.reduceAdd, Int.reduceSub, Int.reduceMul, Int.reduceToNat, sliceCells, cellsAt, srcA, app, reduceCtorEq, Int.reduceEq, Int.reduceNeg, Int.reducePow, Nat.reducePow, Int.reduceTDiv, Int.reduceDiv, Nat.reduceDiv, Nat.reduceMod, Int.reduceMod, Int.reduceTMod, ne_eq, subA, beq_iff_eq, unA, minA, maxA, eqFs, eqA1, beq_self_eq_true, Nat.reduceBEq, ac_width_Range, rangeA, h]
    rfl
  · simp (config := { maxSteps := 4000000 }) (disch := omega) only [step, stepv, ev, okW, onlyFr, Bool.false_and, Bool.true_and, sealw, wl, wn, wp, aop, cV, cV1, ↓reduceIte, Nat.reduceEqDiff, Nat.reduceAdd, Int.cast_ofNat_Int, if_true, if_false, AV.one, repCells, fillA, partCells, Nat.reduceLT, Nat.reduceLeDiff, Nat.reduceMul, Nat.reduceSub, Int.reduceLT, Int.reduceLE, Int.reduceAdd, Int.reduceSub, Int.reduceMul, Int.reduceToNat, sliceCells, cellsAt, srcA, app, reduceCtorEq, Int.reduceEq, Int.reduceNeg, Int.reducePow, Nat.reducePow, Int.reduceTDiv, Int.reduceDiv, Nat.reduceDiv, Nat.reduceMod, Int.reduceMod, Int.reduceTMod, ne_eq, subA, beq_iff_eq, unA, minA, maxA, eqFs, eqA1, beq_self_eq_true, Nat.reduceBEq, ac_width_Range, rangeA, h]
    rfl
  · simp (config := { maxSteps := 4000000 }) (disch := omega) only [step, stepv, ev, okW, onlyFr, Bool.false_and, Bool.true_and, sealw, wl, wn, wp, aop, cV, cV1, ↓reduceIte, Nat.reduceEqDiff, Nat.reduceAdd, Int.cast_ofNat_Int, if_true, if_false, AV.one, repCells, fillA, partCells, Nat.reduceLT, Nat.reduceLeDiff, Nat.reduceMul, Nat.reduceSub, Int.reduceLT, Int.reduceLE, Int.reduceAdd, Int.reduceSub, Int.reduceMul, Int.reduceToNat, sliceCells, cellsAt, srcA, app, reduceCtorEq, Int.reduceEq, Int.reduceNeg, Int.reducePow, Nat.reducePow, Int.reduceTDiv, Int.reduceDiv, Nat.reduceDiv, Nat.reduceMod, Int.reduceMod, Int.reduceTMod, ne_eq, subA, beq_iff_eq, unA, minA, maxA, eqFs, eqA1, beq_self_eq_true, Nat.reduceBEq, ac_width_Range, rangeA, h]
    rfl
  · simp (config := { maxSteps := 4000000 }) (disch := omega) only [step, stepv, ev, okW, onlyFr, Bool.false_and, Bool.true_and, sealw, wl, wn, wp, aop, cV, cV1, ↓reduceIte, Nat.reduceEqDiff, Nat.reduceAdd, Int.cast_ofNat_Int, if_true, if_false, AV.one, repCells, fillA, partCells, Nat.reduceLT, Nat.reduceLeDiff, Nat.reduceMul, Nat.reduceSub, Int.reduceLT, Int.reduceLE, Int.reduceAdd, Int.reduceSub, Int.reduceMul, Int.reduceToNat, sliceCells, cellsAt, srcA, app, reduceCtorEq, Int.reduceEq, Int.reduceNeg, Int.reducePow, Nat.reducePow, Int.reduceTDiv, Int.reduceDiv, Nat.reduceDiv, Nat.reduceMod, Int.reduceMod, Int.reduceTMod, ne_eq, subA, beq_iff_eq, unA, minA, maxA, eqFs, eqA1, beq_self_eq_true, Nat.reduceBEq, ac_width_Range, rangeA, h]

end Go.Am

namespace Go.Am
open Go.RowKit

def il (l : List Int) : AV := .list l.length (ks .i32 l)
theorem isD_il (l : List Int) : isD (il l) = true := by simp [il, isD, isDL_ks]

def inR (b x : Int) : Bool := decide (-half b ≤ x) && decide (x < half b)
def checkN (b : Int) (l : List Int) : Int := if half b = 0 then 2 else if 4000 < l.length then 4 else if l.all (inR b) then 0 else 16
def I32 (l : List Int) : Prop := ∀ x ∈ l, -2147483648 ≤ x ∧ x ≤ 2147483647
def S_WCheck (P : Prg) (f : Nat) : Prop := ∀ (b : Int) (l : List Int), I32 l → VC P f [.int .i64 b, il l] (.int .i64 (checkN b l))

theorem all_take_step {l : List Int} {k : Nat} (h : k < l.length) {p : Int → Bool} : (l.take (k + 1)).all p = ((l.take k).all p && p l[k]) := by
  rw [List.take_succ_eq_append_getElem h, List.all_append]; simp

theorem not_all_of {l : List Int} {k : Nat} (h : k < l.length) {p : Int → Bool} (hp : p l[k] = false) : l.all p = false := by
  rw [List.all_eq_false]
  exact ⟨l[k], List.getElem_mem h, by simp [hp]⟩

set_option maxRecDepth 10000 in
theorem width_Check {P : Prg} {f fR : Nat} (b : Body P f 37 [.tmp 4] (ac_width_Check fR)) (hR : S_Range P fR) : S_WCheck P f := by
  intro x l hl
  refine VC.of_acall (by simp [isDL, isD, isD_il]) rfl (ACall.of_body b (by simp) ?_)
  simp (config := { maxSteps := 4000000 }) (disch := omega) only [step, stepv, ev, okW, onlyFr, Bool.false_and, Bool.true_and, sealw, wl, wn, wp, aop, cV, cV1, ↓reduceIte, Nat.reduceEqDiff, Nat.reduceAdd, Int.cast_ofNat_Int, if_true, if_false, AV.one, repCells, fillA, partCells, Nat.reduceLT, Nat.reduceLeDiff, Nat.reduceMul, Nat.reduceSub, Int.reduceLT, Int.reduceLE, Int.reduceAdd, Int.reduceSub, Int.reduceMul, Int.reduceToNat, sliceCells, cellsAt, srcA, app, reduceCtorEq, Int.reduceEq, Int.reduceNeg, Int.reducePow, Nat.reducePow, Int.reduceTDiv, Int.reduceDiv, Nat.reduceDiv, Nat.reduceMod, Int.reduceMod, Int.reduceTMod, ne_eq, subA, beq_iff_eq, unA, minA, maxA, eqFs, eqA1, beq_self_eq_true, Nat.reduceBEq, ac_width_Check]
  refine callQ.vc (hR x) ?_
  by_cases h0 : half x = 0
  · simp (config := { maxSteps := 4000000 }) (disch := omega) only [step, stepv, ev, okW, onlyFr, Bool.false_and, Bool.true_and, sealw, wl, wn, wp, aop, cV, cV1, ↓reduceIte, Nat.reduceEqDiff, Nat.reduceAdd, Int.cast_ofNat_Int, if_true, if_false, AV.one, repCells, fillA, partCells, Nat.reduceLT, Nat.reduceLeDiff, Nat.reduceMul, Nat.reduceSub, Int.reduceLT, Int.reduceLE, Int.reduceAdd, Int.reduceSub, Int.reduceMul, Int.reduceToNat, sliceCells, cellsAt, srcA, app, reduceCtorEq, Int.reduceEq, Int.reduceNeg, Int.reducePow, Nat.reducePow, Int.reduceTDiv, Int.reduceDiv, Nat.reduceDiv, Nat.reduceMod, Int.reduceMod, Int.reduceTMod, ne_eq, subA, beq_iff_eq, unA, minA, maxA, eqFs, eqA1, beq_self_eq_true, Nat.reduceBEq, rangeA, checkN, h0]
  have h3 : half x = 128 ∨ half x = 32768 ∨ half x = 8388608 := by rcases half_cases x with h | h | h | h <;> omega
  by_cases h1 : 4000 < l.length
  · simp (config := { maxSteps := 4000000 }) (disch := omega) only [step, stepv, ev, okW, onlyFr, Bool.false_and, Bool.true_and, sealw, wl, wn, wp, aop, cV, cV1, ↓reduceIte, Nat.reduceEqDiff, Nat.reduceAdd, Int.cast_ofNat_Int, if_true, if_false, AV.one, repCells, fillA, partCells, Nat.reduceLT, Nat.reduceLeDiff, Nat.reduceMul, Nat.reduceSub, Int.reduceLT, Int.reduceLE, Int.reduceAdd, Int.reduceSub, Int.reduceMul, Int.reduceToNat, sliceCells, cellsAt, srcA, app, reduceCtorEq, Int.reduceEq, Int.reduceNeg, Int.reducePow, Nat.reducePow, Int.reduceTDiv, Int.reduceDiv, Nat.reduceDiv, Nat.reduceMod, Int.reduceMod, Int.reduceTMod, ne_eq, subA, beq_iff_eq, unA, minA, maxA, eqFs, eqA1, beq_self_eq_true, Nat.reduceBEq, rangeA, checkN, h0, il, h1]
  simp (config := { maxSteps := 4000000 }) (disch := omega) only [step, stepv, ev, okW, onlyFr, Bool.false_and, Bool.true_and, sealw, wl, wn, wp, aop, cV, cV1, ↓reduceIte, Nat.reduceEqDiff, Nat.reduceAdd, Int.cast_ofNat_Int, if_true, if_false, AV.one, repCells, fillA, partCells, Nat.reduceLT, Nat.reduceLeDiff, Nat.reduceMul, Nat.reduceSub, Int.reduceLT, Int.reduceLE, Int.reduceAdd, Int.reduceSub, Int.reduceMul, Int.reduceToNat, sliceCells, cellsAt, srcA, app, reduceCtorEq, Int.reduceEq, Int.reduceNeg, Int.reducePow, Nat.reducePow, Int.reduceTDiv, Int.reduceDiv, Nat.reduceDiv, Nat.reduceMod, Int.reduceMod, Int.reduceTMod, ne_eq, subA, beq_iff_eq, unA, minA, maxA, eqFs, eqA1, beq_self_eq_true, Nat.reduceBEq, rangeA, il, if_neg h0]
  refine ALoop.by (ι := Nat) (fun k => ⟨[(24, .int .i64 k), (23, .int .i64 l.length), (22, il l), (6, .int .i32 (half x - 1)), (5, .int .i32 (-half x))], []⟩) (fun k => k ≤ l.length ∧ (l.take k).all (inR x) = true) (fun k => l.length - k) 0 (Le.slots (by simp [Am.look, il])) ⟨by omega, by simp⟩ ?_
  intro k ⟨hk, hg⟩
  by_cases hlt : k < l.length
  · by_cases hp : -half x ≤ l[k] ∧ l[k] < half x
    · have hs := all_take_step hlt (p := inR x)
      simp (config := { maxSteps := 4000000 }) (disch := omega) only [step, stepv, ev, okW, onlyFr, Bool.false_and, Bool.true_and, sealw, wl, wn, wp, aop, cV, cV1, ↓reduceIte, Nat.reduceEqDiff, Nat.reduceAdd, Int.cast_ofNat_Int, if_true, if_false, AV.one, repCells, fillA, partCells, Nat.reduceLT, Nat.reduceLeDiff, Nat.reduceMul, Nat.reduceSub, Int.reduceLT, Int.reduceLE, Int.reduceAdd, Int.reduceSub, Int.reduceMul, Int.reduceToNat, sliceCells, cellsAt, srcA, app, reduceCtorEq, Int.reduceEq, Int.reduceNeg, Int.reducePow, Nat.reducePow, Int.reduceTDiv, Int.reduceDiv, Nat.reduceDiv, Nat.reduceMod, Int.reduceMod, Int.reduceTMod, ne_eq, subA, beq_iff_eq, unA, minA, maxA, eqFs, eqA1, beq_self_eq_true, Nat.reduceBEq, il, drop_ks, hlt]
      exact ⟨k + 1, ⟨by omega, by rw [hs, hg]; simp [inR, hp]⟩, by omega, Le.slots (by simp [Am.look, il])⟩
    · have e : checkN x l = 16 := by simp [checkN, h0, h1, not_all_of hlt (p := inR x) (by simp [inR]; omega)]
      by_cases hq : l[k] < -half x
      · simp (config := { maxSteps := 4000000 }) (disch := omega) only [step, stepv, ev, okW, onlyFr, Bool.false_and, Bool.true_and, sealw, wl, wn, wp, aop, cV, cV1, ↓reduceIte, Nat.reduceEqDiff, Nat.reduceAdd, Int.cast_ofNat_Int, if_true, if_false, AV.one, repCells, fillA, partCells, Nat.reduceLT, Nat.reduceLeDiff, Nat.reduceMul, Nat.reduceSub, Int.reduceLT, Int.reduceLE, Int.reduceAdd, Int.reduceSub, Int.reduceMul, Int.reduceToNat, sliceCells, cellsAt, srcA, app, reduceCtorEq, Int.reduceEq, Int.reduceNeg, Int.reducePow, Nat.reducePow, Int.reduceTDiv, Int.reduceDiv, Nat.reduceDiv, Nat.reduceMod, Int.reduceMod, Int.reduceTMod, ne_eq, subA, beq_iff_eq, unA, minA, maxA, eqFs, eqA1, beq_self_eq_true, Nat.reduceBEq, il, drop_ks, hlt, e]
      · simp (config := { maxSteps := 4000000 }) (disch := omega) only [step, stepv, ev, okW, onlyFr, Bool.false_and, Bool.true_and, sealw, wl, wn, wp, aop, cV, cV1, ↓reduceIte, Nat.reduceEqDiff, Nat.reduceAdd, Int.cast_ofNat_Int, if_true, if_false, AV.one, repCells, fillA, partCells, Nat.reduceLT, Nat.reduceLeDiff, Nat.reduceMul, Nat.reduceSub, Int.reduceLT, Int.reduceLE, Int.reduceAdd, Int.reduceSub, Int.reduceMul, Int.reduceToNat, sliceCells, cellsAt, srcA, app, reduceCtorEq, Int.reduceEq, Int.reduceNeg, Int.reducePow, Nat.reducePow, Int.reduceTDiv, Int.reduceDiv, Nat.reduceDiv, Nat.reduceMod, Int.reduceMod, Int.reduceTMod, ne_eq, subA, beq_iff_eq, unA, minA, maxA, eqFs, eqA1, beq_self_eq_true, Nat.reduceBEq, il, drop_ks, hlt, e]
  · have e2 : k = l.length := by omega
    subst e2
    rw [List.take_length] at hg
    simp (config := { maxSteps := 4000000 }) (disch := omega) only [step, stepv, ev, okW, onlyFr, Bool.false_and, Bool.true_and, sealw, wl, wn, wp, aop, cV, cV1, ↓reduceIte, Nat.reduceEqDiff, Nat.reduceAdd, Int.cast_ofNat_Int, if_true, if_false, AV.one, repCells, fillA, partCells, Nat.reduceLT, Nat.reduceLeDiff, Nat.reduceMul, Nat.reduceSub, Int.reduceLT, Int.reduceLE, Int.reduceAdd, Int.reduceSub, Int.reduceMul, Int.reduceToNat, sliceCells, cellsAt, srcA, app, reduceCtorEq, Int.reduceEq, Int.reduceNeg, Int.reducePow, Nat.reducePow, Int.reduceTDiv, Int.reduceDiv, Nat.reduceDiv, Nat.reduceMod, Int.reduceMod, Int.reduceTMod, ne_eq, subA, beq_iff_eq, unA, minA, maxA, eqFs, eqA1, beq_self_eq_true, Nat.reduceBEq, il, checkN, h0, h1, hg]

def S_Half (P : Prg) (f : Nat) : Prop := ∀ x : Int, VC P f [.int .i64 x] (.int .i64 (half x))

theorem ref18_Half {P : Prg} {f : Nat} (b : Body P f 10 [.tmp 2] ac_cadenzaref18_Half) : S_Half P f := by
  intro x
  refine VC.of_acall rfl rfl (ACall.of_body b (by simp) ?_)
  rcases half_cases x with ⟨rfl, h⟩ | ⟨rfl, h⟩ | ⟨rfl, h⟩ | ⟨h1, h2, h3, h⟩ <;> simp (config := { maxSteps := 4000000 }) (disch := omega) only [step, stepv, ev, okW, onlyFr, Bool.false_and, Bool.true_and, sealw, wl, wn, wp, aop, cV, cV1, ↓reduceIte, Nat.reduceEqDiff, Nat.reduceAdd, Int.cast_ofNat_Int, if_true, if_false, AV.one, repCells, fillA, partCells, Nat.reduceLT, Nat.reduceLeDiff, Nat.reduceMul, Nat.reduceSub, Int.reduceLT, Int.reduceLE, Int.reduceAdd, Int.reduceSub, Int.reduceMul, Int.reduceToNat, sliceCells, cellsAt, srcA, app, reduceCtorEq, Int.reduceEq, Int.reduceNeg, Int.reducePow, Nat.reducePow, Int.reduceTDiv, Int.reduceDiv, Nat.reduceDiv, Nat.reduceMod, Int.reduceMod, Int.reduceTMod, ne_eq, subA, beq_iff_eq, unA, minA, maxA, eqFs, eqA1, beq_self_eq_true, Nat.reduceBEq, ac_cadenzaref18_Half, h]

set_option maxRecDepth 10000 in
theorem ref18_Check {P : Prg} {f fH : Nat} (b : Body P f 37 [.tmp 4] (ac_cadenzaref18_Check fH)) (hH : S_Half P fH) : S_WCheck P f := by
  intro x l hl
  refine VC.of_acall (by simp [isDL, isD, isD_il]) rfl (ACall.of_body b (by simp) ?_)
  simp (config := { maxSteps := 4000000 }) (disch := omega) only [step, stepv, ev, okW, onlyFr, Bool.false_and, Bool.true_and, sealw, wl, wn, wp, aop, cV, cV1, ↓reduceIte, Nat.reduceEqDiff, Nat.reduceAdd, Int.cast_ofNat_Int, if_true, if_false, AV.one, repCells, fillA, partCells, Nat.reduceLT, Nat.reduceLeDiff, Nat.reduceMul, Nat.reduceSub, Int.reduceLT, Int.reduceLE, Int.reduceAdd, Int.reduceSub, Int.reduceMul, Int.reduceToNat, sliceCells, cellsAt, srcA, app, reduceCtorEq, Int.reduceEq, Int.reduceNeg, Int.reducePow, Nat.reducePow, Int.reduceTDiv, Int.reduceDiv, Nat.reduceDiv, Nat.reduceMod, Int.reduceMod, Int.reduceTMod, ne_eq, subA, beq_iff_eq, unA, minA, maxA, eqFs, eqA1, beq_self_eq_true, Nat.reduceBEq, ac_cadenzaref18_Check]
  refine callQ.vc (hH x) ?_
  by_cases h0 : half x = 0
  · simp (config := { maxSteps := 4000000 }) (disch := omega) only [step, stepv, ev, okW, onlyFr, Bool.false_and, Bool.true_and, sealw, wl, wn, wp, aop, cV, cV1, ↓reduceIte, Nat.reduceEqDiff, Nat.reduceAdd, Int.cast_ofNat_Int, if_true, if_false, AV.one, repCells, fillA, partCells, Nat.reduceLT, Nat.reduceLeDiff, Nat.reduceMul, Nat.reduceSub, Int.reduceLT, Int.reduceLE, Int.reduceAdd, Int.reduceSub, Int.reduceMul, Int.reduceToNat, sliceCells, cellsAt, srcA, app, reduceCtorEq, Int.reduceEq, Int.reduceNeg, Int.reducePow, Nat.reducePow, Int.reduceTDiv, Int.reduceDiv, Nat.reduceDiv, Nat.reduceMod, Int.reduceMod, Int.reduceTMod, ne_eq, subA, beq_iff_eq, unA, minA, maxA, eqFs, eqA1, beq_self_eq_true, Nat.reduceBEq, checkN, h0]
  have h3 : half x = 128 ∨ half x = 32768 ∨ half x = 8388608 := by rcases half_cases x with h | h | h | h <;> omega
  by_cases h1 : 4000 < l.length
  · simp (config := { maxSteps := 4000000 }) (disch := omega) only [step, stepv, ev, okW, onlyFr, Bool.false_and, Bool.true_and, sealw, wl, wn, wp, aop, cV, cV1, ↓reduceIte, Nat.reduceEqDiff, Nat.reduceAdd, Int.cast_ofNat_Int, if_true, if_false, AV.one, repCells, fillA, partCells, Nat.reduceLT, Nat.reduceLeDiff, Nat.reduceMul, Nat.reduceSub, Int.reduceLT, Int.reduceLE, Int.reduceAdd, Int.reduceSub, Int.reduceMul, Int.reduceToNat, sliceCells, cellsAt, srcA, app, reduceCtorEq, Int.reduceEq, Int.reduceNeg, Int.reducePow, Nat.reducePow, Int.reduceTDiv, Int.reduceDiv, Nat.reduceDiv, Nat.reduceMod, Int.reduceMod, Int.reduceTMod, ne_eq, subA, beq_iff_eq, unA, minA, maxA, eqFs, eqA1, beq_self_eq_true, Nat.reduceBEq, checkN, h0, il, h1]
  simp (config := { maxSteps := 4000000 }) (disch := omega) only [step, stepv, ev, okW, onlyFr, Bool.false_and, Bool.true_and, sealw, wl, wn, wp, aop, cV, cV1, ↓reduceIte, Nat.reduceEqDiff, Nat.reduceAdd, Int.cast_ofNat_Int, if_true, if_false, AV.one, repCells, fillA, partCells, Nat.reduceLT, Nat.reduceLeDiff, Nat.reduceMul, Nat.reduceSub, Int.reduceLT, Int.reduceLE, Int.reduceAdd, Int.reduceSub, Int.reduceMul, Int.reduceToNat, sliceCells, cellsAt, srcA, app, reduceCtorEq, Int.reduceEq, Int.reduceNeg, Int.reducePow, Nat.reducePow, Int.reduceTDiv, Int.reduceDiv, Nat.reduceDiv, Nat.reduceMod, Int.reduceMod, Int.reduceTMod, ne_eq, subA, beq_iff_eq, unA, minA, maxA, eqFs, eqA1, beq_self_eq_true, Nat.reduceBEq, il]
  refine ALoop.by (ι := Nat) (fun k => ⟨[(6, .int .i64 k), (1, il l), (5, .int .i64 (half x))], []⟩) (fun k => k ≤ l.length ∧ (l.take k).all (inR x) = true) (fun k => l.length - k) 0 (Le.slots (by simp [Am.look, il])) ⟨by omega, by simp⟩ ?_
  intro k ⟨hk, hg⟩
  by_cases hlt : k < l.length
  · have hb := hl _ (List.getElem_mem hlt)
    by_cases hp : -half x ≤ l[k] ∧ l[k] < half x
    · have hs := all_take_step hlt (p := inR x)
      simp (config := { maxSteps := 4000000 }) (disch := omega) only [step, stepv, ev, okW, onlyFr, Bool.false_and, Bool.true_and, sealw, wl, wn, wp, aop, cV, cV1, ↓reduceIte, Nat.reduceEqDiff, Nat.reduceAdd, Int.cast_ofNat_Int, if_true, if_false, AV.one, repCells, fillA, partCells, Nat.reduceLT, Nat.reduceLeDiff, Nat.reduceMul, Nat.reduceSub, Int.reduceLT, Int.reduceLE, Int.reduceAdd, Int.reduceSub, Int.reduceMul, Int.reduceToNat, sliceCells, cellsAt, srcA, app, reduceCtorEq, Int.reduceEq, Int.reduceNeg, Int.reducePow, Nat.reducePow, Int.reduceTDiv, Int.reduceDiv, Nat.reduceDiv, Nat.reduceMod, Int.reduceMod, Int.reduceTMod, ne_eq, subA, beq_iff_eq, unA, minA, maxA, eqFs, eqA1, beq_self_eq_true, Nat.reduceBEq, il, drop_ks, hlt]
      exact ⟨k + 1, ⟨by omega, by rw [hs, hg]; simp [inR, hp]⟩, by omega, Le.slots (by simp [Am.look, il])⟩
    · have e : checkN x l = 16 := by simp [checkN, h0, h1, not_all_of hlt (p := inR x) (by simp [inR]; omega)]
      by_cases hq : l[k] < -half x
      · simp (config := { maxSteps := 4000000 }) (disch := omega) only [step, stepv, ev, okW, onlyFr, Bool.false_and, Bool.true_and, sealw, wl, wn, wp, aop, cV, cV1, ↓reduceIte, Nat.reduceEqDiff, Nat.reduceAdd, Int.cast_ofNat_Int, if_true, if_false, AV.one, repCells, fillA, partCells, Nat.reduceLT, Nat.reduceLeDiff, Nat.reduceMul, Nat.reduceSub, Int.reduceLT, Int.reduceLE, Int.reduceAdd, Int.reduceSub, Int.reduceMul, Int.reduceToNat, sliceCells, cellsAt, srcA, app, reduceCtorEq, Int.reduceEq, Int.reduceNeg, Int.reducePow, Nat.reducePow, Int.reduceTDiv, Int.reduceDiv, Nat.reduceDiv, Nat.reduceMod, Int.reduceMod, Int.reduceTMod, ne_eq, subA, beq_iff_eq, unA, minA, maxA, eqFs, eqA1, beq_self_eq_true, Nat.reduceBEq, il, drop_ks, hlt, e]
      · simp (config := { maxSteps := 4000000 }) (disch := omega) only [step, stepv, ev, okW, onlyFr, Bool.false_and, Bool.true_and, sealw, wl, wn, wp, aop, cV, cV1, ↓reduceIte, Nat.reduceEqDiff, Nat.reduceAdd, Int.cast_ofNat_Int, if_true, if_false, AV.one, repCells, fillA, partCells, Nat.reduceLT, Nat.reduceLeDiff, Nat.reduceMul, Nat.reduceSub, Int.reduceLT, Int.reduceLE, Int.reduceAdd, Int.reduceSub, Int.reduceMul, Int.reduceToNat, sliceCells, cellsAt, srcA, app, reduceCtorEq, Int.reduceEq, Int.reduceNeg, Int.reducePow, Nat.reducePow, Int.reduceTDiv, Int.reduceDiv, Nat.reduceDiv, Nat.reduceMod, Int.reduceMod, Int.reduceTMod, ne_eq, subA, beq_iff_eq, unA, minA, maxA, eqFs, eqA1, beq_self_eq_true, Nat.reduceBEq, il, drop_ks, hlt, e]
  · have e2 : k = l.length := by omega
    subst e2
    rw [List.take_length] at hg
    simp (config := { maxSteps := 4000000 }) (disch := omega) only [step, stepv, ev, okW, onlyFr, Bool.false_and, Bool.true_and, sealw, wl, wn, wp, aop, cV, cV1, ↓reduceIte, Nat.reduceEqDiff, Nat.reduceAdd, Int.cast_ofNat_Int, if_true, if_false, AV.one, repCells, fillA, partCells, Nat.reduceLT, Nat.reduceLeDiff, Nat.reduceMul, Nat.reduceSub, Int.reduceLT, Int.reduceLE, Int.reduceAdd, Int.reduceSub, Int.reduceMul, Int.reduceToNat, sliceCells, cellsAt, srcA, app, reduceCtorEq, Int.reduceEq, Int.reduceNeg, Int.reducePow, Nat.reducePow, Int.reduceTDiv, Int.reduceDiv, Nat.reduceDiv, Nat.reduceMod, Int.reduceMod, Int.reduceTMod, ne_eq, subA, beq_iff_eq, unA, minA, maxA, eqFs, eqA1, beq_self_eq_true, Nat.reduceBEq, il, checkN, h0, h1, hg]

theorem div_small {n : Nat} {c : Int} (h : 1 ≤ c) : 0 ≤ (n : Int) / c ∧ (n : Int) / c ≤ n :=
  ⟨Int.ediv_nonneg (by omega) (by omega), Int.ediv_le_self _ (by omega)⟩

theorem mod_small {n : Nat} {c : Int} (h : 1 ≤ c) : 0 ≤ (n : Int) % c ∧ (n : Int) % c < c := ⟨Int.emod_nonneg _ (by omega), Int.emod_lt_of_pos _ (by omega)⟩

end Go.Am

namespace Go.Am
open Go.RowKit

def longN (r : Int) : Int := if 256 * r / 245 < 1 then 1 else 256 * r / 245
theorem longN_pos (r : Int) : 1 ≤ longN r := by unfold longN; split <;> omega
theorem longN_le {r : Int} (h : r ≤ 1048576) : longN r ≤ 1095654 := by unfold longN; split <;> omega
def longA (r : Int) : AV := if r < 1 ∨ 1048576 < r then .tup [.int .i64 0, .int .i64 2] else .tup [.int .i64 (longN r), .int .i64 0]
def S_Long22 (P : Prg) (f : Nat) : Prop := ∀ r : Int, VC P f [.int .i64 r] (longA r)

theorem isD_long (r : Int) : isD (longA r) = true := by unfold longA; split <;> rfl

theorem lengths_Long {P : Prg} {f : Nat} (b : Body P f 14 [.tmp 2, .tmp 3] ac_lengths_Long) : S_Long22 P f := by
  intro r
  refine VC.of_acall rfl (isD_long r) (ACall.of_body b (by simp) ?_)
  by_cases h1 : r < 1
  · simp (config := { maxSteps := 4000000 }) (disch := omega) only [step, stepv, ev, okW, onlyFr, Bool.false_and, Bool.true_and, sealw, wl, wn, wp, aop, cV, cV1, ↓reduceIte, Nat.reduceEqDiff, Nat.reduceAdd, Int.cast_ofNat_Int, if_true, if_false, AV.one, repCells, fillA, partCells, Nat.reduceLT, Nat.reduceLeDiff, Nat.reduceMul, Nat.reduceSub, Int.reduceLT, Int.reduceLE, Int.reduceAdd, Int.reduceSub, Int.reduceMul, Int.reduceToNat, sliceCells, cellsAt, srcA, app, reduceCtorEq, Int.reduceEq, Int.reduceNeg, Int.reducePow, Nat.reducePow, Int.reduceTDiv, Int.reduceDiv, Nat.reduceDiv, Nat.reduceMod, Int.reduceMod, Int.reduceTMod, ne_eq, subA, beq_iff_eq, unA, minA, maxA, eqFs, eqA1, beq_self_eq_true, Nat.reduceBEq, ac_lengths_Long, longA, true_or]
  by_cases h2 : 1048576 < r
  · simp (config := { maxSteps := 4000000 }) (disch := omega) only [step, stepv, ev, okW, onlyFr, Bool.false_and, Bool.true_and, sealw, wl, wn, wp, aop, cV, cV1, ↓reduceIte, Nat.reduceEqDiff, Nat.reduceAdd, Int.cast_ofNat_Int, if_true, if_false, AV.one, repCells, fillA, partCells, Nat.reduceLT, Nat.reduceLeDiff, Nat.reduceMul, Nat.reduceSub, Int.reduceLT, Int.reduceLE, Int.reduceAdd, Int.reduceSub, Int.reduceMul, Int.reduceToNat, sliceCells, cellsAt, srcA, app, reduceCtorEq, Int.reduceEq, Int.reduceNeg, Int.reducePow, Nat.reducePow, Int.reduceTDiv, Int.reduceDiv, Nat.reduceDiv, Nat.reduceMod, Int.reduceMod, Int.reduceTMod, ne_eq, subA, beq_iff_eq, unA, minA, maxA, eqFs, eqA1, beq_self_eq_true, Nat.reduceBEq, ac_lengths_Long, longA, or_true]
  have h3 : 1 ≤ 256 * r / 245 := by omega
  simp (config := { maxSteps := 4000000 }) (disch := omega) only [step, stepv, ev, okW, onlyFr, Bool.false_and, Bool.true_and, sealw, wl, wn, wp, aop, cV, cV1, ↓reduceIte, Nat.reduceEqDiff, Nat.reduceAdd, Int.cast_ofNat_Int, if_true, if_false, AV.one, repCells, fillA, partCells, Nat.reduceLT, Nat.reduceLeDiff, Nat.reduceMul, Nat.reduceSub, Int.reduceLT, Int.reduceLE, Int.reduceAdd, Int.reduceSub, Int.reduceMul, Int.reduceToNat, sliceCells, cellsAt, srcA, app, reduceCtorEq, Int.reduceEq, Int.reduceNeg, Int.reducePow, Nat.reducePow, Int.reduceTDiv, Int.reduceDiv, Nat.reduceDiv, Nat.reduceMod, Int.reduceMod, Int.reduceTMod, ne_eq, subA, beq_iff_eq, unA, minA, maxA, eqFs, eqA1, beq_self_eq_true, Nat.reduceBEq, ac_lengths_Long, longA, or_self, longN]
  rw [show (if (1 : Int) < 256 * r / 245 then 256 * r / 245 else 1) = 256 * r / 245 by split <;> omega]

theorem ref22_Long {P : Prg} {f : Nat} (b : Body P f 17 [.tmp 2, .tmp 3] ac_cadenzaref22_Long) : S_Long22 P f := by
  intro r
  refine VC.of_acall rfl (isD_long r) (ACall.of_body b (by simp) ?_)
  by_cases h1 : r < 1
  · simp (config := { maxSteps := 4000000 }) (disch := omega) only [step, stepv, ev, okW, onlyFr, Bool.false_and, Bool.true_and, sealw, wl, wn, wp, aop, cV, cV1, ↓reduceIte, Nat.reduceEqDiff, Nat.reduceAdd, Int.cast_ofNat_Int, if_true, if_false, AV.one, repCells, fillA, partCells, Nat.reduceLT, Nat.reduceLeDiff, Nat.reduceMul, Nat.reduceSub, Int.reduceLT, Int.reduceLE, Int.reduceAdd, Int.reduceSub, Int.reduceMul, Int.reduceToNat, sliceCells, cellsAt, srcA, app, reduceCtorEq, Int.reduceEq, Int.reduceNeg, Int.reducePow, Nat.reducePow, Int.reduceTDiv, Int.reduceDiv, Nat.reduceDiv, Nat.reduceMod, Int.reduceMod, Int.reduceTMod, ne_eq, subA, beq_iff_eq, unA, minA, maxA, eqFs, eqA1, beq_self_eq_true, Nat.reduceBEq, ac_cadenzaref22_Long, longA, true_or]
  by_cases h2 : 1048576 < r
  · simp (config := { maxSteps := 4000000 }) (disch := omega) only [step, stepv, ev, okW, onlyFr, Bool.false_and, Bool.true_and, sealw, wl, wn, wp, aop, cV, cV1, ↓reduceIte, Nat.reduceEqDiff, Nat.reduceAdd, Int.cast_ofNat_Int, if_true, if_false, AV.one, repCells, fillA, partCells, Nat.reduceLT, Nat.reduceLeDiff, Nat.reduceMul, Nat.reduceSub, Int.reduceLT, Int.reduceLE, Int.reduceAdd, Int.reduceSub, Int.reduceMul, Int.reduceToNat, sliceCells, cellsAt, srcA, app, reduceCtorEq, Int.reduceEq, Int.reduceNeg, Int.reducePow, Nat.reducePow, Int.reduceTDiv, Int.reduceDiv, Nat.reduceDiv, Nat.reduceMod, Int.reduceMod, Int.reduceTMod, ne_eq, subA, beq_iff_eq, unA, minA, maxA, eqFs, eqA1, beq_self_eq_true, Nat.reduceBEq, ac_cadenzaref22_Long, longA, or_true]
  have e : r * 256 / 245 = 256 * r / 245 := by rw [Int.mul_comm]
  have h3 : 1 ≤ 256 * r / 245 := by omega
  simp (config := { maxSteps := 4000000 }) (disch := omega) only [step, stepv, ev, okW, onlyFr, Bool.false_and, Bool.true_and, sealw, wl, wn, wp, aop, cV, cV1, ↓reduceIte, Nat.reduceEqDiff, Nat.reduceAdd, Int.cast_ofNat_Int, if_true, if_false, AV.one, repCells, fillA, partCells, Nat.reduceLT, Nat.reduceLeDiff, Nat.reduceMul, Nat.reduceSub, Int.reduceLT, Int.reduceLE, Int.reduceAdd, Int.reduceSub, Int.reduceMul, Int.reduceToNat, sliceCells, cellsAt, srcA, app, reduceCtorEq, Int.reduceEq, Int.reduceNeg, Int.reducePow, Nat.reducePow, Int.reduceTDiv, Int.reduceDiv, Nat.reduceDiv, Nat.reduceMod, Int.reduceMod, Int.reduceTMod, ne_eq, subA, beq_iff_eq, unA, minA, maxA, eqFs, eqA1, beq_self_eq_true, Nat.reduceBEq, ac_cadenzaref22_Long, longA, or_self, longN, e]

def eCheck (c b : Int) : Int := if half b = 0 ∨ c < 1 ∨ 6 < c then 2 else 0
def shA (c b : Int) : AV := .agg [.int .i64 c, .int .i64 b]
def S_ECheck (P : Prg) (f : Nat) : Prop := ∀ c b : Int, VC P f [shA c b] (.int .i64 (eCheck c b))

theorem enframe_Check {P : Prg} {f fR t0 : Nat} (b : Body P f 25 [.tmp 2] (ac_enframe_Check fR t0)) (hR : S_Range P fR) : S_ECheck P f := by
  intro c x
  refine VC.of_acall rfl rfl (ACall.of_body b (by simp) ?_)
  simp (config := { maxSteps := 4000000 }) (disch := omega) only [step, stepv, ev, okW, onlyFr, Bool.false_and, Bool.true_and, sealw, wl, wn, wp, aop, cV, cV1, ↓reduceIte, Nat.reduceEqDiff, Nat.reduceAdd, Int.cast_ofNat_Int, if_true, if_false, AV.one, repCells, fillA, partCells, Nat.reduceLT, Nat.reduceLeDiff, Nat.reduceMul, Nat.reduceSub, Int.reduceLT, Int.reduceLE, Int.reduceAdd, Int.reduceSub, Int.reduceMul, Int.reduceToNat, sliceCells, cellsAt, srcA, app, reduceCtorEq, Int.reduceEq, Int.reduceNeg, Int.reducePow, Nat.reducePow, Int.reduceTDiv, Int.reduceDiv, Nat.reduceDiv, Nat.reduceMod, Int.reduceMod, Int.reduceTMod, ne_eq, subA, beq_iff_eq, unA, minA, maxA, eqFs, eqA1, beq_self_eq_true, Nat.reduceBEq, ac_enframe_Check, shA]
  refine callQ.vc (hR x) ?_
  by_cases h0 : half x = 0
  · simp (config := { maxSteps := 4000000 }) (disch := omega) only [step, stepv, ev, okW, onlyFr, Bool.false_and, Bool.true_and, sealw, wl, wn, wp, aop, cV, cV1, ↓reduceIte, Nat.reduceEqDiff, Nat.reduceAdd, Int.cast_ofNat_Int, if_true, if_false, AV.one, repCells, fillA, partCells, Nat.reduceLT, Nat.reduceLeDiff, Nat.reduceMul, Nat.reduceSub, Int.reduceLT, Int.reduceLE, Int.reduceAdd, Int.reduceSub, Int.reduceMul, Int.reduceToNat, sliceCells, cellsAt, srcA, app, reduceCtorEq, Int.reduceEq, Int.reduceNeg, Int.reducePow, Nat.reducePow, Int.reduceTDiv, Int.reduceDiv, Nat.reduceDiv, Nat.reduceMod, Int.reduceMod, Int.reduceTMod, ne_eq, subA, beq_iff_eq, unA, minA, maxA, eqFs, eqA1, beq_self_eq_true, Nat.reduceBEq, rangeA, h0, eCheck, true_or]
  by_cases h1 : c < 1
  · simp (config := { maxSteps := 4000000 }) (disch := omega) only [step, stepv, ev, okW, onlyFr, Bool.false_and, Bool.true_and, sealw, wl, wn, wp, aop, cV, cV1, ↓reduceIte, Nat.reduceEqDiff, Nat.reduceAdd, Int.cast_ofNat_Int, if_true, if_false, AV.one, repCells, fillA, partCells, Nat.reduceLT, Nat.reduceLeDiff, Nat.reduceMul, Nat.reduceSub, Int.reduceLT, Int.reduceLE, Int.reduceAdd, Int.reduceSub, Int.reduceMul, Int.reduceToNat, sliceCells, cellsAt, srcA, app, reduceCtorEq, Int.reduceEq, Int.reduceNeg, Int.reducePow, Nat.reducePow, Int.reduceTDiv, Int.reduceDiv, Nat.reduceDiv, Nat.reduceMod, Int.reduceMod, Int.reduceTMod, ne_eq, subA, beq_iff_eq, unA, minA, maxA, eqFs, eqA1, beq_self_eq_true, Nat.reduceBEq, rangeA, if_neg h0, eCheck, h0, or_true, true_or]
  by_cases h2 : 6 < c
  · simp (config := { maxSteps := 4000000 }) (disch := omega) only [step, stepv, ev, okW, onlyFr, Bool.false_and, Bool.true_and, sealw, wl, wn, wp, aop, cV, cV1, ↓reduceIte, Nat.reduceEqDiff, Nat.reduceAdd, Int.cast_ofNat_Int, if_true, if_false, AV.one, repCells, fillA, partCells, Nat.reduceLT, Nat.reduceLeDiff, Nat.reduceMul, Nat.reduceSub, Int.reduceLT, Int.reduceLE, Int.reduceAdd, Int.reduceSub, Int.reduceMul, Int.reduceToNat, sliceCells, cellsAt, srcA, app, reduceCtorEq, Int.reduceEq, Int.reduceNeg, Int.reducePow, Nat.reducePow, Int.reduceTDiv, Int.reduceDiv, Nat.reduceDiv, Nat.reduceMod, Int.reduceMod, Int.reduceTMod, ne_eq, subA, beq_iff_eq, unA, minA, maxA, eqFs, eqA1, beq_self_eq_true, Nat.reduceBEq, rangeA, if_neg h0, eCheck, h0, or_true]
  · simp (config := { maxSteps := 4000000 }) (disch := omega) only [step, stepv, ev, okW, onlyFr, Bool.false_and, Bool.true_and, sealw, wl, wn, wp, aop, cV, cV1, ↓reduceIte, Nat.reduceEqDiff, Nat.reduceAdd, Int.cast_ofNat_Int, if_true, if_false, AV.one, repCells, fillA, partCells, Nat.reduceLT, Nat.reduceLeDiff, Nat.reduceMul, Nat.reduceSub, Int.reduceLT, Int.reduceLE, Int.reduceAdd, Int.reduceSub, Int.reduceMul, Int.reduceToNat, sliceCells, cellsAt, srcA, app, reduceCtorEq, Int.reduceEq, Int.reduceNeg, Int.reducePow, Nat.reducePow, Int.reduceTDiv, Int.reduceDiv, Nat.reduceDiv, Nat.reduceMod, Int.reduceMod, Int.reduceTMod, ne_eq, subA, beq_iff_eq, unA, minA, maxA, eqFs, eqA1, beq_self_eq_true, Nat.reduceBEq, rangeA, if_neg h0, eCheck, h0, or_self]

theorem ref20_Check {P : Prg} {f fH t0 : Nat} (b : Body P f 17 [.tmp 2] (ac_cadenzaref20_Check fH t0)) (hH : S_Half P fH) : S_ECheck P f := by
  intro c x
  refine VC.of_acall rfl rfl (ACall.of_body b (by simp) ?_)
  have hx := half_cases x
  by_cases h1 : c < 1
  · simp (config := { maxSteps := 4000000 }) (disch := omega) only [step, stepv, ev, okW, onlyFr, Bool.false_and, Bool.true_and, sealw, wl, wn, wp, aop, cV, cV1, ↓reduceIte, Nat.reduceEqDiff, Nat.reduceAdd, Int.cast_ofNat_Int, if_true, if_false, AV.one, repCells, fillA, partCells, Nat.reduceLT, Nat.reduceLeDiff, Nat.reduceMul, Nat.reduceSub, Int.reduceLT, Int.reduceLE, Int.reduceAdd, Int.reduceSub, Int.reduceMul, Int.reduceToNat, sliceCells, cellsAt, srcA, app, reduceCtorEq, Int.reduceEq, Int.reduceNeg, Int.reducePow, Nat.reducePow, Int.reduceTDiv, Int.reduceDiv, Nat.reduceDiv, Nat.reduceMod, Int.reduceMod, Int.reduceTMod, ne_eq, subA, beq_iff_eq, unA, minA, maxA, eqFs, eqA1, beq_self_eq_true, Nat.reduceBEq, ac_cadenzaref20_Check, shA, eCheck, or_true, true_or]
  by_cases h2 : 6 < c
  · simp (config := { maxSteps := 4000000 }) (disch := omega) only [step, stepv, ev, okW, onlyFr, Bool.false_and, Bool.true_and, sealw, wl, wn, wp, aop, cV, cV1, ↓reduceIte, Nat.reduceEqDiff, Nat.reduceAdd, Int.cast_ofNat_Int, if_true, if_false, AV.one, repCells, fillA, partCells, Nat.reduceLT, Nat.reduceLeDiff, Nat.reduceMul, Nat.reduceSub, Int.reduceLT, Int.reduceLE, Int.reduceAdd, Int.reduceSub, Int.reduceMul, Int.reduceToNat, sliceCells, cellsAt, srcA, app, reduceCtorEq, Int.reduceEq, Int.reduceNeg, Int.reducePow, Nat.reducePow, Int.reduceTDiv, Int.reduceDiv, Nat.reduceDiv, Nat.reduceMod, Int.reduceMod, Int.reduceTMod, ne_eq, subA, beq_iff_eq, unA, minA, maxA, eqFs, eqA1, beq_self_eq_true, Nat.reduceBEq, ac_cadenzaref20_Check, shA, eCheck, or_true]
  simp (config := { maxSteps := 4000000 }) (disch := omega) only [step, stepv, ev, okW, onlyFr, Bool.false_and, Bool.true_and, sealw, wl, wn, wp, aop, cV, cV1, ↓reduceIte, Nat.reduceEqDiff, Nat.reduceAdd, Int.cast_ofNat_Int, if_true, if_false, AV.one, repCells, fillA, partCells, Nat.reduceLT, Nat.reduceLeDiff, Nat.reduceMul, Nat.reduceSub, Int.reduceLT, Int.reduceLE, Int.reduceAdd, Int.reduceSub, Int.reduceMul, Int.reduceToNat, sliceCells, cellsAt, srcA, app, reduceCtorEq, Int.reduceEq, Int.reduceNeg, Int.reducePow, Nat.reducePow, Int.reduceTDiv, Int.reduceDiv, Nat.reduceDiv, Nat.reduceMod, Int.reduceMod, Int.reduceTMod, ne_eq, subA, beq_iff_eq, unA, minA, maxA, eqFs, eqA1, beq_self_eq_true, Nat.reduceBEq, ac_cadenzaref20_Check, shA]
  refine callQ.vc (hH x) ?_
  by_cases h0 : half x = 0
  · simp (config := { maxSteps := 4000000 }) (disch := omega) only [step, stepv, ev, okW, onlyFr, Bool.false_and, Bool.true_and, sealw, wl, wn, wp, aop, cV, cV1, ↓reduceIte, Nat.reduceEqDiff, Nat.reduceAdd, Int.cast_ofNat_Int, if_true, if_false, AV.one, repCells, fillA, partCells, Nat.reduceLT, Nat.reduceLeDiff, Nat.reduceMul, Nat.reduceSub, Int.reduceLT, Int.reduceLE, Int.reduceAdd, Int.reduceSub, Int.reduceMul, Int.reduceToNat, sliceCells, cellsAt, srcA, app, reduceCtorEq, Int.reduceEq, Int.reduceNeg, Int.reducePow, Nat.reducePow, Int.reduceTDiv, Int.reduceDiv, Nat.reduceDiv, Nat.reduceMod, Int.reduceMod, Int.reduceTMod, ne_eq, subA, beq_iff_eq, unA, minA, maxA, eqFs, eqA1, beq_self_eq_true, Nat.reduceBEq, h0, eCheck, true_or]
  · simp (config := { maxSteps := 4000000 }) (disch := omega) only [step, stepv, ev, okW, onlyFr, Bool.false_and, Bool.true_and, sealw, wl, wn, wp, aop, cV, cV1, ↓reduceIte, Nat.reduceEqDiff, Nat.reduceAdd, Int.cast_ofNat_Int, if_true, if_false, AV.one, repCells, fillA, partCells, Nat.reduceLT, Nat.reduceLeDiff, Nat.reduceMul, Nat.reduceSub, Int.reduceLT, Int.reduceLE, Int.reduceAdd, Int.reduceSub, Int.reduceMul, Int.reduceToNat, sliceCells, cellsAt, srcA, app, reduceCtorEq, Int.reduceEq, Int.reduceNeg, Int.reducePow, Nat.reducePow, Int.reduceTDiv, Int.reduceDiv, Nat.reduceDiv, Nat.reduceMod, Int.reduceMod, Int.reduceTMod, ne_eq, subA, beq_iff_eq, unA, minA, maxA, eqFs, eqA1, beq_self_eq_true, Nat.reduceBEq, h0, eCheck, or_self]
end Go.Am

namespace Go.Am
open Go.RowKit

end Go.Am

namespace Go.Am
open Go.RowKit

/-! ### slices.IndexFunc, slices.ContainsFunc at elements of one cell -/

def idxI {α : Type} (p : α → Bool) (l : List α) : Int := match l.findIdx? p with | some i => i | none => -1

theorem find_none {α : Type} {p : α → Bool} {l : List α} (h : l.all (fun x => !p x) = true) : l.findIdx? p = none := by
  rw [List.findIdx?_eq_none_iff]
  intro x hx
  have := List.all_eq_true.1 h x hx
  simpa using this

theorem find_at {α : Type} {p : α → Bool} {l : List α} {k : Nat} (hk : k < l.length) (h : (l.take k).all (fun x => !p x) = true) (hp : p l[k] = true) : l.findIdx? p = some k := by
  rw [List.findIdx?_eq_some_iff_getElem]
  refine ⟨hk, hp, fun j hj => ?_⟩
  have := List.all_eq_true.1 h l[j] (by
    rw [List.mem_take_iff_getElem]
    exact ⟨j, by omega, rfl⟩)
  simpa using this

theorem all_take_go {α : Type} {l : List α} {k : Nat} (h : k < l.length) {p : α → Bool} : (l.take (k + 1)).all p = ((l.take k).all p && p l[k]) := by
  rw [List.take_succ_eq_append_getElem h, List.all_append]; simp

theorem idx_any {α : Type} (p : α → Bool) (l : List α) : decide ((0 : Int) ≤ idxI p l) = l.any p := by
  unfold idxI
  cases h : l.findIdx? p with
  | none =>
    rw [List.findIdx?_eq_none_iff] at h
    have : l.any p = false := by rw [List.any_eq_false]; intro x hx; rw [h x hx]; simp
    rw [this]; rfl
  | some i =>
    rw [List.findIdx?_eq_some_iff_getElem] at h
    obtain ⟨h1, h2, _⟩ := h
    have : l.any p = true := by rw [List.any_eq_true]; exact ⟨_, List.getElem_mem h1, h2⟩
    rw [this]; simp

/-! ### feeding -/

end Go.Am

namespace Go.Am
open Go.RowKit

def w32 (x : Int) : Int := IntKind.i32.wrap x
/-- A filter. -/
structure Filt where
  sh : Int
  tp : List Int
  ps : List Int

/-! ### taps.New, taps.Check -/

/-! ### taps.Guess -/

/-! ### taps.Learn, taps.Push -/

def stepN (i : Nat) : Int := if i = 0 then 4 else if i < 4 then 2 else 1
end Go.Am

namespace Go.Am
open Go.RowKit

def sgn (x : Int) : Int := if x < 0 then -1 else if 0 < x then 1 else 0
def updT (x : Filt) (w : Int) (k : Nat) : Int := w32 (x.tp.getD k 0 + stepN k * sgn (x.ps.getD k 0) * sgn w)
def learnK (x : Filt) (w : Int) (k : Nat) : List Int := (List.range 16).map fun i => if i < k then updT x w i else x.tp.getD i 0
def lf (x : Filt) (w : Int) (k : Nat) : Filt := { x with tp := learnK x w k }
/-! ### taps.Push -/

end Go.Am

namespace Go.Am
open Go.RowKit

/-! ### first -/

/-! ### chain -/

end Go.Am

namespace Go.Am
open Go.RowKit

/-! ### chain.Back -/

/-! ### The references -/

end Go.Am

namespace Go.Am
open Go.RowKit

/-! ### New -/


/-! ### fold -/

end Go.Am

namespace Go.Am
open Go.RowKit

/-! ### slices.Clone of numbers -/

/-! ### mix.mix: in its place -/

end Go.Am

namespace Go.Am
open Go.RowKit

def okM (c : Nat) (l : List Int) : Prop := 1 ≤ c ∧ c ≤ 6 ∧ 0 < l.length ∧ l.length ≤ 4000 ∧ l.length % c = 0 ∧ I32 l
end Go.Am

namespace Go.Am
open Go.RowKit

theorem Le.drop1 {o : Ob} {xs : List Ob} {fr fr' : List (Nat × AV)} (h : isTL o.cs = true)
    (hfr : ∀ p ∈ fr', p.2 = .any ∨ frzK (fun o => decide (o < 1)) (fun o => decide (1 ≤ o)) (o :: xs) 2 [look fr p.1] = some [p.2]) : Le 0 ⟨fr, o :: xs⟩ ⟨fr', [o]⟩ := by
  refine Le.drop 1 2 (by omega) rfl hfr ?_
  intro i y hy
  match i, hy with
  | 0, hy =>
    simp at hy
    subst hy
    exact ⟨o.cs, by simp, by simp only [frzK]; exact frzL_T _ h⟩
  | i + 1, hy => simp at hy

end Go.Am

namespace Go.Am
open Go.RowKit

end Go.Am

namespace Go.Am
open Go.RowKit

def askN (c x : Int) (l : List Int) : Int := if eCheck c x ≠ 0 then 2 else if checkN x l ≠ 0 then checkN x l else if l.length = 0 ∨ (l.length : Int) % c ≠ 0 then 2 else 0
theorem ask_err {c x : Int} {l : List Int} (h : eCheck c x = 2) : askN c x l = 2 := by simp [askN, h]
theorem ask_chk {c x : Int} {l : List Int} (h : eCheck c x = 0) (h2 : checkN x l ≠ 0) : askN c x l = checkN x l := by simp [askN, h, h2]
theorem ask_odd {c x : Int} {l : List Int} (h : eCheck c x = 0) (h2 : checkN x l = 0) (h3 : l.length = 0 ∨ (l.length : Int) % c ≠ 0) : askN c x l = 2 := by simp only [askN, h, h2, if_pos h3]; simp
theorem ask_ok {c x : Int} {l : List Int} (h : eCheck c x = 0) (h2 : checkN x l = 0) (h3 : ¬ (l.length = 0 ∨ (l.length : Int) % c ≠ 0)) : askN c x l = 0 := by simp only [askN, h, h2, if_neg h3]; simp
theorem eCheck_cases (c x : Int) : eCheck c x = 2 ∨ (eCheck c x = 0 ∧ half x ≠ 0 ∧ 1 ≤ c ∧ c ≤ 6) := by unfold eCheck; split <;> omega
theorem chkN_cases (x : Int) (l : List Int) : checkN x l = 2 ∨ checkN x l = 4 ∨ checkN x l = 16 ∨ (checkN x l = 0 ∧ half x ≠ 0 ∧ l.length ≤ 4000) := by
  unfold checkN
  by_cases h : half x = 0
  · simp [h]
  by_cases h2 : 4000 < l.length
  · simp [h, h2]
  by_cases h3 : l.all (inR x)
  · simp [h, h2, h3]; omega
  · simp [h, h2, h3]
theorem ask_okM {c x : Int} {l : List Int} (hI : I32 l) (h : askN c x l = 0) : ∃ k : Nat, c = k ∧ okM k l ∧ half x ≠ 0 := by
  rcases eCheck_cases c x with h1 | ⟨h1, h2, h3, h4⟩
  · rw [ask_err h1] at h; omega
  by_cases h5 : checkN x l = 0
  · by_cases h6 : l.length = 0 ∨ (l.length : Int) % c ≠ 0
    · rw [ask_odd h1 h5 h6] at h; omega
    · obtain ⟨k, rfl⟩ : ∃ k : Nat, c = k := ⟨c.toNat, by omega⟩
      refine ⟨k, rfl, ⟨by omega, by omega, by omega, by rcases chkN_cases x l with h | h | h | h <;> omega, by omega, hI⟩, h2⟩
  · rw [ask_chk h1 h5] at h; exact absurd h h5

def S_EAsk (P : Prg) (f : Nat) : Prop := ∀ (c x : Int) (l : List Int), I32 l → VC P f [shA c x, il l] (.int .i64 (askN c x l))

theorem ref20_Asked {P : Prg} {f fE fW t0 : Nat} (b : Body P f 28 [.tmp 4] (ac_cadenzaref20_Asked fE fW t0)) (hE : S_ECheck P fE) (hW : S_WCheck P fW) : S_EAsk P f := by
  intro c x l hI
  refine VC.of_acall (by simp [isDL, isD, isD_il, shA]) rfl (ACall.of_body b (by simp) ?_)
  have hE' := hE c x
  rw [shA] at hE'
  simp (config := { maxSteps := 4000000 }) (disch := omega) only [step, stepv, ev, okW, onlyFr, Bool.false_and, Bool.true_and, sealw, wl, wn, wp, aop, cV, cV1, ↓reduceIte, Nat.reduceEqDiff, Nat.reduceAdd, Int.cast_ofNat_Int, if_true, if_false, AV.one, repCells, fillA, partCells, Nat.reduceLT, Nat.reduceLeDiff, Nat.reduceMul, Nat.reduceSub, Int.reduceLT, Int.reduceLE, Int.reduceAdd, Int.reduceSub, Int.reduceMul, Int.reduceToNat, sliceCells, cellsAt, srcA, app, reduceCtorEq, Int.reduceEq, Int.reduceNeg, Int.reducePow, Nat.reducePow, Int.reduceTDiv, Int.reduceDiv, Nat.reduceDiv, Nat.reduceMod, Int.reduceMod, Int.reduceTMod, ne_eq, subA, beq_iff_eq, unA, minA, maxA, eqFs, eqA1, beq_self_eq_true, Nat.reduceBEq, ac_cadenzaref20_Asked, shA]
  refine callQ.vc hE' ?_
  rcases eCheck_cases c x with h1 | ⟨h1, h2, h3, h4⟩
  · simp (config := { maxSteps := 4000000 }) (disch := omega) only [step, stepv, ev, okW, onlyFr, Bool.false_and, Bool.true_and, sealw, wl, wn, wp, aop, cV, cV1, ↓reduceIte, Nat.reduceEqDiff, Nat.reduceAdd, Int.cast_ofNat_Int, if_true, if_false, AV.one, repCells, fillA, partCells, Nat.reduceLT, Nat.reduceLeDiff, Nat.reduceMul, Nat.reduceSub, Int.reduceLT, Int.reduceLE, Int.reduceAdd, Int.reduceSub, Int.reduceMul, Int.reduceToNat, sliceCells, cellsAt, srcA, app, reduceCtorEq, Int.reduceEq, Int.reduceNeg, Int.reducePow, Nat.reducePow, Int.reduceTDiv, Int.reduceDiv, Nat.reduceDiv, Nat.reduceMod, Int.reduceMod, Int.reduceTMod, ne_eq, subA, beq_iff_eq, unA, minA, maxA, eqFs, eqA1, beq_self_eq_true, Nat.reduceBEq, h1, ask_err h1]
  simp (config := { maxSteps := 4000000 }) (disch := omega) only [step, stepv, ev, okW, onlyFr, Bool.false_and, Bool.true_and, sealw, wl, wn, wp, aop, cV, cV1, ↓reduceIte, Nat.reduceEqDiff, Nat.reduceAdd, Int.cast_ofNat_Int, if_true, if_false, AV.one, repCells, fillA, partCells, Nat.reduceLT, Nat.reduceLeDiff, Nat.reduceMul, Nat.reduceSub, Int.reduceLT, Int.reduceLE, Int.reduceAdd, Int.reduceSub, Int.reduceMul, Int.reduceToNat, sliceCells, cellsAt, srcA, app, reduceCtorEq, Int.reduceEq, Int.reduceNeg, Int.reducePow, Nat.reducePow, Int.reduceTDiv, Int.reduceDiv, Nat.reduceDiv, Nat.reduceMod, Int.reduceMod, Int.reduceTMod, ne_eq, subA, beq_iff_eq, unA, minA, maxA, eqFs, eqA1, beq_self_eq_true, Nat.reduceBEq, h1]
  refine callQ.vc (hW x l hI) ?_
  by_cases h5 : checkN x l = 0
  · have h9 : l.length ≤ 4000 := by rcases chkN_cases x l with h | h | h | h <;> omega
    by_cases h6 : l.length = 0
    · simp (config := { maxSteps := 4000000 }) (disch := omega) only [step, stepv, ev, okW, onlyFr, Bool.false_and, Bool.true_and, sealw, wl, wn, wp, aop, cV, cV1, ↓reduceIte, Nat.reduceEqDiff, Nat.reduceAdd, Int.cast_ofNat_Int, if_true, if_false, AV.one, repCells, fillA, partCells, Nat.reduceLT, Nat.reduceLeDiff, Nat.reduceMul, Nat.reduceSub, Int.reduceLT, Int.reduceLE, Int.reduceAdd, Int.reduceSub, Int.reduceMul, Int.reduceToNat, sliceCells, cellsAt, srcA, app, reduceCtorEq, Int.reduceEq, Int.reduceNeg, Int.reducePow, Nat.reducePow, Int.reduceTDiv, Int.reduceDiv, Nat.reduceDiv, Nat.reduceMod, Int.reduceMod, Int.reduceTMod, ne_eq, subA, beq_iff_eq, unA, minA, maxA, eqFs, eqA1, beq_self_eq_true, Nat.reduceBEq, h5, il, h6, ask_odd h1 h5 (.inl h6)]
    · by_cases h7 : (l.length : Int) % c = 0
      · have hm := mod_small (n := l.length) (c := c) (by omega)
        simp (config := { maxSteps := 4000000 }) (disch := omega) only [step, stepv, ev, okW, onlyFr, Bool.false_and, Bool.true_and, sealw, wl, wn, wp, aop, cV, cV1, ↓reduceIte, Nat.reduceEqDiff, Nat.reduceAdd, Int.cast_ofNat_Int, if_true, if_false, AV.one, repCells, fillA, partCells, Nat.reduceLT, Nat.reduceLeDiff, Nat.reduceMul, Nat.reduceSub, Int.reduceLT, Int.reduceLE, Int.reduceAdd, Int.reduceSub, Int.reduceMul, Int.reduceToNat, sliceCells, cellsAt, srcA, app, reduceCtorEq, Int.reduceEq, Int.reduceNeg, Int.reducePow, Nat.reducePow, Int.reduceTDiv, Int.reduceDiv, Nat.reduceDiv, Nat.reduceMod, Int.reduceMod, Int.reduceTMod, ne_eq, subA, beq_iff_eq, unA, minA, maxA, eqFs, eqA1, beq_self_eq_true, Nat.reduceBEq, h5, il, h6, h7, ask_ok h1 h5 (by omega)]
      · have hm := mod_small (n := l.length) (c := c) (by omega)
        have hp : 0 < (l.length : Int) % c := by omega
        simp (config := { maxSteps := 4000000 }) (disch := omega) only [step, stepv, ev, okW, onlyFr, Bool.false_and, Bool.true_and, sealw, wl, wn, wp, aop, cV, cV1, ↓reduceIte, Nat.reduceEqDiff, Nat.reduceAdd, Int.cast_ofNat_Int, if_true, if_false, AV.one, repCells, fillA, partCells, Nat.reduceLT, Nat.reduceLeDiff, Nat.reduceMul, Nat.reduceSub, Int.reduceLT, Int.reduceLE, Int.reduceAdd, Int.reduceSub, Int.reduceMul, Int.reduceToNat, sliceCells, cellsAt, srcA, app, reduceCtorEq, Int.reduceEq, Int.reduceNeg, Int.reducePow, Nat.reducePow, Int.reduceTDiv, Int.reduceDiv, Nat.reduceDiv, Nat.reduceMod, Int.reduceMod, Int.reduceTMod, ne_eq, subA, beq_iff_eq, unA, minA, maxA, eqFs, eqA1, beq_self_eq_true, Nat.reduceBEq, h5, il, h6, h7, ask_odd h1 h5 (.inr h7)]
  · simp (config := { maxSteps := 4000000 }) (disch := omega) only [step, stepv, ev, okW, onlyFr, Bool.false_and, Bool.true_and, sealw, wl, wn, wp, aop, cV, cV1, ↓reduceIte, Nat.reduceEqDiff, Nat.reduceAdd, Int.cast_ofNat_Int, if_true, if_false, AV.one, repCells, fillA, partCells, Nat.reduceLT, Nat.reduceLeDiff, Nat.reduceMul, Nat.reduceSub, Int.reduceLT, Int.reduceLE, Int.reduceAdd, Int.reduceSub, Int.reduceMul, Int.reduceToNat, sliceCells, cellsAt, srcA, app, reduceCtorEq, Int.reduceEq, Int.reduceNeg, Int.reducePow, Nat.reducePow, Int.reduceTDiv, Int.reduceDiv, Nat.reduceDiv, Nat.reduceMod, Int.reduceMod, Int.reduceTMod, ne_eq, subA, beq_iff_eq, unA, minA, maxA, eqFs, eqA1, beq_self_eq_true, Nat.reduceBEq, h5]
    refine callQ.vc (hW x l hI) ?_
    simp (config := { maxSteps := 4000000 }) (disch := omega) only [step, stepv, ev, okW, onlyFr, Bool.false_and, Bool.true_and, sealw, wl, wn, wp, aop, cV, cV1, ↓reduceIte, Nat.reduceEqDiff, Nat.reduceAdd, Int.cast_ofNat_Int, if_true, if_false, AV.one, repCells, fillA, partCells, Nat.reduceLT, Nat.reduceLeDiff, Nat.reduceMul, Nat.reduceSub, Int.reduceLT, Int.reduceLE, Int.reduceAdd, Int.reduceSub, Int.reduceMul, Int.reduceToNat, sliceCells, cellsAt, srcA, app, reduceCtorEq, Int.reduceEq, Int.reduceNeg, Int.reducePow, Nat.reducePow, Int.reduceTDiv, Int.reduceDiv, Nat.reduceDiv, Nat.reduceMod, Int.reduceMod, Int.reduceTMod, ne_eq, subA, beq_iff_eq, unA, minA, maxA, eqFs, eqA1, beq_self_eq_true, Nat.reduceBEq, ask_chk h1 h5]

end Go.Am

namespace Go.Am
open Go.RowKit

/-! ### Six channels in one array -/

/-! ### What is coded -/

theorem Le.dropT (os : List Ob) {xs : List Ob} {fr fr' : List (Nat × AV)} (h : ∀ o ∈ os, isTL o.cs = true)
    (hfr : ∀ p ∈ fr', p.2 = .any ∨ frzK (fun o => decide (o < os.length)) (fun o => decide (os.length ≤ o)) (os ++ xs) 2 [look fr p.1] = some [p.2]) : Le 0 ⟨fr, os ++ xs⟩ ⟨fr', os⟩ := by
  refine Le.drop os.length 2 (by omega) rfl hfr ?_
  intro i y hy
  have hi : i < os.length := by
    rcases Nat.lt_or_ge i os.length with h | h
    · exact h
    · rw [List.getElem?_eq_none h] at hy; cases hy
  refine ⟨y.cs, by rw [List.getElem?_append_left hi]; exact hy, ?_⟩
  simp only [frzK]
  exact frzL_T _ (h y (List.mem_of_getElem? hy))
end Go.Am

namespace Go.Am
open Go.RowKit

end Go.Am

namespace Go.Am
open Go.RowKit

end Go.Am

namespace Go.Am
open Go.RowKit

end Go.Am

namespace Go.Am
open Go.RowKit

/-! ### Unmixing -/

end Go.Am

namespace Go.Am
open Go.RowKit

/-! ### The reference -/

end Go.Am

namespace Go.Am
open Go.RowKit

/-! ### What is uncoded -/

end Go.Am

namespace Go.Am
open Go.RowKit

end Go.Am

namespace Go.Am
open Go.RowKit

end Go.Am

namespace Go.Am
open Go.RowKit

def cntA (r n : Int) : AV := if r < 1 ∨ 1048576 < r then .tup [.int .i64 0, .int .i64 2] else if n < 1 ∨ 4000 < n then .tup [.int .i64 0, .int .i64 2] else if 1000 < (n + longN r - 1) / longN r then .tup [.int .i64 0, .int .i64 4] else .tup [.int .i64 ((n + longN r - 1) / longN r), .int .i64 0]
theorem isD_cnt (r n : Int) : isD (cntA r n) = true := by unfold cntA; split <;> (try split) <;> (try split) <;> rfl
def S_Count22 (P : Prg) (f : Nat) : Prop := ∀ r n : Int, VC P f [.int .i64 r, .int .i64 n] (cntA r n)

theorem lengths_Count {P : Prg} {f fL : Nat} (b : Body P f 32 [.tmp 4, .tmp 5] (ac_lengths_Count fL)) (hL : S_Long22 P fL) : S_Count22 P f := by
  intro r n
  refine VC.of_acall rfl (isD_cnt _ _) (ACall.of_body b (by simp) ?_)
  have hL' := hL r
  simp (config := { maxSteps := 4000000 }) (disch := omega) only [step, stepv, ev, okW, onlyFr, Bool.false_and, Bool.true_and, sealw, wl, wn, wp, aop, cV, cV1, ↓reduceIte, Nat.reduceEqDiff, Nat.reduceAdd, Int.cast_ofNat_Int, if_true, if_false, AV.one, repCells, fillA, partCells, Nat.reduceLT, Nat.reduceLeDiff, Nat.reduceMul, Nat.reduceSub, Int.reduceLT, Int.reduceLE, Int.reduceAdd, Int.reduceSub, Int.reduceMul, Int.reduceToNat, sliceCells, cellsAt, srcA, app, reduceCtorEq, Int.reduceEq, Int.reduceNeg, Int.reducePow, Nat.reducePow, Int.reduceTDiv, Int.reduceDiv, Nat.reduceDiv, Nat.reduceMod, Int.reduceMod, Int.reduceTMod, ne_eq, subA, beq_iff_eq, unA, minA, maxA, eqFs, eqA1, beq_self_eq_true, Nat.reduceBEq, ac_lengths_Count]
  refine callQ.vc hL' ?_
  by_cases h1 : r < 1 ∨ 1048576 < r
  · have e1 : longA r = .tup [.int .i64 0, .int .i64 2] := by rw [longA, if_pos h1]
    have e2 : cntA r n = .tup [.int .i64 0, .int .i64 2] := by rw [cntA, if_pos h1]
    simp (config := { maxSteps := 4000000 }) (disch := omega) only [step, stepv, ev, okW, onlyFr, Bool.false_and, Bool.true_and, sealw, wl, wn, wp, aop, cV, cV1, ↓reduceIte, Nat.reduceEqDiff, Nat.reduceAdd, Int.cast_ofNat_Int, if_true, if_false, AV.one, repCells, fillA, partCells, Nat.reduceLT, Nat.reduceLeDiff, Nat.reduceMul, Nat.reduceSub, Int.reduceLT, Int.reduceLE, Int.reduceAdd, Int.reduceSub, Int.reduceMul, Int.reduceToNat, sliceCells, cellsAt, srcA, app, reduceCtorEq, Int.reduceEq, Int.reduceNeg, Int.reducePow, Nat.reducePow, Int.reduceTDiv, Int.reduceDiv, Nat.reduceDiv, Nat.reduceMod, Int.reduceMod, Int.reduceTMod, ne_eq, subA, beq_iff_eq, unA, minA, maxA, eqFs, eqA1, beq_self_eq_true, Nat.reduceBEq, e1, e2]
  have e1 : longA r = .tup [.int .i64 (longN r), .int .i64 0] := by rw [longA, if_neg h1]
  have p1 := longN_pos r
  have p2 := longN_le (r := r) (by omega)
  by_cases h2 : n < 1
  · have e2 : cntA r n = .tup [.int .i64 0, .int .i64 2] := by rw [cntA, if_neg h1, if_pos (.inl h2)]
    simp (config := { maxSteps := 4000000 }) (disch := omega) only [step, stepv, ev, okW, onlyFr, Bool.false_and, Bool.true_and, sealw, wl, wn, wp, aop, cV, cV1, ↓reduceIte, Nat.reduceEqDiff, Nat.reduceAdd, Int.cast_ofNat_Int, if_true, if_false, AV.one, repCells, fillA, partCells, Nat.reduceLT, Nat.reduceLeDiff, Nat.reduceMul, Nat.reduceSub, Int.reduceLT, Int.reduceLE, Int.reduceAdd, Int.reduceSub, Int.reduceMul, Int.reduceToNat, sliceCells, cellsAt, srcA, app, reduceCtorEq, Int.reduceEq, Int.reduceNeg, Int.reducePow, Nat.reducePow, Int.reduceTDiv, Int.reduceDiv, Nat.reduceDiv, Nat.reduceMod, Int.reduceMod, Int.reduceTMod, ne_eq, subA, beq_iff_eq, unA, minA, maxA, eqFs, eqA1, beq_self_eq_true, Nat.reduceBEq, e1, e2]
  by_cases h3 : 4000 < n
  · have e2 : cntA r n = .tup [.int .i64 0, .int .i64 2] := by rw [cntA, if_neg h1, if_pos (.inr h3)]
    simp (config := { maxSteps := 4000000 }) (disch := omega) only [step, stepv, ev, okW, onlyFr, Bool.false_and, Bool.true_and, sealw, wl, wn, wp, aop, cV, cV1, ↓reduceIte, Nat.reduceEqDiff, Nat.reduceAdd, Int.cast_ofNat_Int, if_true, if_false, AV.one, repCells, fillA, partCells, Nat.reduceLT, Nat.reduceLeDiff, Nat.reduceMul, Nat.reduceSub, Int.reduceLT, Int.reduceLE, Int.reduceAdd, Int.reduceSub, Int.reduceMul, Int.reduceToNat, sliceCells, cellsAt, srcA, app, reduceCtorEq, Int.reduceEq, Int.reduceNeg, Int.reducePow, Nat.reducePow, Int.reduceTDiv, Int.reduceDiv, Nat.reduceDiv, Nat.reduceMod, Int.reduceMod, Int.reduceTMod, ne_eq, subA, beq_iff_eq, unA, minA, maxA, eqFs, eqA1, beq_self_eq_true, Nat.reduceBEq, e1, e2]
  have e2 : cntA r n = if 1000 < (n + longN r - 1) / longN r then .tup [.int .i64 0, .int .i64 4] else .tup [.int .i64 ((n + longN r - 1) / longN r), .int .i64 0] := by
    rw [cntA, if_neg h1, if_neg (by omega)]
  generalize longN r = L at *
  have q0 : (n + L - 1).tdiv L = (n + L - 1) / L := Int.tdiv_eq_ediv_of_nonneg (by omega)
  have q1 : 0 ≤ (n + L - 1) / L := Int.ediv_nonneg (by omega) (by omega)
  have q2 : (n + L - 1) / L ≤ n + L - 1 := Int.ediv_le_self _ (by omega)
  generalize hq : (n + L - 1) / L = Q at *
  by_cases h4 : 1000 < Q
  · rw [if_pos h4] at e2
    simp (config := { maxSteps := 4000000 }) (disch := omega) only [step, stepv, ev, okW, onlyFr, Bool.false_and, Bool.true_and, sealw, wl, wn, wp, aop, cV, cV1, ↓reduceIte, Nat.reduceEqDiff, Nat.reduceAdd, Int.cast_ofNat_Int, if_true, if_false, AV.one, repCells, fillA, partCells, Nat.reduceLT, Nat.reduceLeDiff, Nat.reduceMul, Nat.reduceSub, Int.reduceLT, Int.reduceLE, Int.reduceAdd, Int.reduceSub, Int.reduceMul, Int.reduceToNat, sliceCells, cellsAt, srcA, app, reduceCtorEq, Int.reduceEq, Int.reduceNeg, Int.reducePow, Nat.reducePow, Int.reduceTDiv, Int.reduceDiv, Nat.reduceDiv, Nat.reduceMod, Int.reduceMod, Int.reduceTMod, ne_eq, subA, beq_iff_eq, unA, minA, maxA, eqFs, eqA1, beq_self_eq_true, Nat.reduceBEq, e1, q0, hq, e2]
  · rw [if_neg h4] at e2
    simp (config := { maxSteps := 4000000 }) (disch := omega) only [step, stepv, ev, okW, onlyFr, Bool.false_and, Bool.true_and, sealw, wl, wn, wp, aop, cV, cV1, ↓reduceIte, Nat.reduceEqDiff, Nat.reduceAdd, Int.cast_ofNat_Int, if_true, if_false, AV.one, repCells, fillA, partCells, Nat.reduceLT, Nat.reduceLeDiff, Nat.reduceMul, Nat.reduceSub, Int.reduceLT, Int.reduceLE, Int.reduceAdd, Int.reduceSub, Int.reduceMul, Int.reduceToNat, sliceCells, cellsAt, srcA, app, reduceCtorEq, Int.reduceEq, Int.reduceNeg, Int.reducePow, Nat.reducePow, Int.reduceTDiv, Int.reduceDiv, Nat.reduceDiv, Nat.reduceMod, Int.reduceMod, Int.reduceTMod, ne_eq, subA, beq_iff_eq, unA, minA, maxA, eqFs, eqA1, beq_self_eq_true, Nat.reduceBEq, e1, q0, hq, e2]

def S_Shape24 (P : Prg) (f : Nat) : Prop := ∀ (c x r : Int) (l : List Int), VC P f [.agg [.int .i64 c, .int .i64 x, .int .i64 r, il l]] (shA c x)
theorem clip_shape {P : Prg} {f t0 t1 : Nat} (b : Body P f 8 [.cell 2 t1] (ac_clip_shape t0 t1)) (ht : aggO P t1 = some (some 2)) : S_Shape24 P f := by
  intro c x r l
  refine VC.of_acall (by simp [isDL, isD, isD_il]) rfl (ACall.of_body b (by simp) ?_)
  simp (config := { maxSteps := 4000000 }) (disch := omega) only [step, stepv, ev, okW, onlyFr, Bool.false_and, Bool.true_and, sealw, wl, wn, wp, aop, cV, cV1, ↓reduceIte, Nat.reduceEqDiff, Nat.reduceAdd, Int.cast_ofNat_Int, if_true, if_false, AV.one, repCells, fillA, partCells, Nat.reduceLT, Nat.reduceLeDiff, Nat.reduceMul, Nat.reduceSub, Int.reduceLT, Int.reduceLE, Int.reduceAdd, Int.reduceSub, Int.reduceMul, Int.reduceToNat, sliceCells, cellsAt, srcA, app, reduceCtorEq, Int.reduceEq, Int.reduceNeg, Int.reducePow, Nat.reducePow, Int.reduceTDiv, Int.reduceDiv, Nat.reduceDiv, Nat.reduceMod, Int.reduceMod, Int.reduceTMod, ne_eq, subA, beq_iff_eq, unA, minA, maxA, eqFs, eqA1, beq_self_eq_true, Nat.reduceBEq, ac_clip_shape, il, resA, ht, shA]
theorem ref24_Shape {P : Prg} {f t0 t1 : Nat} (b : Body P f 8 [.cell 2 t1] (ac_cadenzaref24_Shape t0 t1)) (ht : aggO P t1 = some (some 2)) : S_Shape24 P f := by
  intro c x r l
  refine VC.of_acall (by simp [isDL, isD, isD_il]) rfl (ACall.of_body b (by simp) ?_)
  simp (config := { maxSteps := 4000000 }) (disch := omega) only [step, stepv, ev, okW, onlyFr, Bool.false_and, Bool.true_and, sealw, wl, wn, wp, aop, cV, cV1, ↓reduceIte, Nat.reduceEqDiff, Nat.reduceAdd, Int.cast_ofNat_Int, if_true, if_false, AV.one, repCells, fillA, partCells, Nat.reduceLT, Nat.reduceLeDiff, Nat.reduceMul, Nat.reduceSub, Int.reduceLT, Int.reduceLE, Int.reduceAdd, Int.reduceSub, Int.reduceMul, Int.reduceToNat, sliceCells, cellsAt, srcA, app, reduceCtorEq, Int.reduceEq, Int.reduceNeg, Int.reducePow, Nat.reducePow, Int.reduceTDiv, Int.reduceDiv, Nat.reduceDiv, Nat.reduceMod, Int.reduceMod, Int.reduceTMod, ne_eq, subA, beq_iff_eq, unA, minA, maxA, eqFs, eqA1, beq_self_eq_true, Nat.reduceBEq, ac_cadenzaref24_Shape, il, resA, ht, shA]

def cntE (r n : Int) : Int := if r < 1 ∨ 1048576 < r then 2 else if n < 1 ∨ 4000 < n then 2 else if 1000 < (n + longN r - 1) / longN r then 4 else 0
theorem cnt_form (r n : Int) : ∃ k : Int, cntA r n = .tup [.int .i64 k, .int .i64 (cntE r n)] := by
  unfold cntA cntE
  split
  · exact ⟨_, rfl⟩
  split
  · exact ⟨_, rfl⟩
  split
  · exact ⟨_, rfl⟩
  · exact ⟨_, rfl⟩
def headN (c x r n : Int) : Int := if eCheck c x ≠ 0 then 8 else if n < 1 then 8 else if 4000 / c < n then 8 else if cntE r n ≠ 0 then 8 else 0
def S_CHead (P : Prg) (f : Nat) : Prop := ∀ (c x r n : Int) (l : List Int), VC P f [.agg [.int .i64 c, .int .i64 x, .int .i64 r, il l], .int .i64 n] (.int .i64 (headN c x r n))
theorem clip_head {P : Prg} {f fS fE fC t0 : Nat} (b : Body P f 31 [.tmp 4] (ac_clip_head fS fE fC t0)) (hS : S_Shape24 P fS) (hE : S_ECheck P fE) (hC : S_Count22 P fC) : S_CHead P f := by
  intro c x r n l
  refine VC.of_acall (by simp [isDL, isD, isD_il]) rfl (ACall.of_body b (by simp) ?_)
  have hS' := hS c x r l
  have hE' := hE c x
  rw [shA] at hS' hE'
  rw [il] at hS'
  obtain ⟨k, ek⟩ := cnt_form r n
  have hC' := hC r n
  rw [ek] at hC'
  simp (config := { maxSteps := 4000000 }) (disch := omega) only [step, stepv, ev, okW, onlyFr, Bool.false_and, Bool.true_and, sealw, wl, wn, wp, aop, cV, cV1, ↓reduceIte, Nat.reduceEqDiff, Nat.reduceAdd, Int.cast_ofNat_Int, if_true, if_false, AV.one, repCells, fillA, partCells, Nat.reduceLT, Nat.reduceLeDiff, Nat.reduceMul, Nat.reduceSub, Int.reduceLT, Int.reduceLE, Int.reduceAdd, Int.reduceSub, Int.reduceMul, Int.reduceToNat, sliceCells, cellsAt, srcA, app, reduceCtorEq, Int.reduceEq, Int.reduceNeg, Int.reducePow, Nat.reducePow, Int.reduceTDiv, Int.reduceDiv, Nat.reduceDiv, Nat.reduceMod, Int.reduceMod, Int.reduceTMod, ne_eq, subA, beq_iff_eq, unA, minA, maxA, eqFs, eqA1, beq_self_eq_true, Nat.reduceBEq, ac_clip_head, il]
  refine callQ.vc hS' ?_
  simp (config := { maxSteps := 4000000 }) (disch := omega) only [step, stepv, ev, okW, onlyFr, Bool.false_and, Bool.true_and, sealw, wl, wn, wp, aop, cV, cV1, ↓reduceIte, Nat.reduceEqDiff, Nat.reduceAdd, Int.cast_ofNat_Int, if_true, if_false, AV.one, repCells, fillA, partCells, Nat.reduceLT, Nat.reduceLeDiff, Nat.reduceMul, Nat.reduceSub, Int.reduceLT, Int.reduceLE, Int.reduceAdd, Int.reduceSub, Int.reduceMul, Int.reduceToNat, sliceCells, cellsAt, srcA, app, reduceCtorEq, Int.reduceEq, Int.reduceNeg, Int.reducePow, Nat.reducePow, Int.reduceTDiv, Int.reduceDiv, Nat.reduceDiv, Nat.reduceMod, Int.reduceMod, Int.reduceTMod, ne_eq, subA, beq_iff_eq, unA, minA, maxA, eqFs, eqA1, beq_self_eq_true, Nat.reduceBEq]
  refine callQ.vc hE' ?_
  rcases eCheck_cases c x with h1 | ⟨h1, h2, h3, h4⟩
  · have e9 : headN c x r n = 8 := by simp [headN, h1]
    simp (config := { maxSteps := 4000000 }) (disch := omega) only [step, stepv, ev, okW, onlyFr, Bool.false_and, Bool.true_and, sealw, wl, wn, wp, aop, cV, cV1, ↓reduceIte, Nat.reduceEqDiff, Nat.reduceAdd, Int.cast_ofNat_Int, if_true, if_false, AV.one, repCells, fillA, partCells, Nat.reduceLT, Nat.reduceLeDiff, Nat.reduceMul, Nat.reduceSub, Int.reduceLT, Int.reduceLE, Int.reduceAdd, Int.reduceSub, Int.reduceMul, Int.reduceToNat, sliceCells, cellsAt, srcA, app, reduceCtorEq, Int.reduceEq, Int.reduceNeg, Int.reducePow, Nat.reducePow, Int.reduceTDiv, Int.reduceDiv, Nat.reduceDiv, Nat.reduceMod, Int.reduceMod, Int.reduceTMod, ne_eq, subA, beq_iff_eq, unA, minA, maxA, eqFs, eqA1, beq_self_eq_true, Nat.reduceBEq, h1, e9]
  have q0 : (4000 : Int).tdiv c = 4000 / c := Int.tdiv_eq_ediv_of_nonneg (by omega)
  have q1 : 0 ≤ (4000 : Int) / c := Int.ediv_nonneg (by omega) (by omega)
  have q2 : (4000 : Int) / c ≤ 4000 := Int.ediv_le_self _ (by omega)
  by_cases h5 : n < 1
  · have e9 : headN c x r n = 8 := by simp [headN, h5]
    simp (config := { maxSteps := 4000000 }) (disch := omega) only [step, stepv, ev, okW, onlyFr, Bool.false_and, Bool.true_and, sealw, wl, wn, wp, aop, cV, cV1, ↓reduceIte, Nat.reduceEqDiff, Nat.reduceAdd, Int.cast_ofNat_Int, if_true, if_false, AV.one, repCells, fillA, partCells, Nat.reduceLT, Nat.reduceLeDiff, Nat.reduceMul, Nat.reduceSub, Int.reduceLT, Int.reduceLE, Int.reduceAdd, Int.reduceSub, Int.reduceMul, Int.reduceToNat, sliceCells, cellsAt, srcA, app, reduceCtorEq, Int.reduceEq, Int.reduceNeg, Int.reducePow, Nat.reducePow, Int.reduceTDiv, Int.reduceDiv, Nat.reduceDiv, Nat.reduceMod, Int.reduceMod, Int.reduceTMod, ne_eq, subA, beq_iff_eq, unA, minA, maxA, eqFs, eqA1, beq_self_eq_true, Nat.reduceBEq, h1, e9]
  by_cases h6 : 4000 / c < n
  · have e9 : headN c x r n = 8 := by simp [headN, h6]
    simp (config := { maxSteps := 4000000 }) (disch := omega) only [step, stepv, ev, okW, onlyFr, Bool.false_and, Bool.true_and, sealw, wl, wn, wp, aop, cV, cV1, ↓reduceIte, Nat.reduceEqDiff, Nat.reduceAdd, Int.cast_ofNat_Int, if_true, if_false, AV.one, repCells, fillA, partCells, Nat.reduceLT, Nat.reduceLeDiff, Nat.reduceMul, Nat.reduceSub, Int.reduceLT, Int.reduceLE, Int.reduceAdd, Int.reduceSub, Int.reduceMul, Int.reduceToNat, sliceCells, cellsAt, srcA, app, reduceCtorEq, Int.reduceEq, Int.reduceNeg, Int.reducePow, Nat.reducePow, Int.reduceTDiv, Int.reduceDiv, Nat.reduceDiv, Nat.reduceMod, Int.reduceMod, Int.reduceTMod, ne_eq, subA, beq_iff_eq, unA, minA, maxA, eqFs, eqA1, beq_self_eq_true, Nat.reduceBEq, h1, e9, q0]
  simp (config := { maxSteps := 4000000 }) (disch := omega) only [step, stepv, ev, okW, onlyFr, Bool.false_and, Bool.true_and, sealw, wl, wn, wp, aop, cV, cV1, ↓reduceIte, Nat.reduceEqDiff, Nat.reduceAdd, Int.cast_ofNat_Int, if_true, if_false, AV.one, repCells, fillA, partCells, Nat.reduceLT, Nat.reduceLeDiff, Nat.reduceMul, Nat.reduceSub, Int.reduceLT, Int.reduceLE, Int.reduceAdd, Int.reduceSub, Int.reduceMul, Int.reduceToNat, sliceCells, cellsAt, srcA, app, reduceCtorEq, Int.reduceEq, Int.reduceNeg, Int.reducePow, Nat.reducePow, Int.reduceTDiv, Int.reduceDiv, Nat.reduceDiv, Nat.reduceMod, Int.reduceMod, Int.reduceTMod, ne_eq, subA, beq_iff_eq, unA, minA, maxA, eqFs, eqA1, beq_self_eq_true, Nat.reduceBEq, h1, q0]
  refine callQ.vc hC' ?_
  by_cases h7 : cntE r n = 0
  · have e9 : headN c x r n = 0 := by simp [headN, h1, h5, h6, h7]
    simp (config := { maxSteps := 4000000 }) (disch := omega) only [step, stepv, ev, okW, onlyFr, Bool.false_and, Bool.true_and, sealw, wl, wn, wp, aop, cV, cV1, ↓reduceIte, Nat.reduceEqDiff, Nat.reduceAdd, Int.cast_ofNat_Int, if_true, if_false, AV.one, repCells, fillA, partCells, Nat.reduceLT, Nat.reduceLeDiff, Nat.reduceMul, Nat.reduceSub, Int.reduceLT, Int.reduceLE, Int.reduceAdd, Int.reduceSub, Int.reduceMul, Int.reduceToNat, sliceCells, cellsAt, srcA, app, reduceCtorEq, Int.reduceEq, Int.reduceNeg, Int.reducePow, Nat.reducePow, Int.reduceTDiv, Int.reduceDiv, Nat.reduceDiv, Nat.reduceMod, Int.reduceMod, Int.reduceTMod, ne_eq, subA, beq_iff_eq, unA, minA, maxA, eqFs, eqA1, beq_self_eq_true, Nat.reduceBEq, h7, e9]
  · have e9 : headN c x r n = 8 := by simp [headN, h7]
    simp (config := { maxSteps := 4000000 }) (disch := omega) only [step, stepv, ev, okW, onlyFr, Bool.false_and, Bool.true_and, sealw, wl, wn, wp, aop, cV, cV1, ↓reduceIte, Nat.reduceEqDiff, Nat.reduceAdd, Int.cast_ofNat_Int, if_true, if_false, AV.one, repCells, fillA, partCells, Nat.reduceLT, Nat.reduceLeDiff, Nat.reduceMul, Nat.reduceSub, Int.reduceLT, Int.reduceLE, Int.reduceAdd, Int.reduceSub, Int.reduceMul, Int.reduceToNat, sliceCells, cellsAt, srcA, app, reduceCtorEq, Int.reduceEq, Int.reduceNeg, Int.reducePow, Nat.reducePow, Int.reduceTDiv, Int.reduceDiv, Nat.reduceDiv, Nat.reduceMod, Int.reduceMod, Int.reduceTMod, ne_eq, subA, beq_iff_eq, unA, minA, maxA, eqFs, eqA1, beq_self_eq_true, Nat.reduceBEq, h7, e9]

def clipN (c x r : Int) (l : List Int) : Int := if c < 1 then 8 else if (l.length : Int) % c ≠ 0 then 8 else if headN c x r (l.length / c) ≠ 0 then 8 else if checkN x l ≠ 0 then 8 else 0
theorem head_cases (c x r n : Int) : headN c x r n = 8 ∨ headN c x r n = 0 := by
  unfold headN; split <;> (try split) <;> (try split) <;> (try split) <;> simp
def S_ClipCheck (P : Prg) (f : Nat) : Prop := ∀ (c x r : Int) (l : List Int), I32 l → l.length ≤ 1000000 → VC P f [.agg [.int .i64 c, .int .i64 x, .int .i64 r, il l]] (.int .i64 (clipN c x r l))
theorem clip_Check {P : Prg} {f fH fW t0 : Nat} (b : Body P f 33 [.tmp 2] (ac_clip_Check fH fW t0)) (hH : S_CHead P fH) (hW : S_WCheck P fW) : S_ClipCheck P f := by
  intro c x r l hI hl
  · refine VC.of_acall (by simp [isDL, isD, isD_il]) rfl (ACall.of_body b (by simp) ?_)
    by_cases h1 : c < 1
    · have e9 : clipN c x r l = 8 := by simp [clipN, h1]
      simp (config := { maxSteps := 4000000 }) (disch := omega) only [step, stepv, ev, okW, onlyFr, Bool.false_and, Bool.true_and, sealw, wl, wn, wp, aop, cV, cV1, ↓reduceIte, Nat.reduceEqDiff, Nat.reduceAdd, Int.cast_ofNat_Int, if_true, if_false, AV.one, repCells, fillA, partCells, Nat.reduceLT, Nat.reduceLeDiff, Nat.reduceMul, Nat.reduceSub, Int.reduceLT, Int.reduceLE, Int.reduceAdd, Int.reduceSub, Int.reduceMul, Int.reduceToNat, sliceCells, cellsAt, srcA, app, reduceCtorEq, Int.reduceEq, Int.reduceNeg, Int.reducePow, Nat.reducePow, Int.reduceTDiv, Int.reduceDiv, Nat.reduceDiv, Nat.reduceMod, Int.reduceMod, Int.reduceTMod, ne_eq, subA, beq_iff_eq, unA, minA, maxA, eqFs, eqA1, beq_self_eq_true, Nat.reduceBEq, ac_clip_Check, il, e9]
    have hm := mod_small (n := l.length) (c := c) (by omega)
    have hd := div_small (n := l.length) (c := c) (by omega)
    have q0 : (l.length : Int).tdiv c = l.length / c := Int.tdiv_eq_ediv_of_nonneg (by omega)
    by_cases h2 : (l.length : Int) % c = 0
    · have hH' := hH c x r (l.length / c) l
      have hW' := hW x l hI
      rw [il] at hH' hW'
      simp (config := { maxSteps := 4000000 }) (disch := omega) only [step, stepv, ev, okW, onlyFr, Bool.false_and, Bool.true_and, sealw, wl, wn, wp, aop, cV, cV1, ↓reduceIte, Nat.reduceEqDiff, Nat.reduceAdd, Int.cast_ofNat_Int, if_true, if_false, AV.one, repCells, fillA, partCells, Nat.reduceLT, Nat.reduceLeDiff, Nat.reduceMul, Nat.reduceSub, Int.reduceLT, Int.reduceLE, Int.reduceAdd, Int.reduceSub, Int.reduceMul, Int.reduceToNat, sliceCells, cellsAt, srcA, app, reduceCtorEq, Int.reduceEq, Int.reduceNeg, Int.reducePow, Nat.reducePow, Int.reduceTDiv, Int.reduceDiv, Nat.reduceDiv, Nat.reduceMod, Int.reduceMod, Int.reduceTMod, ne_eq, subA, beq_iff_eq, unA, minA, maxA, eqFs, eqA1, beq_self_eq_true, Nat.reduceBEq, ac_clip_Check, il, h2, q0]
      refine callD.vc hH' ?_
      rcases head_cases c x r (l.length / c) with h3 | h3
      · have e9 : clipN c x r l = 8 := by simp [clipN, h3]
        simp (config := { maxSteps := 4000000 }) (disch := omega) only [step, stepv, ev, okW, onlyFr, Bool.false_and, Bool.true_and, sealw, wl, wn, wp, aop, cV, cV1, ↓reduceIte, Nat.reduceEqDiff, Nat.reduceAdd, Int.cast_ofNat_Int, if_true, if_false, AV.one, repCells, fillA, partCells, Nat.reduceLT, Nat.reduceLeDiff, Nat.reduceMul, Nat.reduceSub, Int.reduceLT, Int.reduceLE, Int.reduceAdd, Int.reduceSub, Int.reduceMul, Int.reduceToNat, sliceCells, cellsAt, srcA, app, reduceCtorEq, Int.reduceEq, Int.reduceNeg, Int.reducePow, Nat.reducePow, Int.reduceTDiv, Int.reduceDiv, Nat.reduceDiv, Nat.reduceMod, Int.reduceMod, Int.reduceTMod, ne_eq, subA, beq_iff_eq, unA, minA, maxA, eqFs, eqA1, beq_self_eq_true, Nat.reduceBEq, h3, e9]
      · simp (config := { maxSteps := 4000000 }) (disch := omega) only [step, stepv, ev, okW, onlyFr, Bool.false_and, Bool.true_and, sealw, wl, wn, wp, aop, cV, cV1, ↓reduceIte, Nat.reduceEqDiff, Nat.reduceAdd, Int.cast_ofNat_Int, if_true, if_false, AV.one, repCells, fillA, partCells, Nat.reduceLT, Nat.reduceLeDiff, Nat.reduceMul, Nat.reduceSub, Int.reduceLT, Int.reduceLE, Int.reduceAdd, Int.reduceSub, Int.reduceMul, Int.reduceToNat, sliceCells, cellsAt, srcA, app, reduceCtorEq, Int.reduceEq, Int.reduceNeg, Int.reducePow, Nat.reducePow, Int.reduceTDiv, Int.reduceDiv, Nat.reduceDiv, Nat.reduceMod, Int.reduceMod, Int.reduceTMod, ne_eq, subA, beq_iff_eq, unA, minA, maxA, eqFs, eqA1, beq_self_eq_true, Nat.reduceBEq, h3]
        refine callQ.vc hW' ?_
        by_cases h4 : checkN x l = 0
        · have e9 : clipN c x r l = 0 := by simp [clipN, h1, h2, h3, h4]
          simp (config := { maxSteps := 4000000 }) (disch := omega) only [step, stepv, ev, okW, onlyFr, Bool.false_and, Bool.true_and, sealw, wl, wn, wp, aop, cV, cV1, ↓reduceIte, Nat.reduceEqDiff, Nat.reduceAdd, Int.cast_ofNat_Int, if_true, if_false, AV.one, repCells, fillA, partCells, Nat.reduceLT, Nat.reduceLeDiff, Nat.reduceMul, Nat.reduceSub, Int.reduceLT, Int.reduceLE, Int.reduceAdd, Int.reduceSub, Int.reduceMul, Int.reduceToNat, sliceCells, cellsAt, srcA, app, reduceCtorEq, Int.reduceEq, Int.reduceNeg, Int.reducePow, Nat.reducePow, Int.reduceTDiv, Int.reduceDiv, Nat.reduceDiv, Nat.reduceMod, Int.reduceMod, Int.reduceTMod, ne_eq, subA, beq_iff_eq, unA, minA, maxA, eqFs, eqA1, beq_self_eq_true, Nat.reduceBEq, h4, e9]
        · have e9 : clipN c x r l = 8 := by simp [clipN, h4]
          simp (config := { maxSteps := 4000000 }) (disch := omega) only [step, stepv, ev, okW, onlyFr, Bool.false_and, Bool.true_and, sealw, wl, wn, wp, aop, cV, cV1, ↓reduceIte, Nat.reduceEqDiff, Nat.reduceAdd, Int.cast_ofNat_Int, if_true, if_false, AV.one, repCells, fillA, partCells, Nat.reduceLT, Nat.reduceLeDiff, Nat.reduceMul, Nat.reduceSub, Int.reduceLT, Int.reduceLE, Int.reduceAdd, Int.reduceSub, Int.reduceMul, Int.reduceToNat, sliceCells, cellsAt, srcA, app, reduceCtorEq, Int.reduceEq, Int.reduceNeg, Int.reducePow, Nat.reducePow, Int.reduceTDiv, Int.reduceDiv, Nat.reduceDiv, Nat.reduceMod, Int.reduceMod, Int.reduceTMod, ne_eq, subA, beq_iff_eq, unA, minA, maxA, eqFs, eqA1, beq_self_eq_true, Nat.reduceBEq, h4, e9]
    · have e9 : clipN c x r l = 8 := by simp [clipN, h2]
      simp (config := { maxSteps := 4000000 }) (disch := omega) only [step, stepv, ev, okW, onlyFr, Bool.false_and, Bool.true_and, sealw, wl, wn, wp, aop, cV, cV1, ↓reduceIte, Nat.reduceEqDiff, Nat.reduceAdd, Int.cast_ofNat_Int, if_true, if_false, AV.one, repCells, fillA, partCells, Nat.reduceLT, Nat.reduceLeDiff, Nat.reduceMul, Nat.reduceSub, Int.reduceLT, Int.reduceLE, Int.reduceAdd, Int.reduceSub, Int.reduceMul, Int.reduceToNat, sliceCells, cellsAt, srcA, app, reduceCtorEq, Int.reduceEq, Int.reduceNeg, Int.reducePow, Nat.reducePow, Int.reduceTDiv, Int.reduceDiv, Nat.reduceDiv, Nat.reduceMod, Int.reduceMod, Int.reduceTMod, ne_eq, subA, beq_iff_eq, unA, minA, maxA, eqFs, eqA1, beq_self_eq_true, Nat.reduceBEq, ac_clip_Check, il, h2, e9]

def ask21 (c x n : Int) : Int := if eCheck c x ≠ 0 then 2 else if n < 1 then 2 else if 4000 / c < n then 2 else 0
def S_Ask21 (P : Prg) (f : Nat) : Prop := ∀ c x n : Int, VC P f [shA c x, .int .i64 n] (.int .i64 (ask21 c x n))
theorem ref21_Asked {P : Prg} {f fE t0 : Nat} (b : Body P f 19 [.tmp 4] (ac_cadenzaref21_Asked fE t0)) (hE : S_ECheck P fE) : S_Ask21 P f := by
  intro c x n
  refine VC.of_acall (by simp [isDL, isD, shA]) rfl (ACall.of_body b (by simp) ?_)
  have hE' := hE c x
  rw [shA] at hE'
  simp (config := { maxSteps := 4000000 }) (disch := omega) only [step, stepv, ev, okW, onlyFr, Bool.false_and, Bool.true_and, sealw, wl, wn, wp, aop, cV, cV1, ↓reduceIte, Nat.reduceEqDiff, Nat.reduceAdd, Int.cast_ofNat_Int, if_true, if_false, AV.one, repCells, fillA, partCells, Nat.reduceLT, Nat.reduceLeDiff, Nat.reduceMul, Nat.reduceSub, Int.reduceLT, Int.reduceLE, Int.reduceAdd, Int.reduceSub, Int.reduceMul, Int.reduceToNat, sliceCells, cellsAt, srcA, app, reduceCtorEq, Int.reduceEq, Int.reduceNeg, Int.reducePow, Nat.reducePow, Int.reduceTDiv, Int.reduceDiv, Nat.reduceDiv, Nat.reduceMod, Int.reduceMod, Int.reduceTMod, ne_eq, subA, beq_iff_eq, unA, minA, maxA, eqFs, eqA1, beq_self_eq_true, Nat.reduceBEq, ac_cadenzaref21_Asked, shA]
  refine callQ.vc hE' ?_
  rcases eCheck_cases c x with h1 | ⟨h1, h2, h3, h4⟩
  · have e9 : ask21 c x n = 2 := by simp [ask21, h1]
    simp (config := { maxSteps := 4000000 }) (disch := omega) only [step, stepv, ev, okW, onlyFr, Bool.false_and, Bool.true_and, sealw, wl, wn, wp, aop, cV, cV1, ↓reduceIte, Nat.reduceEqDiff, Nat.reduceAdd, Int.cast_ofNat_Int, if_true, if_false, AV.one, repCells, fillA, partCells, Nat.reduceLT, Nat.reduceLeDiff, Nat.reduceMul, Nat.reduceSub, Int.reduceLT, Int.reduceLE, Int.reduceAdd, Int.reduceSub, Int.reduceMul, Int.reduceToNat, sliceCells, cellsAt, srcA, app, reduceCtorEq, Int.reduceEq, Int.reduceNeg, Int.reducePow, Nat.reducePow, Int.reduceTDiv, Int.reduceDiv, Nat.reduceDiv, Nat.reduceMod, Int.reduceMod, Int.reduceTMod, ne_eq, subA, beq_iff_eq, unA, minA, maxA, eqFs, eqA1, beq_self_eq_true, Nat.reduceBEq, h1, e9]
  have q0 : (4000 : Int).tdiv c = 4000 / c := Int.tdiv_eq_ediv_of_nonneg (by omega)
  have q1 : 0 ≤ (4000 : Int) / c := Int.ediv_nonneg (by omega) (by omega)
  have q2 : (4000 : Int) / c ≤ 4000 := Int.ediv_le_self _ (by omega)
  by_cases h5 : n < 1
  · have e9 : ask21 c x n = 2 := by simp [ask21, h5]
    simp (config := { maxSteps := 4000000 }) (disch := omega) only [step, stepv, ev, okW, onlyFr, Bool.false_and, Bool.true_and, sealw, wl, wn, wp, aop, cV, cV1, ↓reduceIte, Nat.reduceEqDiff, Nat.reduceAdd, Int.cast_ofNat_Int, if_true, if_false, AV.one, repCells, fillA, partCells, Nat.reduceLT, Nat.reduceLeDiff, Nat.reduceMul, Nat.reduceSub, Int.reduceLT, Int.reduceLE, Int.reduceAdd, Int.reduceSub, Int.reduceMul, Int.reduceToNat, sliceCells, cellsAt, srcA, app, reduceCtorEq, Int.reduceEq, Int.reduceNeg, Int.reducePow, Nat.reducePow, Int.reduceTDiv, Int.reduceDiv, Nat.reduceDiv, Nat.reduceMod, Int.reduceMod, Int.reduceTMod, ne_eq, subA, beq_iff_eq, unA, minA, maxA, eqFs, eqA1, beq_self_eq_true, Nat.reduceBEq, h1, e9]
  by_cases h6 : 4000 / c < n
  · have e9 : ask21 c x n = 2 := by simp [ask21, h6]
    simp (config := { maxSteps := 4000000 }) (disch := omega) only [step, stepv, ev, okW, onlyFr, Bool.false_and, Bool.true_and, sealw, wl, wn, wp, aop, cV, cV1, ↓reduceIte, Nat.reduceEqDiff, Nat.reduceAdd, Int.cast_ofNat_Int, if_true, if_false, AV.one, repCells, fillA, partCells, Nat.reduceLT, Nat.reduceLeDiff, Nat.reduceMul, Nat.reduceSub, Int.reduceLT, Int.reduceLE, Int.reduceAdd, Int.reduceSub, Int.reduceMul, Int.reduceToNat, sliceCells, cellsAt, srcA, app, reduceCtorEq, Int.reduceEq, Int.reduceNeg, Int.reducePow, Nat.reducePow, Int.reduceTDiv, Int.reduceDiv, Nat.reduceDiv, Nat.reduceMod, Int.reduceMod, Int.reduceTMod, ne_eq, subA, beq_iff_eq, unA, minA, maxA, eqFs, eqA1, beq_self_eq_true, Nat.reduceBEq, h1, e9, q0]
  · have e9 : ask21 c x n = 0 := by simp [ask21, h1, h5, h6]
    simp (config := { maxSteps := 4000000 }) (disch := omega) only [step, stepv, ev, okW, onlyFr, Bool.false_and, Bool.true_and, sealw, wl, wn, wp, aop, cV, cV1, ↓reduceIte, Nat.reduceEqDiff, Nat.reduceAdd, Int.cast_ofNat_Int, if_true, if_false, AV.one, repCells, fillA, partCells, Nat.reduceLT, Nat.reduceLeDiff, Nat.reduceMul, Nat.reduceSub, Int.reduceLT, Int.reduceLE, Int.reduceAdd, Int.reduceSub, Int.reduceMul, Int.reduceToNat, sliceCells, cellsAt, srcA, app, reduceCtorEq, Int.reduceEq, Int.reduceNeg, Int.reducePow, Nat.reducePow, Int.reduceTDiv, Int.reduceDiv, Nat.reduceDiv, Nat.reduceMod, Int.reduceMod, Int.reduceTMod, ne_eq, subA, beq_iff_eq, unA, minA, maxA, eqFs, eqA1, beq_self_eq_true, Nat.reduceBEq, h1, e9, q0]
end Go.Am

namespace Go.Am
open Go.RowKit

/-- How long the frames are: F of them, all L but the last. -/
def lensL (L n : Nat) : List Int := List.replicate ((n - 1) / L) (L : Int) ++ [(n : Int) - ((n - 1) / L * L : Nat)]
theorem lensL_len (L n : Nat) : (lensL L n).length = (n - 1) / L + 1 := by simp [lensL]
theorem rep_snoc (k : Nat) (a : Int) : List.replicate k a ++ [a] = List.replicate (k + 1) a := by rw [List.replicate_succ']
def i64L (l : List Int) : AV := .list l.length (ks .i64 l)
theorem isD_i64L (l : List Int) : isD (i64L l) = true := by simp [i64L, isD, isDL_ks]
def allA (r n : Int) : AV := if r < 1 ∨ 1048576 < r ∨ n < 1 ∨ 4000 < n then .tup [.list 0 [], .int .i64 2] else if 1000 < (lensL (longN r).toNat n.toNat).length then .tup [.list 0 [], .int .i64 4] else .tup [i64L (lensL (longN r).toNat n.toNat), .int .i64 0]
theorem isD_all (r n : Int) : isD (allA r n) = true := by unfold allA; split <;> (try split) <;> simp [isD, isDL, isD_i64L]
def S_All22 (P : Prg) (f : Nat) : Prop := ∀ r n : Int, VC P f [.int .i64 r, .int .i64 n] (allA r n)

theorem ref22_All {P : Prg} {f fL t0 : Nat} (b : Body P f 41 [.tmp 4, .tmp 5] (ac_cadenzaref22_All fL t0)) (hL : S_Long22 P fL) : S_All22 P f := by
  intro r n
  refine VC.of_walk 1 rfl (isD_all _ _) (ACall.of_body b (by simp) ?_)
  have hL' := hL r
  by_cases h1 : r < 1 ∨ 1048576 < r
  · have e1 : longA r = .tup [.int .i64 0, .int .i64 2] := by rw [longA, if_pos h1]
    have e2 : allA r n = .tup [.list 0 [], .int .i64 2] := by rw [allA, if_pos (by omega)]
    simp (config := { maxSteps := 4000000 }) (disch := omega) only [step, stepv, ev, okW, onlyFr, Bool.false_and, Bool.true_and, sealw, wl, wn, wp, aop, cV, cV1, ↓reduceIte, Nat.reduceEqDiff, Nat.reduceAdd, Int.cast_ofNat_Int, if_true, if_false, AV.one, repCells, fillA, partCells, Nat.reduceLT, Nat.reduceLeDiff, Nat.reduceMul, Nat.reduceSub, Int.reduceLT, Int.reduceLE, Int.reduceAdd, Int.reduceSub, Int.reduceMul, Int.reduceToNat, sliceCells, cellsAt, srcA, app, reduceCtorEq, Int.reduceEq, Int.reduceNeg, Int.reducePow, Nat.reducePow, Int.reduceTDiv, Int.reduceDiv, Nat.reduceDiv, Nat.reduceMod, Int.reduceMod, Int.reduceTMod, ne_eq, subA, beq_iff_eq, unA, minA, maxA, eqFs, eqA1, beq_self_eq_true, Nat.reduceBEq, ac_cadenzaref22_All]
    refine callQ.vc hL' ?_
    simp (config := { maxSteps := 4000000 }) (disch := omega) only [step, stepv, ev, okW, onlyFr, Bool.false_and, Bool.true_and, sealw, wl, wn, wp, aop, cV, cV1, ↓reduceIte, Nat.reduceEqDiff, Nat.reduceAdd, Int.cast_ofNat_Int, if_true, if_false, AV.one, repCells, fillA, partCells, Nat.reduceLT, Nat.reduceLeDiff, Nat.reduceMul, Nat.reduceSub, Int.reduceLT, Int.reduceLE, Int.reduceAdd, Int.reduceSub, Int.reduceMul, Int.reduceToNat, sliceCells, cellsAt, srcA, app, reduceCtorEq, Int.reduceEq, Int.reduceNeg, Int.reducePow, Nat.reducePow, Int.reduceTDiv, Int.reduceDiv, Nat.reduceDiv, Nat.reduceMod, Int.reduceMod, Int.reduceTMod, ne_eq, subA, beq_iff_eq, unA, minA, maxA, eqFs, eqA1, beq_self_eq_true, Nat.reduceBEq, e1, e2]
    simp [frzN, frzK, frzL, frzV, isDL, isD]
  have e1 : longA r = .tup [.int .i64 (longN r), .int .i64 0] := by rw [longA, if_neg h1]
  rw [e1] at hL'
  have p1 := longN_pos r
  have p2 := longN_le (r := r) (by omega)
  by_cases h2 : n < 1
  · have e2 : allA r n = .tup [.list 0 [], .int .i64 2] := by rw [allA, if_pos (by omega)]
    simp (config := { maxSteps := 4000000 }) (disch := omega) only [step, stepv, ev, okW, onlyFr, Bool.false_and, Bool.true_and, sealw, wl, wn, wp, aop, cV, cV1, ↓reduceIte, Nat.reduceEqDiff, Nat.reduceAdd, Int.cast_ofNat_Int, if_true, if_false, AV.one, repCells, fillA, partCells, Nat.reduceLT, Nat.reduceLeDiff, Nat.reduceMul, Nat.reduceSub, Int.reduceLT, Int.reduceLE, Int.reduceAdd, Int.reduceSub, Int.reduceMul, Int.reduceToNat, sliceCells, cellsAt, srcA, app, reduceCtorEq, Int.reduceEq, Int.reduceNeg, Int.reducePow, Nat.reducePow, Int.reduceTDiv, Int.reduceDiv, Nat.reduceDiv, Nat.reduceMod, Int.reduceMod, Int.reduceTMod, ne_eq, subA, beq_iff_eq, unA, minA, maxA, eqFs, eqA1, beq_self_eq_true, Nat.reduceBEq, ac_cadenzaref22_All]
    refine callQ.vc hL' ?_
    simp (config := { maxSteps := 4000000 }) (disch := omega) only [step, stepv, ev, okW, onlyFr, Bool.false_and, Bool.true_and, sealw, wl, wn, wp, aop, cV, cV1, ↓reduceIte, Nat.reduceEqDiff, Nat.reduceAdd, Int.cast_ofNat_Int, if_true, if_false, AV.one, repCells, fillA, partCells, Nat.reduceLT, Nat.reduceLeDiff, Nat.reduceMul, Nat.reduceSub, Int.reduceLT, Int.reduceLE, Int.reduceAdd, Int.reduceSub, Int.reduceMul, Int.reduceToNat, sliceCells, cellsAt, srcA, app, reduceCtorEq, Int.reduceEq, Int.reduceNeg, Int.reducePow, Nat.reducePow, Int.reduceTDiv, Int.reduceDiv, Nat.reduceDiv, Nat.reduceMod, Int.reduceMod, Int.reduceTMod, ne_eq, subA, beq_iff_eq, unA, minA, maxA, eqFs, eqA1, beq_self_eq_true, Nat.reduceBEq, e2]
    simp [frzN, frzK, frzL, frzV, isDL, isD]
  by_cases h3 : 4000 < n
  · have e2 : allA r n = .tup [.list 0 [], .int .i64 2] := by rw [allA, if_pos (by omega)]
    simp (config := { maxSteps := 4000000 }) (disch := omega) only [step, stepv, ev, okW, onlyFr, Bool.false_and, Bool.true_and, sealw, wl, wn, wp, aop, cV, cV1, ↓reduceIte, Nat.reduceEqDiff, Nat.reduceAdd, Int.cast_ofNat_Int, if_true, if_false, AV.one, repCells, fillA, partCells, Nat.reduceLT, Nat.reduceLeDiff, Nat.reduceMul, Nat.reduceSub, Int.reduceLT, Int.reduceLE, Int.reduceAdd, Int.reduceSub, Int.reduceMul, Int.reduceToNat, sliceCells, cellsAt, srcA, app, reduceCtorEq, Int.reduceEq, Int.reduceNeg, Int.reducePow, Nat.reducePow, Int.reduceTDiv, Int.reduceDiv, Nat.reduceDiv, Nat.reduceMod, Int.reduceMod, Int.reduceTMod, ne_eq, subA, beq_iff_eq, unA, minA, maxA, eqFs, eqA1, beq_self_eq_true, Nat.reduceBEq, ac_cadenzaref22_All]
    refine callQ.vc hL' ?_
    simp (config := { maxSteps := 4000000 }) (disch := omega) only [step, stepv, ev, okW, onlyFr, Bool.false_and, Bool.true_and, sealw, wl, wn, wp, aop, cV, cV1, ↓reduceIte, Nat.reduceEqDiff, Nat.reduceAdd, Int.cast_ofNat_Int, if_true, if_false, AV.one, repCells, fillA, partCells, Nat.reduceLT, Nat.reduceLeDiff, Nat.reduceMul, Nat.reduceSub, Int.reduceLT, Int.reduceLE, Int.reduceAdd, Int.reduceSub, Int.reduceMul, Int.reduceToNat, sliceCells, cellsAt, srcA, app, reduceCtorEq, Int.reduceEq, Int.reduceNeg, Int.reducePow, Nat.reducePow, Int.reduceTDiv, Int.reduceDiv, Nat.reduceDiv, Nat.reduceMod, Int.reduceMod, Int.reduceTMod, ne_eq, subA, beq_iff_eq, unA, minA, maxA, eqFs, eqA1, beq_self_eq_true, Nat.reduceBEq, e2]
    simp [frzN, frzK, frzL, frzV, isDL, isD]
  have e2 : allA r n = if 1000 < (lensL (longN r).toNat n.toNat).length then .tup [.list 0 [], .int .i64 4] else .tup [i64L (lensL (longN r).toNat n.toNat), .int .i64 0] := by rw [allA, if_neg (by omega)]
  generalize longN r = Li at *
  obtain ⟨L, rfl⟩ : ∃ L : Nat, Li = L := ⟨Li.toNat, by omega⟩
  obtain ⟨m, rfl⟩ : ∃ m : Nat, n = m := ⟨n.toNat, by omega⟩
  simp only [Int.toNat_natCast] at e2
  have g1 : (m - 1) / L * L ≤ m - 1 := Nat.div_mul_le_self _ _
  have g2 : m - 1 < ((m - 1) / L + 1) * L := by
    have := Nat.lt_div_mul_add (a := m - 1) (b := L) (by omega)
    rw [Nat.add_mul, Nat.one_mul]; omega
  rw [Nat.add_mul, Nat.one_mul] at g2
  have g3 : (m - 1) / L ≤ m - 1 := Nat.div_le_self _ _
  have ll := lensL_len L m
  have lf : lensL L m = List.replicate ((m - 1) / L) (L : Int) ++ [(m : Int) - ((m - 1) / L * L : Nat)] := rfl
  generalize hq : (m - 1) / L = q at *
  simp (config := { maxSteps := 4000000 }) (disch := omega) only [step, stepv, ev, okW, onlyFr, Bool.false_and, Bool.true_and, sealw, wl, wn, wp, aop, cV, cV1, ↓reduceIte, Nat.reduceEqDiff, Nat.reduceAdd, Int.cast_ofNat_Int, if_true, if_false, AV.one, repCells, fillA, partCells, Nat.reduceLT, Nat.reduceLeDiff, Nat.reduceMul, Nat.reduceSub, Int.reduceLT, Int.reduceLE, Int.reduceAdd, Int.reduceSub, Int.reduceMul, Int.reduceToNat, sliceCells, cellsAt, srcA, app, reduceCtorEq, Int.reduceEq, Int.reduceNeg, Int.reducePow, Nat.reducePow, Int.reduceTDiv, Int.reduceDiv, Nat.reduceDiv, Nat.reduceMod, Int.reduceMod, Int.reduceTMod, ne_eq, subA, beq_iff_eq, unA, minA, maxA, eqFs, eqA1, beq_self_eq_true, Nat.reduceBEq, ac_cadenzaref22_All]
  refine callQ.vc hL' ?_
  simp (config := { maxSteps := 4000000 }) (disch := omega) only [step, stepv, ev, okW, onlyFr, Bool.false_and, Bool.true_and, sealw, wl, wn, wp, aop, cV, cV1, ↓reduceIte, Nat.reduceEqDiff, Nat.reduceAdd, Int.cast_ofNat_Int, if_true, if_false, AV.one, repCells, fillA, partCells, Nat.reduceLT, Nat.reduceLeDiff, Nat.reduceMul, Nat.reduceSub, Int.reduceLT, Int.reduceLE, Int.reduceAdd, Int.reduceSub, Int.reduceMul, Int.reduceToNat, sliceCells, cellsAt, srcA, app, reduceCtorEq, Int.reduceEq, Int.reduceNeg, Int.reducePow, Nat.reducePow, Int.reduceTDiv, Int.reduceDiv, Nat.reduceDiv, Nat.reduceMod, Int.reduceMod, Int.reduceTMod, ne_eq, subA, beq_iff_eq, unA, minA, maxA, eqFs, eqA1, beq_self_eq_true, Nat.reduceBEq]
  refine ALoop.by (ι := Option Nat) (fun i => match i with
      | some k => ⟨[(1, .int .i64 ((m : Int) - (k * L : Nat))), (8, .own 0 k), (6, .int .i64 L)], [⟨t0, 1, k, ks .i64 (List.replicate k (L : Int)), 0⟩]⟩
      | none => ⟨[(1, .int .i64 0), (8, .own 0 (q + 1)), (6, .int .i64 L)], [⟨t0, 1, q + 1, ks .i64 (lensL L m), 0⟩]⟩)
    (fun i => match i with | some k => k ≤ q | none => True) (fun i => match i with | some k => q - k + 1 | none => 0) (some 0)
    (by simp only [Nat.zero_mul]; exact Le.trans (Le.virt 8 t0 1 (by omega) rfl) (Le.slots (by simp [Am.look]))) (by simp) ?_
  intro i hi
  cases i with
  | some k =>
    simp only at hi
    have g4 : k * L ≤ q * L := Nat.mul_le_mul_right L hi
    have lr : (List.replicate k (L : Int)).length = k := by simp
    by_cases hk : k < q
    · have g5 : (k + 1) * L ≤ q * L := Nat.mul_le_mul_right L (by omega)
      rw [Nat.add_mul, Nat.one_mul] at g5
      simp (config := { maxSteps := 4000000 }) (disch := omega) only [step, stepv, ev, okW, onlyFr, Bool.false_and, Bool.true_and, sealw, wl, wn, wp, aop, cV, cV1, ↓reduceIte, Nat.reduceEqDiff, Nat.reduceAdd, Int.cast_ofNat_Int, if_true, if_false, AV.one, repCells, fillA, partCells, Nat.reduceLT, Nat.reduceLeDiff, Nat.reduceMul, Nat.reduceSub, Int.reduceLT, Int.reduceLE, Int.reduceAdd, Int.reduceSub, Int.reduceMul, Int.reduceToNat, sliceCells, cellsAt, srcA, app, reduceCtorEq, Int.reduceEq, Int.reduceNeg, Int.reducePow, Nat.reducePow, Int.reduceTDiv, Int.reduceDiv, Nat.reduceDiv, Nat.reduceMod, Int.reduceMod, Int.reduceTMod, ne_eq, subA, beq_iff_eq, unA, minA, maxA, eqFs, eqA1, beq_self_eq_true, Nat.reduceBEq, ks_snoc, rep_snoc, lr]
      refine ⟨some (k + 1), by simp only; omega, by simp only; omega, ?_⟩
      exact Le.drop1 (isTL_ks _ _) (by simp [Am.look, frzK, frzL, frzV, Nat.add_mul]; omega)
    · have : k = q := by omega
      subst this
      simp (config := { maxSteps := 4000000 }) (disch := omega) only [step, stepv, ev, okW, onlyFr, Bool.false_and, Bool.true_and, sealw, wl, wn, wp, aop, cV, cV1, ↓reduceIte, Nat.reduceEqDiff, Nat.reduceAdd, Int.cast_ofNat_Int, if_true, if_false, AV.one, repCells, fillA, partCells, Nat.reduceLT, Nat.reduceLeDiff, Nat.reduceMul, Nat.reduceSub, Int.reduceLT, Int.reduceLE, Int.reduceAdd, Int.reduceSub, Int.reduceMul, Int.reduceToNat, sliceCells, cellsAt, srcA, app, reduceCtorEq, Int.reduceEq, Int.reduceNeg, Int.reducePow, Nat.reducePow, Int.reduceTDiv, Int.reduceDiv, Nat.reduceDiv, Nat.reduceMod, Int.reduceMod, Int.reduceTMod, ne_eq, subA, beq_iff_eq, unA, minA, maxA, eqFs, eqA1, beq_self_eq_true, Nat.reduceBEq, ks_snoc, lr, ← lf]
      refine ⟨none, trivial, by simp only; omega, ?_⟩
      exact Le.drop1 (isTL_ks _ _) (by simp [Am.look, frzK, frzL, frzV])
  | none =>
    by_cases h9 : 1000 < (lensL L m).length
    · rw [if_pos h9] at e2
      simp (config := { maxSteps := 4000000 }) (disch := omega) only [step, stepv, ev, okW, onlyFr, Bool.false_and, Bool.true_and, sealw, wl, wn, wp, aop, cV, cV1, ↓reduceIte, Nat.reduceEqDiff, Nat.reduceAdd, Int.cast_ofNat_Int, if_true, if_false, AV.one, repCells, fillA, partCells, Nat.reduceLT, Nat.reduceLeDiff, Nat.reduceMul, Nat.reduceSub, Int.reduceLT, Int.reduceLE, Int.reduceAdd, Int.reduceSub, Int.reduceMul, Int.reduceToNat, sliceCells, cellsAt, srcA, app, reduceCtorEq, Int.reduceEq, Int.reduceNeg, Int.reducePow, Nat.reducePow, Int.reduceTDiv, Int.reduceDiv, Nat.reduceDiv, Nat.reduceMod, Int.reduceMod, Int.reduceTMod, ne_eq, subA, beq_iff_eq, unA, minA, maxA, eqFs, eqA1, beq_self_eq_true, Nat.reduceBEq, e2]
      simp [frzN, frzK, frzL, frzV, isDL, isD]
    · rw [if_neg h9] at e2
      simp (config := { maxSteps := 4000000 }) (disch := omega) only [step, stepv, ev, okW, onlyFr, Bool.false_and, Bool.true_and, sealw, wl, wn, wp, aop, cV, cV1, ↓reduceIte, Nat.reduceEqDiff, Nat.reduceAdd, Int.cast_ofNat_Int, if_true, if_false, AV.one, repCells, fillA, partCells, Nat.reduceLT, Nat.reduceLeDiff, Nat.reduceMul, Nat.reduceSub, Int.reduceLT, Int.reduceLE, Int.reduceAdd, Int.reduceSub, Int.reduceMul, Int.reduceToNat, sliceCells, cellsAt, srcA, app, reduceCtorEq, Int.reduceEq, Int.reduceNeg, Int.reducePow, Nat.reducePow, Int.reduceTDiv, Int.reduceDiv, Nat.reduceDiv, Nat.reduceMod, Int.reduceMod, Int.reduceTMod, ne_eq, subA, beq_iff_eq, unA, minA, maxA, eqFs, eqA1, beq_self_eq_true, Nat.reduceBEq, e2]
      simp [frzN, frzK, frzL, frzV, isDL, isD, i64L, ll, frzL_T _ (isTL_ks .i64 _)]
end Go.Am

namespace Go.Am
open Go.RowKit

theorem all_cnt (r n : Int) : (∃ k : Int, allA r n = .tup [.list 0 [], .int .i64 k] ∧ cntA r n = .tup [.int .i64 0, .int .i64 k]) ∨
    (∃ l : List Int, allA r n = .tup [i64L l, .int .i64 0] ∧ cntA r n = .tup [.int .i64 l.length, .int .i64 0]) := by
  by_cases h1 : r < 1 ∨ 1048576 < r
  · exact .inl ⟨2, by rw [allA, if_pos (by omega)], by rw [cntA, if_pos h1]⟩
  by_cases h2 : n < 1 ∨ 4000 < n
  · exact .inl ⟨2, by rw [allA, if_pos (by omega)], by rw [cntA, if_neg h1, if_pos h2]⟩
  have p1 := longN_pos r
  have e : (n + longN r - 1) / longN r = (lensL (longN r).toNat n.toNat).length := by
    generalize longN r = Li at *
    obtain ⟨L, rfl⟩ : ∃ L : Nat, Li = L := ⟨Li.toNat, by omega⟩
    obtain ⟨m, rfl⟩ : ∃ m : Nat, n = m := ⟨n.toNat, by omega⟩
    rw [Int.toNat_natCast, Int.toNat_natCast, lensL_len]
    have : (m : Int) + L - 1 = ((m - 1 + L : Nat) : Int) := by omega
    rw [this, ← Int.natCast_ediv, Nat.add_div_right _ (by omega)]
  by_cases h3 : 1000 < (lensL (longN r).toNat n.toNat).length
  · exact .inl ⟨4, by rw [allA, if_neg (by omega), if_pos h3], by rw [cntA, if_neg h1, if_neg h2, e, if_pos (by omega)]⟩
  · exact .inr ⟨_, by rw [allA, if_neg (by omega), if_neg h3], by rw [cntA, if_neg h1, if_neg h2, e, if_neg (by omega)]⟩

theorem ref22_Count {P : Prg} {f fA : Nat} (b : Body P f 17 [.tmp 4, .tmp 5] (ac_cadenzaref22_Count fA)) (hA : S_All22 P fA) : S_Count22 P f := by
  intro r n
  refine VC.of_acall rfl (isD_cnt _ _) (ACall.of_body b (by simp) ?_)
  have hA' := hA r n
  rcases all_cnt r n with ⟨k, e1, e2⟩ | ⟨l, e1, e2⟩
  · rw [e1] at hA'
    simp (config := { maxSteps := 4000000 }) (disch := omega) only [step, stepv, ev, okW, onlyFr, Bool.false_and, Bool.true_and, sealw, wl, wn, wp, aop, cV, cV1, ↓reduceIte, Nat.reduceEqDiff, Nat.reduceAdd, Int.cast_ofNat_Int, if_true, if_false, AV.one, repCells, fillA, partCells, Nat.reduceLT, Nat.reduceLeDiff, Nat.reduceMul, Nat.reduceSub, Int.reduceLT, Int.reduceLE, Int.reduceAdd, Int.reduceSub, Int.reduceMul, Int.reduceToNat, sliceCells, cellsAt, srcA, app, reduceCtorEq, Int.reduceEq, Int.reduceNeg, Int.reducePow, Nat.reducePow, Int.reduceTDiv, Int.reduceDiv, Nat.reduceDiv, Nat.reduceMod, Int.reduceMod, Int.reduceTMod, ne_eq, subA, beq_iff_eq, unA, minA, maxA, eqFs, eqA1, beq_self_eq_true, Nat.reduceBEq, ac_cadenzaref22_Count]
    refine callQ.vc hA' ?_
    simp (config := { maxSteps := 4000000 }) (disch := omega) only [step, stepv, ev, okW, onlyFr, Bool.false_and, Bool.true_and, sealw, wl, wn, wp, aop, cV, cV1, ↓reduceIte, Nat.reduceEqDiff, Nat.reduceAdd, Int.cast_ofNat_Int, if_true, if_false, AV.one, repCells, fillA, partCells, Nat.reduceLT, Nat.reduceLeDiff, Nat.reduceMul, Nat.reduceSub, Int.reduceLT, Int.reduceLE, Int.reduceAdd, Int.reduceSub, Int.reduceMul, Int.reduceToNat, sliceCells, cellsAt, srcA, app, reduceCtorEq, Int.reduceEq, Int.reduceNeg, Int.reducePow, Nat.reducePow, Int.reduceTDiv, Int.reduceDiv, Nat.reduceDiv, Nat.reduceMod, Int.reduceMod, Int.reduceTMod, ne_eq, subA, beq_iff_eq, unA, minA, maxA, eqFs, eqA1, beq_self_eq_true, Nat.reduceBEq, e2, List.length_nil]
    try simp
  · rw [e1] at hA'
    simp (config := { maxSteps := 4000000 }) (disch := omega) only [step, stepv, ev, okW, onlyFr, Bool.false_and, Bool.true_and, sealw, wl, wn, wp, aop, cV, cV1, ↓reduceIte, Nat.reduceEqDiff, Nat.reduceAdd, Int.cast_ofNat_Int, if_true, if_false, AV.one, repCells, fillA, partCells, Nat.reduceLT, Nat.reduceLeDiff, Nat.reduceMul, Nat.reduceSub, Int.reduceLT, Int.reduceLE, Int.reduceAdd, Int.reduceSub, Int.reduceMul, Int.reduceToNat, sliceCells, cellsAt, srcA, app, reduceCtorEq, Int.reduceEq, Int.reduceNeg, Int.reducePow, Nat.reducePow, Int.reduceTDiv, Int.reduceDiv, Nat.reduceDiv, Nat.reduceMod, Int.reduceMod, Int.reduceTMod, ne_eq, subA, beq_iff_eq, unA, minA, maxA, eqFs, eqA1, beq_self_eq_true, Nat.reduceBEq, ac_cadenzaref22_Count]
    refine callQ.vc hA' ?_
    simp (config := { maxSteps := 4000000 }) (disch := omega) only [step, stepv, ev, okW, onlyFr, Bool.false_and, Bool.true_and, sealw, wl, wn, wp, aop, cV, cV1, ↓reduceIte, Nat.reduceEqDiff, Nat.reduceAdd, Int.cast_ofNat_Int, if_true, if_false, AV.one, repCells, fillA, partCells, Nat.reduceLT, Nat.reduceLeDiff, Nat.reduceMul, Nat.reduceSub, Int.reduceLT, Int.reduceLE, Int.reduceAdd, Int.reduceSub, Int.reduceMul, Int.reduceToNat, sliceCells, cellsAt, srcA, app, reduceCtorEq, Int.reduceEq, Int.reduceNeg, Int.reducePow, Nat.reducePow, Int.reduceTDiv, Int.reduceDiv, Nat.reduceDiv, Nat.reduceMod, Int.reduceMod, Int.reduceTMod, ne_eq, subA, beq_iff_eq, unA, minA, maxA, eqFs, eqA1, beq_self_eq_true, Nat.reduceBEq, i64L, e2]
end Go.Am

namespace Go.Am
open Go.RowKit

theorem head_eq (c x r n : Int) : headN c x r n = if ask21 c x n = 0 ∧ cntE r n = 0 then 0 else 8 := by
  unfold headN ask21
  by_cases h1 : eCheck c x = 0 <;> by_cases h2 : n < 1 <;> by_cases h3 : 4000 / c < n <;> by_cases h4 : cntE r n = 0 <;> simp [h1, h2, h3, h4]
theorem clip_ask {c x r : Int} {l : List Int} : clipN c x r l = if askN c x l = 0 ∧ headN c x r (l.length / c) = 0 then 0 else 8 := by
  unfold clipN askN
  by_cases h0 : headN c x r (l.length / c) = 0
  · have h0' := h0
    rw [head_eq] at h0'
    have ha : ask21 c x (l.length / c) = 0 := by
      by_cases h : ask21 c x (l.length / c) = 0 ∧ cntE r (l.length / c) = 0
      · exact h.1
      · rw [if_neg h] at h0'; cases h0'
    have hE : eCheck c x = 0 := by
      by_cases h : eCheck c x = 0
      · exact h
      · simp [ask21, h] at ha
    have hn : ¬ (l.length : Int) / c < 1 := by
      intro h
      simp [ask21, h] at ha
    have hc : ¬ c < 1 := by
      rcases eCheck_cases c x with h | h <;> omega
    have hl : l.length ≠ 0 := by
      intro h
      rw [h] at hn
      simp at hn
    by_cases h2 : (l.length : Int) % c = 0 <;> by_cases h3 : checkN x l = 0 <;> simp [hE, hc, hl, h0, h2, h3]
  · simp [h0]

def S_RHead24 (P : Prg) (f : Nat) : Prop := ∀ (c x r n : Int) (l : List Int), VC P f [.agg [.int .i64 c, .int .i64 x, .int .i64 r, il l], .int .i64 n] (.bool (decide (headN c x r n = 0)))
theorem ref24_Head {P : Prg} {f fS fA fC t0 : Nat} (b : Body P f 21 [.tmp 4] (ac_cadenzaref24_Head fS fA fC t0)) (hS : S_Shape24 P fS) (hA : S_Ask21 P fA) (hC : S_Count22 P fC) : S_RHead24 P f := by
  intro c x r n l
  refine VC.of_acall (by simp [isDL, isD, isD_il]) rfl (ACall.of_body b (by simp) ?_)
  have hS' := hS c x r l
  have hA' := hA c x n
  rw [shA] at hS' hA'
  rw [il] at hS'
  obtain ⟨k, ek⟩ := cnt_form r n
  have hC' := hC r n
  rw [ek] at hC'
  simp (config := { maxSteps := 4000000 }) (disch := omega) only [step, stepv, ev, okW, onlyFr, Bool.false_and, Bool.true_and, sealw, wl, wn, wp, aop, cV, cV1, ↓reduceIte, Nat.reduceEqDiff, Nat.reduceAdd, Int.cast_ofNat_Int, if_true, if_false, AV.one, repCells, fillA, partCells, Nat.reduceLT, Nat.reduceLeDiff, Nat.reduceMul, Nat.reduceSub, Int.reduceLT, Int.reduceLE, Int.reduceAdd, Int.reduceSub, Int.reduceMul, Int.reduceToNat, sliceCells, cellsAt, srcA, app, reduceCtorEq, Int.reduceEq, Int.reduceNeg, Int.reducePow, Nat.reducePow, Int.reduceTDiv, Int.reduceDiv, Nat.reduceDiv, Nat.reduceMod, Int.reduceMod, Int.reduceTMod, ne_eq, subA, beq_iff_eq, unA, minA, maxA, eqFs, eqA1, beq_self_eq_true, Nat.reduceBEq, ac_cadenzaref24_Head, il]
  refine callQ.vc hS' ?_
  simp (config := { maxSteps := 4000000 }) (disch := omega) only [step, stepv, ev, okW, onlyFr, Bool.false_and, Bool.true_and, sealw, wl, wn, wp, aop, cV, cV1, ↓reduceIte, Nat.reduceEqDiff, Nat.reduceAdd, Int.cast_ofNat_Int, if_true, if_false, AV.one, repCells, fillA, partCells, Nat.reduceLT, Nat.reduceLeDiff, Nat.reduceMul, Nat.reduceSub, Int.reduceLT, Int.reduceLE, Int.reduceAdd, Int.reduceSub, Int.reduceMul, Int.reduceToNat, sliceCells, cellsAt, srcA, app, reduceCtorEq, Int.reduceEq, Int.reduceNeg, Int.reducePow, Nat.reducePow, Int.reduceTDiv, Int.reduceDiv, Nat.reduceDiv, Nat.reduceMod, Int.reduceMod, Int.reduceTMod, ne_eq, subA, beq_iff_eq, unA, minA, maxA, eqFs, eqA1, beq_self_eq_true, Nat.reduceBEq]
  refine callQ.vc hA' ?_
  by_cases h1 : ask21 c x n = 0
  · simp (config := { maxSteps := 4000000 }) (disch := omega) only [step, stepv, ev, okW, onlyFr, Bool.false_and, Bool.true_and, sealw, wl, wn, wp, aop, cV, cV1, ↓reduceIte, Nat.reduceEqDiff, Nat.reduceAdd, Int.cast_ofNat_Int, if_true, if_false, AV.one, repCells, fillA, partCells, Nat.reduceLT, Nat.reduceLeDiff, Nat.reduceMul, Nat.reduceSub, Int.reduceLT, Int.reduceLE, Int.reduceAdd, Int.reduceSub, Int.reduceMul, Int.reduceToNat, sliceCells, cellsAt, srcA, app, reduceCtorEq, Int.reduceEq, Int.reduceNeg, Int.reducePow, Nat.reducePow, Int.reduceTDiv, Int.reduceDiv, Nat.reduceDiv, Nat.reduceMod, Int.reduceMod, Int.reduceTMod, ne_eq, subA, beq_iff_eq, unA, minA, maxA, eqFs, eqA1, beq_self_eq_true, Nat.reduceBEq, h1]
    refine callQ.vc hC' ?_
    by_cases h7 : cntE r n = 0
    · have e9 : headN c x r n = 0 := by rw [head_eq, if_pos ⟨h1, h7⟩]
      simp (config := { maxSteps := 4000000 }) (disch := omega) only [step, stepv, ev, okW, onlyFr, Bool.false_and, Bool.true_and, sealw, wl, wn, wp, aop, cV, cV1, ↓reduceIte, Nat.reduceEqDiff, Nat.reduceAdd, Int.cast_ofNat_Int, if_true, if_false, AV.one, repCells, fillA, partCells, Nat.reduceLT, Nat.reduceLeDiff, Nat.reduceMul, Nat.reduceSub, Int.reduceLT, Int.reduceLE, Int.reduceAdd, Int.reduceSub, Int.reduceMul, Int.reduceToNat, sliceCells, cellsAt, srcA, app, reduceCtorEq, Int.reduceEq, Int.reduceNeg, Int.reducePow, Nat.reducePow, Int.reduceTDiv, Int.reduceDiv, Nat.reduceDiv, Nat.reduceMod, Int.reduceMod, Int.reduceTMod, ne_eq, subA, beq_iff_eq, unA, minA, maxA, eqFs, eqA1, beq_self_eq_true, Nat.reduceBEq, h7, e9]
      try simp
    · have e9 : headN c x r n = 8 := by rw [head_eq, if_neg (by simp [h7])]
      simp (config := { maxSteps := 4000000 }) (disch := omega) only [step, stepv, ev, okW, onlyFr, Bool.false_and, Bool.true_and, sealw, wl, wn, wp, aop, cV, cV1, ↓reduceIte, Nat.reduceEqDiff, Nat.reduceAdd, Int.cast_ofNat_Int, if_true, if_false, AV.one, repCells, fillA, partCells, Nat.reduceLT, Nat.reduceLeDiff, Nat.reduceMul, Nat.reduceSub, Int.reduceLT, Int.reduceLE, Int.reduceAdd, Int.reduceSub, Int.reduceMul, Int.reduceToNat, sliceCells, cellsAt, srcA, app, reduceCtorEq, Int.reduceEq, Int.reduceNeg, Int.reducePow, Nat.reducePow, Int.reduceTDiv, Int.reduceDiv, Nat.reduceDiv, Nat.reduceMod, Int.reduceMod, Int.reduceTMod, ne_eq, subA, beq_iff_eq, unA, minA, maxA, eqFs, eqA1, beq_self_eq_true, Nat.reduceBEq, e9]
      try simp [h7]
  · have e9 : headN c x r n = 8 := by rw [head_eq, if_neg (by simp [h1])]
    simp (config := { maxSteps := 4000000 }) (disch := omega) only [step, stepv, ev, okW, onlyFr, Bool.false_and, Bool.true_and, sealw, wl, wn, wp, aop, cV, cV1, ↓reduceIte, Nat.reduceEqDiff, Nat.reduceAdd, Int.cast_ofNat_Int, if_true, if_false, AV.one, repCells, fillA, partCells, Nat.reduceLT, Nat.reduceLeDiff, Nat.reduceMul, Nat.reduceSub, Int.reduceLT, Int.reduceLE, Int.reduceAdd, Int.reduceSub, Int.reduceMul, Int.reduceToNat, sliceCells, cellsAt, srcA, app, reduceCtorEq, Int.reduceEq, Int.reduceNeg, Int.reducePow, Nat.reducePow, Int.reduceTDiv, Int.reduceDiv, Nat.reduceDiv, Nat.reduceMod, Int.reduceMod, Int.reduceTMod, ne_eq, subA, beq_iff_eq, unA, minA, maxA, eqFs, eqA1, beq_self_eq_true, Nat.reduceBEq, h1, e9]
    try simp

theorem ref24_Check {P : Prg} {f fS fA fH t0 : Nat} (b : Body P f 20 [.tmp 2] (ac_cadenzaref24_Check fS fA fH t0)) (hS : S_Shape24 P fS) (hA : S_EAsk P fA) (hH : S_RHead24 P fH) : S_ClipCheck P f := by
  intro c x r l hI hl
  refine VC.of_acall (by simp [isDL, isD, isD_il]) rfl (ACall.of_body b (by simp) ?_)
  have hS' := hS c x r l
  have hA' := hA c x l hI
  have hH' := hH c x r (l.length / c) l
  rw [shA] at hS' hA'
  rw [il] at hS' hA' hH'
  simp (config := { maxSteps := 4000000 }) (disch := omega) only [step, stepv, ev, okW, onlyFr, Bool.false_and, Bool.true_and, sealw, wl, wn, wp, aop, cV, cV1, ↓reduceIte, Nat.reduceEqDiff, Nat.reduceAdd, Int.cast_ofNat_Int, if_true, if_false, AV.one, repCells, fillA, partCells, Nat.reduceLT, Nat.reduceLeDiff, Nat.reduceMul, Nat.reduceSub, Int.reduceLT, Int.reduceLE, Int.reduceAdd, Int.reduceSub, Int.reduceMul, Int.reduceToNat, sliceCells, cellsAt, srcA, app, reduceCtorEq, Int.reduceEq, Int.reduceNeg, Int.reducePow, Nat.reducePow, Int.reduceTDiv, Int.reduceDiv, Nat.reduceDiv, Nat.reduceMod, Int.reduceMod, Int.reduceTMod, ne_eq, subA, beq_iff_eq, unA, minA, maxA, eqFs, eqA1, beq_self_eq_true, Nat.reduceBEq, ac_cadenzaref24_Check, il]
  refine callD.vc hS' ?_
  simp (config := { maxSteps := 4000000 }) (disch := omega) only [step, stepv, ev, okW, onlyFr, Bool.false_and, Bool.true_and, sealw, wl, wn, wp, aop, cV, cV1, ↓reduceIte, Nat.reduceEqDiff, Nat.reduceAdd, Int.cast_ofNat_Int, if_true, if_false, AV.one, repCells, fillA, partCells, Nat.reduceLT, Nat.reduceLeDiff, Nat.reduceMul, Nat.reduceSub, Int.reduceLT, Int.reduceLE, Int.reduceAdd, Int.reduceSub, Int.reduceMul, Int.reduceToNat, sliceCells, cellsAt, srcA, app, reduceCtorEq, Int.reduceEq, Int.reduceNeg, Int.reducePow, Nat.reducePow, Int.reduceTDiv, Int.reduceDiv, Nat.reduceDiv, Nat.reduceMod, Int.reduceMod, Int.reduceTMod, ne_eq, subA, beq_iff_eq, unA, minA, maxA, eqFs, eqA1, beq_self_eq_true, Nat.reduceBEq]
  refine callD.vc hA' ?_
  by_cases h1 : askN c x l = 0
  · have hc : 1 ≤ c := by
      obtain ⟨k, rfl, hk, _⟩ := ask_okM hI h1
      have := hk.1
      omega
    have hd := div_small (n := l.length) hc
    have q0 : (l.length : Int).tdiv c = l.length / c := Int.tdiv_eq_ediv_of_nonneg (by omega)
    simp (config := { maxSteps := 4000000 }) (disch := omega) only [step, stepv, ev, okW, onlyFr, Bool.false_and, Bool.true_and, sealw, wl, wn, wp, aop, cV, cV1, ↓reduceIte, Nat.reduceEqDiff, Nat.reduceAdd, Int.cast_ofNat_Int, if_true, if_false, AV.one, repCells, fillA, partCells, Nat.reduceLT, Nat.reduceLeDiff, Nat.reduceMul, Nat.reduceSub, Int.reduceLT, Int.reduceLE, Int.reduceAdd, Int.reduceSub, Int.reduceMul, Int.reduceToNat, sliceCells, cellsAt, srcA, app, reduceCtorEq, Int.reduceEq, Int.reduceNeg, Int.reducePow, Nat.reducePow, Int.reduceTDiv, Int.reduceDiv, Nat.reduceDiv, Nat.reduceMod, Int.reduceMod, Int.reduceTMod, ne_eq, subA, beq_iff_eq, unA, minA, maxA, eqFs, eqA1, beq_self_eq_true, Nat.reduceBEq, h1, q0]
    refine callD.vc hH' ?_
    by_cases h2 : headN c x r (l.length / c) = 0
    · have e9 : clipN c x r l = 0 := by rw [clip_ask, if_pos ⟨h1, h2⟩]
      simp (config := { maxSteps := 4000000 }) (disch := omega) only [step, stepv, ev, okW, onlyFr, Bool.false_and, Bool.true_and, sealw, wl, wn, wp, aop, cV, cV1, ↓reduceIte, Nat.reduceEqDiff, Nat.reduceAdd, Int.cast_ofNat_Int, if_true, if_false, AV.one, repCells, fillA, partCells, Nat.reduceLT, Nat.reduceLeDiff, Nat.reduceMul, Nat.reduceSub, Int.reduceLT, Int.reduceLE, Int.reduceAdd, Int.reduceSub, Int.reduceMul, Int.reduceToNat, sliceCells, cellsAt, srcA, app, reduceCtorEq, Int.reduceEq, Int.reduceNeg, Int.reducePow, Nat.reducePow, Int.reduceTDiv, Int.reduceDiv, Nat.reduceDiv, Nat.reduceMod, Int.reduceMod, Int.reduceTMod, ne_eq, subA, beq_iff_eq, unA, minA, maxA, eqFs, eqA1, beq_self_eq_true, Nat.reduceBEq, h2, e9, decide_true, Bool.not_true]
    · have e9 : clipN c x r l = 8 := by rw [clip_ask, if_neg (by simp [h2])]
      have e8 : decide (headN c x r (l.length / c) = 0) = false := by simp [h2]
      simp (config := { maxSteps := 4000000 }) (disch := omega) only [step, stepv, ev, okW, onlyFr, Bool.false_and, Bool.true_and, sealw, wl, wn, wp, aop, cV, cV1, ↓reduceIte, Nat.reduceEqDiff, Nat.reduceAdd, Int.cast_ofNat_Int, if_true, if_false, AV.one, repCells, fillA, partCells, Nat.reduceLT, Nat.reduceLeDiff, Nat.reduceMul, Nat.reduceSub, Int.reduceLT, Int.reduceLE, Int.reduceAdd, Int.reduceSub, Int.reduceMul, Int.reduceToNat, sliceCells, cellsAt, srcA, app, reduceCtorEq, Int.reduceEq, Int.reduceNeg, Int.reducePow, Nat.reducePow, Int.reduceTDiv, Int.reduceDiv, Nat.reduceDiv, Nat.reduceMod, Int.reduceMod, Int.reduceTMod, ne_eq, subA, beq_iff_eq, unA, minA, maxA, eqFs, eqA1, beq_self_eq_true, Nat.reduceBEq, e8, e9, Bool.not_false]
  · have e9 : clipN c x r l = 8 := by rw [clip_ask, if_neg (by simp [h1])]
    simp (config := { maxSteps := 4000000 }) (disch := omega) only [step, stepv, ev, okW, onlyFr, Bool.false_and, Bool.true_and, sealw, wl, wn, wp, aop, cV, cV1, ↓reduceIte, Nat.reduceEqDiff, Nat.reduceAdd, Int.cast_ofNat_Int, if_true, if_false, AV.one, repCells, fillA, partCells, Nat.reduceLT, Nat.reduceLeDiff, Nat.reduceMul, Nat.reduceSub, Int.reduceLT, Int.reduceLE, Int.reduceAdd, Int.reduceSub, Int.reduceMul, Int.reduceToNat, sliceCells, cellsAt, srcA, app, reduceCtorEq, Int.reduceEq, Int.reduceNeg, Int.reducePow, Nat.reducePow, Int.reduceTDiv, Int.reduceDiv, Nat.reduceDiv, Nat.reduceMod, Int.reduceMod, Int.reduceTMod, ne_eq, subA, beq_iff_eq, unA, minA, maxA, eqFs, eqA1, beq_self_eq_true, Nat.reduceBEq, h1, e9]
end Go.Am

namespace Go.Am
open Go.RowKit

def clA (c x r : Int) (l : List Int) : AV := .agg [.int .i64 c, .int .i64 x, .int .i64 r, il l]
end Go.Am

namespace Go.Am
open Go.RowKit Go.Shelf Go.Proofs

def bufO (tB : Nat) (c : AV) (lr : Int) : Ob := ⟨tB, 3, 1, [c, .int .i64 0, .int .i8 lr], 0⟩

theorem tryGrow_room {P : Prg} {f : Nat} (b : Body P f 33 [.tmp 4, .tmp 5] ac_bytes_Buffer_tryGrowByReslice) {ob : List Ob} {p o n c m tB t5 : Nat} {lr : Int} {cs : List AV} (hp : ob[p]? = some (bufO tB (.ownc o n c) lr)) (ho : ob[o]? = some ⟨t5, 1, n, cs, 0⟩)
    (hpo : p ≠ o) (hm : n + m ≤ c) (hc : c ≤ maxLen) {K : AV → List Ob → Prop}
    (hK : K (.tup [.int .i64 n, .bool true]) ((ob.set o ⟨t5, 1, n + m, cs ++ List.replicate m .any, 0⟩).set p (bufO tB (.ownc o (n + m) c) lr))) : ACall P f [.ref p 1 0, .int .i64 m] ob K := by
  refine ACall.of_body b (by simp) ?_
  have hol : o < ob.length := (List.getElem?_eq_some_iff.1 ho).1
  have hpl : p < ob.length := (List.getElem?_eq_some_iff.1 hp).1
  simp only [maxLen] at hc
  simp only [bufO] at hp hK
  have e1 : ∀ x, (ob.set o x)[p]? = some ⟨tB, 3, 1, [.ownc o n c, .int .i64 0, .int .i8 lr], 0⟩ := fun x => by rw [List.getElem?_set_ne (fun h => hpo h.symm)]; exact hp
  have e2 : ((n : Int) + m).toNat = n + m := by omega
  have e3 : n + m - n = m := by omega
  rcases Nat.eq_zero_or_pos m with hm | hm
  · subst hm
    have e5 : ob.set o ⟨t5, 1, n, cs, 0⟩ = ob := set_same ho
    simp only [List.replicate_zero, List.append_nil, Nat.add_zero, e5] at hK
    have e6 : ((n : Int) + 0).toNat = n := by omega
    simp (config := { maxSteps := 4000000 }) (disch := omega) only [step, stepv, ev, okW, onlyFr, Bool.false_and, Bool.true_and, sealw, wl, wn, wp, aop, cV, cV1, ↓reduceIte, Nat.reduceEqDiff, Nat.reduceAdd, Int.cast_ofNat_Int, if_true, if_false, AV.one, repCells, fillA, partCells, Nat.reduceLT, Nat.reduceLeDiff, Nat.reduceMul, Nat.reduceSub, Int.reduceLT, Int.reduceLE, Int.reduceAdd, Int.reduceSub, Int.reduceMul, Int.reduceToNat, sliceCells, cellsAt, srcA, app, reduceCtorEq, Int.reduceEq, Int.reduceNeg, Int.reducePow, Nat.reducePow, Int.reduceTDiv, Int.reduceDiv, Nat.reduceDiv, Nat.reduceMod, Int.reduceMod, Int.reduceTMod, ne_eq, subA, beq_iff_eq, unA, minA, maxA, eqFs, eqA1, beq_self_eq_true, Nat.reduceBEq, ac_bytes_Buffer_tryGrowByReslice, hp, ho, e1, reslA, e6, List.length_set]
    exact hK
  · have e4 : (n + m = n) = False := eq_false (by omega)
    simp (config := { maxSteps := 4000000 }) (disch := omega) only [step, stepv, ev, okW, onlyFr, Bool.false_and, Bool.true_and, sealw, wl, wn, wp, aop, cV, cV1, ↓reduceIte, Nat.reduceEqDiff, Nat.reduceAdd, Int.cast_ofNat_Int, if_true, if_false, AV.one, repCells, fillA, partCells, Nat.reduceLT, Nat.reduceLeDiff, Nat.reduceMul, Nat.reduceSub, Int.reduceLT, Int.reduceLE, Int.reduceAdd, Int.reduceSub, Int.reduceMul, Int.reduceToNat, sliceCells, cellsAt, srcA, app, reduceCtorEq, Int.reduceEq, Int.reduceNeg, Int.reducePow, Nat.reducePow, Int.reduceTDiv, Int.reduceDiv, Nat.reduceDiv, Nat.reduceMod, Int.reduceMod, Int.reduceTMod, ne_eq, subA, beq_iff_eq, unA, minA, maxA, eqFs, eqA1, beq_self_eq_true, Nat.reduceBEq, ac_bytes_Buffer_tryGrowByReslice, hp, ho, e1, reslA, e2, e3, e4, List.length_set]
    exact hK

theorem tryGrow_none {P : Prg} {f : Nat} (b : Body P f 33 [.tmp 4, .tmp 5] ac_bytes_Buffer_tryGrowByReslice) {ob : List Ob} {p o n c m tB t5 : Nat} {lr : Int} {cs : List AV} (hp : ob[p]? = some (bufO tB (.ownc o n c) lr)) (ho : ob[o]? = some ⟨t5, 1, n, cs, 0⟩)
    (hn : n ≤ c) (hm : c < n + m) (hc : c ≤ maxLen) (hm2 : m < 4611686018427387904) {K : AV → List Ob → Prop} (hK : K (.tup [.int .i64 0, .bool false]) ob) : ACall P f [.ref p 1 0, .int .i64 m] ob K := by
  refine ACall.of_body b (by simp) ?_
  simp only [maxLen] at hc
  simp only [bufO] at hp
  simp (config := { maxSteps := 4000000 }) (disch := omega) only [step, stepv, ev, okW, onlyFr, Bool.false_and, Bool.true_and, sealw, wl, wn, wp, aop, cV, cV1, ↓reduceIte, Nat.reduceEqDiff, Nat.reduceAdd, Int.cast_ofNat_Int, if_true, if_false, AV.one, repCells, fillA, partCells, Nat.reduceLT, Nat.reduceLeDiff, Nat.reduceMul, Nat.reduceSub, Int.reduceLT, Int.reduceLE, Int.reduceAdd, Int.reduceSub, Int.reduceMul, Int.reduceToNat, sliceCells, cellsAt, srcA, app, reduceCtorEq, Int.reduceEq, Int.reduceNeg, Int.reducePow, Nat.reducePow, Int.reduceTDiv, Int.reduceDiv, Nat.reduceDiv, Nat.reduceMod, Int.reduceMod, Int.reduceTMod, ne_eq, subA, beq_iff_eq, unA, minA, maxA, eqFs, eqA1, beq_self_eq_true, Nat.reduceBEq, ac_bytes_Buffer_tryGrowByReslice, hp, ho]
  exact hK

theorem tryGrow_emp {P : Prg} {f : Nat} (b : Body P f 33 [.tmp 4, .tmp 5] ac_bytes_Buffer_tryGrowByReslice) {ob : List Ob} {p m tB : Nat} {lr : Int} (hp : ob[p]? = some (bufO tB (.emp true) lr)) (hm : 0 < m)
    {K : AV → List Ob → Prop} (hK : K (.tup [.int .i64 0, .bool false]) ob) : ACall P f [.ref p 1 0, .int .i64 m] ob K := by
  refine ACall.of_body b (by simp) ?_
  simp only [bufO] at hp
  simp (config := { maxSteps := 4000000 }) (disch := omega) only [step, stepv, ev, okW, onlyFr, Bool.false_and, Bool.true_and, sealw, wl, wn, wp, aop, cV, cV1, ↓reduceIte, Nat.reduceEqDiff, Nat.reduceAdd, Int.cast_ofNat_Int, if_true, if_false, AV.one, repCells, fillA, partCells, Nat.reduceLT, Nat.reduceLeDiff, Nat.reduceMul, Nat.reduceSub, Int.reduceLT, Int.reduceLE, Int.reduceAdd, Int.reduceSub, Int.reduceMul, Int.reduceToNat, sliceCells, cellsAt, srcA, app, reduceCtorEq, Int.reduceEq, Int.reduceNeg, Int.reducePow, Nat.reducePow, Int.reduceTDiv, Int.reduceDiv, Nat.reduceDiv, Nat.reduceMod, Int.reduceMod, Int.reduceTMod, ne_eq, subA, beq_iff_eq, unA, minA, maxA, eqFs, eqA1, beq_self_eq_true, Nat.reduceBEq, ac_bytes_Buffer_tryGrowByReslice, hp]
  exact hK

theorem buf_Len_emp {P : Prg} {f : Nat} (b : Body P f 13 [.tmp 2] ac_bytes_Buffer_Len) {ob : List Ob} {p tB : Nat} {lr : Int} (hp : ob[p]? = some (bufO tB (.emp true) lr)) {K : AV → List Ob → Prop} (hK : K (.int .i64 0) ob) : ACall P f [.ref p 1 0] ob K := by
  refine ACall.of_body b (by simp) ?_
  simp only [bufO] at hp
  simp (config := { maxSteps := 4000000 }) (disch := omega) only [step, stepv, ev, okW, onlyFr, Bool.false_and, Bool.true_and, sealw, wl, wn, wp, aop, cV, cV1, ↓reduceIte, Nat.reduceEqDiff, Nat.reduceAdd, Int.cast_ofNat_Int, if_true, if_false, AV.one, repCells, fillA, partCells, Nat.reduceLT, Nat.reduceLeDiff, Nat.reduceMul, Nat.reduceSub, Int.reduceLT, Int.reduceLE, Int.reduceAdd, Int.reduceSub, Int.reduceMul, Int.reduceToNat, sliceCells, cellsAt, srcA, app, reduceCtorEq, Int.reduceEq, Int.reduceNeg, Int.reducePow, Nat.reducePow, Int.reduceTDiv, Int.reduceDiv, Nat.reduceDiv, Nat.reduceMod, Int.reduceMod, Int.reduceTMod, ne_eq, subA, beq_iff_eq, unA, minA, maxA, eqFs, eqA1, beq_self_eq_true, Nat.reduceBEq, ac_bytes_Buffer_Len, hp]
  exact hK

/-- grow, of a buffer that holds nothing yet, by at most 64 bytes. -/
theorem grow_emp {P : Prg} {f fL fR fT fG t5 g0 : Nat} (b : Body P f 110 [.tmp 4] (ac_bytes_Buffer_grow fL fR fT fG t5 g0)) (bL : Body P fL 13 [.tmp 2] ac_bytes_Buffer_Len) (bT : Body P fT 33 [.tmp 4, .tmp 5] ac_bytes_Buffer_tryGrowByReslice)
    {ob : List Ob} {p m tB : Nat} {lr : Int} (hp : ob[p]? = some (bufO tB (.emp true) lr)) (hm : 0 < m) (hm2 : m ≤ 64) {K : AV → List Ob → Prop}
    (hK : K (.int .i64 0) ((ob ++ ([⟨t5, 1, m, repCells [.int .u8 0] m, 0⟩] : List Ob)).set p (bufO tB (.own ob.length m) lr))) : ACall P f [.ref p 1 0, .int .i64 m] ob K := by
  refine ACall.of_body b (by simp) ?_
  have hpl : p < ob.length := (List.getElem?_eq_some_iff.1 hp).1
  have hp' := hp
  simp only [bufO] at hp hK
  have e1 : ∀ x : Ob, (ob ++ [x])[p]? = some ⟨tB, 3, 1, [.emp true, .int .i64 0, .int .i8 lr], 0⟩ := fun x => by rw [List.getElem?_append_left hpl]; exact hp
  simp (config := { maxSteps := 4000000 }) (disch := omega) only [step, stepv, ev, okW, onlyFr, Bool.false_and, Bool.true_and, sealw, wl, wn, wp, aop, cV, cV1, ↓reduceIte, Nat.reduceEqDiff, Nat.reduceAdd, Int.cast_ofNat_Int, if_true, if_false, AV.one, repCells, fillA, partCells, Nat.reduceLT, Nat.reduceLeDiff, Nat.reduceMul, Nat.reduceSub, Int.reduceLT, Int.reduceLE, Int.reduceAdd, Int.reduceSub, Int.reduceMul, Int.reduceToNat, sliceCells, cellsAt, srcA, app, reduceCtorEq, Int.reduceEq, Int.reduceNeg, Int.reducePow, Nat.reducePow, Int.reduceTDiv, Int.reduceDiv, Nat.reduceDiv, Nat.reduceMod, Int.reduceMod, Int.reduceTMod, ne_eq, subA, beq_iff_eq, unA, minA, maxA, eqFs, eqA1, beq_self_eq_true, Nat.reduceBEq, ac_bytes_Buffer_grow]
  refine buf_Len_emp bL hp' ?_
  simp (config := { maxSteps := 4000000 }) (disch := omega) only [step, stepv, ev, okW, onlyFr, Bool.false_and, Bool.true_and, sealw, wl, wn, wp, aop, cV, cV1, ↓reduceIte, Nat.reduceEqDiff, Nat.reduceAdd, Int.cast_ofNat_Int, if_true, if_false, AV.one, repCells, fillA, partCells, Nat.reduceLT, Nat.reduceLeDiff, Nat.reduceMul, Nat.reduceSub, Int.reduceLT, Int.reduceLE, Int.reduceAdd, Int.reduceSub, Int.reduceMul, Int.reduceToNat, sliceCells, cellsAt, srcA, app, reduceCtorEq, Int.reduceEq, Int.reduceNeg, Int.reducePow, Nat.reducePow, Int.reduceTDiv, Int.reduceDiv, Nat.reduceDiv, Nat.reduceMod, Int.reduceMod, Int.reduceTMod, ne_eq, subA, beq_iff_eq, unA, minA, maxA, eqFs, eqA1, beq_self_eq_true, Nat.reduceBEq, ac_bytes_Buffer_grow, hp]
  refine tryGrow_emp bT hp' hm ?_
  by_cases h64 : m = 64
  · simp (config := { maxSteps := 4000000 }) (disch := omega) only [step, stepv, ev, okW, onlyFr, Bool.false_and, Bool.true_and, sealw, wl, wn, wp, aop, cV, cV1, ↓reduceIte, Nat.reduceEqDiff, Nat.reduceAdd, Int.cast_ofNat_Int, if_true, if_false, AV.one, repCells, fillA, partCells, Nat.reduceLT, Nat.reduceLeDiff, Nat.reduceMul, Nat.reduceSub, Int.reduceLT, Int.reduceLE, Int.reduceAdd, Int.reduceSub, Int.reduceMul, Int.reduceToNat, sliceCells, cellsAt, srcA, app, reduceCtorEq, Int.reduceEq, Int.reduceNeg, Int.reducePow, Nat.reducePow, Int.reduceTDiv, Int.reduceDiv, Nat.reduceDiv, Nat.reduceMod, Int.reduceMod, Int.reduceTMod, ne_eq, subA, beq_iff_eq, unA, minA, maxA, eqFs, eqA1, beq_self_eq_true, Nat.reduceBEq, ac_bytes_Buffer_grow, hp, nilA, e1, List.length_append, List.length_set]
    exact hK
  · simp (config := { maxSteps := 4000000 }) (disch := omega) only [step, stepv, ev, okW, onlyFr, Bool.false_and, Bool.true_and, sealw, wl, wn, wp, aop, cV, cV1, ↓reduceIte, Nat.reduceEqDiff, Nat.reduceAdd, Int.cast_ofNat_Int, if_true, if_false, AV.one, repCells, fillA, partCells, Nat.reduceLT, Nat.reduceLeDiff, Nat.reduceMul, Nat.reduceSub, Int.reduceLT, Int.reduceLE, Int.reduceAdd, Int.reduceSub, Int.reduceMul, Int.reduceToNat, sliceCells, cellsAt, srcA, app, reduceCtorEq, Int.reduceEq, Int.reduceNeg, Int.reducePow, Nat.reducePow, Int.reduceTDiv, Int.reduceDiv, Nat.reduceDiv, Nat.reduceMod, Int.reduceMod, Int.reduceTMod, ne_eq, subA, beq_iff_eq, unA, minA, maxA, eqFs, eqA1, beq_self_eq_true, Nat.reduceBEq, ac_bytes_Buffer_grow, hp, nilA, e1, List.length_append, List.length_set]
    exact hK

/-- bytes.Buffer's own functions. -/
structure BufB (P : Prg) (fT fG fL fR fS : Nat) (t5 g0 : Nat) : Prop where
  T : Body P fT 33 [.tmp 4, .tmp 5] ac_bytes_Buffer_tryGrowByReslice
  G : Body P fG 110 [.tmp 4] (ac_bytes_Buffer_grow fL fR fT fS t5 g0)
  L : Body P fL 13 [.tmp 2] ac_bytes_Buffer_Len

theorem Body.enters {P : Prg} {f N : Nat} {rl : List ResultVar} {ac : AC} (b : Body P f N rl ac) : Enters P f := by
  obtain ⟨fn, hf, hn, _, _, hc⟩ := b
  obtain ⟨c, hb, _⟩ := Option.bind_eq_some_iff.1 hc
  exact ⟨fn, hf, hn, by rw [hb]; rfl⟩

set_option maxHeartbeats 1000000 in
theorem writeString_own {P : Prg} {ρ : Ren} {f fT fL fR fS g0 : Nat} (L : LaysM.n252 P.prog ρ) (B : BufB P fT (ρ.f 252) fL fR fS (ρ.t 5) g0) (b : Body P f 32 [.tmp 4, .tmp 5] (ac_bytes_Buffer_WriteString fT (ρ.f 252)))
    {ob : List Ob} {p o n tB : Nat} {lr : Int} {cs : List AV} {s : List UInt8} (hp : ob[p]? = some (bufO tB (.own o n) lr)) (ho : ob[o]? = some ⟨ρ.t 5, 1, n, cs, 0⟩) (hl : cs.length = n) (hpo : p ≠ o) (hn : 0 < n) (hlim : n + s.length ≤ 140737488355328)
    {K : AV → List Ob → Prop} (hK : K (.tup [.int .i64 s.length, .lit .nilIface]) (upd2 ob o p ⟨ρ.t 5, 1, n + s.length, cs ++ u8 s, 0⟩ (bufO tB (.own o (n + s.length)) 0))) : ACall P f [.ref p 1 0, .str s] ob K := by
  refine ACall.cap hp rfl ho rfl b.enters fun c hc1 hc2 => ?_
  have hol : o < ob.length := (List.getElem?_eq_some_iff.1 ho).1
  have hpl : p < ob.length := (List.getElem?_eq_some_iff.1 hp).1
  refine ACall.uncap (ACall.of_body b (by simp) ?_)
  have e0 : ob.set p { bufO tB (.own o n) lr with cs := .ownc o n c :: [.int .i64 0, .int .i8 lr] } = upd2 ob o p ⟨ρ.t 5, 1, n, cs, 0⟩ (bufO tB (.ownc o n c) lr) := by
    conv => lhs; rw [← upd2_same ho hp hpo]
    rw [upd2_p]
    rfl
  rw [e0]
  simp only [maxLen] at hc2
  have gp : ∀ x y, (upd2 ob o p x y)[p]? = some y := fun x y => upd2_gp hpl
  have go : ∀ x y, (upd2 ob o p x y)[o]? = some x := fun x y => upd2_go hol hpo
  have sp : ∀ x y y', (upd2 ob o p x y).set p y' = upd2 ob o p x y' := fun x y y' => upd2_p
  have so : ∀ x y x', (upd2 ob o p x y).set o x' = upd2 ob o p x' y := fun x y x' => upd2_o hpo
  have ln : ∀ x y, (upd2 ob o p x y).length = ob.length := fun x y => upd2_len
  have m1 : ∀ a : Nat, Nat.min a a = a := fun a => Nat.min_self a
  have tk : (cs ++ List.replicate s.length AV.any).take n = cs := by rw [List.take_left' hl]
  have tk2 : (u8 s).take s.length = u8 s := by rw [List.take_of_length_le (by simp [u8_length])]
  have tk3 : (cs ++ List.replicate s.length AV.any).drop (n + s.length) = [] := by rw [List.drop_of_length_le (by simp; omega)]
  have nz : (n + s.length = 0) = False := eq_false (by omega)
  have z1 : n + s.length - n = s.length := by omega
  have z2 : ((n : Int) + s.length - n).toNat = s.length := by omega
  simp (config := { maxSteps := 4000000 }) (disch := omega) only [step, stepv, ev, okW, onlyFr, Bool.false_and, Bool.true_and, sealw, wl, wn, wp, aop, cV, cV1, ↓reduceIte, Nat.reduceEqDiff, Nat.reduceAdd, Int.cast_ofNat_Int, if_true, if_false, AV.one, repCells, fillA, partCells, Nat.reduceLT, Nat.reduceLeDiff, Nat.reduceMul, Nat.reduceSub, Int.reduceLT, Int.reduceLE, Int.reduceAdd, Int.reduceSub, Int.reduceMul, Int.reduceToNat, sliceCells, cellsAt, srcA, app, reduceCtorEq, Int.reduceEq, Int.reduceNeg, Int.reducePow, Nat.reducePow, Int.reduceTDiv, Int.reduceDiv, Nat.reduceDiv, Nat.reduceMod, Int.reduceMod, Int.reduceTMod, ne_eq, subA, beq_iff_eq, unA, minA, maxA, eqFs, eqA1, beq_self_eq_true, Nat.reduceBEq, ac_bytes_Buffer_WriteString, bufO, gp, go, sp, so, ln]
  by_cases hr : n + s.length ≤ c
  · refine tryGrow_room B.T (gp _ _) (go _ _) hpo hr (by simpa [maxLen] using hc2) ?_
    rw [so, sp]
    simp (config := { maxSteps := 4000000 }) (disch := omega) only [step, stepv, ev, okW, onlyFr, Bool.false_and, Bool.true_and, sealw, wl, wn, wp, aop, cV, cV1, ↓reduceIte, Nat.reduceEqDiff, Nat.reduceAdd, Int.cast_ofNat_Int, if_true, if_false, AV.one, repCells, fillA, partCells, Nat.reduceLT, Nat.reduceLeDiff, Nat.reduceMul, Nat.reduceSub, Int.reduceLT, Int.reduceLE, Int.reduceAdd, Int.reduceSub, Int.reduceMul, Int.reduceToNat, sliceCells, cellsAt, srcA, app, reduceCtorEq, Int.reduceEq, Int.reduceNeg, Int.reducePow, Nat.reducePow, Int.reduceTDiv, Int.reduceDiv, Nat.reduceDiv, Nat.reduceMod, Int.reduceMod, Int.reduceTMod, ne_eq, subA, beq_iff_eq, unA, minA, maxA, eqFs, eqA1, beq_self_eq_true, Nat.reduceBEq, bufO, gp, go, sp, so, ln, m1, z1, z2, reslA, nz, tk, tk2, tk3, hl, u8_one]
    refine .inr ⟨p, _, o, n + s.length, c, _, gp _ _, rfl, ?_⟩
    rw [sp]
    exact hK
  · refine tryGrow_none B.T (gp _ _) (go _ _) hc1 (by omega) (by simpa [maxLen] using hc2) (by omega) ?_
    simp (config := { maxSteps := 4000000 }) (disch := omega) only [step, stepv, ev, okW, onlyFr, Bool.false_and, Bool.true_and, sealw, wl, wn, wp, aop, cV, cV1, ↓reduceIte, Nat.reduceEqDiff, Nat.reduceAdd, Int.cast_ofNat_Int, if_true, if_false, AV.one, repCells, fillA, partCells, Nat.reduceLT, Nat.reduceLeDiff, Nat.reduceMul, Nat.reduceSub, Int.reduceLT, Int.reduceLE, Int.reduceAdd, Int.reduceSub, Int.reduceMul, Int.reduceToNat, sliceCells, cellsAt, srcA, app, reduceCtorEq, Int.reduceEq, Int.reduceNeg, Int.reducePow, Nat.reducePow, Int.reduceTDiv, Int.reduceDiv, Nat.reduceDiv, Nat.reduceMod, Int.reduceMod, Int.reduceTMod, ne_eq, subA, beq_iff_eq, unA, minA, maxA, eqFs, eqA1, beq_self_eq_true, Nat.reduceBEq, bufO, gp, go, sp, so, ln]
    refine ACall.grow_row L B.G.enters (gp _ _) (go _ _) hpo hn (by omega) hlim ?_
    rw [so, sp]
    simp (config := { maxSteps := 4000000 }) (disch := omega) only [step, stepv, ev, okW, onlyFr, Bool.false_and, Bool.true_and, sealw, wl, wn, wp, aop, cV, cV1, ↓reduceIte, Nat.reduceEqDiff, Nat.reduceAdd, Int.cast_ofNat_Int, if_true, if_false, AV.one, repCells, fillA, partCells, Nat.reduceLT, Nat.reduceLeDiff, Nat.reduceMul, Nat.reduceSub, Int.reduceLT, Int.reduceLE, Int.reduceAdd, Int.reduceSub, Int.reduceMul, Int.reduceToNat, sliceCells, cellsAt, srcA, app, reduceCtorEq, Int.reduceEq, Int.reduceNeg, Int.reducePow, Nat.reducePow, Int.reduceTDiv, Int.reduceDiv, Nat.reduceDiv, Nat.reduceMod, Int.reduceMod, Int.reduceTMod, ne_eq, subA, beq_iff_eq, unA, minA, maxA, eqFs, eqA1, beq_self_eq_true, Nat.reduceBEq, bufO, gp, go, sp, so, ln, m1, z1, z2, nz, tk, tk2, tk3, hl, u8_one]
    exact .inl hK
set_option maxHeartbeats 1000000 in
theorem write_list {P : Prg} {ρ : Ren} {f fT fL fR fS g0 : Nat} (L : LaysM.n252 P.prog ρ) (B : BufB P fT (ρ.f 252) fL fR fS (ρ.t 5) g0) (b : Body P f 32 [.tmp 4, .tmp 5] (ac_bytes_Buffer_Write fT (ρ.f 252)))
    {ob : List Ob} {p o n tB : Nat} {lr : Int} {cs : List AV} {s : List UInt8} (hp : ob[p]? = some (bufO tB (.own o n) lr)) (ho : ob[o]? = some ⟨ρ.t 5, 1, n, cs, 0⟩) (hl : cs.length = n) (hpo : p ≠ o) (hn : 0 < n) (hlim : n + s.length ≤ 140737488355328)
    {K : AV → List Ob → Prop} (hK : K (.tup [.int .i64 s.length, .lit .nilIface]) (upd2 ob o p ⟨ρ.t 5, 1, n + s.length, cs ++ u8 s, 0⟩ (bufO tB (.own o (n + s.length)) 0))) : ACall P f [.ref p 1 0, .list s.length (u8 s)] ob K := by
  refine ACall.cap hp rfl ho rfl b.enters fun c hc1 hc2 => ?_
  have hol : o < ob.length := (List.getElem?_eq_some_iff.1 ho).1
  have hpl : p < ob.length := (List.getElem?_eq_some_iff.1 hp).1
  refine ACall.uncap (ACall.of_body b (by simp) ?_)
  have e0 : ob.set p { bufO tB (.own o n) lr with cs := .ownc o n c :: [.int .i64 0, .int .i8 lr] } = upd2 ob o p ⟨ρ.t 5, 1, n, cs, 0⟩ (bufO tB (.ownc o n c) lr) := by
    conv => lhs; rw [← upd2_same ho hp hpo]
    rw [upd2_p]
    rfl
  rw [e0]
  simp only [maxLen] at hc2
  have gp : ∀ x y, (upd2 ob o p x y)[p]? = some y := fun x y => upd2_gp hpl
  have go : ∀ x y, (upd2 ob o p x y)[o]? = some x := fun x y => upd2_go hol hpo
  have sp : ∀ x y y', (upd2 ob o p x y).set p y' = upd2 ob o p x y' := fun x y y' => upd2_p
  have so : ∀ x y x', (upd2 ob o p x y).set o x' = upd2 ob o p x' y := fun x y x' => upd2_o hpo
  have ln : ∀ x y, (upd2 ob o p x y).length = ob.length := fun x y => upd2_len
  have m1 : ∀ a : Nat, Nat.min a a = a := fun a => Nat.min_self a
  have tk : (cs ++ List.replicate s.length AV.any).take n = cs := by rw [List.take_left' hl]
  have tk2 : (u8 s).take s.length = u8 s := by rw [List.take_of_length_le (by simp [u8_length])]
  have tk3 : (cs ++ List.replicate s.length AV.any).drop (n + s.length) = [] := by rw [List.drop_of_length_le (by simp; omega)]
  have nz : (n + s.length = 0) = False := eq_false (by omega)
  have z1 : n + s.length - n = s.length := by omega
  have z2 : ((n : Int) + s.length - n).toNat = s.length := by omega
  simp (config := { maxSteps := 4000000 }) (disch := omega) only [step, stepv, ev, okW, onlyFr, Bool.false_and, Bool.true_and, sealw, wl, wn, wp, aop, cV, cV1, ↓reduceIte, Nat.reduceEqDiff, Nat.reduceAdd, Int.cast_ofNat_Int, if_true, if_false, AV.one, repCells, fillA, partCells, Nat.reduceLT, Nat.reduceLeDiff, Nat.reduceMul, Nat.reduceSub, Int.reduceLT, Int.reduceLE, Int.reduceAdd, Int.reduceSub, Int.reduceMul, Int.reduceToNat, sliceCells, cellsAt, srcA, app, reduceCtorEq, Int.reduceEq, Int.reduceNeg, Int.reducePow, Nat.reducePow, Int.reduceTDiv, Int.reduceDiv, Nat.reduceDiv, Nat.reduceMod, Int.reduceMod, Int.reduceTMod, ne_eq, subA, beq_iff_eq, unA, minA, maxA, eqFs, eqA1, beq_self_eq_true, Nat.reduceBEq, ac_bytes_Buffer_Write, bufO, gp, go, sp, so, ln]
  by_cases hr : n + s.length ≤ c
  · refine tryGrow_room B.T (gp _ _) (go _ _) hpo hr (by simpa [maxLen] using hc2) ?_
    rw [so, sp]
    simp (config := { maxSteps := 4000000 }) (disch := omega) only [step, stepv, ev, okW, onlyFr, Bool.false_and, Bool.true_and, sealw, wl, wn, wp, aop, cV, cV1, ↓reduceIte, Nat.reduceEqDiff, Nat.reduceAdd, Int.cast_ofNat_Int, if_true, if_false, AV.one, repCells, fillA, partCells, Nat.reduceLT, Nat.reduceLeDiff, Nat.reduceMul, Nat.reduceSub, Int.reduceLT, Int.reduceLE, Int.reduceAdd, Int.reduceSub, Int.reduceMul, Int.reduceToNat, sliceCells, cellsAt, srcA, app, reduceCtorEq, Int.reduceEq, Int.reduceNeg, Int.reducePow, Nat.reducePow, Int.reduceTDiv, Int.reduceDiv, Nat.reduceDiv, Nat.reduceMod, Int.reduceMod, Int.reduceTMod, ne_eq, subA, beq_iff_eq, unA, minA, maxA, eqFs, eqA1, beq_self_eq_true, Nat.reduceBEq, bufO, gp, go, sp, so, ln, m1, z1, z2, reslA, nz, tk, tk2, tk3, hl, u8_one]
    refine .inr ⟨p, _, o, n + s.length, c, _, gp _ _, rfl, ?_⟩
    rw [sp]
    exact hK
  · refine tryGrow_none B.T (gp _ _) (go _ _) hc1 (by omega) (by simpa [maxLen] using hc2) (by omega) ?_
    simp (config := { maxSteps := 4000000 }) (disch := omega) only [step, stepv, ev, okW, onlyFr, Bool.false_and, Bool.true_and, sealw, wl, wn, wp, aop, cV, cV1, ↓reduceIte, Nat.reduceEqDiff, Nat.reduceAdd, Int.cast_ofNat_Int, if_true, if_false, AV.one, repCells, fillA, partCells, Nat.reduceLT, Nat.reduceLeDiff, Nat.reduceMul, Nat.reduceSub, Int.reduceLT, Int.reduceLE, Int.reduceAdd, Int.reduceSub, Int.reduceMul, Int.reduceToNat, sliceCells, cellsAt, srcA, app, reduceCtorEq, Int.reduceEq, Int.reduceNeg, Int.reducePow, Nat.reducePow, Int.reduceTDiv, Int.reduceDiv, Nat.reduceDiv, Nat.reduceMod, Int.reduceMod, Int.reduceTMod, ne_eq, subA, beq_iff_eq, unA, minA, maxA, eqFs, eqA1, beq_self_eq_true, Nat.reduceBEq, bufO, gp, go, sp, so, ln]
    refine ACall.grow_row L B.G.enters (gp _ _) (go _ _) hpo hn (by omega) hlim ?_
    rw [so, sp]
    simp (config := { maxSteps := 4000000 }) (disch := omega) only [step, stepv, ev, okW, onlyFr, Bool.false_and, Bool.true_and, sealw, wl, wn, wp, aop, cV, cV1, ↓reduceIte, Nat.reduceEqDiff, Nat.reduceAdd, Int.cast_ofNat_Int, if_true, if_false, AV.one, repCells, fillA, partCells, Nat.reduceLT, Nat.reduceLeDiff, Nat.reduceMul, Nat.reduceSub, Int.reduceLT, Int.reduceLE, Int.reduceAdd, Int.reduceSub, Int.reduceMul, Int.reduceToNat, sliceCells, cellsAt, srcA, app, reduceCtorEq, Int.reduceEq, Int.reduceNeg, Int.reducePow, Nat.reducePow, Int.reduceTDiv, Int.reduceDiv, Nat.reduceDiv, Nat.reduceMod, Int.reduceMod, Int.reduceTMod, ne_eq, subA, beq_iff_eq, unA, minA, maxA, eqFs, eqA1, beq_self_eq_true, Nat.reduceBEq, bufO, gp, go, sp, so, ln, m1, z1, z2, nz, tk, tk2, tk3, hl, u8_one]
    exact .inl hK

set_option maxHeartbeats 1000000 in
theorem write_obj {P : Prg} {ρ : Ren} {f fT fL fR fS g0 : Nat} (L : LaysM.n252 P.prog ρ) (B : BufB P fT (ρ.f 252) fL fR fS (ρ.t 5) g0) (b : Body P f 32 [.tmp 4, .tmp 5] (ac_bytes_Buffer_Write fT (ρ.f 252)))
    {ob : List Ob} {p o n tB : Nat} {lr : Int} {cs : List AV} {s : List UInt8} (hp : ob[p]? = some (bufO tB (.own o n) lr)) (ho : ob[o]? = some ⟨ρ.t 5, 1, n, cs, 0⟩) (hl : cs.length = n) (hpo : p ≠ o) (hn : 0 < n) {q t : Nat} (hq : ob[q]? = some ⟨t, 1, s.length, u8 s, 0⟩) (hqp : q ≠ p) (hqo : q ≠ o) (hlim : n + s.length ≤ 140737488355328)
    {K : AV → List Ob → Prop} (hK : K (.tup [.int .i64 s.length, .lit .nilIface]) (upd2 ob o p ⟨ρ.t 5, 1, n + s.length, cs ++ u8 s, 0⟩ (bufO tB (.own o (n + s.length)) 0))) : ACall P f [.ref p 1 0, .own q s.length] ob K := by
  refine ACall.cap hp rfl ho rfl b.enters fun c hc1 hc2 => ?_
  have hol : o < ob.length := (List.getElem?_eq_some_iff.1 ho).1
  have hpl : p < ob.length := (List.getElem?_eq_some_iff.1 hp).1
  refine ACall.uncap (ACall.of_body b (by simp) ?_)
  have e0 : ob.set p { bufO tB (.own o n) lr with cs := .ownc o n c :: [.int .i64 0, .int .i8 lr] } = upd2 ob o p ⟨ρ.t 5, 1, n, cs, 0⟩ (bufO tB (.ownc o n c) lr) := by
    conv => lhs; rw [← upd2_same ho hp hpo]
    rw [upd2_p]
    rfl
  rw [e0]
  simp only [maxLen] at hc2
  have gp : ∀ x y, (upd2 ob o p x y)[p]? = some y := fun x y => upd2_gp hpl
  have go : ∀ x y, (upd2 ob o p x y)[o]? = some x := fun x y => upd2_go hol hpo
  have sp : ∀ x y y', (upd2 ob o p x y).set p y' = upd2 ob o p x y' := fun x y y' => upd2_p
  have so : ∀ x y x', (upd2 ob o p x y).set o x' = upd2 ob o p x' y := fun x y x' => upd2_o hpo
  have ln : ∀ x y, (upd2 ob o p x y).length = ob.length := fun x y => upd2_len
  have gq : ∀ x y, (upd2 ob o p x y)[q]? = some ⟨t, 1, s.length, u8 s, 0⟩ := fun x y => by
    unfold upd2
    rw [List.getElem?_set_ne hqp.symm, List.getElem?_set_ne hqo.symm]
    exact hq
  have m1 : ∀ a : Nat, Nat.min a a = a := fun a => Nat.min_self a
  have tk : (cs ++ List.replicate s.length AV.any).take n = cs := by rw [List.take_left' hl]
  have tk2 : (u8 s).take s.length = u8 s := by rw [List.take_of_length_le (by simp [u8_length])]
  have tk3 : (cs ++ List.replicate s.length AV.any).drop (n + s.length) = [] := by rw [List.drop_of_length_le (by simp; omega)]
  have nz : (n + s.length = 0) = False := eq_false (by omega)
  have z1 : n + s.length - n = s.length := by omega
  have z2 : ((n : Int) + s.length - n).toNat = s.length := by omega
  simp (config := { maxSteps := 4000000 }) (disch := omega) only [step, stepv, ev, okW, onlyFr, Bool.false_and, Bool.true_and, sealw, wl, wn, wp, aop, cV, cV1, ↓reduceIte, Nat.reduceEqDiff, Nat.reduceAdd, Int.cast_ofNat_Int, if_true, if_false, AV.one, repCells, fillA, partCells, Nat.reduceLT, Nat.reduceLeDiff, Nat.reduceMul, Nat.reduceSub, Int.reduceLT, Int.reduceLE, Int.reduceAdd, Int.reduceSub, Int.reduceMul, Int.reduceToNat, sliceCells, cellsAt, srcA, app, reduceCtorEq, Int.reduceEq, Int.reduceNeg, Int.reducePow, Nat.reducePow, Int.reduceTDiv, Int.reduceDiv, Nat.reduceDiv, Nat.reduceMod, Int.reduceMod, Int.reduceTMod, ne_eq, subA, beq_iff_eq, unA, minA, maxA, eqFs, eqA1, beq_self_eq_true, Nat.reduceBEq, gq, ac_bytes_Buffer_Write, bufO, gp, go, sp, so, ln]
  by_cases hr : n + s.length ≤ c
  · refine tryGrow_room B.T (gp _ _) (go _ _) hpo hr (by simpa [maxLen] using hc2) ?_
    rw [so, sp]
    simp (config := { maxSteps := 4000000 }) (disch := omega) only [step, stepv, ev, okW, onlyFr, Bool.false_and, Bool.true_and, sealw, wl, wn, wp, aop, cV, cV1, ↓reduceIte, Nat.reduceEqDiff, Nat.reduceAdd, Int.cast_ofNat_Int, if_true, if_false, AV.one, repCells, fillA, partCells, Nat.reduceLT, Nat.reduceLeDiff, Nat.reduceMul, Nat.reduceSub, Int.reduceLT, Int.reduceLE, Int.reduceAdd, Int.reduceSub, Int.reduceMul, Int.reduceToNat, sliceCells, cellsAt, srcA, app, reduceCtorEq, Int.reduceEq, Int.reduceNeg, Int.reducePow, Nat.reducePow, Int.reduceTDiv, Int.reduceDiv, Nat.reduceDiv, Nat.reduceMod, Int.reduceMod, Int.reduceTMod, ne_eq, subA, beq_iff_eq, unA, minA, maxA, eqFs, eqA1, beq_self_eq_true, Nat.reduceBEq, gq, bufO, gp, go, sp, so, ln, m1, z1, z2, reslA, nz, tk, tk2, tk3, hl, u8_one]
    refine .inr ⟨p, _, o, n + s.length, c, _, gp _ _, rfl, ?_⟩
    rw [sp]
    exact hK
  · refine tryGrow_none B.T (gp _ _) (go _ _) hc1 (by omega) (by simpa [maxLen] using hc2) (by omega) ?_
    simp (config := { maxSteps := 4000000 }) (disch := omega) only [step, stepv, ev, okW, onlyFr, Bool.false_and, Bool.true_and, sealw, wl, wn, wp, aop, cV, cV1, ↓reduceIte, Nat.reduceEqDiff, Nat.reduceAdd, Int.cast_ofNat_Int, if_true, if_false, AV.one, repCells, fillA, partCells, Nat.reduceLT, Nat.reduceLeDiff, Nat.reduceMul, Nat.reduceSub, Int.reduceLT, Int.reduceLE, Int.reduceAdd, Int.reduceSub, Int.reduceMul, Int.reduceToNat, sliceCells, cellsAt, srcA, app, reduceCtorEq, Int.reduceEq, Int.reduceNeg, Int.reducePow, Nat.reducePow, Int.reduceTDiv, Int.reduceDiv, Nat.reduceDiv, Nat.reduceMod, Int.reduceMod, Int.reduceTMod, ne_eq, subA, beq_iff_eq, unA, minA, maxA, eqFs, eqA1, beq_self_eq_true, Nat.reduceBEq, gq, bufO, gp, go, sp, so, ln]
    refine ACall.grow_row L B.G.enters (gp _ _) (go _ _) hpo hn (by omega) hlim ?_
    rw [so, sp]
    simp (config := { maxSteps := 4000000 }) (disch := omega) only [step, stepv, ev, okW, onlyFr, Bool.false_and, Bool.true_and, sealw, wl, wn, wp, aop, cV, cV1, ↓reduceIte, Nat.reduceEqDiff, Nat.reduceAdd, Int.cast_ofNat_Int, if_true, if_false, AV.one, repCells, fillA, partCells, Nat.reduceLT, Nat.reduceLeDiff, Nat.reduceMul, Nat.reduceSub, Int.reduceLT, Int.reduceLE, Int.reduceAdd, Int.reduceSub, Int.reduceMul, Int.reduceToNat, sliceCells, cellsAt, srcA, app, reduceCtorEq, Int.reduceEq, Int.reduceNeg, Int.reducePow, Nat.reducePow, Int.reduceTDiv, Int.reduceDiv, Nat.reduceDiv, Nat.reduceMod, Int.reduceMod, Int.reduceTMod, ne_eq, subA, beq_iff_eq, unA, minA, maxA, eqFs, eqA1, beq_self_eq_true, Nat.reduceBEq, gq, bufO, gp, go, sp, so, ln, m1, z1, z2, nz, tk, tk2, tk3, hl, u8_one]
    exact .inl hK

/-- WriteString, into a buffer that holds nothing yet, of at most 64 bytes. -/
theorem writeString_emp {P : Prg} {f fT fG fL fR fS t5 g0 : Nat} (B : BufB P fT fG fL fR fS t5 g0) (b : Body P f 32 [.tmp 4, .tmp 5] (ac_bytes_Buffer_WriteString fT fG))
    {ob : List Ob} {p tB : Nat} {lr : Int} {s : List UInt8} (hp : ob[p]? = some (bufO tB (.emp true) lr)) (h0 : 0 < s.length) (h64 : s.length ≤ 64)
    {K : AV → List Ob → Prop} (hK : K (.tup [.int .i64 s.length, .lit .nilIface]) ((ob ++ ([⟨t5, 1, s.length, u8 s, 0⟩] : List Ob)).set p (bufO tB (.own ob.length s.length) 0))) : ACall P f [.ref p 1 0, .str s] ob K := by
  refine ACall.of_body b (by simp) ?_
  have hpl : p < ob.length := (List.getElem?_eq_some_iff.1 hp).1
  have hpn : p ≠ ob.length := by omega
  simp only [bufO] at hp hK
  have g1 : ∀ x, (ob.set p x)[p]? = some x := fun x => by simp [hpl]
  have s1 : ∀ x y : Ob, (ob.set p x).set p y = ob.set p y := fun x y => List.set_set _
  have l1 : ∀ x, (ob.set p x).length = ob.length := fun x => List.length_set
  have g2 : ∀ x y : Ob, ((ob.set p x ++ [y]).set p (bufO tB (.own ob.length s.length) 0))[p]? = some (bufO tB (.own ob.length s.length) 0) := fun x y => by rw [List.getElem?_set_self (by simp; omega)]
  have g3 : ∀ x y : Ob, ((ob.set p x ++ [y]).set p (bufO tB (.own ob.length s.length) 0))[ob.length]? = some y := fun x y => by
    rw [List.getElem?_set_ne hpn, List.getElem?_append_right (by rw [List.length_set]; exact Nat.le_refl _)]; simp
  have l2 : ∀ x y : Ob, ((ob.set p x ++ [y]).set p (bufO tB (.own ob.length s.length) 0)).length = ob.length + 1 := fun x y => by simp
  have f1 : ∀ x y z : Ob, ((ob.set p x ++ [y]).set p (bufO tB (.own ob.length s.length) 0)).set ob.length z = (ob ++ ([z] : List Ob)).set p (bufO tB (.own ob.length s.length) 0) := fun x y z => by
    apply List.ext_getElem?
    intro j
    simp only [List.getElem?_set, List.getElem?_append, List.length_set, List.length_append]
    by_cases h1 : j = p
    · subst h1; simp [hpn.symm, hpl]
    · by_cases h2 : j = ob.length
      · subst h2; simp [hpn]
      · have h3 : ¬ ob.length = j := fun h => h2 h.symm
        have h4 : ¬ p = j := fun h => h1 h.symm
        simp only [h3, h4, if_false]
        by_cases h5 : j < ob.length
        · simp [h5]
        · have : j - ob.length ≠ 0 := by omega
          simp [h5, this]
  have m1 : ∀ a : Nat, Nat.min a a = a := fun a => Nat.min_self a
  have tk2 : (u8 s).take s.length = u8 s := by rw [List.take_of_length_le (by simp [u8_length])]
  have rl : (repCells [AV.int .u8 0] s.length).length = s.length := by rw [repCells_length]; simp
  have tk3 : (repCells [AV.int .u8 0] s.length).drop s.length = [] := by rw [List.drop_of_length_le (by omega)]
  have nz : (s.length = 0) = False := eq_false (by omega)
  have z3 : ((s.length : Int) - 0).toNat = s.length := by omega
  simp only [bufO] at g2 g3 l2 f1
  simp (config := { maxSteps := 4000000 }) (disch := omega) only [step, stepv, ev, okW, onlyFr, Bool.false_and, Bool.true_and, sealw, wl, wn, wp, aop, cV, cV1, ↓reduceIte, Nat.reduceEqDiff, Nat.reduceAdd, Int.cast_ofNat_Int, if_true, if_false, AV.one, repCells, fillA, partCells, Nat.reduceLT, Nat.reduceLeDiff, Nat.reduceMul, Nat.reduceSub, Int.reduceLT, Int.reduceLE, Int.reduceAdd, Int.reduceSub, Int.reduceMul, Int.reduceToNat, sliceCells, cellsAt, srcA, app, reduceCtorEq, Int.reduceEq, Int.reduceNeg, Int.reducePow, Nat.reducePow, Int.reduceTDiv, Int.reduceDiv, Nat.reduceDiv, Nat.reduceMod, Int.reduceMod, Int.reduceTMod, ne_eq, subA, beq_iff_eq, unA, minA, maxA, eqFs, eqA1, beq_self_eq_true, Nat.reduceBEq, ac_bytes_Buffer_WriteString, hp, g1, s1, l1]
  refine tryGrow_emp B.T (g1 _) h0 ?_
  simp (config := { maxSteps := 4000000 }) (disch := omega) only [step, stepv, ev, okW, onlyFr, Bool.false_and, Bool.true_and, sealw, wl, wn, wp, aop, cV, cV1, ↓reduceIte, Nat.reduceEqDiff, Nat.reduceAdd, Int.cast_ofNat_Int, if_true, if_false, AV.one, repCells, fillA, partCells, Nat.reduceLT, Nat.reduceLeDiff, Nat.reduceMul, Nat.reduceSub, Int.reduceLT, Int.reduceLE, Int.reduceAdd, Int.reduceSub, Int.reduceMul, Int.reduceToNat, sliceCells, cellsAt, srcA, app, reduceCtorEq, Int.reduceEq, Int.reduceNeg, Int.reducePow, Nat.reducePow, Int.reduceTDiv, Int.reduceDiv, Nat.reduceDiv, Nat.reduceMod, Int.reduceMod, Int.reduceTMod, ne_eq, subA, beq_iff_eq, unA, minA, maxA, eqFs, eqA1, beq_self_eq_true, Nat.reduceBEq, g1, s1, l1]
  refine grow_emp B.G B.L B.T (g1 _) h0 h64 ?_
  simp (config := { maxSteps := 4000000 }) (disch := omega) only [step, stepv, ev, okW, onlyFr, Bool.false_and, Bool.true_and, sealw, wl, wn, wp, aop, cV, cV1, ↓reduceIte, Nat.reduceEqDiff, Nat.reduceAdd, Int.cast_ofNat_Int, if_true, if_false, AV.one, repCells, fillA, partCells, Nat.reduceLT, Nat.reduceLeDiff, Nat.reduceMul, Nat.reduceSub, Int.reduceLT, Int.reduceLE, Int.reduceAdd, Int.reduceSub, Int.reduceMul, Int.reduceToNat, sliceCells, cellsAt, srcA, app, reduceCtorEq, Int.reduceEq, Int.reduceNeg, Int.reducePow, Nat.reducePow, Int.reduceTDiv, Int.reduceDiv, Nat.reduceDiv, Nat.reduceMod, Int.reduceMod, Int.reduceTMod, ne_eq, subA, beq_iff_eq, unA, minA, maxA, eqFs, eqA1, beq_self_eq_true, Nat.reduceBEq, bufO, l1, g2, g3, l2, f1, m1, tk2, tk3, nz, rl, z3, u8_one]
  exact hK

end Go.Am

namespace Go.Am
open Go.RowKit

/-! ### le.Bytes -/

/-- The lowest k bytes of a number, the lowest first. -/
def leB (n : Nat) : Nat → List UInt8
  | 0 => []
  | k + 1 => UInt8.ofNat (n % 256) :: leB (n / 256) k

theorem leB_length : ∀ (k n : Nat), (leB n k).length = k
  | 0, _ => rfl
  | k + 1, n => by simp [leB, leB_length k]

theorem leB_get : ∀ (k n i : Nat) (h : i < k), (leB n k)[i]? = some (UInt8.ofNat (n / 256 ^ i % 256))
  | k + 1, n, 0, _ => by simp [leB]
  | k + 1, n, i + 1, h => by
    simp only [leB, List.getElem?_cons_succ]
    rw [leB_get k (n / 256) i (by omega), Nat.div_div_eq_div_mul, Nat.pow_succ, Nat.mul_comm]

theorem leB_take_succ {n k i : Nat} (h : i < k) : (leB n k).take (i + 1) = (leB n k).take i ++ [UInt8.ofNat (n / 256 ^ i % 256)] := by
  rw [List.take_add_one, leB_get k n i h]
  rfl

theorem shrN {K : IntKind} {n k : Nat} (hk : k ≤ K.bits) : shiftA false K (n : Int) (k : Int) = some (.int K ((n / 2 ^ k : Nat) : Int)) := by
  have h3 : ¬ ((k : Int) < 0) := by omega
  have h5 : min k K.bits = k := by omega
  have h6 : (n : Int).fdiv (2 ^ k) = ((n / 2 ^ k : Nat) : Int) := by
    rw [Int.fdiv_eq_ediv_of_nonneg _ (Int.pow_nonneg (by decide))]
    simp [Int.natCast_ediv, Int.natCast_pow]
  simp only [shiftA, if_neg h3, Bool.false_eq_true, if_false, Int.toNat_natCast, h5, h6]

def S_fits (P : Prg) (f : Nat) : Prop := ∀ n w : Nat, 1 ≤ w → w ≤ 8 → VC P f [.int .u64 n, .int .i64 w] (.bool (decide (w = 8) || decide (n / 2 ^ (8 * w) = 0)))
theorem le_fits {P : Prg} {f : Nat} (b : Body P f 14 [.tmp 4] ac_le_fits) : S_fits P f := by
  intro n w h1 h2
  refine VC.of_acall rfl rfl (ACall.of_body b (by simp) ?_)
  by_cases h8 : w = 8
  · subst h8
    simp (config := { maxSteps := 4000000 }) (disch := omega) only [step, stepv, ev, okW, onlyFr, Bool.false_and, Bool.true_and, sealw, wl, wn, wp, aop, cV, cV1, ↓reduceIte, Nat.reduceEqDiff, Nat.reduceAdd, Int.cast_ofNat_Int, if_true, if_false, AV.one, repCells, fillA, partCells, Nat.reduceLT, Nat.reduceLeDiff, Nat.reduceMul, Nat.reduceSub, Int.reduceLT, Int.reduceLE, Int.reduceAdd, Int.reduceSub, Int.reduceMul, Int.reduceToNat, sliceCells, cellsAt, srcA, app, reduceCtorEq, Int.reduceEq, Int.reduceNeg, Int.reducePow, Nat.reducePow, Int.reduceTDiv, Int.reduceDiv, Nat.reduceDiv, Nat.reduceMod, Int.reduceMod, Int.reduceTMod, ne_eq, subA, beq_iff_eq, unA, minA, maxA, eqFs, eqA1, beq_self_eq_true, Nat.reduceBEq, ac_le_fits]
  · have e1 : (decide (w = 8)) = false := by simpa using h8
    have e2 : shiftA false .u64 (n : Int) (8 * (w : Int)) = some (.int .u64 ((n / 2 ^ (8 * w) : Nat) : Int)) := by
      have := shrN (K := .u64) (n := n) (k := 8 * w) (by simp [IntKind.bits]; omega)
      rwa [Int.natCast_mul] at this
    have e3 : (((n / 2 ^ (8 * w) : Nat) : Int) == 0) = decide (n / 2 ^ (8 * w) = 0) := by rw [Bool.eq_iff_iff]; simp only [beq_iff_eq, decide_eq_true_eq]; omega
    have e4 : ((w : Int) = 8) = False := eq_false (by omega)
    by_cases h9 : n / 2 ^ (8 * w) = 0
    · have e5 : (decide (n / 2 ^ (8 * w) = 0)) = true := by simpa using h9
      have e6 : (((n / 2 ^ (8 * w) : Nat) : Int) = 0) = True := eq_true (by omega)
      rw [e5]
      simp (config := { maxSteps := 4000000 }) (disch := omega) only [step, stepv, ev, okW, onlyFr, Bool.false_and, Bool.true_and, sealw, wl, wn, wp, aop, cV, cV1, ↓reduceIte, Nat.reduceEqDiff, Nat.reduceAdd, Int.cast_ofNat_Int, if_true, if_false, AV.one, repCells, fillA, partCells, Nat.reduceLT, Nat.reduceLeDiff, Nat.reduceMul, Nat.reduceSub, Int.reduceLT, Int.reduceLE, Int.reduceAdd, Int.reduceSub, Int.reduceMul, Int.reduceToNat, sliceCells, cellsAt, srcA, app, reduceCtorEq, Int.reduceEq, Int.reduceNeg, Int.reducePow, Nat.reducePow, Int.reduceTDiv, Int.reduceDiv, Nat.reduceDiv, Nat.reduceMod, Int.reduceMod, Int.reduceTMod, ne_eq, subA, beq_iff_eq, unA, minA, maxA, eqFs, eqA1, beq_self_eq_true, Nat.reduceBEq, ac_le_fits, e1, e2, e4, e6]
    · have e5 : (decide (n / 2 ^ (8 * w) = 0)) = false := by simpa using h9
      have e6 : (((n / 2 ^ (8 * w) : Nat) : Int) = 0) = False := eq_false (by omega)
      rw [e5]
      simp (config := { maxSteps := 4000000 }) (disch := omega) only [step, stepv, ev, okW, onlyFr, Bool.false_and, Bool.true_and, sealw, wl, wn, wp, aop, cV, cV1, ↓reduceIte, Nat.reduceEqDiff, Nat.reduceAdd, Int.cast_ofNat_Int, if_true, if_false, AV.one, repCells, fillA, partCells, Nat.reduceLT, Nat.reduceLeDiff, Nat.reduceMul, Nat.reduceSub, Int.reduceLT, Int.reduceLE, Int.reduceAdd, Int.reduceSub, Int.reduceMul, Int.reduceToNat, sliceCells, cellsAt, srcA, app, reduceCtorEq, Int.reduceEq, Int.reduceNeg, Int.reducePow, Nat.reducePow, Int.reduceTDiv, Int.reduceDiv, Nat.reduceDiv, Nat.reduceMod, Int.reduceMod, Int.reduceTMod, ne_eq, subA, beq_iff_eq, unA, minA, maxA, eqFs, eqA1, beq_self_eq_true, Nat.reduceBEq, ac_le_fits, e1, e2, e4, e6]

/-- le.Bytes of a number that fits. -/
def S_leBytes (P : Prg) (f : Nat) : Prop := ∀ n w : Nat, 1 ≤ w → w ≤ 8 → n < 256 ^ w → VC P f [.int .u64 n, .int .i64 w] (.tup [bs (leB n w), .int .i64 0])

theorem frz_own0 {t n : Nat} {l : List UInt8} (h : n = l.length) {e : Int} : frzN (fun _ => true) [⟨t, 1, n, u8 l, 0⟩] 2 [.tup [.own 0 n, .int .i64 e]] = some [.tup [bs l, .int .i64 e]] := by
  subst h
  simp only [frzN, frzK, frzL, frzV, Bool.false_eq_true, if_false, List.getElem?_cons_zero, and_self, if_true, frzL_T _ (isT_u8 l), Option.map_some, bs]

theorem le_Bytes {P : Prg} {f fF t0 : Nat} (b : Body P f 35 [.tmp 4, .tmp 5] (ac_le_Bytes fF t0)) (hF : S_fits P fF) : S_leBytes P f := by
  intro n w h1 h2 hn
  refine VC.of_walk 1 (by simp [isDL, isD]) (by simp [isD, isDL, isD_bs]) (ACall.of_body b (by simp) ?_)
  have hn8 : n < 18446744073709551616 := Nat.lt_of_lt_of_le hn (Nat.le_trans (Nat.pow_le_pow_right (by omega) h2) (by decide))
  simp (config := { maxSteps := 4000000 }) (disch := omega) only [step, stepv, ev, okW, onlyFr, Bool.false_and, Bool.true_and, sealw, wl, wn, wp, aop, cV, cV1, ↓reduceIte, Nat.reduceEqDiff, Nat.reduceAdd, Int.cast_ofNat_Int, if_true, if_false, AV.one, repCells, fillA, partCells, Nat.reduceLT, Nat.reduceLeDiff, Nat.reduceMul, Nat.reduceSub, Int.reduceLT, Int.reduceLE, Int.reduceAdd, Int.reduceSub, Int.reduceMul, Int.reduceToNat, sliceCells, cellsAt, srcA, app, reduceCtorEq, Int.reduceEq, Int.reduceNeg, Int.reducePow, Nat.reducePow, Int.reduceTDiv, Int.reduceDiv, Nat.reduceDiv, Nat.reduceMod, Int.reduceMod, Int.reduceTMod, ne_eq, subA, beq_iff_eq, unA, minA, maxA, eqFs, eqA1, beq_self_eq_true, Nat.reduceBEq, ac_le_Bytes]
  refine callQ.vc (hF n w h1 h2) ?_
  have e0 : (decide (w = 8) || decide (n / 2 ^ (8 * w) = 0)) = true := by
    have : n / 2 ^ (8 * w) = 0 := Nat.div_eq_of_lt (by rw [Nat.pow_mul]; exact hn)
    simp [this]
  rw [e0]
  have r0 : repCells [.int .u8 0] w = u8 ([] : List UInt8) ++ List.replicate w (.int .u8 0) := by
    have : ∀ k, repCells [AV.int .u8 0] k = List.replicate k (.int .u8 0) := fun k => by
      induction k with
      | zero => rfl
      | succ k ih => simp [repCells, ih, List.replicate_succ]
    rw [this]; rfl
  simp (config := { maxSteps := 4000000 }) (disch := omega) only [step, stepv, ev, okW, onlyFr, Bool.false_and, Bool.true_and, sealw, wl, wn, wp, aop, cV, cV1, ↓reduceIte, Nat.reduceEqDiff, Nat.reduceAdd, Int.cast_ofNat_Int, if_true, if_false, AV.one, repCells, fillA, partCells, Nat.reduceLT, Nat.reduceLeDiff, Nat.reduceMul, Nat.reduceSub, Int.reduceLT, Int.reduceLE, Int.reduceAdd, Int.reduceSub, Int.reduceMul, Int.reduceToNat, sliceCells, cellsAt, srcA, app, reduceCtorEq, Int.reduceEq, Int.reduceNeg, Int.reducePow, Nat.reducePow, Int.reduceTDiv, Int.reduceDiv, Nat.reduceDiv, Nat.reduceMod, Int.reduceMod, Int.reduceTMod, ne_eq, subA, beq_iff_eq, unA, minA, maxA, eqFs, eqA1, beq_self_eq_true, Nat.reduceBEq, ac_le_Bytes]
  rw [r0]
  refine ALoop.by (ι := Nat) (fun k => ⟨[(22, .int .i64 k), (21, .int .i64 w), (6, .own 0 w), (0, .int .u64 n)], [⟨t0, 1, w, u8 ((leB n w).take k) ++ List.replicate (w - k) (.int .u8 0), 0⟩]⟩) (fun k => k ≤ w) (fun k => w - k) 0 (Le.slots (by simp [Am.look])) (by omega) ?_
  intro k hk
  by_cases hlt : k < w
  · have e2 : shiftA false .u64 (n : Int) (8 * (k : Int)) = some (.int .u64 ((n / 256 ^ k : Nat) : Int)) := by
      have := shrN (K := .u64) (n := n) (k := 8 * k) (by simp [IntKind.bits]; omega)
      rwa [Int.natCast_mul, Nat.pow_mul] at this
    have e3 : IntKind.u8.wrap ((n / 256 ^ k : Nat) : Int) = ((UInt8.ofNat (n / 256 ^ k % 256)).toNat : Int) := by
      simp [IntKind.wrap, IntKind.signed, IntKind.bits]
    have hl : (u8 ((leB n w).take k)).length = k := by simp [u8_length, leB_length]; omega
    have e4 : (u8 ((leB n w).take k) ++ List.replicate (w - k) (AV.int .u8 0)).take k = u8 ((leB n w).take k) := by rw [List.take_left' hl]
    have e5 : (u8 ((leB n w).take k) ++ List.replicate (w - k) (AV.int .u8 0)).drop (k + 1) = List.replicate (w - (k + 1)) (.int .u8 0) := by
      rw [List.drop_append, List.drop_of_length_le (by omega), hl]
      simp
      omega
    have e6 : u8 ((leB n w).take k) ++ [AV.int .u8 ((UInt8.ofNat (n / 256 ^ k % 256)).toNat : Int)] = u8 ((leB n w).take (k + 1)) := by
      rw [leB_take_succ hlt, ← u8_append]; rfl
    simp (config := { maxSteps := 4000000 }) (disch := omega) only [step, stepv, ev, okW, onlyFr, Bool.false_and, Bool.true_and, sealw, wl, wn, wp, aop, cV, cV1, ↓reduceIte, Nat.reduceEqDiff, Nat.reduceAdd, Int.cast_ofNat_Int, if_true, if_false, AV.one, repCells, fillA, partCells, Nat.reduceLT, Nat.reduceLeDiff, Nat.reduceMul, Nat.reduceSub, Int.reduceLT, Int.reduceLE, Int.reduceAdd, Int.reduceSub, Int.reduceMul, Int.reduceToNat, sliceCells, cellsAt, srcA, app, reduceCtorEq, Int.reduceEq, Int.reduceNeg, Int.reducePow, Nat.reducePow, Int.reduceTDiv, Int.reduceDiv, Nat.reduceDiv, Nat.reduceMod, Int.reduceMod, Int.reduceTMod, ne_eq, subA, beq_iff_eq, unA, minA, maxA, eqFs, eqA1, beq_self_eq_true, Nat.reduceBEq, e2, e3, hl, e4, e5, e6]
    refine ⟨k + 1, by omega, by omega, ?_⟩
    refine Le.slots ?_
    simp [Am.look]
  · have ek : k = w := by omega
    subst ek
    have e7 : (leB n k).take k = leB n k := List.take_of_length_le (by rw [leB_length]; exact Nat.le_refl _)
    have e8 : u8 (leB n k) ++ List.replicate (k - k) (AV.int .u8 0) = u8 (leB n k) := by simp
    simp (config := { maxSteps := 4000000 }) (disch := omega) only [step, stepv, ev, okW, onlyFr, Bool.false_and, Bool.true_and, sealw, wl, wn, wp, aop, cV, cV1, ↓reduceIte, Nat.reduceEqDiff, Nat.reduceAdd, Int.cast_ofNat_Int, if_true, if_false, AV.one, repCells, fillA, partCells, Nat.reduceLT, Nat.reduceLeDiff, Nat.reduceMul, Nat.reduceSub, Int.reduceLT, Int.reduceLE, Int.reduceAdd, Int.reduceSub, Int.reduceMul, Int.reduceToNat, sliceCells, cellsAt, srcA, app, reduceCtorEq, Int.reduceEq, Int.reduceNeg, Int.reducePow, Nat.reducePow, Int.reduceTDiv, Int.reduceDiv, Nat.reduceDiv, Nat.reduceMod, Int.reduceMod, Int.reduceTMod, ne_eq, subA, beq_iff_eq, unA, minA, maxA, eqFs, eqA1, beq_self_eq_true, Nat.reduceBEq, e7]
    rw [e8, frz_own0 (leB_length k n).symm]

end Go.Am
