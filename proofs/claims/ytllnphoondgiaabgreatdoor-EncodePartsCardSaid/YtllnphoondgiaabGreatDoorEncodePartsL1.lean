/- What the functions that the law reaches return, for every program that has their code; the conditions stand in each statement. -/
import Derived.Test.YtllnphoondgiaabGreatDoorEncodePartsD1
set_option linter.unusedSectionVars false
set_option linter.unusedSimpArgs false
set_option linter.unusedVariables false
namespace Go.Am
open Go.RowKit

def leN : List UInt8 → Nat
  | [] => 0
  | b :: l => b.toNat + 256 * leN l

theorem Qlz : ∀ l : List UInt8, leN l < 2 ^ (8 * l.length)
  | [] => by simp [leN]
  | b :: l => by
    have h1 := Qlz l
    have h2 := b.toNat_lt
    have h3 : 2 ^ (8 * (b :: l).length) = 256 * 2 ^ (8 * l.length) := by
      rw [List.length_cons, Nat.mul_add, Nat.pow_add, Nat.mul_comm]
    rw [h3]
    simp only [leN]
    omega

theorem Qft : ∀ (a b : List UInt8), leN (a ++ b) = leN a + 2 ^ (8 * a.length) * leN b
  | [], b => by simp [leN]
  | x :: a, b => by
    have h3 : 2 ^ (8 * (x :: a).length) = 256 * 2 ^ (8 * a.length) := by
      rw [List.length_cons, Nat.mul_add, Nat.pow_add, Nat.mul_comm]
    rw [h3]
    simp only [List.cons_append, leN, Qft a b, Nat.mul_add, Nat.mul_assoc]
    omega

theorem Qqe {l : List UInt8} (h : l.length ≤ 8) : leN l < 18446744073709551616 := by
  have h1 := Qlz l
  have h2 : 2 ^ (8 * l.length) ≤ 2 ^ 64 := Nat.pow_le_pow_right (by omega) (by omega)
  omega

theorem Qqd {l : List UInt8} {k : Nat} (h : k < l.length) : leN (l.take (k + 1)) = leN (l.take k) + l[k].toNat * 2 ^ (8 * k) := by
  rw [List.take_succ_eq_append_getElem h, Qft]
  simp [leN, Nat.min_eq_left (Nat.le_of_lt h), Nat.mul_comm]

def Qc1 (P : Prg) (f : Nat) : Prop := ∀ l : List UInt8, 1 ≤ l.length → l.length ≤ 8 → VC P f [bs l] (.tup [.int .u64 (leN l), .int .i64 0])

set_option maxRecDepth 10000 in
theorem Qqb {P : Prg} {f : Nat} (b : Qm P f 31 [.tmp 2, .tmp 3] QbX) : Qc1 P f := by
  intro l h1 h2
  refine VC.of_acall (by simp [isDL, Zu]) rfl (ACall.of_body b (by simp) ?_)
  have d1 : ¬ ((l.length : Int) < 1) := by omega
  have d2 : ¬ ((8 : Int) < l.length) := by omega
  simp only [abv, walk, ev, okW, Qd, Bool.false_and, Qmb, aop, cV, cV1, List.length_nil, List.length_cons, List.map_nil, List.map_cons, List.cons_append, List.nil_append, ↓reduceIte, Nat.reduceEqDiff, Nat.reduceAdd, Option.map_some, Option.map_none, Option.bind_some, decide_true, decide_false, Bool.false_eq_true, Bool.not_true, Bool.not_false, Int.toNat_natCast, List.getElem?_cons_zero, List.getElem?_cons_succ, Int.natCast_add, Int.cast_ofNat_Int, true_and, and_true, and_self, if_true, if_false, QA, Nat.mul_one, Nat.one_mul, Nat.zero_add, Nat.add_zero, List.drop_zero, beq_self_eq_true, Bool.and_self, Bool.and_true, Bool.true_and, AV.one, List.all_cons, List.all_nil, Qn, XF, Qb, Nat.reduceLT, Nat.reduceLeDiff, Nat.reduceBEq, Nat.reduceMul, Nat.reduceSub, Int.reduceLT, Int.reduceLE, Int.reduceAdd, Int.reduceSub, Int.reduceMul, Int.reduceToNat, List.take_nil, List.drop_nil, List.take_zero, List.append_nil, Qa, Qc, Qe, app, List.set_cons_zero, List.set_cons_succ, List.length_set, Nat.le_refl, Nat.zero_le, List.take_length, ZF, reduceCtorEq, List.drop_succ_cons, List.take_succ_cons, Int.reduceEq, QbX, bs, d1, d2]
  refine QV.by (ι := Nat) (fun k => ⟨[(17, .int .i64 k), (16, .int .i64 l.length), (15, .list l.length (u8 l)), (4, .int .u64 (leN (l.take k)))], []⟩) (fun k => k ≤ l.length) (fun k => l.length - k) 0 (Le.slots (by simp [Am.look, leN])) (by omega) ?_
  intro k hk
  by_cases hlt : k < l.length
  · have e1 : (k : Int) < l.length := by omega
    have e2 : (0 : Int) ≤ k := by omega
    have e4 := Qr3 hlt
    have e5 : IntKind.u64.wrap ((l[k].toNat : Nat) : Int) = (l[k].toNat : Nat) := Qa9 (by omega) (by have := l[k].toNat_lt; omega)
    have e6 : IntKind.i64.wrap (8 * (k : Int)) = (8 * k : Nat) := by rw [Xc] <;> omega
    have e7 : Qs true .u64 ((l[k].toNat : Nat) : Int) ((8 * k : Nat) : Int) = some (.int .u64 ((l[k].toNat * 2 ^ (8 * k) : Nat) : Int)) := Qrq (by omega) (by
      have h1 := l[k].toNat_lt
      have h2 : 2 ^ (8 * k) ≤ 2 ^ 56 := Nat.pow_le_pow_right (by omega) (by omega)
      calc l[k].toNat * 2 ^ (8 * k) ≤ 255 * 2 ^ 56 := Nat.mul_le_mul (by omega) h2
        _ < _ := by omega)
    have e8 : leN (l.take (k + 1)) < 18446744073709551616 := Qqe (by simp; omega)
    have e9 := Qqd hlt
    have e10 : leN (l.take k) < 2 ^ (8 * k) := by have := Qlz (l.take k); rwa [List.length_take, Nat.min_eq_left hk] at this
    have e11 : IntKind.u64.wrap (BitVec.ofInt IntKind.u64.bits (leN (l.take k) : Nat) ||| BitVec.ofInt IntKind.u64.bits (l[k].toNat * 2 ^ (8 * k) : Nat)).toNat = (leN (l.take (k + 1)) : Nat) := by
      rw [QsA _ _ (by omega) (by omega), QnZ e10, e9]
    have e12 : IntKind.i64.wrap ((k : Int) + 1) = ((k + 1 : Nat) : Int) := by rw [Xc] <;> omega
    simp only [abv, walk, ev, okW, Qd, Bool.false_and, Qmb, aop, cV, cV1, List.length_nil, List.length_cons, List.map_nil, List.map_cons, List.cons_append, List.nil_append, ↓reduceIte, Nat.reduceEqDiff, Nat.reduceAdd, Option.map_some, Option.map_none, Option.bind_some, decide_true, decide_false, Bool.false_eq_true, Bool.not_true, Bool.not_false, Int.toNat_natCast, List.getElem?_cons_zero, List.getElem?_cons_succ, Int.natCast_add, Int.cast_ofNat_Int, true_and, and_true, and_self, if_true, if_false, QA, Nat.mul_one, Nat.one_mul, Nat.zero_add, Nat.add_zero, List.drop_zero, beq_self_eq_true, Bool.and_self, Bool.and_true, Bool.true_and, AV.one, List.all_cons, List.all_nil, Qn, XF, Qb, Nat.reduceLT, Nat.reduceLeDiff, Nat.reduceBEq, Nat.reduceMul, Nat.reduceSub, Int.reduceLT, Int.reduceLE, Int.reduceAdd, Int.reduceSub, Int.reduceMul, Int.reduceToNat, List.take_nil, List.drop_nil, List.take_zero, List.append_nil, Qa, Qc, Qe, app, List.set_cons_zero, List.set_cons_succ, List.length_set, Nat.le_refl, Nat.zero_le, List.take_length, ZF, reduceCtorEq, List.drop_succ_cons, List.take_succ_cons, Int.reduceEq, e1, e2, hlt, e4, e5, e6, e7, e11, e12]
    exact ⟨k + 1, by omega, by omega, Le.slots (by simp [Am.look])⟩
  · have e1 : ¬ (k : Int) < l.length := by omega
    have e2 : k = l.length := by omega
    subst e2
    simp only [abv, walk, ev, okW, Qd, Bool.false_and, Qmb, aop, cV, cV1, List.length_nil, List.length_cons, List.map_nil, List.map_cons, List.cons_append, List.nil_append, ↓reduceIte, Nat.reduceEqDiff, Nat.reduceAdd, Option.map_some, Option.map_none, Option.bind_some, decide_true, decide_false, Bool.false_eq_true, Bool.not_true, Bool.not_false, Int.toNat_natCast, List.getElem?_cons_zero, List.getElem?_cons_succ, Int.natCast_add, Int.cast_ofNat_Int, true_and, and_true, and_self, if_true, if_false, QA, Nat.mul_one, Nat.one_mul, Nat.zero_add, Nat.add_zero, List.drop_zero, beq_self_eq_true, Bool.and_self, Bool.and_true, Bool.true_and, AV.one, List.all_cons, List.all_nil, Qn, XF, Qb, Nat.reduceLT, Nat.reduceLeDiff, Nat.reduceBEq, Nat.reduceMul, Nat.reduceSub, Int.reduceLT, Int.reduceLE, Int.reduceAdd, Int.reduceSub, Int.reduceMul, Int.reduceToNat, List.take_nil, List.drop_nil, List.take_zero, List.append_nil, Qa, Qc, Qe, app, List.set_cons_zero, List.set_cons_succ, List.length_set, Nat.le_refl, Nat.zero_le, List.take_length, ZF, reduceCtorEq, List.drop_succ_cons, List.take_succ_cons, Int.reduceEq, e1, List.take_length]

def Qg8 (P : Prg) (f : Nat) : Prop := ∀ (l : List UInt8) (a w : Nat), l.length < 4611686018427387904 → 1 ≤ w → w ≤ 8 → a < 4611686018427387904 →
  VC P f [bs l, .int .i64 a, .int .i64 w] (if a + w ≤ l.length then .tup [.int .u64 (leN ((l.drop a).take w)), .int .i64 0] else .tup [.int .u64 0, .int .i64 24])

set_option maxRecDepth 10000 in
theorem Qtu {P : Prg} {f g : Nat} (b : Qm P f 33 [.tmp 6, .tmp 7] (QdJ g)) (hg : Qc1 P g) : Qg8 P f := by
  intro l a w hl h1 h2 ha
  have d1 : ¬ ((w : Int) < 1) := by omega
  have d2 : ¬ ((8 : Int) < w) := by omega
  have d3 : ¬ ((a : Int) < 0) := by omega
  have d4 : IntKind.i64.wrap ((l.length : Int) - w) = (l.length : Int) - w := by rw [Xc] <;> omega
  have d5 : IntKind.i64.wrap ((a : Int) + w) = (a : Int) + w := by rw [Xc] <;> omega
  by_cases hle : a + w ≤ l.length
  · rw [if_pos hle]
    refine VC.of_acall (by simp [isDL, Zu, isD]) rfl (ACall.of_body b (by simp) ?_)
    have d6 : ¬ ((l.length : Int) - w < a) := by omega
    have d7 := Qsq (ob := []) (l := l) (a := a) (b := (a : Int) + w) (i := a) (j := a + w) rfl (by omega) (by omega) hle
    simp only [abv, walk, ev, okW, Qd, Bool.false_and, Qmb, aop, cV, cV1, List.length_nil, List.length_cons, List.map_nil, List.map_cons, List.cons_append, List.nil_append, ↓reduceIte, Nat.reduceEqDiff, Nat.reduceAdd, Option.map_some, Option.map_none, Option.bind_some, decide_true, decide_false, Bool.false_eq_true, Bool.not_true, Bool.not_false, Int.toNat_natCast, List.getElem?_cons_zero, List.getElem?_cons_succ, Int.natCast_add, Int.cast_ofNat_Int, true_and, and_true, and_self, if_true, if_false, QA, Nat.mul_one, Nat.one_mul, Nat.zero_add, Nat.add_zero, List.drop_zero, beq_self_eq_true, Bool.and_self, Bool.and_true, Bool.true_and, AV.one, List.all_cons, List.all_nil, Qn, XF, Qb, Nat.reduceLT, Nat.reduceLeDiff, Nat.reduceBEq, Nat.reduceMul, Nat.reduceSub, Int.reduceLT, Int.reduceLE, Int.reduceAdd, Int.reduceSub, Int.reduceMul, Int.reduceToNat, List.take_nil, List.drop_nil, List.take_zero, List.append_nil, Qa, Qc, Qe, app, List.set_cons_zero, List.set_cons_succ, List.length_set, Nat.le_refl, Nat.zero_le, List.take_length, ZF, reduceCtorEq, List.drop_succ_cons, List.take_succ_cons, Int.reduceEq, QdJ, bs, d1, d2, d3, d4, d5, d6, d7]
    have hlen : ((l.drop a).take w).length = w := by simp; omega
    have e : a + w - a = w := by omega
    rw [e]
    have := hg ((l.drop a).take w) (by omega) (by omega)
    rw [bs, hlen] at this
    refine Qh.vc this ?_
    simp only [abv, walk, ev, okW, Qd, Bool.false_and, Qmb, aop, cV, cV1, List.length_nil, List.length_cons, List.map_nil, List.map_cons, List.cons_append, List.nil_append, ↓reduceIte, Nat.reduceEqDiff, Nat.reduceAdd, Option.map_some, Option.map_none, Option.bind_some, decide_true, decide_false, Bool.false_eq_true, Bool.not_true, Bool.not_false, Int.toNat_natCast, List.getElem?_cons_zero, List.getElem?_cons_succ, Int.natCast_add, Int.cast_ofNat_Int, true_and, and_true, and_self, if_true, if_false, QA, Nat.mul_one, Nat.one_mul, Nat.zero_add, Nat.add_zero, List.drop_zero, beq_self_eq_true, Bool.and_self, Bool.and_true, Bool.true_and, AV.one, List.all_cons, List.all_nil, Qn, XF, Qb, Nat.reduceLT, Nat.reduceLeDiff, Nat.reduceBEq, Nat.reduceMul, Nat.reduceSub, Int.reduceLT, Int.reduceLE, Int.reduceAdd, Int.reduceSub, Int.reduceMul, Int.reduceToNat, List.take_nil, List.drop_nil, List.take_zero, List.append_nil, Qa, Qc, Qe, app, List.set_cons_zero, List.set_cons_succ, List.length_set, Nat.le_refl, Nat.zero_le, List.take_length, ZF, reduceCtorEq, List.drop_succ_cons, List.take_succ_cons, Int.reduceEq]
  · rw [if_neg hle]
    refine VC.of_acall (by simp [isDL, Zu, isD]) rfl (ACall.of_body b (by simp) ?_)
    have d6 : ((l.length : Int) - w < a) := by omega
    simp only [abv, walk, ev, okW, Qd, Bool.false_and, Qmb, aop, cV, cV1, List.length_nil, List.length_cons, List.map_nil, List.map_cons, List.cons_append, List.nil_append, ↓reduceIte, Nat.reduceEqDiff, Nat.reduceAdd, Option.map_some, Option.map_none, Option.bind_some, decide_true, decide_false, Bool.false_eq_true, Bool.not_true, Bool.not_false, Int.toNat_natCast, List.getElem?_cons_zero, List.getElem?_cons_succ, Int.natCast_add, Int.cast_ofNat_Int, true_and, and_true, and_self, if_true, if_false, QA, Nat.mul_one, Nat.one_mul, Nat.zero_add, Nat.add_zero, List.drop_zero, beq_self_eq_true, Bool.and_self, Bool.and_true, Bool.true_and, AV.one, List.all_cons, List.all_nil, Qn, XF, Qb, Nat.reduceLT, Nat.reduceLeDiff, Nat.reduceBEq, Nat.reduceMul, Nat.reduceSub, Int.reduceLT, Int.reduceLE, Int.reduceAdd, Int.reduceSub, Int.reduceMul, Int.reduceToNat, List.take_nil, List.drop_nil, List.take_zero, List.append_nil, Qa, Qc, Qe, app, List.set_cons_zero, List.set_cons_succ, List.length_set, Nat.le_refl, Nat.zero_le, List.take_length, ZF, reduceCtorEq, List.drop_succ_cons, List.take_succ_cons, Int.reduceEq, QdJ, bs, d1, d2, d3, d4, d6]

/-! ### layer 1's reference -/

end Go.Am

namespace Go.Am
open Go.RowKit

theorem Zq (l : List UInt8) : isTL (u8 l) = true := by
  induction l with
  | nil => rfl
  | cons x l ih => simp [Qjz, isTL, isT, ih]
end Go.Am

namespace Go.Am
open Go.RowKit

def Jj (b : Int) : Int := if b = 8 then 128 else if b = 16 then 32768 else if b = 24 then 8388608 else 0

theorem Z9 (b : Int) : (b = 8 ∧ Jj b = 128) ∨ (b = 16 ∧ Jj b = 32768) ∨ (b = 24 ∧ Jj b = 8388608) ∨ (b ≠ 8 ∧ b ≠ 16 ∧ b ≠ 24 ∧ Jj b = 0) := by
  unfold Jj; split <;> (try split) <;> (try split) <;> omega

def J3 (b : Int) : AV := if Jj b = 0 then .tup [.int .i32 0, .int .i32 0, .int .i64 2] else .tup [.int .i32 (-Jj b), .int .i32 (Jj b - 1), .int .i64 0]

def Qhf (P : Prg) (f : Nat) : Prop := ∀ b : Int, VC P f [.int .i64 b] (J3 b)

theorem Qjj {P : Prg} {f : Nat} (b : Qm P f 18 [.tmp 2, .tmp 3, .tmp 4] Zl) : Qhf P f := by
  intro x
  refine VC.of_acall rfl (by unfold J3; split <;> rfl) (ACall.of_body b (by simp) ?_)
  rcases Z9 x with ⟨rfl, h⟩ | ⟨rfl, h⟩ | ⟨rfl, h⟩ | ⟨h1, h2, h3, h⟩
  · simp (maxSteps := 4000000) (disch := omega) only [rr, aop, cV, cV1, AV.one, Qb, okW, Qd, app, Qa, Qc, Qe, Qf, Qg, simprocAttr, Zl, J3, h]
    rfl
  · simp (maxSteps := 4000000) (disch := omega) only [rr, aop, cV, cV1, AV.one, Qb, okW, Qd, app, Qa, Qc, Qe, Qf, Qg, simprocAttr, Zl, J3, h]
    rfl
  · simp (maxSteps := 4000000) (disch := omega) only [rr, aop, cV, cV1, AV.one, Qb, okW, Qd, app, Qa, Qc, Qe, Qf, Qg, simprocAttr, Zl, J3, h]
    rfl
  · simp (maxSteps := 4000000) (disch := omega) only [rr, aop, cV, cV1, AV.one, Qb, okW, Qd, app, Qa, Qc, Qe, Qf, Qg, simprocAttr, Zl, J3, h]

end Go.Am

namespace Go.Am
open Go.RowKit

def il (l : List Int) : AV := .list l.length (ks .i32 l)
theorem Q4 (l : List Int) : isD (il l) = true := by simp [il, isD, QT]

def inR (b x : Int) : Bool := decide (-Jj b ≤ x) && decide (x < Jj b)
def QJ (b : Int) (l : List Int) : Int := if Jj b = 0 then 2 else if 4000 < l.length then 4 else if l.all (inR b) then 0 else 16
def I32 (l : List Int) : Prop := ∀ x ∈ l, -2147483648 ≤ x ∧ x ≤ 2147483647
def QaG (P : Prg) (f : Nat) : Prop := ∀ (b : Int) (l : List Int), I32 l → VC P f [.int .i64 b, il l] (.int .i64 (QJ b l))

theorem QcA {l : List Int} {k : Nat} (h : k < l.length) {p : Int → Bool} : (l.take (k + 1)).all p = ((l.take k).all p && p l[k]) := by
  rw [List.take_succ_eq_append_getElem h, List.all_append]; simp

theorem Qfp {l : List Int} {k : Nat} (h : k < l.length) {p : Int → Bool} (hp : p l[k] = false) : l.all p = false := by
  rw [List.all_eq_false]
  exact ⟨l[k], List.getElem_mem h, by simp [hp]⟩

set_option maxRecDepth 10000 in
theorem Qjk {P : Prg} {f fR : Nat} (b : Qm P f 37 [.tmp 4] (JO fR)) (hR : Qhf P fR) : QaG P f := by
  intro x l hl
  refine VC.of_acall (by simp [isDL, isD, Q4]) rfl (ACall.of_body b (by simp) ?_)
  simp (maxSteps := 4000000) (disch := omega) only [rr, aop, cV, cV1, AV.one, Qb, okW, Qd, app, Qa, Qc, Qe, Qf, Qg, simprocAttr, JO]
  refine Qh.vc (hR x) ?_
  by_cases h0 : Jj x = 0
  · simp (maxSteps := 4000000) (disch := omega) only [rr, aop, cV, cV1, AV.one, Qb, okW, Qd, app, Qa, Qc, Qe, Qf, Qg, simprocAttr, J3, QJ, h0]
  have h3 : Jj x = 128 ∨ Jj x = 32768 ∨ Jj x = 8388608 := by rcases Z9 x with h | h | h | h <;> omega
  by_cases h1 : 4000 < l.length
  · simp (maxSteps := 4000000) (disch := omega) only [rr, aop, cV, cV1, AV.one, Qb, okW, Qd, app, Qa, Qc, Qe, Qf, Qg, simprocAttr, J3, QJ, h0, il, h1]
  simp (maxSteps := 4000000) (disch := omega) only [rr, aop, cV, cV1, AV.one, Qb, okW, Qd, app, Qa, Qc, Qe, Qf, Qg, simprocAttr, J3, il, if_neg h0]
  refine QV.by (ι := Nat) (fun k => ⟨[(24, .int .i64 k), (23, .int .i64 l.length), (22, il l), (6, .int .i32 (Jj x - 1)), (5, .int .i32 (-Jj x))], []⟩) (fun k => k ≤ l.length ∧ (l.take k).all (inR x) = true) (fun k => l.length - k) 0 (Le.slots (by simp [Am.look, il])) ⟨by omega, by simp⟩ ?_
  intro k ⟨hk, hg⟩
  by_cases hlt : k < l.length
  · by_cases hp : -Jj x ≤ l[k] ∧ l[k] < Jj x
    · have hs := QcA hlt (p := inR x)
      simp (maxSteps := 4000000) (disch := omega) only [rr, aop, cV, cV1, AV.one, Qb, okW, Qd, app, Qa, Qc, Qe, Qf, Qg, simprocAttr, il, Qap, hlt]
      exact ⟨k + 1, ⟨by omega, by rw [hs, hg]; simp [inR, hp]⟩, by omega, Le.slots (by simp [Am.look, il])⟩
    · have e : QJ x l = 16 := by simp [QJ, h0, h1, Qfp hlt (p := inR x) (by simp [inR]; omega)]
      by_cases hq : l[k] < -Jj x
      · simp (maxSteps := 4000000) (disch := omega) only [rr, aop, cV, cV1, AV.one, Qb, okW, Qd, app, Qa, Qc, Qe, Qf, Qg, simprocAttr, il, Qap, hlt, e]
      · simp (maxSteps := 4000000) (disch := omega) only [rr, aop, cV, cV1, AV.one, Qb, okW, Qd, app, Qa, Qc, Qe, Qf, Qg, simprocAttr, il, Qap, hlt, e]
  · have e2 : k = l.length := by omega
    subst e2
    rw [List.take_length] at hg
    simp (maxSteps := 4000000) (disch := omega) only [rr, aop, cV, cV1, AV.one, Qb, okW, Qd, app, Qa, Qc, Qe, Qf, Qg, simprocAttr, il, QJ, h0, h1, hg]

def QlR (P : Prg) (f : Nat) : Prop := ∀ x : Int, VC P f [.int .i64 x] (.int .i64 (Jj x))

theorem Qmj {P : Prg} {f : Nat} (b : Qm P f 10 [.tmp 2] ZM) : QlR P f := by
  intro x
  refine VC.of_acall rfl rfl (ACall.of_body b (by simp) ?_)
  rcases Z9 x with ⟨rfl, h⟩ | ⟨rfl, h⟩ | ⟨rfl, h⟩ | ⟨h1, h2, h3, h⟩ <;> simp (maxSteps := 4000000) (disch := omega) only [rr, aop, cV, cV1, AV.one, Qb, okW, Qd, app, Qa, Qc, Qe, Qf, Qg, simprocAttr, ZM, h]

set_option maxRecDepth 10000 in
theorem QjX {P : Prg} {f fH : Nat} (b : Qm P f 37 [.tmp 4] (ZD fH)) (hH : QlR P fH) : QaG P f := by
  intro x l hl
  refine VC.of_acall (by simp [isDL, isD, Q4]) rfl (ACall.of_body b (by simp) ?_)
  simp (maxSteps := 4000000) (disch := omega) only [rr, aop, cV, cV1, AV.one, Qb, okW, Qd, app, Qa, Qc, Qe, Qf, Qg, simprocAttr, ZD]
  refine Qh.vc (hH x) ?_
  by_cases h0 : Jj x = 0
  · simp (maxSteps := 4000000) (disch := omega) only [rr, aop, cV, cV1, AV.one, Qb, okW, Qd, app, Qa, Qc, Qe, Qf, Qg, simprocAttr, QJ, h0]
  have h3 : Jj x = 128 ∨ Jj x = 32768 ∨ Jj x = 8388608 := by rcases Z9 x with h | h | h | h <;> omega
  by_cases h1 : 4000 < l.length
  · simp (maxSteps := 4000000) (disch := omega) only [rr, aop, cV, cV1, AV.one, Qb, okW, Qd, app, Qa, Qc, Qe, Qf, Qg, simprocAttr, QJ, h0, il, h1]
  simp (maxSteps := 4000000) (disch := omega) only [rr, aop, cV, cV1, AV.one, Qb, okW, Qd, app, Qa, Qc, Qe, Qf, Qg, simprocAttr, il]
  refine QV.by (ι := Nat) (fun k => ⟨[(6, .int .i64 k), (1, il l), (5, .int .i64 (Jj x))], []⟩) (fun k => k ≤ l.length ∧ (l.take k).all (inR x) = true) (fun k => l.length - k) 0 (Le.slots (by simp [Am.look, il])) ⟨by omega, by simp⟩ ?_
  intro k ⟨hk, hg⟩
  by_cases hlt : k < l.length
  · have hb := hl _ (List.getElem_mem hlt)
    by_cases hp : -Jj x ≤ l[k] ∧ l[k] < Jj x
    · have hs := QcA hlt (p := inR x)
      simp (maxSteps := 4000000) (disch := omega) only [rr, aop, cV, cV1, AV.one, Qb, okW, Qd, app, Qa, Qc, Qe, Qf, Qg, simprocAttr, il, Qap, hlt]
      exact ⟨k + 1, ⟨by omega, by rw [hs, hg]; simp [inR, hp]⟩, by omega, Le.slots (by simp [Am.look, il])⟩
    · have e : QJ x l = 16 := by simp [QJ, h0, h1, Qfp hlt (p := inR x) (by simp [inR]; omega)]
      by_cases hq : l[k] < -Jj x
      · simp (maxSteps := 4000000) (disch := omega) only [rr, aop, cV, cV1, AV.one, Qb, okW, Qd, app, Qa, Qc, Qe, Qf, Qg, simprocAttr, il, Qap, hlt, e]
      · simp (maxSteps := 4000000) (disch := omega) only [rr, aop, cV, cV1, AV.one, Qb, okW, Qd, app, Qa, Qc, Qe, Qf, Qg, simprocAttr, il, Qap, hlt, e]
  · have e2 : k = l.length := by omega
    subst e2
    rw [List.take_length] at hg
    simp (maxSteps := 4000000) (disch := omega) only [rr, aop, cV, cV1, AV.one, Qb, okW, Qd, app, Qa, Qc, Qe, Qf, Qg, simprocAttr, il, QJ, h0, h1, hg]

theorem QiE {n : Nat} {c : Int} (h : 1 ≤ c) : 0 ≤ (n : Int) / c ∧ (n : Int) / c ≤ n :=
  ⟨Int.ediv_nonneg (by omega) (by omega), Int.ediv_le_self _ (by omega)⟩

theorem J5 {n : Nat} {c : Int} (h : 1 ≤ c) : 0 ≤ (n : Int) % c ∧ (n : Int) % c < c := ⟨Int.emod_nonneg _ (by omega), Int.emod_lt_of_pos _ (by omega)⟩

end Go.Am

namespace Go.Am
open Go.RowKit

def Qy (r : Int) : Int := if 256 * r / 245 < 1 then 1 else 256 * r / 245
theorem ZO (r : Int) : 1 ≤ Qy r := by unfold Qy; split <;> omega
theorem Qly {r : Int} (h : r ≤ 1048576) : Qy r ≤ 1095654 := by unfold Qy; split <;> omega
def QaL (r : Int) : AV := if r < 1 ∨ 1048576 < r then .tup [.int .i64 0, .int .i64 2] else .tup [.int .i64 (Qy r), .int .i64 0]
def QaH (P : Prg) (f : Nat) : Prop := ∀ r : Int, VC P f [.int .i64 r] (QaL r)

theorem QlA (r : Int) : isD (QaL r) = true := by unfold QaL; split <;> rfl

theorem Qid {P : Prg} {f : Nat} (b : Qm P f 14 [.tmp 2, .tmp 3] Zw) : QaH P f := by
  intro r
  refine VC.of_acall rfl (QlA r) (ACall.of_body b (by simp) ?_)
  by_cases h1 : r < 1
  · simp (maxSteps := 4000000) (disch := omega) only [rr, aop, cV, cV1, AV.one, Qb, okW, Qd, app, Qa, Qc, Qe, Qf, Qg, simprocAttr, Zw, QaL, true_or]
  by_cases h2 : 1048576 < r
  · simp (maxSteps := 4000000) (disch := omega) only [rr, aop, cV, cV1, AV.one, Qb, okW, Qd, app, Qa, Qc, Qe, Qf, Qg, simprocAttr, Zw, QaL, or_true]
  have h3 : 1 ≤ 256 * r / 245 := by omega
  simp (maxSteps := 4000000) (disch := omega) only [rr, aop, cV, cV1, AV.one, Qb, okW, Qd, app, Qa, Qc, Qe, Qf, Qg, simprocAttr, Zw, QaL, or_self, Qy]
  rw [show (if (1 : Int) < 256 * r / 245 then 256 * r / 245 else 1) = 256 * r / 245 by split <;> omega]

theorem Qmi {P : Prg} {f : Nat} (b : Qm P f 17 [.tmp 2, .tmp 3] QL) : QaH P f := by
  intro r
  refine VC.of_acall rfl (QlA r) (ACall.of_body b (by simp) ?_)
  by_cases h1 : r < 1
  · simp (maxSteps := 4000000) (disch := omega) only [rr, aop, cV, cV1, AV.one, Qb, okW, Qd, app, Qa, Qc, Qe, Qf, Qg, simprocAttr, QL, QaL, true_or]
  by_cases h2 : 1048576 < r
  · simp (maxSteps := 4000000) (disch := omega) only [rr, aop, cV, cV1, AV.one, Qb, okW, Qd, app, Qa, Qc, Qe, Qf, Qg, simprocAttr, QL, QaL, or_true]
  have e : r * 256 / 245 = 256 * r / 245 := by rw [Int.mul_comm]
  have h3 : 1 ≤ 256 * r / 245 := by omega
  simp (maxSteps := 4000000) (disch := omega) only [rr, aop, cV, cV1, AV.one, Qb, okW, Qd, app, Qa, Qc, Qe, Qf, Qg, simprocAttr, QL, QaL, or_self, Qy, e]

def Q8 (c b : Int) : Int := if Jj b = 0 ∨ c < 1 ∨ 6 < c then 2 else 0
def shA (c b : Int) : AV := .agg [.int .i64 c, .int .i64 b]
def JH (P : Prg) (f : Nat) : Prop := ∀ c b : Int, VC P f [shA c b] (.int .i64 (Q8 c b))

theorem Qgs {P : Prg} {f fR t0 : Nat} (b : Qm P f 25 [.tmp 2] (XR fR t0)) (hR : Qhf P fR) : JH P f := by
  intro c x
  refine VC.of_acall rfl rfl (ACall.of_body b (by simp) ?_)
  simp (maxSteps := 4000000) (disch := omega) only [rr, aop, cV, cV1, AV.one, Qb, okW, Qd, app, Qa, Qc, Qe, Qf, Qg, simprocAttr, XR, shA]
  refine Qh.vc (hR x) ?_
  by_cases h0 : Jj x = 0
  · simp (maxSteps := 4000000) (disch := omega) only [rr, aop, cV, cV1, AV.one, Qb, okW, Qd, app, Qa, Qc, Qe, Qf, Qg, simprocAttr, J3, h0, Q8, true_or]
  by_cases h1 : c < 1
  · simp (maxSteps := 4000000) (disch := omega) only [rr, aop, cV, cV1, AV.one, Qb, okW, Qd, app, Qa, Qc, Qe, Qf, Qg, simprocAttr, J3, if_neg h0, Q8, h0, or_true, true_or]
  by_cases h2 : 6 < c
  · simp (maxSteps := 4000000) (disch := omega) only [rr, aop, cV, cV1, AV.one, Qb, okW, Qd, app, Qa, Qc, Qe, Qf, Qg, simprocAttr, J3, if_neg h0, Q8, h0, or_true]
  · simp (maxSteps := 4000000) (disch := omega) only [rr, aop, cV, cV1, AV.one, Qb, okW, Qd, app, Qa, Qc, Qe, Qf, Qg, simprocAttr, J3, if_neg h0, Q8, h0, or_self]

theorem QjV {P : Prg} {f fH t0 : Nat} (b : Qm P f 17 [.tmp 2] (QH fH t0)) (hH : QlR P fH) : JH P f := by
  intro c x
  refine VC.of_acall rfl rfl (ACall.of_body b (by simp) ?_)
  have hx := Z9 x
  by_cases h1 : c < 1
  · simp (maxSteps := 4000000) (disch := omega) only [rr, aop, cV, cV1, AV.one, Qb, okW, Qd, app, Qa, Qc, Qe, Qf, Qg, simprocAttr, QH, shA, Q8, or_true, true_or]
  by_cases h2 : 6 < c
  · simp (maxSteps := 4000000) (disch := omega) only [rr, aop, cV, cV1, AV.one, Qb, okW, Qd, app, Qa, Qc, Qe, Qf, Qg, simprocAttr, QH, shA, Q8, or_true]
  simp (maxSteps := 4000000) (disch := omega) only [rr, aop, cV, cV1, AV.one, Qb, okW, Qd, app, Qa, Qc, Qe, Qf, Qg, simprocAttr, QH, shA]
  refine Qh.vc (hH x) ?_
  by_cases h0 : Jj x = 0
  · simp (maxSteps := 4000000) (disch := omega) only [rr, aop, cV, cV1, AV.one, Qb, okW, Qd, app, Qa, Qc, Qe, Qf, Qg, simprocAttr, h0, Q8, true_or]
  · simp (maxSteps := 4000000) (disch := omega) only [rr, aop, cV, cV1, AV.one, Qb, okW, Qd, app, Qa, Qc, Qe, Qf, Qg, simprocAttr, h0, Q8, or_self]
end Go.Am

namespace Go.Am
open Go.RowKit

structure Enc where
  ch : Int
  bits : Int
  rate : Int
  pw : List UInt8
  rest : List UInt8
  smp : List Int
  frs : List (List UInt8)
  out : List UInt8
  done : Bool
  err : Int

def bss (l : List (List UInt8)) : AV := .list l.length (l.map bs)
def QtK (e : Enc) : List AV := [.int .i64 e.ch, .int .i64 e.bits, .int .i64 e.rate, .str e.pw, bs e.rest, il e.smp, bss e.frs, bs e.out, .bool e.done, .int .i64 e.err]
theorem Qcq : ∀ l : List (List UInt8), isDL (l.map bs) = true
  | [] => rfl
  | x :: l => by simp [isDL, Zu, Qcq l]
theorem Qj8 (l : List (List UInt8)) : isD (bss l) = true := by simp [bss, isD, Qcq]
end Go.Am

namespace Go.Am
open Go.RowKit

/-! ### slices.IndexFunc, slices.ContainsFunc at elements of one cell -/

theorem QdE : ∀ l : List (List UInt8), isTL (l.map bs) = true
  | [] => rfl
  | x :: l => by
    have : isT (bs x) = true := by simp [bs, isT]; induction x with | nil => rfl | cons y x ih => simp [Qjz, isTL, isT, ih]
    simp [isTL, this, QdE l]

/-! ### feeding -/

end Go.Am

namespace Go.Am
open Go.RowKit

theorem Qao {α : Type} (f : α → AV) : ∀ l : List α, (l.map fun x => [f x]).flatten = l.map f
  | [] => rfl
  | x :: l => by simp [Qao f l]

theorem Qgq {L : List (List AV)} (h : ∀ c ∈ L, QaI (.int .u8) c) : ∃ l : List UInt8, L.length = l.length ∧ AV.list L.length L.flatten = bs l := by
  obtain ⟨l, rfl, _⟩ := Qbf (f := fun b : UInt8 => [AV.int .u8 b.toNat]) (q := fun _ => True) h (fun c hc => by
    simp only [QaI] at hc
    obtain ⟨n, rfl, h1, h2⟩ := hc
    simp only [IntKind.min, IntKind.max, IntKind.signed, IntKind.bits] at h1 h2
    refine ⟨UInt8.ofNat n.toNat, ?_, trivial⟩
    simp at h1 h2
    simp; omega)
  exact ⟨l, by simp, by simp [bs, u8, Qao]⟩

theorem Qot {K : IntKind} {L : List (List AV)} (h : ∀ c ∈ L, QaI (.int K) c) : ∃ l : List Int, L.length = l.length ∧ AV.list L.length L.flatten = .list l.length (ks K l) ∧ ∀ x ∈ l, K.min ≤ x ∧ x ≤ K.max := by
  obtain ⟨l, rfl, h2⟩ := Qbf (f := fun n : Int => [AV.int K n]) (q := fun x => K.min ≤ x ∧ x ≤ K.max) h (fun c hc => by
    simp only [QaI] at hc
    obtain ⟨n, rfl, h1, h2⟩ := hc
    exact ⟨n, rfl, h1, h2⟩)
  exact ⟨l, by simp, by simp [ks, Qao], h2⟩

def QsH (P : Program) (t : TypeId) : Bool := match P.underlying t with | some (.struct _) => true | _ => false
def QsI (P : Program) (t : TypeId) : Bool := match P.underlying t with | some (.array _ _) => true | _ => false
def QtJ (P : Program) (t : TypeId) : Bool := match P.underlying t with | some (.slice _) => true | _ => false
theorem Qqi {P : Program} {t : TypeId} (h : QsH P t = true) : ∃ fs, P.underlying t = some (.struct fs) := by
  unfold QsH at h; split at h
  · exact ⟨_, by assumption⟩
  · cases h
theorem Qtc {P : Program} {t : TypeId} (h : QsI P t = true) : ∃ n e, P.underlying t = some (.array n e) := by
  unfold QsI at h; split at h
  · exact ⟨_, _, by assumption⟩
  · cases h
theorem Qtv {P : Program} {t : TypeId} (h : QtJ P t = true) : ∃ e, P.underlying t = some (.slice e) := by
  unfold QtJ at h; split at h
  · exact ⟨_, by assumption⟩
  · cases h

end Go.Am

namespace Go.Am
open Go.RowKit

theorem Qiu {L : List (List AV)} (h : ∀ c ∈ L, QaI (.int .i32) c) : ∃ l : List Int, L.length = l.length ∧ AV.list L.length L.flatten = il l ∧ I32 l := by
  obtain ⟨l, h1, h2, h3⟩ := Qot h
  exact ⟨l, h1, h2, fun x hx => by have := h3 x hx; simpa [IntKind.min, IntKind.max, IntKind.signed, IntKind.bits] using this⟩

theorem Qqt {L : List (List AV)} (h : ∀ c ∈ L, QaI (.slice (.int .u8)) c) : ∃ l : List (List UInt8), L.length = l.length ∧ AV.list L.length L.flatten = bss l ∧ ∀ x ∈ l, x.length ≤ maxLen := by
  obtain ⟨l, rfl, h2⟩ := Qbf (f := fun b : List UInt8 => [bs b]) (q := fun x => x.length ≤ maxLen) h (fun c hc => by
    simp only [QaI] at hc
    obtain ⟨L', rfl, h1, h2⟩ := hc
    obtain ⟨l, h3, h4⟩ := Qgq h2
    exact ⟨l, by rw [h4], by omega⟩)
  exact ⟨l, by simp, by simp [bss, Qao], h2⟩

def Qtn : Sh := .tuple [.int .i64, .int .i64]
def QsQ : Sh := .tuple [Qtn, .int .i64, .str, .slice (.int .u8), .slice (.int .i32), .slice (.slice (.int .u8)), .slice (.int .u8), .bool, .int .i64]

theorem Qms {cs0 : List AV} (h : QaI Qtn cs0) : ∃ c b : Int, cs0 = [.int .i64 c, .int .i64 b] := by
  simp only [Qtn, QaI, FitsL] at h
  obtain ⟨_, _, rfl, ⟨c, rfl, _⟩, _, _, rfl, ⟨b, rfl, _⟩, rfl⟩ := h
  exact ⟨c, b, rfl⟩

theorem Qtf {cs0 : List AV} (h : QaI QsQ cs0) : ∃ e : Enc, cs0 = QtK e ∧ I32 e.smp := by
  simp only [QsQ, QaI, FitsL] at h
  obtain ⟨_, _, rfl, h1, _, _, rfl, ⟨r, rfl, _⟩, _, _, rfl, ⟨p, rfl, _⟩, _, _, rfl, ⟨L1, rfl, _, h2⟩, _, _, rfl, ⟨L2, rfl, _, h3⟩, _, _, rfl, ⟨L3, rfl, _, h4⟩, _, _, rfl, ⟨L4, rfl, _, h5⟩, _, _, rfl, ⟨d, rfl⟩, _, _, rfl, ⟨x, rfl, _⟩, rfl⟩ := h
  obtain ⟨c, b, rfl⟩ := Qms h1
  obtain ⟨l1, _, e1⟩ := Qgq (L := L1) (fun c hc => by simp only [QaI]; exact h2 c hc)
  obtain ⟨l2, _, e2, hi⟩ := Qiu (L := L2) (fun c hc => by simp only [QaI]; exact h3 c hc)
  obtain ⟨l3, _, e3, _⟩ := Qqt (L := L3) (fun c hc => by simp only [QaI]; exact h4 c hc)
  obtain ⟨l4, _, e4⟩ := Qgq (L := L4) (fun c hc => by simp only [QaI]; exact h5 c hc)
  exact ⟨⟨c, b, r, p, l1, l2, l3, l4, d, x⟩, by simp [QtK, e1, e2, e3, e4], hi⟩
end Go.Am

namespace Go.Am
open Go.RowKit

def w32 (x : Int) : Int := IntKind.i32.wrap x
theorem QqL (x : Int) : w32 x = (x + 2147483648) % 4294967296 - 2147483648 := by
  simp [w32, IntKind.wrap, IntKind.bits, IntKind.signed]; split <;> omega
theorem Qrd (a b : Int) : w32 (w32 a + w32 b) = w32 (a + b) := by simp only [QqL]; omega
theorem Qm9 {a : Int} (h1 : -2147483648 ≤ a) (h2 : a ≤ 2147483647) : w32 a = a := Qld h1 h2
theorem QbL (a : Int) : -2147483648 ≤ w32 a ∧ w32 a ≤ 2147483647 := by simp only [QqL]; omega
theorem Qag (x : Int) : IntKind.i32.wrap x = w32 x := rfl

theorem Xx {l : List Int} (h : I32 l) (k : Nat) : -2147483648 ≤ l.getD k 0 ∧ l.getD k 0 ≤ 2147483647 := by
  rw [List.getD_eq_getElem?_getD]
  cases hk : l[k]? with
  | none => simp
  | some v => exact h v (List.mem_of_getElem? hk)

theorem QqV {K : IntKind} {l : List Int} {k : Nat} (h : k < l.length) : (ks K l)[k]? = some (.int K (l.getD k 0)) := by
  simp [ks, List.getD_eq_getElem?_getD, List.getElem?_eq_getElem h]

structure XV where
  sh : Int
  tp : List Int
  ps : List Int

def Qq (f : XV) : List AV := .int .i64 f.sh :: (ks .i32 f.tp ++ ks .i32 f.ps)
def QaY (f : XV) : Prop := f.tp.length = 16 ∧ f.ps.length = 16 ∧ I32 f.tp ∧ I32 f.ps

theorem Q1 {f : XV} (h : QaY f) : (Qq f).length = 33 := by
  obtain ⟨h1, h2, _⟩ := h
  simp [Qq, Ql, h1, h2]
theorem Q6 (f : XV) : (Qq f).all AV.one = true := by
  simp only [Qq, List.all_cons, List.all_append, J7]; rfl
theorem Zk (f : XV) : isDL (Qq f) = true := by
  have : ∀ a b, isDL (ks .i32 a ++ ks .i32 b) = true := fun a b => by rw [Qif]; exact QT _ _
  simp [Qq, isDL, isD, this]
theorem Qiv {f : XV} (h : QaY f) : ((Qq f).drop 1).take 16 = ks .i32 f.tp := by
  obtain ⟨h1, h2, _⟩ := h
  simp only [Qq, List.drop_succ_cons, List.drop_zero]
  rw [List.take_left' (by simp [Ql, h1])]
theorem Qfx {f : XV} (h : QaY f) : ((Qq f).drop 17).take 16 = ks .i32 f.ps := by
  obtain ⟨h1, h2, _⟩ := h
  simp only [Qq, List.drop_succ_cons]
  rw [List.drop_left' (by simp [Ql, h1]), List.take_of_length_le (by simp [Ql, h2])]
theorem Qqu {f : XV} (h : QaY f) {k : Nat} (hk : k < 16) : (Qq f).drop (1 + k) = .int .i32 (f.tp.getD k 0) :: ((ks .i32 f.tp).drop (k + 1) ++ ks .i32 f.ps) := by
  obtain ⟨h1, h2, _⟩ := h
  rw [Nat.add_comm]
  simp only [Qq, List.drop_succ_cons]
  rw [List.drop_append_of_le_length (by simp [Ql, h1]; omega), Qap (by omega), ← JL]
  simp [List.getD_eq_getElem?_getD, List.getElem?_eq_getElem (show k < f.tp.length by omega)]
theorem Qow {f : XV} (h : QaY f) {k : Nat} (hk : k < 16) : (Qq f).drop (17 + k) = .int .i32 (f.ps.getD k 0) :: (ks .i32 f.ps).drop (k + 1) := by
  obtain ⟨h1, h2, _⟩ := h
  rw [show 17 + k = (16 + k) + 1 by omega]
  simp only [Qq, List.drop_succ_cons]
  rw [← List.drop_drop, List.drop_left' (by simp [Ql, h1]), Qap (by omega), ← JL]
  simp [List.getD_eq_getElem?_getD, List.getElem?_eq_getElem (show k < f.ps.length by omega)]
theorem Qkj {f : XV} (h : QaY f) {k : Nat} (hk : k < 16) (v : Int) : (Qq f).take (1 + k) ++ [.int .i32 v] ++ (Qq f).drop (1 + k + 1) = Qq { f with tp := f.tp.set k v } := by
  obtain ⟨h1, h2, _⟩ := h
  rw [Nat.add_comm 1 k]
  simp only [Qq, List.take_succ_cons, List.drop_succ_cons, List.cons_append]
  congr 1
  rw [List.take_append_of_le_length (by simp [Ql, h1]; omega), List.drop_append_of_le_length (by simp [Ql, h1]; omega), ← List.append_assoc]
  congr 1
  rw [List.set_eq_take_append_cons_drop, if_pos (by omega)]
  simp [ks]
theorem Qiw {f : XV} (h : QaY f) {k : Nat} (hk : k < 16) (v : Int) : (Qq f).take (17 + k) ++ [.int .i32 v] ++ (Qq f).drop (17 + k + 1) = Qq { f with ps := f.ps.set k v } := by
  obtain ⟨h1, h2, _⟩ := h
  rw [show 17 + k = (16 + k) + 1 by omega]
  simp only [Qq, List.take_succ_cons, List.drop_succ_cons, List.cons_append]
  congr 1
  have e : (ks .i32 f.tp).length = 16 := by simp [Ql, h1]
  rw [List.take_append, List.take_of_length_le (by omega), e, show 16 + k + 1 = 16 + (k + 1) by omega, ← List.drop_drop, List.drop_left' e, show 16 + k - 16 = k by omega, List.append_assoc, List.append_assoc]
  congr 1
  rw [List.set_eq_take_append_cons_drop, if_pos (by omega)]
  simp [ks]

theorem Qz {α : Type} {l : List α} {n : Nat} (h : l.length ≤ n) : l.take n = l := List.take_of_length_le h

/-! ### taps.New, taps.Check -/

def Qai (b : Int) : Int := if b = 16 then 9 else 10
def z16 : List Int := List.replicate 16 0
def Qgg (b : Int) (t : List Int) : XV := ⟨Qai b, t, z16⟩
def Qhu : XV := ⟨0, z16, z16⟩
def QeR (b : Int) (t : List Int) : AV := if Jj b = 0 then .tup [.agg (Qq Qhu), .int .i64 2] else .tup [.agg (Qq (Qgg b t)), .int .i64 0]
def QlP (P : Prg) (f : Nat) : Prop := ∀ (b : Int) (t : List Int), t.length = 16 → VC P f [.int .i64 b, .agg (ks .i32 t)] (QeR b t)

theorem Qqk (b : Int) (t : List Int) : isD (QeR b t) = true := by
  unfold QeR; split <;> simp [isD, isDL, Zk]
theorem Qa8 : Qq Qhu = [.int .i64 0, .int .i32 0, .int .i32 0, .int .i32 0, .int .i32 0, .int .i32 0, .int .i32 0, .int .i32 0, .int .i32 0, .int .i32 0, .int .i32 0, .int .i32 0, .int .i32 0, .int .i32 0, .int .i32 0, .int .i32 0, .int .i32 0, .int .i32 0, .int .i32 0, .int .i32 0, .int .i32 0, .int .i32 0, .int .i32 0, .int .i32 0, .int .i32 0, .int .i32 0, .int .i32 0, .int .i32 0, .int .i32 0, .int .i32 0, .int .i32 0, .int .i32 0, .int .i32 0] := rfl

theorem QpC {P : Prg} {f t0 t1 : Nat} (b : Qm P f 18 [.cell 4 t1, .tmp 5] (Xt t0 t1)) (ht : Xb P t1 = some (some 33)) : QlP P f := by
  intro x t hl
  have hk : (ks .i32 t).length = 16 := by simp [Ql, hl]
  have h1 := J7 .i32 t
  have tk16 : (ks .i32 t).take 16 = ks .i32 t := Qz (by omega)
  refine VC.of_acall (by simp [isDL, isD, QT]) (Qqk _ _) (ACall.of_body b (by simp) ?_)
  have fin : ∀ s : Int, .int .i64 s :: (ks .i32 t ++ [.int .i32 0, .int .i32 0, .int .i32 0, .int .i32 0, .int .i32 0, .int .i32 0, .int .i32 0, .int .i32 0, .int .i32 0, .int .i32 0, .int .i32 0, .int .i32 0, .int .i32 0, .int .i32 0, .int .i32 0, .int .i32 0]) = Qq ⟨s, t, z16⟩ := fun _ => rfl
  have hl33 : ∀ s : Int, (Qq ⟨s, t, z16⟩).length = 33 := fun s => by simp [Qq, Ql, hl, z16]
  have ho := fun s => Q6 ⟨s, t, z16⟩
  have tk : ∀ s : Int, (Qq ⟨s, t, z16⟩).take 33 = Qq ⟨s, t, z16⟩ := fun s => Qz (by rw [hl33]; omega)
  have st9 : ([] : List AV) ++ [.int .i64 9] ++ (Qq ⟨10, t, z16⟩).drop 1 = Qq ⟨9, t, z16⟩ := rfl
  have d9 : AV.int .i64 9 :: (Qq ⟨10, t, z16⟩).drop 1 = Qq ⟨9, t, z16⟩ := rfl
  rcases Z9 x with ⟨rfl, h⟩ | ⟨rfl, h⟩ | ⟨rfl, h⟩ | ⟨h2, h3, h4, h⟩
  · simp (maxSteps := 4000000) (disch := omega) only [rr, aop, cV, cV1, AV.one, Qb, okW, Qd, app, Qa, Qc, Qe, Qf, Qg, simprocAttr, Xt, QeR, h, hk, h1, tk16, fin, hl33, ho, tk, Z1, ht, Qgg, Qai]
  · simp (maxSteps := 4000000) (disch := omega) only [rr, aop, cV, cV1, AV.one, Qb, okW, Qd, app, Qa, Qc, Qe, Qf, Qg, simprocAttr, Xt, QeR, h, hk, h1, tk16, fin, hl33, ho, tk, Z1, ht, Qgg, Qai, d9]
  · simp (maxSteps := 4000000) (disch := omega) only [rr, aop, cV, cV1, AV.one, Qb, okW, Qd, app, Qa, Qc, Qe, Qf, Qg, simprocAttr, Xt, QeR, h, hk, h1, tk16, fin, hl33, ho, tk, Z1, ht, Qgg, Qai]
  · simp (maxSteps := 4000000) (disch := omega) only [rr, aop, cV, cV1, AV.one, Qb, okW, Qd, app, Qa, Qc, Qe, Qf, Qg, simprocAttr, Xt, QeR, h, hk, h1, tk16, fin, hl33, ho, tk, Z1, ht, Qa8]

def Qpp (s : Int) : Int := if s = 9 ∨ s = 10 then 0 else 8
def QcC (P : Prg) (f : Nat) : Prop := ∀ x : XV, QaY x → VC P f [.agg (Qq x)] (.int .i64 (Qpp x.sh))

theorem Qti : Qpp 9 = 0 := rfl
theorem Qso : Qpp 10 = 0 := rfl

/-! ### taps.Guess -/

def Qq3 (a b : List Int) : Nat → Int
  | 0 => 0
  | k + 1 => Qq3 a b k + a.getD k 0 * b.getD k 0
def Qcj (s : Int) : Int := if s = 9 then 512 else 1024
def Qok (f : XV) : Int := w32 (Qcj f.sh / 2 + Qq3 f.tp f.ps 16) / Qcj f.sh
def Qhc (P : Prg) (f : Nat) : Prop := ∀ x : XV, QaY x → x.sh = 9 ∨ x.sh = 10 → VC P f [.agg (Qq x)] (.tup [.int .i32 (Qok x), .int .i64 0])

theorem Qrv : Qs true .i32 1 8 = some (.int .i32 256) := rfl
theorem Qru : Qs true .i32 1 9 = some (.int .i32 512) := rfl
theorem Qrp (s : Int) : Qs false .i32 s 9 = some (.int .i32 (s / 512)) := by
  show some (AV.int .i32 (s.fdiv 512)) = _
  rw [Int.fdiv_eq_ediv_of_nonneg _ (by omega)]
theorem QpQ (s : Int) : Qs false .i32 s 10 = some (.int .i32 (s / 1024)) := by
  show some (AV.int .i32 (s.fdiv 1024)) = _
  rw [Int.fdiv_eq_ediv_of_nonneg _ (by omega)]

theorem Ql3 {P : Prg} {f fC t0 : Nat} (b : Qm P f 36 [.tmp 2, .tmp 3] (Qaw fC t0)) (hC : QcC P fC) : Qhc P f := by
  intro x hx hs
  have l33 := Q1 hx
  have tk : (Qq x).take 33 = Qq x := Qz (by omega)
  have ho := Q6 x
  have e1 := Qiv hx
  have e0 : (Qq x).drop 0 = .int .i64 x.sh :: (ks .i32 x.tp ++ ks .i32 x.ps) := rfl
  have ht : Qpp x.sh = 0 := by simp [Qpp, hs]
  have hl := hx.1
  refine VC.of_acall (by simp [isDL, isD, Zk]) rfl (ACall.of_body b (by simp) ?_)
  simp (maxSteps := 4000000) (disch := omega) only [rr, aop, cV, cV1, AV.one, Qb, okW, Qd, app, Qa, Qc, Qe, Qf, Qg, simprocAttr, Qaw, l33, tk, ho]
  refine Qh.vc (hC x hx) ?_
  rcases hs with h | h
  all_goals
    have z0 : w32 (Qcj x.sh / 2 + Qq3 x.tp x.ps 0) = Qcj x.sh / 2 := by simp only [Qq3, Int.add_zero]; exact Qm9 (by simp [Qcj, h]) (by simp [Qcj, h])
    have z1 : Qcj x.sh = 512 ∧ x.sh = 9 ∨ Qcj x.sh = 1024 ∧ x.sh = 10 := by simp [Qcj, h]
    simp (maxSteps := 4000000) (disch := omega) only [rr, aop, cV, cV1, AV.one, Qb, okW, Qd, app, Qa, Qc, Qe, Qf, Qg, simprocAttr, l33, tk, ho, Qti, Qso, e1, ↓e0, h, Qrv, Qru]
    refine QV.by (ι := Nat) (fun k => ⟨[(19, .int .i64 k), (18, .agg (ks .i32 x.tp)), (5, .int .i32 (w32 (Qcj x.sh / 2 + Qq3 x.tp x.ps k))), (1, .ref 0 1 0)], [⟨t0, 33, 1, Qq x, 0⟩]⟩) (fun k => k ≤ 16) (fun k => 16 - k) 0 (Le.slots (by rw [z0]; simp [Am.look, h, Qcj])) (by omega) ?_
    intro k hk
    by_cases hlt : k < 16
    · have e2 := Qow hx hlt
      have e3 := QqV (K := .i32) (l := x.tp) (k := k) (by omega)
      have e4 : w32 (w32 (Qcj x.sh / 2 + Qq3 x.tp x.ps k) + w32 (x.tp.getD k 0 * x.ps.getD k 0)) = w32 (Qcj x.sh / 2 + Qq3 x.tp x.ps (k + 1)) := by
        rw [Qrd]; simp only [Qq3]; congr 1; omega
      simp (maxSteps := 4000000) (disch := omega) only [rr, aop, cV, cV1, AV.one, Qb, okW, Qd, app, Qa, Qc, Qe, Qf, Qg, simprocAttr, l33, e2, e3, Qag, e4]
      exact ⟨k + 1, by omega, by omega, Le.slots (by simp [Am.look])⟩
    · have e : k = 16 := by omega
      subst e
      simp (maxSteps := 4000000) (disch := omega) only [rr, aop, cV, cV1, AV.one, Qb, okW, Qd, app, Qa, Qc, Qe, Qf, Qg, simprocAttr, ↓e0, h, Qrp, QpQ, Qok, Qcj]
/-! ### taps.Learn, taps.Push -/

theorem Ql4 {P : Prg} {f t0 : Nat} (b : Qm P f 11 [.tmp 2] (Xf t0)) : QcC P f := by
  intro x hx
  have l33 := Q1 hx
  have ho := Q6 x
  have e0 : (Qq x).drop 0 = .int .i64 x.sh :: (ks .i32 x.tp ++ ks .i32 x.ps) := rfl
  refine VC.of_acall (by simp [isDL, isD, Zk]) rfl (ACall.of_body b (by simp) ?_)
  by_cases h9 : x.sh = 9
  · simp (maxSteps := 4000000) (disch := omega) only [rr, aop, cV, cV1, AV.one, Qb, okW, Qd, app, Qa, Qc, Qe, Qf, Qg, simprocAttr, Xf, l33, ho, ↓e0, h9, Qpp]
  by_cases h10 : x.sh = 10
  · simp (maxSteps := 4000000) (disch := omega) only [rr, aop, cV, cV1, AV.one, Qb, okW, Qd, app, Qa, Qc, Qe, Qf, Qg, simprocAttr, Xf, l33, ho, ↓e0, h10, Qpp]
  · simp (maxSteps := 4000000) (disch := omega) only [rr, aop, cV, cV1, AV.one, Qb, okW, Qd, app, Qa, Qc, Qe, Qf, Qg, simprocAttr, Xf, l33, ho, ↓e0, Qpp]

def QjB (i : Nat) : Int := if i = 0 then 4 else if i < 4 then 2 else 1
def QkZ (P : Prg) (f : Nat) : Prop := ∀ i : Nat, VC P f [.int .i64 i] (.int .i32 (QjB i))
theorem Qnp {P : Prg} {f : Nat} (b : Qm P f 9 [.tmp 2] XG) : QkZ P f := by
  intro i
  refine VC.of_acall rfl rfl (ACall.of_body b (by simp) ?_)
  by_cases h0 : i = 0
  · subst h0; simp (maxSteps := 4000000) (disch := omega) only [rr, aop, cV, cV1, AV.one, Qb, okW, Qd, app, Qa, Qc, Qe, Qf, Qg, simprocAttr, XG, QjB, Int.natCast_zero]
  by_cases h1 : i < 4
  · simp (maxSteps := 4000000) (disch := omega) only [rr, aop, cV, cV1, AV.one, Qb, okW, Qd, app, Qa, Qc, Qe, Qf, Qg, simprocAttr, XG, QjB, h0]
  · simp (maxSteps := 4000000) (disch := omega) only [rr, aop, cV, cV1, AV.one, Qb, okW, Qd, app, Qa, Qc, Qe, Qf, Qg, simprocAttr, XG, QjB, h0]

end Go.Am

namespace Go.Am
open Go.RowKit

def sgn (x : Int) : Int := if x < 0 then -1 else if 0 < x then 1 else 0
def QpB (x : XV) (w : Int) (k : Nat) : Int := w32 (x.tp.getD k 0 + QjB k * sgn (x.ps.getD k 0) * sgn w)
def Xp (x : XV) (w : Int) (k : Nat) : List Int := (List.range 16).map fun i => if i < k then QpB x w i else x.tp.getD i 0
def lf (x : XV) (w : Int) (k : Nat) : XV := { x with tp := Xp x w k }
def Jz (x : XV) (w : Int) : XV := lf x w 16

theorem Qmk {l : List Int} (h : l.length = 16) : (List.range 16).map (fun i => l.getD i 0) = l := by
  apply List.ext_getElem (by simp [h])
  intro i h1 h2
  simp [List.getD_eq_getElem?_getD, List.getElem?_eq_getElem h2]
theorem Qoa (x : XV) (w : Int) (k : Nat) : (Xp x w k).length = 16 := by simp [Xp]
theorem Qfr {x : XV} (h : QaY x) (w : Int) : Xp x w 0 = x.tp := by
  have := Qmk h.1
  simpa [Xp] using this
theorem Qmo (x : XV) (w : Int) {k : Nat} (hk : k < 16) : (Xp x w k).getD k 0 = x.tp.getD k 0 := by
  simp [Xp, List.getD_eq_getElem?_getD, hk]
theorem Qn9 (x : XV) (w : Int) {k : Nat} (hk : k < 16) : (Xp x w k).set k (QpB x w k) = Xp x w (k + 1) := by
  apply List.ext_getElem (by simp [Xp])
  intro i h1 h2
  rw [List.getElem_set]
  simp only [Xp, List.getElem_map, List.getElem_range]
  by_cases e : k = i
  · subst e; simp
  · rw [if_neg e]
    by_cases h : i < k
    · rw [if_pos h, if_pos (by omega)]
    · rw [if_neg h, if_neg (by omega)]
theorem Qfs (x : XV) (w : Int) {k : Nat} (h : QpB x w k = x.tp.getD k 0) : Xp x w (k + 1) = Xp x w k := by
  simp only [Xp]
  apply List.map_congr_left
  intro i _
  by_cases e : i = k
  · subst e; simp [h]
  · by_cases h : i < k
    · rw [if_pos h, if_pos (by omega)]
    · rw [if_neg h, if_neg (by omega)]
theorem Qpn {x : XV} (h : QaY x) (w : Int) (k : Nat) : I32 (Xp x w k) := by
  intro v hv
  simp only [Xp, List.mem_map] at hv
  obtain ⟨i, _, rfl⟩ := hv
  split
  · exact QbL _
  · exact Xx h.2.2.1 i
theorem Qib {x : XV} (h : QaY x) (w : Int) (k : Nat) : QaY (lf x w k) := ⟨Qoa x w k, h.2.1, Qpn h w k, h.2.2.2⟩
theorem QdC {x : XV} (h : QaY x) (w : Int) : QaY (Jz x w) := Qib h w 16
theorem Qp9 {x : XV} (h : QaY x) : Jz x 0 = x := by
  have key : ∀ k, Xp x 0 k = x.tp := fun k => by
    induction k with
    | zero => exact Qfr h 0
    | succ k ih =>
      rw [Qfs x 0, ih]
      have := Xx h.2.2.1 k
      simp only [QpB, sgn]
      simp
      exact Qm9 (by simpa using this.1) (by simpa using this.2)
  simp [Jz, lf, key]

def Qhb (P : Prg) (f : Nat) : Prop := ∀ (x : XV) (w : Int), QaY x → x.sh = 9 ∨ x.sh = 10 → VC P f [.agg (Qq x), .int .i32 w] (.tup [.agg (Qq (Jz x w)), .int .i64 0])

theorem Qno {s : Int} (h : s = 9 ∨ s = 10) : Qpp s = 0 := by simp [Qpp, h]

theorem Ql2 {P : Prg} {f fC fS t0 : Nat} (b : Qm P f 53 [.cell 4 t0, .tmp 5] (Qav fC fS t0)) (ht : Xb P t0 = some (some 33)) (hC : QcC P fC) (hS : QkZ P fS) : Qhb P f := by
  intro x w hx hs
  have l33 := Q1 hx
  have tk : (Qq x).take 33 = Qq x := Qz (by omega)
  have ho := Q6 x
  have hc := Qno hs
  have pp := Qfx hx
  have lw := Q1 (QdC hx w)
  have tkw : (Qq (Jz x w)).take 33 = Qq (Jz x w) := Qz (by omega)
  have how := Q6 (Jz x w)
  refine VC.of_acall (by simp [isDL, isD, Zk]) (by simp [isD, isDL, Zk]) (ACall.of_body b (by simp) ?_)
  simp (maxSteps := 4000000) (disch := omega) only [rr, aop, cV, cV1, AV.one, Qb, okW, Qd, app, Qa, Qc, Qe, Qf, Qg, simprocAttr, Qav, l33, tk, ho]
  refine Qh.vc (hC x hx) ?_
  by_cases hw : w = 0
  · subst hw
    have e := Qp9 hx
    simp (maxSteps := 4000000) (disch := omega) only [rr, aop, cV, cV1, AV.one, Qb, okW, Qd, app, Qa, Qc, Qe, Qf, Qg, simprocAttr, l33, tk, ho, hc, Z1, ht, e]
  simp (maxSteps := 4000000) (disch := omega) only [rr, aop, cV, cV1, AV.one, Qb, okW, Qd, app, Qa, Qc, Qe, Qf, Qg, simprocAttr, l33, tk, ho, hc, pp]
  refine QV.by (ι := Nat) (fun k => ⟨[(20, .int .i64 k), (19, .agg (ks .i32 x.ps)), (4, .ref 1 1 0), (2, .ref 0 1 0), (1, .int .i32 w), (5, .int .i64 0)], [⟨t0, 33, 1, Qq (lf x w k), 0⟩, ⟨t0, 33, 1, Qq Qhu, 0⟩]⟩) (fun k => k ≤ 16) (fun k => 16 - k) 0 (by rw [show lf x w 0 = x by simp [lf, Qfr hx]]; exact Le.slots (by simp [Am.look])) (by omega) ?_
  intro k hk
  by_cases hlt : k < 16
  · have hok := Qib hx w k
    have e1 := QqV (K := .i32) (l := x.ps) (k := k) (by have := hx.2.1; omega)
    have e2 := Qqu hok hlt
    have e3 := fun v => Qkj hok hlt v
    have e4 := Qmo x w hlt
    have e5 := Q1 hok
    have hu := Qn9 x w hlt
    have hp := Xx hx.2.2.2 k
    have htp := Xx hx.2.2.1 k
    have ef : ∀ v, ({ lf x w k with tp := (lf x w k).tp.set k v } : XV) = { x with tp := (Xp x w k).set k v } := fun _ => rfl
    have e7 : (lf x w k).tp.getD k 0 = x.tp.getD k 0 := e4
    by_cases p0 : x.ps.getD k 0 = 0
    · have e6 := Qfs x w (k := k) (by simp only [QpB, p0, sgn]; simp; exact Qm9 (by simpa using htp.1) (by simpa using htp.2))
      simp (maxSteps := 4000000) (disch := omega) only [rr, aop, cV, cV1, AV.one, Qb, okW, Qd, app, Qa, Qc, Qe, Qf, Qg, simprocAttr, e1, p0]
      exact ⟨k + 1, by omega, by omega, by rw [show lf x w (k + 1) = lf x w k by simp [lf, e6]]; exact Le.slots (by simp [Am.look])⟩
    · by_cases hsame : (x.ps.getD k 0 < 0 ↔ w < 0)
      · have e6 : QpB x w k = w32 (x.tp.getD k 0 + QjB k) := by
          simp only [QpB, sgn]; congr 1
          by_cases q : w < 0
          · rw [if_pos q, if_pos (hsame.2 q)]; omega
          · rw [if_neg q, if_neg (fun h => q (hsame.1 h)), if_pos (by omega), if_pos (by omega)]; omega
        rw [e6] at hu
        by_cases q : w < 0
        · have q2 := hsame.2 q
          simp (maxSteps := 4000000) (disch := omega) only [rr, aop, cV, cV1, AV.one, Qb, okW, Qd, app, Qa, Qc, Qe, Qf, Qg, simprocAttr, e1, e2, e7]
          refine ZQ.vc (hS k) ?_
          simp (maxSteps := 4000000) (disch := omega) only [rr, aop, cV, cV1, AV.one, Qb, okW, Qd, app, Qa, Qc, Qe, Qf, Qg, simprocAttr, e3, e5, Qag, ef, hu]
          exact ⟨k + 1, by omega, by omega, Le.slots (by simp [Am.look])⟩
        · have q2 : ¬ x.ps.getD k 0 < 0 := fun h => q (hsame.1 h)
          simp (maxSteps := 4000000) (disch := omega) only [rr, aop, cV, cV1, AV.one, Qb, okW, Qd, app, Qa, Qc, Qe, Qf, Qg, simprocAttr, e1, e2, e7]
          refine ZQ.vc (hS k) ?_
          simp (maxSteps := 4000000) (disch := omega) only [rr, aop, cV, cV1, AV.one, Qb, okW, Qd, app, Qa, Qc, Qe, Qf, Qg, simprocAttr, e3, e5, Qag, ef, hu]
          exact ⟨k + 1, by omega, by omega, Le.slots (by simp [Am.look])⟩
      · have e6 : QpB x w k = w32 (x.tp.getD k 0 - QjB k) := by
          simp only [QpB, sgn]; congr 1
          by_cases q : w < 0
          · rw [if_pos q, if_neg (fun h => hsame ⟨fun _ => q, fun _ => h⟩), if_pos (by omega)]; omega
          · rw [if_neg q, if_pos (Classical.byContradiction fun h => hsame ⟨fun h' => absurd h' h, fun h' => absurd h' q⟩), if_pos (by omega)]; omega
        rw [e6] at hu
        by_cases q : w < 0
        · have q2 : ¬ x.ps.getD k 0 < 0 := fun h => hsame ⟨fun _ => q, fun _ => h⟩
          simp (maxSteps := 4000000) (disch := omega) only [rr, aop, cV, cV1, AV.one, Qb, okW, Qd, app, Qa, Qc, Qe, Qf, Qg, simprocAttr, e1, e2, e7]
          refine ZQ.vc (hS k) ?_
          simp (maxSteps := 4000000) (disch := omega) only [rr, aop, cV, cV1, AV.one, Qb, okW, Qd, app, Qa, Qc, Qe, Qf, Qg, simprocAttr, e3, e5, Qag, ef, hu]
          exact ⟨k + 1, by omega, by omega, Le.slots (by simp [Am.look])⟩
        · have q2 : x.ps.getD k 0 < 0 := Classical.byContradiction fun h => hsame ⟨fun h' => absurd h' h, fun h' => absurd h' q⟩
          simp (maxSteps := 4000000) (disch := omega) only [rr, aop, cV, cV1, AV.one, Qb, okW, Qd, app, Qa, Qc, Qe, Qf, Qg, simprocAttr, e1, e2, e7]
          refine ZQ.vc (hS k) ?_
          simp (maxSteps := 4000000) (disch := omega) only [rr, aop, cV, cV1, AV.one, Qb, okW, Qd, app, Qa, Qc, Qe, Qf, Qg, simprocAttr, e3, e5, Qag, ef, hu]
          exact ⟨k + 1, by omega, by omega, Le.slots (by simp [Am.look])⟩
  · have e : k = 16 := by omega
    subst e
    have hF : lf x w 16 = Jz x w := rfl
    rw [hF]
    simp (maxSteps := 4000000) (disch := omega) only [rr, aop, cV, cV1, AV.one, Qb, okW, Qd, app, Qa, Qc, Qe, Qf, Qg, simprocAttr, lw, tkw, how, Z1, ht, Qa8]
/-! ### taps.Push -/

def QeV (x : XV) (v : Int) : XV := { x with ps := v :: x.ps.take 15 }
theorem Qn1 {x : XV} (h : QaY x) {v : Int} (hv : -2147483648 ≤ v ∧ v ≤ 2147483647) : QaY (QeV x v) := by
  obtain ⟨h1, h2, h3, h4⟩ := h
  refine ⟨h1, by simp [QeV, h2], h3, fun y hy => ?_⟩
  simp only [QeV, List.mem_cons] at hy
  rcases hy with rfl | hy
  · exact hv
  · exact h4 y (List.mem_of_mem_take hy)

def Qk0 (P : Prg) (f : Nat) : Prop := ∀ (x : XV) (v : Int), QaY x → x.sh = 9 ∨ x.sh = 10 → VC P f [.agg (Qq x), .int .i32 v] (.tup [.agg (Qq (QeV x v)), .int .i64 0])

theorem Qnq {P : Prg} {f fC t0 : Nat} (b : Qm P f 22 [.cell 4 t0, .tmp 5] (Qa3 fC t0)) (ht : Xb P t0 = some (some 33)) (hC : QcC P fC) : Qk0 P f := by
  intro x v hx hs
  have l33 := Q1 hx
  have tk : (Qq x).take 33 = Qq x := Qz (by omega)
  have ho := Q6 x
  have hc := Qno hs
  have pp := Qfx hx
  have h16 : (ks .i32 x.ps).length = 16 := by simp [Ql, hx.2.1]
  have o16 := J7 .i32 x.ps
  refine VC.of_acall (by simp [isDL, isD, Zk]) (by simp [isD, isDL, Zk]) (ACall.of_body b (by simp) ?_)
  simp (maxSteps := 4000000) (disch := omega) only [rr, aop, cV, cV1, AV.one, Qb, okW, Qd, app, Qa, Qc, Qe, Qf, Qg, simprocAttr, Qa3, l33, tk, ho]
  refine Qh.vc (hC x hx) ?_
  have hm : Nat.min 16 15 = 15 := rfl
  let y : XV := { x with ps := x.ps.getD 0 0 :: x.ps.take 15 }
  have hy : QaY y := Qn1 hx (Xx hx.2.2.2 0)
  have hcp : (Qq x).take 18 ++ (ks .i32 x.ps).take 15 ++ (Qq x).drop 33 = Qq y := by
    have e1 : (Qq x).drop 33 = [] := List.drop_eq_nil_of_le (by omega)
    have e2 : (ks .i32 x.tp).length = 16 := by simp [Ql, hx.1]
    have e3 : (ks .i32 x.ps).take 1 = [.int .i32 (x.ps.getD 0 0)] := by
      have h1 : 0 < x.ps.length := by have := hx.2.1; omega
      match hps : x.ps, h1 with
      | a :: l, _ => rfl
    rw [e1, List.append_nil]
    simp only [Qq, List.take_succ_cons, List.cons_append, y]
    congr 1
    rw [List.take_append, List.take_of_length_le (by omega), e2, e3, List.append_assoc, Qj5]
    rfl
  have hset : (Qq y).take 17 ++ [.int .i32 v] ++ (Qq y).drop 18 = Qq (QeV x v) := Qiw hy (k := 0) (by omega) v
  have ly := Q1 hy
  have lp : (Qq (QeV x v)).length = 33 := by rw [← hset]; simp [ly]
  have tkp : (Qq (QeV x v)).take 33 = Qq (QeV x v) := Qz (by omega)
  have op := Q6 (QeV x v)
  simp (maxSteps := 4000000) (disch := omega) only [rr, aop, cV, cV1, AV.one, Qb, okW, Qd, app, Qa, Qc, Qe, Qf, Qg, simprocAttr, l33, tk, ho, hc, pp, h16, o16, hm, hcp, hset, ly, lp, tkp, op, Z1, ht, Qa8]
end Go.Am

namespace Go.Am
open Go.RowKit

def JM (x : XV) (v y : Int) : XV := QeV (Jz x y) v
theorem Qd4 {x : XV} (h : QaY x) {v : Int} (hv : -2147483648 ≤ v ∧ v ≤ 2147483647) (y : Int) : QaY (JM x v y) := Qn1 (QdC h y) hv
def QeD (P : Prg) (f : Nat) : Prop := ∀ (x : XV) (v y : Int), QaY x → x.sh = 9 ∨ x.sh = 10 → -2147483648 ≤ v ∧ v ≤ 2147483647 → VC P f [.agg (Qq x), .int .i32 v, .int .i32 y] (.agg (Qq (JM x v y)))

theorem Qmn {P : Prg} {f fL fP t0 : Nat} (b : Qm P f 20 [.cell 6 t0] (Qay fL fP t0)) (ht : Xb P t0 = some (some 33)) (hL : Qhb P fL) (hP : Qk0 P fP) : QeD P f := by
  intro x v y hx hs hv
  have l1 := Q1 hx
  have t1 : (Qq x).take 33 = Qq x := Qz (by omega)
  have o1 := Q6 x
  have l2 := Q1 (QdC hx y)
  have t2 : (Qq (Jz x y)).take 33 = Qq (Jz x y) := Qz (by omega)
  have o2 := Q6 (Jz x y)
  have l3 := Q1 (Qd4 hx hv y)
  have t3 : (Qq (JM x v y)).take 33 = Qq (JM x v y) := Qz (by omega)
  have o3 := Q6 (JM x v y)
  have d1 : (Qq x).drop 33 = [] := List.drop_eq_nil_of_le (by omega)
  have d2 : (Qq (Jz x y)).drop 33 = [] := List.drop_eq_nil_of_le (by omega)
  refine VC.of_acall (by simp [isDL, isD, Zk]) (by simp [isD, Zk]) (ACall.of_body b (by simp) ?_)
  simp (maxSteps := 4000000) (disch := omega) only [rr, aop, cV, cV1, AV.one, Qb, okW, Qd, app, Qa, Qc, Qe, Qf, Qg, simprocAttr, Qay, l1, t1, o1]
  refine Qh.vc (hL x y hx hs) ?_
  simp (maxSteps := 4000000) (disch := omega) only [rr, aop, cV, cV1, AV.one, Qb, okW, Qd, app, Qa, Qc, Qe, Qf, Qg, simprocAttr, l1, t1, o1, l2, t2, o2, d1]
  refine Qh.vc (hP (Jz x y) v (QdC hx y) hs) ?_
  rw [← JM]
  simp (maxSteps := 4000000) (disch := omega) only [rr, aop, cV, cV1, AV.one, Qb, okW, Qd, app, Qa, Qc, Qe, Qf, Qg, simprocAttr, l1, t1, o1, l2, t2, o2, l3, t3, o3, d1, d2, Z1, ht, Qa8]

def Qol (x : XV) (v : Int) : Int := w32 (v - Qok x)
def Qte (x : XV) (v : Int) : XV := JM x v (Qol x v)
def Qc2 (P : Prg) (f : Nat) : Prop := ∀ (x : XV) (v : Int), QaY x → x.sh = 9 ∨ x.sh = 10 → -2147483648 ≤ v ∧ v ≤ 2147483647 → VC P f [.agg (Qq x), .int .i32 v] (.tup [.int .i32 (Qol x v), .agg (Qq (Qte x v)), .int .i64 0])

theorem Qj1 {P : Prg} {f fG fB t0 : Nat} (b : Qm P f 27 [.tmp 4, .cell 5 t0, .tmp 6] (JQ fG fB t0)) (ht : Xb P t0 = some (some 33)) (hG : Qhc P fG) (hB : QeD P fB) : Qc2 P f := by
  intro x v hx hs hv
  have l1 := Q1 hx
  have t1 : (Qq x).take 33 = Qq x := Qz (by omega)
  have o1 := Q6 x
  have l3 := Q1 (Qd4 hx hv (Qol x v))
  have t3 : (Qq (JM x v (Qol x v))).take 33 = Qq (JM x v (Qol x v)) := Qz (by omega)
  have o3 := Q6 (JM x v (Qol x v))
  refine VC.of_acall (by simp [isDL, isD, Zk]) (by simp [isD, isDL, Zk]) (ACall.of_body b (by simp) ?_)
  simp (maxSteps := 4000000) (disch := omega) only [rr, aop, cV, cV1, AV.one, Qb, okW, Qd, app, Qa, Qc, Qe, Qf, Qg, simprocAttr, JQ, l1, t1, o1]
  refine Qh.vc (hG x hx hs) ?_
  simp (maxSteps := 4000000) (disch := omega) only [rr, aop, cV, cV1, AV.one, Qb, okW, Qd, app, Qa, Qc, Qe, Qf, Qg, simprocAttr, l1, t1, o1, Qag]
  refine Qh.vc (hB x v (Qol x v) hx hs hv) ?_
  simp only [Qol] at l3 t3 o3
  simp (maxSteps := 4000000) (disch := omega) only [rr, aop, cV, cV1, AV.one, Qb, okW, Qd, app, Qa, Qc, Qe, Qf, Qg, simprocAttr, l1, t1, o1, l3, t3, o3, Z1, ht, Qa8, Qte, Qol]

/-! ### first -/

def Qdf (b last : Int) : Int := if b = 8 then 15 * last / 16 else 31 * last / 32
def Qhk (P : Prg) (f : Nat) : Prop := ∀ b : Int, Jj b ≠ 0 → VC P f [.int .i64 b] (.tup [.int .i64 (if b = 8 then 4 else 5), .int .i64 0])
theorem Qkh {P : Prg} {f : Nat} (b : Qm P f 10 [.tmp 2, .tmp 3] ZU) : Qhk P f := by
  intro x hx
  refine VC.of_acall rfl rfl (ACall.of_body b (by simp) ?_)
  rcases Z9 x with ⟨rfl, h⟩ | ⟨rfl, h⟩ | ⟨rfl, h⟩ | ⟨h2, h3, h4, h⟩
  · simp (maxSteps := 4000000) (disch := omega) only [rr, aop, cV, cV1, AV.one, Qb, okW, Qd, app, Qa, Qc, Qe, Qf, Qg, simprocAttr, ZU]
  · simp (maxSteps := 4000000) (disch := omega) only [rr, aop, cV, cV1, AV.one, Qb, okW, Qd, app, Qa, Qc, Qe, Qf, Qg, simprocAttr, ZU]
  · simp (maxSteps := 4000000) (disch := omega) only [rr, aop, cV, cV1, AV.one, Qb, okW, Qd, app, Qa, Qc, Qe, Qf, Qg, simprocAttr, ZU]
  · exact absurd h hx

theorem Qrt {x : Int} (h : -2147483648 ≤ x ∧ x ≤ 2147483647) : Qs true .i64 x 4 = some (.int .i64 (x * 16)) := by
  show some (AV.int .i64 (IntKind.i64.wrap (x * 16))) = _
  rw [Xc (by omega) (by omega)]
theorem Qrs {x : Int} (h : -2147483648 ≤ x ∧ x ≤ 2147483647) : Qs true .i64 x 5 = some (.int .i64 (x * 32)) := by
  show some (AV.int .i64 (IntKind.i64.wrap (x * 32))) = _
  rw [Xc (by omega) (by omega)]
theorem Qro (x : Int) : Qs false .i64 x 4 = some (.int .i64 (x / 16)) := by
  show some (AV.int .i64 (x.fdiv 16)) = _
  rw [Int.fdiv_eq_ediv_of_nonneg _ (by omega)]
theorem Qrn (x : Int) : Qs false .i64 x 5 = some (.int .i64 (x / 32)) := by
  show some (AV.int .i64 (x.fdiv 32)) = _
  rw [Int.fdiv_eq_ediv_of_nonneg _ (by omega)]

def Qhj (P : Prg) (f : Nat) : Prop := ∀ (b l : Int), -2147483648 ≤ l ∧ l ≤ 2147483647 → VC P f [.int .i64 (if b = 8 then 4 else 5), .int .i32 l] (.int .i32 (Qdf b l))
theorem Qkg {P : Prg} {f : Nat} (b : Qm P f 16 [.tmp 4] XA) : Qhj P f := by
  intro x l hl
  refine VC.of_acall rfl rfl (ACall.of_body b (by simp) ?_)
  have e1 : l * 16 - l = 15 * l := by omega
  have e2 : l * 32 - l = 31 * l := by omega
  have a := Qrt hl
  have c := Qrs hl
  by_cases h : x = 8
  · simp (maxSteps := 4000000) (disch := omega) only [rr, aop, cV, cV1, AV.one, Qb, okW, Qd, app, Qa, Qc, Qe, Qf, Qg, simprocAttr, XA, h, Qdf, a, Qro, e1]
  · simp (maxSteps := 4000000) (disch := omega) only [rr, aop, cV, cV1, AV.one, Qb, okW, Qd, app, Qa, Qc, Qe, Qf, Qg, simprocAttr, XA, if_neg h, Qdf, c, Qrn, e2]

def Qhl (P : Prg) (f : Nat) : Prop := ∀ (b l : Int), Jj b ≠ 0 → -2147483648 ≤ l ∧ l ≤ 2147483647 → VC P f [.int .i64 b, .int .i32 l] (.tup [.int .i32 (Qdf b l), .int .i64 0])
theorem Qki {P : Prg} {f fS fg : Nat} (b : Qm P f 19 [.tmp 4, .tmp 5] (JS fS fg)) (hS : Qhk P fS) (hg : Qhj P fg) : Qhl P f := by
  intro x l hx hl
  refine VC.of_acall rfl rfl (ACall.of_body b (by simp) ?_)
  simp (maxSteps := 4000000) (disch := omega) only [rr, aop, cV, cV1, AV.one, Qb, okW, Qd, app, Qa, Qc, Qe, Qf, Qg, simprocAttr, JS]
  refine Qh.vc (hS x hx) ?_
  simp (maxSteps := 4000000) (disch := omega) only [rr, aop, cV, cV1, AV.one, Qb, okW, Qd, app, Qa, Qc, Qe, Qf, Qg, simprocAttr]
  refine Qh.vc (hg x l hl) ?_
  simp (maxSteps := 4000000) (disch := omega) only [rr, aop, cV, cV1, AV.one, Qb, okW, Qd, app, Qa, Qc, Qe, Qf, Qg, simprocAttr]
/-! ### chain -/

structure Ja where
  bits : Int
  last : Int
  fl : XV

def Zb (c : Ja) : List AV := .int .i64 c.bits :: .int .i32 c.last :: Qq c.fl
def QqP (c : Ja) : Prop := Jj c.bits ≠ 0 ∧ c.fl.sh = Qai c.bits ∧ QaY c.fl ∧ (-2147483648 ≤ c.last ∧ c.last ≤ 2147483647)
def QbY : Ja := ⟨0, 0, Qhu⟩

theorem Xy {c : Ja} (h : QaY c.fl) : (Zb c).length = 35 := by simp [Zb, Q1 h]
theorem JB (c : Ja) : (Zb c).all AV.one = true := by simp [Zb, AV.one, Q6]
theorem Qcp (c : Ja) : isDL (Zb c) = true := by simp [Zb, isDL, isD, Zk]
theorem QpR (b : Int) : Qai b = 9 ∨ Qai b = 10 := by unfold Qai; split <;> simp
theorem Qn2 {b : Int} {t : List Int} (h1 : t.length = 16) (h2 : I32 t) : QaY (Qgg b t) := ⟨h1, by simp [Qgg, z16], h2, fun x hx => by simp [Qgg, z16] at hx; omega⟩
theorem Qdv : Zb QbY = [.int .i64 0, .int .i32 0, .int .i64 0, .int .i32 0, .int .i32 0, .int .i32 0, .int .i32 0, .int .i32 0, .int .i32 0, .int .i32 0, .int .i32 0, .int .i32 0, .int .i32 0, .int .i32 0, .int .i32 0, .int .i32 0, .int .i32 0, .int .i32 0, .int .i32 0, .int .i32 0, .int .i32 0, .int .i32 0, .int .i32 0, .int .i32 0, .int .i32 0, .int .i32 0, .int .i32 0, .int .i32 0, .int .i32 0, .int .i32 0, .int .i32 0, .int .i32 0, .int .i32 0, .int .i32 0, .int .i32 0] := rfl

def QcP (b : Int) (t : List Int) : Ja := ⟨b, 0, Qgg b t⟩
def QmI (b : Int) (t : List Int) : AV := if Jj b = 0 then .tup [.agg (Zb QbY), .int .i64 2] else .tup [.agg (Zb (QcP b t)), .int .i64 0]
def Qpj (P : Prg) (f : Nat) : Prop := ∀ (b : Int) (t : List Int), t.length = 16 → I32 t → VC P f [.int .i64 b, .agg (ks .i32 t)] (QmI b t)
theorem Qqo (b : Int) (t : List Int) : isD (QmI b t) = true := by unfold QmI; split <;> simp [isD, isDL, Qcp]

theorem QoQ {P : Prg} {f fT t0 t1 t2 : Nat} (b : Qm P f 21 [.cell 4 t1, .tmp 5] (Qa6 fT t0 t1 t2)) (ht : Xb P t1 = some (some 35)) (hT : QlP P fT) : Qpj P f := by
  intro x t hl hI
  have hk : (ks .i32 t).length = 16 := by simp [Ql, hl]
  have h1 := J7 .i32 t
  have tk16 : (ks .i32 t).take 16 = ks .i32 t := Qz (by omega)
  have hok : QaY (Qgg x t) := Qn2 hl hI
  have l1 := Q1 hok
  have t1' : (Qq (Qgg x t)).take 33 = Qq (Qgg x t) := Qz (by omega)
  have o1 := Q6 (Qgg x t)
  have lc := Xy (c := QcP x t) hok
  have tc : (Zb (QcP x t)).take 35 = Zb (QcP x t) := Qz (by omega)
  have oc := JB (QcP x t)
  have mk : AV.int .i64 x :: .int .i32 0 :: Qq (Qgg x t) = Zb (QcP x t) := rfl
  refine VC.of_acall (by simp [isDL, isD, QT]) (Qqo _ _) (ACall.of_body b (by simp) ?_)
  simp (maxSteps := 4000000) (disch := omega) only [rr, aop, cV, cV1, AV.one, Qb, okW, Qd, app, Qa, Qc, Qe, Qf, Qg, simprocAttr, Qa6, hk, h1, tk16]
  refine Qh.vc (hT x t hl) ?_
  by_cases h0 : Jj x = 0
  · simp (maxSteps := 4000000) (disch := omega) only [rr, aop, cV, cV1, AV.one, Qb, okW, Qd, app, Qa, Qc, Qe, Qf, Qg, simprocAttr, QeR, h0, QmI, Qa8, Qdv, Z1, ht]
  · simp (maxSteps := 4000000) (disch := omega) only [rr, aop, cV, cV1, AV.one, Qb, okW, Qd, app, Qa, Qc, Qe, Qf, Qg, simprocAttr, QeR, if_neg h0, QmI, l1, t1', o1, lc, tc, oc, mk, Qdv, Z1, ht]

theorem Qr7 {c : Ja} (h : QaY c.fl) : ((Zb c).drop 2).take 33 = Qq c.fl := by
  simp only [Zb, List.drop_succ_cons, List.drop_zero]
  exact Qz (by rw [Q1 h]; omega)
theorem QoO {c : Ja} (h : QaY c.fl) : ((Zb c).drop 3).take 16 = ks .i32 c.fl.tp := Qiv h

def Qhq (P : Prg) (f : Nat) : Prop := ∀ c : Ja, QqP c → VC P f [.agg (Zb c)] (.int .i64 0)
theorem QkE {P : Prg} {f fT t0 t1 : Nat} (b : Qm P f 24 [.tmp 2] (JY fT t0 t1)) (hT : QlP P fT) : Qhq P f := by
  intro c ⟨h1, h2, h3, h4⟩
  have lc := Xy h3
  have oc := JB c
  have e0 : (Zb c).drop 0 = .int .i64 c.bits :: .int .i32 c.last :: Qq c.fl := rfl
  have e2 : (Zb c).drop 2 = .int .i64 c.fl.sh :: (ks .i32 c.fl.tp ++ ks .i32 c.fl.ps) := rfl
  have et := QoO h3
  have hk : (ks .i32 c.fl.tp).length = 16 := by simp [Ql, h3.1]
  have hok : QaY (Qgg c.bits c.fl.tp) := Qn2 h3.1 h3.2.2.1
  have l1 := Q1 hok
  have t1' : (Qq (Qgg c.bits c.fl.tp)).take 33 = Qq (Qgg c.bits c.fl.tp) := Qz (by omega)
  have o1 := Q6 (Qgg c.bits c.fl.tp)
  have en : (Qq (Qgg c.bits c.fl.tp)).drop 0 = .int .i64 (Qai c.bits) :: (ks .i32 c.fl.tp ++ ks .i32 z16) := rfl
  have dn : (Qq (Qgg c.bits c.fl.tp)).drop 33 = [] := List.drop_eq_nil_of_le (by omega)
  refine VC.of_acall (by simp [isDL, isD, Qcp]) rfl (ACall.of_body b (by simp) ?_)
  simp (maxSteps := 4000000) (disch := omega) only [rr, aop, cV, cV1, AV.one, Qb, okW, Qd, app, Qa, Qc, Qe, Qf, Qg, simprocAttr, JY, lc, oc, ↓e0, et]
  refine Qh.vc (hT c.bits c.fl.tp h3.1) ?_
  simp (maxSteps := 4000000) (disch := omega) only [rr, aop, cV, cV1, AV.one, Qb, okW, Qd, app, Qa, Qc, Qe, Qf, Qg, simprocAttr, QeR, if_neg h1, l1, t1', o1, ↓en, ↓e2, h2, dn]

def QsU (c : Ja) (x : Int) : Int := w32 (x - Qdf c.bits c.last)
def QkF (c : Ja) (x : Int) : Int := Qol c.fl (QsU c x)
def QaM (c : Ja) (x : Int) : Ja := ⟨c.bits, x, Qte c.fl (QsU c x)⟩
theorem QjZ {c : Ja} (h : QqP c) {x : Int} (hx : -2147483648 ≤ x ∧ x ≤ 2147483647) : QqP (QaM c x) := ⟨h.1, h.2.1, Qd4 h.2.2.1 (QbL _) _, hx⟩

def Qc4 (P : Prg) (f : Nat) : Prop := ∀ (c : Ja) (x : Int), QqP c → -2147483648 ≤ x ∧ x ≤ 2147483647 → VC P f [.agg (Zb c), .int .i32 x] (.tup [.int .i32 (QkF c x), .agg (Zb (QaM c x)), .int .i64 0])

theorem QgE {P : Prg} {f fC fG fF t0 t1 : Nat} (b : Qm P f 44 [.tmp 4, .cell 5 t0, .tmp 6] (XT fC fG fF t0 t1)) (ht : Xb P t0 = some (some 35)) (hC : Qhq P fC) (hG : Qhl P fG) (hF : Qc2 P fF) : Qc4 P f := by
  intro c x hc hx
  obtain ⟨h1, h2, h3, h4⟩ := id hc
  have hs : c.fl.sh = 9 ∨ c.fl.sh = 10 := by rw [h2]; exact QpR _
  have lc := Xy h3
  have tc : (Zb c).take 35 = Zb c := Qz (by omega)
  have oc := JB c
  have e0 : (Zb c).drop 0 = .int .i64 c.bits :: .int .i32 c.last :: Qq c.fl := rfl
  have e1 : (Zb c).drop 1 = .int .i32 c.last :: Qq c.fl := rfl
  have e2 := Qr7 h3
  have hzr := QbL (x - Qdf c.bits c.last)
  have hok := QjZ hc hx
  have l1 := Q1 hok.2.2.1
  have t1' : (Qq (QaM c x).fl).take 33 = Qq (QaM c x).fl := Qz (by omega)
  have o1 := Q6 (QaM c x).fl
  have d1 : (Qq (QaM c x).fl).drop 33 = [] := List.drop_eq_nil_of_le (by omega)
  have l2 := Xy hok.2.2.1
  have t2 : (Zb (QaM c x)).take 35 = Zb (QaM c x) := Qz (by omega)
  have o2 := JB (QaM c x)
  have mk : AV.int .i64 c.bits :: .int .i32 x :: Qq (QaM c x).fl = Zb (QaM c x) := rfl
  have hfe : Qte c.fl (w32 (x - Qdf c.bits c.last)) = (QaM c x).fl := rfl
  have hye : Qol c.fl (w32 (x - Qdf c.bits c.last)) = QkF c x := rfl
  refine VC.of_acall (by simp [isDL, isD, Qcp]) (by simp [isD, isDL, Qcp]) (ACall.of_body b (by simp) ?_)
  simp (maxSteps := 4000000) (disch := omega) only [rr, aop, cV, cV1, AV.one, Qb, okW, Qd, app, Qa, Qc, Qe, Qf, Qg, simprocAttr, XT, lc, tc, oc]
  refine Qh.vc (hC c hc) ?_
  simp (maxSteps := 4000000) (disch := omega) only [rr, aop, cV, cV1, AV.one, Qb, okW, Qd, app, Qa, Qc, Qe, Qf, Qg, simprocAttr, lc, tc, oc, ↓e0, ↓e1]
  refine Qh.vc (hG c.bits c.last h1 h4) ?_
  simp (maxSteps := 4000000) (disch := omega) only [rr, aop, cV, cV1, AV.one, Qb, okW, Qd, app, Qa, Qc, Qe, Qf, Qg, simprocAttr, lc, tc, oc, e2, Qag]
  refine Qh.vc (hF c.fl _ h3 hs hzr) ?_
  rw [hfe, hye]
  simp (maxSteps := 4000000) (disch := omega) only [rr, aop, cV, cV1, AV.one, Qb, okW, Qd, app, Qa, Qc, Qe, Qf, Qg, simprocAttr, lc, tc, oc, ↓e0, l1, t1', o1, d1, l2, t2, o2, mk, Z1, ht, Qdv]
end Go.Am

namespace Go.Am
open Go.RowKit

/-! ### chain.Back -/

/-! ### The references -/

theorem Qnm {x : Int} (h : x < 0) (n : Int) : x.tdiv n = -(-x / n) ∧ x.tmod n = -(-x % n) := by
  have e : x = -(-x) := by omega
  constructor
  · rw [e, Int.neg_tdiv, Int.tdiv_eq_ediv_of_nonneg (by omega)]; simp
  · rw [e, Int.neg_tmod, Int.tmod_eq_emod_of_nonneg (by omega)]; simp

def Qtp (x : XV) (k : Nat) : List Int := (List.range 16).map fun j => if k < j then x.ps.getD (j - 1) 0 else x.ps.getD j 0
def pf (x : XV) (k : Nat) : XV := { x with ps := Qtp x k }
end Go.Am

namespace Go.Am
open Go.RowKit

/-! ### New -/


/-! ### fold -/

def Qir (x : Int) : Int := if x < 0 then -2 * x - 1 else 2 * x
def Qpg (P : Prg) (f : Nat) : Prop := ∀ x : Int, -2147483648 ≤ x ∧ x ≤ 2147483647 → VC P f [.int .i32 x] (.int .u32 (Qir x))
theorem Qoq {x : Int} (h : -2147483648 ≤ x ∧ x ≤ 2147483647) : 0 ≤ Qir x ∧ Qir x < 4294967296 := by unfold Qir; split <;> omega

theorem Qpv {a : Nat} (h : a < 4294967296) : (BitVec.ofInt 32 (a : Int) ^^^ BitVec.ofInt 32 4294967295).toNat = 4294967295 - a := by
  have e : BitVec.ofInt 32 4294967295 = BitVec.allOnes 32 := by decide
  rw [e, BitVec.xor_allOnes, BitVec.toNat_not]
  have : (BitVec.ofInt 32 (a : Int)).toNat = a := by simp; omega
  rw [this]
theorem Qm5 {a : Nat} (h : a < 4294967296) : (BitVec.ofInt 32 (a : Int) ^^^ BitVec.ofInt 32 0).toNat = a := by
  have : (BitVec.ofInt 32 (a : Int)).toNat = a := by simp; omega
  rw [BitVec.toNat_xor, this]
  simp

theorem Qop {P : Prg} {f : Nat} (b : Qm P f 10 [.tmp 2] JC) : Qpg P f := by
  intro x hx
  refine VC.of_acall rfl rfl (ACall.of_body b (by simp) ?_)
  by_cases h : x < 0
  · have a1 : IntKind.u32.wrap x = x + 4294967296 := by rw [Ju]; omega
    have a2 : Qs true .u32 (x + 4294967296) 1 = some (.int .u32 (2 * x + 4294967296)) := by
      show some (AV.int .u32 (IntKind.u32.wrap ((x + 4294967296) * 2))) = _
      rw [Ju]; congr 2; omega
    have a3 : Qs false .i32 x 31 = some (.int .i32 (-1)) := by
      show some (AV.int .i32 (x.fdiv 2147483648)) = _
      rw [Int.fdiv_eq_ediv_of_nonneg _ (by omega)]; congr 2; omega
    have a4 : IntKind.u32.wrap (-1) = 4294967295 := rfl
    have a5 : (BitVec.ofInt IntKind.u32.bits (2 * x + 4294967296) ^^^ BitVec.ofInt IntKind.u32.bits 4294967295).toNat = (-2 * x - 1).toNat := by
      show (BitVec.ofInt 32 (2 * x + 4294967296) ^^^ BitVec.ofInt 32 4294967295).toNat = (-2 * x - 1).toNat
      have := Qpv (a := (2 * x + 4294967296).toNat) (by omega)
      rw [show (((2 * x + 4294967296).toNat : Nat) : Int) = 2 * x + 4294967296 by omega] at this
      rw [this]; omega
    have a6 : (((BitVec.ofInt IntKind.u32.bits (2 * x + 4294967296) ^^^ BitVec.ofInt IntKind.u32.bits 4294967295).toNat : Nat) : Int) = -2 * x - 1 := by rw [a5]; omega
    simp (maxSteps := 4000000) (disch := omega) only [rr, aop, cV, cV1, AV.one, Qb, okW, Qd, app, Qa, Qc, Qe, Qf, Qg, simprocAttr, JC, a1, a2, a3, a4, a6, Qir]
  · have a2 : Qs true .u32 x 1 = some (.int .u32 (2 * x)) := by
      show some (AV.int .u32 (IntKind.u32.wrap (x * 2))) = _
      rw [Ju]; congr 2; omega
    have a3 : Qs false .i32 x 31 = some (.int .i32 0) := by
      show some (AV.int .i32 (x.fdiv 2147483648)) = _
      rw [Int.fdiv_eq_ediv_of_nonneg _ (by omega)]; congr 2; omega
    have a5 : (BitVec.ofInt IntKind.u32.bits (2 * x) ^^^ BitVec.ofInt IntKind.u32.bits 0).toNat = (2 * x).toNat := by
      show (BitVec.ofInt 32 (2 * x) ^^^ BitVec.ofInt 32 0).toNat = (2 * x).toNat
      have := Qm5 (a := (2 * x).toNat) (by omega)
      rwa [show (((2 * x).toNat : Nat) : Int) = 2 * x by omega] at this
    have a6 : (((BitVec.ofInt IntKind.u32.bits (2 * x) ^^^ BitVec.ofInt IntKind.u32.bits 0).toNat : Nat) : Int) = 2 * x := by rw [a5]; omega
    simp (maxSteps := 4000000) (disch := omega) only [rr, aop, cV, cV1, AV.one, Qb, okW, Qd, app, Qa, Qc, Qe, Qf, Qg, simprocAttr, JC, a2, a3, a6, Qir]

end Go.Am

namespace Go.Am
open Go.RowKit

theorem QqU {K : IntKind} {l : List Int} {i : Nat} (h : i < l.length) (v : Int) : (ks K l).take i ++ [.int K v] ++ (ks K l).drop (i + 1) = ks K (l.set i v) := by
  rw [List.set_eq_take_append_cons_drop, if_pos h]
  simp [ks]
theorem Qea {K : IntKind} {l : List Int} {i : Nat} (h : i < l.length) : (ks K l).drop i = .int K (l.getD i 0) :: ks K (l.drop (i + 1)) := by
  rw [Qap h]; simp [List.getD_eq_getElem?_getD, List.getElem?_eq_getElem h]

theorem QrW {α : Type} (l : List α) (x : α) : (l ++ [x])[l.length]? = some x := by simp
theorem Qrw {α : Type} (l : List α) (x y : α) : (l ++ [x]).set l.length y = l ++ [y] := by simp

/-! ### slices.Clone of numbers -/

def Qhp (t : Nat) (P : Prg) (f : Nat) : Prop := ∀ (l : List Int) (ob : List Ob) (K : AV → List Ob → Prop), 0 < l.length → l.length ≤ 1000000 → K (.own ob.length l.length) (ob ++ [⟨t, 1, l.length, ks .i32 l, 0⟩]) → ACall P f [il l] ob K

theorem QoM {P : Prg} {f t0 : Nat} (b : Qm P f 8 [.tmp 2] (QR t0)) : Qhp t0 P f := by
  intro l ob K h0 h1 hK
  refine ACall.of_body b (by simp) ?_
  have g1 := fun x : Ob => QrW ob x
  have g2 := fun x y : Ob => Qrw ob x y
  have n0 : l.length ≠ 0 := by omega
  simp (maxSteps := 4000000) (disch := omega) only [rr, aop, cV, cV1, AV.one, Qb, okW, Qd, app, Qa, Qc, Qe, Qf, Qg, simprocAttr, QR, il, Qm2, n0, g1, g2, QsG]
  exact hK

/-! ### mix.mix: in its place -/

def QeL (L : List Int) (k i : Nat) : List Int := (List.range L.length).map fun j => if k ≤ j ∧ j < k + i then w32 (L.getD (j + 1) 0 - L.getD j 0) else L.getD j 0
def Qd6 (L : List Int) (k n : Nat) : List Int := if n = 1 then L else (QeL L k (n - 1)).set (k + (n - 1)) (w32 (L.getD (k + (n - 1)) 0 - (w32 (L.getD (k + (n - 1)) 0 - L.getD (k + (n - 2)) 0)).tdiv 2))

theorem Qcr {a b : List Int} (h : a.length = b.length) (h2 : ∀ j, j < a.length → a.getD j 0 = b.getD j 0) : a = b := by
  apply List.ext_getElem h
  intro i h1 h3
  have := h2 i h1
  simpa [List.getD_eq_getElem?_getD, List.getElem?_eq_getElem h1, List.getElem?_eq_getElem h3] using this
theorem Qaj (L : List Int) (k i : Nat) : (QeL L k i).length = L.length := by simp [QeL]
theorem ZW {g : Nat → Int} {n j : Nat} (h : j < n) : ((List.range n).map g).getD j 0 = g j := by
  simp [List.getD_eq_getElem?_getD, h]
theorem Qll {l : List Int} {i j : Nat} {v : Int} (h : j < l.length) : (l.set i v).getD j 0 = if i = j then v else l.getD j 0 := by
  simp only [List.getD_eq_getElem?_getD, List.getElem?_set]
  split
  · subst_vars; simp [h]
  · rfl
theorem Qsx (L : List Int) (k : Nat) : QeL L k 0 = L := Qcr (Qaj _ _ _) fun j hj => by
  rw [Qaj] at hj
  rw [QeL, ZW hj, if_neg (by omega)]
theorem QnI {L : List Int} {k i j : Nat} (h : j < L.length) (h2 : k + i ≤ j) : (QeL L k i).getD j 0 = L.getD j 0 := by
  rw [QeL, ZW h, if_neg (by omega)]
theorem QpS {L : List Int} {k i : Nat} (h : k + i < L.length) : (QeL L k i).set (k + i) (w32 (L.getD (k + i + 1) 0 - L.getD (k + i) 0)) = QeL L k (i + 1) := Qcr (by simp [Qaj]) fun j hj => by
  have hj' : j < L.length := by simpa [Qaj] using hj
  rw [Qll (by rw [Qaj]; exact hj'), QeL, QeL, ZW hj', ZW hj']
  by_cases e : k + i = j
  · subst e; rw [if_pos rfl, if_pos (by omega)]
  · rw [if_neg e]
    by_cases q : k ≤ j ∧ j < k + i
    · rw [if_pos q, if_pos (by omega)]
    · rw [if_neg q, if_neg (by omega)]

def Qsg (P : Prg) (f : Nat) : Prop := ∀ (t : Nat) (L : List Int) (k n : Nat) (K : AV → List Ob → Prop), I32 L → 1 ≤ n → k + n ≤ L.length → L.length ≤ 1000000 →
  K (.tup []) [⟨t, 1, L.length, ks .i32 (Qd6 L k n), 0⟩] → ACall P f [.view 0 L.length k n] [⟨t, 1, L.length, ks .i32 L, 0⟩] K

theorem Qnn {x : Int} (h : -2147483648 ≤ x ∧ x ≤ 2147483647) : -2147483648 ≤ x.tdiv 2 ∧ x.tdiv 2 ≤ 2147483647 := by
  by_cases hx : x < 0
  · rw [(Qnm hx 2).1]; omega
  · rw [Int.tdiv_eq_ediv_of_nonneg (by omega)]; omega

theorem QrE {P : Prg} {f : Nat} (b : Qm P f 39 [] QcZ) : Qsg P f := by
  intro t L k n K hL h1 h2 h3 hK
  refine ACall.of_body b (by simp) ?_
  simp (maxSteps := 4000000) (disch := omega) only [rr, aop, cV, cV1, AV.one, Qb, okW, Qd, app, Qa, Qc, Qe, Qf, Qg, simprocAttr, QcZ]
  refine QV.by (ι := Nat) (fun i => ⟨[(8, .int .i64 i), (7, .int .i64 ((n : Int) - 1)), (2, .int .i64 ((n : Int) - 1)), (0, .view 0 L.length k n)], [⟨t, 1, L.length, ks .i32 (QeL L k i), 0⟩]⟩) (fun i => i ≤ n - 1) (fun i => n - 1 - i) 0 (by rw [Qsx]; exact Le.slots (by simp [Am.look])) (by omega) ?_
  intro i hi
  have ls := Qaj L k i
  by_cases hlt : i < n - 1
  · have e1 := Qea (K := .i32) (l := QeL L k i) (i := k + i) (by omega)
    have e2 := Qea (K := .i32) (l := QeL L k i) (i := k + (i + 1)) (by omega)
    have e3 := fun v => QqU (K := .i32) (l := QeL L k i) (i := k + i) (by omega) v
    have a1 := QnI (L := L) (k := k) (i := i) (j := k + i) (by omega) (by omega)
    have a2 := QnI (L := L) (k := k) (i := i) (j := k + (i + 1)) (by omega) (by omega)
    have a3 := QpS (L := L) (k := k) (i := i) (by omega)
    rw [show k + i + 1 = k + (i + 1) by omega] at a3
    rw [a1] at e1
    rw [a2] at e2
    simp (maxSteps := 4000000) (disch := omega) only [rr, aop, cV, cV1, AV.one, Qb, okW, Qd, app, Qa, Qc, Qe, Qf, Qg, simprocAttr, e1, e2, e3, Qag, a3, ls]
    exact ⟨i + 1, by omega, by omega, Le.slots (by simp [Am.look])⟩
  · have e : i = n - 1 := by omega
    subst e
    by_cases hn : n = 1
    · subst hn
      have e0 : Qd6 L k 1 = QeL L k (1 - 1) := by simp [Qd6, Qsx]
      rw [e0] at hK
      simp (maxSteps := 4000000) (disch := omega) only [rr, aop, cV, cV1, AV.one, Qb, okW, Qd, app, Qa, Qc, Qe, Qf, Qg, simprocAttr]
      exact hK
    · have e1 := Qea (K := .i32) (l := QeL L k (n - 1)) (i := k + (n - 1)) (by omega)
      have e2 := Qea (K := .i32) (l := QeL L k (n - 1)) (i := k + (n - 2)) (by omega)
      have e3 := fun v => QqU (K := .i32) (l := QeL L k (n - 1)) (i := k + (n - 1)) (by omega) v
      have a1 := QnI (L := L) (k := k) (i := n - 1) (j := k + (n - 1)) (by omega) (by omega)
      have a2 : (QeL L k (n - 1)).getD (k + (n - 2)) 0 = w32 (L.getD (k + (n - 1)) 0 - L.getD (k + (n - 2)) 0) := by
        rw [QeL, ZW (by omega), if_pos (by omega), show k + (n - 2) + 1 = k + (n - 1) by omega]
      rw [a1] at e1
      rw [a2] at e2
      have hr := Qnn (QbL (L.getD (k + (n - 1)) 0 - L.getD (k + (n - 2)) 0))
      simp only [Qd6, if_neg hn] at hK
      rw [show k + (n - 2) = k + (n - 1 - 1) by omega] at e2 hK hr
      simp (maxSteps := 4000000) (disch := omega) only [rr, aop, cV, cV1, AV.one, Qb, okW, Qd, app, Qa, Qc, Qe, Qf, Qg, simprocAttr, e1, e2, e3, Qag, ls]
      exact hK
end Go.Am

namespace Go.Am
open Go.RowKit

def QaZ (c : Int) (n : Nat) : Int := if c < 1 ∨ 6 < c then 2 else if 4000 < n then 4 else if (n : Int) % c ≠ 0 then 2 else 0
def Qhh (P : Prg) (f : Nat) : Prop := ∀ (c : Int) (l : List Int), VC P f [.int .i64 c, il l] (.int .i64 (QaZ c l.length))

theorem Qn6 {P : Prg} {f : Nat} (b : Qm P f 22 [.tmp 4] Zv) : Qhh P f := by
  intro c l
  refine VC.of_acall (by simp [isDL, isD, Q4]) rfl (ACall.of_body b (by simp) ?_)
  by_cases h1 : c < 1
  · simp (maxSteps := 4000000) (disch := omega) only [rr, aop, cV, cV1, AV.one, Qb, okW, Qd, app, Qa, Qc, Qe, Qf, Qg, simprocAttr, Zv, il, QaZ]
  by_cases h2 : 6 < c
  · simp (maxSteps := 4000000) (disch := omega) only [rr, aop, cV, cV1, AV.one, Qb, okW, Qd, app, Qa, Qc, Qe, Qf, Qg, simprocAttr, Zv, il, QaZ]
  by_cases h3 : 4000 < l.length
  · simp (maxSteps := 4000000) (disch := omega) only [rr, aop, cV, cV1, AV.one, Qb, okW, Qd, app, Qa, Qc, Qe, Qf, Qg, simprocAttr, Zv, il, QaZ]
  have hm := J5 (n := l.length) (c := c) (by omega)
  by_cases h4 : (l.length : Int) % c = 0
  · simp (maxSteps := 4000000) (disch := omega) only [rr, aop, cV, cV1, AV.one, Qb, okW, Qd, app, Qa, Qc, Qe, Qf, Qg, simprocAttr, Zv, il, QaZ, h4]
  · simp (maxSteps := 4000000) (disch := omega) only [rr, aop, cV, cV1, AV.one, Qb, okW, Qd, app, Qa, Qc, Qe, Qf, Qg, simprocAttr, Zv, il, QaZ, h4]

def QqQ (c : Nat) (l : List Int) (j : Nat) : Int :=
  if c = 1 then l.getD j 0
  else if j % c + 1 < c then w32 (l.getD (j + 1) 0 - l.getD j 0)
  else w32 (l.getD j 0 - (w32 (l.getD j 0 - l.getD (j - 1) 0)).tdiv 2)
def Qhs (c : Nat) (l : List Int) (a : Nat) : List Int := (List.range l.length).map fun j => if j < a then QqQ c l j else l.getD j 0
def J6 (c : Nat) (l : List Int) : List Int := (List.range l.length).map (QqQ c l)

theorem XZ (c : Nat) (l : List Int) (a : Nat) : (Qhs c l a).length = l.length := by simp [Qhs]
theorem QsD (c : Nat) (l : List Int) : Qhs c l 0 = l := Qcr (XZ _ _ _) fun j hj => by
  rw [XZ] at hj; rw [Qhs, ZW hj, if_neg (by omega)]
theorem Qlu (c : Nat) (l : List Int) : Qhs c l l.length = J6 c l := by
  simp only [Qhs, J6]
  apply List.map_congr_left
  intro j hj
  rw [if_pos (by simpa using hj)]
theorem Qp6 {c : Nat} {l : List Int} (h : I32 l) (j : Nat) : -2147483648 ≤ QqQ c l j ∧ QqQ c l j ≤ 2147483647 := by
  unfold QqQ
  split
  · exact Xx h j
  · split <;> exact QbL _
theorem QlV {c : Nat} {l : List Int} (h : I32 l) (a : Nat) : I32 (Qhs c l a) := by
  intro v hv
  simp only [Qhs, List.mem_map] at hv
  obtain ⟨j, _, rfl⟩ := hv
  split
  · exact Qp6 h j
  · exact Xx h j
theorem Qm1 {c : Nat} {l : List Int} (h : I32 l) : I32 (J6 c l) := by rw [← Qlu]; exact QlV h _
theorem Qfq (c : Nat) (l : List Int) : (J6 c l).length = l.length := by simp [J6]

theorem QrD {c : Nat} {l : List Int} {m : Nat} (hc : 1 ≤ c) (h : c * m + c ≤ l.length) : Qd6 (Qhs c l (c * m)) (c * m) c = Qhs c l (c * m + c) := by
  have mod : ∀ j, c * m ≤ j → j < c * m + c → j % c = j - c * m := fun j h1 h2 => by
    rw [show j = c * m + (j - c * m) by omega, Nat.mul_add_mod]
    rw [Nat.mod_eq_of_lt (by omega)]; omega
  have at' : ∀ j, j < l.length → c * m ≤ j → (Qhs c l (c * m)).getD j 0 = l.getD j 0 := fun j h1 h2 => by rw [Qhs, ZW h1, if_neg (by omega)]
  by_cases h1 : c = 1
  · subst h1
    simp only [Qd6, if_true]
    refine Qcr (by simp [XZ]) fun j hj => ?_
    rw [XZ] at hj
    rw [Qhs, Qhs, ZW hj, ZW hj]
    by_cases q : j < 1 * m
    · rw [if_pos q, if_pos (by omega)]
    · rw [if_neg q]; split
      · simp [QqQ]
      · rfl
  · simp only [Qd6, if_neg h1]
    refine Qcr (by simp [Qaj, XZ]) fun j hj => ?_
    have hj' : j < l.length := by simpa [Qaj, XZ] using hj
    rw [Qll (by simpa [Qaj, XZ] using hj')]
    rw [QeL, XZ, ZW hj']
    conv => rhs; rw [Qhs, ZW hj']
    by_cases e : c * m + (c - 1) = j
    · rw [if_pos e, if_pos (by omega), at' _ (by omega) (by omega), at' _ (by omega) (by omega)]
      subst e
      have := mod (c * m + (c - 1)) (by omega) (by omega)
      unfold QqQ
      rw [if_neg h1, if_neg (by rw [this]; omega), show c * m + (c - 1) - 1 = c * m + (c - 2) by omega]
    · rw [if_neg e]
      by_cases q : c * m ≤ j ∧ j < c * m + (c - 1)
      · rw [if_pos q, if_pos (by omega), at' _ (by omega) (by omega), at' _ (by omega) (by omega)]
        have := mod j (by omega) (by omega)
        unfold QqQ
        rw [if_neg h1, if_pos (by rw [this]; omega)]
      · rw [if_neg q, Qhs, ZW hj']
        by_cases r : j < c * m
        · rw [if_pos r, if_pos (by omega)]
        · rw [if_neg r, if_neg (by omega)]

def okM (c : Nat) (l : List Int) : Prop := 1 ≤ c ∧ c ≤ 6 ∧ 0 < l.length ∧ l.length ≤ 4000 ∧ l.length % c = 0 ∧ I32 l
theorem Qn3 {c : Nat} {l : List Int} (h : okM c l) : QaZ c l.length = 0 := by
  obtain ⟨h1, h2, h3, h4, h5, _⟩ := h
  unfold QaZ
  rw [if_neg (by omega), if_neg (by omega), if_neg (by rw [← Int.natCast_emod, h5]; simp)]

def Qhg (P : Prg) (f : Nat) : Prop := ∀ (c : Nat) (l : List Int), okM c l → VC P f [.int .i64 c, il l] (.tup [il (J6 c l), .int .i64 0])

theorem Qp5 {c m q : Nat} (h : c * m < c * q) : c * m + c ≤ c * q := by
  have : m < q := Nat.lt_of_mul_lt_mul_left h
  have := Nat.mul_le_mul_left c (show m + 1 ≤ q by omega)
  rw [Nat.mul_add, Nat.mul_one] at this
  exact this

theorem QrF {P : Prg} {f fC fK fM t : Nat} (b : Qm P f 32 [.tmp 4, .tmp 5] (Qc0 fC fK fM)) (hC : Qhh P fC) (hK : Qhp t P fK) (hM : Qsg P fM) : Qhg P f := by
  intro c l hok
  obtain ⟨h1, h2, h3, h4, h5, h6⟩ := id hok
  have hc := Qn3 hok
  obtain ⟨q, hq⟩ : ∃ q, l.length = c * q := ⟨l.length / c, by have := Nat.div_add_mod l.length c; omega⟩
  refine VC.of_walk 1 (by simp [isDL, isD, Q4]) (by simp [isD, isDL, Q4]) (ACall.of_body b (by simp) ?_)
  simp (maxSteps := 4000000) (disch := omega) only [rr, aop, cV, cV1, AV.one, Qb, okW, Qd, app, Qa, Qc, Qe, Qf, Qg, simprocAttr, Qc0]
  refine Qh.vc (hC c l) ?_
  have n0 : l.length ≠ 0 := by omega
  simp (maxSteps := 4000000) (disch := omega) only [rr, aop, cV, cV1, AV.one, Qb, okW, Qd, app, Qa, Qc, Qe, Qf, Qg, simprocAttr, hc, n0]
  refine hK l [] _ h3 (by omega) ?_
  simp (maxSteps := 4000000) (disch := omega) only [rr, aop, cV, cV1, AV.one, Qb, okW, Qd, app, Qa, Qc, Qe, Qf, Qg, simprocAttr, n0]
  refine QV.by (ι := Nat) (fun m => ⟨[(8, .int .i64 (c * m : Nat)), (7, .own 0 l.length), (0, .int .i64 c)], [⟨t, 1, l.length, ks .i32 (Qhs c l (c * m)), 0⟩]⟩) (fun m => m ≤ q) (fun m => q - m) 0 (by rw [Nat.mul_zero, QsD]; exact Le.slots (by simp [Am.look])) (by omega) ?_
  intro m hm
  by_cases hlt : c * m < l.length
  · have hs := Qp5 (c := c) (m := m) (q := q) (by rw [← hq]; exact hlt)
    rw [← hq] at hs
    have hmq : m < q := Nat.lt_of_mul_lt_mul_left (a := c) (b := m) (c := q) (by rw [← hq]; exact hlt)
    have e0 : c * m + c - c * m = c := by omega
    have hM' := hM t (Qhs c l (c * m)) (c * m) c
    rw [XZ, QrD h1 hs] at hM'
    simp (maxSteps := 4000000) (disch := omega) only [rr, aop, cV, cV1, AV.one, Qb, okW, Qd, app, Qa, Qc, Qe, Qf, Qg, simprocAttr, e0, n0]
    refine hM' _ (QlV h6 _) h1 hs (by omega) ?_
    simp (maxSteps := 4000000) (disch := omega) only [rr, aop, cV, cV1, AV.one, Qb, okW, Qd, app, Qa, Qc, Qe, Qf, Qg, simprocAttr]
    exact ⟨m + 1, by omega, by omega, by rw [show c * (m + 1) = c * m + c by rw [Nat.mul_add, Nat.mul_one]]; exact Le.slots (by simp [Am.look])⟩
  · have e : c * m = l.length := by
      have := Nat.mul_le_mul_left c hm
      omega
    rw [e, Qlu]
    have lm := Qfq c l
    simp (maxSteps := 4000000) (disch := omega) only [rr, aop, cV, cV1, AV.one, Qb, okW, Qd, app, Qa, Qc, Qe, Qf, Qg, simprocAttr]
    simp [ZJ, QX, frzL, QO, isDL, isD, il, lm, frzL_T _ (QK .i32 (J6 c l))]
end Go.Am

namespace Go.Am
open Go.RowKit

theorem Le.drop1 {o : Ob} {xs : List Ob} {fr fr' : List (Nat × AV)} (h : isTL o.cs = true)
    (hfr : ∀ p ∈ fr', p.2 = .any ∨ QX (fun o => decide (o < 1)) (fun o => decide (1 ≤ o)) (o :: xs) 2 [look fr p.1] = some [p.2]) : Le 0 ⟨fr, o :: xs⟩ ⟨fr', [o]⟩ := by
  refine Le.drop 1 2 (by omega) rfl hfr ?_
  intro i y hy
  match i, hy with
  | 0, hy =>
    simp at hy
    subst hy
    exact ⟨o.cs, by simp, by simp only [QX]; exact frzL_T _ h⟩
  | i + 1, hy => simp at hy

end Go.Am

namespace Go.Am
open Go.RowKit

def QbJ (c x : Int) (l : List Int) : Int := if Q8 c x ≠ 0 then 2 else if QJ x l ≠ 0 then QJ x l else if l.length = 0 ∨ (l.length : Int) % c ≠ 0 then 2 else 0
theorem Qg2 {c x : Int} {l : List Int} (h : Q8 c x = 2) : QbJ c x l = 2 := by simp [QbJ, h]
theorem Qg3 {c x : Int} {l : List Int} (h : Q8 c x = 0) (h2 : QJ x l ≠ 0) : QbJ c x l = QJ x l := by simp [QbJ, h, h2]
theorem Qev {c x : Int} {l : List Int} (h : Q8 c x = 0) (h2 : QJ x l = 0) (h3 : l.length = 0 ∨ (l.length : Int) % c ≠ 0) : QbJ c x l = 2 := by simp only [QbJ, h, h2, if_pos h3]; simp
theorem Qq6 {c x : Int} {l : List Int} (h : Q8 c x = 0) (h2 : QJ x l = 0) (h3 : ¬ (l.length = 0 ∨ (l.length : Int) % c ≠ 0)) : QbJ c x l = 0 := by simp only [QbJ, h, h2, if_neg h3]; simp
theorem Q2 (c x : Int) : Q8 c x = 2 ∨ (Q8 c x = 0 ∧ Jj x ≠ 0 ∧ 1 ≤ c ∧ c ≤ 6) := by unfold Q8; split <;> omega
theorem QcV (x : Int) (l : List Int) : QJ x l = 2 ∨ QJ x l = 4 ∨ QJ x l = 16 ∨ (QJ x l = 0 ∧ Jj x ≠ 0 ∧ l.length ≤ 4000) := by
  unfold QJ
  by_cases h : Jj x = 0
  · simp [h]
  by_cases h2 : 4000 < l.length
  · simp [h, h2]
  by_cases h3 : l.all (inR x)
  · simp [h, h2, h3]; omega
  · simp [h, h2, h3]
theorem QkV {c x : Int} {l : List Int} (hI : I32 l) (h : QbJ c x l = 0) : ∃ k : Nat, c = k ∧ okM k l ∧ Jj x ≠ 0 := by
  rcases Q2 c x with h1 | ⟨h1, h2, h3, h4⟩
  · rw [Qg2 h1] at h; omega
  by_cases h5 : QJ x l = 0
  · by_cases h6 : l.length = 0 ∨ (l.length : Int) % c ≠ 0
    · rw [Qev h1 h5 h6] at h; omega
    · obtain ⟨k, rfl⟩ : ∃ k : Nat, c = k := ⟨c.toNat, by omega⟩
      refine ⟨k, rfl, ⟨by omega, by omega, by omega, by rcases QcV x l with h | h | h | h <;> omega, by omega, hI⟩, h2⟩
  · rw [Qg3 h1 h5] at h; exact absurd h h5

def QfH (P : Prg) (f : Nat) : Prop := ∀ (c x : Int) (l : List Int), I32 l → VC P f [shA c x, il l] (.int .i64 (QbJ c x l))

theorem Qgr {P : Prg} {f fE fW t0 : Nat} (b : Qm P f 30 [.tmp 4] (XQ fE fW t0)) (hE : JH P fE) (hW : QaG P fW) : QfH P f := by
  intro c x l hI
  refine VC.of_acall (by simp [isDL, isD, Q4, shA]) rfl (ACall.of_body b (by simp) ?_)
  have hE' := hE c x
  rw [shA] at hE'
  simp (maxSteps := 4000000) (disch := omega) only [rr, aop, cV, cV1, AV.one, Qb, okW, Qd, app, Qa, Qc, Qe, Qf, Qg, simprocAttr, XQ, shA]
  refine Qh.vc hE' ?_
  rcases Q2 c x with h1 | ⟨h1, h2, h3, h4⟩
  · simp (maxSteps := 4000000) (disch := omega) only [rr, aop, cV, cV1, AV.one, Qb, okW, Qd, app, Qa, Qc, Qe, Qf, Qg, simprocAttr, h1, Qg2 h1]
  simp (maxSteps := 4000000) (disch := omega) only [rr, aop, cV, cV1, AV.one, Qb, okW, Qd, app, Qa, Qc, Qe, Qf, Qg, simprocAttr, h1]
  refine Qh.vc (hW x l hI) ?_
  by_cases h5 : QJ x l = 0
  · have h9 : l.length ≤ 4000 := by rcases QcV x l with h | h | h | h <;> omega
    by_cases h6 : l.length = 0
    · simp (maxSteps := 4000000) (disch := omega) only [rr, aop, cV, cV1, AV.one, Qb, okW, Qd, app, Qa, Qc, Qe, Qf, Qg, simprocAttr, h5, il, h6, Qev h1 h5 (.inl h6)]
    · by_cases h7 : (l.length : Int) % c = 0
      · have hm := J5 (n := l.length) (c := c) (by omega)
        simp (maxSteps := 4000000) (disch := omega) only [rr, aop, cV, cV1, AV.one, Qb, okW, Qd, app, Qa, Qc, Qe, Qf, Qg, simprocAttr, h5, il, h6, h7, Qq6 h1 h5 (by omega)]
      · have hm := J5 (n := l.length) (c := c) (by omega)
        simp (maxSteps := 4000000) (disch := omega) only [rr, aop, cV, cV1, AV.one, Qb, okW, Qd, app, Qa, Qc, Qe, Qf, Qg, simprocAttr, h5, il, h6, h7, Qev h1 h5 (.inr h7)]
  · simp (maxSteps := 4000000) (disch := omega) only [rr, aop, cV, cV1, AV.one, Qb, okW, Qd, app, Qa, Qc, Qe, Qf, Qg, simprocAttr, h5, Qg3 h1 h5]

theorem QjW {P : Prg} {f fE fW t0 : Nat} (b : Qm P f 28 [.tmp 4] (ZC fE fW t0)) (hE : JH P fE) (hW : QaG P fW) : QfH P f := by
  intro c x l hI
  refine VC.of_acall (by simp [isDL, isD, Q4, shA]) rfl (ACall.of_body b (by simp) ?_)
  have hE' := hE c x
  rw [shA] at hE'
  simp (maxSteps := 4000000) (disch := omega) only [rr, aop, cV, cV1, AV.one, Qb, okW, Qd, app, Qa, Qc, Qe, Qf, Qg, simprocAttr, ZC, shA]
  refine Qh.vc hE' ?_
  rcases Q2 c x with h1 | ⟨h1, h2, h3, h4⟩
  · simp (maxSteps := 4000000) (disch := omega) only [rr, aop, cV, cV1, AV.one, Qb, okW, Qd, app, Qa, Qc, Qe, Qf, Qg, simprocAttr, h1, Qg2 h1]
  simp (maxSteps := 4000000) (disch := omega) only [rr, aop, cV, cV1, AV.one, Qb, okW, Qd, app, Qa, Qc, Qe, Qf, Qg, simprocAttr, h1]
  refine Qh.vc (hW x l hI) ?_
  by_cases h5 : QJ x l = 0
  · have h9 : l.length ≤ 4000 := by rcases QcV x l with h | h | h | h <;> omega
    by_cases h6 : l.length = 0
    · simp (maxSteps := 4000000) (disch := omega) only [rr, aop, cV, cV1, AV.one, Qb, okW, Qd, app, Qa, Qc, Qe, Qf, Qg, simprocAttr, h5, il, h6, Qev h1 h5 (.inl h6)]
    · by_cases h7 : (l.length : Int) % c = 0
      · have hm := J5 (n := l.length) (c := c) (by omega)
        simp (maxSteps := 4000000) (disch := omega) only [rr, aop, cV, cV1, AV.one, Qb, okW, Qd, app, Qa, Qc, Qe, Qf, Qg, simprocAttr, h5, il, h6, h7, Qq6 h1 h5 (by omega)]
      · have hm := J5 (n := l.length) (c := c) (by omega)
        have hp : 0 < (l.length : Int) % c := by omega
        simp (maxSteps := 4000000) (disch := omega) only [rr, aop, cV, cV1, AV.one, Qb, okW, Qd, app, Qa, Qc, Qe, Qf, Qg, simprocAttr, h5, il, h6, h7, Qev h1 h5 (.inr h7)]
  · simp (maxSteps := 4000000) (disch := omega) only [rr, aop, cV, cV1, AV.one, Qb, okW, Qd, app, Qa, Qc, Qe, Qf, Qg, simprocAttr, h5]
    refine Qh.vc (hW x l hI) ?_
    simp (maxSteps := 4000000) (disch := omega) only [rr, aop, cV, cV1, AV.one, Qb, okW, Qd, app, Qa, Qc, Qe, Qf, Qg, simprocAttr, Qg3 h1 h5]

end Go.Am

namespace Go.Am
open Go.RowKit

/-! ### Six channels in one array -/

def six (S : Nat → Ja) : List AV := Zb (S 0) ++ (Zb (S 1) ++ (Zb (S 2) ++ (Zb (S 3) ++ (Zb (S 4) ++ Zb (S 5)))))
def okS (S : Nat → Ja) : Prop := ∀ k, QaY (S k).fl
theorem QjG {S : Nat → Ja} (h : okS S) : (six S).length = 210 := by simp [six, Xy (h _)]
theorem QtF {k : Nat} (h : k < 6) : k = 0 ∨ k = 1 ∨ k = 2 ∨ k = 3 ∨ k = 4 ∨ k = 5 := by omega
theorem Qsu {S : Nat → Ja} (h : okS S) {k : Nat} (hk : k < 6) : ((six S).drop (k * 35)).take 35 = Zb (S k) := by
  have l := fun k => Xy (h k)
  rcases QtF hk with rfl | rfl | rfl | rfl | rfl | rfl <;> simp [six, List.drop_append, List.take_append, l, List.drop_eq_nil_of_le, Qz]
def upd (S : Nat → Ja) (k : Nat) (c : Ja) : Nat → Ja := fun j => if j = k then c else S j
theorem QnC {S : Nat → Ja} (h : okS S) {k : Nat} (hk : k < 6) (c : Ja) : (six S).take (k * 35) ++ Zb c ++ (six S).drop (k * 35 + 35) = six (upd S k c) := by
  have l := fun k => Xy (h k)
  rcases QtF hk with rfl | rfl | rfl | rfl | rfl | rfl <;> simp [six, upd, List.drop_append, List.take_append, l, List.drop_eq_nil_of_le, Qz]
theorem Qod (c : Ja) : isTL (Zb c) = true := by simp [Zb, Qq, isTL, isT, Qec, QK]
theorem Qqh (S : Nat → Ja) : isTL (six S) = true := by simp [six, Qec, Qod]
theorem Qsc (S : Nat → Ja) : (six S).all AV.one = true := by simp only [six, List.all_append, JB, Bool.and_self]

/-! ### What is coded -/

def stC (c : Nat) (L : List Int) (z : Ja) (k : Nat) : Nat → Ja
  | 0 => z
  | n + 1 => QaM (stC c L z k n) (L.getD (k + n * c) 0)
def QtI (c : Nat) (L : List Int) (z : Ja) (j : Nat) : Int := Qir (QkF (stC c L z (j % c) (j / c)) (L.getD j 0))
def Qje (c : Nat) (L : List Int) (z : Ja) (a : Nat) : List Int := (List.range a).map (QtI c L z)
theorem Qgd (c : Nat) (L : List Int) (z : Ja) (a : Nat) : (Qje c L z a).length = a := by simp [Qje]
theorem QnY (c : Nat) (L : List Int) (z : Ja) (a : Nat) : Qje c L z a ++ [QtI c L z a] = Qje c L z (a + 1) := by simp [Qje, List.range_succ]
theorem Qn0 {c : Nat} {L : List Int} {z : Ja} (hL : I32 L) (hz : QqP z) (k : Nat) : ∀ n, QqP (stC c L z k n)
  | 0 => hz
  | n + 1 => QjZ (Qn0 hL hz k n) (Xx hL _)

def cnt (c k i : Nat) : Nat := if k < i % c then i / c + 1 else i / c
theorem Qty (c k : Nat) : cnt c k 0 = 0 := by simp [cnt]
theorem QqC (c i : Nat) : cnt c (i % c) i = i / c := by simp [cnt]
theorem QqB {c k i : Nat} (hk : k < c) : cnt c k (i + 1) = if k = i % c then i / c + 1 else cnt c k i := by
  have hc : 0 < c := by omega
  have hr := Nat.mod_lt i hc
  have hi := Nat.div_add_mod i c
  unfold cnt
  by_cases h : i % c + 1 < c
  · have e1 : (i + 1) % c = i % c + 1 := by
      rw [show i + 1 = c * (i / c) + (i % c + 1) by omega, Nat.mul_add_mod, Nat.mod_eq_of_lt h]
    have e2 : (i + 1) / c = i / c := by
      rw [show i + 1 = (i % c + 1) + c * (i / c) by omega, Nat.add_mul_div_left _ _ hc, Nat.div_eq_of_lt h, Nat.zero_add]
    rw [e1, e2]
    split <;> split <;> (try split) <;> omega
  · have e0 : i + 1 = c * (i / c + 1) := by rw [Nat.mul_add]; omega
    have e1 : (i + 1) % c = 0 := by rw [e0, Nat.mul_mod_right]
    have e2 : (i + 1) / c = i / c + 1 := by rw [e0, Nat.mul_div_cancel_left _ hc]
    rw [e1, e2]
    split <;> split <;> (try split) <;> omega
def stA (c : Nat) (L : List Int) (z : Ja) (i : Nat) : Nat → Ja := fun k => if k < c then stC c L z k (cnt c k i) else z
theorem Qtk (c : Nat) (L : List Int) (z : Ja) : stA c L z 0 = fun _ => z := by
  funext k; simp [stA, Qty, stC]
theorem Qss {c : Nat} (hc : 1 ≤ c) (L : List Int) (z : Ja) (i : Nat) : stA c L z i (i % c) = stC c L z (i % c) (i / c) := by
  rw [stA, if_pos (Nat.mod_lt _ (by omega)), QqC]
theorem QpI {c : Nat} (hc : 1 ≤ c) (L : List Int) (z : Ja) (i : Nat) : upd (stA c L z i) (i % c) (QaM (stC c L z (i % c) (i / c)) (L.getD i 0)) = stA c L z (i + 1) := by
  funext k
  have hr := Nat.mod_lt i (show 0 < c by omega)
  by_cases hk : k < c
  · simp only [upd, stA, if_pos hk, QqB hk]
    by_cases e : k = i % c
    · rw [if_pos e, if_pos e, e, stC]
      rw [show i % c + i / c * c = i by have := Nat.div_add_mod i c; rw [Nat.mul_comm]; omega]
    · rw [if_neg e, if_neg e]
  · simp only [upd, stA, if_neg hk]
    rw [if_neg (by omega)]
theorem QsB {c : Nat} {L : List Int} {z : Ja} (hL : I32 L) (hz : QqP z) (i : Nat) : okS (stA c L z i) := fun k => by
  unfold stA; split
  · exact (Qn0 hL hz k _).2.2.1
  · exact hz.2.2.1
def Qre (l : List Int) : AV := .list l.length (ks .u32 l)
theorem Qqj (l : List Int) : isD (Qre l) = true := by simp [Qre, isD, QT]
theorem Le.dropT (os : List Ob) {xs : List Ob} {fr fr' : List (Nat × AV)} (h : ∀ o ∈ os, isTL o.cs = true)
    (hfr : ∀ p ∈ fr', p.2 = .any ∨ QX (fun o => decide (o < os.length)) (fun o => decide (os.length ≤ o)) (os ++ xs) 2 [look fr p.1] = some [p.2]) : Le 0 ⟨fr, os ++ xs⟩ ⟨fr', os⟩ := by
  refine Le.drop os.length 2 (by omega) rfl hfr ?_
  intro i y hy
  have hi : i < os.length := by
    rcases Nat.lt_or_ge i os.length with h | h
    · exact h
    · rw [List.getElem?_eq_none h] at hy; cases hy
  refine ⟨y.cs, by rw [List.getElem?_append_left hi]; exact hy, ?_⟩
  simp only [QX]
  exact frzL_T _ (h y (List.mem_of_getElem? hy))
end Go.Am

namespace Go.Am
open Go.RowKit

def Qpz (c x : Int) (t l : List Int) : AV := if QbJ c x l ≠ 0 then .tup [.list 0 [], .int .i64 (QbJ c x l)] else .tup [Qre (Qje c.toNat (J6 c.toNat l) (QcP x t) l.length), .int .i64 0]
theorem QrJ (c x : Int) (t l : List Int) : isD (Qpz c x t l) = true := by unfold Qpz; split <;> simp [isD, isDL, Qqj]
def Qk3 (P : Prg) (f : Nat) : Prop := ∀ (c x : Int) (t l : List Int), t.length = 16 → I32 t → I32 l → VC P f [shA c x, .agg (ks .i32 t), il l] (Qpz c x t l)

theorem Qgf : QaY QbY.fl := ⟨by simp [QbY, Qhu, z16], by simp [QbY, Qhu, z16], fun x hx => by simp [QbY, Qhu, z16] at hx; omega, fun x hx => by simp [QbY, Qhu, z16] at hx; omega⟩
def Qps (z : Ja) (i : Nat) : Nat → Ja := fun k => if k < i then z else QbY
theorem QsC (z : Ja) : Qps z 0 = fun _ => QbY := by funext k; simp [Qps]
theorem Qn5 (z : Ja) (i : Nat) : upd (Qps z i) i z = Qps z (i + 1) := by
  funext k
  simp only [upd, Qps]
  split <;> split <;> (try split) <;> first | rfl | omega
theorem QrA {z : Ja} (h : QaY z.fl) (i : Nat) : okS (Qps z i) := fun k => by
  unfold Qps; split
  · exact h
  · exact Qgf
theorem Qtl (z : Ja) : six (Qps z 6) = six (fun _ => z) := by simp [six, Qps]
theorem QrB {x : Int} (hx : Jj x ≠ 0) {t : List Int} (hl : t.length = 16) (hI : I32 t) : QqP (QcP x t) := ⟨hx, rfl, Qn2 hl hI, by simp [QcP]⟩

set_option maxRecDepth 20000 in
theorem QeZ {P : Prg} {f fA fM fN fF fO t0 t1 t2 t3 t4 : Nat} (b : Qm P f 83 [.tmp 6, .tmp 7] (Xw fA fM fN fF fO t0 t1 t2 t3 t4)) (hA : QfH P fA) (hM : Qhg P fM) (hN : Qpj P fN) (hF : Qc4 P fF) (hO : Qpg P fO) : Qk3 P f := by
  intro c x t l hl hI hL
  have hk : (ks .i32 t).length = 16 := by simp [Ql, hl]
  have ot := J7 .i32 t
  have tt : (ks .i32 t).take 16 = ks .i32 t := Qz (by omega)
  refine VC.of_walk 1 (by simp [isDL, isD, Q4, QT, shA]) (QrJ _ _ _ _) (ACall.of_body b (by simp) ?_)
  have hA' := hA c x l hL
  rw [shA] at hA'
  unfold Xw
  rw [show ([.int .i64 0, .int .i32 0, .int .i64 0, .int .i32 0, .int .i32 0, .int .i32 0, .int .i32 0, .int .i32 0, .int .i32 0, .int .i32 0, .int .i32 0, .int .i32 0, .int .i32 0, .int .i32 0, .int .i32 0, .int .i32 0, .int .i32 0, .int .i32 0, .int .i32 0, .int .i32 0, .int .i32 0, .int .i32 0, .int .i32 0, .int .i32 0, .int .i32 0, .int .i32 0, .int .i32 0, .int .i32 0, .int .i32 0, .int .i32 0, .int .i32 0, .int .i32 0, .int .i32 0, .int .i32 0, .int .i32 0, .int .i64 0, .int .i32 0, .int .i64 0, .int .i32 0, .int .i32 0, .int .i32 0, .int .i32 0, .int .i32 0, .int .i32 0, .int .i32 0, .int .i32 0, .int .i32 0, .int .i32 0, .int .i32 0, .int .i32 0, .int .i32 0, .int .i32 0, .int .i32 0, .int .i32 0, .int .i32 0, .int .i32 0, .int .i32 0, .int .i32 0, .int .i32 0, .int .i32 0, .int .i32 0, .int .i32 0, .int .i32 0, .int .i32 0, .int .i32 0, .int .i32 0, .int .i32 0, .int .i32 0, .int .i32 0, .int .i32 0, .int .i64 0, .int .i32 0, .int .i64 0, .int .i32 0, .int .i32 0, .int .i32 0, .int .i32 0, .int .i32 0, .int .i32 0, .int .i32 0, .int .i32 0, .int .i32 0, .int .i32 0, .int .i32 0, .int .i32 0, .int .i32 0, .int .i32 0, .int .i32 0, .int .i32 0, .int .i32 0, .int .i32 0, .int .i32 0, .int .i32 0, .int .i32 0, .int .i32 0, .int .i32 0, .int .i32 0, .int .i32 0, .int .i32 0, .int .i32 0, .int .i32 0, .int .i32 0, .int .i32 0, .int .i32 0, .int .i32 0, .int .i64 0, .int .i32 0, .int .i64 0, .int .i32 0, .int .i32 0, .int .i32 0, .int .i32 0, .int .i32 0, .int .i32 0, .int .i32 0, .int .i32 0, .int .i32 0, .int .i32 0, .int .i32 0, .int .i32 0, .int .i32 0, .int .i32 0, .int .i32 0, .int .i32 0, .int .i32 0, .int .i32 0, .int .i32 0, .int .i32 0, .int .i32 0, .int .i32 0, .int .i32 0, .int .i32 0, .int .i32 0, .int .i32 0, .int .i32 0, .int .i32 0, .int .i32 0, .int .i32 0, .int .i32 0, .int .i32 0, .int .i64 0, .int .i32 0, .int .i64 0, .int .i32 0, .int .i32 0, .int .i32 0, .int .i32 0, .int .i32 0, .int .i32 0, .int .i32 0, .int .i32 0, .int .i32 0, .int .i32 0, .int .i32 0, .int .i32 0, .int .i32 0, .int .i32 0, .int .i32 0, .int .i32 0, .int .i32 0, .int .i32 0, .int .i32 0, .int .i32 0, .int .i32 0, .int .i32 0, .int .i32 0, .int .i32 0, .int .i32 0, .int .i32 0, .int .i32 0, .int .i32 0, .int .i32 0, .int .i32 0, .int .i32 0, .int .i32 0, .int .i64 0, .int .i32 0, .int .i64 0, .int .i32 0, .int .i32 0, .int .i32 0, .int .i32 0, .int .i32 0, .int .i32 0, .int .i32 0, .int .i32 0, .int .i32 0, .int .i32 0, .int .i32 0, .int .i32 0, .int .i32 0, .int .i32 0, .int .i32 0, .int .i32 0, .int .i32 0, .int .i32 0, .int .i32 0, .int .i32 0, .int .i32 0, .int .i32 0, .int .i32 0, .int .i32 0, .int .i32 0, .int .i32 0, .int .i32 0, .int .i32 0, .int .i32 0, .int .i32 0, .int .i32 0, .int .i32 0] : List AV) = six (fun _ => QbY) from rfl, ← Qdv]
  simp (maxSteps := 4000000) (disch := omega) only [rr, aop, cV, cV1, AV.one, Qb, okW, Qd, app, Qa, Qc, Qe, Qf, Qg, simprocAttr, shA, hk, ot, tt]
  refine Qh.vc hA' ?_
  by_cases h0 : QbJ c x l = 0
  · obtain ⟨k, rfl, hok, hx⟩ := QkV hL h0
    have hz := QrB hx hl hI
    have l0 := QjG (S := fun _ => QbY) (fun _ => Qgf)
    have o0 := Qsc (fun _ => QbY)
    simp (maxSteps := 4000000) (disch := omega) only [rr, aop, cV, cV1, AV.one, Qb, okW, Qd, app, Qa, Qc, Qe, Qf, Qg, simprocAttr, h0]
    refine Qh.vc (hM k l hok) ?_
    obtain ⟨h1, h2, h3, h4, h5, h6⟩ := id hok
    have lm := Qfq k l
    have hI2 := Qm1 (c := k) hL
    have tm : isTL (ks .i32 (J6 k l)) = true := QK _ _
    generalize hm : J6 k l = m at lm hI2 tm
    simp (maxSteps := 4000000) (disch := omega) only [rr, aop, cV, cV1, AV.one, Qb, okW, Qd, app, Qa, Qc, Qe, Qf, Qg, simprocAttr, l0, o0]
    refine QV.by (ι := Nat) (fun i => ⟨[(36, .int .i64 i), (11, .ref 2 1 0), (9, il m), (4, .ref 1 1 0), (3, .ref 0 1 0)], [⟨t0, 2, 1, [.int .i64 k, .int .i64 x], 0⟩, ⟨t1, 16, 1, ks .i32 t, 0⟩, ⟨t2, 210, 1, six (Qps (QcP x t) i), 0⟩]⟩) (fun i => i ≤ 6) (fun i => 6 - i) 0 (by rw [QsC]; exact Le.slots (by simp [Am.look])) (by omega) ?_
    intro i hi
    have oS := QrA hz.2.2.1 i
    have lS := QjG oS
    by_cases hlt : i < 6
    · have e1 := QnC oS hlt (QcP x t)
      rw [Qn5] at e1
      have lc := Xy hz.2.2.1
      have oc := JB (QcP x t)
      simp (maxSteps := 4000000) (disch := omega) only [rr, aop, cV, cV1, AV.one, Qb, okW, Qd, app, Qa, Qc, Qe, Qf, Qg, simprocAttr, hk, tt]
      refine Qh.vc (hN x t hl hI) ?_
      simp (maxSteps := 4000000) (disch := omega) only [rr, aop, cV, cV1, AV.one, Qb, okW, Qd, app, Qa, Qc, Qe, Qf, Qg, simprocAttr, QmI, if_neg hx, lS, lc, oc, e1]
      exact ⟨i + 1, by omega, by omega, Le.slots (by simp [Am.look])⟩
    · have : i = 6 := by omega
      subst this
      simp (maxSteps := 4000000) (disch := omega) only [rr, aop, cV, cV1, AV.one, Qb, okW, Qd, app, Qa, Qc, Qe, Qf, Qg, simprocAttr, il]
      refine QV.by (ι := Nat) (fun i => ⟨[(51, .int .i64 i), (50, .int .i64 m.length), (49, il m), (13, .own 3 i), (11, .ref 2 1 0), (3, .ref 0 1 0)], [⟨t0, 2, 1, [.int .i64 k, .int .i64 x], 0⟩, ⟨t1, 16, 1, ks .i32 t, 0⟩, ⟨t2, 210, 1, six (stA k m (QcP x t) i), 0⟩, ⟨t4, 1, i, ks .u32 (Qje k m (QcP x t) i), 0⟩]⟩) (fun i => i ≤ m.length) (fun i => m.length - i) 0 (by rw [Qtk, ← Qtl]; exact Le.trans (Le.virt 13 t4 1 (by omega) rfl) (Le.slots (by simp [Am.look, Qje, il]))) (by omega) ?_
      intro i hi
      have lo := Qgd k m (QcP x t) i
      by_cases hlt : i < m.length
      · have oS := QsB hI2 hz (c := k) i
        have lS := QjG oS
        have hr := Nat.mod_lt i (show 0 < k by omega)
        have e0 := Qsu oS (k := i % k) (by omega)
        rw [Qss h1] at e0
        have e1 := QnC oS (k := i % k) (by omega) (QaM (stC k m (QcP x t) (i % k) (i / k)) (m.getD i 0))
        rw [QpI h1] at e1
        have hok2 := Qn0 (c := k) hI2 hz (i % k) (i / k)
        have hok3 := QjZ hok2 (Xx hI2 i)
        have hF' := hF _ (m.getD i 0) hok2 (Xx hI2 i)
        have hO' := hO (QkF (stC k m (QcP x t) (i % k) (i / k)) (m.getD i 0)) (QbL _)
        have e2 := Qea (K := .i32) (l := m) (i := i) hlt
        have e3 : ks .u32 (Qje k m (QcP x t) i) ++ [.int .u32 (Qir (QkF (stC k m (QcP x t) (i % k) (i / k)) (m.getD i 0)))] = ks .u32 (Qje k m (QcP x t) (i + 1)) := by rw [Qj6, ← QnY]; rfl
        have lc := Xy hok3.2.2.1
        have oc := JB (QaM (stC k m (QcP x t) (i % k) (i / k)) (m.getD i 0))
        have tc : (Zb (QaM (stC k m (QcP x t) (i % k) (i / k)) (m.getD i 0))).take 35 = Zb (QaM (stC k m (QcP x t) (i % k) (i / k)) (m.getD i 0)) := Qz (by omega)
        have lz := Xy Qgf
        have oz := JB QbY
        have dz : (Zb QbY).drop 35 = [] := List.drop_eq_nil_of_le (by omega)
        have em : (i : Int) % k = (i % k : Nat) := by omega
        simp (maxSteps := 4000000) (disch := omega) only [rr, aop, cV, cV1, AV.one, Qb, okW, Qd, app, Qa, Qc, Qe, Qf, Qg, simprocAttr, il, e2, em, e0]
        refine Qh.vc hF' ?_
        simp (maxSteps := 4000000) (disch := omega) only [rr, aop, cV, cV1, AV.one, Qb, okW, Qd, app, Qa, Qc, Qe, Qf, Qg, simprocAttr, lz, oz, lc, oc, tc, e1, lS, dz, List.append_nil]
        refine Qh.vc hO' ?_
        simp (maxSteps := 4000000) (disch := omega) only [rr, aop, cV, cV1, AV.one, Qb, okW, Qd, app, Qa, Qc, Qe, Qf, Qg, simprocAttr, e3]
        exact ⟨i + 1, by omega, by omega, Le.dropT [_, _, _, _] (by simp [Qqh, QK, isTL, isT]) (by simp [Am.look, QX, frzL, QO, frzL_T _ tm])⟩
      · have : i = m.length := by omega
        subst this
        have e9 : Qpz k x t l = .tup [Qre (Qje k m (QcP x t) m.length), .int .i64 0] := by simp [Qpz, h0, hm, lm]
        clear hi hlt
        have hq : ¬ (m.length : Int) < m.length := by omega
        simp (maxSteps := 4000000) (disch := omega) only [rr, aop, cV, cV1, AV.one, Qb, okW, Qd, app, Qa, Qc, Qe, Qf, Qg, simprocAttr, e9]
        simp [ZJ, QX, frzL, QO, isDL, isD, Qre, lo, frzL_T _ (QK .u32 _)]
  · have e9 : Qpz c x t l = .tup [.list 0 [], .int .i64 (QbJ c x l)] := by simp [Qpz, h0]
    simp (maxSteps := 4000000) (disch := omega) only [rr, aop, cV, cV1, AV.one, Qb, okW, Qd, app, Qa, Qc, Qe, Qf, Qg, simprocAttr, h0, e9]
    simp [ZJ, QX, frzL, QO, isDL, isD]
end Go.Am

namespace Go.Am
open Go.RowKit

theorem Qln (K : IntKind) : ∀ n : Nat, Qn [.int K 0] n = ks K (List.replicate n 0)
  | 0 => rfl
  | n + 1 => by rw [Qn, Qln K n]; simp [ks, List.replicate_succ]

end Go.Am

namespace Go.Am
open Go.RowKit

def Qsp : Sh := .tuple (List.replicate 16 (.int .i32))
theorem Qfw (K : IntKind) : ∀ (n : Nat) (cs0 : List AV), FitsL (List.replicate n (.int K)) cs0 → ∃ t : List Int, cs0 = ks K t ∧ t.length = n ∧ ∀ x ∈ t, K.min ≤ x ∧ x ≤ K.max
  | 0, cs0, h => by
    simp only [List.replicate, FitsL] at h
    exact ⟨[], by simpa [ks] using h, rfl, by simp⟩
  | n + 1, cs0, h => by
    simp only [List.replicate, FitsL, QaI] at h
    obtain ⟨_, r, rfl, ⟨x, rfl, h1, h2⟩, h3⟩ := h
    obtain ⟨t, rfl, h4, h5⟩ := Qfw K n r h3
    exact ⟨x :: t, by simp [ks], by simp [h4], fun y hy => by
      rcases List.mem_cons.1 hy with rfl | hy
      · exact ⟨h1, h2⟩
      · exact h5 y hy⟩
theorem QsM {cs0 : List AV} (h : QaI Qsp cs0) : ∃ t : List Int, cs0 = ks .i32 t ∧ t.length = 16 ∧ I32 t := by
  simp only [Qsp, QaI] at h
  obtain ⟨t, h1, h2, h3⟩ := Qfw .i32 16 cs0 h
  exact ⟨t, h1, h2, fun x hx => by have := h3 x hx; simpa [IntKind.min, IntKind.max, IntKind.signed, IntKind.bits] using this⟩
end Go.Am

namespace Go.Am
open Go.RowKit

/-! ### What is uncoded -/

def U32 (l : List Int) : Prop := ∀ x ∈ l, 0 ≤ x ∧ x < 4294967296
end Go.Am

namespace Go.Am
open Go.RowKit

def Qej (r n : Int) : AV := if r < 1 ∨ 1048576 < r then .tup [.int .i64 0, .int .i64 2] else if n < 1 ∨ 4000 < n then .tup [.int .i64 0, .int .i64 2] else if 1000 < (n + Qy r - 1) / Qy r then .tup [.int .i64 0, .int .i64 4] else .tup [.int .i64 ((n + Qy r - 1) / Qy r), .int .i64 0]
theorem Qoi (r n : Int) : isD (Qej r n) = true := by unfold Qej; split <;> (try split) <;> (try split) <;> rfl
def XI (P : Prg) (f : Nat) : Prop := ∀ r n : Int, VC P f [.int .i64 r, .int .i64 n] (Qej r n)

theorem Qgi {P : Prg} {f fL : Nat} (b : Qm P f 32 [.tmp 4, .tmp 5] (XP fL)) (hL : QaH P fL) : XI P f := by
  intro r n
  refine VC.of_acall rfl (Qoi _ _) (ACall.of_body b (by simp) ?_)
  have hL' := hL r
  simp (maxSteps := 4000000) (disch := omega) only [rr, aop, cV, cV1, AV.one, Qb, okW, Qd, app, Qa, Qc, Qe, Qf, Qg, simprocAttr, XP]
  refine Qh.vc hL' ?_
  by_cases h1 : r < 1 ∨ 1048576 < r
  · have e1 : QaL r = .tup [.int .i64 0, .int .i64 2] := by rw [QaL, if_pos h1]
    have e2 : Qej r n = .tup [.int .i64 0, .int .i64 2] := by rw [Qej, if_pos h1]
    simp (maxSteps := 4000000) (disch := omega) only [rr, aop, cV, cV1, AV.one, Qb, okW, Qd, app, Qa, Qc, Qe, Qf, Qg, simprocAttr, e1, e2]
  have e1 : QaL r = .tup [.int .i64 (Qy r), .int .i64 0] := by rw [QaL, if_neg h1]
  have p1 := ZO r
  have p2 := Qly (r := r) (by omega)
  by_cases h2 : n < 1
  · have e2 : Qej r n = .tup [.int .i64 0, .int .i64 2] := by rw [Qej, if_neg h1, if_pos (.inl h2)]
    simp (maxSteps := 4000000) (disch := omega) only [rr, aop, cV, cV1, AV.one, Qb, okW, Qd, app, Qa, Qc, Qe, Qf, Qg, simprocAttr, e1, e2]
  by_cases h3 : 4000 < n
  · have e2 : Qej r n = .tup [.int .i64 0, .int .i64 2] := by rw [Qej, if_neg h1, if_pos (.inr h3)]
    simp (maxSteps := 4000000) (disch := omega) only [rr, aop, cV, cV1, AV.one, Qb, okW, Qd, app, Qa, Qc, Qe, Qf, Qg, simprocAttr, e1, e2]
  have e2 : Qej r n = if 1000 < (n + Qy r - 1) / Qy r then .tup [.int .i64 0, .int .i64 4] else .tup [.int .i64 ((n + Qy r - 1) / Qy r), .int .i64 0] := by
    rw [Qej, if_neg h1, if_neg (by omega)]
  generalize Qy r = L at *
  have q0 : (n + L - 1).tdiv L = (n + L - 1) / L := Int.tdiv_eq_ediv_of_nonneg (by omega)
  have q1 : 0 ≤ (n + L - 1) / L := Int.ediv_nonneg (by omega) (by omega)
  have q2 : (n + L - 1) / L ≤ n + L - 1 := Int.ediv_le_self _ (by omega)
  generalize hq : (n + L - 1) / L = Q at *
  by_cases h4 : 1000 < Q
  · rw [if_pos h4] at e2
    simp (maxSteps := 4000000) (disch := omega) only [rr, aop, cV, cV1, AV.one, Qb, okW, Qd, app, Qa, Qc, Qe, Qf, Qg, simprocAttr, e1, q0, hq, e2]
  · rw [if_neg h4] at e2
    simp (maxSteps := 4000000) (disch := omega) only [rr, aop, cV, cV1, AV.one, Qb, okW, Qd, app, Qa, Qc, Qe, Qf, Qg, simprocAttr, e1, q0, hq, e2]

def XH (P : Prg) (f : Nat) : Prop := ∀ (c x r : Int) (l : List Int), VC P f [.agg [.int .i64 c, .int .i64 x, .int .i64 r, il l]] (shA c x)
theorem QmJ {P : Prg} {f t0 t1 : Nat} (b : Qm P f 8 [.cell 2 t1] (QaC t0 t1)) (ht : Xb P t1 = some (some 2)) : XH P f := by
  intro c x r l
  refine VC.of_acall (by simp [isDL, isD, Q4]) rfl (ACall.of_body b (by simp) ?_)
  simp (maxSteps := 4000000) (disch := omega) only [rr, aop, cV, cV1, AV.one, Qb, okW, Qd, app, Qa, Qc, Qe, Qf, Qg, simprocAttr, QaC, il, Z1, ht, shA]
theorem QjR {P : Prg} {f t0 t1 : Nat} (b : Qm P f 8 [.cell 2 t1] (Zz t0 t1)) (ht : Xb P t1 = some (some 2)) : XH P f := by
  intro c x r l
  refine VC.of_acall (by simp [isDL, isD, Q4]) rfl (ACall.of_body b (by simp) ?_)
  simp (maxSteps := 4000000) (disch := omega) only [rr, aop, cV, cV1, AV.one, Qb, okW, Qd, app, Qa, Qc, Qe, Qf, Qg, simprocAttr, Zz, il, Z1, ht, shA]

def QfB (r n : Int) : Int := if r < 1 ∨ 1048576 < r then 2 else if n < 1 ∨ 4000 < n then 2 else if 1000 < (n + Qy r - 1) / Qy r then 4 else 0
theorem QgD (r n : Int) : ∃ k : Int, Qej r n = .tup [.int .i64 k, .int .i64 (QfB r n)] := by
  unfold Qej QfB
  split
  · exact ⟨_, rfl⟩
  split
  · exact ⟨_, rfl⟩
  split
  · exact ⟨_, rfl⟩
  · exact ⟨_, rfl⟩
def ZP (c x r n : Int) : Int := if Q8 c x ≠ 0 then 8 else if n < 1 then 8 else if 4000 / c < n then 8 else if QfB r n ≠ 0 then 8 else 0
def Qk7 (P : Prg) (f : Nat) : Prop := ∀ (c x r n : Int) (l : List Int), VC P f [.agg [.int .i64 c, .int .i64 x, .int .i64 r, il l], .int .i64 n] (.int .i64 (ZP c x r n))
theorem QoN {P : Prg} {f fS fE fC t0 : Nat} (b : Qm P f 31 [.tmp 4] (Qa5 fS fE fC t0)) (hS : XH P fS) (hE : JH P fE) (hC : XI P fC) : Qk7 P f := by
  intro c x r n l
  refine VC.of_acall (by simp [isDL, isD, Q4]) rfl (ACall.of_body b (by simp) ?_)
  have hS' := hS c x r l
  have hE' := hE c x
  rw [shA] at hS' hE'
  rw [il] at hS'
  obtain ⟨k, ek⟩ := QgD r n
  have hC' := hC r n
  rw [ek] at hC'
  simp (maxSteps := 4000000) (disch := omega) only [rr, aop, cV, cV1, AV.one, Qb, okW, Qd, app, Qa, Qc, Qe, Qf, Qg, simprocAttr, Qa5, il]
  refine Qh.vc hS' ?_
  simp (maxSteps := 4000000) (disch := omega) only [rr, aop, cV, cV1, AV.one, Qb, okW, Qd, app, Qa, Qc, Qe, Qf, Qg, simprocAttr]
  refine Qh.vc hE' ?_
  rcases Q2 c x with h1 | ⟨h1, h2, h3, h4⟩
  · have e9 : ZP c x r n = 8 := by simp [ZP, h1]
    simp (maxSteps := 4000000) (disch := omega) only [rr, aop, cV, cV1, AV.one, Qb, okW, Qd, app, Qa, Qc, Qe, Qf, Qg, simprocAttr, h1, e9]
  have q0 : (4000 : Int).tdiv c = 4000 / c := Int.tdiv_eq_ediv_of_nonneg (by omega)
  have q1 : 0 ≤ (4000 : Int) / c := Int.ediv_nonneg (by omega) (by omega)
  have q2 : (4000 : Int) / c ≤ 4000 := Int.ediv_le_self _ (by omega)
  by_cases h5 : n < 1
  · have e9 : ZP c x r n = 8 := by simp [ZP, h5]
    simp (maxSteps := 4000000) (disch := omega) only [rr, aop, cV, cV1, AV.one, Qb, okW, Qd, app, Qa, Qc, Qe, Qf, Qg, simprocAttr, h1, e9]
  by_cases h6 : 4000 / c < n
  · have e9 : ZP c x r n = 8 := by simp [ZP, h6]
    simp (maxSteps := 4000000) (disch := omega) only [rr, aop, cV, cV1, AV.one, Qb, okW, Qd, app, Qa, Qc, Qe, Qf, Qg, simprocAttr, h1, e9, q0]
  simp (maxSteps := 4000000) (disch := omega) only [rr, aop, cV, cV1, AV.one, Qb, okW, Qd, app, Qa, Qc, Qe, Qf, Qg, simprocAttr, h1, q0]
  refine Qh.vc hC' ?_
  by_cases h7 : QfB r n = 0
  · have e9 : ZP c x r n = 0 := by simp [ZP, h1, h5, h6, h7]
    simp (maxSteps := 4000000) (disch := omega) only [rr, aop, cV, cV1, AV.one, Qb, okW, Qd, app, Qa, Qc, Qe, Qf, Qg, simprocAttr, h7, e9]
  · have e9 : ZP c x r n = 8 := by simp [ZP, h7]
    simp (maxSteps := 4000000) (disch := omega) only [rr, aop, cV, cV1, AV.one, Qb, okW, Qd, app, Qa, Qc, Qe, Qf, Qg, simprocAttr, h7, e9]

def Zp (c x r : Int) (l : List Int) : Int := if c < 1 then 8 else if (l.length : Int) % c ≠ 0 then 8 else if ZP c x r (l.length / c) ≠ 0 then 8 else if QJ x l ≠ 0 then 8 else 0
theorem Qmp (c x r n : Int) : ZP c x r n = 8 ∨ ZP c x r n = 0 := by
  unfold ZP; split <;> (try split) <;> (try split) <;> (try split) <;> simp
def Z3 (P : Prg) (f : Nat) : Prop := ∀ (c x r : Int) (l : List Int), I32 l → l.length ≤ 1000000 → VC P f [.agg [.int .i64 c, .int .i64 x, .int .i64 r, il l]] (.int .i64 (Zp c x r l))
theorem QmM {P : Prg} {f fH fW t0 : Nat} (b : Qm P f 33 [.tmp 2] (Xm fH fW t0)) (hH : Qk7 P fH) (hW : QaG P fW) : Z3 P f := by
  intro c x r l hI hl
  · refine VC.of_acall (by simp [isDL, isD, Q4]) rfl (ACall.of_body b (by simp) ?_)
    by_cases h1 : c < 1
    · have e9 : Zp c x r l = 8 := by simp [Zp, h1]
      simp (maxSteps := 4000000) (disch := omega) only [rr, aop, cV, cV1, AV.one, Qb, okW, Qd, app, Qa, Qc, Qe, Qf, Qg, simprocAttr, Xm, il, e9]
    have hm := J5 (n := l.length) (c := c) (by omega)
    have hd := QiE (n := l.length) (c := c) (by omega)
    have q0 : (l.length : Int).tdiv c = l.length / c := Int.tdiv_eq_ediv_of_nonneg (by omega)
    by_cases h2 : (l.length : Int) % c = 0
    · have hH' := hH c x r (l.length / c) l
      have hW' := hW x l hI
      rw [il] at hH' hW'
      simp (maxSteps := 4000000) (disch := omega) only [rr, aop, cV, cV1, AV.one, Qb, okW, Qd, app, Qa, Qc, Qe, Qf, Qg, simprocAttr, Xm, il, h2, q0]
      refine ZQ.vc hH' ?_
      rcases Qmp c x r (l.length / c) with h3 | h3
      · have e9 : Zp c x r l = 8 := by simp [Zp, h3]
        simp (maxSteps := 4000000) (disch := omega) only [rr, aop, cV, cV1, AV.one, Qb, okW, Qd, app, Qa, Qc, Qe, Qf, Qg, simprocAttr, h3, e9]
      · simp (maxSteps := 4000000) (disch := omega) only [rr, aop, cV, cV1, AV.one, Qb, okW, Qd, app, Qa, Qc, Qe, Qf, Qg, simprocAttr, h3]
        refine Qh.vc hW' ?_
        by_cases h4 : QJ x l = 0
        · have e9 : Zp c x r l = 0 := by simp [Zp, h1, h2, h3, h4]
          simp (maxSteps := 4000000) (disch := omega) only [rr, aop, cV, cV1, AV.one, Qb, okW, Qd, app, Qa, Qc, Qe, Qf, Qg, simprocAttr, h4, e9]
        · have e9 : Zp c x r l = 8 := by simp [Zp, h4]
          simp (maxSteps := 4000000) (disch := omega) only [rr, aop, cV, cV1, AV.one, Qb, okW, Qd, app, Qa, Qc, Qe, Qf, Qg, simprocAttr, h4, e9]
    · have e9 : Zp c x r l = 8 := by simp [Zp, h2]
      simp (maxSteps := 4000000) (disch := omega) only [rr, aop, cV, cV1, AV.one, Qb, okW, Qd, app, Qa, Qc, Qe, Qf, Qg, simprocAttr, Xm, il, h2, e9]

def Qau (c x n : Int) : Int := if Q8 c x ≠ 0 then 2 else if n < 1 then 2 else if 4000 / c < n then 2 else 0
def Qk8 (P : Prg) (f : Nat) : Prop := ∀ c x n : Int, VC P f [shA c x, .int .i64 n] (.int .i64 (Qau c x n))
theorem QjU {P : Prg} {f fE t0 : Nat} (b : Qm P f 19 [.tmp 4] (ZB fE t0)) (hE : JH P fE) : Qk8 P f := by
  intro c x n
  refine VC.of_acall (by simp [isDL, isD, shA]) rfl (ACall.of_body b (by simp) ?_)
  have hE' := hE c x
  rw [shA] at hE'
  simp (maxSteps := 4000000) (disch := omega) only [rr, aop, cV, cV1, AV.one, Qb, okW, Qd, app, Qa, Qc, Qe, Qf, Qg, simprocAttr, ZB, shA]
  refine Qh.vc hE' ?_
  rcases Q2 c x with h1 | ⟨h1, h2, h3, h4⟩
  · have e9 : Qau c x n = 2 := by simp [Qau, h1]
    simp (maxSteps := 4000000) (disch := omega) only [rr, aop, cV, cV1, AV.one, Qb, okW, Qd, app, Qa, Qc, Qe, Qf, Qg, simprocAttr, h1, e9]
  have q0 : (4000 : Int).tdiv c = 4000 / c := Int.tdiv_eq_ediv_of_nonneg (by omega)
  have q1 : 0 ≤ (4000 : Int) / c := Int.ediv_nonneg (by omega) (by omega)
  have q2 : (4000 : Int) / c ≤ 4000 := Int.ediv_le_self _ (by omega)
  by_cases h5 : n < 1
  · have e9 : Qau c x n = 2 := by simp [Qau, h5]
    simp (maxSteps := 4000000) (disch := omega) only [rr, aop, cV, cV1, AV.one, Qb, okW, Qd, app, Qa, Qc, Qe, Qf, Qg, simprocAttr, h1, e9]
  by_cases h6 : 4000 / c < n
  · have e9 : Qau c x n = 2 := by simp [Qau, h6]
    simp (maxSteps := 4000000) (disch := omega) only [rr, aop, cV, cV1, AV.one, Qb, okW, Qd, app, Qa, Qc, Qe, Qf, Qg, simprocAttr, h1, e9, q0]
  · have e9 : Qau c x n = 0 := by simp [Qau, h1, h5, h6]
    simp (maxSteps := 4000000) (disch := omega) only [rr, aop, cV, cV1, AV.one, Qb, okW, Qd, app, Qa, Qc, Qe, Qf, Qg, simprocAttr, h1, e9, q0]
end Go.Am

namespace Go.Am
open Go.RowKit

def QI (L n : Nat) : List Int := List.replicate ((n - 1) / L) (L : Int) ++ [(n : Int) - ((n - 1) / L * L : Nat)]
theorem Zj (L n : Nat) : (QI L n).length = (n - 1) / L + 1 := by simp [QI]
theorem Qp0 (k : Nat) (a : Int) : List.replicate k a ++ [a] = List.replicate (k + 1) a := by rw [List.replicate_succ']
def Qed (l : List Int) : AV := .list l.length (ks .i64 l)
theorem Qbi (l : List Int) : isD (Qed l) = true := by simp [Qed, isD, QT]
def Qi9 (r n : Int) : AV := if r < 1 ∨ 1048576 < r ∨ n < 1 ∨ 4000 < n then .tup [.list 0 [], .int .i64 2] else if 1000 < (QI (Qy r).toNat n.toNat).length then .tup [.list 0 [], .int .i64 4] else .tup [Qed (QI (Qy r).toNat n.toNat), .int .i64 0]
theorem QrR (r n : Int) : isD (Qi9 r n) = true := by unfold Qi9; split <;> (try split) <;> simp [isD, isDL, Qbi]
def Qk9 (P : Prg) (f : Nat) : Prop := ∀ r n : Int, VC P f [.int .i64 r, .int .i64 n] (Qi9 r n)

theorem QnQ {P : Prg} {f fL t0 : Nat} (b : Qm P f 41 [.tmp 4, .tmp 5] (QE fL t0)) (hL : QaH P fL) : Qk9 P f := by
  intro r n
  refine VC.of_walk 1 rfl (QrR _ _) (ACall.of_body b (by simp) ?_)
  have hL' := hL r
  by_cases h1 : r < 1 ∨ 1048576 < r
  · have e1 : QaL r = .tup [.int .i64 0, .int .i64 2] := by rw [QaL, if_pos h1]
    have e2 : Qi9 r n = .tup [.list 0 [], .int .i64 2] := by rw [Qi9, if_pos (by omega)]
    simp (maxSteps := 4000000) (disch := omega) only [rr, aop, cV, cV1, AV.one, Qb, okW, Qd, app, Qa, Qc, Qe, Qf, Qg, simprocAttr, QE]
    refine Qh.vc hL' ?_
    simp (maxSteps := 4000000) (disch := omega) only [rr, aop, cV, cV1, AV.one, Qb, okW, Qd, app, Qa, Qc, Qe, Qf, Qg, simprocAttr, e1, e2]
    simp [ZJ, QX, frzL, QO, isDL, isD]
  have e1 : QaL r = .tup [.int .i64 (Qy r), .int .i64 0] := by rw [QaL, if_neg h1]
  rw [e1] at hL'
  have p1 := ZO r
  have p2 := Qly (r := r) (by omega)
  by_cases h2 : n < 1
  · have e2 : Qi9 r n = .tup [.list 0 [], .int .i64 2] := by rw [Qi9, if_pos (by omega)]
    simp (maxSteps := 4000000) (disch := omega) only [rr, aop, cV, cV1, AV.one, Qb, okW, Qd, app, Qa, Qc, Qe, Qf, Qg, simprocAttr, QE]
    refine Qh.vc hL' ?_
    simp (maxSteps := 4000000) (disch := omega) only [rr, aop, cV, cV1, AV.one, Qb, okW, Qd, app, Qa, Qc, Qe, Qf, Qg, simprocAttr, e2]
    simp [ZJ, QX, frzL, QO, isDL, isD]
  by_cases h3 : 4000 < n
  · have e2 : Qi9 r n = .tup [.list 0 [], .int .i64 2] := by rw [Qi9, if_pos (by omega)]
    simp (maxSteps := 4000000) (disch := omega) only [rr, aop, cV, cV1, AV.one, Qb, okW, Qd, app, Qa, Qc, Qe, Qf, Qg, simprocAttr, QE]
    refine Qh.vc hL' ?_
    simp (maxSteps := 4000000) (disch := omega) only [rr, aop, cV, cV1, AV.one, Qb, okW, Qd, app, Qa, Qc, Qe, Qf, Qg, simprocAttr, e2]
    simp [ZJ, QX, frzL, QO, isDL, isD]
  have e2 : Qi9 r n = if 1000 < (QI (Qy r).toNat n.toNat).length then .tup [.list 0 [], .int .i64 4] else .tup [Qed (QI (Qy r).toNat n.toNat), .int .i64 0] := by rw [Qi9, if_neg (by omega)]
  generalize Qy r = Li at *
  obtain ⟨L, rfl⟩ : ∃ L : Nat, Li = L := ⟨Li.toNat, by omega⟩
  obtain ⟨m, rfl⟩ : ∃ m : Nat, n = m := ⟨n.toNat, by omega⟩
  simp only [Int.toNat_natCast] at e2
  have g1 : (m - 1) / L * L ≤ m - 1 := Nat.div_mul_le_self _ _
  have g2 : m - 1 < ((m - 1) / L + 1) * L := by
    have := Nat.lt_div_mul_add (a := m - 1) (b := L) (by omega)
    rw [Nat.add_mul, Nat.one_mul]; omega
  rw [Nat.add_mul, Nat.one_mul] at g2
  have g3 : (m - 1) / L ≤ m - 1 := Nat.div_le_self _ _
  have ll := Zj L m
  have lf : QI L m = List.replicate ((m - 1) / L) (L : Int) ++ [(m : Int) - ((m - 1) / L * L : Nat)] := rfl
  generalize hq : (m - 1) / L = q at *
  simp (maxSteps := 4000000) (disch := omega) only [rr, aop, cV, cV1, AV.one, Qb, okW, Qd, app, Qa, Qc, Qe, Qf, Qg, simprocAttr, QE]
  refine Qh.vc hL' ?_
  simp (maxSteps := 4000000) (disch := omega) only [rr, aop, cV, cV1, AV.one, Qb, okW, Qd, app, Qa, Qc, Qe, Qf, Qg, simprocAttr]
  refine QV.by (ι := Option Nat) (fun i => match i with
      | some k => ⟨[(1, .int .i64 ((m : Int) - (k * L : Nat))), (8, .own 0 k), (6, .int .i64 L)], [⟨t0, 1, k, ks .i64 (List.replicate k (L : Int)), 0⟩]⟩
      | none => ⟨[(1, .int .i64 0), (8, .own 0 (q + 1)), (6, .int .i64 L)], [⟨t0, 1, q + 1, ks .i64 (QI L m), 0⟩]⟩)
    (fun i => match i with | some k => k ≤ q | none => True) (fun i => match i with | some k => q - k + 1 | none => 0) (some 0)
    (by simp only [Nat.zero_mul]; exact Le.trans (Le.virt 8 t0 1 (by omega) rfl) (Le.slots (by simp [Am.look]))) (by simp) ?_
  intro i hi
  cases i with
  | some k =>
    simp only at hi
    have g4 : k * L ≤ q * L := Nat.mul_le_mul_right L hi
    have lr : (List.replicate k (L : Int)).length = k := by simp
    by_cases hk : k < q
    · have g5 : (k + 1) * L ≤ q * L := Nat.mul_le_mul_right L (by omega)
      rw [Nat.add_mul, Nat.one_mul] at g5
      simp (maxSteps := 4000000) (disch := omega) only [rr, aop, cV, cV1, AV.one, Qb, okW, Qd, app, Qa, Qc, Qe, Qf, Qg, simprocAttr, Qj6, Qp0, lr]
      refine ⟨some (k + 1), by simp only; omega, by simp only; omega, ?_⟩
      exact Le.drop1 (QK _ _) (by simp [Am.look, QX, frzL, QO, Nat.add_mul]; omega)
    · have : k = q := by omega
      subst this
      simp (maxSteps := 4000000) (disch := omega) only [rr, aop, cV, cV1, AV.one, Qb, okW, Qd, app, Qa, Qc, Qe, Qf, Qg, simprocAttr, Qj6, lr, ← lf]
      refine ⟨none, trivial, by simp only; omega, ?_⟩
      exact Le.drop1 (QK _ _) (by simp [Am.look, QX, frzL, QO])
  | none =>
    by_cases h9 : 1000 < (QI L m).length
    · rw [if_pos h9] at e2
      simp (maxSteps := 4000000) (disch := omega) only [rr, aop, cV, cV1, AV.one, Qb, okW, Qd, app, Qa, Qc, Qe, Qf, Qg, simprocAttr, e2]
      simp [ZJ, QX, frzL, QO, isDL, isD]
    · rw [if_neg h9] at e2
      simp (maxSteps := 4000000) (disch := omega) only [rr, aop, cV, cV1, AV.one, Qb, okW, Qd, app, Qa, Qc, Qe, Qf, Qg, simprocAttr, e2]
      simp [ZJ, QX, frzL, QO, isDL, isD, Qed, ll, frzL_T _ (QK .i64 _)]
end Go.Am

namespace Go.Am
open Go.RowKit

theorem Qsd (r n : Int) : (∃ k : Int, Qi9 r n = .tup [.list 0 [], .int .i64 k] ∧ Qej r n = .tup [.int .i64 0, .int .i64 k]) ∨
    (∃ l : List Int, Qi9 r n = .tup [Qed l, .int .i64 0] ∧ Qej r n = .tup [.int .i64 l.length, .int .i64 0]) := by
  by_cases h1 : r < 1 ∨ 1048576 < r
  · exact .inl ⟨2, by rw [Qi9, if_pos (by omega)], by rw [Qej, if_pos h1]⟩
  by_cases h2 : n < 1 ∨ 4000 < n
  · exact .inl ⟨2, by rw [Qi9, if_pos (by omega)], by rw [Qej, if_neg h1, if_pos h2]⟩
  have p1 := ZO r
  have e : (n + Qy r - 1) / Qy r = (QI (Qy r).toNat n.toNat).length := by
    generalize Qy r = Li at *
    obtain ⟨L, rfl⟩ : ∃ L : Nat, Li = L := ⟨Li.toNat, by omega⟩
    obtain ⟨m, rfl⟩ : ∃ m : Nat, n = m := ⟨n.toNat, by omega⟩
    rw [Int.toNat_natCast, Int.toNat_natCast, Zj]
    have : (m : Int) + L - 1 = ((m - 1 + L : Nat) : Int) := by omega
    rw [this, ← Int.natCast_ediv, Nat.add_div_right _ (by omega)]
  by_cases h3 : 1000 < (QI (Qy r).toNat n.toNat).length
  · exact .inl ⟨4, by rw [Qi9, if_neg (by omega), if_pos h3], by rw [Qej, if_neg h1, if_neg h2, e, if_pos (by omega)]⟩
  · exact .inr ⟨_, by rw [Qi9, if_neg (by omega), if_neg h3], by rw [Qej, if_neg h1, if_neg h2, e, if_neg (by omega)]⟩

theorem QjT {P : Prg} {f fA : Nat} (b : Qm P f 17 [.tmp 4, .tmp 5] (Q3 fA)) (hA : Qk9 P fA) : XI P f := by
  intro r n
  refine VC.of_acall rfl (Qoi _ _) (ACall.of_body b (by simp) ?_)
  have hA' := hA r n
  rcases Qsd r n with ⟨k, e1, e2⟩ | ⟨l, e1, e2⟩
  · rw [e1] at hA'
    simp (maxSteps := 4000000) (disch := omega) only [rr, aop, cV, cV1, AV.one, Qb, okW, Qd, app, Qa, Qc, Qe, Qf, Qg, simprocAttr, Q3]
    refine Qh.vc hA' ?_
    simp (maxSteps := 4000000) (disch := omega) only [rr, aop, cV, cV1, AV.one, Qb, okW, Qd, app, Qa, Qc, Qe, Qf, Qg, simprocAttr, e2, List.length_nil]
    try simp
  · rw [e1] at hA'
    simp (maxSteps := 4000000) (disch := omega) only [rr, aop, cV, cV1, AV.one, Qb, okW, Qd, app, Qa, Qc, Qe, Qf, Qg, simprocAttr, Q3]
    refine Qh.vc hA' ?_
    simp (maxSteps := 4000000) (disch := omega) only [rr, aop, cV, cV1, AV.one, Qb, okW, Qd, app, Qa, Qc, Qe, Qf, Qg, simprocAttr, Qed, e2]
end Go.Am

namespace Go.Am
open Go.RowKit

theorem Qee (c x r n : Int) : ZP c x r n = if Qau c x n = 0 ∧ QfB r n = 0 then 0 else 8 := by
  unfold ZP Qau
  by_cases h1 : Q8 c x = 0 <;> by_cases h2 : n < 1 <;> by_cases h3 : 4000 / c < n <;> by_cases h4 : QfB r n = 0 <;> simp [h1, h2, h3, h4]
theorem Qcu {c x r : Int} {l : List Int} : Zp c x r l = if QbJ c x l = 0 ∧ ZP c x r (l.length / c) = 0 then 0 else 8 := by
  unfold Zp QbJ
  by_cases h0 : ZP c x r (l.length / c) = 0
  · have h0' := h0
    rw [Qee] at h0'
    have ha : Qau c x (l.length / c) = 0 := by
      by_cases h : Qau c x (l.length / c) = 0 ∧ QfB r (l.length / c) = 0
      · exact h.1
      · rw [if_neg h] at h0'; cases h0'
    have hE : Q8 c x = 0 := by
      by_cases h : Q8 c x = 0
      · exact h
      · simp [Qau, h] at ha
    have hn : ¬ (l.length : Int) / c < 1 := by
      intro h
      simp [Qau, h] at ha
    have hc : ¬ c < 1 := by
      rcases Q2 c x with h | h <;> omega
    have hl : l.length ≠ 0 := by
      intro h
      rw [h] at hn
      simp at hn
    by_cases h2 : (l.length : Int) % c = 0 <;> by_cases h3 : QJ x l = 0 <;> simp [hE, hc, hl, h0, h2, h3]
  · simp [h0]

def Qey (P : Prg) (f : Nat) : Prop := ∀ (c x r n : Int) (l : List Int), VC P f [.agg [.int .i64 c, .int .i64 x, .int .i64 r, il l], .int .i64 n] (.bool (decide (ZP c x r n = 0)))
theorem Qmh {P : Prg} {f fS fA fC t0 : Nat} (b : Qm P f 21 [.tmp 4] (ZL fS fA fC t0)) (hS : XH P fS) (hA : Qk8 P fA) (hC : XI P fC) : Qey P f := by
  intro c x r n l
  refine VC.of_acall (by simp [isDL, isD, Q4]) rfl (ACall.of_body b (by simp) ?_)
  have hS' := hS c x r l
  have hA' := hA c x n
  rw [shA] at hS' hA'
  rw [il] at hS'
  obtain ⟨k, ek⟩ := QgD r n
  have hC' := hC r n
  rw [ek] at hC'
  simp (maxSteps := 4000000) (disch := omega) only [rr, aop, cV, cV1, AV.one, Qb, okW, Qd, app, Qa, Qc, Qe, Qf, Qg, simprocAttr, ZL, il]
  refine Qh.vc hS' ?_
  simp (maxSteps := 4000000) (disch := omega) only [rr, aop, cV, cV1, AV.one, Qb, okW, Qd, app, Qa, Qc, Qe, Qf, Qg, simprocAttr]
  refine Qh.vc hA' ?_
  by_cases h1 : Qau c x n = 0
  · simp (maxSteps := 4000000) (disch := omega) only [rr, aop, cV, cV1, AV.one, Qb, okW, Qd, app, Qa, Qc, Qe, Qf, Qg, simprocAttr, h1]
    refine Qh.vc hC' ?_
    by_cases h7 : QfB r n = 0
    · have e9 : ZP c x r n = 0 := by rw [Qee, if_pos ⟨h1, h7⟩]
      simp (maxSteps := 4000000) (disch := omega) only [rr, aop, cV, cV1, AV.one, Qb, okW, Qd, app, Qa, Qc, Qe, Qf, Qg, simprocAttr, h7, e9]
      try simp
    · have e9 : ZP c x r n = 8 := by rw [Qee, if_neg (by simp [h7])]
      simp (maxSteps := 4000000) (disch := omega) only [rr, aop, cV, cV1, AV.one, Qb, okW, Qd, app, Qa, Qc, Qe, Qf, Qg, simprocAttr, e9]
      try simp [h7]
  · have e9 : ZP c x r n = 8 := by rw [Qee, if_neg (by simp [h1])]
    simp (maxSteps := 4000000) (disch := omega) only [rr, aop, cV, cV1, AV.one, Qb, okW, Qd, app, Qa, Qc, Qe, Qf, Qg, simprocAttr, h1, e9]
    try simp

theorem QjS {P : Prg} {f fS fA fH t0 : Nat} (b : Qm P f 20 [.tmp 2] (ZA fS fA fH t0)) (hS : XH P fS) (hA : QfH P fA) (hH : Qey P fH) : Z3 P f := by
  intro c x r l hI hl
  refine VC.of_acall (by simp [isDL, isD, Q4]) rfl (ACall.of_body b (by simp) ?_)
  have hS' := hS c x r l
  have hA' := hA c x l hI
  have hH' := hH c x r (l.length / c) l
  rw [shA] at hS' hA'
  rw [il] at hS' hA' hH'
  simp (maxSteps := 4000000) (disch := omega) only [rr, aop, cV, cV1, AV.one, Qb, okW, Qd, app, Qa, Qc, Qe, Qf, Qg, simprocAttr, ZA, il]
  refine ZQ.vc hS' ?_
  simp (maxSteps := 4000000) (disch := omega) only [rr, aop, cV, cV1, AV.one, Qb, okW, Qd, app, Qa, Qc, Qe, Qf, Qg, simprocAttr]
  refine ZQ.vc hA' ?_
  by_cases h1 : QbJ c x l = 0
  · have hc : 1 ≤ c := by
      obtain ⟨k, rfl, hk, _⟩ := QkV hI h1
      have := hk.1
      omega
    have hd := QiE (n := l.length) hc
    have q0 : (l.length : Int).tdiv c = l.length / c := Int.tdiv_eq_ediv_of_nonneg (by omega)
    simp (maxSteps := 4000000) (disch := omega) only [rr, aop, cV, cV1, AV.one, Qb, okW, Qd, app, Qa, Qc, Qe, Qf, Qg, simprocAttr, h1, q0]
    refine ZQ.vc hH' ?_
    by_cases h2 : ZP c x r (l.length / c) = 0
    · have e9 : Zp c x r l = 0 := by rw [Qcu, if_pos ⟨h1, h2⟩]
      simp (maxSteps := 4000000) (disch := omega) only [rr, aop, cV, cV1, AV.one, Qb, okW, Qd, app, Qa, Qc, Qe, Qf, Qg, simprocAttr, h2, e9, decide_true, Bool.not_true]
    · have e9 : Zp c x r l = 8 := by rw [Qcu, if_neg (by simp [h2])]
      have e8 : decide (ZP c x r (l.length / c) = 0) = false := by simp [h2]
      simp (maxSteps := 4000000) (disch := omega) only [rr, aop, cV, cV1, AV.one, Qb, okW, Qd, app, Qa, Qc, Qe, Qf, Qg, simprocAttr, e8, e9, Bool.not_false]
  · have e9 : Zp c x r l = 8 := by rw [Qcu, if_neg (by simp [h1])]
    simp (maxSteps := 4000000) (disch := omega) only [rr, aop, cV, cV1, AV.one, Qb, okW, Qd, app, Qa, Qc, Qe, Qf, Qg, simprocAttr, h1, e9]
end Go.Am

namespace Go.Am
open Go.RowKit

def clA (c x r : Int) (l : List Int) : AV := .agg [.int .i64 c, .int .i64 x, .int .i64 r, il l]
end Go.Am

namespace Go.Am
open Go.RowKit

/-! ### le.Bytes -/

def leB (n : Nat) : Nat → List UInt8
  | 0 => []
  | k + 1 => UInt8.ofNat (n % 256) :: leB (n / 256) k

theorem Qi : ∀ (k n : Nat), (leB n k).length = k
  | 0, _ => rfl
  | k + 1, n => by simp [leB, Qi k]

theorem Qj3 : ∀ (k n i : Nat) (h : i < k), (leB n k)[i]? = some (UInt8.ofNat (n / 256 ^ i % 256))
  | k + 1, n, 0, _ => by simp [leB]
  | k + 1, n, i + 1, h => by
    simp only [leB, List.getElem?_cons_succ]
    rw [Qj3 k (n / 256) i (by omega), Nat.div_div_eq_div_mul, Nat.pow_succ, Nat.mul_comm]

theorem Qcn {n k i : Nat} (h : i < k) : (leB n k).take (i + 1) = (leB n k).take i ++ [UInt8.ofNat (n / 256 ^ i % 256)] := by
  rw [List.take_add_one, Qj3 k n i h]
  rfl

theorem QtG {K : IntKind} {n k : Nat} (hk : k ≤ K.bits) : Qs false K (n : Int) (k : Int) = some (.int K ((n / 2 ^ k : Nat) : Int)) := by
  have h3 : ¬ ((k : Int) < 0) := by omega
  have h5 : min k K.bits = k := by omega
  have h6 : (n : Int).fdiv (2 ^ k) = ((n / 2 ^ k : Nat) : Int) := by
    rw [Int.fdiv_eq_ediv_of_nonneg _ (Int.pow_nonneg (by decide))]
    simp [Int.natCast_ediv, Int.natCast_pow]
  simp only [Qs, if_neg h3, Bool.false_eq_true, if_false, Int.toNat_natCast, h5, h6]

def Qpc (P : Prg) (f : Nat) : Prop := ∀ n w : Nat, 1 ≤ w → w ≤ 8 → VC P f [.int .u64 n, .int .i64 w] (.bool (decide (w = 8) || decide (n / 2 ^ (8 * w) = 0)))
theorem QrH {P : Prg} {f : Nat} (b : Qm P f 14 [.tmp 4] Qaa) : Qpc P f := by
  intro n w h1 h2
  refine VC.of_acall rfl rfl (ACall.of_body b (by simp) ?_)
  by_cases h8 : w = 8
  · subst h8
    simp (maxSteps := 4000000) (disch := omega) only [rr, aop, cV, cV1, AV.one, Qb, okW, Qd, app, Qa, Qc, Qe, Qf, Qg, simprocAttr, Qaa]
  · have e1 : (decide (w = 8)) = false := by simpa using h8
    have e2 : Qs false .u64 (n : Int) (8 * (w : Int)) = some (.int .u64 ((n / 2 ^ (8 * w) : Nat) : Int)) := by
      have := QtG (K := .u64) (n := n) (k := 8 * w) (by simp [IntKind.bits]; omega)
      rwa [Int.natCast_mul] at this
    have e3 : (((n / 2 ^ (8 * w) : Nat) : Int) == 0) = decide (n / 2 ^ (8 * w) = 0) := by rw [Bool.eq_iff_iff]; simp only [beq_iff_eq, decide_eq_true_eq]; omega
    have e4 : ((w : Int) = 8) = False := eq_false (by omega)
    by_cases h9 : n / 2 ^ (8 * w) = 0
    · have e5 : (decide (n / 2 ^ (8 * w) = 0)) = true := by simpa using h9
      have e6 : (((n / 2 ^ (8 * w) : Nat) : Int) = 0) = True := eq_true (by omega)
      rw [e5]
      simp (maxSteps := 4000000) (disch := omega) only [rr, aop, cV, cV1, AV.one, Qb, okW, Qd, app, Qa, Qc, Qe, Qf, Qg, simprocAttr, Qaa, e1, e2, e4, e6]
    · have e5 : (decide (n / 2 ^ (8 * w) = 0)) = false := by simpa using h9
      have e6 : (((n / 2 ^ (8 * w) : Nat) : Int) = 0) = False := eq_false (by omega)
      rw [e5]
      simp (maxSteps := 4000000) (disch := omega) only [rr, aop, cV, cV1, AV.one, Qb, okW, Qd, app, Qa, Qc, Qe, Qf, Qg, simprocAttr, Qaa, e1, e2, e4, e6]

def Qab (P : Prg) (f : Nat) : Prop := ∀ n w : Nat, 1 ≤ w → w ≤ 8 → n < 256 ^ w → VC P f [.int .u64 n, .int .i64 w] (.tup [bs (leB n w), .int .i64 0])

theorem Qqr {t n : Nat} {l : List UInt8} (h : n = l.length) {e : Int} : ZJ (fun _ => true) [⟨t, 1, n, u8 l, 0⟩] 2 [.tup [.own 0 n, .int .i64 e]] = some [.tup [bs l, .int .i64 e]] := by
  subst h
  simp only [ZJ, QX, frzL, QO, Bool.false_eq_true, if_false, List.getElem?_cons_zero, and_self, if_true, frzL_T _ (Zq l), Option.map_some, bs]

theorem Qqc {P : Prg} {f fF t0 : Nat} (b : Qm P f 35 [.tmp 4, .tmp 5] (Qaz fF t0)) (hF : Qpc P fF) : Qab P f := by
  intro n w h1 h2 hn
  refine VC.of_walk 1 (by simp [isDL, isD]) (by simp [isD, isDL, Zu]) (ACall.of_body b (by simp) ?_)
  have hn8 : n < 18446744073709551616 := Nat.lt_of_lt_of_le hn (Nat.le_trans (Nat.pow_le_pow_right (by omega) h2) (by decide))
  simp (maxSteps := 4000000) (disch := omega) only [rr, aop, cV, cV1, AV.one, Qb, okW, Qd, app, Qa, Qc, Qe, Qf, Qg, simprocAttr, Qaz]
  refine Qh.vc (hF n w h1 h2) ?_
  have e0 : (decide (w = 8) || decide (n / 2 ^ (8 * w) = 0)) = true := by
    have : n / 2 ^ (8 * w) = 0 := Nat.div_eq_of_lt (by rw [Nat.pow_mul]; exact hn)
    simp [this]
  rw [e0]
  have r0 : Qn [.int .u8 0] w = u8 ([] : List UInt8) ++ List.replicate w (.int .u8 0) := by
    have : ∀ k, Qn [AV.int .u8 0] k = List.replicate k (.int .u8 0) := fun k => by
      induction k with
      | zero => rfl
      | succ k ih => simp [Qn, ih, List.replicate_succ]
    rw [this]; rfl
  simp (maxSteps := 4000000) (disch := omega) only [rr, aop, cV, cV1, AV.one, Qb, okW, Qd, app, Qa, Qc, Qe, Qf, Qg, simprocAttr, Qaz]
  rw [r0]
  refine QV.by (ι := Nat) (fun k => ⟨[(22, .int .i64 k), (21, .int .i64 w), (6, .own 0 w), (0, .int .u64 n)], [⟨t0, 1, w, u8 ((leB n w).take k) ++ List.replicate (w - k) (.int .u8 0), 0⟩]⟩) (fun k => k ≤ w) (fun k => w - k) 0 (Le.slots (by simp [Am.look])) (by omega) ?_
  intro k hk
  by_cases hlt : k < w
  · have e2 : Qs false .u64 (n : Int) (8 * (k : Int)) = some (.int .u64 ((n / 256 ^ k : Nat) : Int)) := by
      have := QtG (K := .u64) (n := n) (k := 8 * k) (by simp [IntKind.bits]; omega)
      rwa [Int.natCast_mul, Nat.pow_mul] at this
    have e3 : IntKind.u8.wrap ((n / 256 ^ k : Nat) : Int) = ((UInt8.ofNat (n / 256 ^ k % 256)).toNat : Int) := by
      simp [IntKind.wrap, IntKind.signed, IntKind.bits]
    have hl : (u8 ((leB n w).take k)).length = k := by simp [QA, Qi]; omega
    have e4 : (u8 ((leB n w).take k) ++ List.replicate (w - k) (AV.int .u8 0)).take k = u8 ((leB n w).take k) := by rw [List.take_left' hl]
    have e5 : (u8 ((leB n w).take k) ++ List.replicate (w - k) (AV.int .u8 0)).drop (k + 1) = List.replicate (w - (k + 1)) (.int .u8 0) := by
      rw [List.drop_append, List.drop_of_length_le (by omega), hl]
      simp
      omega
    have e6 : u8 ((leB n w).take k) ++ [AV.int .u8 ((UInt8.ofNat (n / 256 ^ k % 256)).toNat : Int)] = u8 ((leB n w).take (k + 1)) := by
      rw [Qcn hlt, ← QdV]; rfl
    simp (maxSteps := 4000000) (disch := omega) only [rr, aop, cV, cV1, AV.one, Qb, okW, Qd, app, Qa, Qc, Qe, Qf, Qg, simprocAttr, e2, e3, hl, e4, e5, e6]
    refine ⟨k + 1, by omega, by omega, ?_⟩
    refine Le.slots ?_
    simp [Am.look]
  · have ek : k = w := by omega
    subst ek
    have e7 : (leB n k).take k = leB n k := List.take_of_length_le (by rw [Qi]; exact Nat.le_refl _)
    have e8 : u8 (leB n k) ++ List.replicate (k - k) (AV.int .u8 0) = u8 (leB n k) := by simp
    simp (maxSteps := 4000000) (disch := omega) only [rr, aop, cV, cV1, AV.one, Qb, okW, Qd, app, Qa, Qc, Qe, Qf, Qg, simprocAttr, e7]
    rw [e8, Qqr (Qi k n).symm]

end Go.Am

namespace Go.Am
open Go.RowKit

/-! ### Read is what was written: without a program -/

theorem Qgj : ∀ (k n : Nat), n < 256 ^ k → leN (leB n k) = n
  | 0, n, h => by simp at h; subst h; rfl
  | k + 1, n, h => by
    have h1 : n / 256 < 256 ^ k := by rw [Nat.pow_succ] at h; exact Nat.div_lt_of_lt_mul (by omega)
    have h2 : (UInt8.ofNat (n % 256)).toNat = n % 256 := by simp
    simp only [leB, leN, Qgj k _ h1, h2]
    omega

end Go.Am

namespace Go.Am
open Go.RowKit

/-! ### The chunk that tells the form: without a program -/

def Qst (c b r : Int) : Prop := 1 ≤ c ∧ c ≤ 6 ∧ Jj b ≠ 0 ∧ 1 ≤ r ∧ r ≤ 1048576
instance (c b r : Int) : Decidable (Qst c b r) := by unfold Qst; exact inferInstance
/-! ### Check, Wide -/

theorem QrV (b : Int) : Jj b ≠ 0 ↔ b = 8 ∨ b = 16 ∨ b = 24 := by
  rcases Z9 b with ⟨rfl, h⟩ | ⟨rfl, h⟩ | ⟨rfl, h⟩ | ⟨h1, h2, h3, h⟩ <;> simp [h] <;> omega

end Go.Am

namespace Go.Am
open Go.RowKit

/-! ### fmtchunk.Write, Read -/

def Qha (P : Prg) (f : Nat) : Prop := ∀ a b : List UInt8, VC P f [bs a, bs b] (.bool (a == b))
theorem QkJ {P : Prg} {f : Nat} (bd : Qm P f 10 [.tmp 4] JZ) : Qha P f := by
  intro a b
  refine VC.of_acall (by simp [isDL, Zu]) rfl (ACall.of_body bd (by simp) ?_)
  simp (maxSteps := 4000000) (disch := omega) only [rr, aop, cV, cV1, AV.one, Qb, okW, Qd, app, Qa, Qc, Qe, Qf, Qg, simprocAttr, JZ, bs, Qjd]

end Go.Am

namespace Go.Am
open Go.RowKit

/-! ### WAV: writing -/

theorem QrQ (c x r : Int) (l : List Int) : isD (clA c x r l) = true := by simp [clA, isD, isDL, Q4]
end Go.Am

namespace Go.Am
open Go.RowKit

def QeC (P : Prg) (f : Nat) : Prop := ∀ (c x r : Int) (l : List Int), VC P f [clA c x r l] (.bool (decide (300 < l.length) && decide (l.length ≤ 4000) || decide (4010 < l.length)))
theorem QjQ {P : Prg} {f t0 : Nat} (bd : Qm P f 19 [.tmp 2] (QC t0)) : QeC P f := by
  intro c x r l
  refine VC.of_acall (by simp [isDL, QrQ]) rfl (ACall.of_body bd (by simp) ?_)
  by_cases h1 : 300 < l.length
  · by_cases h2 : l.length ≤ 4000
    · have e : (decide (300 < l.length) && decide (l.length ≤ 4000) || decide (4010 < l.length)) = true := by simp [h1, h2]
      simp (maxSteps := 4000000) (disch := omega) only [rr, aop, cV, cV1, AV.one, Qb, okW, Qd, app, Qa, Qc, Qe, Qf, Qg, simprocAttr, QC, clA, il, e]
    · by_cases h3 : 4010 < l.length
      · have e : (decide (300 < l.length) && decide (l.length ≤ 4000) || decide (4010 < l.length)) = true := by simp [h3]
        simp (maxSteps := 4000000) (disch := omega) only [rr, aop, cV, cV1, AV.one, Qb, okW, Qd, app, Qa, Qc, Qe, Qf, Qg, simprocAttr, QC, clA, il, e]
      · have e : (decide (300 < l.length) && decide (l.length ≤ 4000) || decide (4010 < l.length)) = false := by simp; omega
        simp (maxSteps := 4000000) (disch := omega) only [rr, aop, cV, cV1, AV.one, Qb, okW, Qd, app, Qa, Qc, Qe, Qf, Qg, simprocAttr, QC, clA, il, e]
  · have e : (decide (300 < l.length) && decide (l.length ≤ 4000) || decide (4010 < l.length)) = false := by simp; omega
    simp (maxSteps := 4000000) (disch := omega) only [rr, aop, cV, cV1, AV.one, Qb, okW, Qd, app, Qa, Qc, Qe, Qf, Qg, simprocAttr, QC, clA, il, e]

end Go.Am

namespace Go.Am
open Go.RowKit

/-! ### Numbers: bit by bit -/

theorem Qbn {w n : Nat} (h : n < 2 ^ w) : BitVec.ofInt w (n : Int) = BitVec.ofNat w n := by
  apply BitVec.eq_of_toNat_eq
  rw [BitVec.toNat_ofInt, BitVec.toNat_ofNat]
  omega

theorem Qdw {K : IntKind} (hs : K.signed = false) {n : Nat} (h : n < 2 ^ K.bits) : K.wrap (n : Int) = n := by
  have h1 : (n : Int) % 2 ^ K.bits = n := by
    rw [Int.emod_eq_of_lt (by omega)]
    exact_mod_cast h
  unfold IntKind.wrap
  simp [hs, h1]

theorem Qpw {K : IntKind} (hs : K.signed = false) {a b : Nat} (ha : a < 2 ^ K.bits) (hb : b < 2 ^ K.bits) : K.wrap (BitVec.ofInt K.bits (a : Int) ^^^ BitVec.ofInt K.bits (b : Int)).toNat = ((a ^^^ b : Nat) : Int) := by
  rw [Qbn ha, Qbn hb, BitVec.toNat_xor, BitVec.toNat_ofNat, BitVec.toNat_ofNat, Nat.mod_eq_of_lt ha, Nat.mod_eq_of_lt hb]
  exact Qdw hs (Nat.xor_lt_two_pow ha hb)
theorem QtB {K : IntKind} (hs : K.signed = false) {a b : Nat} (ha : a < 2 ^ K.bits) (hb : b < 2 ^ K.bits) : K.wrap (BitVec.ofInt K.bits (a : Int) &&& BitVec.ofInt K.bits (b : Int)).toNat = ((a &&& b : Nat) : Int) := by
  rw [Qbn ha, Qbn hb, BitVec.toNat_and, BitVec.toNat_ofNat, BitVec.toNat_ofNat, Nat.mod_eq_of_lt ha, Nat.mod_eq_of_lt hb]
  exact Qdw hs (Nat.and_lt_two_pow _ hb)
theorem orK {K : IntKind} (hs : K.signed = false) {a b : Nat} (ha : a < 2 ^ K.bits) (hb : b < 2 ^ K.bits) : K.wrap (BitVec.ofInt K.bits (a : Int) ||| BitVec.ofInt K.bits (b : Int)).toNat = ((a ||| b : Nat) : Int) := by
  rw [Qbn ha, Qbn hb, BitVec.toNat_or, BitVec.toNat_ofNat, BitVec.toNat_ofNat, Nat.mod_eq_of_lt ha, Nat.mod_eq_of_lt hb]
  exact Qdw hs (Nat.or_lt_two_pow ha hb)

theorem QjH {K : IntKind} {n k : Nat} (hk : k ≤ K.bits) : Qs false K (n : Int) (k : Int) = some (.int K ((n / 2 ^ k : Nat) : Int)) := by
  have h3 : ¬ ((k : Int) < 0) := by omega
  have h5 : min k K.bits = k := by omega
  have h6 : (n : Int).fdiv (2 ^ k) = ((n / 2 ^ k : Nat) : Int) := by
    rw [Int.fdiv_eq_ediv_of_nonneg _ (Int.pow_nonneg (by decide))]
    simp [Int.natCast_ediv, Int.natCast_pow]
  simp only [Qs, if_neg h3, Bool.false_eq_true, if_false, Int.toNat_natCast, h5, h6]

theorem Qpq {K : IntKind} (hs : K.signed = false) {c s : Nat} (h : s ≤ K.bits) (h2 : c * 2 ^ s < 2 ^ K.bits) : Qs true K (c : Int) (s : Int) = some (.int K ((c * 2 ^ s : Nat) : Int)) := by
  have h3 : ¬ ((s : Int) < 0) := by omega
  have h5 : min s K.bits = s := by omega
  have h6 : (c : Int) * 2 ^ s = ((c * 2 ^ s : Nat) : Int) := by simp
  simp only [Qs, if_neg h3, if_true, Int.toNat_natCast, h5, h6]
  rw [Qdw hs h2]

end Go.Am

namespace Go.Am
open Go.RowKit

/-! ### CRC-32 (plain) -/

def QqA (c : Nat) : Nat := (c / 2) ^^^ (if c % 2 = 1 then 3988292384 else 0)
def QdH : Nat → Nat → Nat
  | 0, c => c
  | k + 1, c => QdH k (QqA c)

theorem Qr4 {c : Nat} (h : c < 4294967296) : QqA c < 4294967296 := by
  unfold QqA
  have : (if c % 2 = 1 then 3988292384 else 0) < 2 ^ 32 := by split <;> decide
  exact Nat.xor_lt_two_pow (n := 32) (by omega) this
theorem QgC : ∀ (k : Nat) {c : Nat}, c < 4294967296 → QdH k c < 4294967296
  | 0, _, h => h
  | k + 1, _, h => QgC k (Qr4 h)
theorem QiH : ∀ (k c : Nat), QdH (k + 1) c = QqA (QdH k c)
  | 0, _ => rfl
  | k + 1, c => by rw [QdH, QiH k, QdH]

theorem Qqz (x h : Nat) : QqA (x ^^^ 2 * h) = QqA x ^^^ h := by
  have e1 : (x ^^^ 2 * h) % 2 = x % 2 := by
    have := Nat.xor_mod_two_pow (a := x) (b := 2 * h) (n := 1)
    simpa using this
  have e2 : (x ^^^ 2 * h) / 2 = x / 2 ^^^ h := by rw [Nat.xor_div_two, Nat.mul_div_cancel_left _ (by omega)]
  unfold QqA
  rw [e1, e2, Nat.xor_assoc, Nat.xor_assoc, Nat.xor_comm h]

theorem QlG : ∀ (k x h : Nat), QdH k (x ^^^ 2 ^ k * h) = QdH k x ^^^ h
  | 0, x, h => by simp [QdH]
  | k + 1, x, h => by
    rw [QdH, Nat.pow_succ, Nat.mul_comm (2 ^ k) 2, Nat.mul_assoc, Qqz, QlG k, QdH]

theorem Qhv (b k : Nat) : b = b % 2 ^ k ^^^ 2 ^ k * (b / 2 ^ k) := by
  apply Nat.eq_of_testBit_eq
  intro i
  rw [Nat.testBit_xor, Nat.testBit_mod_two_pow, Nat.testBit_two_pow_mul, Nat.testBit_div_two_pow]
  by_cases h : i < k
  · have : ¬ k ≤ i := by omega
    simp [h, this]
  · have h' : k ≤ i := by omega
    simp [h, h', show i - k + k = i by omega]

def QsT (s b : Nat) : Nat := QdH 8 (s ^^^ b)
theorem QmE (s b : Nat) : QsT s b = s / 256 ^^^ QdH 8 (s % 256 ^^^ b) := by
  have h : s ^^^ b = (s % 256 ^^^ b) ^^^ 2 ^ 8 * (s / 256) := by
    have := Qhv s 8
    rw [show (2 : Nat) ^ 8 = 256 from rfl] at this ⊢
    rw [Nat.xor_assoc, Nat.xor_comm b, ← Nat.xor_assoc, ← this]
  rw [QsT, h, QlG, Nat.xor_comm]
theorem Qr5 {s b : Nat} (hs : s < 4294967296) (hb : b < 256) : QsT s b < 4294967296 := QgC 8 (Nat.xor_lt_two_pow (n := 32) (by omega) (by omega))

def Qm3 (s : Nat) (l : List UInt8) : Nat := l.foldl (fun s b => QsT s b.toNat) s
theorem QoH {s : Nat} {l : List UInt8} {k : Nat} (h : k < l.length) : Qm3 s (l.take (k + 1)) = QsT (Qm3 s (l.take k)) (l[k]).toNat := by
  rw [List.take_succ_eq_append_getElem h, Qm3, List.foldl_append]; rfl
theorem Qkx : ∀ {l : List UInt8} {s : Nat}, s < 4294967296 → Qm3 s l < 4294967296
  | [], _, h => h
  | b :: l, s, h => Qkx (l := l) (Qr5 h (UInt8.toNat_lt b))

end Go.Am

namespace Go.Am
open Go.RowKit

/-! ### CRC-32 -/

def QhR (i : Nat) : List Int := (List.range 256).map fun j => if j < i then ((QdH 8 j : Nat) : Int) else 0
theorem ZZ (i : Nat) : (QhR i).length = 256 := by simp [QhR]
theorem Qdx {i j : Nat} (h : j < 256) : (QhR i)[j]'(by rw [ZZ]; exact h) = if j < i then ((QdH 8 j : Nat) : Int) else 0 := by simp [QhR]
theorem QpD {i : Nat} (h : i < 256) : (QhR i).set i ((QdH 8 i : Nat) : Int) = QhR (i + 1) := by
  refine List.ext_getElem (by simp [ZZ]) fun j h1 h2 => ?_
  have hj : j < 256 := by simpa [ZZ] using h2
  rw [List.getElem_set, Qdx hj]
  split
  · rename_i e; subst e; rw [Qdx hj, if_pos (by omega)]
  · rename_i e; rw [Qdx hj]
    by_cases h3 : j < i
    · rw [if_pos h3, if_pos (by omega)]
    · rw [if_neg h3, if_neg (by omega)]

def QkY (P : Prg) (f : Nat) : Prop := VC P f [] (.cell (ks .u32 (QhR 256)))
theorem Qdb {l : List UInt8} {k : Nat} (h : k < l.length) : (u8 l).drop k = .int .u8 (l[k]).toNat :: u8 (l.drop (k + 1)) := by
  rw [QaV, List.drop_eq_getElem_cons h]; rfl

set_option maxRecDepth 40000 in
theorem Qkz {P : Prg} {f t0 : Nat} (bd : Qm P f 24 [.tmp 0] (JW t0)) : QkY P f := by
  refine VC.of_walk 1 rfl (by simp [isD, Qoe (QK _ _)]) (ACall.of_body bd (by simp) ?_)
  unfold JW
  have z0 : ([.int .u32 0, .int .u32 0] : List AV) = [.int .u32 0, .int .u32 0] := rfl
  simp (maxSteps := 4000000) (disch := omega) only [rr, aop, cV, cV1, AV.one, Qb, okW, Qd, app, Qa, Qc, Qe, Qf, Qg, simprocAttr]
  refine QV.by (ι := Nat) (fun i => ⟨[(5, .int .i64 i), (1, .ref 0 1 0)], [⟨t0, 256, 1, ks .u32 (QhR i), 0⟩]⟩) (fun i => i ≤ 256) (fun i => 256 - i) 0 (Le.slots (by simp [Am.look])) (by omega) ?_
  intro i hi
  by_cases hlt : i < 256
  · simp (maxSteps := 4000000) (disch := omega) only [rr, aop, cV, cV1, AV.one, Qb, okW, Qd, app, Qa, Qc, Qe, Qf, Qg, simprocAttr]
    refine QV.by (ι := Nat) (fun j => ⟨[(10, .int .i64 j), (3, .int .u32 (QdH j i)), (5, .int .i64 i), (2, .int .i64 i), (1, .ref 0 1 0)], [⟨t0, 256, 1, ks .u32 (QhR i), 0⟩]⟩) (fun j => j ≤ 8) (fun j => 8 - j) 0 (Le.slots (by simp [Am.look, QdH])) (by omega) ?_
    intro j hj
    by_cases hjl : j < 8
    · have hc := QgC j (c := i) (by omega)
      have hn := QiH j i
      generalize QdH j i = c at *
      have a1 : IntKind.u32.wrap (BitVec.ofInt IntKind.u32.bits (c : Int) &&& BitVec.ofInt IntKind.u32.bits 1).toNat = ((c % 2 : Nat) : Int) := by
        have h := QtB (K := .u32) rfl (a := c) (b := 1) (by exact hc) (by decide)
        rw [Nat.and_one_is_mod] at h
        exact h
      have a2 : Qs false .u32 (c : Int) 1 = some (.int .u32 ((c / 2 : Nat) : Int)) := QjH (K := .u32) (n := c) (k := 1) (by decide)
      rcases Nat.mod_two_eq_zero_or_one c with h2 | h2
      · have a3 : IntKind.u32.wrap (BitVec.ofInt IntKind.u32.bits ((c / 2 : Nat) : Int) ^^^ BitVec.ofInt IntKind.u32.bits 0).toNat = ((QdH (j + 1) i : Nat) : Int) := by
          rw [hn, QqA, h2, if_neg (by decide)]
          exact Qpw (K := .u32) rfl (a := c / 2) (b := 0) (by show c / 2 < 4294967296; omega) (by decide)
        have a1' : IntKind.u32.wrap (BitVec.ofInt IntKind.u32.bits (c : Int) &&& BitVec.ofInt IntKind.u32.bits 1).toNat = 0 := by rw [a1, h2]; rfl
        simp (maxSteps := 4000000) (disch := omega) only [rr, aop, cV, cV1, AV.one, Qb, okW, Qd, app, Qa, Qc, Qe, Qf, Qg, simprocAttr, a1', a2, a3]
        exact ⟨j + 1, by omega, by omega, Le.slots (by simp [Am.look])⟩
      · have a3 : IntKind.u32.wrap (BitVec.ofInt IntKind.u32.bits ((c / 2 : Nat) : Int) ^^^ BitVec.ofInt IntKind.u32.bits 3988292384).toNat = ((QdH (j + 1) i : Nat) : Int) := by
          rw [hn, QqA, h2, if_pos rfl]
          exact Qpw (K := .u32) rfl (a := c / 2) (b := 3988292384) (by show c / 2 < 4294967296; omega) (by decide)
        have a1' : IntKind.u32.wrap (BitVec.ofInt IntKind.u32.bits (c : Int) &&& BitVec.ofInt IntKind.u32.bits 1).toNat = 1 := by rw [a1, h2]; rfl
        simp (maxSteps := 4000000) (disch := omega) only [rr, aop, cV, cV1, AV.one, Qb, okW, Qd, app, Qa, Qc, Qe, Qf, Qg, simprocAttr, a1', a2, a3]
        exact ⟨j + 1, by omega, by omega, Le.slots (by simp [Am.look])⟩
    · obtain rfl : j = 8 := by omega
      have e1 := ZZ i
      have e2 := Ql .u32 (QhR i)
      have e3 : (ks .u32 (QhR i)).take i ++ [.int .u32 (QdH 8 i)] ++ (ks .u32 (QhR i)).drop (i + 1) = ks .u32 (QhR (i + 1)) := by
        rw [← QpD hlt, List.set_eq_take_append_cons_drop, if_pos (by rw [ZZ]; exact hlt)]; simp [ks, List.map_take, List.map_drop]
      simp (maxSteps := 4000000) (disch := omega) only [rr, aop, cV, cV1, AV.one, Qb, okW, Qd, app, Qa, Qc, Qe, Qf, Qg, simprocAttr, e1, e2, e3]
      exact ⟨i + 1, by omega, by omega, Le.slots (by simp [Am.look])⟩
  · obtain rfl : i = 256 := by omega
    simp (maxSteps := 4000000) (disch := omega) only [rr, aop, cV, cV1, AV.one, Qb, okW, Qd, app, Qa, Qc, Qe, Qf, Qg, simprocAttr]
    simp [ZJ, QX, frzL, QO, frzL_T _ (QK _ _)]

def Qk6 (P : Prg) (f : Nat) : Prop := ∀ (s : Nat) (l : List UInt8), s < 4294967296 → VC P f [.int .u32 s, bs l] (if 100000 < l.length then .tup [.int .u32 0, .int .i64 4] else .tup [.int .u32 (Qm3 s l), .int .i64 0])
set_option maxRecDepth 40000 in
theorem QmG {P : Prg} {f fT : Nat} (bd : Qm P f 32 [.tmp 4, .tmp 5] (X8 fT)) (hT : QkY P fT) : Qk6 P f := by
  intro s l hs
  refine VC.of_acall (by simp [isDL, isD, Zu]) (by split <;> rfl) (ACall.of_body bd (by simp) ?_)
  by_cases hl : 100000 < l.length
  · rw [if_pos hl]
    simp (maxSteps := 4000000) (disch := omega) only [rr, aop, cV, cV1, AV.one, Qb, okW, Qd, app, Qa, Qc, Qe, Qf, Qg, simprocAttr, X8, bs]
  · rw [if_neg hl]
    have hT' := hT
    have t0 := Ql .u32 (QhR 256)
    rw [ZZ] at t0
    simp (maxSteps := 4000000) (disch := omega) only [rr, aop, cV, cV1, AV.one, Qb, okW, Qd, app, Qa, Qc, Qe, Qf, Qg, simprocAttr, X8, bs]
    refine Qh.vc hT' ?_
    simp (maxSteps := 4000000) (disch := omega) only [rr, aop, cV, cV1, AV.one, Qb, okW, Qd, app, Qa, Qc, Qe, Qf, Qg, simprocAttr]
    refine QV.by (ι := Nat) (fun k => ⟨[(15, .int .i64 k), (14, .int .i64 l.length), (13, .list l.length (u8 l)), (6, .cell (ks .u32 (QhR 256))), (0, .int .u32 (Qm3 s (l.take k)))], []⟩) (fun k => k ≤ l.length) (fun k => l.length - k) 0 (Le.slots (by simp [Am.look, Qm3])) (by omega) ?_
    intro k hk
    have hc := Qkx (l := l.take k) hs
    by_cases hlt : k < l.length
    · have e1 := Qdb hlt
      have hn := QoH (s := s) hlt
      generalize Qm3 s (l.take k) = c at *
      rw [QmE] at hn
      have hb := (l[k]).toNat_lt
      have h0 : (c % 256 ^^^ (l[k]).toNat) < 256 := Nat.xor_lt_two_pow (n := 8) (Nat.mod_lt _ (by decide)) hb
      have h1 := QgC 8 (c := c % 256 ^^^ (l[k]).toNat) (by omega)
      have a1 : Qs false .u32 (c : Int) 8 = some (.int .u32 ((c / 256 : Nat) : Int)) := QjH (K := .u32) (n := c) (k := 8) (by decide)
      have a2 : IntKind.u8.wrap (c : Int) = ((c % 256 : Nat) : Int) := by rw [QbK]; omega
      have a3 : IntKind.u8.wrap (BitVec.ofInt IntKind.u8.bits ((c % 256 : Nat) : Int) ^^^ BitVec.ofInt IntKind.u8.bits ((l[k]).toNat : Int)).toNat = ((c % 256 ^^^ (l[k]).toNat : Nat) : Int) :=
        Qpw (K := .u8) rfl (a := c % 256) (b := (l[k]).toNat) (Nat.mod_lt _ (by decide)) hb
      have a4 : IntKind.u32.wrap (BitVec.ofInt IntKind.u32.bits ((c / 256 : Nat) : Int) ^^^ BitVec.ofInt IntKind.u32.bits ((QdH 8 (c % 256 ^^^ (l[k]).toNat) : Nat) : Int)).toNat = ((Qm3 s (l.take (k + 1)) : Nat) : Int) := by
        rw [hn]; exact Qpw (K := .u32) rfl (by show c / 256 < 4294967296; omega) h1
      generalize c % 256 ^^^ (l[k]).toNat = x at *
      have e2 : (ks .u32 (QhR 256)).drop x = .int .u32 ((QdH 8 x : Nat) : Int) :: ks .u32 ((QhR 256).drop (x + 1)) := by
        rw [JL, List.drop_eq_getElem_cons (by rw [ZZ]; exact h0), Qd9, Qdx h0, if_pos h0]
      simp (maxSteps := 4000000) (disch := omega) only [rr, aop, cV, cV1, AV.one, Qb, okW, Qd, app, Qa, Qc, Qe, Qf, Qg, simprocAttr, e1, a1, a2, a3, a4, e2, t0]
      exact ⟨k + 1, by omega, by omega, Le.slots (by simp [Am.look])⟩
    · have ek : k = l.length := by omega
      subst ek
      rw [List.take_length]
      simp (maxSteps := 4000000) (disch := omega) only [rr, aop, cV, cV1, AV.one, Qb, okW, Qd, app, Qa, Qc, Qe, Qf, Qg, simprocAttr]

def QeI (P : Prg) (f : Nat) : Prop := ∀ (l : List UInt8), VC P f [bs l] (if 100000 < l.length then .tup [.int .u32 0, .int .i64 4] else .tup [.int .u32 ((4294967295 - Qm3 4294967295 l : Nat) : Int), .int .i64 0])

theorem Qq9 {c : Nat} (h : c < 4294967296) : 4294967295 ^^^ c = 4294967295 - c := by
  have h1 : BitVec.allOnes 32 ^^^ BitVec.ofNat 32 c = ~~~ BitVec.ofNat 32 c := by
    apply BitVec.eq_of_getElem_eq
    intro i hi
    rw [BitVec.getElem_xor, BitVec.getElem_allOnes, BitVec.getElem_not, Bool.true_xor]
  have h2 := congrArg BitVec.toNat h1
  rw [BitVec.toNat_xor, BitVec.toNat_not, BitVec.toNat_allOnes, BitVec.toNat_ofNat, Nat.mod_eq_of_lt h] at h2
  exact h2

theorem QoJ {P : Prg} {f fN : Nat} (bd : Qm P f 16 [.tmp 2, .tmp 3] (JF fN)) (hN : Qk6 P fN) : QeI P f := by
  intro l
  refine VC.of_acall (by simp [isDL, isD, Zu]) (by split <;> rfl) (ACall.of_body bd (by simp) ?_)
  have hN' := hN 4294967295 l (by decide)
  have hc := Qkx (l := l) (s := 4294967295) (by decide)
  generalize Qm3 4294967295 l = c at *
  simp only [bs] at hN'
  by_cases hl : 100000 < l.length
  · rw [if_pos hl] at hN' ⊢
    simp (maxSteps := 4000000) (disch := omega) only [rr, aop, cV, cV1, AV.one, Qb, okW, Qd, app, Qa, Qc, Qe, Qf, Qg, simprocAttr, JF, bs]
    refine Qh.vc hN' ?_
    simp (maxSteps := 4000000) (disch := omega) only [rr, aop, cV, cV1, AV.one, Qb, okW, Qd, app, Qa, Qc, Qe, Qf, Qg, simprocAttr]
  · rw [if_neg hl] at hN' ⊢
    have a1 : IntKind.u32.wrap (BitVec.ofInt IntKind.u32.bits IntKind.u32.max ^^^ BitVec.ofInt IntKind.u32.bits (c : Int)).toNat = ((4294967295 - c : Nat) : Int) := by
      rw [← Qq9 hc]
      exact Qpw (K := .u32) rfl (a := 4294967295) (b := c) (by decide) hc
    have a2 : IntKind.u32.signed = false := rfl
    simp (maxSteps := 4000000) (disch := omega) only [rr, aop, cV, cV1, AV.one, Qb, okW, Qd, app, Qa, Qc, Qe, Qf, Qg, simprocAttr, JF, bs]
    refine Qh.vc hN' ?_
    simp (maxSteps := 4000000) (disch := omega) only [rr, aop, cV, cV1, AV.one, Qb, okW, Qd, app, Qa, Qc, Qe, Qf, Qg, simprocAttr, a1, a2]

/-! ### Its reference -/

end Go.Am

namespace Go.Am
open Go.RowKit

/-! ### Bits as a Qde: N bits, whose Qde is V; their bytes are leB V (nB N) -/

def nB (N : Nat) : Nat := (N + 7) / 8

theorem Qqf (V i : Nat) : leB V (i + 1) = leB V i ++ [UInt8.ofNat (V / 256 ^ i % 256)] := by
  have h1 : (leB V (i + 1)).take (i + 1) = (leB V (i + 1)).take i ++ [UInt8.ofNat (V / 256 ^ i % 256)] := Qcn (by omega)
  have h2 : ∀ k j n : Nat, k ≤ j → (leB n j).take k = leB n k := by
    intro k
    induction k with
    | zero => intro j n _; simp [leB]
    | succ k ih =>
      intro j n h
      obtain ⟨j, rfl⟩ : ∃ j', j = j' + 1 := ⟨j - 1, by omega⟩
      simp [leB, ih j (n / 256) (by omega)]
  rw [h2 (i + 1) (i + 1) V (by omega), h2 i (i + 1) V (by omega)] at h1
  exact h1

theorem Qob : ∀ (i V u : Nat), leB (V + 256 ^ i * u) i = leB V i
  | 0, _, _ => rfl
  | i + 1, V, u => by
    have e : 256 ^ (i + 1) * u = 256 * (256 ^ i * u) := by rw [Nat.pow_succ, Nat.mul_comm (256 ^ i) 256, Nat.mul_assoc]
    have e1 : (V + 256 ^ (i + 1) * u) % 256 = V % 256 := by rw [e]; omega
    have e2 : (V + 256 ^ (i + 1) * u) / 256 = V / 256 + 256 ^ i * u := by rw [e]; omega
    simp only [leB, e1, e2, Qob i]

theorem QnW (i : Nat) : (256 : Nat) ^ i = 2 ^ (8 * i) := by rw [Nat.pow_mul]

theorem Qa1 {V i at_ : Nat} (h : V < 2 ^ (8 * i + at_)) (ha : at_ ≤ 8) : leB V (i + 1) = leB V i ++ [UInt8.ofNat (V / 256 ^ i)] ∧ V / 256 ^ i < 2 ^ at_ := by
  have h1 : V / 256 ^ i < 2 ^ at_ := Nat.div_lt_of_lt_mul (by rw [QnW, ← Nat.pow_add]; exact h)
  have h2 : 2 ^ at_ ≤ 2 ^ 8 := Nat.pow_le_pow_right (by omega) ha
  exact ⟨by rw [Qqf, Nat.mod_eq_of_lt (by omega)], h1⟩

theorem QbH {V i at_ w r : Nat} (h : V < 2 ^ (8 * i + at_)) (hw : w < 2 ^ r) (hr : at_ + r ≤ 8) :
    leB (V + 2 ^ (8 * i + at_) * w) (i + 1) = leB V i ++ [UInt8.ofNat (V / 256 ^ i + 2 ^ at_ * w)] ∧ V / 256 ^ i + 2 ^ at_ * w < 2 ^ (at_ + r) ∧ V + 2 ^ (8 * i + at_) * w < 2 ^ (8 * i + (at_ + r)) := by
  obtain ⟨_, h1⟩ := Qa1 h (by omega)
  have e : 2 ^ (8 * i + at_) * w = 256 ^ i * (2 ^ at_ * w) := by rw [QnW, Nat.pow_add, Nat.mul_assoc]
  have h2 : V / 256 ^ i + 2 ^ at_ * w < 2 ^ (at_ + r) := by
    have : 2 ^ at_ * (w + 1) ≤ 2 ^ at_ * 2 ^ r := Nat.mul_le_mul_left _ hw
    rw [Nat.pow_add]; rw [Nat.mul_add, Nat.mul_one] at this; omega
  have h3 : V + 2 ^ (8 * i + at_) * w < 2 ^ (8 * i + (at_ + r)) := by
    have : 2 ^ (8 * i + at_) * (w + 1) ≤ 2 ^ (8 * i + at_) * 2 ^ r := Nat.mul_le_mul_left _ hw
    rw [← Nat.add_assoc, Nat.pow_add 2 (8 * i + at_)]; rw [Nat.mul_add, Nat.mul_one] at this; omega
  refine ⟨?_, h2, h3⟩
  have h4 := (Qa1 (V := V + 2 ^ (8 * i + at_) * w) (i := i) (at_ := at_ + r) h3 hr).1
  rw [h4, e, Qob, Nat.add_mul_div_left _ _ (Nat.pow_pos (by omega))]

theorem QsZ (V q r : Nat) (hr : r < 8) : V / 256 ^ q % 256 / 2 ^ r % 2 = V / 2 ^ (8 * q + r) % 2 := by
  rw [QnW, show (256 : Nat) = 2 ^ r * 2 ^ (8 - r) by rw [← Nat.pow_add, show r + (8 - r) = 8 by omega], Nat.mod_mul_right_div_self, Nat.div_div_eq_div_mul, ← Nat.pow_add]
  rw [Nat.mod_mod_of_dvd]
  exact ⟨2 ^ (8 - r - 1), by rw [← Nat.pow_succ']; congr 1; omega⟩

end Go.Am

namespace Go.Am
open Go.RowKit

/-! ### Bits: Check, get, Get -/

def bA (N V : Nat) : AV := .agg [.list (nB N) (u8 (leB V (nB N))), .int .i64 N]
theorem Qco (N V : Nat) : isD (bA N V) = true := by simp [bA, isD, isDL, QcT]

theorem QlO {n : Nat} (h : n < 9223372036854775808) : IntKind.i64.wrap (BitVec.ofInt IntKind.i64.bits (n : Int) &&& BitVec.ofInt IntKind.i64.bits 7).toNat = ((n % 8 : Nat) : Int) := by
  have e1 : (BitVec.ofInt 64 (n : Int)).toNat = n := by
    rw [BitVec.toNat_ofInt]
    show ((n : Int) % 18446744073709551616).toNat = n
    omega
  have e2 : (BitVec.ofInt 64 7).toNat = 7 := by decide
  have : (BitVec.ofInt 64 (n : Int) &&& BitVec.ofInt 64 7).toNat = n % 8 := by
    rw [BitVec.toNat_and, e1, e2]
    exact Nat.and_two_pow_sub_one_eq_mod n 3
  show IntKind.i64.wrap ((BitVec.ofInt 64 (n : Int) &&& BitVec.ofInt 64 7).toNat : Int) = _
  rw [this, Xc] <;> omega

theorem Qsn {l : List UInt8} {k : Nat} (h : k < l.length) : (u8 l).drop k = .int .u8 (l[k]).toNat :: u8 (l.drop (k + 1)) := by
  rw [QaV, List.drop_eq_getElem_cons h]; rfl

theorem QqS {V k i : Nat} (h : i < k) : (u8 (leB V k)).drop i = .int .u8 ((V / 256 ^ i % 256 : Nat) : Int) :: u8 ((leB V k).drop (i + 1)) := by
  rw [Qsn (by rw [Qi]; exact h)]
  have := Qj3 k V i h
  rw [List.getElem?_eq_getElem (by rw [Qi]; exact h)] at this
  rw [Option.some.inj this]
  have : (UInt8.ofNat (V / 256 ^ i % 256)).toNat = V / 256 ^ i % 256 := by simp
  rw [this]

def Qbo (P : Prg) (f : Nat) : Prop := ∀ N V : Nat, V < 2 ^ N → N ≤ 330000 → VC P f [bA N V] (.int .i64 0)
theorem QmS {P : Prg} {f t0 : Nat} (bd : Qm P f 40 [.tmp 2] (X9 t0)) : Qbo P f := by
  intro N V hV hN
  refine VC.of_acall (by simp [isDL, Qco]) rfl (ACall.of_body bd (by simp) ?_)
  have e1 : Qs false .i64 ((N : Int) + 7) 3 = some (.int .i64 ((nB N : Nat) : Int)) := by
    rw [show (N : Int) + 7 = ((N + 7 : Nat) : Int) by omega]
    exact QjH (K := .i64) (n := N + 7) (k := 3) (by decide)
  have e2 := QlO (n := N) (by omega)
  have e3 : (u8 (leB V (nB N))).length = nB N := by simp [u8, Qi]
  by_cases h0 : N % 8 = 0
  · rw [h0] at e2
    have e2' : IntKind.i64.wrap (BitVec.ofInt IntKind.i64.bits (N : Int) &&& BitVec.ofInt IntKind.i64.bits 7).toNat = 0 := e2
    simp (maxSteps := 4000000) (disch := omega) only [rr, aop, cV, cV1, AV.one, Qb, okW, Qd, app, Qa, Qc, Qe, Qf, Qg, simprocAttr, X9, bA, e1, e2', e3]
  · have hn : nB N = N / 8 + 1 := by unfold nB; omega
    have h8 : N = 8 * (N / 8) + N % 8 := by omega
    obtain ⟨l1, l2⟩ := Qa1 (V := V) (i := N / 8) (at_ := N % 8) (by rw [← h8]; exact hV) (by omega)
    have e4 := QqS (V := V) (k := nB N) (i := N / 8) (by omega)
    have h256 : V / 256 ^ (N / 8) % 256 = V / 256 ^ (N / 8) := Nat.mod_eq_of_lt (by
      have : 2 ^ (N % 8) ≤ 2 ^ 8 := Nat.pow_le_pow_right (by omega) (by omega)
      omega)
    rw [h256] at e4
    have e5 : Qs false .u8 ((V / 256 ^ (N / 8) : Nat) : Int) ((N % 8 : Nat) : Int) = some (.int .u8 0) := by
      have := QjH (K := .u8) (n := V / 256 ^ (N / 8)) (k := N % 8) (by show N % 8 ≤ 8; omega)
      rw [this, Nat.div_eq_of_lt l2]; rfl
    have e6 : nB N - 1 = N / 8 := by omega
    have hq : ((N % 8 : Nat) : Int) = (N : Int) % 8 := by omega
    generalize V / 256 ^ (N / 8) = y at *
    obtain ⟨a, ha⟩ : ∃ a, a = N % 8 := ⟨_, rfl⟩
    rw [← ha] at e2 e5 hq
    simp (maxSteps := 4000000) (disch := omega) only [rr, aop, cV, cV1, AV.one, Qb, okW, Qd, app, Qa, Qc, Qe, Qf, Qg, simprocAttr, X9, bA, e1, e2, e3, e4, e5, e6]

end Go.Am

namespace Go.Am
open Go.RowKit

/-! ### The state of the code with two levels -/

structure Dl where
  k0 : Nat
  k1 : Nat
  s0 : Nat
  s1 : Nat
def dlC (d : Dl) : List AV := [.int .i64 d.k0, .int .i64 d.k1, .int .u64 d.s0, .int .u64 d.s1]
def dlA (d : Dl) : AV := .agg (dlC d)
def okD (d : Dl) : Prop := d.k0 ≤ 24 ∧ d.k1 ≤ 24 ∧ d.s0 ≤ 68719476735 ∧ d.s1 ≤ 68719476735
def QB : Dl := ⟨10, 10, 16384, 16384⟩
def QaK (k s n : Nat) : Nat × Nat :=
  if 0 < k ∧ s + n - s / 16 < 2 ^ (k + 4) then (k - 1, s + n - s / 16) else if k < 24 ∧ 2 ^ (k + 5) < s + n - s / 16 then (k + 1, s + n - s / 16) else (k, s + n - s / 16)
def XU (d : Dl) (v : Nat) : Dl :=
  if v < 2 ^ d.k0 then ⟨(QaK d.k0 d.s0 v).1, d.k1, (QaK d.k0 d.s0 v).2, d.s1⟩
  else ⟨(QaK d.k0 d.s0 v).1, (QaK d.k1 d.s1 (v - 2 ^ d.k0)).1, (QaK d.k0 d.s0 v).2, (QaK d.k1 d.s1 (v - 2 ^ d.k0)).2⟩

theorem QjY {k s n : Nat} (hk : k ≤ 24) (hs : s ≤ 68719476735) (hn : n < 4294967296) : (QaK k s n).1 ≤ 24 ∧ (QaK k s n).2 ≤ 68719476735 := by
  unfold QaK
  have ht : s + n - s / 16 ≤ 68719476735 := by omega
  generalize s + n - s / 16 = t at *
  split
  · exact ⟨by simp only; omega, ht⟩
  · split
    · rename_i h; exact ⟨by have := h.1; simp only; omega, ht⟩
    · exact ⟨hk, ht⟩
theorem Qqa {d : Dl} {v : Nat} (h : okD d) (hv : v < 4294967296) : okD (XU d v) := by
  obtain ⟨h1, h2, h3, h4⟩ := h
  have p0 := QjY h1 h3 hv
  have p1 := QjY (n := v - 2 ^ d.k0) h2 h4 (Nat.lt_of_le_of_lt (Nat.sub_le _ _) hv)
  unfold XU
  split
  · exact ⟨p0.1, h2, p0.2, h4⟩
  · exact ⟨p0.1, p1.1, p0.2, p1.2⟩
theorem QpH : okD QB := by unfold okD QB; decide
theorem Qoh (d : Dl) : isD (dlA d) = true := rfl

theorem p24 {k : Nat} (h : k ≤ 24) : 2 ^ k ≤ 16777216 ∧ 2 ^ (k + 4) = 16 * 2 ^ k ∧ 2 ^ (k + 5) = 32 * 2 ^ k := by
  have := Nat.pow_le_pow_right (n := 2) (by omega) h
  refine ⟨by simpa using this, ?_, ?_⟩ <;> rw [Nat.pow_add, Nat.mul_comm]

def Qhd (P : Prg) (f : Nat) : Prop := VC P f [] (dlA QB)
theorem QmC {P : Prg} {f t0 : Nat} (bd : Qm P f 2 [.cell 0 t0] (QaA t0)) (ht : Xb P t0 = some (some 4)) : Qhd P f := by
  refine VC.of_acall rfl rfl (ACall.of_body bd (by simp) ?_)
  simp (maxSteps := 4000000) (disch := omega) only [rr, aop, cV, cV1, AV.one, Qb, okW, Qd, app, Qa, Qc, Qe, Qf, Qg, simprocAttr, QaA, Z1, ht, Q7, dlA, dlC, QB]
  try rfl
def Qhn (P : Prg) (f : Nat) : Prop := ∀ d : Dl, okD d → VC P f [dlA d] (.int .i64 0)
theorem QmD {P : Prg} {f t0 : Nat} (bd : Qm P f 26 [.tmp 2] (QaB t0)) : Qhn P f := by
  intro d h
  obtain ⟨k0, k1, s0, s1⟩ := d
  obtain ⟨h1, h2, h3, h4⟩ := h
  simp only at h1 h2 h3 h4
  refine VC.of_acall rfl rfl (ACall.of_cut 1 bd (by simp) ?_)
  simp (maxSteps := 4000000) (disch := omega) only [rr, aop, cV, cV1, AV.one, Qb, okW, Qd, app, Qa, Qc, Qe, Qf, Qg, simprocAttr, QaB, dlA, dlC, QcF]
  refine ⟨⟨[(2, .int .i64 0), (1, .cell [.int .i64 k0, .int .i64 k1, .int .u64 s0, .int .u64 s1])], []⟩, Le.dropT [] (by simp) (by simp [Am.look, QX, frzL, QO]), ?_⟩
  simp (maxSteps := 4000000) (disch := omega) only [rr, aop, cV, cV1, AV.one, Qb, okW, Qd, app, Qa, Qc, Qe, Qf, Qg, simprocAttr]

def QeB (P : Prg) (f : Nat) : Prop := ∀ (d : Dl) (v : Nat), okD d → v < 4294967296 → VC P f [dlA d, .int .u32 v] (if v < 2 ^ d.k0 then .tup [.int .i64 0, .int .u32 v] else .tup [.int .i64 1, .int .u32 ((v - 2 ^ d.k0 : Nat) : Int)])
theorem Qmz {P : Prg} {f t0 : Nat} (bd : Qm P f 17 [.tmp 4, .tmp 5] (X5 t0)) : QeB P f := by
  intro d v h hv
  obtain ⟨k0, k1, s0, s1⟩ := d
  obtain ⟨h1, h2, h3, h4⟩ := h
  simp only at h1 h2 h3 h4
  refine VC.of_acall rfl (by simp only; split <;> rfl) (ACall.of_body bd (by simp) ?_)
  have e1 : Qs false .u32 (v : Int) (k0 : Int) = some (.int .u32 ((v / 2 ^ k0 : Nat) : Int)) := QjH (K := .u32) (by show k0 ≤ 32; omega)
  obtain ⟨q1, _⟩ := p24 h1
  have e2 : Qs true .u32 1 (k0 : Int) = some (.int .u32 ((2 ^ k0 : Nat) : Int)) := by
    have := Qpq (K := .u32) rfl (c := 1) (s := k0) (by show k0 ≤ 32; omega) (by show 1 * 2 ^ k0 < 4294967296; omega)
    rw [Nat.one_mul] at this
    exact this
  simp only
  by_cases c : v < 2 ^ k0
  · rw [if_pos c]
    rw [Nat.div_eq_of_lt c] at e1
    have e1' : Qs false .u32 (v : Int) (k0 : Int) = some (.int .u32 0) := e1
    simp (maxSteps := 4000000) (disch := omega) only [rr, aop, cV, cV1, AV.one, Qb, okW, Qd, app, Qa, Qc, Qe, Qf, Qg, simprocAttr, X5, dlA, dlC, e1']
  · rw [if_neg c]
    have hpos : 0 < v / 2 ^ k0 := Nat.div_pos (by omega) (Nat.pow_pos (by omega))
    have hle : v / 2 ^ k0 ≤ v := Nat.div_le_self _ _
    have e3 : ((v - 2 ^ k0 : Nat) : Int) = (v : Int) - ((2 ^ k0 : Nat) : Int) := by omega
    generalize v / 2 ^ k0 = w at *
    generalize 2 ^ k0 = p at *
    simp (maxSteps := 4000000) (disch := omega) only [rr, aop, cV, cV1, AV.one, Qb, okW, Qd, app, Qa, Qc, Qe, Qf, Qg, simprocAttr, X5, dlA, dlC, e1, e2, e3]

theorem QcR {P : Prg} {f : Nat} (bd : Qm P f 58 [] Qp) {ob : List Ob} {p : Nat} {t : Nat} {d : Dl} (hp : ob[p]? = some ⟨t, 4, 1, dlC d, 0⟩) (hd : okD d) {n : Nat} (hn : n < 4294967296) (b : Bool) {K : AV → List Ob → Prop}
    (hK : K (.tup []) (ob.set p ⟨t, 4, 1, dlC (if b then ⟨d.k0, (QaK d.k1 d.s1 n).1, d.s0, (QaK d.k1 d.s1 n).2⟩ else ⟨(QaK d.k0 d.s0 n).1, d.k1, (QaK d.k0 d.s0 n).2, d.s1⟩), 0⟩)) :
    ACall P f [.ref p 1 (if b then 1 else 0), .ref p 1 (if b then 3 else 2), .int .u32 n] ob K := by
  have hpl : p < ob.length := (List.getElem?_eq_some_iff.1 hp).1
  have g1 : ∀ x, (ob.set p x)[p]? = some x := fun x => by simp [hpl]
  have g2 : ∀ x y, (ob.set p x).set p y = ob.set p y := fun x y => List.set_set _
  have key : ∀ k s : Nat, k ≤ 24 → s ≤ 68719476735 → ∃ t p4 p5 : Nat, t ≤ 68719476735 ∧ IntKind.u64.wrap ((s : Int) + IntKind.u64.wrap ((n : Int) - ((s / 16 : Nat) : Int))) = (t : Int) ∧ Qs false .u64 (s : Int) 4 = some (.int .u64 ((s / 16 : Nat) : Int)) ∧
      Qs true .u64 16 (k : Int) = some (.int .u64 (p4 : Int)) ∧ Qs true .u64 32 (k : Int) = some (.int .u64 (p5 : Int)) ∧
      Qs true .u64 16 (k : Int) = some (.int .u64 (p4 : Int)) ∧ QaK k s n = if 0 < k ∧ t < p4 then (k - 1, t) else if k < 24 ∧ p5 < t then (k + 1, t) else (k, t) := by
    intro k s hk hs
    obtain ⟨q1, q2, q3⟩ := p24 hk
    refine ⟨s + n - s / 16, 2 ^ (k + 4), 2 ^ (k + 5), by omega, ?_, QjH (K := .u64) (k := 4) (by decide), ?_, ?_, ?_, rfl⟩
    · rw [Z4, Z4]; omega
    · rw [q2]; exact Qpq (K := .u64) rfl (c := 16) (by show k ≤ 64; omega) (by show 16 * 2 ^ k < 18446744073709551616; omega)
    · rw [q3]; exact Qpq (K := .u64) rfl (c := 32) (by show k ≤ 64; omega) (by show 32 * 2 ^ k < 18446744073709551616; omega)
    · rw [q2]; exact Qpq (K := .u64) rfl (c := 16) (by show k ≤ 64; omega) (by show 16 * 2 ^ k < 18446744073709551616; omega)
  obtain ⟨k0, k1, s0, s1⟩ := d
  obtain ⟨h1, h2, h3, h4⟩ := hd
  simp only at h1 h2 h3 h4
  refine ACall.of_body bd (by simp) ?_
  simp only [dlC] at hp hK
  cases b with
  | false =>
    obtain ⟨u, p4, p5, hu, e1, e2, e3, e4, _, e5⟩ := key k0 s0 h1 h3
    simp only [e5, Bool.false_eq_true, if_false] at hK ⊢
    by_cases c1 : 0 < k0
    · by_cases c2 : u < p4
      · rw [if_pos ⟨c1, c2⟩] at hK
        have e6 : ((k0 - 1 : Nat) : Int) = (k0 : Int) - 1 := by omega
        simp only [e6] at hK
        simp (maxSteps := 4000000) (disch := omega) only [rr, aop, cV, cV1, AV.one, Qb, okW, Qd, app, Qa, Qc, Qe, Qf, Qg, simprocAttr, Qp, hp, g1, g2, e1, e2, e3, e4, e6]
        exact hK
      · rw [if_neg (fun h => c2 h.2)] at hK
        by_cases c3 : k0 < 24
        · by_cases c4 : p5 < u
          · rw [if_pos ⟨c3, c4⟩] at hK
            simp only [Int.natCast_add] at hK
            simp (maxSteps := 4000000) (disch := omega) only [rr, aop, cV, cV1, AV.one, Qb, okW, Qd, app, Qa, Qc, Qe, Qf, Qg, simprocAttr, Qp, hp, g1, g2, e1, e2, e3, e4]
            exact hK
          · rw [if_neg (fun h => c4 h.2)] at hK
            simp (maxSteps := 4000000) (disch := omega) only [rr, aop, cV, cV1, AV.one, Qb, okW, Qd, app, Qa, Qc, Qe, Qf, Qg, simprocAttr, Qp, hp, g1, g2, e1, e2, e3, e4]
            exact hK
        · rw [if_neg (fun h => c3 h.1)] at hK
          simp (maxSteps := 4000000) (disch := omega) only [rr, aop, cV, cV1, AV.one, Qb, okW, Qd, app, Qa, Qc, Qe, Qf, Qg, simprocAttr, Qp, hp, g1, g2, e1, e2, e3, e4]
          exact hK
    · rw [if_neg (fun h => c1 h.1)] at hK
      by_cases c4 : p5 < u
      · rw [if_pos ⟨by omega, c4⟩] at hK
        simp only [Int.natCast_add] at hK
        simp (maxSteps := 4000000) (disch := omega) only [rr, aop, cV, cV1, AV.one, Qb, okW, Qd, app, Qa, Qc, Qe, Qf, Qg, simprocAttr, Qp, hp, g1, g2, e1, e2, e3, e4]
        exact hK
      · rw [if_neg (fun h => c4 h.2)] at hK
        simp (maxSteps := 4000000) (disch := omega) only [rr, aop, cV, cV1, AV.one, Qb, okW, Qd, app, Qa, Qc, Qe, Qf, Qg, simprocAttr, Qp, hp, g1, g2, e1, e2, e3, e4]
        exact hK
  | true =>
    obtain ⟨u, p4, p5, hu, e1, e2, e3, e4, _, e5⟩ := key k1 s1 h2 h4
    simp only [e5, if_true] at hK ⊢
    by_cases c1 : 0 < k1
    · by_cases c2 : u < p4
      · rw [if_pos ⟨c1, c2⟩] at hK
        have e6 : ((k1 - 1 : Nat) : Int) = (k1 : Int) - 1 := by omega
        simp only [e6] at hK
        simp (maxSteps := 4000000) (disch := omega) only [rr, aop, cV, cV1, AV.one, Qb, okW, Qd, app, Qa, Qc, Qe, Qf, Qg, simprocAttr, Qp, hp, g1, g2, e1, e2, e3, e4, e6]
        exact hK
      · rw [if_neg (fun h => c2 h.2)] at hK
        by_cases c3 : k1 < 24
        · by_cases c4 : p5 < u
          · rw [if_pos ⟨c3, c4⟩] at hK
            simp only [Int.natCast_add] at hK
            simp (maxSteps := 4000000) (disch := omega) only [rr, aop, cV, cV1, AV.one, Qb, okW, Qd, app, Qa, Qc, Qe, Qf, Qg, simprocAttr, Qp, hp, g1, g2, e1, e2, e3, e4]
            exact hK
          · rw [if_neg (fun h => c4 h.2)] at hK
            simp (maxSteps := 4000000) (disch := omega) only [rr, aop, cV, cV1, AV.one, Qb, okW, Qd, app, Qa, Qc, Qe, Qf, Qg, simprocAttr, Qp, hp, g1, g2, e1, e2, e3, e4]
            exact hK
        · rw [if_neg (fun h => c3 h.1)] at hK
          simp (maxSteps := 4000000) (disch := omega) only [rr, aop, cV, cV1, AV.one, Qb, okW, Qd, app, Qa, Qc, Qe, Qf, Qg, simprocAttr, Qp, hp, g1, g2, e1, e2, e3, e4]
          exact hK
    · rw [if_neg (fun h => c1 h.1)] at hK
      by_cases c4 : p5 < u
      · rw [if_pos ⟨by omega, c4⟩] at hK
        simp only [Int.natCast_add] at hK
        simp (maxSteps := 4000000) (disch := omega) only [rr, aop, cV, cV1, AV.one, Qb, okW, Qd, app, Qa, Qc, Qe, Qf, Qg, simprocAttr, Qp, hp, g1, g2, e1, e2, e3, e4]
        exact hK
      · rw [if_neg (fun h => c4 h.2)] at hK
        simp (maxSteps := 4000000) (disch := omega) only [rr, aop, cV, cV1, AV.one, Qb, okW, Qd, app, Qa, Qc, Qe, Qf, Qg, simprocAttr, Qp, hp, g1, g2, e1, e2, e3, e4]
        exact hK

end Go.Am

namespace Go.Am
open Go.RowKit

/-! ### Bits are put behind bits -/

def bO (t o N : Nat) : Ob := ⟨t, 2, 1, [.own o (nB N), .int .i64 N], 0⟩
def bY (t N V : Nat) : Ob := ⟨t, 1, nB N, u8 (leB V (nB N)), 0⟩

theorem JA (V n : Nat) : isDL (u8 (leB V n)) = true := QcT _
theorem Low.put {ob : List Ob} (h : Low ob.length ob) {t t0 o p N V N' : Nat} (ho : o < ob.length) : Low ob.length (Xq ob o p (bY t0 N V) (bO t o N')) := by
  unfold Xq
  refine (h.set ?_).set ?_
  · exact lowL_D _ (JA _ _)
  · simp [bO, lowL, Jq, ho]
theorem Low.drop {ob : List Ob} (h : Low ob.length ob) {t t0 o p N V : Nat} (ho : o < ob.length) {M : Nat} (hM : M ≤ ob.length) {J : List Ob} {fr fr' : List (Nat × AV)}
    (hfr : ∀ q ∈ fr', q.2 = .any ∨ (q.2 = Am.look fr q.1 ∧ Jq ob.length q.2 = true)) :
    Le M ⟨fr, Xq ob o p (bY t0 N V) (bO t o N) ++ J⟩ ⟨fr', Xq ob o p (bY t0 N V) (bO t o N)⟩ := by
  have hl : (Xq ob o p (bY t0 N V) (bO t o N)).length = ob.length := Q0
  refine Le.low (by omega) (by rw [hl]; exact h.put ho) ?_
  rw [hl]
  exact hfr

theorem QtH {V N v j r : Nat} : V + 2 ^ N * (v % 2 ^ (j + r)) = V + 2 ^ N * (v % 2 ^ j) + 2 ^ (N + j) * (v / 2 ^ j % 2 ^ r) := by
  rw [Nat.pow_add, Nat.mod_mul, Nat.mul_add, Nat.pow_add, Nat.mul_assoc, Nat.add_assoc]

set_option maxHeartbeats 1000000 in
theorem QqG {P : Prg} {f t0 t : Nat} (bd : Qm P f 75 [] (QaE t0)) {ob : List Ob} {p o N V v n : Nat} (hp : ob[p]? = some (bO t o N)) (ho : ob[o]? = some (bY t0 N V)) (hpo : p ≠ o) (hV : V < 2 ^ N) (hv : v < 2 ^ n) (hn : n ≤ 64) (hN : N + n ≤ 400000) (hfz : Low ob.length ob)
    {K : AV → List Ob → Prop} (hK : K (.tup []) (Xq ob o p (bY t0 (N + n) (V + 2 ^ N * v)) (bO t o (N + n)))) : ACall P f [.ref p 1 0, .int .u64 v, .int .i64 n] ob K := by
  have hol : o < ob.length := (List.getElem?_eq_some_iff.1 ho).1
  have hpl : p < ob.length := (List.getElem?_eq_some_iff.1 hp).1
  refine ACall.of_body bd (by simp) ?_
  have g0 : ∀ x y J, (Xq ob o p x y ++ J)[p]? = some y := fun x y J => by rw [List.getElem?_append_left (by rw [Q0]; exact hpl)]; exact Qjw hpl
  have g1 : ∀ x y J, (Xq ob o p x y ++ J)[o]? = some x := fun x y J => by rw [List.getElem?_append_left (by rw [Q0]; exact hol)]; exact Qjx hol hpo
  have g2 : ∀ x y J y', (Xq ob o p x y ++ J).set p y' = Xq ob o p x y' ++ J := fun x y J y' => by rw [List.set_append_left _ _ (by rw [Q0]; exact hpl), Qng]
  have g3 : ∀ x y J x', (Xq ob o p x y ++ J).set o x' = Xq ob o p x' y ++ J := fun x y J x' => by rw [List.set_append_left _ _ (by rw [Q0]; exact hol), Qnh hpo]
  have g4 : ∀ x y j, (Xq ob o p x y ++ [j])[ob.length]? = some j := fun x y j => by rw [List.getElem?_append_right (by rw [Q0]; exact Nat.le_refl _), Q0, Nat.sub_self]; rfl
  have gp : ∀ x y, (Xq ob o p x y)[p]? = some y := fun x y => Qjw hpl
  have go : ∀ x y, (Xq ob o p x y)[o]? = some x := fun x y => Qjx hol hpo
  have sp : ∀ x y y', (Xq ob o p x y).set p y' = Xq ob o p x y' := fun x y y' => Qng
  have so : ∀ x y x', (Xq ob o p x y).set o x' = Xq ob o p x' y := fun x y x' => Qnh hpo
  have ln : ∀ x y, (Xq ob o p x y).length = ob.length := fun x y => Q0
  simp (maxSteps := 4000000) (disch := omega) only [rr, aop, cV, cV1, AV.one, Qb, okW, Qd, app, Qa, Qc, Qe, Qf, Qg, simprocAttr, QaE]
  refine QV.by (ι := Nat) (fun j => ⟨[(2, .int .i64 ((n - j : Nat) : Int)), (1, .int .u64 ((v / 2 ^ j : Nat) : Int)), (0, .ref p 1 0)], Xq ob o p (bY t0 (N + j) (V + 2 ^ N * (v % 2 ^ j))) (bO t o (N + j))⟩) (fun j => j ≤ n) (fun j => n - j) 0 ?_ (by omega) ?_
  · have : Xq ob o p (bY t0 (N + 0) (V + 2 ^ N * (v % 2 ^ 0))) (bO t o (N + 0)) = ob := by
      rw [Nat.add_zero, Nat.pow_zero, Nat.mod_one, Nat.mul_zero, Nat.add_zero]
      exact QhP ho hp hpo
    rw [this]
    exact Le.slots (by simp [Am.look])
  intro j hj
  by_cases hlt : j < n
  · obtain ⟨M, hM⟩ : ∃ M, M = N + j := ⟨_, rfl⟩
    obtain ⟨i, hi⟩ : ∃ i, i = M / 8 := ⟨_, rfl⟩
    obtain ⟨a, ha⟩ : ∃ a, a = M % 8 := ⟨_, rfl⟩
    obtain ⟨r, hr⟩ : ∃ r, r = min (n - j) (8 - a) := ⟨_, rfl⟩
    have hM8 : M = 8 * i + a := by omega
    have hW : V + 2 ^ N * (v % 2 ^ j) < 2 ^ M := by
      have h1 : v % 2 ^ j < 2 ^ j := Nat.mod_lt _ (Nat.pow_pos (by omega))
      have h2 : 2 ^ N * (v % 2 ^ j + 1) ≤ 2 ^ N * 2 ^ j := Nat.mul_le_mul_left _ h1
      rw [hM, Nat.pow_add]; rw [Nat.mul_add, Nat.mul_one] at h2; omega
    have hstep := QtH (V := V) (N := N) (v := v) (j := j) (r := r)
    rw [← hM] at hstep ⊢
    have hx : v / 2 ^ j < 18446744073709551616 := by
      have h1 : v / 2 ^ j ≤ v := Nat.div_le_self _ _
      have h2 : 2 ^ n ≤ 2 ^ 64 := Nat.pow_le_pow_right (by omega) hn
      omega
    have hxr : v / 2 ^ (j + r) = v / 2 ^ j / 2 ^ r := by rw [Nat.pow_add, Nat.div_div_eq_div_mul]
    generalize V + 2 ^ N * (v % 2 ^ j) = W at *
    generalize hWW : V + 2 ^ N * (v % 2 ^ (j + r)) = W' at *
    generalize hxx : v / 2 ^ j = x at *
    have h2r : 2 ^ r ≤ 2 ^ 8 := Nat.pow_le_pow_right (by omega) (by omega)
    have h2a : 2 ^ a * 2 ^ r ≤ 2 ^ 8 := by rw [← Nat.pow_add]; exact Nat.pow_le_pow_right (by omega) (by omega)
    have hpos : 0 < 2 ^ r := Nat.pow_pos (by omega)
    have hc : x % 2 ^ r < 2 ^ r := Nat.mod_lt _ hpos
    obtain ⟨l1, l2⟩ := Qa1 (V := W) (i := i) (at_ := a) (by rw [← hM8]; exact hW) (by omega)
    obtain ⟨b1, b2, _⟩ := QbH (V := W) (i := i) (at_ := a) (w := x % 2 ^ r) (r := r) (by rw [← hM8]; exact hW) hc (by omega)
    rw [← hM8, ← hstep] at b1
    have hyb : W / 256 ^ i < 256 := by
      have : 2 ^ a ≤ 2 ^ 8 := Nat.pow_le_pow_right (by omega) (by omega)
      omega
    have hyb2 : W / 256 ^ i + 2 ^ a * (x % 2 ^ r) < 256 := by
      have : 2 ^ (a + r) ≤ 2 ^ 8 := Nat.pow_le_pow_right (by omega) (by omega)
      omega
    have hca : x % 2 ^ r * 2 ^ a < 2 ^ 8 := by
      rw [Nat.mul_comm]
      exact Nat.lt_of_lt_of_le (Nat.mul_lt_mul_of_pos_left hc (Nat.pow_pos (by omega))) h2a
    have hu : ∀ y, y < 256 → u8 [UInt8.ofNat y] = [.int .u8 (y : Int)] := fun y hy => by simp [u8]; omega
    have e8 : IntKind.u8.wrap (BitVec.ofInt IntKind.u8.bits ((W / 256 ^ i : Nat) : Int) ||| BitVec.ofInt IntKind.u8.bits ((x % 2 ^ r * 2 ^ a : Nat) : Int)).toNat = ((W / 256 ^ i + 2 ^ a * (x % 2 ^ r) : Nat) : Int) := by
      rw [orK (K := .u8) rfl hyb hca, QnZ l2, Nat.mul_comm]
    have e7 : Qs true .u8 ((x % 2 ^ r : Nat) : Int) (a : Int) = some (.int .u8 ((x % 2 ^ r * 2 ^ a : Nat) : Int)) := Qpq rfl (by show a ≤ 8; omega) hca
    have e6 : IntKind.u8.wrap ((x % 2 ^ r : Nat) : Int) = ((x % 2 ^ r : Nat) : Int) := by rw [QbK]; omega
    have e5 : IntKind.u64.wrap (BitVec.ofInt IntKind.u64.bits (x : Int) &&& BitVec.ofInt IntKind.u64.bits ((2 ^ r - 1 : Nat) : Int)).toNat = ((x % 2 ^ r : Nat) : Int) := by
      rw [Qpa _ _ hx (by omega), Nat.and_two_pow_sub_one_eq_mod]
    have e4 : IntKind.u64.wrap (((2 ^ r : Nat) : Int) - 1) = ((2 ^ r - 1 : Nat) : Int) := by rw [Z4]; omega
    have e3 : Qs true .u64 1 (r : Int) = some (.int .u64 ((2 ^ r : Nat) : Int)) := by
      have := Qpq (K := .u64) rfl (c := 1) (s := r) (by show r ≤ 64; omega) (by show 1 * 2 ^ r < 18446744073709551616; omega)
      rw [Nat.one_mul] at this
      exact this
    have e9 : Qs false .u64 (x : Int) (r : Int) = some (.int .u64 ((x / 2 ^ r : Nat) : Int)) := QjH (K := .u64) (by show r ≤ 64; omega)
    have e1 := QlO (n := M) (by omega)
    rw [← ha] at e1
    have e2 : (if (8 : Int) - a < ((n - j : Nat) : Int) then (8 : Int) - a else ((n - j : Nat) : Int)) = (r : Int) := by split <;> omega
    have hnB : nB (M + r) = i + 1 := by unfold nB; omega
    have hcell : u8 (leB W' (i + 1)) = u8 (leB W i) ++ [.int .u8 ((W / 256 ^ i + 2 ^ a * (x % 2 ^ r) : Nat) : Int)] := by
      rw [b1, show u8 (leB W i ++ [UInt8.ofNat (W / 256 ^ i + 2 ^ a * (x % 2 ^ r))]) = u8 (leB W i) ++ u8 [UInt8.ofNat (W / 256 ^ i + 2 ^ a * (x % 2 ^ r))] by simp [u8]]
      rw [hu _ hyb2]
    have hlen : (u8 (leB W i)).length = i := by simp [u8, Qi]
    rw [← hxr] at e9
    generalize W / 256 ^ i + 2 ^ a * (x % 2 ^ r) = y' at *
    generalize x % 2 ^ r * 2 ^ a = ca at *
    generalize x % 2 ^ r = c at *
    generalize 2 ^ r - 1 = mk at *
    generalize 2 ^ r = pr at *
    have d1 : ∀ z : AV, (u8 (leB W i) ++ [z]).drop i = [z] := fun z => by rw [List.drop_left' hlen]
    have d2 : ∀ z : AV, (u8 (leB W i) ++ [z]).take i = u8 (leB W i) := fun z => by rw [List.take_left' hlen]
    have d3 : ∀ z : AV, (u8 (leB W i) ++ [z]).drop (i + 1) = [] := fun z => List.drop_of_length_le (by simp [hlen])
    have jr : n - j - r = n - (j + r) := by omega
    have el : (⟨t0, 1, i + 1, u8 (leB W i) ++ [.int .u8 (y' : Int)], 0⟩ : Ob) = bY t0 (M + r) W' := by rw [bY, hnB, hcell]
    have er : (⟨t, 2, 1, [.own o (i + 1), .int .i64 ((M : Int) + r)], 0⟩ : Ob) = bO t o (M + r) := by rw [bO, hnB, Int.natCast_add]
    have hMr : N + (j + r) = M + r := by omega
    have e10 : ((n - j : Nat) : Int) - r = ((n - (j + r) : Nat) : Int) := by omega
    have e11 : (M : Int) + r = ((M + r : Nat) : Int) := by omega
    by_cases h0 : a = 0
    · subst h0
      have hnM : nB M = i := by unfold nB; omega
      have hW0 : W / 256 ^ i = 0 := by
        have := l2
        rw [Nat.pow_zero] at this
        exact Nat.lt_one_iff.1 this
      rw [hW0] at e8
      have e8' : IntKind.u8.wrap (BitVec.ofInt IntKind.u8.bits 0 ||| BitVec.ofInt IntKind.u8.bits (ca : Int)).toNat = (y' : Int) := e8
      have e1' : IntKind.i64.wrap (BitVec.ofInt IntKind.i64.bits (M : Int) &&& BitVec.ofInt IntKind.i64.bits 7).toNat = 0 := e1
      have e2' : (if (8 : Int) < ((n - j : Nat) : Int) then (8 : Int) else ((n - j : Nat) : Int)) = (r : Int) := by split <;> omega
      have e12 : i + 1 - 1 = i := by omega
      have e7' : Qs true .u8 (c : Int) 0 = some (.int .u8 (ca : Int)) := e7
      have e13 : (i : Int) + 1 - 1 = i := by omega
      simp (maxSteps := 4000000) (disch := omega) only [rr, aop, cV, cV1, AV.one, Qb, okW, Qd, app, Qa, Qc, Qe, Qf, Qg, simprocAttr, e2', e12, e13, bO, bY, gp, go, sp, so, ln, g0, g1, g2, g3, g4, hnM, hlen, e1', e2, e3, e4, e5, e6, e7', e8', e9, d1, d2, d3]
      refine ⟨j + r, by omega, by omega, ?_⟩
      show Le ob.length _ ⟨[(2, .int .i64 ((n - (j + r) : Nat) : Int)), (1, .int .u64 ((v / 2 ^ (j + r) : Nat) : Int)), (0, .ref p 1 0)], Xq ob o p (bY t0 (N + (j + r)) (V + 2 ^ N * (v % 2 ^ (j + r)))) (bO t o (N + (j + r)))⟩
      rw [hWW, hMr, el, er]
      exact hfz.drop hol (Nat.le_refl _) (by simp [Am.look, Jq, hpl, e10])
    · have hnM : nB M = i + 1 := by unfold nB; omega
      have l3 : u8 (leB W (i + 1)) = u8 (leB W i) ++ [.int .u8 ((W / 256 ^ i : Nat) : Int)] := by
        rw [l1, show u8 (leB W i ++ [UInt8.ofNat (W / 256 ^ i)]) = u8 (leB W i) ++ u8 [UInt8.ofNat (W / 256 ^ i)] by simp [u8], hu _ hyb]
      have e12 : i + 1 - 1 = i := by omega
      have e13 : (i : Int) + 1 - 1 = i := by omega
      have ha0 : (a : Int) ≠ 0 := by omega
      generalize W / 256 ^ i = y at *
      simp (maxSteps := 4000000) (disch := omega) only [rr, aop, cV, cV1, AV.one, Qb, okW, Qd, app, Qa, Qc, Qe, Qf, Qg, simprocAttr, e12, e13, bO, bY, gp, go, sp, so, ln, hnM, hlen, l3, e1, e2, e3, e4, e5, e6, e7, e8, e9, d1, d2, d3]
      refine ⟨j + r, by omega, by omega, ?_⟩
      show Le ob.length _ ⟨[(2, .int .i64 ((n - (j + r) : Nat) : Int)), (1, .int .u64 ((v / 2 ^ (j + r) : Nat) : Int)), (0, .ref p 1 0)], Xq ob o p (bY t0 (N + (j + r)) (V + 2 ^ N * (v % 2 ^ (j + r)))) (bO t o (N + (j + r)))⟩
      rw [hWW, hMr, el, er]
      exact Le.slots (by simp [Am.look, e10])
  · obtain rfl : j = n := by omega
    rw [Nat.mod_eq_of_lt hv]
    simp (maxSteps := 4000000) (disch := omega) only [rr, aop, cV, cV1, AV.one, Qb, okW, Qd, app, Qa, Qc, Qe, Qf, Qg, simprocAttr]
    exact hK

end Go.Am

namespace Go.Am
open Go.RowKit

/-! ### Codes are read -/

theorem QmA {P : Prg} {f f1 fL t : Nat} (bd : Qm P f 36 [] (Xj f1 fL)) (b1 : Qm P f1 58 [] Qp) (hL : QeB P fL) {ob : List Ob} {p : Nat} {d : Dl} (hp : ob[p]? = some ⟨t, 4, 1, dlC d, 0⟩) (hd : okD d) {v : Nat} (hv : v < 4294967296) {K : AV → List Ob → Prop}
    (hK : K (.tup []) (ob.set p ⟨t, 4, 1, dlC (XU d v), 0⟩)) : ACall P f [.ref p 1 0, .int .u32 v] ob K := by
  have hpl : p < ob.length := (List.getElem?_eq_some_iff.1 hp).1
  have hL' := hL d v hd hv
  have nph : ∀ cs, (⟨t, 4, 1, cs, 0⟩ : Ob) ≠ ph := fun cs e => by have := congrArg Ob.sz e; simp [ph] at this
  refine ACall.of_body bd (by simp) ?_
  unfold XU at hK
  have hp0 := hp
  obtain ⟨k0, k1, s0, s1⟩ := d
  simp only [dlC] at hp
  simp only [dlA, dlC] at hL' hK
  by_cases c : v < 2 ^ k0
  · rw [if_pos c] at hL' hK
    simp (maxSteps := 4000000) (disch := omega) only [rr, aop, cV, cV1, AV.one, Qb, okW, Qd, app, Qa, Qc, Qe, Qf, Qg, simprocAttr, Xj, hp]
    refine Qh.vc hL' ?_
    simp (maxSteps := 4000000) (disch := omega) only [rr, aop, cV, cV1, AV.one, Qb, okW, Qd, app, Qa, Qc, Qe, Qf, Qg, simprocAttr, hp]
    refine callE.by hp0 (nph _) (fun K hK => QcR b1 hp0 hd hv false hK) ?_
    simp (maxSteps := 4000000) (disch := omega) only [rr, aop, cV, cV1, AV.one, Qb, okW, Qd, app, Qa, Qc, Qe, Qf, Qg, simprocAttr]
    exact hK
  · rw [if_neg c] at hL' hK
    have hv2 : v - 2 ^ k0 < 4294967296 := Nat.lt_of_le_of_lt (Nat.sub_le _ _) hv
    obtain ⟨h1, h2, h3, h4⟩ := hd
    have pk := QjY h2 h4 hv2
    simp only at h1 h2 h3 h4 pk
    generalize v - 2 ^ k0 = w at *
    simp (maxSteps := 4000000) (disch := omega) only [rr, aop, cV, cV1, AV.one, Qb, okW, Qd, app, Qa, Qc, Qe, Qf, Qg, simprocAttr, Xj, hp]
    refine Qh.vc hL' ?_
    simp (maxSteps := 4000000) (disch := omega) only [rr, aop, cV, cV1, AV.one, Qb, okW, Qd, app, Qa, Qc, Qe, Qf, Qg, simprocAttr, hp]
    refine callE.by hp0 (nph _) (fun K hK => QcR b1 hp0 ⟨h1, h2, h3, h4⟩ hv2 true hK) ?_
    have hp1 : (ob.set p ⟨t, 4, 1, dlC ⟨k0, (QaK k1 s1 w).1, s0, (QaK k1 s1 w).2⟩, 0⟩)[p]? = some ⟨t, 4, 1, dlC ⟨k0, (QaK k1 s1 w).1, s0, (QaK k1 s1 w).2⟩, 0⟩ := by simp [hpl]
    have hp2 := hp1
    simp only [dlC] at hp2
    simp (maxSteps := 4000000) (disch := omega) only [rr, aop, cV, cV1, AV.one, Qb, okW, Qd, app, Qa, Qc, Qe, Qf, Qg, simprocAttr, dlC, hp2]
    refine callE.by hp1 (nph _) (fun K hK => QcR b1 hp1 ⟨h1, pk.1, h3, pk.2⟩ hv false hK) ?_
    rw [List.set_set]
    simp (maxSteps := 4000000) (disch := omega) only [rr, aop, cV, cV1, AV.one, Qb, okW, Qd, app, Qa, Qc, Qe, Qf, Qg, simprocAttr]
    exact hK

theorem Qh4 {P : Prg} {f : Nat} (bd : Qm P f 9 [.tmp 4] Xg) {v k : Nat} (hk : k ≤ 24) (hv : v < 4294967296) : VC P f [.int .u32 v, .int .i64 k] (.bool (decide (48 ≤ v / 2 ^ k))) := by
  refine VC.of_acall rfl rfl (ACall.of_body bd (by simp) ?_)
  have e1 : Qs false .u32 (v : Int) (k : Int) = some (.int .u32 ((v / 2 ^ k : Nat) : Int)) := QjH (K := .u32) (by show k ≤ 32; omega)
  generalize v / 2 ^ k = w at *
  have e2 : decide ((48 : Int) ≤ (w : Int)) = decide (48 ≤ w) := decide_eq_decide.2 (by omega)
  simp (maxSteps := 4000000) (disch := omega) only [rr, aop, cV, cV1, AV.one, Qb, okW, Qd, app, Qa, Qc, Qe, Qf, Qg, simprocAttr, Xg, e1, e2]
def Qsf (P : Prg) (f : Nat) : Prop := ∀ v k : Nat, k ≤ 24 → v < 4294967296 → VC P f [.int .u32 v, .int .i64 k] (.bool (decide (48 ≤ v / 2 ^ k)))
theorem QpW {P : Prg} {f : Nat} (bd : Qm P f 9 [.tmp 4] Xg) : Qsf P f := by
  exact fun _ _ h1 h2 => Qh4 bd h1 h2

end Go.Am

namespace Go.Am
open Go.RowKit

/-! ### The values of a frame (plain) -/

def Z2 (c r : Nat) (v : List Nat) : Dl := ((List.range v.length).filter fun j => j % c == r).foldl (fun d j => XU d (v.getD j 0)) QB

theorem QiJ {c r x : Nat} {v : List Nat} : Z2 c r (v ++ [x]) = if v.length % c = r then XU (Z2 c r v) x else Z2 c r v := by
  have h1 : ∀ (l : List Nat) (d : Dl), (∀ j ∈ l, j < v.length) → l.foldl (fun d j => XU d ((v ++ [x]).getD j 0)) d = l.foldl (fun d j => XU d (v.getD j 0)) d := by
    intro l
    induction l with
    | nil => intro d _; rfl
    | cons a l ih =>
      intro d h
      simp only [List.foldl_cons]
      have ha : a < v.length := h a (by simp)
      rw [ih _ fun j hj => h j (by simp [hj])]
      congr 2
      rw [List.getD_eq_getElem?_getD, List.getD_eq_getElem?_getD, List.getElem?_append_left ha]
  unfold Z2
  rw [List.length_append, List.length_cons, List.length_nil, Nat.zero_add, List.range_succ, List.filter_append, List.foldl_append]
  have hf := h1 ((List.range v.length).filter fun j => j % c == r) QB (fun j hj => by
    have := (List.mem_filter.1 hj).1
    simpa using this)
  rw [hf]
  have hx : (v ++ [x]).getD v.length 0 = x := by simp [List.getD_eq_getElem?_getD]
  by_cases h : v.length % c = r
  · rw [if_pos h]
    have : (List.filter (fun j => j % c == r) [v.length]) = [v.length] := by simp [h]
    rw [this]
    simp only [List.foldl_cons, List.foldl_nil]
    rw [hx]
  · rw [if_neg h]
    have : (List.filter (fun j => j % c == r) [v.length]) = [] := by simp [h]
    rw [this]
    rfl

def N32 (v : List Nat) : Prop := ∀ x ∈ v, x < 4294967296
theorem QoP {c r : Nat} {v : List Nat} (h : N32 v) : okD (Z2 c r v) := by
  unfold Z2
  have key : ∀ (l : List Nat) (d : Dl), okD d → (∀ j ∈ l, j < v.length) → okD (l.foldl (fun d j => XU d (v.getD j 0)) d) := by
    intro l
    induction l with
    | nil => intro d h _; exact h
    | cons a l ih =>
      intro d hd hl
      have ha : a < v.length := hl a (by simp)
      refine ih _ (Qqa hd ?_) fun j hj => hl j (by simp [hj])
      rw [List.getD_eq_getElem?_getD, List.getElem?_eq_getElem ha]
      exact h _ (List.getElem_mem ha)
  exact key _ _ QpH fun j hj => by
    have := (List.mem_filter.1 hj).1
    simpa using this

def J2 (p : List UInt8) : Nat := 4294967295 - Qm3 4294967295 p
end Go.Am

namespace Go.Am
open Go.RowKit

/-! ### A frame's sum -/

theorem Qrg (p : List UInt8) : J2 p < 4294967296 := by unfold J2; omega

end Go.Am

namespace Go.Am
open Go.RowKit

/-! ### values -/

def Qcf (F : Nat → Dl) : List AV := dlC (F 0) ++ dlC (F 1) ++ dlC (F 2) ++ dlC (F 3) ++ dlC (F 4) ++ dlC (F 5)
theorem Qoc (F : Nat → Dl) : isTL (Qcf F) = true := rfl
theorem Qce (F : Nat → Dl) : (Qcf F).length = 24 := rfl
theorem QpP (F : Nat → Dl) {j : Nat} (h : j < 6) : ∃ r, (Qcf F).drop (j * 4) = .int .i64 (F j).k0 :: .int .i64 (F j).k1 :: .int .u64 (F j).s0 :: .int .u64 (F j).s1 :: r := by
  rcases (by omega : j = 0 ∨ j = 1 ∨ j = 2 ∨ j = 3 ∨ j = 4 ∨ j = 5) with rfl | rfl | rfl | rfl | rfl | rfl <;> exact ⟨_, rfl⟩
def Qsm (F : Nat → Dl) (j : Nat) (d : Dl) : Nat → Dl := fun i => if i = j then d else F i
theorem Qlk (F : Nat → Dl) {j : Nat} (h : j < 6) (d : Dl) : (Qcf F).take (j * 4) ++ [.int .i64 d.k0, .int .i64 d.k1, .int .u64 d.s0, .int .u64 d.s1] ++ (Qcf F).drop (j * 4 + 4) = Qcf (Qsm F j d) := by
  rcases (by omega : j = 0 ∨ j = 1 ∨ j = 2 ∨ j = 3 ∨ j = 4 ∨ j = 5) with rfl | rfl | rfl | rfl | rfl | rfl <;> rfl

end Go.Am

namespace Go.Am
open Go.RowKit

/-! ### Decode -/

def iL (o : List Nat) : List Int := o.map fun n : Nat => (n : Int)
end Go.Am

namespace Go.Am
open Go.RowKit

/-! ### verdict.good -/

theorem mod_mul (m c : Nat) : (m * c) % c = 0 := Nat.mul_mod_left m c
/-! ### verdict.Judge -/

end Go.Am

namespace Go.Am
open Go.RowKit

/-! ### Codes (plain) -/

def Qh5 (v k : Nat) : Nat := if 48 ≤ v / 2 ^ k then 80 else v / 2 ^ k + 1 + k
def Qh6 (v k : Nat) : Nat := if 48 ≤ v / 2 ^ k then 2 ^ 48 - 1 + 2 ^ 48 * v else 2 ^ (v / 2 ^ k) - 1 + 2 ^ (v / 2 ^ k + 1) * (v % 2 ^ k)
def Qdq (d : Dl) (v : Nat) : Nat := if v < 2 ^ d.k0 then 1 + d.k0 else 1 + Qh5 (v - 2 ^ d.k0) d.k1
def QkB (d : Dl) (v : Nat) : Nat := if v < 2 ^ d.k0 then 2 * v else 1 + 2 * Qh6 (v - 2 ^ d.k0) d.k1

theorem Ji {V N W n : Nat} (hV : V < 2 ^ N) (hW : W < 2 ^ n) : V + 2 ^ N * W < 2 ^ (N + n) := by
  have h1 : 2 ^ N * (W + 1) ≤ 2 ^ N * 2 ^ n := Nat.mul_le_mul_left _ hW
  rw [Nat.pow_add]
  rw [Nat.mul_add, Nat.mul_one] at h1
  omega
theorem QpY {v k : Nat} (hv : v < 4294967296) : Qh6 v k < 2 ^ Qh5 v k := by
  unfold Qh6 Qh5
  split
  · exact Ji (N := 48) (n := 32) (by decide) hv
  · have h1 : v % 2 ^ k < 2 ^ k := Nat.mod_lt _ (Nat.pow_pos (by omega))
    refine Ji ?_ h1
    have : 0 < 2 ^ (v / 2 ^ k) := Nat.pow_pos (by omega)
    rw [Nat.pow_succ]
    omega
theorem QpX {v k : Nat} (hk : k ≤ 24) : Qh5 v k ≤ 80 := by unfold Qh5; split <;> omega
theorem QlH {d : Dl} {v : Nat} (hd : okD d) : Qdq d v ≤ 81 := by
  have := QpX (v := v - 2 ^ d.k0) hd.2.1
  have := hd.1
  unfold Qdq
  split <;> omega
theorem QoK (d : Dl) (v : Nat) : 1 ≤ Qdq d v := by unfold Qdq; split <;> omega
theorem QlI {d : Dl} {v : Nat} (hv : v < 4294967296) : QkB d v < 2 ^ Qdq d v := by
  unfold QkB Qdq
  split
  · rename_i h
    rw [Nat.pow_add, Nat.pow_one]
    omega
  · have h := QpY (v := v - 2 ^ d.k0) (k := d.k1) (Nat.lt_of_le_of_lt (Nat.sub_le _ _) hv)
    exact Ji (N := 1) (V := 1) (by decide) h

def QsL (c : Nat) (v : List Nat) : Nat → Nat × Nat
  | 0 => (0, 0)
  | i + 1 => ((QsL c v i).1 + Qdq (Z2 c (i % c) (v.take i)) (v.getD i 0), (QsL c v i).2 + 2 ^ (QsL c v i).1 * QkB (Z2 c (i % c) (v.take i)) (v.getD i 0))
def Qht (c : Nat) (v : List Nat) (i : Nat) : Nat := (QsL c v i).1
def Qqs (c : Nat) (v : List Nat) (i : Nat) : Nat := (QsL c v i).2
theorem Qin (c : Nat) (v : List Nat) : Qht c v 0 = 0 := rfl
theorem Qil (c : Nat) (v : List Nat) : Qqs c v 0 = 0 := rfl
theorem Qio (c : Nat) (v : List Nat) (i : Nat) : Qht c v (i + 1) = Qht c v i + Qdq (Z2 c (i % c) (v.take i)) (v.getD i 0) := rfl
theorem Qim (c : Nat) (v : List Nat) (i : Nat) : Qqs c v (i + 1) = Qqs c v i + 2 ^ Qht c v i * QkB (Z2 c (i % c) (v.take i)) (v.getD i 0) := rfl
theorem N32.take {v : List Nat} (h : N32 v) (i : Nat) : N32 (v.take i) := fun x hx => h x (List.mem_of_mem_take hx)
theorem N32.getD {v : List Nat} (h : N32 v) (i : Nat) : v.getD i 0 < 4294967296 := by
  rw [List.getD_eq_getElem?_getD]
  cases hx : v[i]? with
  | none => simp
  | some x => exact h x (List.mem_of_getElem? hx)
theorem Qbl {c : Nat} {v : List Nat} (h : N32 v) : ∀ i, Qqs c v i < 2 ^ Qht c v i ∧ Qht c v i ≤ 81 * i ∧ i ≤ Qht c v i
  | 0 => by rw [Qin, Qil]; decide
  | i + 1 => by
    obtain ⟨h1, h2, h3⟩ := Qbl h i
    have hd := QoP (c := c) (r := i % c) (h.take i)
    have h4 := QlH (v := v.getD i 0) hd
    have h5 := QoK (Z2 c (i % c) (v.take i)) (v.getD i 0)
    rw [Qio, Qim]
    exact ⟨Ji h1 (QlI (h.getD i)), by omega, by omega⟩

def QeX (c : Nat) (v : List Nat) : List UInt8 := leB (Qqs c v v.length) (nB (Qht c v v.length))
def QS (p : List UInt8) : List UInt8 := p ++ leB (J2 p) 4
theorem Qh1 (p : List UInt8) : (QS p).length = p.length + 4 := by simp [QS, Qi]
theorem Qgp (c : Nat) (v : List Nat) : (QeX c v).length = nB (Qht c v v.length) := by simp [QeX, Qi]

end Go.Am

namespace Go.Am
open Go.RowKit

/-! ### Codes are written -/

theorem Qtx (ob J : List Ob) (k : Nat) : (ob ++ J)[ob.length + k]? = J[k]? := by rw [List.getElem?_append_right (by omega), Nat.add_sub_cancel_left]
theorem Qqq (ob J : List Ob) : (ob ++ J)[ob.length]? = J[0]? := Qtx ob J 0
theorem Qto (ob J : List Ob) (k : Nat) (y : Ob) : (ob ++ J).set (ob.length + k) y = ob ++ J.set k y := by rw [List.set_append_right _ _ (by omega), Nat.add_sub_cancel_left]
theorem Qsw (ob J : List Ob) (y : Ob) : (ob ++ J).set ob.length y = ob ++ J.set 0 y := Qto ob J 0 y

def QdN (t : Nat) (P : Prg) (f : Nat) : Prop := ∀ l : List UInt8, l.length ≤ 1000000 → VO P f [bs l] (.own 0 l.length) ⟨t, 1, l.length, u8 l, 0⟩
theorem Qr6 {P : Prg} {f t0 : Nat} (b : Qm P f 8 [.tmp 2] (QF t0)) : QdN t0 P f := by
  intro l hl
  refine VO.of_walk (by simp [isDL, Zu]) (QcT l) (by simp [okr]) (ACall.virtR t0 1 (by decide) (ACall.of_body b (by simp) ?_))
  by_cases h0 : l = []
  · subst h0
    simp (maxSteps := 4000000) (disch := omega) only [rr, aop, cV, cV1, AV.one, Qb, okW, Qd, app, Qa, Qc, Qe, Qf, Qg, simprocAttr, QF, bs, Qm2, QqN]
    exact ⟨.inr ⟨true, rfl, 0, rfl, rfl⟩, .inl ⟨0, rfl, rfl⟩⟩
  · have h1 : l.length ≠ 0 := by simpa using h0
    simp (maxSteps := 4000000) (disch := omega) only [rr, aop, cV, cV1, AV.one, Qb, okW, Qd, app, Qa, Qc, Qe, Qf, Qg, simprocAttr, QF, bs, Qm2, h1]
    exact .inl ⟨0, rfl, rfl⟩

theorem Qo1 {P : Prg} {f fC t0 tb : Nat} (bd : Qm P f 9 [.cell 2 t0] (JG fC t0)) (hC : QdN tb P fC) (ht : Xb P t0 = some (some 2)) {N V : Nat} (hN : N ≤ 400000) {ob : List Ob} (hl : Low ob.length ob) {K : AV → List Ob → Prop}
    (hK : K (.agg [.own ob.length (nB N), .int .i64 N]) (ob ++ [bY tb N V])) : ACall P f [bA N V] ob K := by
  refine ACall.low (ACall.pad (ACall.of_body bd (by simp) ?_))
  have hC' := hC (leB V (nB N)) (by rw [Qi]; unfold nB; omega)
  rw [bs, Qi] at hC'
  have hlow : Low (ob.length + 1) (ob ++ [bY tb N V]) := (hl.mono (by omega)).append (Low.cons (lowL_D _ (JA _ _)) Low.nil)
  simp (maxSteps := 4000000) (disch := omega) only [rr, aop, cV, cV1, AV.one, Qb, okW, Qd, app, Qa, Qc, Qe, Qf, Qg, simprocAttr, JG, bA, List.append_assoc, List.cons_append, List.nil_append, Qtx, Qqq, Qto, Qsw]
  refine ZQ.vo hC' ob.length (by rw [Qqq]; rfl) Nat.one_ne_zero ?_
  simp (maxSteps := 4000000) (disch := omega) only [rr, aop, cV, cV1, AV.one, Qb, okW, Qd, app, Qa, Qc, Qe, Qf, Qg, simprocAttr, shr, List.append_assoc, List.cons_append, List.nil_append, Qtx, Qqq, Qto, Qsw, Z1, ht, Q7]
  exact ⟨ob ++ [bY tb N V], [_, _], by simp [bY]; exact ⟨rfl, rfl⟩, by simp, by simpa using hlow, by simp [Jq, lowL], hK⟩

def Qja (P : Prg) (f : Nat) : Prop := ∀ N V v n : Nat, V < 2 ^ N → v < 2 ^ n → n ≤ 64 → N + n ≤ 330000 → VC P f [bA N V, .int .u64 v, .int .i64 n] (.tup [bA (N + n) (V + 2 ^ N * v), .int .i64 0])
theorem QqH {P : Prg} {f fC fT fK fP t0 t1 tb : Nat} (bd : Qm P f 44 [.cell 6 t0, .tmp 7] (QaF fC fT fP t0)) (hC : Qbo P fC) (bT : Qm P fT 9 [.cell 2 t1] (JG fK t1)) (bP : Qm P fP 75 [] (QaE tb)) (hK : QdN tb P fK) (ht : Xb P t0 = some (some 2)) (ht1 : Xb P t1 = some (some 2)) : Qja P f := by
  intro N V v n hV hv hn hN
  refine VC.of_walk 2 (by simp [isDL, Qco, isD]) (by simp [isD, isDL, Qco]) (ACall.of_body bd (by simp) ?_)
  have hC' := hC N V hV (by omega)
  rw [bA] at hC'
  have e1 : n < 64 → Qs false .u64 (v : Int) (n : Int) = some (.int .u64 0) := fun h => by
    rw [QjH (K := .u64) (by show n ≤ 64; omega), Nat.div_eq_of_lt hv]; rfl
  have tu : isTL (u8 (leB V (nB N))) = true := Zq _
  have tl : ∀ W M, isTL (u8 (leB W M)) = true := fun W M => Zq _
  have tw : ∀ (Q : Exit → St → Prop) os fr dst, wpQ P os Q ⟨Zi fr dst (.agg [.own 2 (nB N), .int .i64 N]), [⟨t0, 2, 1, [.list (nB N) (u8 (leB V (nB N))), .int .i64 N], 0⟩, ⟨t0, 2, 1, [.emp true, .int .i64 0], 0⟩, bY tb N V]⟩ →
      Qh P fT [.agg [.list (nB N) (u8 (leB V (nB N))), .int .i64 N]] [⟨t0, 2, 1, [.list (nB N) (u8 (leB V (nB N))), .int .i64 N], 0⟩, ⟨t0, 2, 1, [.emp true, .int .i64 0], 0⟩] os Q fr dst := fun Q os fr dst h =>
    Qo1 bT hK ht1 (N := N) (V := V) (by omega) (Low.cons (by simp [lowL, Jq, lowL_D _ (JA _ _)]) (Low.cons (by simp [lowL, Jq]) Low.nil)) h
  have pt : ∀ (Q : Exit → St → Prop) os fr dst, wpQ P os Q ⟨Zi fr dst (.tup []), [⟨t0, 2, 1, [.own 2 (nB (N + n)), .int .i64 ((N + n : Nat) : Int)], 0⟩, ⟨t0, 2, 1, [.emp true, .int .i64 0], 0⟩, bY tb (N + n) (V + 2 ^ N * v)]⟩ →
      Qh P fP [.ref 0 1 0, .int .u64 v, .int .i64 n] [⟨t0, 2, 1, [.own 2 (nB N), .int .i64 N], 0⟩, ⟨t0, 2, 1, [.emp true, .int .i64 0], 0⟩, bY tb N V] os Q fr dst := fun Q os fr dst h =>
    QqG bP (ob := [⟨t0, 2, 1, [.own 2 (nB N), .int .i64 N], 0⟩, ⟨t0, 2, 1, [.emp true, .int .i64 0], 0⟩, bY tb N V]) (p := 0) (o := 2) (t := t0) rfl rfl (by decide) hV hv hn (by omega)
      (Low.cons (by simp [lowL, Jq]) (Low.cons (by simp [lowL, Jq]) (Low.cons (lowL_D _ (JA _ _)) Low.nil))) h
  have tu' := tl (V + 2 ^ N * v) (nB (N + n))
  generalize V + 2 ^ N * v = W at *
  by_cases h64 : n < 64
  · have e1' := e1 h64
    simp (maxSteps := 4000000) (disch := omega) only [rr, aop, cV, cV1, AV.one, Qb, okW, Qd, app, Qa, Qc, Qe, Qf, Qg, simprocAttr, QaF, bA]
    refine Qh.vc hC' ?_
    simp (maxSteps := 4000000) (disch := omega) only [rr, aop, cV, cV1, AV.one, Qb, okW, Qd, app, Qa, Qc, Qe, Qf, Qg, simprocAttr, e1']
    refine tw _ _ _ _ ?_
    simp (maxSteps := 4000000) (disch := omega) only [rr, aop, cV, cV1, AV.one, Qb, okW, Qd, app, Qa, Qc, Qe, Qf, Qg, simprocAttr]
    refine pt _ _ _ _ ?_
    simp (maxSteps := 4000000) (disch := omega) only [rr, aop, cV, cV1, AV.one, Qb, okW, Qd, app, Qa, Qc, Qe, Qf, Qg, simprocAttr, Z1, ht, Q7]
    simp [ZJ, QX, frzL, QO, bY, frzL_T _ tu']
  · simp (maxSteps := 4000000) (disch := omega) only [rr, aop, cV, cV1, AV.one, Qb, okW, Qd, app, Qa, Qc, Qe, Qf, Qg, simprocAttr, QaF, bA]
    refine Qh.vc hC' ?_
    simp (maxSteps := 4000000) (disch := omega) only [rr, aop, cV, cV1, AV.one, Qb, okW, Qd, app, Qa, Qc, Qe, Qf, Qg, simprocAttr]
    refine tw _ _ _ _ ?_
    simp (maxSteps := 4000000) (disch := omega) only [rr, aop, cV, cV1, AV.one, Qb, okW, Qd, app, Qa, Qc, Qe, Qf, Qg, simprocAttr]
    refine pt _ _ _ _ ?_
    simp (maxSteps := 4000000) (disch := omega) only [rr, aop, cV, cV1, AV.one, Qb, okW, Qd, app, Qa, Qc, Qe, Qf, Qg, simprocAttr, Z1, ht, Q7]
    simp [ZJ, QX, frzL, QO, bY, frzL_T _ tu']

end Go.Am
