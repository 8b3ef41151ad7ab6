/- What the functions that the law reaches return, for every program that has their code; the conditions stand in each statement. -/
import Derived.Test.YtkilhchobbfjhaaGreatDoorTopFramesD1
set_option linter.unusedSectionVars false
set_option linter.unusedSimpArgs false
set_option linter.unusedVariables false
namespace Go.Am
open Go.RowKit

def leN : List UInt8 → Nat
  | [] => 0
  | b :: l => b.toNat + 256 * leN l

theorem QeA : ∀ l : List UInt8, leN l < 2 ^ (8 * l.length)
  | [] => by simp [leN]
  | b :: l => by
    have h1 := QeA l
    have h2 := b.toNat_lt
    have h3 : 2 ^ (8 * (b :: l).length) = 256 * 2 ^ (8 * l.length) := by
      rw [List.length_cons, Nat.mul_add, Nat.pow_add, Nat.mul_comm]
    rw [h3]
    simp only [leN]
    omega

theorem Qhn : ∀ (a b : List UInt8), leN (a ++ b) = leN a + 2 ^ (8 * a.length) * leN b
  | [], b => by simp [leN]
  | x :: a, b => by
    have h3 : 2 ^ (8 * (x :: a).length) = 256 * 2 ^ (8 * a.length) := by
      rw [List.length_cons, Nat.mul_add, Nat.pow_add, Nat.mul_comm]
    rw [h3]
    simp only [List.cons_append, leN, Qhn a b, Nat.mul_add, Nat.mul_assoc]
    omega

theorem QtI {l : List UInt8} (h : l.length ≤ 8) : leN l < 18446744073709551616 := by
  have h1 := QeA l
  have h2 : 2 ^ (8 * l.length) ≤ 2 ^ 64 := Nat.pow_le_pow_right (by omega) (by omega)
  omega

theorem QtH {l : List UInt8} {k : Nat} (h : k < l.length) : leN (l.take (k + 1)) = leN (l.take k) + l[k].toNat * 2 ^ (8 * k) := by
  rw [List.take_succ_eq_append_getElem h, Qhn]
  simp [leN, Nat.min_eq_left (Nat.le_of_lt h), Nat.mul_comm]

def Qct (P : Prg) (f : Nat) : Prop := ∀ l : List UInt8, 1 ≤ l.length → l.length ≤ 8 → VC P f [bs l] (.tup [.int .u64 (leN l), .int .i64 0])

set_option maxRecDepth 10000 in
theorem QtF {P : Prg} {f : Nat} (b : Ql P f 31 [.tmp 2, .tmp 3] Qc5) : Qct P f := by
  intro l h1 h2
  refine VC.of_acall (by simp [isDL, Zy]) rfl (ACall.of_body b (by simp) ?_)
  have d1 : ¬ ((l.length : Int) < 1) := by omega
  have d2 : ¬ ((8 : Int) < l.length) := by omega
  simp only [abv, walk, ev, okW, Qd, Bool.false_and, QoC, aop, cV, cV1, List.length_nil, List.length_cons, List.map_nil, List.map_cons, List.cons_append, List.nil_append, ↓reduceIte, Nat.reduceEqDiff, Nat.reduceAdd, Option.map_some, Option.map_none, Option.bind_some, decide_true, decide_false, Bool.false_eq_true, Bool.not_true, Bool.not_false, Int.toNat_natCast, List.getElem?_cons_zero, List.getElem?_cons_succ, Int.natCast_add, Int.cast_ofNat_Int, true_and, and_true, and_self, if_true, if_false, Q4, Nat.mul_one, Nat.one_mul, Nat.zero_add, Nat.add_zero, List.drop_zero, beq_self_eq_true, Bool.and_self, Bool.and_true, Bool.true_and, AV.one, List.all_cons, List.all_nil, Qt, Jr, Qb, Nat.reduceLT, Nat.reduceLeDiff, Nat.reduceBEq, Nat.reduceMul, Nat.reduceSub, Int.reduceLT, Int.reduceLE, Int.reduceAdd, Int.reduceSub, Int.reduceMul, Int.reduceToNat, List.take_nil, List.drop_nil, List.take_zero, List.append_nil, Qa, Qc, Qe, app, List.set_cons_zero, List.set_cons_succ, List.length_set, Nat.le_refl, Nat.zero_le, List.take_length, JG, reduceCtorEq, List.drop_succ_cons, List.take_succ_cons, Int.reduceEq, Qc5, bs, d1, d2]
  refine QN.by (ι := Nat) (fun k => ⟨[(17, .int .i64 k), (16, .int .i64 l.length), (15, .list l.length (u8 l)), (4, .int .u64 (leN (l.take k)))], []⟩) (fun k => k ≤ l.length) (fun k => l.length - k) 0 (Le.slots (by simp [Am.look, leN])) (by omega) ?_
  intro k hk
  by_cases hlt : k < l.length
  · have e1 : (k : Int) < l.length := by omega
    have e2 : (0 : Int) ≤ k := by omega
    have e4 := QvS hlt
    have e5 : IntKind.u64.wrap ((l[k].toNat : Nat) : Int) = (l[k].toNat : Nat) := Qce (by omega) (by have := l[k].toNat_lt; omega)
    have e6 : IntKind.i64.wrap (8 * (k : Int)) = (8 * k : Nat) := by rw [QaW] <;> omega
    have e7 : Qm true .u64 ((l[k].toNat : Nat) : Int) ((8 * k : Nat) : Int) = some (.int .u64 ((l[k].toNat * 2 ^ (8 * k) : Nat) : Int)) := Qqr (by omega) (by
      have h1 := l[k].toNat_lt
      have h2 : 2 ^ (8 * k) ≤ 2 ^ 56 := Nat.pow_le_pow_right (by omega) (by omega)
      calc l[k].toNat * 2 ^ (8 * k) ≤ 255 * 2 ^ 56 := Nat.mul_le_mul (by omega) h2
        _ < _ := by omega)
    have e8 : leN (l.take (k + 1)) < 18446744073709551616 := QtI (by simp; omega)
    have e9 := QtH hlt
    have e10 : leN (l.take k) < 2 ^ (8 * k) := by have := QeA (l.take k); rwa [List.length_take, Nat.min_eq_left hk] at this
    have e11 : IntKind.u64.wrap (BitVec.ofInt IntKind.u64.bits (leN (l.take k) : Nat) ||| BitVec.ofInt IntKind.u64.bits (l[k].toNat * 2 ^ (8 * k) : Nat)).toNat = (leN (l.take (k + 1)) : Nat) := by
      rw [QuF _ _ (by omega) (by omega), Qj0 e10, e9]
    have e12 : IntKind.i64.wrap ((k : Int) + 1) = ((k + 1 : Nat) : Int) := by rw [QaW] <;> omega
    simp only [abv, walk, ev, okW, Qd, Bool.false_and, QoC, aop, cV, cV1, List.length_nil, List.length_cons, List.map_nil, List.map_cons, List.cons_append, List.nil_append, ↓reduceIte, Nat.reduceEqDiff, Nat.reduceAdd, Option.map_some, Option.map_none, Option.bind_some, decide_true, decide_false, Bool.false_eq_true, Bool.not_true, Bool.not_false, Int.toNat_natCast, List.getElem?_cons_zero, List.getElem?_cons_succ, Int.natCast_add, Int.cast_ofNat_Int, true_and, and_true, and_self, if_true, if_false, Q4, Nat.mul_one, Nat.one_mul, Nat.zero_add, Nat.add_zero, List.drop_zero, beq_self_eq_true, Bool.and_self, Bool.and_true, Bool.true_and, AV.one, List.all_cons, List.all_nil, Qt, Jr, Qb, Nat.reduceLT, Nat.reduceLeDiff, Nat.reduceBEq, Nat.reduceMul, Nat.reduceSub, Int.reduceLT, Int.reduceLE, Int.reduceAdd, Int.reduceSub, Int.reduceMul, Int.reduceToNat, List.take_nil, List.drop_nil, List.take_zero, List.append_nil, Qa, Qc, Qe, app, List.set_cons_zero, List.set_cons_succ, List.length_set, Nat.le_refl, Nat.zero_le, List.take_length, JG, reduceCtorEq, List.drop_succ_cons, List.take_succ_cons, Int.reduceEq, e1, e2, hlt, e4, e5, e6, e7, e11, e12]
    exact ⟨k + 1, by omega, by omega, Le.slots (by simp [Am.look])⟩
  · have e1 : ¬ (k : Int) < l.length := by omega
    have e2 : k = l.length := by omega
    subst e2
    simp only [abv, walk, ev, okW, Qd, Bool.false_and, QoC, aop, cV, cV1, List.length_nil, List.length_cons, List.map_nil, List.map_cons, List.cons_append, List.nil_append, ↓reduceIte, Nat.reduceEqDiff, Nat.reduceAdd, Option.map_some, Option.map_none, Option.bind_some, decide_true, decide_false, Bool.false_eq_true, Bool.not_true, Bool.not_false, Int.toNat_natCast, List.getElem?_cons_zero, List.getElem?_cons_succ, Int.natCast_add, Int.cast_ofNat_Int, true_and, and_true, and_self, if_true, if_false, Q4, Nat.mul_one, Nat.one_mul, Nat.zero_add, Nat.add_zero, List.drop_zero, beq_self_eq_true, Bool.and_self, Bool.and_true, Bool.true_and, AV.one, List.all_cons, List.all_nil, Qt, Jr, Qb, Nat.reduceLT, Nat.reduceLeDiff, Nat.reduceBEq, Nat.reduceMul, Nat.reduceSub, Int.reduceLT, Int.reduceLE, Int.reduceAdd, Int.reduceSub, Int.reduceMul, Int.reduceToNat, List.take_nil, List.drop_nil, List.take_zero, List.append_nil, Qa, Qc, Qe, app, List.set_cons_zero, List.set_cons_succ, List.length_set, Nat.le_refl, Nat.zero_le, List.take_length, JG, reduceCtorEq, List.drop_succ_cons, List.take_succ_cons, Int.reduceEq, e1, List.take_length]

/-! ### layer 1's reference -/

end Go.Am

namespace Go.Am
open Go.RowKit

theorem Zx (l : List UInt8) : isTL (u8 l) = true := by
  induction l with
  | nil => rfl
  | cons x l ih => simp [Qlo, isTL, isT, ih]
def JR (P : Prg) (f : Nat) : Prop := ∀ l : List UInt8, l.length < 140737488355328 → VC P f [bs l] (bs l)

set_option maxRecDepth 10000 in
theorem Qmq {P : Prg} {f t0 : Nat} (b : Ql P f 8 [.tmp 2] (QaE t0)) : JR P f := by
  intro l hl
  refine VC.of_walk 1 (by simp [isDL, Zy]) (Zy l) (ACall.of_body b (by simp) ?_)
  have fin : ∀ ob, ob = [⟨t0, 1, l.length, u8 l, 0⟩] → Q7 (fun _ => true) ob (1 + 1) [.own 0 l.length] = some [bs l] := by
    rintro ob rfl
    simp only [Q7, QG, frzL, QF, Bool.false_eq_true, if_false, List.getElem?_cons_zero, and_self, if_true, frzL_T _ (Zx l), Option.map_some]
    rfl
  have d1 : l.length * 1 ≤ 140737488355328 := by omega
  have d2 : l.length ≤ 9223372036854775807 := by omega
  by_cases h0 : l = []
  · subst h0
    simp only [abv, walk, ev, okW, Qd, Bool.false_and, QoC, aop, cV, cV1, List.length_nil, List.length_cons, List.map_nil, List.map_cons, List.cons_append, List.nil_append, ↓reduceIte, Nat.reduceEqDiff, Nat.reduceAdd, Option.map_some, Option.map_none, Option.bind_some, decide_true, decide_false, Bool.false_eq_true, Bool.not_true, Bool.not_false, Int.toNat_natCast, List.getElem?_cons_zero, List.getElem?_cons_succ, Int.natCast_add, Int.cast_ofNat_Int, true_and, and_true, and_self, if_true, if_false, Q4, Nat.mul_one, Nat.one_mul, Nat.zero_add, Nat.add_zero, List.drop_zero, beq_self_eq_true, Bool.and_self, Bool.and_true, Bool.true_and, AV.one, List.all_cons, List.all_nil, Qt, Jr, Qb, Nat.reduceLT, Nat.reduceLeDiff, Nat.reduceBEq, Nat.reduceMul, Nat.reduceSub, Int.reduceLT, Int.reduceLE, Int.reduceAdd, Int.reduceSub, Int.reduceMul, Int.reduceToNat, List.take_nil, List.drop_nil, List.take_zero, List.append_nil, Qa, Qc, Qe, app, List.set_cons_zero, List.set_cons_succ, List.length_set, Nat.le_refl, Nat.zero_le, List.take_length, JG, reduceCtorEq, List.drop_succ_cons, List.take_succ_cons, Int.reduceEq, QaE, bs, Qk2, Quy]
    simp [Q7, QG, frzL, QF, isDL]
  · have h1 : l.length ≠ 0 := by simpa using h0
    have d3 : l.length ≤ 140737488355328 := by omega
    simp only [abv, walk, ev, okW, Qd, Bool.false_and, QoC, aop, cV, cV1, List.length_nil, List.length_cons, List.map_nil, List.map_cons, List.cons_append, List.nil_append, ↓reduceIte, Nat.reduceEqDiff, Nat.reduceAdd, Option.map_some, Option.map_none, Option.bind_some, decide_true, decide_false, Bool.false_eq_true, Bool.not_true, Bool.not_false, Int.toNat_natCast, List.getElem?_cons_zero, List.getElem?_cons_succ, Int.natCast_add, Int.cast_ofNat_Int, true_and, and_true, and_self, if_true, if_false, Q4, Nat.mul_one, Nat.one_mul, Nat.zero_add, Nat.add_zero, List.drop_zero, beq_self_eq_true, Bool.and_self, Bool.and_true, Bool.true_and, AV.one, List.all_cons, List.all_nil, Qt, Jr, Qb, Nat.reduceLT, Nat.reduceLeDiff, Nat.reduceBEq, Nat.reduceMul, Nat.reduceSub, Int.reduceLT, Int.reduceLE, Int.reduceAdd, Int.reduceSub, Int.reduceMul, Int.reduceToNat, List.take_nil, List.drop_nil, List.take_zero, List.append_nil, Qa, Qc, Qe, app, List.set_cons_zero, List.set_cons_succ, List.length_set, Nat.le_refl, Nat.zero_le, List.take_length, JG, reduceCtorEq, List.drop_succ_cons, List.take_succ_cons, Int.reduceEq, QaE, bs, Qk2, h1, d2, d3]
    exact fin _ rfl

end Go.Am

namespace Go.Am
open Go.RowKit

def JB (b : Int) : Int := if b = 8 then 128 else if b = 16 then 32768 else if b = 24 then 8388608 else 0

theorem XY (b : Int) : (b = 8 ∧ JB b = 128) ∨ (b = 16 ∧ JB b = 32768) ∨ (b = 24 ∧ JB b = 8388608) ∨ (b ≠ 8 ∧ b ≠ 16 ∧ b ≠ 24 ∧ JB b = 0) := by
  unfold JB; split <;> (try split) <;> (try split) <;> omega

def QaJ (b : Int) : AV := if JB b = 0 then .tup [.int .i32 0, .int .i32 0, .int .i64 2] else .tup [.int .i32 (-JB b), .int .i32 (JB b - 1), .int .i64 0]

def Qi4 (P : Prg) (f : Nat) : Prop := ∀ b : Int, VC P f [.int .i64 b] (QaJ b)

theorem Qk9 {P : Prg} {f : Nat} (b : Ql P f 18 [.tmp 2, .tmp 3, .tmp 4] ZA) : Qi4 P f := by
  intro x
  refine VC.of_acall rfl (by unfold QaJ; split <;> rfl) (ACall.of_body b (by simp) ?_)
  rcases XY x with ⟨rfl, h⟩ | ⟨rfl, h⟩ | ⟨rfl, h⟩ | ⟨h1, h2, h3, h⟩
  · simp (maxSteps := 4000000) (disch := omega) only [rr, aop, cV, cV1, AV.one, Qb, okW, Qd, app, Qa, Qc, Qe, Qf, Qg, simprocAttr, ZA, QaJ, h]
    rfl
  · simp (maxSteps := 4000000) (disch := omega) only [rr, aop, cV, cV1, AV.one, Qb, okW, Qd, app, Qa, Qc, Qe, Qf, Qg, simprocAttr, ZA, QaJ, h]
    rfl
  · simp (maxSteps := 4000000) (disch := omega) only [rr, aop, cV, cV1, AV.one, Qb, okW, Qd, app, Qa, Qc, Qe, Qf, Qg, simprocAttr, ZA, QaJ, h]
    rfl
  · simp (maxSteps := 4000000) (disch := omega) only [rr, aop, cV, cV1, AV.one, Qb, okW, Qd, app, Qa, Qc, Qe, Qf, Qg, simprocAttr, ZA, QaJ, h]

end Go.Am

namespace Go.Am
open Go.RowKit

def il (l : List Int) : AV := .list l.length (ks .i32 l)
theorem QS (l : List Int) : isD (il l) = true := by simp [il, isD, QK]

def inR (b x : Int) : Bool := decide (-JB b ≤ x) && decide (x < JB b)
def QE (b : Int) (l : List Int) : Int := if JB b = 0 then 2 else if 4000 < l.length then 4 else if l.all (inR b) then 0 else 16
def I32 (l : List Int) : Prop := ∀ x ∈ l, -2147483648 ≤ x ∧ x ≤ 2147483647
def Qao (P : Prg) (f : Nat) : Prop := ∀ (b : Int) (l : List Int), I32 l → VC P f [.int .i64 b, il l] (.int .i64 (QE b l))

theorem QdJ {l : List Int} {k : Nat} (h : k < l.length) {p : Int → Bool} : (l.take (k + 1)).all p = ((l.take k).all p && p l[k]) := by
  rw [List.take_succ_eq_append_getElem h, List.all_append]; simp

theorem Qhk {l : List Int} {k : Nat} (h : k < l.length) {p : Int → Bool} (hp : p l[k] = false) : l.all p = false := by
  rw [List.all_eq_false]
  exact ⟨l[k], List.getElem_mem h, by simp [hp]⟩

set_option maxRecDepth 10000 in
theorem Qla {P : Prg} {f fR : Nat} (b : Ql P f 37 [.tmp 4] (Qav fR)) (hR : Qi4 P fR) : Qao P f := by
  intro x l hl
  refine VC.of_acall (by simp [isDL, isD, QS]) rfl (ACall.of_body b (by simp) ?_)
  simp (maxSteps := 4000000) (disch := omega) only [rr, aop, cV, cV1, AV.one, Qb, okW, Qd, app, Qa, Qc, Qe, Qf, Qg, simprocAttr, Qav]
  refine Qh.vc (hR x) ?_
  by_cases h0 : JB x = 0
  · simp (maxSteps := 4000000) (disch := omega) only [rr, aop, cV, cV1, AV.one, Qb, okW, Qd, app, Qa, Qc, Qe, Qf, Qg, simprocAttr, QaJ, QE, h0]
  have h3 : JB x = 128 ∨ JB x = 32768 ∨ JB x = 8388608 := by rcases XY x with h | h | h | h <;> omega
  by_cases h1 : 4000 < l.length
  · simp (maxSteps := 4000000) (disch := omega) only [rr, aop, cV, cV1, AV.one, Qb, okW, Qd, app, Qa, Qc, Qe, Qf, Qg, simprocAttr, QaJ, QE, h0, il, h1]
  simp (maxSteps := 4000000) (disch := omega) only [rr, aop, cV, cV1, AV.one, Qb, okW, Qd, app, Qa, Qc, Qe, Qf, Qg, simprocAttr, QaJ, il, if_neg h0]
  refine QN.by (ι := Nat) (fun k => ⟨[(24, .int .i64 k), (23, .int .i64 l.length), (22, il l), (6, .int .i32 (JB x - 1)), (5, .int .i32 (-JB x))], []⟩) (fun k => k ≤ l.length ∧ (l.take k).all (inR x) = true) (fun k => l.length - k) 0 (Le.slots (by simp [Am.look, il])) ⟨by omega, by simp⟩ ?_
  intro k ⟨hk, hg⟩
  by_cases hlt : k < l.length
  · by_cases hp : -JB x ≤ l[k] ∧ l[k] < JB x
    · have hs := QdJ hlt (p := inR x)
      simp (maxSteps := 4000000) (disch := omega) only [rr, aop, cV, cV1, AV.one, Qb, okW, Qd, app, Qa, Qc, Qe, Qf, Qg, simprocAttr, il, Qbb, hlt]
      exact ⟨k + 1, ⟨by omega, by rw [hs, hg]; simp [inR, hp]⟩, by omega, Le.slots (by simp [Am.look, il])⟩
    · have e : QE x l = 16 := by simp [QE, h0, h1, Qhk hlt (p := inR x) (by simp [inR]; omega)]
      by_cases hq : l[k] < -JB x
      · simp (maxSteps := 4000000) (disch := omega) only [rr, aop, cV, cV1, AV.one, Qb, okW, Qd, app, Qa, Qc, Qe, Qf, Qg, simprocAttr, il, Qbb, hlt, e]
      · simp (maxSteps := 4000000) (disch := omega) only [rr, aop, cV, cV1, AV.one, Qb, okW, Qd, app, Qa, Qc, Qe, Qf, Qg, simprocAttr, il, Qbb, hlt, e]
  · have e2 : k = l.length := by omega
    subst e2
    rw [List.take_length] at hg
    simp (maxSteps := 4000000) (disch := omega) only [rr, aop, cV, cV1, AV.one, Qb, okW, Qd, app, Qa, Qc, Qe, Qf, Qg, simprocAttr, il, QE, h0, h1, hg]

def Qoa (P : Prg) (f : Nat) : Prop := ∀ x : Int, VC P f [.int .i64 x] (.int .i64 (JB x))

theorem QoL {P : Prg} {f : Nat} (b : Ql P f 10 [.tmp 2] Xb) : Qoa P f := by
  intro x
  refine VC.of_acall rfl rfl (ACall.of_body b (by simp) ?_)
  rcases XY x with ⟨rfl, h⟩ | ⟨rfl, h⟩ | ⟨rfl, h⟩ | ⟨h1, h2, h3, h⟩ <;> simp (maxSteps := 4000000) (disch := omega) only [rr, aop, cV, cV1, AV.one, Qb, okW, Qd, app, Qa, Qc, Qe, Qf, Qg, simprocAttr, Xb, h]

set_option maxRecDepth 10000 in
theorem QlK {P : Prg} {f fH : Nat} (b : Ql P f 37 [.tmp 4] (Z0 fH)) (hH : Qoa P fH) : Qao P f := by
  intro x l hl
  refine VC.of_acall (by simp [isDL, isD, QS]) rfl (ACall.of_body b (by simp) ?_)
  simp (maxSteps := 4000000) (disch := omega) only [rr, aop, cV, cV1, AV.one, Qb, okW, Qd, app, Qa, Qc, Qe, Qf, Qg, simprocAttr, Z0]
  refine Qh.vc (hH x) ?_
  by_cases h0 : JB x = 0
  · simp (maxSteps := 4000000) (disch := omega) only [rr, aop, cV, cV1, AV.one, Qb, okW, Qd, app, Qa, Qc, Qe, Qf, Qg, simprocAttr, QE, h0]
  have h3 : JB x = 128 ∨ JB x = 32768 ∨ JB x = 8388608 := by rcases XY x with h | h | h | h <;> omega
  by_cases h1 : 4000 < l.length
  · simp (maxSteps := 4000000) (disch := omega) only [rr, aop, cV, cV1, AV.one, Qb, okW, Qd, app, Qa, Qc, Qe, Qf, Qg, simprocAttr, QE, h0, il, h1]
  simp (maxSteps := 4000000) (disch := omega) only [rr, aop, cV, cV1, AV.one, Qb, okW, Qd, app, Qa, Qc, Qe, Qf, Qg, simprocAttr, il]
  refine QN.by (ι := Nat) (fun k => ⟨[(6, .int .i64 k), (1, il l), (5, .int .i64 (JB x))], []⟩) (fun k => k ≤ l.length ∧ (l.take k).all (inR x) = true) (fun k => l.length - k) 0 (Le.slots (by simp [Am.look, il])) ⟨by omega, by simp⟩ ?_
  intro k ⟨hk, hg⟩
  by_cases hlt : k < l.length
  · have hb := hl _ (List.getElem_mem hlt)
    by_cases hp : -JB x ≤ l[k] ∧ l[k] < JB x
    · have hs := QdJ hlt (p := inR x)
      simp (maxSteps := 4000000) (disch := omega) only [rr, aop, cV, cV1, AV.one, Qb, okW, Qd, app, Qa, Qc, Qe, Qf, Qg, simprocAttr, il, Qbb, hlt]
      exact ⟨k + 1, ⟨by omega, by rw [hs, hg]; simp [inR, hp]⟩, by omega, Le.slots (by simp [Am.look, il])⟩
    · have e : QE x l = 16 := by simp [QE, h0, h1, Qhk hlt (p := inR x) (by simp [inR]; omega)]
      by_cases hq : l[k] < -JB x
      · simp (maxSteps := 4000000) (disch := omega) only [rr, aop, cV, cV1, AV.one, Qb, okW, Qd, app, Qa, Qc, Qe, Qf, Qg, simprocAttr, il, Qbb, hlt, e]
      · simp (maxSteps := 4000000) (disch := omega) only [rr, aop, cV, cV1, AV.one, Qb, okW, Qd, app, Qa, Qc, Qe, Qf, Qg, simprocAttr, il, Qbb, hlt, e]
  · have e2 : k = l.length := by omega
    subst e2
    rw [List.take_length] at hg
    simp (maxSteps := 4000000) (disch := omega) only [rr, aop, cV, cV1, AV.one, Qb, okW, Qd, app, Qa, Qc, Qe, Qf, Qg, simprocAttr, il, QE, h0, h1, hg]

theorem Qkp {n : Nat} {c : Int} (h : 1 ≤ c) : 0 ≤ (n : Int) / c ∧ (n : Int) / c ≤ n :=
  ⟨Int.ediv_nonneg (by omega) (by omega), Int.ediv_le_self _ (by omega)⟩

theorem JY {n : Nat} {c : Int} (h : 1 ≤ c) : 0 ≤ (n : Int) % c ∧ (n : Int) % c < c := ⟨Int.emod_nonneg _ (by omega), Int.emod_lt_of_pos _ (by omega)⟩

end Go.Am

namespace Go.Am
open Go.RowKit

def Qw (r : Int) : Int := if 256 * r / 245 < 1 then 1 else 256 * r / 245
theorem Xf (r : Int) : 1 ≤ Qw r := by unfold Qw; split <;> omega
theorem QnA {r : Int} (h : r ≤ 1048576) : Qw r ≤ 1095654 := by unfold Qw; split <;> omega
def QbE (r : Int) : AV := if r < 1 ∨ 1048576 < r then .tup [.int .i64 0, .int .i64 2] else .tup [.int .i64 (Qw r), .int .i64 0]
def Qbu (P : Prg) (f : Nat) : Prop := ∀ r : Int, VC P f [.int .i64 r] (QbE r)

theorem QnI (r : Int) : isD (QbE r) = true := by unfold QbE; split <;> rfl

theorem Qj6 {P : Prg} {f : Nat} (b : Ql P f 14 [.tmp 2, .tmp 3] ZT) : Qbu P f := by
  intro r
  refine VC.of_acall rfl (QnI r) (ACall.of_body b (by simp) ?_)
  by_cases h1 : r < 1
  · simp (maxSteps := 4000000) (disch := omega) only [rr, aop, cV, cV1, AV.one, Qb, okW, Qd, app, Qa, Qc, Qe, Qf, Qg, simprocAttr, ZT, QbE, true_or]
  by_cases h2 : 1048576 < r
  · simp (maxSteps := 4000000) (disch := omega) only [rr, aop, cV, cV1, AV.one, Qb, okW, Qd, app, Qa, Qc, Qe, Qf, Qg, simprocAttr, ZT, QbE, or_true]
  have h3 : 1 ≤ 256 * r / 245 := by omega
  simp (maxSteps := 4000000) (disch := omega) only [rr, aop, cV, cV1, AV.one, Qb, okW, Qd, app, Qa, Qc, Qe, Qf, Qg, simprocAttr, ZT, QbE, or_self, Qw]
  rw [show (if (1 : Int) < 256 * r / 245 then 256 * r / 245 else 1) = 256 * r / 245 by split <;> omega]

theorem QoK {P : Prg} {f : Nat} (b : Ql P f 17 [.tmp 2, .tmp 3] QZ) : Qbu P f := by
  intro r
  refine VC.of_acall rfl (QnI r) (ACall.of_body b (by simp) ?_)
  by_cases h1 : r < 1
  · simp (maxSteps := 4000000) (disch := omega) only [rr, aop, cV, cV1, AV.one, Qb, okW, Qd, app, Qa, Qc, Qe, Qf, Qg, simprocAttr, QZ, QbE, true_or]
  by_cases h2 : 1048576 < r
  · simp (maxSteps := 4000000) (disch := omega) only [rr, aop, cV, cV1, AV.one, Qb, okW, Qd, app, Qa, Qc, Qe, Qf, Qg, simprocAttr, QZ, QbE, or_true]
  have e : r * 256 / 245 = 256 * r / 245 := by rw [Int.mul_comm]
  have h3 : 1 ≤ 256 * r / 245 := by omega
  simp (maxSteps := 4000000) (disch := omega) only [rr, aop, cV, cV1, AV.one, Qb, okW, Qd, app, Qa, Qc, Qe, Qf, Qg, simprocAttr, QZ, QbE, or_self, Qw, e]

def QV (c b : Int) : Int := if JB b = 0 ∨ c < 1 ∨ 6 < c then 2 else 0
def shA (c b : Int) : AV := .agg [.int .i64 c, .int .i64 b]
def XN (P : Prg) (f : Nat) : Prop := ∀ c b : Int, VC P f [shA c b] (.int .i64 (QV c b))

theorem Qil {P : Prg} {f fR t0 : Nat} (b : Ql P f 25 [.tmp 2] (Jy fR t0)) (hR : Qi4 P fR) : XN P f := by
  intro c x
  refine VC.of_acall rfl rfl (ACall.of_body b (by simp) ?_)
  simp (maxSteps := 4000000) (disch := omega) only [rr, aop, cV, cV1, AV.one, Qb, okW, Qd, app, Qa, Qc, Qe, Qf, Qg, simprocAttr, Jy, shA]
  refine Qh.vc (hR x) ?_
  by_cases h0 : JB x = 0
  · simp (maxSteps := 4000000) (disch := omega) only [rr, aop, cV, cV1, AV.one, Qb, okW, Qd, app, Qa, Qc, Qe, Qf, Qg, simprocAttr, QaJ, h0, QV, true_or]
  by_cases h1 : c < 1
  · simp (maxSteps := 4000000) (disch := omega) only [rr, aop, cV, cV1, AV.one, Qb, okW, Qd, app, Qa, Qc, Qe, Qf, Qg, simprocAttr, QaJ, if_neg h0, QV, h0, or_true, true_or]
  by_cases h2 : 6 < c
  · simp (maxSteps := 4000000) (disch := omega) only [rr, aop, cV, cV1, AV.one, Qb, okW, Qd, app, Qa, Qc, Qe, Qf, Qg, simprocAttr, QaJ, if_neg h0, QV, h0, or_true]
  · simp (maxSteps := 4000000) (disch := omega) only [rr, aop, cV, cV1, AV.one, Qb, okW, Qd, app, Qa, Qc, Qe, Qf, Qg, simprocAttr, QaJ, if_neg h0, QV, h0, or_self]

theorem QlI {P : Prg} {f fH t0 : Nat} (b : Ql P f 17 [.tmp 2] (QW fH t0)) (hH : Qoa P fH) : XN P f := by
  intro c x
  refine VC.of_acall rfl rfl (ACall.of_body b (by simp) ?_)
  have hx := XY x
  by_cases h1 : c < 1
  · simp (maxSteps := 4000000) (disch := omega) only [rr, aop, cV, cV1, AV.one, Qb, okW, Qd, app, Qa, Qc, Qe, Qf, Qg, simprocAttr, QW, shA, QV, or_true, true_or]
  by_cases h2 : 6 < c
  · simp (maxSteps := 4000000) (disch := omega) only [rr, aop, cV, cV1, AV.one, Qb, okW, Qd, app, Qa, Qc, Qe, Qf, Qg, simprocAttr, QW, shA, QV, or_true]
  simp (maxSteps := 4000000) (disch := omega) only [rr, aop, cV, cV1, AV.one, Qb, okW, Qd, app, Qa, Qc, Qe, Qf, Qg, simprocAttr, QW, shA]
  refine Qh.vc (hH x) ?_
  by_cases h0 : JB x = 0
  · simp (maxSteps := 4000000) (disch := omega) only [rr, aop, cV, cV1, AV.one, Qb, okW, Qd, app, Qa, Qc, Qe, Qf, Qg, simprocAttr, h0, QV, true_or]
  · simp (maxSteps := 4000000) (disch := omega) only [rr, aop, cV, cV1, AV.one, Qb, okW, Qd, app, Qa, Qc, Qe, Qf, Qg, simprocAttr, h0, QV, or_self]
end Go.Am

namespace Go.Am
open Go.RowKit

structure Enc where
  ch : Int
  bits : Int
  rate : Int
  pw : List UInt8
  rest : List UInt8
  smp : List Int
  frs : List (List UInt8)
  out : List UInt8
  done : Bool
  err : Int

def bss (l : List (List UInt8)) : AV := .list l.length (l.map bs)
def Qx4 (e : Enc) : List AV := [.int .i64 e.ch, .int .i64 e.bits, .int .i64 e.rate, .str e.pw, bs e.rest, il e.smp, bss e.frs, bs e.out, .bool e.done, .int .i64 e.err]
theorem Qig : ∀ l : List (List UInt8), isDL (l.map bs) = true
  | [] => rfl
  | x :: l => by simp [isDL, Zy, Qig l]
theorem Qrn (l : List (List UInt8)) : isD (bss l) = true := by simp [bss, isD, Qig]
end Go.Am

namespace Go.Am
open Go.RowKit

/-! ### slices.IndexFunc, slices.ContainsFunc at elements of one cell -/

theorem Qah : ∀ l : List (List UInt8), isTL (l.map bs) = true
  | [] => rfl
  | x :: l => by
    have : isT (bs x) = true := by simp [bs, isT]; induction x with | nil => rfl | cons y x ih => simp [Qlo, isTL, isT, ih]
    simp [isTL, this, Qah l]

/-! ### feeding -/

end Go.Am

namespace Go.Am
open Go.RowKit

theorem Qba {α : Type} (f : α → AV) : ∀ l : List α, (l.map fun x => [f x]).flatten = l.map f
  | [] => rfl
  | x :: l => by simp [Qba f l]

theorem Qii {L : List (List AV)} (h : ∀ c ∈ L, Qbv (.int .u8) c) : ∃ l : List UInt8, L.length = l.length ∧ AV.list L.length L.flatten = bs l := by
  obtain ⟨l, rfl, _⟩ := Qcl (f := fun b : UInt8 => [AV.int .u8 b.toNat]) (q := fun _ => True) h (fun c hc => by
    simp only [Qbv] at hc
    obtain ⟨n, rfl, h1, h2⟩ := hc
    simp only [IntKind.min, IntKind.max, IntKind.signed, IntKind.bits] at h1 h2
    refine ⟨UInt8.ofNat n.toNat, ?_, trivial⟩
    simp at h1 h2
    simp; omega)
  exact ⟨l, by simp, by simp [bs, u8, Qba]⟩

theorem QrD {K : IntKind} {L : List (List AV)} (h : ∀ c ∈ L, Qbv (.int K) c) : ∃ l : List Int, L.length = l.length ∧ AV.list L.length L.flatten = .list l.length (ks K l) ∧ ∀ x ∈ l, K.min ≤ x ∧ x ≤ K.max := by
  obtain ⟨l, rfl, h2⟩ := Qcl (f := fun n : Int => [AV.int K n]) (q := fun x => K.min ≤ x ∧ x ≤ K.max) h (fun c hc => by
    simp only [Qbv] at hc
    obtain ⟨n, rfl, h1, h2⟩ := hc
    exact ⟨n, rfl, h1, h2⟩)
  exact ⟨l, by simp, by simp [ks, Qba], h2⟩

def QwN (P : Program) (t : TypeId) : Bool := match P.underlying t with | some (.struct _) => true | _ => false
def QwP (P : Program) (t : TypeId) : Bool := match P.underlying t with | some (.array _ _) => true | _ => false
def Qx3 (P : Program) (t : TypeId) : Bool := match P.underlying t with | some (.slice _) => true | _ => false
theorem QtO {P : Program} {t : TypeId} (h : QwN P t = true) : ∃ fs, P.underlying t = some (.struct fs) := by
  unfold QwN at h; split at h
  · exact ⟨_, by assumption⟩
  · cases h
theorem Qxu {P : Program} {t : TypeId} (h : QwP P t = true) : ∃ n e, P.underlying t = some (.array n e) := by
  unfold QwP at h; split at h
  · exact ⟨_, _, by assumption⟩
  · cases h
theorem QxP {P : Program} {t : TypeId} (h : Qx3 P t = true) : ∃ e, P.underlying t = some (.slice e) := by
  unfold Qx3 at h; split at h
  · exact ⟨_, by assumption⟩
  · cases h

end Go.Am

namespace Go.Am
open Go.RowKit

theorem Qke {L : List (List AV)} (h : ∀ c ∈ L, Qbv (.int .i32) c) : ∃ l : List Int, L.length = l.length ∧ AV.list L.length L.flatten = il l ∧ I32 l := by
  obtain ⟨l, h1, h2, h3⟩ := QrD h
  exact ⟨l, h1, h2, fun x hx => by have := h3 x hx; simpa [IntKind.min, IntKind.max, IntKind.signed, IntKind.bits] using this⟩

theorem Qt6 {L : List (List AV)} (h : ∀ c ∈ L, Qbv (.slice (.int .u8)) c) : ∃ l : List (List UInt8), L.length = l.length ∧ AV.list L.length L.flatten = bss l ∧ ∀ x ∈ l, x.length ≤ maxLen := by
  obtain ⟨l, rfl, h2⟩ := Qcl (f := fun b : List UInt8 => [bs b]) (q := fun x => x.length ≤ maxLen) h (fun c hc => by
    simp only [Qbv] at hc
    obtain ⟨L', rfl, h1, h2⟩ := hc
    obtain ⟨l, h3, h4⟩ := Qii h2
    exact ⟨l, by rw [h4], by omega⟩)
  exact ⟨l, by simp, by simp [bss, Qba], h2⟩

def QxF : Sh := .tuple [.int .i64, .int .i64]
def QwZ : Sh := .tuple [QxF, .int .i64, .str, .slice (.int .u8), .slice (.int .i32), .slice (.slice (.int .u8)), .slice (.int .u8), .bool, .int .i64]

theorem Qo2 {cs0 : List AV} (h : Qbv QxF cs0) : ∃ c b : Int, cs0 = [.int .i64 c, .int .i64 b] := by
  simp only [QxF, Qbv, FitsL] at h
  obtain ⟨_, _, rfl, ⟨c, rfl, _⟩, _, _, rfl, ⟨b, rfl, _⟩, rfl⟩ := h
  exact ⟨c, b, rfl⟩

theorem Qxx {cs0 : List AV} (h : Qbv QwZ cs0) : ∃ e : Enc, cs0 = Qx4 e ∧ I32 e.smp := by
  simp only [QwZ, Qbv, FitsL] at h
  obtain ⟨_, _, rfl, h1, _, _, rfl, ⟨r, rfl, _⟩, _, _, rfl, ⟨p, rfl, _⟩, _, _, rfl, ⟨L1, rfl, _, h2⟩, _, _, rfl, ⟨L2, rfl, _, h3⟩, _, _, rfl, ⟨L3, rfl, _, h4⟩, _, _, rfl, ⟨L4, rfl, _, h5⟩, _, _, rfl, ⟨d, rfl⟩, _, _, rfl, ⟨x, rfl, _⟩, rfl⟩ := h
  obtain ⟨c, b, rfl⟩ := Qo2 h1
  obtain ⟨l1, _, e1⟩ := Qii (L := L1) (fun c hc => by simp only [Qbv]; exact h2 c hc)
  obtain ⟨l2, _, e2, hi⟩ := Qke (L := L2) (fun c hc => by simp only [Qbv]; exact h3 c hc)
  obtain ⟨l3, _, e3, _⟩ := Qt6 (L := L3) (fun c hc => by simp only [Qbv]; exact h4 c hc)
  obtain ⟨l4, _, e4⟩ := Qii (L := L4) (fun c hc => by simp only [Qbv]; exact h5 c hc)
  exact ⟨⟨c, b, r, p, l1, l2, l3, l4, d, x⟩, by simp [Qx4, e1, e2, e3, e4], hi⟩
end Go.Am

namespace Go.Am
open Go.RowKit

def w32 (x : Int) : Int := IntKind.i32.wrap x
theorem Qg9 (x : Int) : w32 x = (x + 2147483648) % 4294967296 - 2147483648 := by
  simp [w32, IntKind.wrap, IntKind.bits, IntKind.signed]; split <;> omega
theorem Qu5 (a b : Int) : w32 (w32 a + w32 b) = w32 (a + b) := by simp only [Qg9]; omega
theorem QhF (a b : Int) : w32 (w32 a + b) = w32 (a + b) := by simp only [Qg9]; omega
theorem QsT (a b : Int) : w32 (a - w32 b) = w32 (a - b) := by simp only [Qg9]; omega
theorem Qu4 (a : Int) : w32 (w32 a) = w32 a := by simp only [Qg9]; omega
theorem Qjl {a : Int} (h1 : -2147483648 ≤ a) (h2 : a ≤ 2147483647) : w32 a = a := Qm8 h1 h2
theorem XT (a : Int) : -2147483648 ≤ w32 a ∧ w32 a ≤ 2147483647 := by simp only [Qg9]; omega
theorem Xn (x : Int) : IntKind.i32.wrap x = w32 x := rfl

theorem Zg {l : List Int} (h : I32 l) (k : Nat) : -2147483648 ≤ l.getD k 0 ∧ l.getD k 0 ≤ 2147483647 := by
  rw [List.getD_eq_getElem?_getD]
  cases hk : l[k]? with
  | none => simp
  | some v => exact h v (List.mem_of_getElem? hk)

theorem QuI {K : IntKind} {l : List Int} {k : Nat} (h : k < l.length) : (ks K l)[k]? = some (.int K (l.getD k 0)) := by
  simp [ks, List.getD_eq_getElem?_getD, List.getElem?_eq_getElem h]

structure Jg where
  sh : Int
  tp : List Int
  ps : List Int

def Qp (f : Jg) : List AV := .int .i64 f.sh :: (ks .i32 f.tp ++ ks .i32 f.ps)
def QbG (f : Jg) : Prop := f.tp.length = 16 ∧ f.ps.length = 16 ∧ I32 f.tp ∧ I32 f.ps

theorem QY {f : Jg} (h : QbG f) : (Qp f).length = 33 := by
  obtain ⟨h1, h2, _⟩ := h
  simp [Qp, Qk, h1, h2]
theorem Q1 (f : Jg) : (Qp f).all AV.one = true := by
  simp only [Qp, List.all_cons, List.all_append, ZP]; rfl
theorem Zf (f : Jg) : isDL (Qp f) = true := by
  have : ∀ a b, isDL (ks .i32 a ++ ks .i32 b) = true := fun a b => by rw [QfO]; exact QK _ _
  simp [Qp, isDL, isD, this]
theorem Qkg {f : Jg} (h : QbG f) : ((Qp f).drop 1).take 16 = ks .i32 f.tp := by
  obtain ⟨h1, h2, _⟩ := h
  simp only [Qp, List.drop_succ_cons, List.drop_zero]
  rw [List.take_left' (by simp [Qk, h1])]
theorem Qhr {f : Jg} (h : QbG f) : ((Qp f).drop 17).take 16 = ks .i32 f.ps := by
  obtain ⟨h1, h2, _⟩ := h
  simp only [Qp, List.drop_succ_cons]
  rw [List.drop_left' (by simp [Qk, h1]), List.take_of_length_le (by simp [Qk, h2])]
theorem Qt7 {f : Jg} (h : QbG f) {k : Nat} (hk : k < 16) : (Qp f).drop (1 + k) = .int .i32 (f.tp.getD k 0) :: ((ks .i32 f.tp).drop (k + 1) ++ ks .i32 f.ps) := by
  obtain ⟨h1, h2, _⟩ := h
  rw [Nat.add_comm]
  simp only [Qp, List.drop_succ_cons]
  rw [List.drop_append_of_le_length (by simp [Qk, h1]; omega), Qbb (by omega), ← J0]
  simp [List.getD_eq_getElem?_getD, List.getElem?_eq_getElem (show k < f.tp.length by omega)]
theorem QrG {f : Jg} (h : QbG f) {k : Nat} (hk : k < 16) : (Qp f).drop (17 + k) = .int .i32 (f.ps.getD k 0) :: (ks .i32 f.ps).drop (k + 1) := by
  obtain ⟨h1, h2, _⟩ := h
  rw [show 17 + k = (16 + k) + 1 by omega]
  simp only [Qp, List.drop_succ_cons]
  rw [← List.drop_drop, List.drop_left' (by simp [Qk, h1]), Qbb (by omega), ← J0]
  simp [List.getD_eq_getElem?_getD, List.getElem?_eq_getElem (show k < f.ps.length by omega)]
theorem Ql1 {f : Jg} (h : QbG f) {k : Nat} (hk : k < 16) (v : Int) : (Qp f).take (1 + k) ++ [.int .i32 v] ++ (Qp f).drop (1 + k + 1) = Qp { f with tp := f.tp.set k v } := by
  obtain ⟨h1, h2, _⟩ := h
  rw [Nat.add_comm 1 k]
  simp only [Qp, List.take_succ_cons, List.drop_succ_cons, List.cons_append]
  congr 1
  rw [List.take_append_of_le_length (by simp [Qk, h1]; omega), List.drop_append_of_le_length (by simp [Qk, h1]; omega), ← List.append_assoc]
  congr 1
  rw [List.set_eq_take_append_cons_drop, if_pos (by omega)]
  simp [ks]
theorem Qkh {f : Jg} (h : QbG f) {k : Nat} (hk : k < 16) (v : Int) : (Qp f).take (17 + k) ++ [.int .i32 v] ++ (Qp f).drop (17 + k + 1) = Qp { f with ps := f.ps.set k v } := by
  obtain ⟨h1, h2, _⟩ := h
  rw [show 17 + k = (16 + k) + 1 by omega]
  simp only [Qp, List.take_succ_cons, List.drop_succ_cons, List.cons_append]
  congr 1
  have e : (ks .i32 f.tp).length = 16 := by simp [Qk, h1]
  rw [List.take_append, List.take_of_length_le (by omega), e, show 16 + k + 1 = 16 + (k + 1) by omega, ← List.drop_drop, List.drop_left' e, show 16 + k - 16 = k by omega, List.append_assoc, List.append_assoc]
  congr 1
  rw [List.set_eq_take_append_cons_drop, if_pos (by omega)]
  simp [ks]

theorem Qs {α : Type} {l : List α} {n : Nat} (h : l.length ≤ n) : l.take n = l := List.take_of_length_le h

/-! ### taps.New, taps.Check -/

def Qa2 (b : Int) : Int := if b = 16 then 9 else 10
def z16 : List Int := List.replicate 16 0
def Qh9 (b : Int) (t : List Int) : Jg := ⟨Qa2 b, t, z16⟩
def Qjf : Jg := ⟨0, z16, z16⟩
def QgE (b : Int) (t : List Int) : AV := if JB b = 0 then .tup [.agg (Qp Qjf), .int .i64 2] else .tup [.agg (Qp (Qh9 b t)), .int .i64 0]
def Qn9 (P : Prg) (f : Nat) : Prop := ∀ (b : Int) (t : List Int), t.length = 16 → VC P f [.int .i64 b, .agg (ks .i32 t)] (QgE b t)

theorem QtP (b : Int) (t : List Int) : isD (QgE b t) = true := by
  unfold QgE; split <;> simp [isD, isDL, Zf]
theorem QaU : Qp Qjf = [.int .i64 0, .int .i32 0, .int .i32 0, .int .i32 0, .int .i32 0, .int .i32 0, .int .i32 0, .int .i32 0, .int .i32 0, .int .i32 0, .int .i32 0, .int .i32 0, .int .i32 0, .int .i32 0, .int .i32 0, .int .i32 0, .int .i32 0, .int .i32 0, .int .i32 0, .int .i32 0, .int .i32 0, .int .i32 0, .int .i32 0, .int .i32 0, .int .i32 0, .int .i32 0, .int .i32 0, .int .i32 0, .int .i32 0, .int .i32 0, .int .i32 0, .int .i32 0, .int .i32 0] := rfl

theorem QsY {P : Prg} {f t0 t1 : Nat} (b : Ql P f 18 [.cell 4 t1, .tmp 5] (X4 t0 t1)) (ht : ZD P t1 = some (some 33)) : Qn9 P f := by
  intro x t hl
  have hk : (ks .i32 t).length = 16 := by simp [Qk, hl]
  have h1 := ZP .i32 t
  have tk16 : (ks .i32 t).take 16 = ks .i32 t := Qs (by omega)
  refine VC.of_acall (by simp [isDL, isD, QK]) (QtP _ _) (ACall.of_body b (by simp) ?_)
  have fin : ∀ s : Int, .int .i64 s :: (ks .i32 t ++ [.int .i32 0, .int .i32 0, .int .i32 0, .int .i32 0, .int .i32 0, .int .i32 0, .int .i32 0, .int .i32 0, .int .i32 0, .int .i32 0, .int .i32 0, .int .i32 0, .int .i32 0, .int .i32 0, .int .i32 0, .int .i32 0]) = Qp ⟨s, t, z16⟩ := fun _ => rfl
  have hl33 : ∀ s : Int, (Qp ⟨s, t, z16⟩).length = 33 := fun s => by simp [Qp, Qk, hl, z16]
  have ho := fun s => Q1 ⟨s, t, z16⟩
  have tk : ∀ s : Int, (Qp ⟨s, t, z16⟩).take 33 = Qp ⟨s, t, z16⟩ := fun s => Qs (by rw [hl33]; omega)
  have st9 : ([] : List AV) ++ [.int .i64 9] ++ (Qp ⟨10, t, z16⟩).drop 1 = Qp ⟨9, t, z16⟩ := rfl
  have d9 : AV.int .i64 9 :: (Qp ⟨10, t, z16⟩).drop 1 = Qp ⟨9, t, z16⟩ := rfl
  rcases XY x with ⟨rfl, h⟩ | ⟨rfl, h⟩ | ⟨rfl, h⟩ | ⟨h2, h3, h4, h⟩
  · simp (maxSteps := 4000000) (disch := omega) only [rr, aop, cV, cV1, AV.one, Qb, okW, Qd, app, Qa, Qc, Qe, Qf, Qg, simprocAttr, X4, QgE, h, hk, h1, tk16, fin, hl33, ho, tk, ZG, ht, Qh9, Qa2]
  · simp (maxSteps := 4000000) (disch := omega) only [rr, aop, cV, cV1, AV.one, Qb, okW, Qd, app, Qa, Qc, Qe, Qf, Qg, simprocAttr, X4, QgE, h, hk, h1, tk16, fin, hl33, ho, tk, ZG, ht, Qh9, Qa2, d9]
  · simp (maxSteps := 4000000) (disch := omega) only [rr, aop, cV, cV1, AV.one, Qb, okW, Qd, app, Qa, Qc, Qe, Qf, Qg, simprocAttr, X4, QgE, h, hk, h1, tk16, fin, hl33, ho, tk, ZG, ht, Qh9, Qa2]
  · simp (maxSteps := 4000000) (disch := omega) only [rr, aop, cV, cV1, AV.one, Qb, okW, Qd, app, Qa, Qc, Qe, Qf, Qg, simprocAttr, X4, QgE, h, hk, h1, tk16, fin, hl33, ho, tk, ZG, ht, QaU]

def QsM (s : Int) : Int := if s = 9 ∨ s = 10 then 0 else 8
def QdK (P : Prg) (f : Nat) : Prop := ∀ x : Jg, QbG x → VC P f [.agg (Qp x)] (.int .i64 (QsM x.sh))

theorem QxB : QsM 9 = 0 := rfl
theorem Qwr : QsM 10 = 0 := rfl

/-! ### taps.Guess -/

def QuR (a b : List Int) : Nat → Int
  | 0 => 0
  | k + 1 => QuR a b k + a.getD k 0 * b.getD k 0
def Qdq (s : Int) : Int := if s = 9 then 512 else 1024
def Qka (f : Jg) : Int := w32 (Qdq f.sh / 2 + QuR f.tp f.ps 16) / Qdq f.sh
def Qfg (P : Prg) (f : Nat) : Prop := ∀ x : Jg, QbG x → x.sh = 9 ∨ x.sh = 10 → VC P f [.agg (Qp x)] (.tup [.int .i32 (Qka x), .int .i64 0])

theorem Qvq : Qm true .i32 1 8 = some (.int .i32 256) := rfl
theorem Qvp : Qm true .i32 1 9 = some (.int .i32 512) := rfl
theorem Qvl (s : Int) : Qm false .i32 s 9 = some (.int .i32 (s / 512)) := by
  show some (AV.int .i32 (s.fdiv 512)) = _
  rw [Int.fdiv_eq_ediv_of_nonneg _ (by omega)]
theorem Qta (s : Int) : Qm false .i32 s 10 = some (.int .i32 (s / 1024)) := by
  show some (AV.int .i32 (s.fdiv 1024)) = _
  rw [Int.fdiv_eq_ediv_of_nonneg _ (by omega)]

theorem Qov {P : Prg} {f fC t0 : Nat} (b : Ql P f 36 [.tmp 2, .tmp 3] (Qbk fC t0)) (hC : QdK P fC) : Qfg P f := by
  intro x hx hs
  have l33 := QY hx
  have tk : (Qp x).take 33 = Qp x := Qs (by omega)
  have ho := Q1 x
  have e1 := Qkg hx
  have e0 : (Qp x).drop 0 = .int .i64 x.sh :: (ks .i32 x.tp ++ ks .i32 x.ps) := rfl
  have ht : QsM x.sh = 0 := by simp [QsM, hs]
  have hl := hx.1
  refine VC.of_acall (by simp [isDL, isD, Zf]) rfl (ACall.of_body b (by simp) ?_)
  simp (maxSteps := 4000000) (disch := omega) only [rr, aop, cV, cV1, AV.one, Qb, okW, Qd, app, Qa, Qc, Qe, Qf, Qg, simprocAttr, Qbk, l33, tk, ho]
  refine Qh.vc (hC x hx) ?_
  rcases hs with h | h
  all_goals
    have z0 : w32 (Qdq x.sh / 2 + QuR x.tp x.ps 0) = Qdq x.sh / 2 := by simp only [QuR, Int.add_zero]; exact Qjl (by simp [Qdq, h]) (by simp [Qdq, h])
    have z1 : Qdq x.sh = 512 ∧ x.sh = 9 ∨ Qdq x.sh = 1024 ∧ x.sh = 10 := by simp [Qdq, h]
    simp (maxSteps := 4000000) (disch := omega) only [rr, aop, cV, cV1, AV.one, Qb, okW, Qd, app, Qa, Qc, Qe, Qf, Qg, simprocAttr, l33, tk, ho, QxB, Qwr, e1, ↓e0, h, Qvq, Qvp]
    refine QN.by (ι := Nat) (fun k => ⟨[(19, .int .i64 k), (18, .agg (ks .i32 x.tp)), (5, .int .i32 (w32 (Qdq x.sh / 2 + QuR x.tp x.ps k))), (1, .ref 0 1 0)], [⟨t0, 33, 1, Qp x, 0⟩]⟩) (fun k => k ≤ 16) (fun k => 16 - k) 0 (Le.slots (by rw [z0]; simp [Am.look, h, Qdq])) (by omega) ?_
    intro k hk
    by_cases hlt : k < 16
    · have e2 := QrG hx hlt
      have e3 := QuI (K := .i32) (l := x.tp) (k := k) (by omega)
      have e4 : w32 (w32 (Qdq x.sh / 2 + QuR x.tp x.ps k) + w32 (x.tp.getD k 0 * x.ps.getD k 0)) = w32 (Qdq x.sh / 2 + QuR x.tp x.ps (k + 1)) := by
        rw [Qu5]; simp only [QuR]; congr 1; omega
      simp (maxSteps := 4000000) (disch := omega) only [rr, aop, cV, cV1, AV.one, Qb, okW, Qd, app, Qa, Qc, Qe, Qf, Qg, simprocAttr, l33, e2, e3, Xn, e4]
      exact ⟨k + 1, by omega, by omega, Le.slots (by simp [Am.look])⟩
    · have e : k = 16 := by omega
      subst e
      simp (maxSteps := 4000000) (disch := omega) only [rr, aop, cV, cV1, AV.one, Qb, okW, Qd, app, Qa, Qc, Qe, Qf, Qg, simprocAttr, ↓e0, h, Qvl, Qta, Qka, Qdq]
/-! ### taps.Learn, taps.Push -/

theorem Qow {P : Prg} {f t0 : Nat} (b : Ql P f 11 [.tmp 2] (XD t0)) : QdK P f := by
  intro x hx
  have l33 := QY hx
  have ho := Q1 x
  have e0 : (Qp x).drop 0 = .int .i64 x.sh :: (ks .i32 x.tp ++ ks .i32 x.ps) := rfl
  refine VC.of_acall (by simp [isDL, isD, Zf]) rfl (ACall.of_body b (by simp) ?_)
  by_cases h9 : x.sh = 9
  · simp (maxSteps := 4000000) (disch := omega) only [rr, aop, cV, cV1, AV.one, Qb, okW, Qd, app, Qa, Qc, Qe, Qf, Qg, simprocAttr, XD, l33, ho, ↓e0, h9, QsM]
  by_cases h10 : x.sh = 10
  · simp (maxSteps := 4000000) (disch := omega) only [rr, aop, cV, cV1, AV.one, Qb, okW, Qd, app, Qa, Qc, Qe, Qf, Qg, simprocAttr, XD, l33, ho, ↓e0, h10, QsM]
  · simp (maxSteps := 4000000) (disch := omega) only [rr, aop, cV, cV1, AV.one, Qb, okW, Qd, app, Qa, Qc, Qe, Qf, Qg, simprocAttr, XD, l33, ho, ↓e0, QsM]

def Qls (i : Nat) : Int := if i = 0 then 4 else if i < 4 then 2 else 1
def QmR (P : Prg) (f : Nat) : Prop := ∀ i : Nat, VC P f [.int .i64 i] (.int .i32 (Qls i))
theorem Qqa {P : Prg} {f : Nat} (b : Ql P f 9 [.tmp 2] Jo) : QmR P f := by
  intro i
  refine VC.of_acall rfl rfl (ACall.of_body b (by simp) ?_)
  by_cases h0 : i = 0
  · subst h0; simp (maxSteps := 4000000) (disch := omega) only [rr, aop, cV, cV1, AV.one, Qb, okW, Qd, app, Qa, Qc, Qe, Qf, Qg, simprocAttr, Jo, Qls, Int.natCast_zero]
  by_cases h1 : i < 4
  · simp (maxSteps := 4000000) (disch := omega) only [rr, aop, cV, cV1, AV.one, Qb, okW, Qd, app, Qa, Qc, Qe, Qf, Qg, simprocAttr, Jo, Qls, h0]
  · simp (maxSteps := 4000000) (disch := omega) only [rr, aop, cV, cV1, AV.one, Qb, okW, Qd, app, Qa, Qc, Qe, Qf, Qg, simprocAttr, Jo, Qls, h0]

end Go.Am

namespace Go.Am
open Go.RowKit

def sgn (x : Int) : Int := if x < 0 then -1 else if 0 < x then 1 else 0
def QsU (x : Jg) (w : Int) (k : Nat) : Int := w32 (x.tp.getD k 0 + Qls k * sgn (x.ps.getD k 0) * sgn w)
def XQ (x : Jg) (w : Int) (k : Nat) : List Int := (List.range 16).map fun i => if i < k then QsU x w i else x.tp.getD i 0
def lf (x : Jg) (w : Int) (k : Nat) : Jg := { x with tp := XQ x w k }
def Qag (x : Jg) (w : Int) : Jg := lf x w 16

theorem QoP {l : List Int} (h : l.length = 16) : (List.range 16).map (fun i => l.getD i 0) = l := by
  apply List.ext_getElem (by simp [h])
  intro i h1 h2
  simp [List.getD_eq_getElem?_getD, List.getElem?_eq_getElem h2]
theorem Qrd (x : Jg) (w : Int) (k : Nat) : (XQ x w k).length = 16 := by simp [XQ]
theorem Qhl {x : Jg} (h : QbG x) (w : Int) : XQ x w 0 = x.tp := by
  have := QoP h.1
  simpa [XQ] using this
theorem QoW (x : Jg) (w : Int) {k : Nat} (hk : k < 16) : (XQ x w k).getD k 0 = x.tp.getD k 0 := by
  simp [XQ, List.getD_eq_getElem?_getD, hk]
theorem Qrc (x : Jg) (w : Int) {k : Nat} (hk : k < 16) : (XQ x w k).set k (QsU x w k) = XQ x w (k + 1) := by
  apply List.ext_getElem (by simp [XQ])
  intro i h1 h2
  rw [List.getElem_set]
  simp only [XQ, List.getElem_map, List.getElem_range]
  by_cases e : k = i
  · subst e; simp
  · rw [if_neg e]
    by_cases h : i < k
    · rw [if_pos h, if_pos (by omega)]
    · rw [if_neg h, if_neg (by omega)]
theorem Qhm (x : Jg) (w : Int) {k : Nat} (h : QsU x w k = x.tp.getD k 0) : XQ x w (k + 1) = XQ x w k := by
  simp only [XQ]
  apply List.map_congr_left
  intro i _
  by_cases e : i = k
  · subst e; simp [h]
  · by_cases h : i < k
    · rw [if_pos h, if_pos (by omega)]
    · rw [if_neg h, if_neg (by omega)]
theorem QsL {x : Jg} (h : QbG x) (w : Int) (k : Nat) : I32 (XQ x w k) := by
  intro v hv
  simp only [XQ, List.mem_map] at hv
  obtain ⟨i, _, rfl⟩ := hv
  split
  · exact XT _
  · exact Zg h.2.2.1 i
theorem Qj2 {x : Jg} (h : QbG x) (w : Int) (k : Nat) : QbG (lf x w k) := ⟨Qrd x w k, h.2.1, QsL h w k, h.2.2.2⟩
theorem Qe8 {x : Jg} (h : QbG x) (w : Int) : QbG (Qag x w) := Qj2 h w 16
theorem QtD {x : Jg} (h : QbG x) : Qag x 0 = x := by
  have key : ∀ k, XQ x 0 k = x.tp := fun k => by
    induction k with
    | zero => exact Qhl h 0
    | succ k ih =>
      rw [Qhm x 0, ih]
      have := Zg h.2.2.1 k
      simp only [QsU, sgn]
      simp
      exact Qjl (by simpa using this.1) (by simpa using this.2)
  simp [Qag, lf, key]

def Qi2 (P : Prg) (f : Nat) : Prop := ∀ (x : Jg) (w : Int), QbG x → x.sh = 9 ∨ x.sh = 10 → VC P f [.agg (Qp x), .int .i32 w] (.tup [.agg (Qp (Qag x w)), .int .i64 0])

theorem Qp9 {s : Int} (h : s = 9 ∨ s = 10) : QsM s = 0 := by simp [QsM, h]

theorem Qou {P : Prg} {f fC fS t0 : Nat} (b : Ql P f 53 [.cell 4 t0, .tmp 5] (Qbj fC fS t0)) (ht : ZD P t0 = some (some 33)) (hC : QdK P fC) (hS : QmR P fS) : Qi2 P f := by
  intro x w hx hs
  have l33 := QY hx
  have tk : (Qp x).take 33 = Qp x := Qs (by omega)
  have ho := Q1 x
  have hc := Qp9 hs
  have pp := Qhr hx
  have lw := QY (Qe8 hx w)
  have tkw : (Qp (Qag x w)).take 33 = Qp (Qag x w) := Qs (by omega)
  have how := Q1 (Qag x w)
  refine VC.of_acall (by simp [isDL, isD, Zf]) (by simp [isD, isDL, Zf]) (ACall.of_body b (by simp) ?_)
  simp (maxSteps := 4000000) (disch := omega) only [rr, aop, cV, cV1, AV.one, Qb, okW, Qd, app, Qa, Qc, Qe, Qf, Qg, simprocAttr, Qbj, l33, tk, ho]
  refine Qh.vc (hC x hx) ?_
  by_cases hw : w = 0
  · subst hw
    have e := QtD hx
    simp (maxSteps := 4000000) (disch := omega) only [rr, aop, cV, cV1, AV.one, Qb, okW, Qd, app, Qa, Qc, Qe, Qf, Qg, simprocAttr, l33, tk, ho, hc, ZG, ht, e]
  simp (maxSteps := 4000000) (disch := omega) only [rr, aop, cV, cV1, AV.one, Qb, okW, Qd, app, Qa, Qc, Qe, Qf, Qg, simprocAttr, l33, tk, ho, hc, pp]
  refine QN.by (ι := Nat) (fun k => ⟨[(20, .int .i64 k), (19, .agg (ks .i32 x.ps)), (4, .ref 1 1 0), (2, .ref 0 1 0), (1, .int .i32 w), (5, .int .i64 0)], [⟨t0, 33, 1, Qp (lf x w k), 0⟩, ⟨t0, 33, 1, Qp Qjf, 0⟩]⟩) (fun k => k ≤ 16) (fun k => 16 - k) 0 (by rw [show lf x w 0 = x by simp [lf, Qhl hx]]; exact Le.slots (by simp [Am.look])) (by omega) ?_
  intro k hk
  by_cases hlt : k < 16
  · have hok := Qj2 hx w k
    have e1 := QuI (K := .i32) (l := x.ps) (k := k) (by have := hx.2.1; omega)
    have e2 := Qt7 hok hlt
    have e3 := fun v => Ql1 hok hlt v
    have e4 := QoW x w hlt
    have e5 := QY hok
    have hu := Qrc x w hlt
    have hp := Zg hx.2.2.2 k
    have htp := Zg hx.2.2.1 k
    have ef : ∀ v, ({ lf x w k with tp := (lf x w k).tp.set k v } : Jg) = { x with tp := (XQ x w k).set k v } := fun _ => rfl
    have e7 : (lf x w k).tp.getD k 0 = x.tp.getD k 0 := e4
    by_cases p0 : x.ps.getD k 0 = 0
    · have e6 := Qhm x w (k := k) (by simp only [QsU, p0, sgn]; simp; exact Qjl (by simpa using htp.1) (by simpa using htp.2))
      simp (maxSteps := 4000000) (disch := omega) only [rr, aop, cV, cV1, AV.one, Qb, okW, Qd, app, Qa, Qc, Qe, Qf, Qg, simprocAttr, e1, p0]
      exact ⟨k + 1, by omega, by omega, by rw [show lf x w (k + 1) = lf x w k by simp [lf, e6]]; exact Le.slots (by simp [Am.look])⟩
    · by_cases hsame : (x.ps.getD k 0 < 0 ↔ w < 0)
      · have e6 : QsU x w k = w32 (x.tp.getD k 0 + Qls k) := by
          simp only [QsU, sgn]; congr 1
          by_cases q : w < 0
          · rw [if_pos q, if_pos (hsame.2 q)]; omega
          · rw [if_neg q, if_neg (fun h => q (hsame.1 h)), if_pos (by omega), if_pos (by omega)]; omega
        rw [e6] at hu
        by_cases q : w < 0
        · have q2 := hsame.2 q
          simp (maxSteps := 4000000) (disch := omega) only [rr, aop, cV, cV1, AV.one, Qb, okW, Qd, app, Qa, Qc, Qe, Qf, Qg, simprocAttr, e1, e2, e7]
          refine QQ.vc (hS k) ?_
          simp (maxSteps := 4000000) (disch := omega) only [rr, aop, cV, cV1, AV.one, Qb, okW, Qd, app, Qa, Qc, Qe, Qf, Qg, simprocAttr, e3, e5, Xn, ef, hu]
          exact ⟨k + 1, by omega, by omega, Le.slots (by simp [Am.look])⟩
        · have q2 : ¬ x.ps.getD k 0 < 0 := fun h => q (hsame.1 h)
          simp (maxSteps := 4000000) (disch := omega) only [rr, aop, cV, cV1, AV.one, Qb, okW, Qd, app, Qa, Qc, Qe, Qf, Qg, simprocAttr, e1, e2, e7]
          refine QQ.vc (hS k) ?_
          simp (maxSteps := 4000000) (disch := omega) only [rr, aop, cV, cV1, AV.one, Qb, okW, Qd, app, Qa, Qc, Qe, Qf, Qg, simprocAttr, e3, e5, Xn, ef, hu]
          exact ⟨k + 1, by omega, by omega, Le.slots (by simp [Am.look])⟩
      · have e6 : QsU x w k = w32 (x.tp.getD k 0 - Qls k) := by
          simp only [QsU, sgn]; congr 1
          by_cases q : w < 0
          · rw [if_pos q, if_neg (fun h => hsame ⟨fun _ => q, fun _ => h⟩), if_pos (by omega)]; omega
          · rw [if_neg q, if_pos (Classical.byContradiction fun h => hsame ⟨fun h' => absurd h' h, fun h' => absurd h' q⟩), if_pos (by omega)]; omega
        rw [e6] at hu
        by_cases q : w < 0
        · have q2 : ¬ x.ps.getD k 0 < 0 := fun h => hsame ⟨fun _ => q, fun _ => h⟩
          simp (maxSteps := 4000000) (disch := omega) only [rr, aop, cV, cV1, AV.one, Qb, okW, Qd, app, Qa, Qc, Qe, Qf, Qg, simprocAttr, e1, e2, e7]
          refine QQ.vc (hS k) ?_
          simp (maxSteps := 4000000) (disch := omega) only [rr, aop, cV, cV1, AV.one, Qb, okW, Qd, app, Qa, Qc, Qe, Qf, Qg, simprocAttr, e3, e5, Xn, ef, hu]
          exact ⟨k + 1, by omega, by omega, Le.slots (by simp [Am.look])⟩
        · have q2 : x.ps.getD k 0 < 0 := Classical.byContradiction fun h => hsame ⟨fun h' => absurd h' h, fun h' => absurd h' q⟩
          simp (maxSteps := 4000000) (disch := omega) only [rr, aop, cV, cV1, AV.one, Qb, okW, Qd, app, Qa, Qc, Qe, Qf, Qg, simprocAttr, e1, e2, e7]
          refine QQ.vc (hS k) ?_
          simp (maxSteps := 4000000) (disch := omega) only [rr, aop, cV, cV1, AV.one, Qb, okW, Qd, app, Qa, Qc, Qe, Qf, Qg, simprocAttr, e3, e5, Xn, ef, hu]
          exact ⟨k + 1, by omega, by omega, Le.slots (by simp [Am.look])⟩
  · have e : k = 16 := by omega
    subst e
    have hF : lf x w 16 = Qag x w := rfl
    rw [hF]
    simp (maxSteps := 4000000) (disch := omega) only [rr, aop, cV, cV1, AV.one, Qb, okW, Qd, app, Qa, Qc, Qe, Qf, Qg, simprocAttr, lw, tkw, how, ZG, ht, QaU]
/-! ### taps.Push -/

def QgI (x : Jg) (v : Int) : Jg := { x with ps := v :: x.ps.take 15 }
theorem Qq0 {x : Jg} (h : QbG x) {v : Int} (hv : -2147483648 ≤ v ∧ v ≤ 2147483647) : QbG (QgI x v) := by
  obtain ⟨h1, h2, h3, h4⟩ := h
  refine ⟨h1, by simp [QgI, h2], h3, fun y hy => ?_⟩
  simp only [QgI, List.mem_cons] at hy
  rcases hy with rfl | hy
  · exact hv
  · exact h4 y (List.mem_of_mem_take hy)

def QmS (P : Prg) (f : Nat) : Prop := ∀ (x : Jg) (v : Int), QbG x → x.sh = 9 ∨ x.sh = 10 → VC P f [.agg (Qp x), .int .i32 v] (.tup [.agg (Qp (QgI x v)), .int .i64 0])

theorem Qqb {P : Prg} {f fC t0 : Nat} (b : Ql P f 22 [.cell 4 t0, .tmp 5] (Qb6 fC t0)) (ht : ZD P t0 = some (some 33)) (hC : QdK P fC) : QmS P f := by
  intro x v hx hs
  have l33 := QY hx
  have tk : (Qp x).take 33 = Qp x := Qs (by omega)
  have ho := Q1 x
  have hc := Qp9 hs
  have pp := Qhr hx
  have h16 : (ks .i32 x.ps).length = 16 := by simp [Qk, hx.2.1]
  have o16 := ZP .i32 x.ps
  refine VC.of_acall (by simp [isDL, isD, Zf]) (by simp [isD, isDL, Zf]) (ACall.of_body b (by simp) ?_)
  simp (maxSteps := 4000000) (disch := omega) only [rr, aop, cV, cV1, AV.one, Qb, okW, Qd, app, Qa, Qc, Qe, Qf, Qg, simprocAttr, Qb6, l33, tk, ho]
  refine Qh.vc (hC x hx) ?_
  have hm : Nat.min 16 15 = 15 := rfl
  let y : Jg := { x with ps := x.ps.getD 0 0 :: x.ps.take 15 }
  have hy : QbG y := Qq0 hx (Zg hx.2.2.2 0)
  have hcp : (Qp x).take 18 ++ (ks .i32 x.ps).take 15 ++ (Qp x).drop 33 = Qp y := by
    have e1 : (Qp x).drop 33 = [] := List.drop_eq_nil_of_le (by omega)
    have e2 : (ks .i32 x.tp).length = 16 := by simp [Qk, hx.1]
    have e3 : (ks .i32 x.ps).take 1 = [.int .i32 (x.ps.getD 0 0)] := by
      have h1 : 0 < x.ps.length := by have := hx.2.1; omega
      match hps : x.ps, h1 with
      | a :: l, _ => rfl
    rw [e1, List.append_nil]
    simp only [Qp, List.take_succ_cons, List.cons_append, y]
    congr 1
    rw [List.take_append, List.take_of_length_le (by omega), e2, e3, List.append_assoc, Qrh]
    rfl
  have hset : (Qp y).take 17 ++ [.int .i32 v] ++ (Qp y).drop 18 = Qp (QgI x v) := Qkh hy (k := 0) (by omega) v
  have ly := QY hy
  have lp : (Qp (QgI x v)).length = 33 := by rw [← hset]; simp [ly]
  have tkp : (Qp (QgI x v)).take 33 = Qp (QgI x v) := Qs (by omega)
  have op := Q1 (QgI x v)
  simp (maxSteps := 4000000) (disch := omega) only [rr, aop, cV, cV1, AV.one, Qb, okW, Qd, app, Qa, Qc, Qe, Qf, Qg, simprocAttr, l33, tk, ho, hc, pp, h16, o16, hm, hcp, hset, ly, lp, tkp, op, ZG, ht, QaU]
end Go.Am

namespace Go.Am
open Go.RowKit

def XC (x : Jg) (v y : Int) : Jg := QgI (Qag x y) v
theorem QbW {x : Jg} (h : QbG x) {v : Int} (hv : -2147483648 ≤ v ∧ v ≤ 2147483647) (y : Int) : QbG (XC x v y) := Qq0 (Qe8 h y) hv
def QdN (P : Prg) (f : Nat) : Prop := ∀ (x : Jg) (v y : Int), QbG x → x.sh = 9 ∨ x.sh = 10 → -2147483648 ≤ v ∧ v ≤ 2147483647 → VC P f [.agg (Qp x), .int .i32 v, .int .i32 y] (.agg (Qp (XC x v y)))

theorem QoV {P : Prg} {f fL fP t0 : Nat} (b : Ql P f 20 [.cell 6 t0] (Qbl fL fP t0)) (ht : ZD P t0 = some (some 33)) (hL : Qi2 P fL) (hP : QmS P fP) : QdN P f := by
  intro x v y hx hs hv
  have l1 := QY hx
  have t1 : (Qp x).take 33 = Qp x := Qs (by omega)
  have o1 := Q1 x
  have l2 := QY (Qe8 hx y)
  have t2 : (Qp (Qag x y)).take 33 = Qp (Qag x y) := Qs (by omega)
  have o2 := Q1 (Qag x y)
  have l3 := QY (QbW hx hv y)
  have t3 : (Qp (XC x v y)).take 33 = Qp (XC x v y) := Qs (by omega)
  have o3 := Q1 (XC x v y)
  have d1 : (Qp x).drop 33 = [] := List.drop_eq_nil_of_le (by omega)
  have d2 : (Qp (Qag x y)).drop 33 = [] := List.drop_eq_nil_of_le (by omega)
  refine VC.of_acall (by simp [isDL, isD, Zf]) (by simp [isD, Zf]) (ACall.of_body b (by simp) ?_)
  simp (maxSteps := 4000000) (disch := omega) only [rr, aop, cV, cV1, AV.one, Qb, okW, Qd, app, Qa, Qc, Qe, Qf, Qg, simprocAttr, Qbl, l1, t1, o1]
  refine Qh.vc (hL x y hx hs) ?_
  simp (maxSteps := 4000000) (disch := omega) only [rr, aop, cV, cV1, AV.one, Qb, okW, Qd, app, Qa, Qc, Qe, Qf, Qg, simprocAttr, l1, t1, o1, l2, t2, o2, d1]
  refine Qh.vc (hP (Qag x y) v (Qe8 hx y) hs) ?_
  rw [← XC]
  simp (maxSteps := 4000000) (disch := omega) only [rr, aop, cV, cV1, AV.one, Qb, okW, Qd, app, Qa, Qc, Qe, Qf, Qg, simprocAttr, l1, t1, o1, l2, t2, o2, l3, t3, o3, d1, d2, ZG, ht, QaU]

def QpK (x : Jg) (v : Int) : Int := w32 (v - Qka x)
def QwR (x : Jg) (v : Int) : Jg := XC x v (QpK x v)
def Qel (P : Prg) (f : Nat) : Prop := ∀ (x : Jg) (v : Int), QbG x → x.sh = 9 ∨ x.sh = 10 → -2147483648 ≤ v ∧ v ≤ 2147483647 → VC P f [.agg (Qp x), .int .i32 v] (.tup [.int .i32 (QpK x v), .agg (Qp (QwR x v)), .int .i64 0])

theorem QlQ {P : Prg} {f fG fB t0 : Nat} (b : Ql P f 27 [.tmp 4, .cell 5 t0, .tmp 6] (Qax fG fB t0)) (ht : ZD P t0 = some (some 33)) (hG : Qfg P fG) (hB : QdN P fB) : Qel P f := by
  intro x v hx hs hv
  have l1 := QY hx
  have t1 : (Qp x).take 33 = Qp x := Qs (by omega)
  have o1 := Q1 x
  have l3 := QY (QbW hx hv (QpK x v))
  have t3 : (Qp (XC x v (QpK x v))).take 33 = Qp (XC x v (QpK x v)) := Qs (by omega)
  have o3 := Q1 (XC x v (QpK x v))
  refine VC.of_acall (by simp [isDL, isD, Zf]) (by simp [isD, isDL, Zf]) (ACall.of_body b (by simp) ?_)
  simp (maxSteps := 4000000) (disch := omega) only [rr, aop, cV, cV1, AV.one, Qb, okW, Qd, app, Qa, Qc, Qe, Qf, Qg, simprocAttr, Qax, l1, t1, o1]
  refine Qh.vc (hG x hx hs) ?_
  simp (maxSteps := 4000000) (disch := omega) only [rr, aop, cV, cV1, AV.one, Qb, okW, Qd, app, Qa, Qc, Qe, Qf, Qg, simprocAttr, l1, t1, o1, Xn]
  refine Qh.vc (hB x v (QpK x v) hx hs hv) ?_
  simp only [QpK] at l3 t3 o3
  simp (maxSteps := 4000000) (disch := omega) only [rr, aop, cV, cV1, AV.one, Qb, okW, Qd, app, Qa, Qc, Qe, Qf, Qg, simprocAttr, l1, t1, o1, l3, t3, o3, ZG, ht, QaU, QwR, QpK]

def Qpu (x : Jg) (y : Int) : Int := w32 (y + Qka x)
def Qxe (x : Jg) (y : Int) : Jg := XC x (Qpu x y) y
def QmW (P : Prg) (f : Nat) : Prop := ∀ (x : Jg) (y : Int), QbG x → x.sh = 9 ∨ x.sh = 10 → VC P f [.agg (Qp x), .int .i32 y] (.tup [.int .i32 (Qpu x y), .agg (Qp (Qxe x y)), .int .i64 0])

theorem QtA {P : Prg} {f fG fB t0 : Nat} (b : Ql P f 27 [.tmp 4, .cell 5 t0, .tmp 6] (Qc4 fG fB t0)) (ht : ZD P t0 = some (some 33)) (hG : Qfg P fG) (hB : QdN P fB) : QmW P f := by
  intro x y hx hs
  have hv := XT (y + Qka x)
  have l1 := QY hx
  have t1 : (Qp x).take 33 = Qp x := Qs (by omega)
  have o1 := Q1 x
  have l3 := QY (QbW hx hv y)
  have t3 : (Qp (XC x (Qpu x y) y)).take 33 = Qp (XC x (Qpu x y) y) := Qs (by unfold Qpu; omega)
  have o3 := Q1 (XC x (Qpu x y) y)
  refine VC.of_acall (by simp [isDL, isD, Zf]) (by simp [isD, isDL, Zf]) (ACall.of_body b (by simp) ?_)
  simp (maxSteps := 4000000) (disch := omega) only [rr, aop, cV, cV1, AV.one, Qb, okW, Qd, app, Qa, Qc, Qe, Qf, Qg, simprocAttr, Qc4, l1, t1, o1]
  refine Qh.vc (hG x hx hs) ?_
  simp (maxSteps := 4000000) (disch := omega) only [rr, aop, cV, cV1, AV.one, Qb, okW, Qd, app, Qa, Qc, Qe, Qf, Qg, simprocAttr, l1, t1, o1, Xn]
  refine Qh.vc (hB x (Qpu x y) y hx hs hv) ?_
  simp only [Qpu] at l3 t3 o3
  simp (maxSteps := 4000000) (disch := omega) only [rr, aop, cV, cV1, AV.one, Qb, okW, Qd, app, Qa, Qc, Qe, Qf, Qg, simprocAttr, l1, t1, o1, l3, t3, o3, ZG, ht, QaU, Qxe, Qpu]

/-! ### first -/

def QcK (b last : Int) : Int := if b = 8 then 15 * last / 16 else 31 * last / 32
def Qi7 (P : Prg) (f : Nat) : Prop := ∀ b : Int, JB b ≠ 0 → VC P f [.int .i64 b] (.tup [.int .i64 (if b = 8 then 4 else 5), .int .i64 0])
theorem QlZ {P : Prg} {f : Nat} (b : Ql P f 10 [.tmp 2, .tmp 3] Xj) : Qi7 P f := by
  intro x hx
  refine VC.of_acall rfl rfl (ACall.of_body b (by simp) ?_)
  rcases XY x with ⟨rfl, h⟩ | ⟨rfl, h⟩ | ⟨rfl, h⟩ | ⟨h2, h3, h4, h⟩
  · simp (maxSteps := 4000000) (disch := omega) only [rr, aop, cV, cV1, AV.one, Qb, okW, Qd, app, Qa, Qc, Qe, Qf, Qg, simprocAttr, Xj]
  · simp (maxSteps := 4000000) (disch := omega) only [rr, aop, cV, cV1, AV.one, Qb, okW, Qd, app, Qa, Qc, Qe, Qf, Qg, simprocAttr, Xj]
  · simp (maxSteps := 4000000) (disch := omega) only [rr, aop, cV, cV1, AV.one, Qb, okW, Qd, app, Qa, Qc, Qe, Qf, Qg, simprocAttr, Xj]
  · exact absurd h hx

theorem Qvo {x : Int} (h : -2147483648 ≤ x ∧ x ≤ 2147483647) : Qm true .i64 x 4 = some (.int .i64 (x * 16)) := by
  show some (AV.int .i64 (IntKind.i64.wrap (x * 16))) = _
  rw [QaW (by omega) (by omega)]
theorem Qvn {x : Int} (h : -2147483648 ≤ x ∧ x ≤ 2147483647) : Qm true .i64 x 5 = some (.int .i64 (x * 32)) := by
  show some (AV.int .i64 (IntKind.i64.wrap (x * 32))) = _
  rw [QaW (by omega) (by omega)]
theorem Qvk (x : Int) : Qm false .i64 x 4 = some (.int .i64 (x / 16)) := by
  show some (AV.int .i64 (x.fdiv 16)) = _
  rw [Int.fdiv_eq_ediv_of_nonneg _ (by omega)]
theorem Qvj (x : Int) : Qm false .i64 x 5 = some (.int .i64 (x / 32)) := by
  show some (AV.int .i64 (x.fdiv 32)) = _
  rw [Int.fdiv_eq_ediv_of_nonneg _ (by omega)]

def Qi6 (P : Prg) (f : Nat) : Prop := ∀ (b l : Int), -2147483648 ≤ l ∧ l ≤ 2147483647 → VC P f [.int .i64 (if b = 8 then 4 else 5), .int .i32 l] (.int .i32 (QcK b l))
theorem QlY {P : Prg} {f : Nat} (b : Ql P f 16 [.tmp 4] Jd) : Qi6 P f := by
  intro x l hl
  refine VC.of_acall rfl rfl (ACall.of_body b (by simp) ?_)
  have e1 : l * 16 - l = 15 * l := by omega
  have e2 : l * 32 - l = 31 * l := by omega
  have a := Qvo hl
  have c := Qvn hl
  by_cases h : x = 8
  · simp (maxSteps := 4000000) (disch := omega) only [rr, aop, cV, cV1, AV.one, Qb, okW, Qd, app, Qa, Qc, Qe, Qf, Qg, simprocAttr, Jd, h, QcK, a, Qvk, e1]
  · simp (maxSteps := 4000000) (disch := omega) only [rr, aop, cV, cV1, AV.one, Qb, okW, Qd, app, Qa, Qc, Qe, Qf, Qg, simprocAttr, Jd, if_neg h, QcK, c, Qvj, e2]

def Qfj (P : Prg) (f : Nat) : Prop := ∀ (b l : Int), JB b ≠ 0 → -2147483648 ≤ l ∧ l ≤ 2147483647 → VC P f [.int .i64 b, .int .i32 l] (.tup [.int .i32 (QcK b l), .int .i64 0])
theorem Ql0 {P : Prg} {f fS fg : Nat} (b : Ql P f 19 [.tmp 4, .tmp 5] (Qaz fS fg)) (hS : Qi7 P fS) (hg : Qi6 P fg) : Qfj P f := by
  intro x l hx hl
  refine VC.of_acall rfl rfl (ACall.of_body b (by simp) ?_)
  simp (maxSteps := 4000000) (disch := omega) only [rr, aop, cV, cV1, AV.one, Qb, okW, Qd, app, Qa, Qc, Qe, Qf, Qg, simprocAttr, Qaz]
  refine Qh.vc (hS x hx) ?_
  simp (maxSteps := 4000000) (disch := omega) only [rr, aop, cV, cV1, AV.one, Qb, okW, Qd, app, Qa, Qc, Qe, Qf, Qg, simprocAttr]
  refine Qh.vc (hg x l hl) ?_
  simp (maxSteps := 4000000) (disch := omega) only [rr, aop, cV, cV1, AV.one, Qb, okW, Qd, app, Qa, Qc, Qe, Qf, Qg, simprocAttr]
/-! ### chain -/

structure ZK where
  bits : Int
  last : Int
  fl : Jg

def QX (c : ZK) : List AV := .int .i64 c.bits :: .int .i32 c.last :: Qp c.fl
def Qnu (c : ZK) : Prop := JB c.bits ≠ 0 ∧ c.fl.sh = Qa2 c.bits ∧ QbG c.fl ∧ (-2147483648 ≤ c.last ∧ c.last ≤ 2147483647)
def QaV : ZK := ⟨0, 0, Qjf⟩

theorem Zs {c : ZK} (h : QbG c.fl) : (QX c).length = 35 := by simp [QX, QY h]
theorem Z3 (c : ZK) : (QX c).all AV.one = true := by simp [QX, AV.one, Q1]
theorem QaL (c : ZK) : isDL (QX c) = true := by simp [QX, isDL, isD, Zf]
theorem Qnh (b : Int) : Qa2 b = 9 ∨ Qa2 b = 10 := by unfold Qa2; split <;> simp
theorem Qq3 {b : Int} {t : List Int} (h1 : t.length = 16) (h2 : I32 t) : QbG (Qh9 b t) := ⟨h1, by simp [Qh9, z16], h2, fun x hx => by simp [Qh9, z16] at hx; omega⟩
theorem Qcd : QX QaV = [.int .i64 0, .int .i32 0, .int .i64 0, .int .i32 0, .int .i32 0, .int .i32 0, .int .i32 0, .int .i32 0, .int .i32 0, .int .i32 0, .int .i32 0, .int .i32 0, .int .i32 0, .int .i32 0, .int .i32 0, .int .i32 0, .int .i32 0, .int .i32 0, .int .i32 0, .int .i32 0, .int .i32 0, .int .i32 0, .int .i32 0, .int .i32 0, .int .i32 0, .int .i32 0, .int .i32 0, .int .i32 0, .int .i32 0, .int .i32 0, .int .i32 0, .int .i32 0, .int .i32 0, .int .i32 0, .int .i32 0] := rfl

def JA (b : Int) (t : List Int) : ZK := ⟨b, 0, Qh9 b t⟩
def Qmj (b : Int) (t : List Int) : AV := if JB b = 0 then .tup [.agg (QX QaV), .int .i64 2] else .tup [.agg (QX (JA b t)), .int .i64 0]
def Qoc (P : Prg) (f : Nat) : Prop := ∀ (b : Int) (t : List Int), t.length = 16 → I32 t → VC P f [.int .i64 b, .agg (ks .i32 t)] (Qmj b t)
theorem QtZ (b : Int) (t : List Int) : isD (Qmj b t) = true := by unfold Qmj; split <;> simp [isD, isDL, QaL]

theorem Qr1 {P : Prg} {f fT t0 t1 t2 : Nat} (b : Ql P f 21 [.cell 4 t1, .tmp 5] (Qb9 fT t0 t1 t2)) (ht : ZD P t1 = some (some 35)) (hT : Qn9 P fT) : Qoc P f := by
  intro x t hl hI
  have hk : (ks .i32 t).length = 16 := by simp [Qk, hl]
  have h1 := ZP .i32 t
  have tk16 : (ks .i32 t).take 16 = ks .i32 t := Qs (by omega)
  have hok : QbG (Qh9 x t) := Qq3 hl hI
  have l1 := QY hok
  have t1' : (Qp (Qh9 x t)).take 33 = Qp (Qh9 x t) := Qs (by omega)
  have o1 := Q1 (Qh9 x t)
  have lc := Zs (c := JA x t) hok
  have tc : (QX (JA x t)).take 35 = QX (JA x t) := Qs (by omega)
  have oc := Z3 (JA x t)
  have mk : AV.int .i64 x :: .int .i32 0 :: Qp (Qh9 x t) = QX (JA x t) := rfl
  refine VC.of_acall (by simp [isDL, isD, QK]) (QtZ _ _) (ACall.of_body b (by simp) ?_)
  simp (maxSteps := 4000000) (disch := omega) only [rr, aop, cV, cV1, AV.one, Qb, okW, Qd, app, Qa, Qc, Qe, Qf, Qg, simprocAttr, Qb9, hk, h1, tk16]
  refine Qh.vc (hT x t hl) ?_
  by_cases h0 : JB x = 0
  · simp (maxSteps := 4000000) (disch := omega) only [rr, aop, cV, cV1, AV.one, Qb, okW, Qd, app, Qa, Qc, Qe, Qf, Qg, simprocAttr, QgE, h0, Qmj, QaU, Qcd, ZG, ht]
  · simp (maxSteps := 4000000) (disch := omega) only [rr, aop, cV, cV1, AV.one, Qb, okW, Qd, app, Qa, Qc, Qe, Qf, Qg, simprocAttr, QgE, if_neg h0, Qmj, l1, t1', o1, lc, tc, oc, mk, Qcd, ZG, ht]

theorem Qr0 {c : ZK} (h : QbG c.fl) : ((QX c).drop 2).take 33 = Qp c.fl := by
  simp only [QX, List.drop_succ_cons, List.drop_zero]
  exact Qs (by rw [QY h]; omega)
theorem QrZ {c : ZK} (h : QbG c.fl) : ((QX c).drop 3).take 16 = ks .i32 c.fl.tp := Qkg h

def Qfm (P : Prg) (f : Nat) : Prop := ∀ c : ZK, Qnu c → VC P f [.agg (QX c)] (.int .i64 0)
theorem Qmm {P : Prg} {f fT t0 t1 : Nat} (b : Ql P f 24 [.tmp 2] (QaD fT t0 t1)) (hT : Qn9 P fT) : Qfm P f := by
  intro c ⟨h1, h2, h3, h4⟩
  have lc := Zs h3
  have oc := Z3 c
  have e0 : (QX c).drop 0 = .int .i64 c.bits :: .int .i32 c.last :: Qp c.fl := rfl
  have e2 : (QX c).drop 2 = .int .i64 c.fl.sh :: (ks .i32 c.fl.tp ++ ks .i32 c.fl.ps) := rfl
  have et := QrZ h3
  have hk : (ks .i32 c.fl.tp).length = 16 := by simp [Qk, h3.1]
  have hok : QbG (Qh9 c.bits c.fl.tp) := Qq3 h3.1 h3.2.2.1
  have l1 := QY hok
  have t1' : (Qp (Qh9 c.bits c.fl.tp)).take 33 = Qp (Qh9 c.bits c.fl.tp) := Qs (by omega)
  have o1 := Q1 (Qh9 c.bits c.fl.tp)
  have en : (Qp (Qh9 c.bits c.fl.tp)).drop 0 = .int .i64 (Qa2 c.bits) :: (ks .i32 c.fl.tp ++ ks .i32 z16) := rfl
  have dn : (Qp (Qh9 c.bits c.fl.tp)).drop 33 = [] := List.drop_eq_nil_of_le (by omega)
  refine VC.of_acall (by simp [isDL, isD, QaL]) rfl (ACall.of_body b (by simp) ?_)
  simp (maxSteps := 4000000) (disch := omega) only [rr, aop, cV, cV1, AV.one, Qb, okW, Qd, app, Qa, Qc, Qe, Qf, Qg, simprocAttr, QaD, lc, oc, ↓e0, et]
  refine Qh.vc (hT c.bits c.fl.tp h3.1) ?_
  simp (maxSteps := 4000000) (disch := omega) only [rr, aop, cV, cV1, AV.one, Qb, okW, Qd, app, Qa, Qc, Qe, Qf, Qg, simprocAttr, QgE, if_neg h1, l1, t1', o1, ↓en, ↓e2, h2, dn]

def Qr2 (c : ZK) (x : Int) : Int := w32 (x - QcK c.bits c.last)
def QdD (c : ZK) (x : Int) : Int := QpK c.fl (Qr2 c x)
def QaP (c : ZK) (x : Int) : ZK := ⟨c.bits, x, QwR c.fl (Qr2 c x)⟩
theorem QlN {c : ZK} (h : Qnu c) {x : Int} (hx : -2147483648 ≤ x ∧ x ≤ 2147483647) : Qnu (QaP c x) := ⟨h.1, h.2.1, QbW h.2.2.1 (XT _) _, hx⟩

def Qen (P : Prg) (f : Nat) : Prop := ∀ (c : ZK) (x : Int), Qnu c → -2147483648 ≤ x ∧ x ≤ 2147483647 → VC P f [.agg (QX c), .int .i32 x] (.tup [.int .i32 (QdD c x), .agg (QX (QaP c x)), .int .i64 0])

theorem Qiw {P : Prg} {f fC fG fF t0 t1 : Nat} (b : Ql P f 44 [.tmp 4, .cell 5 t0, .tmp 6] (Jz fC fG fF t0 t1)) (ht : ZD P t0 = some (some 35)) (hC : Qfm P fC) (hG : Qfj P fG) (hF : Qel P fF) : Qen P f := by
  intro c x hc hx
  obtain ⟨h1, h2, h3, h4⟩ := id hc
  have hs : c.fl.sh = 9 ∨ c.fl.sh = 10 := by rw [h2]; exact Qnh _
  have lc := Zs h3
  have tc : (QX c).take 35 = QX c := Qs (by omega)
  have oc := Z3 c
  have e0 : (QX c).drop 0 = .int .i64 c.bits :: .int .i32 c.last :: Qp c.fl := rfl
  have e1 : (QX c).drop 1 = .int .i32 c.last :: Qp c.fl := rfl
  have e2 := Qr0 h3
  have hzr := XT (x - QcK c.bits c.last)
  have hok := QlN hc hx
  have l1 := QY hok.2.2.1
  have t1' : (Qp (QaP c x).fl).take 33 = Qp (QaP c x).fl := Qs (by omega)
  have o1 := Q1 (QaP c x).fl
  have d1 : (Qp (QaP c x).fl).drop 33 = [] := List.drop_eq_nil_of_le (by omega)
  have l2 := Zs hok.2.2.1
  have t2 : (QX (QaP c x)).take 35 = QX (QaP c x) := Qs (by omega)
  have o2 := Z3 (QaP c x)
  have mk : AV.int .i64 c.bits :: .int .i32 x :: Qp (QaP c x).fl = QX (QaP c x) := rfl
  have hfe : QwR c.fl (w32 (x - QcK c.bits c.last)) = (QaP c x).fl := rfl
  have hye : QpK c.fl (w32 (x - QcK c.bits c.last)) = QdD c x := rfl
  refine VC.of_acall (by simp [isDL, isD, QaL]) (by simp [isD, isDL, QaL]) (ACall.of_body b (by simp) ?_)
  simp (maxSteps := 4000000) (disch := omega) only [rr, aop, cV, cV1, AV.one, Qb, okW, Qd, app, Qa, Qc, Qe, Qf, Qg, simprocAttr, Jz, lc, tc, oc]
  refine Qh.vc (hC c hc) ?_
  simp (maxSteps := 4000000) (disch := omega) only [rr, aop, cV, cV1, AV.one, Qb, okW, Qd, app, Qa, Qc, Qe, Qf, Qg, simprocAttr, lc, tc, oc, ↓e0, ↓e1]
  refine Qh.vc (hG c.bits c.last h1 h4) ?_
  simp (maxSteps := 4000000) (disch := omega) only [rr, aop, cV, cV1, AV.one, Qb, okW, Qd, app, Qa, Qc, Qe, Qf, Qg, simprocAttr, lc, tc, oc, e2, Xn]
  refine Qh.vc (hF c.fl _ h3 hs hzr) ?_
  rw [hfe, hye]
  simp (maxSteps := 4000000) (disch := omega) only [rr, aop, cV, cV1, AV.one, Qb, okW, Qd, app, Qa, Qc, Qe, Qf, Qg, simprocAttr, lc, tc, oc, ↓e0, l1, t1', o1, d1, l2, t2, o2, mk, ZG, ht, Qcd]
end Go.Am

namespace Go.Am
open Go.RowKit

/-! ### chain.Back -/

def Qix (c : ZK) (y : Int) : Int := w32 (Qpu c.fl y + QcK c.bits c.last)
def QaQ (c : ZK) (y : Int) : ZK := ⟨c.bits, Qix c y, Qxe c.fl y⟩
theorem QlO {c : ZK} (h : Qnu c) (y : Int) : Qnu (QaQ c y) := ⟨h.1, h.2.1, QbW h.2.2.1 (XT _) _, XT _⟩

def Qm0 (P : Prg) (f : Nat) : Prop := ∀ (c : ZK) (y : Int), Qnu c → VC P f [.agg (QX c), .int .i32 y] (.tup [.int .i32 (Qix c y), .agg (QX (QaQ c y)), .int .i64 0])

theorem Qpn {P : Prg} {f fC fG fF t0 t1 : Nat} (b : Ql P f 46 [.tmp 4, .cell 5 t0, .tmp 6] (Qbr fC fG fF t0 t1)) (ht : ZD P t0 = some (some 35)) (hC : Qfm P fC) (hG : Qfj P fG) (hF : QmW P fF) : Qm0 P f := by
  intro c x hc
  obtain ⟨h1, h2, h3, h4⟩ := id hc
  have hs : c.fl.sh = 9 ∨ c.fl.sh = 10 := by rw [h2]; exact Qnh _
  have lc := Zs h3
  have tc : (QX c).take 35 = QX c := Qs (by omega)
  have oc := Z3 c
  have e0 : (QX c).drop 0 = .int .i64 c.bits :: .int .i32 c.last :: Qp c.fl := rfl
  have e1 : (QX c).drop 1 = .int .i32 c.last :: Qp c.fl := rfl
  have e2 := Qr0 h3
  have hok := QlO hc x
  have l1 := QY hok.2.2.1
  have t1' : (Qp (QaQ c x).fl).take 33 = Qp (QaQ c x).fl := Qs (by omega)
  have o1 := Q1 (QaQ c x).fl
  have d1 : (Qp (QaQ c x).fl).drop 33 = [] := List.drop_eq_nil_of_le (by omega)
  have l2 := Zs hok.2.2.1
  have t2 : (QX (QaQ c x)).take 35 = QX (QaQ c x) := Qs (by omega)
  have o2 := Z3 (QaQ c x)
  have mk : AV.int .i64 c.bits :: .int .i32 (Qix c x) :: Qp (QaQ c x).fl = QX (QaQ c x) := rfl
  have hfe : Qxe c.fl x = (QaQ c x).fl := rfl
  have hye : w32 (Qpu c.fl x + QcK c.bits c.last) = Qix c x := rfl
  refine VC.of_acall (by simp [isDL, isD, QaL]) (by simp [isD, isDL, QaL]) (ACall.of_body b (by simp) ?_)
  simp (maxSteps := 4000000) (disch := omega) only [rr, aop, cV, cV1, AV.one, Qb, okW, Qd, app, Qa, Qc, Qe, Qf, Qg, simprocAttr, Qbr, lc, tc, oc]
  refine Qh.vc (hC c hc) ?_
  simp (maxSteps := 4000000) (disch := omega) only [rr, aop, cV, cV1, AV.one, Qb, okW, Qd, app, Qa, Qc, Qe, Qf, Qg, simprocAttr, lc, tc, oc, ↓e0, ↓e1]
  refine Qh.vc (hG c.bits c.last h1 h4) ?_
  simp (maxSteps := 4000000) (disch := omega) only [rr, aop, cV, cV1, AV.one, Qb, okW, Qd, app, Qa, Qc, Qe, Qf, Qg, simprocAttr, lc, tc, oc, e2, Xn]
  refine Qh.vc (hF c.fl x h3 hs) ?_
  rw [hfe]
  simp (maxSteps := 4000000) (disch := omega) only [rr, aop, cV, cV1, AV.one, Qb, okW, Qd, app, Qa, Qc, Qe, Qf, Qg, simprocAttr, lc, tc, oc, ↓e0, l1, t1', o1, d1, l2, t2, o2, mk, ZG, ht, Qcd, Xn, hye]

/-! ### The references -/

theorem Qp8 {x : Int} (h : x < 0) (n : Int) : x.tdiv n = -(-x / n) ∧ x.tmod n = -(-x % n) := by
  have e : x = -(-x) := by omega
  constructor
  · rw [e, Int.neg_tdiv, Int.tdiv_eq_ediv_of_nonneg (by omega)]; simp
  · rw [e, Int.neg_tmod, Int.tmod_eq_emod_of_nonneg (by omega)]; simp

def QxH (x : Jg) (k : Nat) : List Int := (List.range 16).map fun j => if k < j then x.ps.getD (j - 1) 0 else x.ps.getD j 0
def pf (x : Jg) (k : Nat) : Jg := { x with ps := QxH x k }
end Go.Am

namespace Go.Am
open Go.RowKit

/-! ### New -/


/-! ### fold -/

def QgK (x : Int) : Int := if x < 0 then -2 * x - 1 else 2 * x
def QsF (P : Prg) (f : Nat) : Prop := ∀ x : Int, -2147483648 ≤ x ∧ x ≤ 2147483647 → VC P f [.int .i32 x] (.int .u32 (QgK x))
theorem Qrz {x : Int} (h : -2147483648 ≤ x ∧ x ≤ 2147483647) : 0 ≤ QgK x ∧ QgK x < 4294967296 := by unfold QgK; split <;> omega

theorem Qm6 {a : Nat} (h : a < 4294967296) : (BitVec.ofInt 32 (a : Int) ^^^ BitVec.ofInt 32 4294967295).toNat = 4294967295 - a := by
  have e : BitVec.ofInt 32 4294967295 = BitVec.allOnes 32 := by decide
  rw [e, BitVec.xor_allOnes, BitVec.toNat_not]
  have : (BitVec.ofInt 32 (a : Int)).toNat = a := by simp; omega
  rw [this]
theorem Qjg {a : Nat} (h : a < 4294967296) : (BitVec.ofInt 32 (a : Int) ^^^ BitVec.ofInt 32 0).toNat = a := by
  have : (BitVec.ofInt 32 (a : Int)).toNat = a := by simp; omega
  rw [BitVec.toNat_xor, this]
  simp

theorem Qrx {P : Prg} {f : Nat} (b : Ql P f 10 [.tmp 2] Qaj) : QsF P f := by
  intro x hx
  refine VC.of_acall rfl rfl (ACall.of_body b (by simp) ?_)
  by_cases h : x < 0
  · have a1 : IntKind.u32.wrap x = x + 4294967296 := by rw [Jh]; omega
    have a2 : Qm true .u32 (x + 4294967296) 1 = some (.int .u32 (2 * x + 4294967296)) := by
      show some (AV.int .u32 (IntKind.u32.wrap ((x + 4294967296) * 2))) = _
      rw [Jh]; congr 2; omega
    have a3 : Qm false .i32 x 31 = some (.int .i32 (-1)) := by
      show some (AV.int .i32 (x.fdiv 2147483648)) = _
      rw [Int.fdiv_eq_ediv_of_nonneg _ (by omega)]; congr 2; omega
    have a4 : IntKind.u32.wrap (-1) = 4294967295 := rfl
    have a5 : (BitVec.ofInt IntKind.u32.bits (2 * x + 4294967296) ^^^ BitVec.ofInt IntKind.u32.bits 4294967295).toNat = (-2 * x - 1).toNat := by
      show (BitVec.ofInt 32 (2 * x + 4294967296) ^^^ BitVec.ofInt 32 4294967295).toNat = (-2 * x - 1).toNat
      have := Qm6 (a := (2 * x + 4294967296).toNat) (by omega)
      rw [show (((2 * x + 4294967296).toNat : Nat) : Int) = 2 * x + 4294967296 by omega] at this
      rw [this]; omega
    have a6 : (((BitVec.ofInt IntKind.u32.bits (2 * x + 4294967296) ^^^ BitVec.ofInt IntKind.u32.bits 4294967295).toNat : Nat) : Int) = -2 * x - 1 := by rw [a5]; omega
    simp (maxSteps := 4000000) (disch := omega) only [rr, aop, cV, cV1, AV.one, Qb, okW, Qd, app, Qa, Qc, Qe, Qf, Qg, simprocAttr, Qaj, a1, a2, a3, a4, a6, QgK]
  · have a2 : Qm true .u32 x 1 = some (.int .u32 (2 * x)) := by
      show some (AV.int .u32 (IntKind.u32.wrap (x * 2))) = _
      rw [Jh]; congr 2; omega
    have a3 : Qm false .i32 x 31 = some (.int .i32 0) := by
      show some (AV.int .i32 (x.fdiv 2147483648)) = _
      rw [Int.fdiv_eq_ediv_of_nonneg _ (by omega)]; congr 2; omega
    have a5 : (BitVec.ofInt IntKind.u32.bits (2 * x) ^^^ BitVec.ofInt IntKind.u32.bits 0).toNat = (2 * x).toNat := by
      show (BitVec.ofInt 32 (2 * x) ^^^ BitVec.ofInt 32 0).toNat = (2 * x).toNat
      have := Qjg (a := (2 * x).toNat) (by omega)
      rwa [show (((2 * x).toNat : Nat) : Int) = 2 * x by omega] at this
    have a6 : (((BitVec.ofInt IntKind.u32.bits (2 * x) ^^^ BitVec.ofInt IntKind.u32.bits 0).toNat : Nat) : Int) = 2 * x := by rw [a5]; omega
    simp (maxSteps := 4000000) (disch := omega) only [rr, aop, cV, cV1, AV.one, Qb, okW, Qd, app, Qa, Qc, Qe, Qf, Qg, simprocAttr, Qaj, a2, a3, a6, QgK]

def Xi (n : Int) : Int := if n % 2 = 0 then n / 2 else -(n / 2) - 1
def QmQ (P : Prg) (f : Nat) : Prop := ∀ n : Int, 0 ≤ n ∧ n < 4294967296 → VC P f [.int .u32 n] (.int .i32 (Xi n))
theorem Qwd {a : Nat} (h : a < 4294967296) : (BitVec.ofInt 32 (a : Int) &&& BitVec.ofInt 32 1).toNat = a % 2 := by
  have : (BitVec.ofInt 32 (a : Int)).toNat = a := by simp; omega
  rw [BitVec.toNat_and, this]
  exact Nat.and_one_is_mod a

theorem Qry {P : Prg} {f : Nat} (b : Ql P f 11 [.tmp 2] Qak) : QmQ P f := by
  intro n hn
  refine VC.of_acall rfl rfl (ACall.of_body b (by simp) ?_)
  have a1 : Qm false .u32 n 1 = some (.int .u32 (n / 2)) := by
    show some (AV.int .u32 (n.fdiv 2)) = _
    rw [Int.fdiv_eq_ediv_of_nonneg _ (by omega)]
  have a2 : (((BitVec.ofInt IntKind.u32.bits n &&& BitVec.ofInt IntKind.u32.bits 1).toNat : Nat) : Int) = n % 2 := by
    show (((BitVec.ofInt 32 n &&& BitVec.ofInt 32 1).toNat : Nat) : Int) = n % 2
    have := Qwd (a := n.toNat) (by omega)
    rw [show ((n.toNat : Nat) : Int) = n by omega] at this
    rw [this]; omega
  by_cases h : n % 2 = 0
  · have a3 : (((BitVec.ofInt IntKind.i32.bits (n / 2) ^^^ BitVec.ofInt IntKind.i32.bits 0).toNat : Nat) : Int) = n / 2 := by
      show (((BitVec.ofInt 32 (n / 2) ^^^ BitVec.ofInt 32 0).toNat : Nat) : Int) = n / 2
      have := Qjg (a := (n / 2).toNat) (by omega)
      rw [show (((n / 2).toNat : Nat) : Int) = n / 2 by omega] at this
      rw [this]; omega
    simp (maxSteps := 4000000) (disch := omega) only [rr, aop, cV, cV1, AV.one, Qb, okW, Qd, app, Qa, Qc, Qe, Qf, Qg, simprocAttr, Qak, a1, a2, h, a3, Xi]
  · have h1 : n % 2 = 1 := by omega
    have a3 : (((BitVec.ofInt IntKind.i32.bits (n / 2) ^^^ BitVec.ofInt IntKind.i32.bits (-1)).toNat : Nat) : Int) = 4294967295 - n / 2 := by
      show (((BitVec.ofInt 32 (n / 2) ^^^ BitVec.ofInt 32 (-1)).toNat : Nat) : Int) = 4294967295 - n / 2
      have := Qm6 (a := (n / 2).toNat) (by omega)
      rw [show (((n / 2).toNat : Nat) : Int) = n / 2 by omega] at this
      rw [show BitVec.ofInt 32 (-1) = BitVec.ofInt 32 4294967295 by decide, this]; omega
    have a4 : IntKind.i32.wrap (4294967295 - n / 2) = -(n / 2) - 1 := by rw [Xn, Qg9]; omega
    simp (maxSteps := 4000000) (disch := omega) only [rr, aop, cV, cV1, AV.one, Qb, okW, Qd, app, Qa, Qc, Qe, Qf, Qg, simprocAttr, Qak, a1, a2, h1, a3, a4, Xi]

end Go.Am

namespace Go.Am
open Go.RowKit

theorem QnD {K : IntKind} {l : List Int} {i : Nat} (h : i < l.length) (v : Int) : (ks K l).take i ++ [.int K v] ++ (ks K l).drop (i + 1) = ks K (l.set i v) := by
  rw [List.set_eq_take_append_cons_drop, if_pos h]
  simp [ks]
theorem QbY {K : IntKind} {l : List Int} {i : Nat} (h : i < l.length) : (ks K l).drop i = .int K (l.getD i 0) :: ks K (l.drop (i + 1)) := by
  rw [Qbb h]; simp [List.getD_eq_getElem?_getD, List.getElem?_eq_getElem h]

theorem QvL {α : Type} (l : List α) (x : α) : (l ++ [x])[l.length]? = some x := by simp
theorem Qvr {α : Type} (l : List α) (x y : α) : (l ++ [x]).set l.length y = l ++ [y] := by simp

/-! ### slices.Clone of numbers -/

def Qfl (t : Nat) (P : Prg) (f : Nat) : Prop := ∀ (l : List Int) (ob : List Ob) (K : AV → List Ob → Prop), 0 < l.length → l.length ≤ 1000000 → K (.own ob.length l.length) (ob ++ [⟨t, 1, l.length, ks .i32 l, 0⟩]) → ACall P f [il l] ob K

theorem QrX {P : Prg} {f t0 : Nat} (b : Ql P f 8 [.tmp 2] (Qz t0)) : Qfl t0 P f := by
  intro l ob K h0 h1 hK
  refine ACall.of_body b (by simp) ?_
  have g1 := fun x : Ob => QvL ob x
  have g2 := fun x y : Ob => Qvr ob x y
  have n0 : l.length ≠ 0 := by omega
  simp (maxSteps := 4000000) (disch := omega) only [rr, aop, cV, cV1, AV.one, Qb, okW, Qd, app, Qa, Qc, Qe, Qf, Qg, simprocAttr, Qz, il, Qk2, n0, g1, g2, QnE]
  exact hK

/-! ### mix.mix: in its place -/

def Qgv (L : List Int) (k i : Nat) : List Int := (List.range L.length).map fun j => if k ≤ j ∧ j < k + i then w32 (L.getD (j + 1) 0 - L.getD j 0) else L.getD j 0
def QfK (L : List Int) (k n : Nat) : List Int := if n = 1 then L else (Qgv L k (n - 1)).set (k + (n - 1)) (w32 (L.getD (k + (n - 1)) 0 - (w32 (L.getD (k + (n - 1)) 0 - L.getD (k + (n - 2)) 0)).tdiv 2))

theorem Z1 {a b : List Int} (h : a.length = b.length) (h2 : ∀ j, j < a.length → a.getD j 0 = b.getD j 0) : a = b := by
  apply List.ext_getElem h
  intro i h1 h3
  have := h2 i h1
  simpa [List.getD_eq_getElem?_getD, List.getElem?_eq_getElem h1, List.getElem?_eq_getElem h3] using this
theorem Qa3 (L : List Int) (k i : Nat) : (Qgv L k i).length = L.length := by simp [Qgv]
theorem QA {g : Nat → Int} {n j : Nat} (h : j < n) : ((List.range n).map g).getD j 0 = g j := by
  simp [List.getD_eq_getElem?_getD, h]
theorem Qe4 {l : List Int} {i j : Nat} {v : Int} (h : j < l.length) : (l.set i v).getD j 0 = if i = j then v else l.getD j 0 := by
  simp only [List.getD_eq_getElem?_getD, List.getElem?_set]
  split
  · subst_vars; simp [h]
  · rfl
theorem QwD (L : List Int) (k : Nat) : Qgv L k 0 = L := Z1 (Qa3 _ _ _) fun j hj => by
  rw [Qa3] at hj
  rw [Qgv, QA hj, if_neg (by omega)]
theorem Qqw {L : List Int} {k i j : Nat} (h : j < L.length) (h2 : k + i ≤ j) : (Qgv L k i).getD j 0 = L.getD j 0 := by
  rw [Qgv, QA h, if_neg (by omega)]
theorem Qtc {L : List Int} {k i : Nat} (h : k + i < L.length) : (Qgv L k i).set (k + i) (w32 (L.getD (k + i + 1) 0 - L.getD (k + i) 0)) = Qgv L k (i + 1) := Z1 (by simp [Qa3]) fun j hj => by
  have hj' : j < L.length := by simpa [Qa3] using hj
  rw [Qe4 (by rw [Qa3]; exact hj'), Qgv, Qgv, QA hj', QA hj']
  by_cases e : k + i = j
  · subst e; rw [if_pos rfl, if_pos (by omega)]
  · rw [if_neg e]
    by_cases q : k ≤ j ∧ j < k + i
    · rw [if_pos q, if_pos (by omega)]
    · rw [if_neg q, if_neg (by omega)]

def Qwi (P : Prg) (f : Nat) : Prop := ∀ (t : Nat) (L : List Int) (k n : Nat) (K : AV → List Ob → Prop), I32 L → 1 ≤ n → k + n ≤ L.length → L.length ≤ 1000000 →
  K (.tup []) [⟨t, 1, L.length, ks .i32 (QfK L k n), 0⟩] → ACall P f [.view 0 L.length k n] [⟨t, 1, L.length, ks .i32 L, 0⟩] K

theorem QjJ {x : Int} (h : -2147483648 ≤ x ∧ x ≤ 2147483647) : -2147483648 ≤ x.tdiv 2 ∧ x.tdiv 2 ≤ 2147483647 := by
  by_cases hx : x < 0
  · rw [(Qp8 hx 2).1]; omega
  · rw [Int.tdiv_eq_ediv_of_nonneg (by omega)]; omega

theorem QvB {P : Prg} {f : Nat} (b : Ql P f 39 [] Qei) : Qwi P f := by
  intro t L k n K hL h1 h2 h3 hK
  refine ACall.of_body b (by simp) ?_
  simp (maxSteps := 4000000) (disch := omega) only [rr, aop, cV, cV1, AV.one, Qb, okW, Qd, app, Qa, Qc, Qe, Qf, Qg, simprocAttr, Qei]
  refine QN.by (ι := Nat) (fun i => ⟨[(8, .int .i64 i), (7, .int .i64 ((n : Int) - 1)), (2, .int .i64 ((n : Int) - 1)), (0, .view 0 L.length k n)], [⟨t, 1, L.length, ks .i32 (Qgv L k i), 0⟩]⟩) (fun i => i ≤ n - 1) (fun i => n - 1 - i) 0 (by rw [QwD]; exact Le.slots (by simp [Am.look])) (by omega) ?_
  intro i hi
  have ls := Qa3 L k i
  by_cases hlt : i < n - 1
  · have e1 := QbY (K := .i32) (l := Qgv L k i) (i := k + i) (by omega)
    have e2 := QbY (K := .i32) (l := Qgv L k i) (i := k + (i + 1)) (by omega)
    have e3 := fun v => QnD (K := .i32) (l := Qgv L k i) (i := k + i) (by omega) v
    have a1 := Qqw (L := L) (k := k) (i := i) (j := k + i) (by omega) (by omega)
    have a2 := Qqw (L := L) (k := k) (i := i) (j := k + (i + 1)) (by omega) (by omega)
    have a3 := Qtc (L := L) (k := k) (i := i) (by omega)
    rw [show k + i + 1 = k + (i + 1) by omega] at a3
    rw [a1] at e1
    rw [a2] at e2
    simp (maxSteps := 4000000) (disch := omega) only [rr, aop, cV, cV1, AV.one, Qb, okW, Qd, app, Qa, Qc, Qe, Qf, Qg, simprocAttr, e1, e2, e3, Xn, a3, ls]
    exact ⟨i + 1, by omega, by omega, Le.slots (by simp [Am.look])⟩
  · have e : i = n - 1 := by omega
    subst e
    by_cases hn : n = 1
    · subst hn
      have e0 : QfK L k 1 = Qgv L k (1 - 1) := by simp [QfK, QwD]
      rw [e0] at hK
      simp (maxSteps := 4000000) (disch := omega) only [rr, aop, cV, cV1, AV.one, Qb, okW, Qd, app, Qa, Qc, Qe, Qf, Qg, simprocAttr]
      exact hK
    · have e1 := QbY (K := .i32) (l := Qgv L k (n - 1)) (i := k + (n - 1)) (by omega)
      have e2 := QbY (K := .i32) (l := Qgv L k (n - 1)) (i := k + (n - 2)) (by omega)
      have e3 := fun v => QnD (K := .i32) (l := Qgv L k (n - 1)) (i := k + (n - 1)) (by omega) v
      have a1 := Qqw (L := L) (k := k) (i := n - 1) (j := k + (n - 1)) (by omega) (by omega)
      have a2 : (Qgv L k (n - 1)).getD (k + (n - 2)) 0 = w32 (L.getD (k + (n - 1)) 0 - L.getD (k + (n - 2)) 0) := by
        rw [Qgv, QA (by omega), if_pos (by omega), show k + (n - 2) + 1 = k + (n - 1) by omega]
      rw [a1] at e1
      rw [a2] at e2
      have hr := QjJ (XT (L.getD (k + (n - 1)) 0 - L.getD (k + (n - 2)) 0))
      simp only [QfK, if_neg hn] at hK
      rw [show k + (n - 2) = k + (n - 1 - 1) by omega] at e2 hK hr
      simp (maxSteps := 4000000) (disch := omega) only [rr, aop, cV, cV1, AV.one, Qb, okW, Qd, app, Qa, Qc, Qe, Qf, Qg, simprocAttr, e1, e2, e3, Xn, ls]
      exact hK
end Go.Am

namespace Go.Am
open Go.RowKit

def QbX (c : Int) (n : Nat) : Int := if c < 1 ∨ 6 < c then 2 else if 4000 < n then 4 else if (n : Int) % c ≠ 0 then 2 else 0
def Qfh (P : Prg) (f : Nat) : Prop := ∀ (c : Int) (l : List Int), VC P f [.int .i64 c, il l] (.int .i64 (QbX c l.length))

theorem Qq9 {P : Prg} {f : Nat} (b : Ql P f 22 [.tmp 4] ZS) : Qfh P f := by
  intro c l
  refine VC.of_acall (by simp [isDL, isD, QS]) rfl (ACall.of_body b (by simp) ?_)
  by_cases h1 : c < 1
  · simp (maxSteps := 4000000) (disch := omega) only [rr, aop, cV, cV1, AV.one, Qb, okW, Qd, app, Qa, Qc, Qe, Qf, Qg, simprocAttr, ZS, il, QbX]
  by_cases h2 : 6 < c
  · simp (maxSteps := 4000000) (disch := omega) only [rr, aop, cV, cV1, AV.one, Qb, okW, Qd, app, Qa, Qc, Qe, Qf, Qg, simprocAttr, ZS, il, QbX]
  by_cases h3 : 4000 < l.length
  · simp (maxSteps := 4000000) (disch := omega) only [rr, aop, cV, cV1, AV.one, Qb, okW, Qd, app, Qa, Qc, Qe, Qf, Qg, simprocAttr, ZS, il, QbX]
  have hm := JY (n := l.length) (c := c) (by omega)
  by_cases h4 : (l.length : Int) % c = 0
  · simp (maxSteps := 4000000) (disch := omega) only [rr, aop, cV, cV1, AV.one, Qb, okW, Qd, app, Qa, Qc, Qe, Qf, Qg, simprocAttr, ZS, il, QbX, h4]
  · simp (maxSteps := 4000000) (disch := omega) only [rr, aop, cV, cV1, AV.one, Qb, okW, Qd, app, Qa, Qc, Qe, Qf, Qg, simprocAttr, ZS, il, QbX, h4]

def QoS (c : Nat) (l : List Int) (j : Nat) : Int :=
  if c = 1 then l.getD j 0
  else if j % c + 1 < c then w32 (l.getD (j + 1) 0 - l.getD j 0)
  else w32 (l.getD j 0 - (w32 (l.getD j 0 - l.getD (j - 1) 0)).tdiv 2)
def Qje (c : Nat) (l : List Int) (a : Nat) : List Int := (List.range l.length).map fun j => if j < a then QoS c l j else l.getD j 0
def Zw (c : Nat) (l : List Int) : List Int := (List.range l.length).map (QoS c l)

theorem JE (c : Nat) (l : List Int) (a : Nat) : (Qje c l a).length = l.length := by simp [Qje]
theorem QwK (c : Nat) (l : List Int) : Qje c l 0 = l := Z1 (JE _ _ _) fun j hj => by
  rw [JE] at hj; rw [Qje, QA hj, if_neg (by omega)]
theorem Qnx (c : Nat) (l : List Int) : Qje c l l.length = Zw c l := by
  simp only [Qje, Zw]
  apply List.map_congr_left
  intro j hj
  rw [if_pos (by simpa using hj)]
theorem Qty {c : Nat} {l : List Int} (h : I32 l) (j : Nat) : -2147483648 ≤ QoS c l j ∧ QoS c l j ≤ 2147483647 := by
  unfold QoS
  split
  · exact Zg h j
  · split <;> exact XT _
theorem Qof {c : Nat} {l : List Int} (h : I32 l) (a : Nat) : I32 (Qje c l a) := by
  intro v hv
  simp only [Qje, List.mem_map] at hv
  obtain ⟨j, _, rfl⟩ := hv
  split
  · exact Qty h j
  · exact Zg h j
theorem QhE {c : Nat} {l : List Int} (h : I32 l) : I32 (Zw c l) := by rw [← Qnx]; exact Qof h _
theorem JT (c : Nat) (l : List Int) : (Zw c l).length = l.length := by simp [Zw]

theorem QvA {c : Nat} {l : List Int} {m : Nat} (hc : 1 ≤ c) (h : c * m + c ≤ l.length) : QfK (Qje c l (c * m)) (c * m) c = Qje c l (c * m + c) := by
  have mod : ∀ j, c * m ≤ j → j < c * m + c → j % c = j - c * m := fun j h1 h2 => by
    rw [show j = c * m + (j - c * m) by omega, Nat.mul_add_mod]
    rw [Nat.mod_eq_of_lt (by omega)]; omega
  have at' : ∀ j, j < l.length → c * m ≤ j → (Qje c l (c * m)).getD j 0 = l.getD j 0 := fun j h1 h2 => by rw [Qje, QA h1, if_neg (by omega)]
  by_cases h1 : c = 1
  · subst h1
    simp only [QfK, if_true]
    refine Z1 (by simp [JE]) fun j hj => ?_
    rw [JE] at hj
    rw [Qje, Qje, QA hj, QA hj]
    by_cases q : j < 1 * m
    · rw [if_pos q, if_pos (by omega)]
    · rw [if_neg q]; split
      · simp [QoS]
      · rfl
  · simp only [QfK, if_neg h1]
    refine Z1 (by simp [Qa3, JE]) fun j hj => ?_
    have hj' : j < l.length := by simpa [Qa3, JE] using hj
    rw [Qe4 (by simpa [Qa3, JE] using hj')]
    rw [Qgv, JE, QA hj']
    conv => rhs; rw [Qje, QA hj']
    by_cases e : c * m + (c - 1) = j
    · rw [if_pos e, if_pos (by omega), at' _ (by omega) (by omega), at' _ (by omega) (by omega)]
      subst e
      have := mod (c * m + (c - 1)) (by omega) (by omega)
      unfold QoS
      rw [if_neg h1, if_neg (by rw [this]; omega), show c * m + (c - 1) - 1 = c * m + (c - 2) by omega]
    · rw [if_neg e]
      by_cases q : c * m ≤ j ∧ j < c * m + (c - 1)
      · rw [if_pos q, if_pos (by omega), at' _ (by omega) (by omega), at' _ (by omega) (by omega)]
        have := mod j (by omega) (by omega)
        unfold QoS
        rw [if_neg h1, if_pos (by rw [this]; omega)]
      · rw [if_neg q, Qje, QA hj']
        by_cases r : j < c * m
        · rw [if_pos r, if_pos (by omega)]
        · rw [if_neg r, if_neg (by omega)]

def okM (c : Nat) (l : List Int) : Prop := 1 ≤ c ∧ c ≤ 6 ∧ 0 < l.length ∧ l.length ≤ 4000 ∧ l.length % c = 0 ∧ I32 l
theorem Qj3 {c : Nat} {l : List Int} (h : okM c l) : QbX c l.length = 0 := by
  obtain ⟨h1, h2, h3, h4, h5, _⟩ := h
  unfold QbX
  rw [if_neg (by omega), if_neg (by omega), if_neg (by rw [← Int.natCast_emod, h5]; simp)]

def Qi5 (P : Prg) (f : Nat) : Prop := ∀ (c : Nat) (l : List Int), okM c l → VC P f [.int .i64 c, il l] (.tup [il (Zw c l), .int .i64 0])

theorem Qnw {c m q : Nat} (h : c * m < c * q) : c * m + c ≤ c * q := by
  have : m < q := Nat.lt_of_mul_lt_mul_left h
  have := Nat.mul_le_mul_left c (show m + 1 ≤ q by omega)
  rw [Nat.mul_add, Nat.mul_one] at this
  exact this

theorem QvC {P : Prg} {f fC fK fM t : Nat} (b : Ql P f 32 [.tmp 4, .tmp 5] (Qej fC fK fM)) (hC : Qfh P fC) (hK : Qfl t P fK) (hM : Qwi P fM) : Qi5 P f := by
  intro c l hok
  obtain ⟨h1, h2, h3, h4, h5, h6⟩ := id hok
  have hc := Qj3 hok
  obtain ⟨q, hq⟩ : ∃ q, l.length = c * q := ⟨l.length / c, by have := Nat.div_add_mod l.length c; omega⟩
  refine VC.of_walk 1 (by simp [isDL, isD, QS]) (by simp [isD, isDL, QS]) (ACall.of_body b (by simp) ?_)
  simp (maxSteps := 4000000) (disch := omega) only [rr, aop, cV, cV1, AV.one, Qb, okW, Qd, app, Qa, Qc, Qe, Qf, Qg, simprocAttr, Qej]
  refine Qh.vc (hC c l) ?_
  have n0 : l.length ≠ 0 := by omega
  simp (maxSteps := 4000000) (disch := omega) only [rr, aop, cV, cV1, AV.one, Qb, okW, Qd, app, Qa, Qc, Qe, Qf, Qg, simprocAttr, hc, n0]
  refine hK l [] _ h3 (by omega) ?_
  simp (maxSteps := 4000000) (disch := omega) only [rr, aop, cV, cV1, AV.one, Qb, okW, Qd, app, Qa, Qc, Qe, Qf, Qg, simprocAttr, n0]
  refine QN.by (ι := Nat) (fun m => ⟨[(8, .int .i64 (c * m : Nat)), (7, .own 0 l.length), (0, .int .i64 c)], [⟨t, 1, l.length, ks .i32 (Qje c l (c * m)), 0⟩]⟩) (fun m => m ≤ q) (fun m => q - m) 0 (by rw [Nat.mul_zero, QwK]; exact Le.slots (by simp [Am.look])) (by omega) ?_
  intro m hm
  by_cases hlt : c * m < l.length
  · have hs := Qnw (c := c) (m := m) (q := q) (by rw [← hq]; exact hlt)
    rw [← hq] at hs
    have hmq : m < q := Nat.lt_of_mul_lt_mul_left (a := c) (b := m) (c := q) (by rw [← hq]; exact hlt)
    have e0 : c * m + c - c * m = c := by omega
    have hM' := hM t (Qje c l (c * m)) (c * m) c
    rw [JE, QvA h1 hs] at hM'
    simp (maxSteps := 4000000) (disch := omega) only [rr, aop, cV, cV1, AV.one, Qb, okW, Qd, app, Qa, Qc, Qe, Qf, Qg, simprocAttr, e0, n0]
    refine hM' _ (Qof h6 _) h1 hs (by omega) ?_
    simp (maxSteps := 4000000) (disch := omega) only [rr, aop, cV, cV1, AV.one, Qb, okW, Qd, app, Qa, Qc, Qe, Qf, Qg, simprocAttr]
    exact ⟨m + 1, by omega, by omega, by rw [show c * (m + 1) = c * m + c by rw [Nat.mul_add, Nat.mul_one]]; exact Le.slots (by simp [Am.look])⟩
  · have e : c * m = l.length := by
      have := Nat.mul_le_mul_left c hm
      omega
    rw [e, Qnx]
    have lm := JT c l
    simp (maxSteps := 4000000) (disch := omega) only [rr, aop, cV, cV1, AV.one, Qb, okW, Qd, app, Qa, Qc, Qe, Qf, Qg, simprocAttr]
    simp [Q7, QG, frzL, QF, isDL, isD, il, lm, frzL_T _ (Qq .i32 (Zw c l))]
end Go.Am

namespace Go.Am
open Go.RowKit

theorem Le.drop1 {o : Ob} {xs : List Ob} {fr fr' : List (Nat × AV)} (h : isTL o.cs = true)
    (hfr : ∀ p ∈ fr', p.2 = .any ∨ QG (fun o => decide (o < 1)) (fun o => decide (1 ≤ o)) (o :: xs) 2 [look fr p.1] = some [p.2]) : Le 0 ⟨fr, o :: xs⟩ ⟨fr', [o]⟩ := by
  refine Le.drop 1 2 (by omega) rfl hfr ?_
  intro i y hy
  match i, hy with
  | 0, hy =>
    simp at hy
    subst hy
    exact ⟨o.cs, by simp, by simp only [QG]; exact frzL_T _ h⟩
  | i + 1, hy => simp at hy

end Go.Am

namespace Go.Am
open Go.RowKit

def QbA (c x : Int) (l : List Int) : Int := if QV c x ≠ 0 then 2 else if QE x l ≠ 0 then QE x l else if l.length = 0 ∨ (l.length : Int) % c ≠ 0 then 2 else 0
theorem QiP {c x : Int} {l : List Int} (h : QV c x = 2) : QbA c x l = 2 := by simp [QbA, h]
theorem QiQ {c x : Int} {l : List Int} (h : QV c x = 0) (h2 : QE x l ≠ 0) : QbA c x l = QE x l := by simp [QbA, h, h2]
theorem Qgg {c x : Int} {l : List Int} (h : QV c x = 0) (h2 : QE x l = 0) (h3 : l.length = 0 ∨ (l.length : Int) % c ≠ 0) : QbA c x l = 2 := by simp only [QbA, h, h2, if_pos h3]; simp
theorem QuW {c x : Int} {l : List Int} (h : QV c x = 0) (h2 : QE x l = 0) (h3 : ¬ (l.length = 0 ∨ (l.length : Int) % c ≠ 0)) : QbA c x l = 0 := by simp only [QbA, h, h2, if_neg h3]; simp
theorem QM (c x : Int) : QV c x = 2 ∨ (QV c x = 0 ∧ JB x ≠ 0 ∧ 1 ≤ c ∧ c ≤ 6) := by unfold QV; split <;> omega
theorem Qea (x : Int) (l : List Int) : QE x l = 2 ∨ QE x l = 4 ∨ QE x l = 16 ∨ (QE x l = 0 ∧ JB x ≠ 0 ∧ l.length ≤ 4000) := by
  unfold QE
  by_cases h : JB x = 0
  · simp [h]
  by_cases h2 : 4000 < l.length
  · simp [h, h2]
  by_cases h3 : l.all (inR x)
  · simp [h, h2, h3]; omega
  · simp [h, h2, h3]
theorem QmF {c x : Int} {l : List Int} (hI : I32 l) (h : QbA c x l = 0) : ∃ k : Nat, c = k ∧ okM k l ∧ JB x ≠ 0 := by
  rcases QM c x with h1 | ⟨h1, h2, h3, h4⟩
  · rw [QiP h1] at h; omega
  by_cases h5 : QE x l = 0
  · by_cases h6 : l.length = 0 ∨ (l.length : Int) % c ≠ 0
    · rw [Qgg h1 h5 h6] at h; omega
    · obtain ⟨k, rfl⟩ : ∃ k : Nat, c = k := ⟨c.toNat, by omega⟩
      refine ⟨k, rfl, ⟨by omega, by omega, by omega, by rcases Qea x l with h | h | h | h <;> omega, by omega, hI⟩, h2⟩
  · rw [QiQ h1 h5] at h; exact absurd h h5

def QhD (P : Prg) (f : Nat) : Prop := ∀ (c x : Int) (l : List Int), I32 l → VC P f [shA c x, il l] (.int .i64 (QbA c x l))

theorem Qik {P : Prg} {f fE fW t0 : Nat} (b : Ql P f 30 [.tmp 4] (Jw fE fW t0)) (hE : XN P fE) (hW : Qao P fW) : QhD P f := by
  intro c x l hI
  refine VC.of_acall (by simp [isDL, isD, QS, shA]) rfl (ACall.of_body b (by simp) ?_)
  have hE' := hE c x
  rw [shA] at hE'
  simp (maxSteps := 4000000) (disch := omega) only [rr, aop, cV, cV1, AV.one, Qb, okW, Qd, app, Qa, Qc, Qe, Qf, Qg, simprocAttr, Jw, shA]
  refine Qh.vc hE' ?_
  rcases QM c x with h1 | ⟨h1, h2, h3, h4⟩
  · simp (maxSteps := 4000000) (disch := omega) only [rr, aop, cV, cV1, AV.one, Qb, okW, Qd, app, Qa, Qc, Qe, Qf, Qg, simprocAttr, h1, QiP h1]
  simp (maxSteps := 4000000) (disch := omega) only [rr, aop, cV, cV1, AV.one, Qb, okW, Qd, app, Qa, Qc, Qe, Qf, Qg, simprocAttr, h1]
  refine Qh.vc (hW x l hI) ?_
  by_cases h5 : QE x l = 0
  · have h9 : l.length ≤ 4000 := by rcases Qea x l with h | h | h | h <;> omega
    by_cases h6 : l.length = 0
    · simp (maxSteps := 4000000) (disch := omega) only [rr, aop, cV, cV1, AV.one, Qb, okW, Qd, app, Qa, Qc, Qe, Qf, Qg, simprocAttr, h5, il, h6, Qgg h1 h5 (.inl h6)]
    · by_cases h7 : (l.length : Int) % c = 0
      · have hm := JY (n := l.length) (c := c) (by omega)
        simp (maxSteps := 4000000) (disch := omega) only [rr, aop, cV, cV1, AV.one, Qb, okW, Qd, app, Qa, Qc, Qe, Qf, Qg, simprocAttr, h5, il, h6, h7, QuW h1 h5 (by omega)]
      · have hm := JY (n := l.length) (c := c) (by omega)
        simp (maxSteps := 4000000) (disch := omega) only [rr, aop, cV, cV1, AV.one, Qb, okW, Qd, app, Qa, Qc, Qe, Qf, Qg, simprocAttr, h5, il, h6, h7, Qgg h1 h5 (.inr h7)]
  · simp (maxSteps := 4000000) (disch := omega) only [rr, aop, cV, cV1, AV.one, Qb, okW, Qd, app, Qa, Qc, Qe, Qf, Qg, simprocAttr, h5, QiQ h1 h5]

theorem QlJ {P : Prg} {f fE fW t0 : Nat} (b : Ql P f 28 [.tmp 4] (ZZ fE fW t0)) (hE : XN P fE) (hW : Qao P fW) : QhD P f := by
  intro c x l hI
  refine VC.of_acall (by simp [isDL, isD, QS, shA]) rfl (ACall.of_body b (by simp) ?_)
  have hE' := hE c x
  rw [shA] at hE'
  simp (maxSteps := 4000000) (disch := omega) only [rr, aop, cV, cV1, AV.one, Qb, okW, Qd, app, Qa, Qc, Qe, Qf, Qg, simprocAttr, ZZ, shA]
  refine Qh.vc hE' ?_
  rcases QM c x with h1 | ⟨h1, h2, h3, h4⟩
  · simp (maxSteps := 4000000) (disch := omega) only [rr, aop, cV, cV1, AV.one, Qb, okW, Qd, app, Qa, Qc, Qe, Qf, Qg, simprocAttr, h1, QiP h1]
  simp (maxSteps := 4000000) (disch := omega) only [rr, aop, cV, cV1, AV.one, Qb, okW, Qd, app, Qa, Qc, Qe, Qf, Qg, simprocAttr, h1]
  refine Qh.vc (hW x l hI) ?_
  by_cases h5 : QE x l = 0
  · have h9 : l.length ≤ 4000 := by rcases Qea x l with h | h | h | h <;> omega
    by_cases h6 : l.length = 0
    · simp (maxSteps := 4000000) (disch := omega) only [rr, aop, cV, cV1, AV.one, Qb, okW, Qd, app, Qa, Qc, Qe, Qf, Qg, simprocAttr, h5, il, h6, Qgg h1 h5 (.inl h6)]
    · by_cases h7 : (l.length : Int) % c = 0
      · have hm := JY (n := l.length) (c := c) (by omega)
        simp (maxSteps := 4000000) (disch := omega) only [rr, aop, cV, cV1, AV.one, Qb, okW, Qd, app, Qa, Qc, Qe, Qf, Qg, simprocAttr, h5, il, h6, h7, QuW h1 h5 (by omega)]
      · have hm := JY (n := l.length) (c := c) (by omega)
        have hp : 0 < (l.length : Int) % c := by omega
        simp (maxSteps := 4000000) (disch := omega) only [rr, aop, cV, cV1, AV.one, Qb, okW, Qd, app, Qa, Qc, Qe, Qf, Qg, simprocAttr, h5, il, h6, h7, Qgg h1 h5 (.inr h7)]
  · simp (maxSteps := 4000000) (disch := omega) only [rr, aop, cV, cV1, AV.one, Qb, okW, Qd, app, Qa, Qc, Qe, Qf, Qg, simprocAttr, h5]
    refine Qh.vc (hW x l hI) ?_
    simp (maxSteps := 4000000) (disch := omega) only [rr, aop, cV, cV1, AV.one, Qb, okW, Qd, app, Qa, Qc, Qe, Qf, Qg, simprocAttr, QiQ h1 h5]

end Go.Am

namespace Go.Am
open Go.RowKit

/-! ### Six channels in one array -/

def six (S : Nat → ZK) : List AV := QX (S 0) ++ (QX (S 1) ++ (QX (S 2) ++ (QX (S 3) ++ (QX (S 4) ++ QX (S 5)))))
def okS (S : Nat → ZK) : Prop := ∀ k, QbG (S k).fl
theorem QdV {S : Nat → ZK} (h : okS S) : (six S).length = 210 := by simp [six, Zs (h _)]
theorem QxZ {k : Nat} (h : k < 6) : k = 0 ∨ k = 1 ∨ k = 2 ∨ k = 3 ∨ k = 4 ∨ k = 5 := by omega
theorem QuB {S : Nat → ZK} (h : okS S) {k : Nat} (hk : k < 6) : ((six S).drop (k * 35)).take 35 = QX (S k) := by
  have l := fun k => Zs (h k)
  rcases QxZ hk with rfl | rfl | rfl | rfl | rfl | rfl <;> simp [six, List.drop_append, List.take_append, l, List.drop_eq_nil_of_le, Qs]
def upd (S : Nat → ZK) (k : Nat) (c : ZK) : Nat → ZK := fun j => if j = k then c else S j
theorem Qh2 {S : Nat → ZK} (h : okS S) {k : Nat} (hk : k < 6) (c : ZK) : (six S).take (k * 35) ++ QX c ++ (six S).drop (k * 35 + 35) = six (upd S k c) := by
  have l := fun k => Zs (h k)
  rcases QxZ hk with rfl | rfl | rfl | rfl | rfl | rfl <;> simp [six, upd, List.drop_append, List.take_append, l, List.drop_eq_nil_of_le, Qs]
theorem Qri (c : ZK) : isTL (QX c) = true := by simp [QX, Qp, isTL, isT, QcS, Qq]
theorem QnG (S : Nat → ZK) : isTL (six S) = true := by simp [six, QcS, Qri]
theorem Qsv (S : Nat → ZK) : (six S).all AV.one = true := by simp only [six, List.all_append, Z3, Bool.and_self]

/-! ### What is coded -/

def stC (c : Nat) (L : List Int) (z : ZK) (k : Nat) : Nat → ZK
  | 0 => z
  | n + 1 => QaP (stC c L z k n) (L.getD (k + n * c) 0)
def QxI (c : Nat) (L : List Int) (z : ZK) (j : Nat) : Int := QgK (QdD (stC c L z (j % c) (j / c)) (L.getD j 0))
def Qhi (c : Nat) (L : List Int) (z : ZK) (a : Nat) : List Int := (List.range a).map (QxI c L z)
theorem Qe7 (c : Nat) (L : List Int) (z : ZK) (a : Nat) : (Qhi c L z a).length = a := by simp [Qhi]
theorem QqV (c : Nat) (L : List Int) (z : ZK) (a : Nat) : Qhi c L z a ++ [QxI c L z a] = Qhi c L z (a + 1) := by simp [Qhi, List.range_succ]
theorem QqY {c : Nat} {L : List Int} {z : ZK} (hL : I32 L) (hz : Qnu z) (k : Nat) : ∀ n, Qnu (stC c L z k n)
  | 0 => hz
  | n + 1 => QlN (QqY hL hz k n) (Zg hL _)

def cnt (c k i : Nat) : Nat := if k < i % c then i / c + 1 else i / c
theorem Qw8 (c k : Nat) : cnt c k 0 = 0 := by simp [cnt]
theorem Qn0 (c i : Nat) : cnt c (i % c) i = i / c := by simp [cnt]
theorem QnZ {c k i : Nat} (hk : k < c) : cnt c k (i + 1) = if k = i % c then i / c + 1 else cnt c k i := by
  have hc : 0 < c := by omega
  have hr := Nat.mod_lt i hc
  have hi := Nat.div_add_mod i c
  unfold cnt
  by_cases h : i % c + 1 < c
  · have e1 : (i + 1) % c = i % c + 1 := by
      rw [show i + 1 = c * (i / c) + (i % c + 1) by omega, Nat.mul_add_mod, Nat.mod_eq_of_lt h]
    have e2 : (i + 1) / c = i / c := by
      rw [show i + 1 = (i % c + 1) + c * (i / c) by omega, Nat.add_mul_div_left _ _ hc, Nat.div_eq_of_lt h, Nat.zero_add]
    rw [e1, e2]
    split <;> split <;> (try split) <;> omega
  · have e0 : i + 1 = c * (i / c + 1) := by rw [Nat.mul_add]; omega
    have e1 : (i + 1) % c = 0 := by rw [e0, Nat.mul_mod_right]
    have e2 : (i + 1) / c = i / c + 1 := by rw [e0, Nat.mul_div_cancel_left _ hc]
    rw [e1, e2]
    split <;> split <;> (try split) <;> omega
def stA (c : Nat) (L : List Int) (z : ZK) (i : Nat) : Nat → ZK := fun k => if k < c then stC c L z k (cnt c k i) else z
theorem QxD (c : Nat) (L : List Int) (z : ZK) : stA c L z 0 = fun _ => z := by
  funext k; simp [stA, Qw8, stC]
theorem Qwu {c : Nat} (hc : 1 ≤ c) (L : List Int) (z : ZK) (i : Nat) : stA c L z i (i % c) = stC c L z (i % c) (i / c) := by
  rw [stA, if_pos (Nat.mod_lt _ (by omega)), Qn0]
theorem Qs4 {c : Nat} (hc : 1 ≤ c) (L : List Int) (z : ZK) (i : Nat) : upd (stA c L z i) (i % c) (QaP (stC c L z (i % c) (i / c)) (L.getD i 0)) = stA c L z (i + 1) := by
  funext k
  have hr := Nat.mod_lt i (show 0 < c by omega)
  by_cases hk : k < c
  · simp only [upd, stA, if_pos hk, QnZ hk]
    by_cases e : k = i % c
    · rw [if_pos e, if_pos e, e, stC]
      rw [show i % c + i / c * c = i by have := Nat.div_add_mod i c; rw [Nat.mul_comm]; omega]
    · rw [if_neg e, if_neg e]
  · simp only [upd, stA, if_neg hk]
    rw [if_neg (by omega)]
theorem QwI {c : Nat} {L : List Int} {z : ZK} (hL : I32 L) (hz : Qnu z) (i : Nat) : okS (stA c L z i) := fun k => by
  unfold stA; split
  · exact (QqY hL hz k _).2.2.1
  · exact hz.2.2.1
def QcH (l : List Int) : AV := .list l.length (ks .u32 l)
theorem Qfb (l : List Int) : isD (QcH l) = true := by simp [QcH, isD, QK]
theorem Le.dropT (os : List Ob) {xs : List Ob} {fr fr' : List (Nat × AV)} (h : ∀ o ∈ os, isTL o.cs = true)
    (hfr : ∀ p ∈ fr', p.2 = .any ∨ QG (fun o => decide (o < os.length)) (fun o => decide (os.length ≤ o)) (os ++ xs) 2 [look fr p.1] = some [p.2]) : Le 0 ⟨fr, os ++ xs⟩ ⟨fr', os⟩ := by
  refine Le.drop os.length 2 (by omega) rfl hfr ?_
  intro i y hy
  have hi : i < os.length := by
    rcases Nat.lt_or_ge i os.length with h | h
    · exact h
    · rw [List.getElem?_eq_none h] at hy; cases hy
  refine ⟨y.cs, by rw [List.getElem?_append_left hi]; exact hy, ?_⟩
  simp only [QG]
  exact frzL_T _ (h y (List.mem_of_getElem? hy))
end Go.Am

namespace Go.Am
open Go.RowKit

def QpT (c x : Int) (t l : List Int) : AV := if QbA c x l ≠ 0 then .tup [.list 0 [], .int .i64 (QbA c x l)] else .tup [QcH (Qhi c.toNat (Zw c.toNat l) (JA x t) l.length), .int .i64 0]
theorem QvG (c x : Int) (t l : List Int) : isD (QpT c x t l) = true := by unfold QpT; split <;> simp [isD, isDL, Qfb]
def Qi8 (P : Prg) (f : Nat) : Prop := ∀ (c x : Int) (t l : List Int), t.length = 16 → I32 t → I32 l → VC P f [shA c x, .agg (ks .i32 t), il l] (QpT c x t l)

theorem Qdr : QbG QaV.fl := ⟨by simp [QaV, Qjf, z16], by simp [QaV, Qjf, z16], fun x hx => by simp [QaV, Qjf, z16] at hx; omega, fun x hx => by simp [QaV, Qjf, z16] at hx; omega⟩
def Qq7 (z : ZK) (i : Nat) : Nat → ZK := fun k => if k < i then z else QaV
theorem QuG (z : ZK) : Qq7 z 0 = fun _ => QaV := by funext k; simp [Qq7]
theorem Qj5 (z : ZK) (i : Nat) : upd (Qq7 z i) i z = Qq7 z (i + 1) := by
  funext k
  simp only [upd, Qq7]
  split <;> split <;> (try split) <;> first | rfl | omega
theorem Qq1 {z : ZK} (h : QbG z.fl) (i : Nat) : okS (Qq7 z i) := fun k => by
  unfold Qq7; split
  · exact h
  · exact Qdr
theorem Qwx (z : ZK) : six (Qq7 z 6) = six (fun _ => z) := by simp [six, Qq7]
theorem Qq2 {x : Int} (hx : JB x ≠ 0) {t : List Int} (hl : t.length = 16) (hI : I32 t) : Qnu (JA x t) := ⟨hx, rfl, Qq3 hl hI, by simp [JA]⟩

set_option maxRecDepth 20000 in
theorem QgM {P : Prg} {f fA fM fN fF fO t0 t1 t2 t3 t4 : Nat} (b : Ql P f 83 [.tmp 6, .tmp 7] (X7 fA fM fN fF fO t0 t1 t2 t3 t4)) (hA : QhD P fA) (hM : Qi5 P fM) (hN : Qoc P fN) (hF : Qen P fF) (hO : QsF P fO) : Qi8 P f := by
  intro c x t l hl hI hL
  have hk : (ks .i32 t).length = 16 := by simp [Qk, hl]
  have ot := ZP .i32 t
  have tt : (ks .i32 t).take 16 = ks .i32 t := Qs (by omega)
  refine VC.of_walk 1 (by simp [isDL, isD, QS, QK, shA]) (QvG _ _ _ _) (ACall.of_body b (by simp) ?_)
  have hA' := hA c x l hL
  rw [shA] at hA'
  unfold X7
  rw [show ([.int .i64 0, .int .i32 0, .int .i64 0, .int .i32 0, .int .i32 0, .int .i32 0, .int .i32 0, .int .i32 0, .int .i32 0, .int .i32 0, .int .i32 0, .int .i32 0, .int .i32 0, .int .i32 0, .int .i32 0, .int .i32 0, .int .i32 0, .int .i32 0, .int .i32 0, .int .i32 0, .int .i32 0, .int .i32 0, .int .i32 0, .int .i32 0, .int .i32 0, .int .i32 0, .int .i32 0, .int .i32 0, .int .i32 0, .int .i32 0, .int .i32 0, .int .i32 0, .int .i32 0, .int .i32 0, .int .i32 0, .int .i64 0, .int .i32 0, .int .i64 0, .int .i32 0, .int .i32 0, .int .i32 0, .int .i32 0, .int .i32 0, .int .i32 0, .int .i32 0, .int .i32 0, .int .i32 0, .int .i32 0, .int .i32 0, .int .i32 0, .int .i32 0, .int .i32 0, .int .i32 0, .int .i32 0, .int .i32 0, .int .i32 0, .int .i32 0, .int .i32 0, .int .i32 0, .int .i32 0, .int .i32 0, .int .i32 0, .int .i32 0, .int .i32 0, .int .i32 0, .int .i32 0, .int .i32 0, .int .i32 0, .int .i32 0, .int .i32 0, .int .i64 0, .int .i32 0, .int .i64 0, .int .i32 0, .int .i32 0, .int .i32 0, .int .i32 0, .int .i32 0, .int .i32 0, .int .i32 0, .int .i32 0, .int .i32 0, .int .i32 0, .int .i32 0, .int .i32 0, .int .i32 0, .int .i32 0, .int .i32 0, .int .i32 0, .int .i32 0, .int .i32 0, .int .i32 0, .int .i32 0, .int .i32 0, .int .i32 0, .int .i32 0, .int .i32 0, .int .i32 0, .int .i32 0, .int .i32 0, .int .i32 0, .int .i32 0, .int .i32 0, .int .i32 0, .int .i32 0, .int .i64 0, .int .i32 0, .int .i64 0, .int .i32 0, .int .i32 0, .int .i32 0, .int .i32 0, .int .i32 0, .int .i32 0, .int .i32 0, .int .i32 0, .int .i32 0, .int .i32 0, .int .i32 0, .int .i32 0, .int .i32 0, .int .i32 0, .int .i32 0, .int .i32 0, .int .i32 0, .int .i32 0, .int .i32 0, .int .i32 0, .int .i32 0, .int .i32 0, .int .i32 0, .int .i32 0, .int .i32 0, .int .i32 0, .int .i32 0, .int .i32 0, .int .i32 0, .int .i32 0, .int .i32 0, .int .i32 0, .int .i64 0, .int .i32 0, .int .i64 0, .int .i32 0, .int .i32 0, .int .i32 0, .int .i32 0, .int .i32 0, .int .i32 0, .int .i32 0, .int .i32 0, .int .i32 0, .int .i32 0, .int .i32 0, .int .i32 0, .int .i32 0, .int .i32 0, .int .i32 0, .int .i32 0, .int .i32 0, .int .i32 0, .int .i32 0, .int .i32 0, .int .i32 0, .int .i32 0, .int .i32 0, .int .i32 0, .int .i32 0, .int .i32 0, .int .i32 0, .int .i32 0, .int .i32 0, .int .i32 0, .int .i32 0, .int .i32 0, .int .i64 0, .int .i32 0, .int .i64 0, .int .i32 0, .int .i32 0, .int .i32 0, .int .i32 0, .int .i32 0, .int .i32 0, .int .i32 0, .int .i32 0, .int .i32 0, .int .i32 0, .int .i32 0, .int .i32 0, .int .i32 0, .int .i32 0, .int .i32 0, .int .i32 0, .int .i32 0, .int .i32 0, .int .i32 0, .int .i32 0, .int .i32 0, .int .i32 0, .int .i32 0, .int .i32 0, .int .i32 0, .int .i32 0, .int .i32 0, .int .i32 0, .int .i32 0, .int .i32 0, .int .i32 0, .int .i32 0] : List AV) = six (fun _ => QaV) from rfl, ← Qcd]
  simp (maxSteps := 4000000) (disch := omega) only [rr, aop, cV, cV1, AV.one, Qb, okW, Qd, app, Qa, Qc, Qe, Qf, Qg, simprocAttr, shA, hk, ot, tt]
  refine Qh.vc hA' ?_
  by_cases h0 : QbA c x l = 0
  · obtain ⟨k, rfl, hok, hx⟩ := QmF hL h0
    have hz := Qq2 hx hl hI
    have l0 := QdV (S := fun _ => QaV) (fun _ => Qdr)
    have o0 := Qsv (fun _ => QaV)
    simp (maxSteps := 4000000) (disch := omega) only [rr, aop, cV, cV1, AV.one, Qb, okW, Qd, app, Qa, Qc, Qe, Qf, Qg, simprocAttr, h0]
    refine Qh.vc (hM k l hok) ?_
    obtain ⟨h1, h2, h3, h4, h5, h6⟩ := id hok
    have lm := JT k l
    have hI2 := QhE (c := k) hL
    have tm : isTL (ks .i32 (Zw k l)) = true := Qq _ _
    generalize hm : Zw k l = m at lm hI2 tm
    simp (maxSteps := 4000000) (disch := omega) only [rr, aop, cV, cV1, AV.one, Qb, okW, Qd, app, Qa, Qc, Qe, Qf, Qg, simprocAttr, l0, o0]
    refine QN.by (ι := Nat) (fun i => ⟨[(36, .int .i64 i), (11, .ref 2 1 0), (9, il m), (4, .ref 1 1 0), (3, .ref 0 1 0)], [⟨t0, 2, 1, [.int .i64 k, .int .i64 x], 0⟩, ⟨t1, 16, 1, ks .i32 t, 0⟩, ⟨t2, 210, 1, six (Qq7 (JA x t) i), 0⟩]⟩) (fun i => i ≤ 6) (fun i => 6 - i) 0 (by rw [QuG]; exact Le.slots (by simp [Am.look])) (by omega) ?_
    intro i hi
    have oS := Qq1 hz.2.2.1 i
    have lS := QdV oS
    by_cases hlt : i < 6
    · have e1 := Qh2 oS hlt (JA x t)
      rw [Qj5] at e1
      have lc := Zs hz.2.2.1
      have oc := Z3 (JA x t)
      simp (maxSteps := 4000000) (disch := omega) only [rr, aop, cV, cV1, AV.one, Qb, okW, Qd, app, Qa, Qc, Qe, Qf, Qg, simprocAttr, hk, tt]
      refine Qh.vc (hN x t hl hI) ?_
      simp (maxSteps := 4000000) (disch := omega) only [rr, aop, cV, cV1, AV.one, Qb, okW, Qd, app, Qa, Qc, Qe, Qf, Qg, simprocAttr, Qmj, if_neg hx, lS, lc, oc, e1]
      exact ⟨i + 1, by omega, by omega, Le.slots (by simp [Am.look])⟩
    · have : i = 6 := by omega
      subst this
      simp (maxSteps := 4000000) (disch := omega) only [rr, aop, cV, cV1, AV.one, Qb, okW, Qd, app, Qa, Qc, Qe, Qf, Qg, simprocAttr, il]
      refine QN.by (ι := Nat) (fun i => ⟨[(51, .int .i64 i), (50, .int .i64 m.length), (49, il m), (13, .own 3 i), (11, .ref 2 1 0), (3, .ref 0 1 0)], [⟨t0, 2, 1, [.int .i64 k, .int .i64 x], 0⟩, ⟨t1, 16, 1, ks .i32 t, 0⟩, ⟨t2, 210, 1, six (stA k m (JA x t) i), 0⟩, ⟨t4, 1, i, ks .u32 (Qhi k m (JA x t) i), 0⟩]⟩) (fun i => i ≤ m.length) (fun i => m.length - i) 0 (by rw [QxD, ← Qwx]; exact Le.trans (Le.virt 13 t4 1 (by omega) rfl) (Le.slots (by simp [Am.look, Qhi, il]))) (by omega) ?_
      intro i hi
      have lo := Qe7 k m (JA x t) i
      by_cases hlt : i < m.length
      · have oS := QwI hI2 hz (c := k) i
        have lS := QdV oS
        have hr := Nat.mod_lt i (show 0 < k by omega)
        have e0 := QuB oS (k := i % k) (by omega)
        rw [Qwu h1] at e0
        have e1 := Qh2 oS (k := i % k) (by omega) (QaP (stC k m (JA x t) (i % k) (i / k)) (m.getD i 0))
        rw [Qs4 h1] at e1
        have hok2 := QqY (c := k) hI2 hz (i % k) (i / k)
        have hok3 := QlN hok2 (Zg hI2 i)
        have hF' := hF _ (m.getD i 0) hok2 (Zg hI2 i)
        have hO' := hO (QdD (stC k m (JA x t) (i % k) (i / k)) (m.getD i 0)) (XT _)
        have e2 := QbY (K := .i32) (l := m) (i := i) hlt
        have e3 : ks .u32 (Qhi k m (JA x t) i) ++ [.int .u32 (QgK (QdD (stC k m (JA x t) (i % k) (i / k)) (m.getD i 0)))] = ks .u32 (Qhi k m (JA x t) (i + 1)) := by rw [Qif, ← QqV]; rfl
        have lc := Zs hok3.2.2.1
        have oc := Z3 (QaP (stC k m (JA x t) (i % k) (i / k)) (m.getD i 0))
        have tc : (QX (QaP (stC k m (JA x t) (i % k) (i / k)) (m.getD i 0))).take 35 = QX (QaP (stC k m (JA x t) (i % k) (i / k)) (m.getD i 0)) := Qs (by omega)
        have lz := Zs Qdr
        have oz := Z3 QaV
        have dz : (QX QaV).drop 35 = [] := List.drop_eq_nil_of_le (by omega)
        have em : (i : Int) % k = (i % k : Nat) := by omega
        simp (maxSteps := 4000000) (disch := omega) only [rr, aop, cV, cV1, AV.one, Qb, okW, Qd, app, Qa, Qc, Qe, Qf, Qg, simprocAttr, il, e2, em, e0]
        refine Qh.vc hF' ?_
        simp (maxSteps := 4000000) (disch := omega) only [rr, aop, cV, cV1, AV.one, Qb, okW, Qd, app, Qa, Qc, Qe, Qf, Qg, simprocAttr, lz, oz, lc, oc, tc, e1, lS, dz, List.append_nil]
        refine Qh.vc hO' ?_
        simp (maxSteps := 4000000) (disch := omega) only [rr, aop, cV, cV1, AV.one, Qb, okW, Qd, app, Qa, Qc, Qe, Qf, Qg, simprocAttr, e3]
        exact ⟨i + 1, by omega, by omega, Le.dropT [_, _, _, _] (by simp [QnG, Qq, isTL, isT]) (by simp [Am.look, QG, frzL, QF, frzL_T _ tm])⟩
      · have : i = m.length := by omega
        subst this
        have e9 : QpT k x t l = .tup [QcH (Qhi k m (JA x t) m.length), .int .i64 0] := by simp [QpT, h0, hm, lm]
        clear hi hlt
        have hq : ¬ (m.length : Int) < m.length := by omega
        simp (maxSteps := 4000000) (disch := omega) only [rr, aop, cV, cV1, AV.one, Qb, okW, Qd, app, Qa, Qc, Qe, Qf, Qg, simprocAttr, e9]
        simp [Q7, QG, frzL, QF, isDL, isD, QcH, lo, frzL_T _ (Qq .u32 _)]
  · have e9 : QpT c x t l = .tup [.list 0 [], .int .i64 (QbA c x l)] := by simp [QpT, h0]
    simp (maxSteps := 4000000) (disch := omega) only [rr, aop, cV, cV1, AV.one, Qb, okW, Qd, app, Qa, Qc, Qe, Qf, Qg, simprocAttr, h0, e9]
    simp [Q7, QG, frzL, QF, isDL, isD]
end Go.Am

namespace Go.Am
open Go.RowKit

theorem QqJ (K : IntKind) : ∀ n : Nat, Qt [.int K 0] n = ks K (List.replicate n 0)
  | 0 => rfl
  | n + 1 => by rw [Qt, QqJ K n]; simp [ks, List.replicate_succ]

end Go.Am

namespace Go.Am
open Go.RowKit

def QmY (P : Prg) (f : Nat) : Prop := ∀ l : List Int, l.length ≤ 100000000 → VC P f [il l, il l] (.bool true)
theorem QoM {P : Prg} {f : Nat} (b : Ql P f 26 [.tmp 4] Xc) : QmY P f := by
  intro l hl
  refine VC.of_acall (by simp [isDL, isD, QS]) rfl (ACall.of_body b (by simp) ?_)
  simp (maxSteps := 4000000) (disch := omega) only [rr, aop, cV, cV1, AV.one, Qb, okW, Qd, app, Qa, Qc, Qe, Qf, Qg, simprocAttr, Xc, il]
  refine QN.by (ι := Nat) (fun k => ⟨[(5, .int .i64 k), (1, il l), (0, il l)], []⟩) (fun k => k ≤ l.length) (fun k => l.length - k) 0 (Le.slots (by simp [Am.look, il])) (by omega) ?_
  intro k hk
  by_cases hlt : k < l.length
  · have e1 := QbY (K := .i32) hlt
    simp (maxSteps := 4000000) (disch := omega) only [rr, aop, cV, cV1, AV.one, Qb, okW, Qd, app, Qa, Qc, Qe, Qf, Qg, simprocAttr, il, e1]
    exact ⟨k + 1, by omega, by omega, Le.slots (by simp [Am.look, il])⟩
  · simp (maxSteps := 4000000) (disch := omega) only [rr, aop, cV, cV1, AV.one, Qb, okW, Qd, app, Qa, Qc, Qe, Qf, Qg, simprocAttr, il]

end Go.Am

namespace Go.Am
open Go.RowKit

def Qws : Sh := .tuple (List.replicate 16 (.int .i32))
theorem Qhq (K : IntKind) : ∀ (n : Nat) (cs0 : List AV), FitsL (List.replicate n (.int K)) cs0 → ∃ t : List Int, cs0 = ks K t ∧ t.length = n ∧ ∀ x ∈ t, K.min ≤ x ∧ x ≤ K.max
  | 0, cs0, h => by
    simp only [List.replicate, FitsL] at h
    exact ⟨[], by simpa [ks] using h, rfl, by simp⟩
  | n + 1, cs0, h => by
    simp only [List.replicate, FitsL, Qbv] at h
    obtain ⟨_, r, rfl, ⟨x, rfl, h1, h2⟩, h3⟩ := h
    obtain ⟨t, rfl, h4, h5⟩ := Qhq K n r h3
    exact ⟨x :: t, by simp [ks], by simp [h4], fun y hy => by
      rcases List.mem_cons.1 hy with rfl | hy
      · exact ⟨h1, h2⟩
      · exact h5 y hy⟩
theorem QwW {cs0 : List AV} (h : Qbv Qws cs0) : ∃ t : List Int, cs0 = ks .i32 t ∧ t.length = 16 ∧ I32 t := by
  simp only [Qws, Qbv] at h
  obtain ⟨t, h1, h2, h3⟩ := Qhq .i32 16 cs0 h
  exact ⟨t, h1, h2, fun x hx => by have := h3 x hx; simpa [IntKind.min, IntKind.max, IntKind.signed, IntKind.bits] using this⟩
end Go.Am

namespace Go.Am
open Go.RowKit

/-! ### Unmixing -/

def ud (l : List Int) (b c : Nat) : Nat → Int
  | 0 => if c = 1 then l.getD b 0 else w32 (l.getD (b + (c - 1)) 0 + (l.getD (b + (c - 2)) 0).tdiv 2)
  | d + 1 => w32 (ud l b c d - l.getD (b + (c - 2 - d)) 0)
theorem QhY {l l' : List Int} {b b' c : Nat} (hc : 1 ≤ c) (h : ∀ j, j < c → l.getD (b + j) 0 = l'.getD (b' + j) 0) : ∀ d, ud l b c d = ud l' b' c d
  | 0 => by
    unfold ud
    have h0 := h 0 (by omega)
    simp only [Nat.add_zero] at h0
    rw [h0, h (c - 1) (by omega), h (c - 2) (by omega)]
  | d + 1 => by
    unfold ud
    rw [QhY hc h d, h (c - 2 - d) (by omega)]
theorem Qwp {l : List Int} (h : I32 l) (b c : Nat) : ∀ d, -2147483648 ≤ ud l b c d ∧ ud l b c d ≤ 2147483647
  | 0 => by
    unfold ud; split
    · exact Zg h b
    · exact XT _
  | d + 1 => by unfold ud; exact XT _
def Qgu (L : List Int) (k n d : Nat) : List Int := (List.range L.length).map fun j => if k + (n - 1 - d) ≤ j ∧ j < k + n then ud L k n (k + n - 1 - j) else L.getD j 0
theorem JD (L : List Int) (k n d : Nat) : (Qgu L k n d).length = L.length := by simp [Qgu]
theorem Qvt {L : List Int} {k n d j : Nat} (h : j < L.length) (h1 : k + (n - 1 - d) ≤ j) (h2 : j < k + n) : (Qgu L k n d).getD j 0 = ud L k n (k + n - 1 - j) := by
  rw [Qgu, QA h, if_pos ⟨h1, h2⟩]
theorem Qtd {L : List Int} {k n d j : Nat} (h : j < L.length) (h1 : j < k + (n - 1 - d)) : (Qgu L k n d).getD j 0 = L.getD j 0 := by
  rw [Qgu, QA h, if_neg (by omega)]
theorem QwF {L : List Int} {k n : Nat} (h1 : 1 ≤ n) (h : k + n ≤ L.length) : L.set (k + (n - 1)) (ud L k n 0) = Qgu L k n 0 := Z1 (by simp [JD]) fun j hj => by
  have hj' : j < L.length := by simpa using hj
  rw [Qe4 hj', Qgu, QA hj']
  by_cases e : k + (n - 1) = j
  · subst e
    rw [if_pos rfl, if_pos (by omega), show k + n - 1 - (k + (n - 1)) = 0 by omega]
  · rw [if_neg e, if_neg (by omega)]
theorem QwE {L : List Int} {k : Nat} : Qgu L k 1 0 = L := Z1 (by simp [JD]) fun j hj => by
  rw [JD] at hj
  rw [Qgu, QA hj]
  split
  · rw [show j = k by omega, show k + 1 - 1 - k = 0 by omega]; simp [ud]
  · rfl
theorem Qqx {L : List Int} {k n d : Nat} (hd : d + 1 < n) (h : k + n ≤ L.length) : (Qgu L k n d).set (k + (n - 2 - d)) (w32 (ud L k n d - L.getD (k + (n - 2 - d)) 0)) = Qgu L k n (d + 1) := Z1 (by simp [JD]) fun j hj => by
  have hj' : j < L.length := by simpa [JD] using hj
  rw [Qe4 (by rw [JD]; exact hj'), Qgu, Qgu, QA hj', QA hj']
  by_cases e : k + (n - 2 - d) = j
  · subst e
    rw [if_pos rfl, if_pos (by omega), show k + n - 1 - (k + (n - 2 - d)) = d + 1 by omega]
    rfl
  · rw [if_neg e]
    by_cases q : k + (n - 1 - d) ≤ j ∧ j < k + n
    · rw [if_pos q, if_pos (by omega)]
    · rw [if_neg q, if_neg (by omega)]
def QmP (P : Prg) (f : Nat) : Prop := ∀ (t : Nat) (L : List Int) (k n : Nat) (K : AV → List Ob → Prop), I32 L → 1 ≤ n → k + n ≤ L.length → L.length ≤ 1000000 →
  K (.tup []) [⟨t, 1, L.length, ks .i32 (Qgu L k n (n - 1)), 0⟩] → ACall P f [.view 0 L.length k n] [⟨t, 1, L.length, ks .i32 L, 0⟩] K

theorem Qq8 {P : Prg} {f : Nat} (b : Ql P f 40 [] Qai) : QmP P f := by
  intro t L k n K hL h1 h2 h3 hK
  refine ACall.of_body b (by simp) ?_
  by_cases hn : n = 1
  · subst hn
    simp (maxSteps := 4000000) (disch := omega) only [rr, aop, cV, cV1, AV.one, Qb, okW, Qd, app, Qa, Qc, Qe, Qf, Qg, simprocAttr, Qai]
    refine QN.by (ι := Nat) (fun d => ⟨[(3, .int .i64 (-1)), (0, .view 0 L.length k 1)], [⟨t, 1, L.length, ks .i32 (Qgu L k 1 0), 0⟩]⟩) (fun _ => True) (fun d => d) 0 (by rw [QwE]; exact Le.slots (by simp [Am.look])) trivial ?_
    intro d _
    simp (maxSteps := 4000000) (disch := omega) only [rr, aop, cV, cV1, AV.one, Qb, okW, Qd, app, Qa, Qc, Qe, Qf, Qg, simprocAttr]
    exact hK
  · have e1 := QbY (K := .i32) (l := L) (i := k + (n - 1)) (by omega)
    have e2 := QbY (K := .i32) (l := L) (i := k + (n - 1 - 1)) (by omega)
    have e3 := fun v => QnD (K := .i32) (l := L) (i := k + (n - 1)) (by omega) v
    have hr := QjJ (Zg hL (k + (n - 2)))
    have a0 := QwF (L := L) (k := k) h1 h2
    have u0 : ud L k n 0 = w32 (L.getD (k + (n - 1)) 0 + (L.getD (k + (n - 2)) 0).tdiv 2) := by rw [ud, if_neg hn]
    rw [u0] at a0
    rw [show n - 1 - 1 = n - 2 by omega] at e2
    have en : n - 1 - 1 = n - 2 := by omega
    simp (maxSteps := 4000000) (disch := omega) only [rr, aop, cV, cV1, AV.one, Qb, okW, Qd, app, Qa, Qc, Qe, Qf, Qg, simprocAttr, Qai, e1, en, e2, e3, Xn, a0]
    refine QN.by (ι := Nat) (fun d => ⟨[(3, .int .i64 ((n : Int) - 2 - d)), (0, .view 0 L.length k n)], [⟨t, 1, L.length, ks .i32 (Qgu L k n d), 0⟩]⟩) (fun d => d ≤ n - 1) (fun d => n - 1 - d) 0 (Le.slots (by simp [Am.look]; omega)) (by omega) ?_
    intro d hd
    have ls := JD L k n d
    by_cases hlt : d < n - 1
    · have f1 := QbY (K := .i32) (l := Qgu L k n d) (i := k + (n - 1 - d)) (by omega)
      have f2 := QbY (K := .i32) (l := Qgu L k n d) (i := k + (n - 2 - d)) (by omega)
      have f3 := fun v => QnD (K := .i32) (l := Qgu L k n d) (i := k + (n - 2 - d)) (by omega) v
      rw [Qvt (by omega) (by omega) (by omega), show k + n - 1 - (k + (n - 1 - d)) = d by omega, show n - 1 - d = n - 2 - d + 1 by omega] at f1
      rw [Qtd (by omega) (by omega)] at f2
      have a3 := Qqx (L := L) (k := k) (n := n) (d := d) (by omega) h2
      simp (maxSteps := 4000000) (disch := omega) only [rr, aop, cV, cV1, AV.one, Qb, okW, Qd, app, Qa, Qc, Qe, Qf, Qg, simprocAttr, f1, f2, f3, Xn, a3, ls]
      exact ⟨d + 1, by omega, by omega, Le.slots (by simp [Am.look]; omega)⟩
    · have e : d = n - 1 := by omega
      subst e
      simp (maxSteps := 4000000) (disch := omega) only [rr, aop, cV, cV1, AV.one, Qb, okW, Qd, app, Qa, Qc, Qe, Qf, Qg, simprocAttr]
      exact hK
end Go.Am

namespace Go.Am
open Go.RowKit

def Qu8 (c : Nat) (l : List Int) (j : Nat) : Int := ud l (c * (j / c)) c (c - 1 - j % c)
def Qwn (c : Nat) (l : List Int) (a : Nat) : List Int := (List.range a).map (Qu8 c l)
def Qll (c : Nat) (l : List Int) (a : Nat) : List Int := (List.range l.length).map fun j => if j < a then Qu8 c l j else l.getD j 0
def QbO (c : Nat) (l : List Int) : List Int := Qwn c l l.length
theorem Qcg (c : Nat) (l : List Int) (a : Nat) : (Qll c l a).length = l.length := by simp [Qll]
theorem Qwo (c : Nat) (l : List Int) : Qll c l 0 = l := Z1 (Qcg _ _ _) fun j hj => by
  rw [Qcg] at hj; rw [Qll, QA hj, if_neg (by omega)]
theorem Qnb (c : Nat) (l : List Int) : Qll c l l.length = QbO c l := by
  simp only [Qll, QbO, Qwn]
  apply List.map_congr_left
  intro j hj
  rw [if_pos (by simpa using hj)]
theorem QsV {c : Nat} {l : List Int} (h : I32 l) (j : Nat) : -2147483648 ≤ Qu8 c l j ∧ Qu8 c l j ≤ 2147483647 := Qwp h _ _ _
theorem Qoe {c : Nat} {l : List Int} (h : I32 l) (a : Nat) : I32 (Qll c l a) := by
  intro v hv
  simp only [Qll, List.mem_map] at hv
  obtain ⟨j, _, rfl⟩ := hv
  split
  · exact QsV h j
  · exact Zg h j
theorem QpH {c : Nat} {l : List Int} (h : I32 l) : I32 (QbO c l) := by rw [← Qnb]; exact Qoe h _
theorem Qch (c : Nat) (l : List Int) : (QbO c l).length = l.length := by simp [QbO, Qwn]
theorem Qpd {c m r : Nat} (h : r < c) : (c * m + r) / c = m ∧ (c * m + r) % c = r := by
  rw [Nat.mul_add_mod, Nat.mod_eq_of_lt h, Nat.mul_add_div (by omega), Nat.div_eq_of_lt h]; simp

theorem Qu6 {c : Nat} {l : List Int} {m : Nat} (hc : 1 ≤ c) (h : c * m + c ≤ l.length) : Qgu (Qll c l (c * m)) (c * m) c (c - 1) = Qll c l (c * m + c) := Z1 (by simp [JD, Qcg]) fun j hj => by
  have hj' : j < l.length := by simpa [JD, Qcg] using hj
  rw [Qgu, Qcg, QA hj']
  conv => rhs; rw [Qll, QA hj']
  by_cases q : c * m ≤ j ∧ j < c * m + c
  · rw [if_pos (by omega), if_pos q.2]
    have e := Qpd (c := c) (m := m) (r := j - c * m) (by omega)
    rw [show c * m + (j - c * m) = j by omega] at e
    rw [Qu8, e.1, e.2, show c * m + c - 1 - j = c - 1 - (j - c * m) by omega]
    refine QhY hc (fun i hi => ?_) _
    rw [Qll, QA (by omega), if_neg (by omega)]
  · rw [if_neg (by omega), Qll, QA hj']
    by_cases r : j < c * m
    · rw [if_pos r, if_pos (by omega)]
    · rw [if_neg r, if_neg (by omega)]

def Qgm (P : Prg) (f : Nat) : Prop := ∀ (c : Nat) (l : List Int), okM c l → VC P f [.int .i64 c, il l] (.tup [il (QbO c l), .int .i64 0])

theorem Qtx {P : Prg} {f fC fK fM t : Nat} (b : Ql P f 32 [.tmp 4, .tmp 5] (Qc3 fC fK fM)) (hC : Qfh P fC) (hK : Qfl t P fK) (hM : QmP P fM) : Qgm P f := by
  intro c l hok
  obtain ⟨h1, h2, h3, h4, h5, h6⟩ := id hok
  have hc := Qj3 hok
  obtain ⟨q, hq⟩ : ∃ q, l.length = c * q := ⟨l.length / c, by have := Nat.div_add_mod l.length c; omega⟩
  refine VC.of_walk 1 (by simp [isDL, isD, QS]) (by simp [isD, isDL, QS]) (ACall.of_body b (by simp) ?_)
  simp (maxSteps := 4000000) (disch := omega) only [rr, aop, cV, cV1, AV.one, Qb, okW, Qd, app, Qa, Qc, Qe, Qf, Qg, simprocAttr, Qc3]
  refine Qh.vc (hC c l) ?_
  have n0 : l.length ≠ 0 := by omega
  simp (maxSteps := 4000000) (disch := omega) only [rr, aop, cV, cV1, AV.one, Qb, okW, Qd, app, Qa, Qc, Qe, Qf, Qg, simprocAttr, hc, n0]
  refine hK l [] _ h3 (by omega) ?_
  simp (maxSteps := 4000000) (disch := omega) only [rr, aop, cV, cV1, AV.one, Qb, okW, Qd, app, Qa, Qc, Qe, Qf, Qg, simprocAttr, n0]
  refine QN.by (ι := Nat) (fun m => ⟨[(8, .int .i64 (c * m : Nat)), (7, .own 0 l.length), (0, .int .i64 c)], [⟨t, 1, l.length, ks .i32 (Qll c l (c * m)), 0⟩]⟩) (fun m => m ≤ q) (fun m => q - m) 0 (by rw [Nat.mul_zero, Qwo]; exact Le.slots (by simp [Am.look])) (by omega) ?_
  intro m hm
  by_cases hlt : c * m < l.length
  · have hs := Qnw (c := c) (m := m) (q := q) (by rw [← hq]; exact hlt)
    rw [← hq] at hs
    have hmq : m < q := Nat.lt_of_mul_lt_mul_left (a := c) (b := m) (c := q) (by rw [← hq]; exact hlt)
    have e0 : c * m + c - c * m = c := by omega
    have hM' := hM t (Qll c l (c * m)) (c * m) c
    rw [Qcg, Qu6 h1 hs] at hM'
    simp (maxSteps := 4000000) (disch := omega) only [rr, aop, cV, cV1, AV.one, Qb, okW, Qd, app, Qa, Qc, Qe, Qf, Qg, simprocAttr, e0, n0]
    refine hM' _ (Qoe h6 _) h1 hs (by omega) ?_
    simp (maxSteps := 4000000) (disch := omega) only [rr, aop, cV, cV1, AV.one, Qb, okW, Qd, app, Qa, Qc, Qe, Qf, Qg, simprocAttr]
    exact ⟨m + 1, by omega, by omega, by rw [show c * (m + 1) = c * m + c by rw [Nat.mul_add, Nat.mul_one]]; exact Le.slots (by simp [Am.look])⟩
  · have e : c * m = l.length := by
      have := Nat.mul_le_mul_left c hm
      omega
    rw [e, Qnb]
    have lm := Qch c l
    simp (maxSteps := 4000000) (disch := omega) only [rr, aop, cV, cV1, AV.one, Qb, okW, Qd, app, Qa, Qc, Qe, Qf, Qg, simprocAttr]
    simp [Q7, QG, frzL, QF, isDL, isD, il, lm, frzL_T _ (Qq .i32 (QbO c l))]

/-! ### The reference -/

end Go.Am

namespace Go.Am
open Go.RowKit

/-! ### What is uncoded -/

def stB (c : Nat) (L : List Int) (z : ZK) (k : Nat) : Nat → ZK
  | 0 => z
  | n + 1 => QaQ (stB c L z k n) (L.getD (k + n * c) 0)
def Qv8 (c : Nat) (L : List Int) (z : ZK) (j : Nat) : Int := Qix (stB c L z (j % c) (j / c)) (L.getD j 0)
def Qiz (c : Nat) (L : List Int) (z : ZK) (a : Nat) : List Int := (List.range a).map (Qv8 c L z)
theorem JJ (c : Nat) (L : List Int) (z : ZK) (a : Nat) : (Qiz c L z a).length = a := by simp [Qiz]
theorem Qsi (c : Nat) (L : List Int) (z : ZK) (a : Nat) : Qiz c L z a ++ [Qv8 c L z a] = Qiz c L z (a + 1) := by simp [Qiz, List.range_succ]
theorem Qog (c : Nat) (L : List Int) (z : ZK) (a : Nat) : I32 (Qiz c L z a) := by
  intro v hv
  simp only [Qiz, List.mem_map] at hv
  obtain ⟨j, _, rfl⟩ := hv
  exact XT _
theorem QqZ {c : Nat} {L : List Int} {z : ZK} (hz : Qnu z) (k : Nat) : ∀ n, Qnu (stB c L z k n)
  | 0 => hz
  | n + 1 => QlO (QqZ hz k n) _
def Qqe (c : Nat) (L : List Int) (z : ZK) (i : Nat) : Nat → ZK := fun k => if k < c then stB c L z k (cnt c k i) else z
theorem Qwv (c : Nat) (L : List Int) (z : ZK) : Qqe c L z 0 = fun _ => z := by
  funext k; simp [Qqe, Qw8, stB]
theorem Qve {c : Nat} (hc : 1 ≤ c) (L : List Int) (z : ZK) (i : Nat) : Qqe c L z i (i % c) = stB c L z (i % c) (i / c) := by
  rw [Qqe, if_pos (Nat.mod_lt _ (by omega)), Qn0]
theorem Qqd {c : Nat} (hc : 1 ≤ c) (L : List Int) (z : ZK) (i : Nat) : upd (Qqe c L z i) (i % c) (QaQ (stB c L z (i % c) (i / c)) (L.getD i 0)) = Qqe c L z (i + 1) := by
  funext k
  have hr := Nat.mod_lt i (show 0 < c by omega)
  by_cases hk : k < c
  · simp only [upd, Qqe, if_pos hk, QnZ hk]
    by_cases e : k = i % c
    · rw [if_pos e, if_pos e, e, stB]
      rw [show i % c + i / c * c = i by have := Nat.div_add_mod i c; rw [Nat.mul_comm]; omega]
    · rw [if_neg e, if_neg e]
  · simp only [upd, Qqe, if_neg hk]
    rw [if_neg (by omega)]
theorem Qvy {c : Nat} {L : List Int} {z : ZK} (hz : Qnu z) (i : Nat) : okS (Qqe c L z i) := fun k => by
  unfold Qqe; split
  · exact (QqZ hz k _).2.2.1
  · exact hz.2.2.1
def U32 (l : List Int) : Prop := ∀ x ∈ l, 0 ≤ x ∧ x < 4294967296
theorem Qus {l : List Int} (h : U32 l) (j : Nat) : 0 ≤ l.getD j 0 ∧ l.getD j 0 < 4294967296 := by
  by_cases hj : j < l.length
  · rw [List.getD_eq_getElem?_getD, List.getElem?_eq_getElem hj]
    exact h _ (List.getElem_mem hj)
  · rw [List.getD_eq_getElem?_getD, List.getElem?_eq_none (by omega)]; simp
theorem Qhz {v : List Int} {j : Nat} (h : j < v.length) : (v.map Xi).getD j 0 = Xi (v.getD j 0) := by
  simp [List.getD_eq_getElem?_getD, List.getElem?_map, List.getElem?_eq_getElem h]

def unB (c : Nat) (x : Int) (t v : List Int) : List Int := QbO c (Qiz c (v.map Xi) (JA x t) v.length)
theorem QdS (c : Nat) (x : Int) (t v : List Int) : (unB c x t v).length = v.length := by simp [unB, Qch, JJ]
def okV (c : Nat) (v : List Int) : Prop := 1 ≤ c ∧ c ≤ 6 ∧ 0 < v.length ∧ v.length ≤ 4000 ∧ v.length % c = 0 ∧ U32 v
theorem QxJ {c : Nat} {v : List Int} (h : okV c v) (x : Int) (t : List Int) : okM c (Qiz c (v.map Xi) (JA x t) v.length) := by
  obtain ⟨h1, h2, h3, h4, h5, _⟩ := h
  exact ⟨h1, h2, by rw [JJ]; omega, by rw [JJ]; omega, by rw [JJ]; exact h5, Qog _ _ _ _⟩
def Qhf (x : Int) (l : List Int) : AV := if QE x l ≠ 0 then .tup [.list 0 [], .int .i64 (QE x l)] else .tup [il l, .int .i64 0]
theorem QlS (x : Int) (l : List Int) : isD (Qhf x l) = true := by unfold Qhf; split <;> simp [isD, isDL, QS]
def Qob (P : Prg) (f : Nat) : Prop := ∀ (c : Nat) (x : Int) (t v : List Int), t.length = 16 → I32 t → okV c v → JB x ≠ 0 → VC P f [shA c x, .agg (ks .i32 t), QcH v] (Qhf x (unB c x t v))

set_option maxRecDepth 20000 in
theorem Qf0 {P : Prg} {f fN fO fB fU fW t0 t1 t2 t3 t4 : Nat} (b : Ql P f 84 [.tmp 6, .tmp 7] (XG fN fO fB fU fW t0 t1 t2 t3 t4)) (hN : Qoc P fN) (hO : QmQ P fO) (hB : Qm0 P fB) (hU : Qgm P fU) (hW : Qao P fW) : Qob P f := by
  intro k x t v hl hI hok hx
  have hk : (ks .i32 t).length = 16 := by simp [Qk, hl]
  have ot := ZP .i32 t
  have tt : (ks .i32 t).take 16 = ks .i32 t := Qs (by omega)
  refine VC.of_walk 1 (by simp [isDL, isD, Qfb, QK, shA]) (QlS _ _) (ACall.of_cut 5 b (by simp) ?_)
  have hz := Qq2 hx hl hI
  have l0 := QdV (S := fun _ => QaV) (fun _ => Qdr)
  have o0 := Qsv (fun _ => QaV)
  obtain ⟨h1, h2, h3, h4, h5, h6⟩ := id hok
  unfold XG
  rw [show ([.int .i64 0, .int .i32 0, .int .i64 0, .int .i32 0, .int .i32 0, .int .i32 0, .int .i32 0, .int .i32 0, .int .i32 0, .int .i32 0, .int .i32 0, .int .i32 0, .int .i32 0, .int .i32 0, .int .i32 0, .int .i32 0, .int .i32 0, .int .i32 0, .int .i32 0, .int .i32 0, .int .i32 0, .int .i32 0, .int .i32 0, .int .i32 0, .int .i32 0, .int .i32 0, .int .i32 0, .int .i32 0, .int .i32 0, .int .i32 0, .int .i32 0, .int .i32 0, .int .i32 0, .int .i32 0, .int .i32 0, .int .i64 0, .int .i32 0, .int .i64 0, .int .i32 0, .int .i32 0, .int .i32 0, .int .i32 0, .int .i32 0, .int .i32 0, .int .i32 0, .int .i32 0, .int .i32 0, .int .i32 0, .int .i32 0, .int .i32 0, .int .i32 0, .int .i32 0, .int .i32 0, .int .i32 0, .int .i32 0, .int .i32 0, .int .i32 0, .int .i32 0, .int .i32 0, .int .i32 0, .int .i32 0, .int .i32 0, .int .i32 0, .int .i32 0, .int .i32 0, .int .i32 0, .int .i32 0, .int .i32 0, .int .i32 0, .int .i32 0, .int .i64 0, .int .i32 0, .int .i64 0, .int .i32 0, .int .i32 0, .int .i32 0, .int .i32 0, .int .i32 0, .int .i32 0, .int .i32 0, .int .i32 0, .int .i32 0, .int .i32 0, .int .i32 0, .int .i32 0, .int .i32 0, .int .i32 0, .int .i32 0, .int .i32 0, .int .i32 0, .int .i32 0, .int .i32 0, .int .i32 0, .int .i32 0, .int .i32 0, .int .i32 0, .int .i32 0, .int .i32 0, .int .i32 0, .int .i32 0, .int .i32 0, .int .i32 0, .int .i32 0, .int .i32 0, .int .i32 0, .int .i64 0, .int .i32 0, .int .i64 0, .int .i32 0, .int .i32 0, .int .i32 0, .int .i32 0, .int .i32 0, .int .i32 0, .int .i32 0, .int .i32 0, .int .i32 0, .int .i32 0, .int .i32 0, .int .i32 0, .int .i32 0, .int .i32 0, .int .i32 0, .int .i32 0, .int .i32 0, .int .i32 0, .int .i32 0, .int .i32 0, .int .i32 0, .int .i32 0, .int .i32 0, .int .i32 0, .int .i32 0, .int .i32 0, .int .i32 0, .int .i32 0, .int .i32 0, .int .i32 0, .int .i32 0, .int .i32 0, .int .i64 0, .int .i32 0, .int .i64 0, .int .i32 0, .int .i32 0, .int .i32 0, .int .i32 0, .int .i32 0, .int .i32 0, .int .i32 0, .int .i32 0, .int .i32 0, .int .i32 0, .int .i32 0, .int .i32 0, .int .i32 0, .int .i32 0, .int .i32 0, .int .i32 0, .int .i32 0, .int .i32 0, .int .i32 0, .int .i32 0, .int .i32 0, .int .i32 0, .int .i32 0, .int .i32 0, .int .i32 0, .int .i32 0, .int .i32 0, .int .i32 0, .int .i32 0, .int .i32 0, .int .i32 0, .int .i32 0, .int .i64 0, .int .i32 0, .int .i64 0, .int .i32 0, .int .i32 0, .int .i32 0, .int .i32 0, .int .i32 0, .int .i32 0, .int .i32 0, .int .i32 0, .int .i32 0, .int .i32 0, .int .i32 0, .int .i32 0, .int .i32 0, .int .i32 0, .int .i32 0, .int .i32 0, .int .i32 0, .int .i32 0, .int .i32 0, .int .i32 0, .int .i32 0, .int .i32 0, .int .i32 0, .int .i32 0, .int .i32 0, .int .i32 0, .int .i32 0, .int .i32 0, .int .i32 0, .int .i32 0, .int .i32 0, .int .i32 0] : List AV) = six (fun _ => QaV) from rfl, ← Qcd]
  simp (maxSteps := 4000000) (disch := omega) only [rr, aop, cV, cV1, AV.one, Qb, okW, Qd, app, Qa, Qc, Qe, Qf, Qg, simprocAttr, XS, shA, QcH, hk, ot, tt, l0, o0]
  refine QN.by (ι := Nat) (fun i => ⟨[(20, .int .i64 i), (8, .ref 2 1 0), (4, .ref 1 1 0), (3, .ref 0 1 0), (2, QcH v)], [⟨t0, 2, 1, [.int .i64 k, .int .i64 x], 0⟩, ⟨t1, 16, 1, ks .i32 t, 0⟩, ⟨t2, 210, 1, six (Qq7 (JA x t) i), 0⟩]⟩) (fun i => i ≤ 6) (fun i => 6 - i) 0 (by rw [QuG]; exact Le.slots (by simp [Am.look, QcH])) (by omega) ?_
  intro i hi
  have oS := Qq1 hz.2.2.1 i
  have lS := QdV oS
  by_cases hlt : i < 6
  · have e1 := Qh2 oS hlt (JA x t)
    rw [Qj5] at e1
    have lc := Zs hz.2.2.1
    have oc := Z3 (JA x t)
    simp (maxSteps := 4000000) (disch := omega) only [rr, aop, cV, cV1, AV.one, Qb, okW, Qd, app, Qa, Qc, Qe, Qf, Qg, simprocAttr, hk, tt]
    refine Qh.vc (hN x t hl hI) ?_
    simp (maxSteps := 4000000) (disch := omega) only [rr, aop, cV, cV1, AV.one, Qb, okW, Qd, app, Qa, Qc, Qe, Qf, Qg, simprocAttr, Qmj, if_neg hx, lS, lc, oc, e1]
    exact ⟨i + 1, by omega, by omega, Le.slots (by simp [Am.look])⟩
  · have : i = 6 := by omega
    subst this
    simp (maxSteps := 4000000) (disch := omega) only [rr, aop, cV, cV1, AV.one, Qb, okW, Qd, app, Qa, Qc, Qe, Qf, Qg, simprocAttr, XS, QcH]
    have tv : isTL (ks .u32 v) = true := Qq _ _
    refine QN.by (ι := Nat) (fun i => ⟨[(35, .int .i64 i), (34, .int .i64 v.length), (33, QcH v), (10, .own 3 i), (8, .ref 2 1 0), (3, .ref 0 1 0)], [⟨t0, 2, 1, [.int .i64 k, .int .i64 x], 0⟩, ⟨t1, 16, 1, ks .i32 t, 0⟩, ⟨t2, 210, 1, six (Qqe k (v.map Xi) (JA x t) i), 0⟩, ⟨t4, 1, i, ks .i32 (Qiz k (v.map Xi) (JA x t) i), 0⟩]⟩) (fun i => i ≤ v.length) (fun i => v.length - i) 0 (by rw [Qwv, ← Qwx]; exact Le.trans (Le.virt 10 t4 1 (by omega) rfl) (Le.slots (by simp [Am.look, Qiz, QcH]))) (by omega) ?_
    intro i hi
    have lo := JJ k (v.map Xi) (JA x t) i
    have to : isTL (ks .i32 (Qiz k (v.map Xi) (JA x t) i)) = true := Qq _ _
    by_cases hlt : i < v.length
    · have oS := Qvy hz (c := k) (L := v.map Xi) i
      have lS := QdV oS
      have hr := Nat.mod_lt i (show 0 < k by omega)
      have e0 := QuB oS (k := i % k) (by omega)
      rw [Qve h1] at e0
      have e1 := Qh2 oS (k := i % k) (by omega) (QaQ (stB k (v.map Xi) (JA x t) (i % k) (i / k)) ((v.map Xi).getD i 0))
      rw [Qqd h1] at e1
      have hok2 := QqZ (c := k) (L := v.map Xi) hz (i % k) (i / k)
      have eb := Qhz hlt
      have hO' := hO (v.getD i 0) (Qus h6 i)
      rw [← eb] at hO'
      have hB' := hB _ ((v.map Xi).getD i 0) hok2
      have hok3 := QlO hok2 ((v.map Xi).getD i 0)
      have e2 := QbY (K := .u32) (l := v) (i := i) hlt
      have e3 : ks .i32 (Qiz k (v.map Xi) (JA x t) i) ++ [.int .i32 (Qix (stB k (v.map Xi) (JA x t) (i % k) (i / k)) ((v.map Xi).getD i 0))] = ks .i32 (Qiz k (v.map Xi) (JA x t) (i + 1)) := by rw [Qif, ← Qsi]; rfl
      have lc := Zs hok3.2.2.1
      have oc := Z3 (QaQ (stB k (v.map Xi) (JA x t) (i % k) (i / k)) ((v.map Xi).getD i 0))
      have tc : (QX (QaQ (stB k (v.map Xi) (JA x t) (i % k) (i / k)) ((v.map Xi).getD i 0))).take 35 = QX (QaQ (stB k (v.map Xi) (JA x t) (i % k) (i / k)) ((v.map Xi).getD i 0)) := Qs (by omega)
      have lz := Zs Qdr
      have oz := Z3 QaV
      have dz : (QX QaV).drop 35 = [] := List.drop_eq_nil_of_le (by omega)
      have em : (i : Int) % k = (i % k : Nat) := by omega
      simp (maxSteps := 4000000) (disch := omega) only [rr, aop, cV, cV1, AV.one, Qb, okW, Qd, app, Qa, Qc, Qe, Qf, Qg, simprocAttr, QcH, e2, em, e0]
      refine QQ.vc hO' ?_
      simp (maxSteps := 4000000) (disch := omega) only [rr, aop, cV, cV1, AV.one, Qb, okW, Qd, app, Qa, Qc, Qe, Qf, Qg, simprocAttr]
      refine QQ.vc hB' ?_
      simp (maxSteps := 4000000) (disch := omega) only [rr, aop, cV, cV1, AV.one, Qb, okW, Qd, app, Qa, Qc, Qe, Qf, Qg, simprocAttr, lz, oz, lc, oc, tc, e1, lS, dz, e3, List.append_nil, List.take_zero, List.nil_append]
      exact ⟨i + 1, by omega, by omega, Le.dropT [_, _, _, _] (by simp [QnG, Qq, isTL, isT]) (by simp [Am.look, QG, frzL, QF, frzL_T _ tv])⟩
    · have e : i = v.length := by omega
      subst e
      simp (maxSteps := 4000000) (disch := omega) only [rr, aop, cV, cV1, AV.one, Qb, okW, Qd, app, Qa, Qc, Qe, Qf, Qg, simprocAttr, XS]
      refine ⟨⟨[(10, il (Qiz k (v.map Xi) (JA x t) v.length)), (3, .ref 0 1 0)], [⟨t0, 2, 1, [.int .i64 k, .int .i64 x], 0⟩]⟩, Le.dropT [_] (by simp [isTL, isT]) (by simp [Am.look, QG, frzL, QF, il, lo, frzL_T _ to]), ?_⟩
      simp (maxSteps := 4000000) (disch := omega) only [rr, aop, cV, cV1, AV.one, Qb, okW, Qd, app, Qa, Qc, Qe, Qf, Qg, simprocAttr]
      refine Qh.vc (hU k _ (QxJ hok x t)) ?_
      simp (maxSteps := 4000000) (disch := omega) only [rr, aop, cV, cV1, AV.one, Qb, okW, Qd, app, Qa, Qc, Qe, Qf, Qg, simprocAttr]
      refine Qh.vc (hW x (unB k x t v) (QpH (Qog _ _ _ _))) ?_
      have lu := QdS k x t v
      by_cases h9 : QE x (unB k x t v) = 0
      · have e9 : Qhf x (unB k x t v) = .tup [il (unB k x t v), .int .i64 0] := by simp [Qhf, h9]
        simp (maxSteps := 4000000) (disch := omega) only [rr, aop, cV, cV1, AV.one, Qb, okW, Qd, app, Qa, Qc, Qe, Qf, Qg, simprocAttr, h9, e9]
        simp only [unB] at *
        simp [Q7, QG, frzL, QF, isDL, isD, il, frzL_T _ (Qq .i32 _)]
      · have e9 : Qhf x (unB k x t v) = .tup [.list 0 [], .int .i64 (QE x (unB k x t v))] := by simp [Qhf, h9]
        simp (maxSteps := 4000000) (disch := omega) only [rr, aop, cV, cV1, AV.one, Qb, okW, Qd, app, Qa, Qc, Qe, Qf, Qg, simprocAttr, h9, e9]
        simp [Q7, QG, frzL, QF, isDL, isD]
end Go.Am

namespace Go.Am
open Go.RowKit

def erA (e : Int) : AV := .tup [.list 0 [], .int .i64 e]
def dfA (c x : Int) (t v : List Int) : AV :=
  if QV c x ≠ 0 then erA 2 else if 4000 < v.length then erA 4 else if v.length = 0 ∨ (v.length : Int) % c ≠ 0 then erA 2 else Qhf x (unB c.toNat x t v)
theorem QwO (c x : Int) (t v : List Int) : isD (dfA c x t v) = true := by
  unfold dfA
  split
  · rfl
  split
  · rfl
  split
  · rfl
  · exact QlS _ _
def Qem (P : Prg) (f : Nat) : Prop := ∀ (c x : Int) (t v : List Int), t.length = 16 → I32 t → U32 v → VC P f [shA c x, .agg (ks .i32 t), QcH v] (dfA c x t v)
theorem Qw3 {c x : Int} {t v : List Int} (h : QV c x = 2) : dfA c x t v = erA 2 := by simp [dfA, h]
theorem Qw4 {c x : Int} {t v : List Int} (h : QV c x = 0) (h2 : 4000 < v.length) : dfA c x t v = erA 4 := by simp [dfA, h, h2]
theorem QuS {c x : Int} {t v : List Int} (h : QV c x = 0) (h2 : ¬ 4000 < v.length) (h3 : v.length = 0 ∨ (v.length : Int) % c ≠ 0) : dfA c x t v = erA 2 := by
  rw [dfA, if_neg (by simp [h]), if_neg h2, if_pos h3]
theorem Qw2 {k : Nat} {x : Int} {t v : List Int} (h : QV k x = 0) (h2 : ¬ 4000 < v.length) (h3 : ¬ (v.length = 0 ∨ (v.length : Int) % k ≠ 0)) : dfA k x t v = Qhf x (unB k x t v) := by
  rw [dfA, if_neg (by simp [h]), if_neg h2, if_neg h3]; rfl

theorem Qf1 {P : Prg} {f fE fS t0 t1 : Nat} (b : Ql P f 34 [.tmp 6, .tmp 7] (XH fE fS t0 t1)) (hE : XN P fE) (hS : Qob P fS) : Qem P f := by
  intro c x t v hl hI hV
  have hk : (ks .i32 t).length = 16 := by simp [Qk, hl]
  have ot := ZP .i32 t
  have tt : (ks .i32 t).take 16 = ks .i32 t := Qs (by omega)
  refine VC.of_walk 1 (by simp [isDL, isD, Qfb, QK, shA]) (QwO _ _ _ _) (ACall.of_body b (by simp) ?_)
  have hE' := hE c x
  rw [shA] at hE'
  simp (maxSteps := 4000000) (disch := omega) only [rr, aop, cV, cV1, AV.one, Qb, okW, Qd, app, Qa, Qc, Qe, Qf, Qg, simprocAttr, XH, shA, hk, ot, tt]
  refine Qh.vc hE' ?_
  rcases QM c x with h1 | ⟨h1, h2, h3, h4⟩
  · simp (maxSteps := 4000000) (disch := omega) only [rr, aop, cV, cV1, AV.one, Qb, okW, Qd, app, Qa, Qc, Qe, Qf, Qg, simprocAttr, h1, Qw3 h1]
    simp [Q7, QG, frzL, QF, isDL, isD, erA]
  by_cases h5 : 4000 < v.length
  · simp (maxSteps := 4000000) (disch := omega) only [rr, aop, cV, cV1, AV.one, Qb, okW, Qd, app, Qa, Qc, Qe, Qf, Qg, simprocAttr, h1, QcH, Qw4 h1 h5]
    simp [Q7, QG, frzL, QF, isDL, isD, erA]
  by_cases h6 : v.length = 0
  · simp (maxSteps := 4000000) (disch := omega) only [rr, aop, cV, cV1, AV.one, Qb, okW, Qd, app, Qa, Qc, Qe, Qf, Qg, simprocAttr, h1, QcH, h6, QuS h1 h5 (.inl h6)]
    simp [Q7, QG, frzL, QF, isDL, isD, erA]
  obtain ⟨k, rfl⟩ : ∃ k : Nat, c = k := ⟨c.toNat, by omega⟩
  have hm := JY (n := v.length) (c := (k : Int)) (by omega)
  by_cases h7 : (v.length : Int) % k = 0
  · have hS' := hS k x t v hl hI ⟨by omega, by omega, by omega, by omega, by omega, hV⟩ h2
    rw [shA] at hS'
    simp (maxSteps := 4000000) (disch := omega) only [rr, aop, cV, cV1, AV.one, Qb, okW, Qd, app, Qa, Qc, Qe, Qf, Qg, simprocAttr, h1, QcH, h6, h7, hk, tt]
    rw [QcH] at hS'
    refine Qh.vc hS' ?_
    rw [Qw2 h1 h5 (by omega)]
    by_cases h9 : QE x (unB k x t v) = 0
    · have e9 : Qhf x (unB k x t v) = .tup [il (unB k x t v), .int .i64 0] := by simp [Qhf, h9]
      simp (maxSteps := 4000000) (disch := omega) only [rr, aop, cV, cV1, AV.one, Qb, okW, Qd, app, Qa, Qc, Qe, Qf, Qg, simprocAttr, e9]
      simp [Q7, QG, frzL, QF, isDL, isD, il, frzL_T _ (Qq .i32 _)]
    · have e9 : Qhf x (unB k x t v) = .tup [.list 0 [], .int .i64 (QE x (unB k x t v))] := by simp [Qhf, h9]
      simp (maxSteps := 4000000) (disch := omega) only [rr, aop, cV, cV1, AV.one, Qb, okW, Qd, app, Qa, Qc, Qe, Qf, Qg, simprocAttr, e9]
      simp [Q7, QG, frzL, QF, isDL, isD]
  · simp (maxSteps := 4000000) (disch := omega) only [rr, aop, cV, cV1, AV.one, Qb, okW, Qd, app, Qa, Qc, Qe, Qf, Qg, simprocAttr, h1, QcH, h6, h7, QuS h1 h5 (.inr h7)]
    simp [Q7, QG, frzL, QF, isDL, isD, erA]

end Go.Am

namespace Go.Am
open Go.RowKit

def QgY (r n : Int) : AV := if r < 1 ∨ 1048576 < r then .tup [.int .i64 0, .int .i64 2] else if n < 1 ∨ 4000 < n then .tup [.int .i64 0, .int .i64 2] else if 1000 < (n + Qw r - 1) / Qw r then .tup [.int .i64 0, .int .i64 4] else .tup [.int .i64 ((n + Qw r - 1) / Qw r), .int .i64 0]
theorem Qrl (r n : Int) : isD (QgY r n) = true := by unfold QgY; split <;> (try split) <;> (try split) <;> rfl
def Qab (P : Prg) (f : Nat) : Prop := ∀ r n : Int, VC P f [.int .i64 r, .int .i64 n] (QgY r n)

theorem Qib {P : Prg} {f fL : Nat} (b : Ql P f 32 [.tmp 4, .tmp 5] (Jv fL)) (hL : Qbu P fL) : Qab P f := by
  intro r n
  refine VC.of_acall rfl (Qrl _ _) (ACall.of_body b (by simp) ?_)
  have hL' := hL r
  simp (maxSteps := 4000000) (disch := omega) only [rr, aop, cV, cV1, AV.one, Qb, okW, Qd, app, Qa, Qc, Qe, Qf, Qg, simprocAttr, Jv]
  refine Qh.vc hL' ?_
  by_cases h1 : r < 1 ∨ 1048576 < r
  · have e1 : QbE r = .tup [.int .i64 0, .int .i64 2] := by rw [QbE, if_pos h1]
    have e2 : QgY r n = .tup [.int .i64 0, .int .i64 2] := by rw [QgY, if_pos h1]
    simp (maxSteps := 4000000) (disch := omega) only [rr, aop, cV, cV1, AV.one, Qb, okW, Qd, app, Qa, Qc, Qe, Qf, Qg, simprocAttr, e1, e2]
  have e1 : QbE r = .tup [.int .i64 (Qw r), .int .i64 0] := by rw [QbE, if_neg h1]
  have p1 := Xf r
  have p2 := QnA (r := r) (by omega)
  by_cases h2 : n < 1
  · have e2 : QgY r n = .tup [.int .i64 0, .int .i64 2] := by rw [QgY, if_neg h1, if_pos (.inl h2)]
    simp (maxSteps := 4000000) (disch := omega) only [rr, aop, cV, cV1, AV.one, Qb, okW, Qd, app, Qa, Qc, Qe, Qf, Qg, simprocAttr, e1, e2]
  by_cases h3 : 4000 < n
  · have e2 : QgY r n = .tup [.int .i64 0, .int .i64 2] := by rw [QgY, if_neg h1, if_pos (.inr h3)]
    simp (maxSteps := 4000000) (disch := omega) only [rr, aop, cV, cV1, AV.one, Qb, okW, Qd, app, Qa, Qc, Qe, Qf, Qg, simprocAttr, e1, e2]
  have e2 : QgY r n = if 1000 < (n + Qw r - 1) / Qw r then .tup [.int .i64 0, .int .i64 4] else .tup [.int .i64 ((n + Qw r - 1) / Qw r), .int .i64 0] := by
    rw [QgY, if_neg h1, if_neg (by omega)]
  generalize Qw r = L at *
  have q0 : (n + L - 1).tdiv L = (n + L - 1) / L := Int.tdiv_eq_ediv_of_nonneg (by omega)
  have q1 : 0 ≤ (n + L - 1) / L := Int.ediv_nonneg (by omega) (by omega)
  have q2 : (n + L - 1) / L ≤ n + L - 1 := Int.ediv_le_self _ (by omega)
  generalize hq : (n + L - 1) / L = Q at *
  by_cases h4 : 1000 < Q
  · rw [if_pos h4] at e2
    simp (maxSteps := 4000000) (disch := omega) only [rr, aop, cV, cV1, AV.one, Qb, okW, Qd, app, Qa, Qc, Qe, Qf, Qg, simprocAttr, e1, q0, hq, e2]
  · rw [if_neg h4] at e2
    simp (maxSteps := 4000000) (disch := omega) only [rr, aop, cV, cV1, AV.one, Qb, okW, Qd, app, Qa, Qc, Qe, Qf, Qg, simprocAttr, e1, q0, hq, e2]

def XM (P : Prg) (f : Nat) : Prop := ∀ (c x r : Int) (l : List Int), VC P f [.agg [.int .i64 c, .int .i64 x, .int .i64 r, il l]] (shA c x)
theorem Qpj {P : Prg} {f t0 t1 : Nat} (b : Ql P f 8 [.cell 2 t1] (Z7 t0 t1)) (ht : ZD P t1 = some (some 2)) : XM P f := by
  intro c x r l
  refine VC.of_acall (by simp [isDL, isD, QS]) rfl (ACall.of_body b (by simp) ?_)
  simp (maxSteps := 4000000) (disch := omega) only [rr, aop, cV, cV1, AV.one, Qb, okW, Qd, app, Qa, Qc, Qe, Qf, Qg, simprocAttr, Z7, il, ZG, ht, shA]
theorem QlE {P : Prg} {f t0 t1 : Nat} (b : Ql P f 8 [.cell 2 t1] (ZW t0 t1)) (ht : ZD P t1 = some (some 2)) : XM P f := by
  intro c x r l
  refine VC.of_acall (by simp [isDL, isD, QS]) rfl (ACall.of_body b (by simp) ?_)
  simp (maxSteps := 4000000) (disch := omega) only [rr, aop, cV, cV1, AV.one, Qb, okW, Qd, app, Qa, Qc, Qe, Qf, Qg, simprocAttr, ZW, il, ZG, ht, shA]

def Qk4 (r n : Int) : Int := if r < 1 ∨ 1048576 < r then 2 else if n < 1 ∨ 4000 < n then 2 else if 1000 < (n + Qw r - 1) / Qw r then 4 else 0
theorem Qn1 (r n : Int) : ∃ k : Int, QgY r n = .tup [.int .i64 k, .int .i64 (Qk4 r n)] := by
  unfold QgY Qk4
  split
  · exact ⟨_, rfl⟩
  split
  · exact ⟨_, rfl⟩
  split
  · exact ⟨_, rfl⟩
  · exact ⟨_, rfl⟩
def ZQ (c x r n : Int) : Int := if QV c x ≠ 0 then 8 else if n < 1 then 8 else if 4000 / c < n then 8 else if Qk4 r n ≠ 0 then 8 else 0
def Qjc (P : Prg) (f : Nat) : Prop := ∀ (c x r n : Int) (l : List Int), VC P f [.agg [.int .i64 c, .int .i64 x, .int .i64 r, il l], .int .i64 n] (.int .i64 (ZQ c x r n))
theorem QrY {P : Prg} {f fS fE fC t0 : Nat} (b : Ql P f 31 [.tmp 4] (Qb8 fS fE fC t0)) (hS : XM P fS) (hE : XN P fE) (hC : Qab P fC) : Qjc P f := by
  intro c x r n l
  refine VC.of_acall (by simp [isDL, isD, QS]) rfl (ACall.of_body b (by simp) ?_)
  have hS' := hS c x r l
  have hE' := hE c x
  rw [shA] at hS' hE'
  rw [il] at hS'
  obtain ⟨k, ek⟩ := Qn1 r n
  have hC' := hC r n
  rw [ek] at hC'
  simp (maxSteps := 4000000) (disch := omega) only [rr, aop, cV, cV1, AV.one, Qb, okW, Qd, app, Qa, Qc, Qe, Qf, Qg, simprocAttr, Qb8, il]
  refine Qh.vc hS' ?_
  simp (maxSteps := 4000000) (disch := omega) only [rr, aop, cV, cV1, AV.one, Qb, okW, Qd, app, Qa, Qc, Qe, Qf, Qg, simprocAttr]
  refine Qh.vc hE' ?_
  rcases QM c x with h1 | ⟨h1, h2, h3, h4⟩
  · have e9 : ZQ c x r n = 8 := by simp [ZQ, h1]
    simp (maxSteps := 4000000) (disch := omega) only [rr, aop, cV, cV1, AV.one, Qb, okW, Qd, app, Qa, Qc, Qe, Qf, Qg, simprocAttr, h1, e9]
  have q0 : (4000 : Int).tdiv c = 4000 / c := Int.tdiv_eq_ediv_of_nonneg (by omega)
  have q1 : 0 ≤ (4000 : Int) / c := Int.ediv_nonneg (by omega) (by omega)
  have q2 : (4000 : Int) / c ≤ 4000 := Int.ediv_le_self _ (by omega)
  by_cases h5 : n < 1
  · have e9 : ZQ c x r n = 8 := by simp [ZQ, h5]
    simp (maxSteps := 4000000) (disch := omega) only [rr, aop, cV, cV1, AV.one, Qb, okW, Qd, app, Qa, Qc, Qe, Qf, Qg, simprocAttr, h1, e9]
  by_cases h6 : 4000 / c < n
  · have e9 : ZQ c x r n = 8 := by simp [ZQ, h6]
    simp (maxSteps := 4000000) (disch := omega) only [rr, aop, cV, cV1, AV.one, Qb, okW, Qd, app, Qa, Qc, Qe, Qf, Qg, simprocAttr, h1, e9, q0]
  simp (maxSteps := 4000000) (disch := omega) only [rr, aop, cV, cV1, AV.one, Qb, okW, Qd, app, Qa, Qc, Qe, Qf, Qg, simprocAttr, h1, q0]
  refine Qh.vc hC' ?_
  by_cases h7 : Qk4 r n = 0
  · have e9 : ZQ c x r n = 0 := by simp [ZQ, h1, h5, h6, h7]
    simp (maxSteps := 4000000) (disch := omega) only [rr, aop, cV, cV1, AV.one, Qb, okW, Qd, app, Qa, Qc, Qe, Qf, Qg, simprocAttr, h7, e9]
  · have e9 : ZQ c x r n = 8 := by simp [ZQ, h7]
    simp (maxSteps := 4000000) (disch := omega) only [rr, aop, cV, cV1, AV.one, Qb, okW, Qd, app, Qa, Qc, Qe, Qf, Qg, simprocAttr, h7, e9]

def ZC (c x r : Int) (l : List Int) : Int := if c < 1 then 8 else if (l.length : Int) % c ≠ 0 then 8 else if ZQ c x r (l.length / c) ≠ 0 then 8 else if QE x l ≠ 0 then 8 else 0
theorem Qho (c x r n : Int) : ZQ c x r n = 8 ∨ ZQ c x r n = 0 := by
  unfold ZQ; split <;> (try split) <;> (try split) <;> (try split) <;> simp
def Xr (P : Prg) (f : Nat) : Prop := ∀ (c x r : Int) (l : List Int), I32 l → l.length ≤ 1000000 → VC P f [.agg [.int .i64 c, .int .i64 x, .int .i64 r, il l]] (.int .i64 (ZC c x r l))
theorem Qpm {P : Prg} {f fH fW t0 : Nat} (b : Ql P f 33 [.tmp 2] (XI fH fW t0)) (hH : Qjc P fH) (hW : Qao P fW) : Xr P f := by
  intro c x r l hI hl
  · refine VC.of_acall (by simp [isDL, isD, QS]) rfl (ACall.of_body b (by simp) ?_)
    by_cases h1 : c < 1
    · have e9 : ZC c x r l = 8 := by simp [ZC, h1]
      simp (maxSteps := 4000000) (disch := omega) only [rr, aop, cV, cV1, AV.one, Qb, okW, Qd, app, Qa, Qc, Qe, Qf, Qg, simprocAttr, XI, il, e9]
    have hm := JY (n := l.length) (c := c) (by omega)
    have hd := Qkp (n := l.length) (c := c) (by omega)
    have q0 : (l.length : Int).tdiv c = l.length / c := Int.tdiv_eq_ediv_of_nonneg (by omega)
    by_cases h2 : (l.length : Int) % c = 0
    · have hH' := hH c x r (l.length / c) l
      have hW' := hW x l hI
      rw [il] at hH' hW'
      simp (maxSteps := 4000000) (disch := omega) only [rr, aop, cV, cV1, AV.one, Qb, okW, Qd, app, Qa, Qc, Qe, Qf, Qg, simprocAttr, XI, il, h2, q0]
      refine QQ.vc hH' ?_
      rcases Qho c x r (l.length / c) with h3 | h3
      · have e9 : ZC c x r l = 8 := by simp [ZC, h3]
        simp (maxSteps := 4000000) (disch := omega) only [rr, aop, cV, cV1, AV.one, Qb, okW, Qd, app, Qa, Qc, Qe, Qf, Qg, simprocAttr, h3, e9]
      · simp (maxSteps := 4000000) (disch := omega) only [rr, aop, cV, cV1, AV.one, Qb, okW, Qd, app, Qa, Qc, Qe, Qf, Qg, simprocAttr, h3]
        refine Qh.vc hW' ?_
        by_cases h4 : QE x l = 0
        · have e9 : ZC c x r l = 0 := by simp [ZC, h1, h2, h3, h4]
          simp (maxSteps := 4000000) (disch := omega) only [rr, aop, cV, cV1, AV.one, Qb, okW, Qd, app, Qa, Qc, Qe, Qf, Qg, simprocAttr, h4, e9]
        · have e9 : ZC c x r l = 8 := by simp [ZC, h4]
          simp (maxSteps := 4000000) (disch := omega) only [rr, aop, cV, cV1, AV.one, Qb, okW, Qd, app, Qa, Qc, Qe, Qf, Qg, simprocAttr, h4, e9]
    · have e9 : ZC c x r l = 8 := by simp [ZC, h2]
      simp (maxSteps := 4000000) (disch := omega) only [rr, aop, cV, cV1, AV.one, Qb, okW, Qd, app, Qa, Qc, Qe, Qf, Qg, simprocAttr, XI, il, h2, e9]

def QO (c x n : Int) : Int := if QV c x ≠ 0 then 2 else if n < 1 then 2 else if 4000 / c < n then 2 else 0
def Qcc (P : Prg) (f : Nat) : Prop := ∀ c x n : Int, VC P f [shA c x, .int .i64 n] (.int .i64 (QO c x n))
theorem QlH {P : Prg} {f fE t0 : Nat} (b : Ql P f 19 [.tmp 4] (ZY fE t0)) (hE : XN P fE) : Qcc P f := by
  intro c x n
  refine VC.of_acall (by simp [isDL, isD, shA]) rfl (ACall.of_body b (by simp) ?_)
  have hE' := hE c x
  rw [shA] at hE'
  simp (maxSteps := 4000000) (disch := omega) only [rr, aop, cV, cV1, AV.one, Qb, okW, Qd, app, Qa, Qc, Qe, Qf, Qg, simprocAttr, ZY, shA]
  refine Qh.vc hE' ?_
  rcases QM c x with h1 | ⟨h1, h2, h3, h4⟩
  · have e9 : QO c x n = 2 := by simp [QO, h1]
    simp (maxSteps := 4000000) (disch := omega) only [rr, aop, cV, cV1, AV.one, Qb, okW, Qd, app, Qa, Qc, Qe, Qf, Qg, simprocAttr, h1, e9]
  have q0 : (4000 : Int).tdiv c = 4000 / c := Int.tdiv_eq_ediv_of_nonneg (by omega)
  have q1 : 0 ≤ (4000 : Int) / c := Int.ediv_nonneg (by omega) (by omega)
  have q2 : (4000 : Int) / c ≤ 4000 := Int.ediv_le_self _ (by omega)
  by_cases h5 : n < 1
  · have e9 : QO c x n = 2 := by simp [QO, h5]
    simp (maxSteps := 4000000) (disch := omega) only [rr, aop, cV, cV1, AV.one, Qb, okW, Qd, app, Qa, Qc, Qe, Qf, Qg, simprocAttr, h1, e9]
  by_cases h6 : 4000 / c < n
  · have e9 : QO c x n = 2 := by simp [QO, h6]
    simp (maxSteps := 4000000) (disch := omega) only [rr, aop, cV, cV1, AV.one, Qb, okW, Qd, app, Qa, Qc, Qe, Qf, Qg, simprocAttr, h1, e9, q0]
  · have e9 : QO c x n = 0 := by simp [QO, h1, h5, h6]
    simp (maxSteps := 4000000) (disch := omega) only [rr, aop, cV, cV1, AV.one, Qb, okW, Qd, app, Qa, Qc, Qe, Qf, Qg, simprocAttr, h1, e9, q0]
end Go.Am

namespace Go.Am
open Go.RowKit

def QJ (L n : Nat) : List Int := List.replicate ((n - 1) / L) (L : Int) ++ [(n : Int) - ((n - 1) / L * L : Nat)]
theorem ZO (L n : Nat) : (QJ L n).length = (n - 1) / L + 1 := by simp [QJ]
theorem Qtm (k : Nat) (a : Int) : List.replicate k a ++ [a] = List.replicate (k + 1) a := by rw [List.replicate_succ']
def QvK (l : List Int) : AV := .list l.length (ks .i64 l)
theorem QtU (l : List Int) : isD (QvK l) = true := by simp [QvK, isD, QK]
def QkV (r n : Int) : AV := if r < 1 ∨ 1048576 < r ∨ n < 1 ∨ 4000 < n then .tup [.list 0 [], .int .i64 2] else if 1000 < (QJ (Qw r).toNat n.toNat).length then .tup [.list 0 [], .int .i64 4] else .tup [QvK (QJ (Qw r).toNat n.toNat), .int .i64 0]
theorem QvJ (r n : Int) : isD (QkV r n) = true := by unfold QkV; split <;> (try split) <;> simp [isD, isDL, QtU]
def Qm1 (P : Prg) (f : Nat) : Prop := ∀ r n : Int, VC P f [.int .i64 r, .int .i64 n] (QkV r n)

theorem QqK {P : Prg} {f fL t0 : Nat} (b : Ql P f 41 [.tmp 4, .tmp 5] (QR fL t0)) (hL : Qbu P fL) : Qm1 P f := by
  intro r n
  refine VC.of_walk 1 rfl (QvJ _ _) (ACall.of_body b (by simp) ?_)
  have hL' := hL r
  by_cases h1 : r < 1 ∨ 1048576 < r
  · have e1 : QbE r = .tup [.int .i64 0, .int .i64 2] := by rw [QbE, if_pos h1]
    have e2 : QkV r n = .tup [.list 0 [], .int .i64 2] := by rw [QkV, if_pos (by omega)]
    simp (maxSteps := 4000000) (disch := omega) only [rr, aop, cV, cV1, AV.one, Qb, okW, Qd, app, Qa, Qc, Qe, Qf, Qg, simprocAttr, QR]
    refine Qh.vc hL' ?_
    simp (maxSteps := 4000000) (disch := omega) only [rr, aop, cV, cV1, AV.one, Qb, okW, Qd, app, Qa, Qc, Qe, Qf, Qg, simprocAttr, e1, e2]
    simp [Q7, QG, frzL, QF, isDL, isD]
  have e1 : QbE r = .tup [.int .i64 (Qw r), .int .i64 0] := by rw [QbE, if_neg h1]
  rw [e1] at hL'
  have p1 := Xf r
  have p2 := QnA (r := r) (by omega)
  by_cases h2 : n < 1
  · have e2 : QkV r n = .tup [.list 0 [], .int .i64 2] := by rw [QkV, if_pos (by omega)]
    simp (maxSteps := 4000000) (disch := omega) only [rr, aop, cV, cV1, AV.one, Qb, okW, Qd, app, Qa, Qc, Qe, Qf, Qg, simprocAttr, QR]
    refine Qh.vc hL' ?_
    simp (maxSteps := 4000000) (disch := omega) only [rr, aop, cV, cV1, AV.one, Qb, okW, Qd, app, Qa, Qc, Qe, Qf, Qg, simprocAttr, e2]
    simp [Q7, QG, frzL, QF, isDL, isD]
  by_cases h3 : 4000 < n
  · have e2 : QkV r n = .tup [.list 0 [], .int .i64 2] := by rw [QkV, if_pos (by omega)]
    simp (maxSteps := 4000000) (disch := omega) only [rr, aop, cV, cV1, AV.one, Qb, okW, Qd, app, Qa, Qc, Qe, Qf, Qg, simprocAttr, QR]
    refine Qh.vc hL' ?_
    simp (maxSteps := 4000000) (disch := omega) only [rr, aop, cV, cV1, AV.one, Qb, okW, Qd, app, Qa, Qc, Qe, Qf, Qg, simprocAttr, e2]
    simp [Q7, QG, frzL, QF, isDL, isD]
  have e2 : QkV r n = if 1000 < (QJ (Qw r).toNat n.toNat).length then .tup [.list 0 [], .int .i64 4] else .tup [QvK (QJ (Qw r).toNat n.toNat), .int .i64 0] := by rw [QkV, if_neg (by omega)]
  generalize Qw r = Li at *
  obtain ⟨L, rfl⟩ : ∃ L : Nat, Li = L := ⟨Li.toNat, by omega⟩
  obtain ⟨m, rfl⟩ : ∃ m : Nat, n = m := ⟨n.toNat, by omega⟩
  simp only [Int.toNat_natCast] at e2
  have g1 : (m - 1) / L * L ≤ m - 1 := Nat.div_mul_le_self _ _
  have g2 : m - 1 < ((m - 1) / L + 1) * L := by
    have := Nat.lt_div_mul_add (a := m - 1) (b := L) (by omega)
    rw [Nat.add_mul, Nat.one_mul]; omega
  rw [Nat.add_mul, Nat.one_mul] at g2
  have g3 : (m - 1) / L ≤ m - 1 := Nat.div_le_self _ _
  have ll := ZO L m
  have lf : QJ L m = List.replicate ((m - 1) / L) (L : Int) ++ [(m : Int) - ((m - 1) / L * L : Nat)] := rfl
  generalize hq : (m - 1) / L = q at *
  simp (maxSteps := 4000000) (disch := omega) only [rr, aop, cV, cV1, AV.one, Qb, okW, Qd, app, Qa, Qc, Qe, Qf, Qg, simprocAttr, QR]
  refine Qh.vc hL' ?_
  simp (maxSteps := 4000000) (disch := omega) only [rr, aop, cV, cV1, AV.one, Qb, okW, Qd, app, Qa, Qc, Qe, Qf, Qg, simprocAttr]
  refine QN.by (ι := Option Nat) (fun i => match i with
      | some k => ⟨[(1, .int .i64 ((m : Int) - (k * L : Nat))), (8, .own 0 k), (6, .int .i64 L)], [⟨t0, 1, k, ks .i64 (List.replicate k (L : Int)), 0⟩]⟩
      | none => ⟨[(1, .int .i64 0), (8, .own 0 (q + 1)), (6, .int .i64 L)], [⟨t0, 1, q + 1, ks .i64 (QJ L m), 0⟩]⟩)
    (fun i => match i with | some k => k ≤ q | none => True) (fun i => match i with | some k => q - k + 1 | none => 0) (some 0)
    (by simp only [Nat.zero_mul]; exact Le.trans (Le.virt 8 t0 1 (by omega) rfl) (Le.slots (by simp [Am.look]))) (by simp) ?_
  intro i hi
  cases i with
  | some k =>
    simp only at hi
    have g4 : k * L ≤ q * L := Nat.mul_le_mul_right L hi
    have lr : (List.replicate k (L : Int)).length = k := by simp
    by_cases hk : k < q
    · have g5 : (k + 1) * L ≤ q * L := Nat.mul_le_mul_right L (by omega)
      rw [Nat.add_mul, Nat.one_mul] at g5
      simp (maxSteps := 4000000) (disch := omega) only [rr, aop, cV, cV1, AV.one, Qb, okW, Qd, app, Qa, Qc, Qe, Qf, Qg, simprocAttr, Qif, Qtm, lr]
      refine ⟨some (k + 1), by simp only; omega, by simp only; omega, ?_⟩
      exact Le.drop1 (Qq _ _) (by simp [Am.look, QG, frzL, QF, Nat.add_mul]; omega)
    · have : k = q := by omega
      subst this
      simp (maxSteps := 4000000) (disch := omega) only [rr, aop, cV, cV1, AV.one, Qb, okW, Qd, app, Qa, Qc, Qe, Qf, Qg, simprocAttr, Qif, lr, ← lf]
      refine ⟨none, trivial, by simp only; omega, ?_⟩
      exact Le.drop1 (Qq _ _) (by simp [Am.look, QG, frzL, QF])
  | none =>
    by_cases h9 : 1000 < (QJ L m).length
    · rw [if_pos h9] at e2
      simp (maxSteps := 4000000) (disch := omega) only [rr, aop, cV, cV1, AV.one, Qb, okW, Qd, app, Qa, Qc, Qe, Qf, Qg, simprocAttr, e2]
      simp [Q7, QG, frzL, QF, isDL, isD]
    · rw [if_neg h9] at e2
      simp (maxSteps := 4000000) (disch := omega) only [rr, aop, cV, cV1, AV.one, Qb, okW, Qd, app, Qa, Qc, Qe, Qf, Qg, simprocAttr, e2]
      simp [Q7, QG, frzL, QF, isDL, isD, QvK, ll, frzL_T _ (Qq .i64 _)]
end Go.Am

namespace Go.Am
open Go.RowKit

theorem Qwf (r n : Int) : (∃ k : Int, QkV r n = .tup [.list 0 [], .int .i64 k] ∧ QgY r n = .tup [.int .i64 0, .int .i64 k]) ∨
    (∃ l : List Int, QkV r n = .tup [QvK l, .int .i64 0] ∧ QgY r n = .tup [.int .i64 l.length, .int .i64 0]) := by
  by_cases h1 : r < 1 ∨ 1048576 < r
  · exact .inl ⟨2, by rw [QkV, if_pos (by omega)], by rw [QgY, if_pos h1]⟩
  by_cases h2 : n < 1 ∨ 4000 < n
  · exact .inl ⟨2, by rw [QkV, if_pos (by omega)], by rw [QgY, if_neg h1, if_pos h2]⟩
  have p1 := Xf r
  have e : (n + Qw r - 1) / Qw r = (QJ (Qw r).toNat n.toNat).length := by
    generalize Qw r = Li at *
    obtain ⟨L, rfl⟩ : ∃ L : Nat, Li = L := ⟨Li.toNat, by omega⟩
    obtain ⟨m, rfl⟩ : ∃ m : Nat, n = m := ⟨n.toNat, by omega⟩
    rw [Int.toNat_natCast, Int.toNat_natCast, ZO]
    have : (m : Int) + L - 1 = ((m - 1 + L : Nat) : Int) := by omega
    rw [this, ← Int.natCast_ediv, Nat.add_div_right _ (by omega)]
  by_cases h3 : 1000 < (QJ (Qw r).toNat n.toNat).length
  · exact .inl ⟨4, by rw [QkV, if_neg (by omega), if_pos h3], by rw [QgY, if_neg h1, if_neg h2, e, if_pos (by omega)]⟩
  · exact .inr ⟨_, by rw [QkV, if_neg (by omega), if_neg h3], by rw [QgY, if_neg h1, if_neg h2, e, if_neg (by omega)]⟩

theorem QlG {P : Prg} {f fA : Nat} (b : Ql P f 17 [.tmp 4, .tmp 5] (Zh fA)) (hA : Qm1 P fA) : Qab P f := by
  intro r n
  refine VC.of_acall rfl (Qrl _ _) (ACall.of_body b (by simp) ?_)
  have hA' := hA r n
  rcases Qwf r n with ⟨k, e1, e2⟩ | ⟨l, e1, e2⟩
  · rw [e1] at hA'
    simp (maxSteps := 4000000) (disch := omega) only [rr, aop, cV, cV1, AV.one, Qb, okW, Qd, app, Qa, Qc, Qe, Qf, Qg, simprocAttr, Zh]
    refine Qh.vc hA' ?_
    simp (maxSteps := 4000000) (disch := omega) only [rr, aop, cV, cV1, AV.one, Qb, okW, Qd, app, Qa, Qc, Qe, Qf, Qg, simprocAttr, e2, List.length_nil]
    try simp
  · rw [e1] at hA'
    simp (maxSteps := 4000000) (disch := omega) only [rr, aop, cV, cV1, AV.one, Qb, okW, Qd, app, Qa, Qc, Qe, Qf, Qg, simprocAttr, Zh]
    refine Qh.vc hA' ?_
    simp (maxSteps := 4000000) (disch := omega) only [rr, aop, cV, cV1, AV.one, Qb, okW, Qd, app, Qa, Qc, Qe, Qf, Qg, simprocAttr, QvK, e2]
end Go.Am

namespace Go.Am
open Go.RowKit

theorem Qd4 (c x r n : Int) : ZQ c x r n = if QO c x n = 0 ∧ Qk4 r n = 0 then 0 else 8 := by
  unfold ZQ QO
  by_cases h1 : QV c x = 0 <;> by_cases h2 : n < 1 <;> by_cases h3 : 4000 / c < n <;> by_cases h4 : Qk4 r n = 0 <;> simp [h1, h2, h3, h4]
theorem Qbe {c x r : Int} {l : List Int} : ZC c x r l = if QbA c x l = 0 ∧ ZQ c x r (l.length / c) = 0 then 0 else 8 := by
  unfold ZC QbA
  by_cases h0 : ZQ c x r (l.length / c) = 0
  · have h0' := h0
    rw [Qd4] at h0'
    have ha : QO c x (l.length / c) = 0 := by
      by_cases h : QO c x (l.length / c) = 0 ∧ Qk4 r (l.length / c) = 0
      · exact h.1
      · rw [if_neg h] at h0'; cases h0'
    have hE : QV c x = 0 := by
      by_cases h : QV c x = 0
      · exact h
      · simp [QO, h] at ha
    have hn : ¬ (l.length : Int) / c < 1 := by
      intro h
      simp [QO, h] at ha
    have hc : ¬ c < 1 := by
      rcases QM c x with h | h <;> omega
    have hl : l.length ≠ 0 := by
      intro h
      rw [h] at hn
      simp at hn
    by_cases h2 : (l.length : Int) % c = 0 <;> by_cases h3 : QE x l = 0 <;> simp [hE, hc, hl, h0, h2, h3]
  · simp [h0]

def Qgl (P : Prg) (f : Nat) : Prop := ∀ (c x r n : Int) (l : List Int), VC P f [.agg [.int .i64 c, .int .i64 x, .int .i64 r, il l], .int .i64 n] (.bool (decide (ZQ c x r n = 0)))
theorem QoJ {P : Prg} {f fS fA fC t0 : Nat} (b : Ql P f 21 [.tmp 4] (Xa fS fA fC t0)) (hS : XM P fS) (hA : Qcc P fA) (hC : Qab P fC) : Qgl P f := by
  intro c x r n l
  refine VC.of_acall (by simp [isDL, isD, QS]) rfl (ACall.of_body b (by simp) ?_)
  have hS' := hS c x r l
  have hA' := hA c x n
  rw [shA] at hS' hA'
  rw [il] at hS'
  obtain ⟨k, ek⟩ := Qn1 r n
  have hC' := hC r n
  rw [ek] at hC'
  simp (maxSteps := 4000000) (disch := omega) only [rr, aop, cV, cV1, AV.one, Qb, okW, Qd, app, Qa, Qc, Qe, Qf, Qg, simprocAttr, Xa, il]
  refine Qh.vc hS' ?_
  simp (maxSteps := 4000000) (disch := omega) only [rr, aop, cV, cV1, AV.one, Qb, okW, Qd, app, Qa, Qc, Qe, Qf, Qg, simprocAttr]
  refine Qh.vc hA' ?_
  by_cases h1 : QO c x n = 0
  · simp (maxSteps := 4000000) (disch := omega) only [rr, aop, cV, cV1, AV.one, Qb, okW, Qd, app, Qa, Qc, Qe, Qf, Qg, simprocAttr, h1]
    refine Qh.vc hC' ?_
    by_cases h7 : Qk4 r n = 0
    · have e9 : ZQ c x r n = 0 := by rw [Qd4, if_pos ⟨h1, h7⟩]
      simp (maxSteps := 4000000) (disch := omega) only [rr, aop, cV, cV1, AV.one, Qb, okW, Qd, app, Qa, Qc, Qe, Qf, Qg, simprocAttr, h7, e9]
      try simp
    · have e9 : ZQ c x r n = 8 := by rw [Qd4, if_neg (by simp [h7])]
      simp (maxSteps := 4000000) (disch := omega) only [rr, aop, cV, cV1, AV.one, Qb, okW, Qd, app, Qa, Qc, Qe, Qf, Qg, simprocAttr, e9]
      try simp [h7]
  · have e9 : ZQ c x r n = 8 := by rw [Qd4, if_neg (by simp [h1])]
    simp (maxSteps := 4000000) (disch := omega) only [rr, aop, cV, cV1, AV.one, Qb, okW, Qd, app, Qa, Qc, Qe, Qf, Qg, simprocAttr, h1, e9]
    try simp

theorem QlF {P : Prg} {f fS fA fH t0 : Nat} (b : Ql P f 20 [.tmp 2] (ZX fS fA fH t0)) (hS : XM P fS) (hA : QhD P fA) (hH : Qgl P fH) : Xr P f := by
  intro c x r l hI hl
  refine VC.of_acall (by simp [isDL, isD, QS]) rfl (ACall.of_body b (by simp) ?_)
  have hS' := hS c x r l
  have hA' := hA c x l hI
  have hH' := hH c x r (l.length / c) l
  rw [shA] at hS' hA'
  rw [il] at hS' hA' hH'
  simp (maxSteps := 4000000) (disch := omega) only [rr, aop, cV, cV1, AV.one, Qb, okW, Qd, app, Qa, Qc, Qe, Qf, Qg, simprocAttr, ZX, il]
  refine QQ.vc hS' ?_
  simp (maxSteps := 4000000) (disch := omega) only [rr, aop, cV, cV1, AV.one, Qb, okW, Qd, app, Qa, Qc, Qe, Qf, Qg, simprocAttr]
  refine QQ.vc hA' ?_
  by_cases h1 : QbA c x l = 0
  · have hc : 1 ≤ c := by
      obtain ⟨k, rfl, hk, _⟩ := QmF hI h1
      have := hk.1
      omega
    have hd := Qkp (n := l.length) hc
    have q0 : (l.length : Int).tdiv c = l.length / c := Int.tdiv_eq_ediv_of_nonneg (by omega)
    simp (maxSteps := 4000000) (disch := omega) only [rr, aop, cV, cV1, AV.one, Qb, okW, Qd, app, Qa, Qc, Qe, Qf, Qg, simprocAttr, h1, q0]
    refine QQ.vc hH' ?_
    by_cases h2 : ZQ c x r (l.length / c) = 0
    · have e9 : ZC c x r l = 0 := by rw [Qbe, if_pos ⟨h1, h2⟩]
      simp (maxSteps := 4000000) (disch := omega) only [rr, aop, cV, cV1, AV.one, Qb, okW, Qd, app, Qa, Qc, Qe, Qf, Qg, simprocAttr, h2, e9, decide_true, Bool.not_true]
    · have e9 : ZC c x r l = 8 := by rw [Qbe, if_neg (by simp [h2])]
      have e8 : decide (ZQ c x r (l.length / c) = 0) = false := by simp [h2]
      simp (maxSteps := 4000000) (disch := omega) only [rr, aop, cV, cV1, AV.one, Qb, okW, Qd, app, Qa, Qc, Qe, Qf, Qg, simprocAttr, e8, e9, Bool.not_false]
  · have e9 : ZC c x r l = 8 := by rw [Qbe, if_neg (by simp [h1])]
    simp (maxSteps := 4000000) (disch := omega) only [rr, aop, cV, cV1, AV.one, Qb, okW, Qd, app, Qa, Qc, Qe, Qf, Qg, simprocAttr, h1, e9]
end Go.Am

namespace Go.Am
open Go.RowKit

def clA (c x r : Int) (l : List Int) : AV := .agg [.int .i64 c, .int .i64 x, .int .i64 r, il l]
end Go.Am

namespace Go.Am
open Go.RowKit

def iss (L : List (List Int)) : AV := .list L.length (L.map il)
theorem QnK : ∀ L : List (List Int), isDL (L.map il) = true
  | [] => rfl
  | l :: L => by simp [isDL, QS, QnK L]
theorem QvI (L : List (List Int)) : isD (iss L) = true := by simp [iss, isD, QnK]
theorem QuM {L : List (List Int)} {k : Nat} (h : k < L.length) : (L.map il).drop k = il (L.getD k []) :: (L.map il).drop (k + 1) := by
  rw [List.drop_eq_getElem_cons (by simpa using h)]
  simp [List.getD_eq_getElem?_getD, List.getElem?_eq_getElem h]
end Go.Am

namespace Go.Am
open Go.RowKit

/-! ### le.Bytes -/

def leB (n : Nat) : Nat → List UInt8
  | 0 => []
  | k + 1 => UInt8.ofNat (n % 256) :: leB (n / 256) k

theorem Qu : ∀ (k n : Nat), (leB n k).length = k
  | 0, _ => rfl
  | k + 1, n => by simp [leB, Qu k]

theorem QfN : ∀ (k n i : Nat) (h : i < k), (leB n k)[i]? = some (UInt8.ofNat (n / 256 ^ i % 256))
  | k + 1, n, 0, _ => by simp [leB]
  | k + 1, n, i + 1, h => by
    simp only [leB, List.getElem?_cons_succ]
    rw [QfN k (n / 256) i (by omega), Nat.div_div_eq_div_mul, Nat.pow_succ, Nat.mul_comm]

theorem Qdv {n k i : Nat} (h : i < k) : (leB n k).take (i + 1) = (leB n k).take i ++ [UInt8.ofNat (n / 256 ^ i % 256)] := by
  rw [List.take_add_one, QfN k n i h]
  rfl

theorem Qx0 {K : IntKind} {n k : Nat} (hk : k ≤ K.bits) : Qm false K (n : Int) (k : Int) = some (.int K ((n / 2 ^ k : Nat) : Int)) := by
  have h3 : ¬ ((k : Int) < 0) := by omega
  have h5 : min k K.bits = k := by omega
  have h6 : (n : Int).fdiv (2 ^ k) = ((n / 2 ^ k : Nat) : Int) := by
    rw [Int.fdiv_eq_ediv_of_nonneg _ (Int.pow_nonneg (by decide))]
    simp [Int.natCast_ediv, Int.natCast_pow]
  simp only [Qm, if_neg h3, Bool.false_eq_true, if_false, Int.toNat_natCast, h5, h6]

def Qsy (P : Prg) (f : Nat) : Prop := ∀ n w : Nat, 1 ≤ w → w ≤ 8 → VC P f [.int .u64 n, .int .i64 w] (.bool (decide (w = 8) || decide (n / 2 ^ (8 * w) = 0)))
theorem QvF {P : Prg} {f : Nat} (b : Ql P f 14 [.tmp 4] QaR) : Qsy P f := by
  intro n w h1 h2
  refine VC.of_acall rfl rfl (ACall.of_body b (by simp) ?_)
  by_cases h8 : w = 8
  · subst h8
    simp (maxSteps := 4000000) (disch := omega) only [rr, aop, cV, cV1, AV.one, Qb, okW, Qd, app, Qa, Qc, Qe, Qf, Qg, simprocAttr, QaR]
  · have e1 : (decide (w = 8)) = false := by simpa using h8
    have e2 : Qm false .u64 (n : Int) (8 * (w : Int)) = some (.int .u64 ((n / 2 ^ (8 * w) : Nat) : Int)) := by
      have := Qx0 (K := .u64) (n := n) (k := 8 * w) (by simp [IntKind.bits]; omega)
      rwa [Int.natCast_mul] at this
    have e3 : (((n / 2 ^ (8 * w) : Nat) : Int) == 0) = decide (n / 2 ^ (8 * w) = 0) := by rw [Bool.eq_iff_iff]; simp only [beq_iff_eq, decide_eq_true_eq]; omega
    have e4 : ((w : Int) = 8) = False := eq_false (by omega)
    by_cases h9 : n / 2 ^ (8 * w) = 0
    · have e5 : (decide (n / 2 ^ (8 * w) = 0)) = true := by simpa using h9
      have e6 : (((n / 2 ^ (8 * w) : Nat) : Int) = 0) = True := eq_true (by omega)
      rw [e5]
      simp (maxSteps := 4000000) (disch := omega) only [rr, aop, cV, cV1, AV.one, Qb, okW, Qd, app, Qa, Qc, Qe, Qf, Qg, simprocAttr, QaR, e1, e2, e4, e6]
    · have e5 : (decide (n / 2 ^ (8 * w) = 0)) = false := by simpa using h9
      have e6 : (((n / 2 ^ (8 * w) : Nat) : Int) = 0) = False := eq_false (by omega)
      rw [e5]
      simp (maxSteps := 4000000) (disch := omega) only [rr, aop, cV, cV1, AV.one, Qb, okW, Qd, app, Qa, Qc, Qe, Qf, Qg, simprocAttr, QaR, e1, e2, e4, e6]

def Qgh (P : Prg) (f : Nat) : Prop := ∀ n w : Nat, 1 ≤ w → w ≤ 8 → n < 256 ^ w → VC P f [.int .u64 n, .int .i64 w] (.tup [bs (leB n w), .int .i64 0])

theorem Qt3 {t n : Nat} {l : List UInt8} (h : n = l.length) {e : Int} : Q7 (fun _ => true) [⟨t, 1, n, u8 l, 0⟩] 2 [.tup [.own 0 n, .int .i64 e]] = some [.tup [bs l, .int .i64 e]] := by
  subst h
  simp only [Q7, QG, frzL, QF, Bool.false_eq_true, if_false, List.getElem?_cons_zero, and_self, if_true, frzL_T _ (Zx l), Option.map_some, bs]

theorem QtG {P : Prg} {f fF t0 : Nat} (b : Ql P f 35 [.tmp 4, .tmp 5] (Qbm fF t0)) (hF : Qsy P fF) : Qgh P f := by
  intro n w h1 h2 hn
  refine VC.of_walk 1 (by simp [isDL, isD]) (by simp [isD, isDL, Zy]) (ACall.of_body b (by simp) ?_)
  have hn8 : n < 18446744073709551616 := Nat.lt_of_lt_of_le hn (Nat.le_trans (Nat.pow_le_pow_right (by omega) h2) (by decide))
  simp (maxSteps := 4000000) (disch := omega) only [rr, aop, cV, cV1, AV.one, Qb, okW, Qd, app, Qa, Qc, Qe, Qf, Qg, simprocAttr, Qbm]
  refine Qh.vc (hF n w h1 h2) ?_
  have e0 : (decide (w = 8) || decide (n / 2 ^ (8 * w) = 0)) = true := by
    have : n / 2 ^ (8 * w) = 0 := Nat.div_eq_of_lt (by rw [Nat.pow_mul]; exact hn)
    simp [this]
  rw [e0]
  have r0 : Qt [.int .u8 0] w = u8 ([] : List UInt8) ++ List.replicate w (.int .u8 0) := by
    have : ∀ k, Qt [AV.int .u8 0] k = List.replicate k (.int .u8 0) := fun k => by
      induction k with
      | zero => rfl
      | succ k ih => simp [Qt, ih, List.replicate_succ]
    rw [this]; rfl
  simp (maxSteps := 4000000) (disch := omega) only [rr, aop, cV, cV1, AV.one, Qb, okW, Qd, app, Qa, Qc, Qe, Qf, Qg, simprocAttr, Qbm]
  rw [r0]
  refine QN.by (ι := Nat) (fun k => ⟨[(22, .int .i64 k), (21, .int .i64 w), (6, .own 0 w), (0, .int .u64 n)], [⟨t0, 1, w, u8 ((leB n w).take k) ++ List.replicate (w - k) (.int .u8 0), 0⟩]⟩) (fun k => k ≤ w) (fun k => w - k) 0 (Le.slots (by simp [Am.look])) (by omega) ?_
  intro k hk
  by_cases hlt : k < w
  · have e2 : Qm false .u64 (n : Int) (8 * (k : Int)) = some (.int .u64 ((n / 256 ^ k : Nat) : Int)) := by
      have := Qx0 (K := .u64) (n := n) (k := 8 * k) (by simp [IntKind.bits]; omega)
      rwa [Int.natCast_mul, Nat.pow_mul] at this
    have e3 : IntKind.u8.wrap ((n / 256 ^ k : Nat) : Int) = ((UInt8.ofNat (n / 256 ^ k % 256)).toNat : Int) := by
      simp [IntKind.wrap, IntKind.signed, IntKind.bits]
    have hl : (u8 ((leB n w).take k)).length = k := by simp [Q4, Qu]; omega
    have e4 : (u8 ((leB n w).take k) ++ List.replicate (w - k) (AV.int .u8 0)).take k = u8 ((leB n w).take k) := by rw [List.take_left' hl]
    have e5 : (u8 ((leB n w).take k) ++ List.replicate (w - k) (AV.int .u8 0)).drop (k + 1) = List.replicate (w - (k + 1)) (.int .u8 0) := by
      rw [List.drop_append, List.drop_of_length_le (by omega), hl]
      simp
      omega
    have e6 : u8 ((leB n w).take k) ++ [AV.int .u8 ((UInt8.ofNat (n / 256 ^ k % 256)).toNat : Int)] = u8 ((leB n w).take (k + 1)) := by
      rw [Qdv hlt, ← Qfz]; rfl
    simp (maxSteps := 4000000) (disch := omega) only [rr, aop, cV, cV1, AV.one, Qb, okW, Qd, app, Qa, Qc, Qe, Qf, Qg, simprocAttr, e2, e3, hl, e4, e5, e6]
    refine ⟨k + 1, by omega, by omega, ?_⟩
    refine Le.slots ?_
    simp [Am.look]
  · have ek : k = w := by omega
    subst ek
    have e7 : (leB n k).take k = leB n k := List.take_of_length_le (by rw [Qu]; exact Nat.le_refl _)
    have e8 : u8 (leB n k) ++ List.replicate (k - k) (AV.int .u8 0) = u8 (leB n k) := by simp
    simp (maxSteps := 4000000) (disch := omega) only [rr, aop, cV, cV1, AV.one, Qb, okW, Qd, app, Qa, Qc, Qe, Qf, Qg, simprocAttr, e7]
    rw [e8, Qt3 (Qu k n).symm]

end Go.Am

namespace Go.Am
open Go.RowKit

/-! ### The chunk that tells the form: without a program -/

def Qww (c b r : Int) : Prop := 1 ≤ c ∧ c ≤ 6 ∧ JB b ≠ 0 ∧ 1 ≤ r ∧ r ≤ 1048576
instance (c b r : Int) : Decidable (Qww c b r) := by unfold Qww; exact inferInstance
/-! ### Check, Wide -/

end Go.Am

namespace Go.Am
open Go.RowKit

theorem QnB : ∀ (k n : Nat), n < 256 ^ k → leN (leB n k) = n
  | 0, n, h => by simp at h; subst h; rfl
  | k + 1, n, h => by
    have h1 : n / 256 < 256 ^ k := by rw [Nat.pow_succ] at h; exact Nat.div_lt_of_lt_mul (by omega)
    have h2 : (UInt8.ofNat (n % 256)).toNat = n % 256 := by simp
    simp only [leB, leN, QnB k _ h1, h2]
    omega

end Go.Am

namespace Go.Am
open Go.RowKit

/-! ### Numbers: bit by bit -/

theorem Qcr {w n : Nat} (h : n < 2 ^ w) : BitVec.ofInt w (n : Int) = BitVec.ofNat w n := by
  apply BitVec.eq_of_toNat_eq
  rw [BitVec.toNat_ofInt, BitVec.toNat_ofNat]
  omega

theorem QeY {K : IntKind} (hs : K.signed = false) {n : Nat} (h : n < 2 ^ K.bits) : K.wrap (n : Int) = n := by
  have h1 : (n : Int) % 2 ^ K.bits = n := by
    rw [Int.emod_eq_of_lt (by omega)]
    exact_mod_cast h
  unfold IntKind.wrap
  simp [hs, h1]

theorem QpI {K : IntKind} (hs : K.signed = false) {a b : Nat} (ha : a < 2 ^ K.bits) (hb : b < 2 ^ K.bits) : K.wrap (BitVec.ofInt K.bits (a : Int) ^^^ BitVec.ofInt K.bits (b : Int)).toNat = ((a ^^^ b : Nat) : Int) := by
  rw [Qcr ha, Qcr hb, BitVec.toNat_xor, BitVec.toNat_ofNat, BitVec.toNat_ofNat, Nat.mod_eq_of_lt ha, Nat.mod_eq_of_lt hb]
  exact QeY hs (Nat.xor_lt_two_pow ha hb)
theorem Qxz {K : IntKind} (hs : K.signed = false) {a b : Nat} (ha : a < 2 ^ K.bits) (hb : b < 2 ^ K.bits) : K.wrap (BitVec.ofInt K.bits (a : Int) &&& BitVec.ofInt K.bits (b : Int)).toNat = ((a &&& b : Nat) : Int) := by
  rw [Qcr ha, Qcr hb, BitVec.toNat_and, BitVec.toNat_ofNat, BitVec.toNat_ofNat, Nat.mod_eq_of_lt ha, Nat.mod_eq_of_lt hb]
  exact QeY hs (Nat.and_lt_two_pow _ hb)
theorem orK {K : IntKind} (hs : K.signed = false) {a b : Nat} (ha : a < 2 ^ K.bits) (hb : b < 2 ^ K.bits) : K.wrap (BitVec.ofInt K.bits (a : Int) ||| BitVec.ofInt K.bits (b : Int)).toNat = ((a ||| b : Nat) : Int) := by
  rw [Qcr ha, Qcr hb, BitVec.toNat_or, BitVec.toNat_ofNat, BitVec.toNat_ofNat, Nat.mod_eq_of_lt ha, Nat.mod_eq_of_lt hb]
  exact QeY hs (Nat.or_lt_two_pow ha hb)

theorem Qgt {K : IntKind} {n k : Nat} (hk : k ≤ K.bits) : Qm false K (n : Int) (k : Int) = some (.int K ((n / 2 ^ k : Nat) : Int)) := by
  have h3 : ¬ ((k : Int) < 0) := by omega
  have h5 : min k K.bits = k := by omega
  have h6 : (n : Int).fdiv (2 ^ k) = ((n / 2 ^ k : Nat) : Int) := by
    rw [Int.fdiv_eq_ediv_of_nonneg _ (Int.pow_nonneg (by decide))]
    simp [Int.natCast_ediv, Int.natCast_pow]
  simp only [Qm, if_neg h3, Bool.false_eq_true, if_false, Int.toNat_natCast, h5, h6]

theorem QoB {K : IntKind} (hs : K.signed = false) {c s : Nat} (h : s ≤ K.bits) (h2 : c * 2 ^ s < 2 ^ K.bits) : Qm true K (c : Int) (s : Int) = some (.int K ((c * 2 ^ s : Nat) : Int)) := by
  have h3 : ¬ ((s : Int) < 0) := by omega
  have h5 : min s K.bits = s := by omega
  have h6 : (c : Int) * 2 ^ s = ((c * 2 ^ s : Nat) : Int) := by simp
  simp only [Qm, if_neg h3, if_true, Int.toNat_natCast, h5, h6]
  rw [QeY hs h2]

end Go.Am

namespace Go.Am
open Go.RowKit

/-! ### CRC-32 (plain) -/

def Qf2 (c : Nat) : Nat := (c / 2) ^^^ (if c % 2 = 1 then 3988292384 else 0)
def JH : Nat → Nat → Nat
  | 0, c => c
  | k + 1, c => JH k (Qf2 c)

theorem Qmd {c : Nat} (h : c < 4294967296) : Qf2 c < 4294967296 := by
  unfold Qf2
  have : (if c % 2 = 1 then 3988292384 else 0) < 2 ^ 32 := by split <;> decide
  exact Nat.xor_lt_two_pow (n := 32) (by omega) this
theorem Qit : ∀ (k : Nat) {c : Nat}, c < 4294967296 → JH k c < 4294967296
  | 0, _, h => h
  | k + 1, _, h => Qit k (Qmd h)
theorem Qkq : ∀ (k c : Nat), JH (k + 1) c = Qf2 (JH k c)
  | 0, _ => rfl
  | k + 1, c => by rw [JH, Qkq k, JH]

theorem QnV (x h : Nat) : Qf2 (x ^^^ 2 * h) = Qf2 x ^^^ h := by
  have e1 : (x ^^^ 2 * h) % 2 = x % 2 := by
    have := Nat.xor_mod_two_pow (a := x) (b := 2 * h) (n := 1)
    simpa using this
  have e2 : (x ^^^ 2 * h) / 2 = x / 2 ^^^ h := by rw [Nat.xor_div_two, Nat.mul_div_cancel_left _ (by omega)]
  unfold Qf2
  rw [e1, e2, Nat.xor_assoc, Nat.xor_assoc, Nat.xor_comm h]

theorem Qfd : ∀ (k x h : Nat), JH k (x ^^^ 2 ^ k * h) = JH k x ^^^ h
  | 0, x, h => by simp [JH]
  | k + 1, x, h => by
    rw [JH, Nat.pow_succ, Nat.mul_comm (2 ^ k) 2, Nat.mul_assoc, QnV, Qfd k, JH]

theorem Qda (b k : Nat) : b = b % 2 ^ k ^^^ 2 ^ k * (b / 2 ^ k) := by
  apply Nat.eq_of_testBit_eq
  intro i
  rw [Nat.testBit_xor, Nat.testBit_mod_two_pow, Nat.testBit_two_pow_mul, Nat.testBit_div_two_pow]
  by_cases h : i < k
  · have : ¬ k ≤ i := by omega
    simp [h, this]
  · have h' : k ≤ i := by omega
    simp [h, h', show i - k + k = i by omega]

theorem Que (s b : Nat) : Qf2 (s ^^^ b) = Qf2 (s ^^^ b % 2) ^^^ (b / 2) := by
  have h : s ^^^ b = (s ^^^ b % 2) ^^^ 2 * (b / 2) := by
    have := Qda b 1
    rw [Nat.pow_one] at this
    rw [Nat.xor_assoc, ← this]
  rw [h, QnV]

def Qug (s b : Nat) : Nat := JH 8 (s ^^^ b)
theorem Qpe (s b : Nat) : Qug s b = s / 256 ^^^ JH 8 (s % 256 ^^^ b) := by
  have h : s ^^^ b = (s % 256 ^^^ b) ^^^ 2 ^ 8 * (s / 256) := by
    have := Qda s 8
    rw [show (2 : Nat) ^ 8 = 256 from rfl] at this ⊢
    rw [Nat.xor_assoc, Nat.xor_comm b, ← Nat.xor_assoc, ← this]
  rw [Qug, h, Qfd, Nat.xor_comm]
theorem QvY {s b : Nat} (hs : s < 4294967296) (hb : b < 256) : Qug s b < 4294967296 := Qit 8 (Nat.xor_lt_two_pow (n := 32) (by omega) (by omega))

def QcT (s : Nat) (l : List UInt8) : Nat := l.foldl (fun s b => Qug s b.toNat) s
theorem Qkr {s : Nat} {l : List UInt8} {k : Nat} (h : k < l.length) : QcT s (l.take (k + 1)) = Qug (QcT s (l.take k)) (l[k]).toNat := by
  rw [List.take_succ_eq_append_getElem h, QcT, List.foldl_append]; rfl
theorem Qd9 : ∀ {l : List UInt8} {s : Nat}, s < 4294967296 → QcT s l < 4294967296
  | [], _, h => h
  | b :: l, s, h => Qd9 (l := l) (QvY h (UInt8.toNat_lt b))

end Go.Am

namespace Go.Am
open Go.RowKit

/-! ### CRC-32 -/

def QjK (i : Nat) : List Int := (List.range 256).map fun j => if j < i then ((JH 8 j : Nat) : Int) else 0
theorem Xo (i : Nat) : (QjK i).length = 256 := by simp [QjK]
theorem Qe0 {i j : Nat} (h : j < 256) : (QjK i)[j]'(by rw [Xo]; exact h) = if j < i then ((JH 8 j : Nat) : Int) else 0 := by simp [QjK]
theorem QsZ {i : Nat} (h : i < 256) : (QjK i).set i ((JH 8 i : Nat) : Int) = QjK (i + 1) := by
  refine List.ext_getElem (by simp [Xo]) fun j h1 h2 => ?_
  have hj : j < 256 := by simpa [Xo] using h2
  rw [List.getElem_set, Qe0 hj]
  split
  · rename_i e; subst e; rw [Qe0 hj, if_pos (by omega)]
  · rename_i e; rw [Qe0 hj]
    by_cases h3 : j < i
    · rw [if_pos h3, if_pos (by omega)]
    · rw [if_neg h3, if_neg (by omega)]

def QmM (P : Prg) (f : Nat) : Prop := VC P f [] (.cell (ks .u32 (QjK 256)))
theorem QbP {l : List UInt8} {k : Nat} (h : k < l.length) : (u8 l).drop k = .int .u8 (l[k]).toNat :: u8 (l.drop (k + 1)) := by
  rw [Qln, List.drop_eq_getElem_cons h]; rfl

set_option maxRecDepth 40000 in
theorem Qmh {P : Prg} {f t0 : Nat} (bd : Ql P f 24 [.tmp 0] (QaB t0)) : QmM P f := by
  refine VC.of_walk 1 rfl (by simp [isD, Qrj (Qq _ _)]) (ACall.of_body bd (by simp) ?_)
  unfold QaB
  have z0 : ([.int .u32 0, .int .u32 0] : List AV) = [.int .u32 0, .int .u32 0] := rfl
  simp (maxSteps := 4000000) (disch := omega) only [rr, aop, cV, cV1, AV.one, Qb, okW, Qd, app, Qa, Qc, Qe, Qf, Qg, simprocAttr]
  refine QN.by (ι := Nat) (fun i => ⟨[(5, .int .i64 i), (1, .ref 0 1 0)], [⟨t0, 256, 1, ks .u32 (QjK i), 0⟩]⟩) (fun i => i ≤ 256) (fun i => 256 - i) 0 (Le.slots (by simp [Am.look])) (by omega) ?_
  intro i hi
  by_cases hlt : i < 256
  · simp (maxSteps := 4000000) (disch := omega) only [rr, aop, cV, cV1, AV.one, Qb, okW, Qd, app, Qa, Qc, Qe, Qf, Qg, simprocAttr]
    refine QN.by (ι := Nat) (fun j => ⟨[(10, .int .i64 j), (3, .int .u32 (JH j i)), (5, .int .i64 i), (2, .int .i64 i), (1, .ref 0 1 0)], [⟨t0, 256, 1, ks .u32 (QjK i), 0⟩]⟩) (fun j => j ≤ 8) (fun j => 8 - j) 0 (Le.slots (by simp [Am.look, JH])) (by omega) ?_
    intro j hj
    by_cases hjl : j < 8
    · have hc := Qit j (c := i) (by omega)
      have hn := Qkq j i
      generalize JH j i = c at *
      have a1 : IntKind.u32.wrap (BitVec.ofInt IntKind.u32.bits (c : Int) &&& BitVec.ofInt IntKind.u32.bits 1).toNat = ((c % 2 : Nat) : Int) := by
        have h := Qxz (K := .u32) rfl (a := c) (b := 1) (by exact hc) (by decide)
        rw [Nat.and_one_is_mod] at h
        exact h
      have a2 : Qm false .u32 (c : Int) 1 = some (.int .u32 ((c / 2 : Nat) : Int)) := Qgt (K := .u32) (n := c) (k := 1) (by decide)
      rcases Nat.mod_two_eq_zero_or_one c with h2 | h2
      · have a3 : IntKind.u32.wrap (BitVec.ofInt IntKind.u32.bits ((c / 2 : Nat) : Int) ^^^ BitVec.ofInt IntKind.u32.bits 0).toNat = ((JH (j + 1) i : Nat) : Int) := by
          rw [hn, Qf2, h2, if_neg (by decide)]
          exact QpI (K := .u32) rfl (a := c / 2) (b := 0) (by show c / 2 < 4294967296; omega) (by decide)
        have a1' : IntKind.u32.wrap (BitVec.ofInt IntKind.u32.bits (c : Int) &&& BitVec.ofInt IntKind.u32.bits 1).toNat = 0 := by rw [a1, h2]; rfl
        simp (maxSteps := 4000000) (disch := omega) only [rr, aop, cV, cV1, AV.one, Qb, okW, Qd, app, Qa, Qc, Qe, Qf, Qg, simprocAttr, a1', a2, a3]
        exact ⟨j + 1, by omega, by omega, Le.slots (by simp [Am.look])⟩
      · have a3 : IntKind.u32.wrap (BitVec.ofInt IntKind.u32.bits ((c / 2 : Nat) : Int) ^^^ BitVec.ofInt IntKind.u32.bits 3988292384).toNat = ((JH (j + 1) i : Nat) : Int) := by
          rw [hn, Qf2, h2, if_pos rfl]
          exact QpI (K := .u32) rfl (a := c / 2) (b := 3988292384) (by show c / 2 < 4294967296; omega) (by decide)
        have a1' : IntKind.u32.wrap (BitVec.ofInt IntKind.u32.bits (c : Int) &&& BitVec.ofInt IntKind.u32.bits 1).toNat = 1 := by rw [a1, h2]; rfl
        simp (maxSteps := 4000000) (disch := omega) only [rr, aop, cV, cV1, AV.one, Qb, okW, Qd, app, Qa, Qc, Qe, Qf, Qg, simprocAttr, a1', a2, a3]
        exact ⟨j + 1, by omega, by omega, Le.slots (by simp [Am.look])⟩
    · obtain rfl : j = 8 := by omega
      have e1 := Xo i
      have e2 := Qk .u32 (QjK i)
      have e3 : (ks .u32 (QjK i)).take i ++ [.int .u32 (JH 8 i)] ++ (ks .u32 (QjK i)).drop (i + 1) = ks .u32 (QjK (i + 1)) := by
        rw [← QsZ hlt, List.set_eq_take_append_cons_drop, if_pos (by rw [Xo]; exact hlt)]; simp [ks, List.map_take, List.map_drop]
      simp (maxSteps := 4000000) (disch := omega) only [rr, aop, cV, cV1, AV.one, Qb, okW, Qd, app, Qa, Qc, Qe, Qf, Qg, simprocAttr, e1, e2, e3]
      exact ⟨i + 1, by omega, by omega, Le.slots (by simp [Am.look])⟩
  · obtain rfl : i = 256 := by omega
    simp (maxSteps := 4000000) (disch := omega) only [rr, aop, cV, cV1, AV.one, Qb, okW, Qd, app, Qa, Qc, Qe, Qf, Qg, simprocAttr]
    simp [Q7, QG, frzL, QF, frzL_T _ (Qq _ _)]

def QmZ (P : Prg) (f : Nat) : Prop := ∀ (s : Nat) (l : List UInt8), s < 4294967296 → VC P f [.int .u32 s, bs l] (if 100000 < l.length then .tup [.int .u32 0, .int .i64 4] else .tup [.int .u32 (QcT s l), .int .i64 0])
set_option maxRecDepth 40000 in
theorem Qpg {P : Prg} {f fT : Nat} (bd : Ql P f 32 [.tmp 4, .tmp 5] (JO fT)) (hT : QmM P fT) : QmZ P f := by
  intro s l hs
  refine VC.of_acall (by simp [isDL, isD, Zy]) (by split <;> rfl) (ACall.of_body bd (by simp) ?_)
  by_cases hl : 100000 < l.length
  · rw [if_pos hl]
    simp (maxSteps := 4000000) (disch := omega) only [rr, aop, cV, cV1, AV.one, Qb, okW, Qd, app, Qa, Qc, Qe, Qf, Qg, simprocAttr, JO, bs]
  · rw [if_neg hl]
    have hT' := hT
    have t0 := Qk .u32 (QjK 256)
    rw [Xo] at t0
    simp (maxSteps := 4000000) (disch := omega) only [rr, aop, cV, cV1, AV.one, Qb, okW, Qd, app, Qa, Qc, Qe, Qf, Qg, simprocAttr, JO, bs]
    refine Qh.vc hT' ?_
    simp (maxSteps := 4000000) (disch := omega) only [rr, aop, cV, cV1, AV.one, Qb, okW, Qd, app, Qa, Qc, Qe, Qf, Qg, simprocAttr]
    refine QN.by (ι := Nat) (fun k => ⟨[(15, .int .i64 k), (14, .int .i64 l.length), (13, .list l.length (u8 l)), (6, .cell (ks .u32 (QjK 256))), (0, .int .u32 (QcT s (l.take k)))], []⟩) (fun k => k ≤ l.length) (fun k => l.length - k) 0 (Le.slots (by simp [Am.look, QcT])) (by omega) ?_
    intro k hk
    have hc := Qd9 (l := l.take k) hs
    by_cases hlt : k < l.length
    · have e1 := QbP hlt
      have hn := Qkr (s := s) hlt
      generalize QcT s (l.take k) = c at *
      rw [Qpe] at hn
      have hb := (l[k]).toNat_lt
      have h0 : (c % 256 ^^^ (l[k]).toNat) < 256 := Nat.xor_lt_two_pow (n := 8) (Nat.mod_lt _ (by decide)) hb
      have h1 := Qit 8 (c := c % 256 ^^^ (l[k]).toNat) (by omega)
      have a1 : Qm false .u32 (c : Int) 8 = some (.int .u32 ((c / 256 : Nat) : Int)) := Qgt (K := .u32) (n := c) (k := 8) (by decide)
      have a2 : IntKind.u8.wrap (c : Int) = ((c % 256 : Nat) : Int) := by rw [Xm]; omega
      have a3 : IntKind.u8.wrap (BitVec.ofInt IntKind.u8.bits ((c % 256 : Nat) : Int) ^^^ BitVec.ofInt IntKind.u8.bits ((l[k]).toNat : Int)).toNat = ((c % 256 ^^^ (l[k]).toNat : Nat) : Int) :=
        QpI (K := .u8) rfl (a := c % 256) (b := (l[k]).toNat) (Nat.mod_lt _ (by decide)) hb
      have a4 : IntKind.u32.wrap (BitVec.ofInt IntKind.u32.bits ((c / 256 : Nat) : Int) ^^^ BitVec.ofInt IntKind.u32.bits ((JH 8 (c % 256 ^^^ (l[k]).toNat) : Nat) : Int)).toNat = ((QcT s (l.take (k + 1)) : Nat) : Int) := by
        rw [hn]; exact QpI (K := .u32) rfl (by show c / 256 < 4294967296; omega) h1
      generalize c % 256 ^^^ (l[k]).toNat = x at *
      have e2 : (ks .u32 (QjK 256)).drop x = .int .u32 ((JH 8 x : Nat) : Int) :: ks .u32 ((QjK 256).drop (x + 1)) := by
        rw [J0, List.drop_eq_getElem_cons (by rw [Xo]; exact h0), QcR, Qe0 h0, if_pos h0]
      simp (maxSteps := 4000000) (disch := omega) only [rr, aop, cV, cV1, AV.one, Qb, okW, Qd, app, Qa, Qc, Qe, Qf, Qg, simprocAttr, e1, a1, a2, a3, a4, e2, t0]
      exact ⟨k + 1, by omega, by omega, Le.slots (by simp [Am.look])⟩
    · have ek : k = l.length := by omega
      subst ek
      rw [List.take_length]
      simp (maxSteps := 4000000) (disch := omega) only [rr, aop, cV, cV1, AV.one, Qb, okW, Qd, app, Qa, Qc, Qe, Qf, Qg, simprocAttr]

def QkY (P : Prg) (f : Nat) : Prop := ∀ (l : List UInt8), VC P f [bs l] (if 100000 < l.length then .tup [.int .u32 0, .int .i64 4] else .tup [.int .u32 ((4294967295 - QcT 4294967295 l : Nat) : Int), .int .i64 0])

theorem QuZ {c : Nat} (h : c < 4294967296) : 4294967295 ^^^ c = 4294967295 - c := by
  have h1 : BitVec.allOnes 32 ^^^ BitVec.ofNat 32 c = ~~~ BitVec.ofNat 32 c := by
    apply BitVec.eq_of_getElem_eq
    intro i hi
    rw [BitVec.getElem_xor, BitVec.getElem_allOnes, BitVec.getElem_not, Bool.true_xor]
  have h2 := congrArg BitVec.toNat h1
  rw [BitVec.toNat_xor, BitVec.toNat_not, BitVec.toNat_allOnes, BitVec.toNat_ofNat, Nat.mod_eq_of_lt h] at h2
  exact h2

theorem QrW {P : Prg} {f fN : Nat} (bd : Ql P f 16 [.tmp 2, .tmp 3] (Qam fN)) (hN : QmZ P fN) : QkY P f := by
  intro l
  refine VC.of_acall (by simp [isDL, isD, Zy]) (by split <;> rfl) (ACall.of_body bd (by simp) ?_)
  have hN' := hN 4294967295 l (by decide)
  have hc := Qd9 (l := l) (s := 4294967295) (by decide)
  generalize QcT 4294967295 l = c at *
  simp only [bs] at hN'
  by_cases hl : 100000 < l.length
  · rw [if_pos hl] at hN' ⊢
    simp (maxSteps := 4000000) (disch := omega) only [rr, aop, cV, cV1, AV.one, Qb, okW, Qd, app, Qa, Qc, Qe, Qf, Qg, simprocAttr, Qam, bs]
    refine Qh.vc hN' ?_
    simp (maxSteps := 4000000) (disch := omega) only [rr, aop, cV, cV1, AV.one, Qb, okW, Qd, app, Qa, Qc, Qe, Qf, Qg, simprocAttr]
  · rw [if_neg hl] at hN' ⊢
    have a1 : IntKind.u32.wrap (BitVec.ofInt IntKind.u32.bits IntKind.u32.max ^^^ BitVec.ofInt IntKind.u32.bits (c : Int)).toNat = ((4294967295 - c : Nat) : Int) := by
      rw [← QuZ hc]
      exact QpI (K := .u32) rfl (a := 4294967295) (b := c) (by decide) hc
    have a2 : IntKind.u32.signed = false := rfl
    simp (maxSteps := 4000000) (disch := omega) only [rr, aop, cV, cV1, AV.one, Qb, okW, Qd, app, Qa, Qc, Qe, Qf, Qg, simprocAttr, Qam, bs]
    refine Qh.vc hN' ?_
    simp (maxSteps := 4000000) (disch := omega) only [rr, aop, cV, cV1, AV.one, Qb, okW, Qd, app, Qa, Qc, Qe, Qf, Qg, simprocAttr, a1, a2]

/-! ### Its reference -/

def QsC (P : Prg) (f : Nat) : Prop := ∀ s b : Nat, s < 4294967296 → b < 2 → VC P f [.int .u32 s, .int .i64 b] (.int .u32 (Qf2 (s ^^^ b) : Nat))
theorem Qvd {s b : Nat} (hb : b < 2) : Qf2 (s ^^^ b) = s / 2 ^^^ (if (s + b) % 2 = 1 then 3988292384 else 0) := by
  have e1 : (s ^^^ b) / 2 = s / 2 := by rw [Nat.xor_div_two, show b / 2 = 0 by omega, Nat.xor_zero]
  have e2 : (s ^^^ b) % 2 = (s + b) % 2 := by
    have := Nat.xor_mod_two_pow (a := s) (b := b) (n := 1)
    rw [Nat.pow_one] at this
    rw [this]
    rcases (by omega : b = 0 ∨ b = 1) with rfl | rfl <;> rcases Nat.mod_two_eq_zero_or_one s with h | h <;> rw [h] <;> (try simp) <;> omega
  rw [Qf2, e1, e2]
theorem QoN {P : Prg} {f : Nat} (bd : Ql P f 19 [.tmp 4] QL) : QsC P f := by
  intro s b hs hb
  refine VC.of_acall rfl rfl (ACall.of_body bd (by simp) ?_)
  rw [Qvd hb]
  have e1 : IntKind.u32.wrap (BitVec.ofInt IntKind.u32.bits ((s / 2 : Nat) : Int) ^^^ BitVec.ofInt IntKind.u32.bits 3988292384).toNat = ((s / 2 ^^^ 3988292384 : Nat) : Int) :=
    QpI (K := .u32) rfl (a := s / 2) (b := 3988292384) (by show s / 2 < 4294967296; omega) (by decide)
  have e2 : ((s : Int)).tdiv 2 = ((s / 2 : Nat) : Int) := rfl
  have e3 : ((s : Int)).tmod 2 = ((s % 2 : Nat) : Int) := rfl
  have e5 : (s : Int) / 2 = ((s / 2 : Nat) : Int) := by omega
  rcases Nat.mod_two_eq_zero_or_one s with h | h <;> rcases (by omega : b = 0 ∨ b = 1) with rfl | rfl
  · rw [if_neg (by omega), Nat.xor_zero]
    rw [h] at e3
    simp (maxSteps := 4000000) (disch := omega) only [rr, aop, cV, cV1, AV.one, Qb, okW, Qd, app, Qa, Qc, Qe, Qf, Qg, simprocAttr, QL, e1, e2, e3, e5]
  · rw [if_pos (by omega)]
    rw [h] at e3
    simp (maxSteps := 4000000) (disch := omega) only [rr, aop, cV, cV1, AV.one, Qb, okW, Qd, app, Qa, Qc, Qe, Qf, Qg, simprocAttr, QL, e1, e2, e3, e5]
  · rw [if_pos (by omega)]
    rw [h] at e3
    simp (maxSteps := 4000000) (disch := omega) only [rr, aop, cV, cV1, AV.one, Qb, okW, Qd, app, Qa, Qc, Qe, Qf, Qg, simprocAttr, QL, e1, e2, e3, e5]
  · rw [if_neg (by omega), Nat.xor_zero]
    rw [h] at e3
    simp (maxSteps := 4000000) (disch := omega) only [rr, aop, cV, cV1, AV.one, Qb, okW, Qd, app, Qa, Qc, Qe, Qf, Qg, simprocAttr, QL, e1, e2, e3, e5]

def QsH (P : Prg) (f : Nat) : Prop := ∀ s b : Nat, s < 4294967296 → b < 256 → VC P f [.int .u32 s, .int .u8 b] (.int .u32 (Qug s b : Nat))
def byK (s b : Nat) : Nat → Nat
  | 0 => s
  | k + 1 => Qf2 (byK s b k ^^^ b / 2 ^ k % 2)
theorem QuV {s b : Nat} (hs : s < 4294967296) : ∀ k, byK s b k < 4294967296
  | 0 => hs
  | k + 1 => Qmd (Nat.xor_lt_two_pow (n := 32) (QuV hs k) (by have := Nat.mod_lt (b / 2 ^ k) (show 0 < 2 by decide); omega))
theorem Qse (s b : Nat) : ∀ k, k ≤ 8 → JH (8 - k) (byK s b k ^^^ b / 2 ^ k) = Qug s b
  | 0, _ => by simp [byK, Qug]
  | k + 1, h => by
    have := Qse s b k (by omega)
    rw [show 8 - k = (8 - (k + 1)) + 1 by omega, JH, Que] at this
    rw [byK, Nat.pow_succ, ← Nat.div_div_eq_div_mul]
    exact this
theorem QoO {P : Prg} {f fS : Nat} (bd : Ql P f 18 [.tmp 4] (Xd fS)) (hS : QsC P fS) : QsH P f := by
  intro s b hs hb
  refine VC.of_acall rfl rfl (ACall.of_body bd (by simp) ?_)
  simp (maxSteps := 4000000) (disch := omega) only [rr, aop, cV, cV1, AV.one, Qb, okW, Qd, app, Qa, Qc, Qe, Qf, Qg, simprocAttr, Xd]
  refine QN.by (ι := Nat) (fun k => ⟨[(5, .int .i64 k), (0, .int .u32 (byK s b k)), (1, .int .u8 (b / 2 ^ k : Nat))], []⟩) (fun k => k ≤ 8) (fun k => 8 - k) 0 (Le.slots (by simp [Am.look, byK])) (by omega) ?_
  intro k hk
  have hc := QuV (b := b) hs k
  by_cases hlt : k < 8
  · have hn : byK s b (k + 1) = Qf2 (byK s b k ^^^ b / 2 ^ k % 2) := rfl
    have hd : b / 2 ^ (k + 1) = b / 2 ^ k / 2 := by rw [Nat.pow_succ, Nat.div_div_eq_div_mul]
    have hd2 : b / 2 ^ k ≤ b := Nat.div_le_self _ _
    generalize byK s b k = c at *
    generalize b / 2 ^ k = x at *
    have h2 := hS c (x % 2) hc (Nat.mod_lt _ (by decide))
    rw [← hn] at h2
    have e2 : ((x : Int)).tdiv 2 = ((x / 2 : Nat) : Int) := rfl
    have e3 : ((x : Int)).tmod 2 = ((x % 2 : Nat) : Int) := rfl
    have e4 : x % 2 < 2 := Nat.mod_lt _ (by decide)
    simp (maxSteps := 4000000) (disch := omega) only [rr, aop, cV, cV1, AV.one, Qb, okW, Qd, app, Qa, Qc, Qe, Qf, Qg, simprocAttr, e2, e3]
    refine Qh.vc h2 ?_
    simp (maxSteps := 4000000) (disch := omega) only [rr, aop, cV, cV1, AV.one, Qb, okW, Qd, app, Qa, Qc, Qe, Qf, Qg, simprocAttr, e2]
    exact ⟨k + 1, by omega, by omega, Le.slots (by simp [Am.look, hd])⟩
  · obtain rfl : k = 8 := by omega
    have h8 := Qse s b 8 (by omega)
    have h9 : b / 2 ^ 8 = 0 := Nat.div_eq_of_lt hb
    rw [h9, Nat.xor_zero, Nat.sub_self, JH] at h8
    rw [h8]
    simp (maxSteps := 4000000) (disch := omega) only [rr, aop, cV, cV1, AV.one, Qb, okW, Qd, app, Qa, Qc, Qe, Qf, Qg, simprocAttr]

def Qgq (P : Prg) (f : Nat) : Prop := ∀ (s : Nat) (l : List UInt8), s < 4294967296 → l.length ≤ 1000000 → VC P f [.int .u32 s, bs l] (.int .u32 (QcT s l : Nat))
theorem QjW {P : Prg} {f fB : Nat} (bd : Ql P f 19 [.tmp 4] (ZF fB)) (hB : QsH P fB) : Qgq P f := by
  intro s l hs hl
  refine VC.of_acall (by simp [isDL, isD, Zy]) rfl (ACall.of_body bd (by simp) ?_)
  simp (maxSteps := 4000000) (disch := omega) only [rr, aop, cV, cV1, AV.one, Qb, okW, Qd, app, Qa, Qc, Qe, Qf, Qg, simprocAttr, ZF, bs]
  refine QN.by (ι := Nat) (fun k => ⟨[(5, .int .i64 k), (1, .list l.length (u8 l)), (0, .int .u32 (QcT s (l.take k)))], []⟩) (fun k => k ≤ l.length) (fun k => l.length - k) 0 (Le.slots (by simp [Am.look, QcT])) (by omega) ?_
  intro k hk
  have hc := Qd9 (l := l.take k) hs
  by_cases hlt : k < l.length
  · have e1 := QbP hlt
    have hn := Qkr (s := s) hlt
    have h2 := hB (QcT s (l.take k)) (l[k]).toNat hc (l[k]).toNat_lt
    rw [← hn] at h2
    simp (maxSteps := 4000000) (disch := omega) only [rr, aop, cV, cV1, AV.one, Qb, okW, Qd, app, Qa, Qc, Qe, Qf, Qg, simprocAttr, e1]
    refine Qh.vc h2 ?_
    simp (maxSteps := 4000000) (disch := omega) only [rr, aop, cV, cV1, AV.one, Qb, okW, Qd, app, Qa, Qc, Qe, Qf, Qg, simprocAttr]
    exact ⟨k + 1, by omega, by omega, Le.slots (by simp [Am.look])⟩
  · have ek : k = l.length := by omega
    subst ek
    rw [List.take_length]
    simp (maxSteps := 4000000) (disch := omega) only [rr, aop, cV, cV1, AV.one, Qb, okW, Qd, app, Qa, Qc, Qe, Qf, Qg, simprocAttr]

def Qwj (P : Prg) (f : Nat) : Prop := ∀ (l : List UInt8), l.length ≤ 1000000 → VC P f [bs l] (.int .u32 ((4294967295 - QcT 4294967295 l : Nat) : Int))
theorem Qtn {P : Prg} {f fB : Nat} (bd : Ql P f 6 [.tmp 2] (XJ fB)) (hB : Qgq P fB) : Qwj P f := by
  intro l hl
  refine VC.of_acall (by simp [isDL, isD, Zy]) rfl (ACall.of_body bd (by simp) ?_)
  have h := hB 4294967295 l (by decide) hl
  have hc := Qd9 (l := l) (s := 4294967295) (by decide)
  simp only [bs] at h
  generalize QcT 4294967295 l = c at *
  have e1 : ((4294967295 - c : Nat) : Int) = 4294967295 - c := by omega
  simp (maxSteps := 4000000) (disch := omega) only [rr, aop, cV, cV1, AV.one, Qb, okW, Qd, app, Qa, Qc, Qe, Qf, Qg, simprocAttr, XJ, bs]
  refine Qh.vc h ?_
  simp (maxSteps := 4000000) (disch := omega) only [rr, aop, cV, cV1, AV.one, Qb, okW, Qd, app, Qa, Qc, Qe, Qf, Qg, simprocAttr, e1]

end Go.Am

namespace Go.Am
open Go.RowKit

/-! ### Read is what was written: without a program -/

theorem Qic : ∀ (k n : Nat), n < 256 ^ k → leN (leB n k) = n
  | 0, n, h => by simp at h; subst h; rfl
  | k + 1, n, h => by
    have h1 : n / 256 < 256 ^ k := by rw [Nat.pow_succ] at h; exact Nat.div_lt_of_lt_mul (by omega)
    have h2 : (UInt8.ofNat (n % 256)).toNat = n % 256 := by simp
    simp only [leB, leN, Qic k _ h1, h2]
    omega

theorem Qid : ∀ l : List UInt8, leB (leN l) l.length = l
  | [] => rfl
  | b :: l => by
    have h1 := b.toNat_lt
    have e1 : (b.toNat + 256 * leN l) % 256 = b.toNat := by omega
    have e2 : (b.toNat + 256 * leN l) / 256 = leN l := by omega
    simp only [leN, List.length_cons, leB, e1, e2, Qid l]
    simp

end Go.Am

namespace Go.Am
open Go.RowKit

/-! ### Bits as a Qez: N bits, whose Qez is V; their bytes are leB V (nB N) -/

def nB (N : Nat) : Nat := (N + 7) / 8

theorem QtJ (V i : Nat) : leB V (i + 1) = leB V i ++ [UInt8.ofNat (V / 256 ^ i % 256)] := by
  have h1 : (leB V (i + 1)).take (i + 1) = (leB V (i + 1)).take i ++ [UInt8.ofNat (V / 256 ^ i % 256)] := Qdv (by omega)
  have h2 : ∀ k j n : Nat, k ≤ j → (leB n j).take k = leB n k := by
    intro k
    induction k with
    | zero => intro j n _; simp [leB]
    | succ k ih =>
      intro j n h
      obtain ⟨j, rfl⟩ : ∃ j', j = j' + 1 := ⟨j - 1, by omega⟩
      simp [leB, ih j (n / 256) (by omega)]
  rw [h2 (i + 1) (i + 1) V (by omega), h2 i (i + 1) V (by omega)] at h1
  exact h1

theorem Qrg : ∀ (i V u : Nat), leB (V + 256 ^ i * u) i = leB V i
  | 0, _, _ => rfl
  | i + 1, V, u => by
    have e : 256 ^ (i + 1) * u = 256 * (256 ^ i * u) := by rw [Nat.pow_succ, Nat.mul_comm (256 ^ i) 256, Nat.mul_assoc]
    have e1 : (V + 256 ^ (i + 1) * u) % 256 = V % 256 := by rw [e]; omega
    have e2 : (V + 256 ^ (i + 1) * u) / 256 = V / 256 + 256 ^ i * u := by rw [e]; omega
    simp only [leB, e1, e2, Qrg i]

theorem QfI (i : Nat) : (256 : Nat) ^ i = 2 ^ (8 * i) := by rw [Nat.pow_mul]

theorem Qb1 {V i at_ : Nat} (h : V < 2 ^ (8 * i + at_)) (ha : at_ ≤ 8) : leB V (i + 1) = leB V i ++ [UInt8.ofNat (V / 256 ^ i)] ∧ V / 256 ^ i < 2 ^ at_ := by
  have h1 : V / 256 ^ i < 2 ^ at_ := Nat.div_lt_of_lt_mul (by rw [QfI, ← Nat.pow_add]; exact h)
  have h2 : 2 ^ at_ ≤ 2 ^ 8 := Nat.pow_le_pow_right (by omega) ha
  exact ⟨by rw [QtJ, Nat.mod_eq_of_lt (by omega)], h1⟩

theorem QcL {V i at_ w r : Nat} (h : V < 2 ^ (8 * i + at_)) (hw : w < 2 ^ r) (hr : at_ + r ≤ 8) :
    leB (V + 2 ^ (8 * i + at_) * w) (i + 1) = leB V i ++ [UInt8.ofNat (V / 256 ^ i + 2 ^ at_ * w)] ∧ V / 256 ^ i + 2 ^ at_ * w < 2 ^ (at_ + r) ∧ V + 2 ^ (8 * i + at_) * w < 2 ^ (8 * i + (at_ + r)) := by
  obtain ⟨_, h1⟩ := Qb1 h (by omega)
  have e : 2 ^ (8 * i + at_) * w = 256 ^ i * (2 ^ at_ * w) := by rw [QfI, Nat.pow_add, Nat.mul_assoc]
  have h2 : V / 256 ^ i + 2 ^ at_ * w < 2 ^ (at_ + r) := by
    have : 2 ^ at_ * (w + 1) ≤ 2 ^ at_ * 2 ^ r := Nat.mul_le_mul_left _ hw
    rw [Nat.pow_add]; rw [Nat.mul_add, Nat.mul_one] at this; omega
  have h3 : V + 2 ^ (8 * i + at_) * w < 2 ^ (8 * i + (at_ + r)) := by
    have : 2 ^ (8 * i + at_) * (w + 1) ≤ 2 ^ (8 * i + at_) * 2 ^ r := Nat.mul_le_mul_left _ hw
    rw [← Nat.add_assoc, Nat.pow_add 2 (8 * i + at_)]; rw [Nat.mul_add, Nat.mul_one] at this; omega
  refine ⟨?_, h2, h3⟩
  have h4 := (Qb1 (V := V + 2 ^ (8 * i + at_) * w) (i := i) (at_ := at_ + r) h3 hr).1
  rw [h4, e, Qrg, Nat.add_mul_div_left _ _ (Nat.pow_pos (by omega))]

theorem Qxd (V q r : Nat) (hr : r < 8) : V / 256 ^ q % 256 / 2 ^ r % 2 = V / 2 ^ (8 * q + r) % 2 := by
  rw [QfI, show (256 : Nat) = 2 ^ r * 2 ^ (8 - r) by rw [← Nat.pow_add, show r + (8 - r) = 8 by omega], Nat.mod_mul_right_div_self, Nat.div_div_eq_div_mul, ← Nat.pow_add]
  rw [Nat.mod_mod_of_dvd]
  exact ⟨2 ^ (8 - r - 1), by rw [← Nat.pow_succ']; congr 1; omega⟩

theorem Qv4 {V q r n : Nat} (hr : r + n ≤ 8) : V / 256 ^ q % 256 / 2 ^ r % 2 ^ n = V / 2 ^ (8 * q + r) % 2 ^ n := by
  rw [QfI, show (256 : Nat) = 2 ^ r * 2 ^ (8 - r) by rw [← Nat.pow_add, show r + (8 - r) = 8 by omega], Nat.mod_mul_right_div_self, Nat.div_div_eq_div_mul, ← Nat.pow_add]
  rw [Nat.mod_mod_of_dvd]
  exact ⟨2 ^ (8 - r - n), by rw [← Nat.pow_add]; congr 1; omega⟩

end Go.Am
