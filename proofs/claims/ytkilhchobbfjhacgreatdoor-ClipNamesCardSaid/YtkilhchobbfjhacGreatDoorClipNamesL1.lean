/- What the functions that the law reaches return, for every program that has their code; the conditions stand in each statement. -/
import Derived.Test.YtkilhchobbfjhacGreatDoorClipNamesD1
set_option linter.unusedSectionVars false
set_option linter.unusedSimpArgs false
set_option linter.unusedVariables false
namespace Go.Am
open Go.RowKit

def leN : List UInt8 → Nat
  | [] => 0
  | b :: l => b.toNat + 256 * leN l

theorem Qhy : ∀ l : List UInt8, leN l < 2 ^ (8 * l.length)
  | [] => by simp [leN]
  | b :: l => by
    have h1 := Qhy l
    have h2 := b.toNat_lt
    have h3 : 2 ^ (8 * (b :: l).length) = 256 * 2 ^ (8 * l.length) := by
      rw [List.length_cons, Nat.mul_add, Nat.pow_add, Nat.mul_comm]
    rw [h3]
    simp only [leN]
    omega

theorem Qfn : ∀ (a b : List UInt8), leN (a ++ b) = leN a + 2 ^ (8 * a.length) * leN b
  | [], b => by simp [leN]
  | x :: a, b => by
    have h3 : 2 ^ (8 * (x :: a).length) = 256 * 2 ^ (8 * a.length) := by
      rw [List.length_cons, Nat.mul_add, Nat.pow_add, Nat.mul_comm]
    rw [h3]
    simp only [List.cons_append, leN, Qfn a b, Nat.mul_add, Nat.mul_assoc]
    omega

theorem Qqn {l : List UInt8} (h : l.length ≤ 8) : leN l < 18446744073709551616 := by
  have h1 := Qhy l
  have h2 : 2 ^ (8 * l.length) ≤ 2 ^ 64 := Nat.pow_le_pow_right (by omega) (by omega)
  omega

theorem Qqm {l : List UInt8} {k : Nat} (h : k < l.length) : leN (l.take (k + 1)) = leN (l.take k) + l[k].toNat * 2 ^ (8 * k) := by
  rw [List.take_succ_eq_append_getElem h, Qfn]
  simp [leN, Nat.min_eq_left (Nat.le_of_lt h), Nat.mul_comm]

def QcO (P : Prg) (f : Nat) : Prop := ∀ l : List UInt8, 1 ≤ l.length → l.length ≤ 8 → VC P f [bs l] (.tup [.int .u64 (leN l), .int .i64 0])

set_option maxRecDepth 10000 in
theorem Qqk {P : Prg} {f : Nat} (b : Qo P f 31 [.tmp 2, .tmp 3] QbH) : QcO P f := by
  intro l h1 h2
  refine VC.of_acall (by simp [isDL, Z5]) rfl (ACall.of_body b (by simp) ?_)
  have d1 : ¬ ((l.length : Int) < 1) := by omega
  have d2 : ¬ ((8 : Int) < l.length) := by omega
  simp only [abv, walk, ev, okW, Qd, Bool.false_and, QiT, aop, cV, cV1, List.length_nil, List.length_cons, List.map_nil, List.map_cons, List.cons_append, List.nil_append, ↓reduceIte, Nat.reduceEqDiff, Nat.reduceAdd, Option.map_some, Option.map_none, Option.bind_some, decide_true, decide_false, Bool.false_eq_true, Bool.not_true, Bool.not_false, Int.toNat_natCast, List.getElem?_cons_zero, List.getElem?_cons_succ, Int.natCast_add, Int.cast_ofNat_Int, true_and, and_true, and_self, if_true, if_false, Q6, Nat.mul_one, Nat.one_mul, Nat.zero_add, Nat.add_zero, List.drop_zero, beq_self_eq_true, Bool.and_self, Bool.and_true, Bool.true_and, AV.one, List.all_cons, List.all_nil, Qm, XI, Qb, Nat.reduceLT, Nat.reduceLeDiff, Nat.reduceBEq, Nat.reduceMul, Nat.reduceSub, Int.reduceLT, Int.reduceLE, Int.reduceAdd, Int.reduceSub, Int.reduceMul, Int.reduceToNat, List.take_nil, List.drop_nil, List.take_zero, List.append_nil, Qa, Qc, Qe, app, List.set_cons_zero, List.set_cons_succ, List.length_set, Nat.le_refl, Nat.zero_le, List.take_length, XU, reduceCtorEq, List.drop_succ_cons, List.take_succ_cons, Int.reduceEq, QbH, bs, d1, d2]
  refine QQ.by (ι := Nat) (fun k => ⟨[(17, .int .i64 k), (16, .int .i64 l.length), (15, .list l.length (u8 l)), (4, .int .u64 (leN (l.take k)))], []⟩) (fun k => k ≤ l.length) (fun k => l.length - k) 0 (Le.slots (by simp [Am.look, leN])) (by omega) ?_
  intro k hk
  by_cases hlt : k < l.length
  · have e1 : (k : Int) < l.length := by omega
    have e2 : (0 : Int) ≤ k := by omega
    have e4 := Qsd hlt
    have e5 : IntKind.u64.wrap ((l[k].toNat : Nat) : Int) = (l[k].toNat : Nat) := Qa1 (by omega) (by have := l[k].toNat_lt; omega)
    have e6 : IntKind.i64.wrap (8 * (k : Int)) = (8 * k : Nat) := by rw [Qa2] <;> omega
    have e7 : Qp true .u64 ((l[k].toNat : Nat) : Int) ((8 * k : Nat) : Int) = some (.int .u64 ((l[k].toNat * 2 ^ (8 * k) : Nat) : Int)) := Qnq (by omega) (by
      have h1 := l[k].toNat_lt
      have h2 : 2 ^ (8 * k) ≤ 2 ^ 56 := Nat.pow_le_pow_right (by omega) (by omega)
      calc l[k].toNat * 2 ^ (8 * k) ≤ 255 * 2 ^ 56 := Nat.mul_le_mul (by omega) h2
        _ < _ := by omega)
    have e8 : leN (l.take (k + 1)) < 18446744073709551616 := Qqn (by simp; omega)
    have e9 := Qqm hlt
    have e10 : leN (l.take k) < 2 ^ (8 * k) := by have := Qhy (l.take k); rwa [List.length_take, Nat.min_eq_left hk] at this
    have e11 : IntKind.u64.wrap (BitVec.ofInt IntKind.u64.bits (leN (l.take k) : Nat) ||| BitVec.ofInt IntKind.u64.bits (l[k].toNat * 2 ^ (8 * k) : Nat)).toNat = (leN (l.take (k + 1)) : Nat) := by
      rw [Qq1 _ _ (by omega) (by omega), Qhr e10, e9]
    have e12 : IntKind.i64.wrap ((k : Int) + 1) = ((k + 1 : Nat) : Int) := by rw [Qa2] <;> omega
    simp only [abv, walk, ev, okW, Qd, Bool.false_and, QiT, aop, cV, cV1, List.length_nil, List.length_cons, List.map_nil, List.map_cons, List.cons_append, List.nil_append, ↓reduceIte, Nat.reduceEqDiff, Nat.reduceAdd, Option.map_some, Option.map_none, Option.bind_some, decide_true, decide_false, Bool.false_eq_true, Bool.not_true, Bool.not_false, Int.toNat_natCast, List.getElem?_cons_zero, List.getElem?_cons_succ, Int.natCast_add, Int.cast_ofNat_Int, true_and, and_true, and_self, if_true, if_false, Q6, Nat.mul_one, Nat.one_mul, Nat.zero_add, Nat.add_zero, List.drop_zero, beq_self_eq_true, Bool.and_self, Bool.and_true, Bool.true_and, AV.one, List.all_cons, List.all_nil, Qm, XI, Qb, Nat.reduceLT, Nat.reduceLeDiff, Nat.reduceBEq, Nat.reduceMul, Nat.reduceSub, Int.reduceLT, Int.reduceLE, Int.reduceAdd, Int.reduceSub, Int.reduceMul, Int.reduceToNat, List.take_nil, List.drop_nil, List.take_zero, List.append_nil, Qa, Qc, Qe, app, List.set_cons_zero, List.set_cons_succ, List.length_set, Nat.le_refl, Nat.zero_le, List.take_length, XU, reduceCtorEq, List.drop_succ_cons, List.take_succ_cons, Int.reduceEq, e1, e2, hlt, e4, e5, e6, e7, e11, e12]
    exact ⟨k + 1, by omega, by omega, Le.slots (by simp [Am.look])⟩
  · have e1 : ¬ (k : Int) < l.length := by omega
    have e2 : k = l.length := by omega
    subst e2
    simp only [abv, walk, ev, okW, Qd, Bool.false_and, QiT, aop, cV, cV1, List.length_nil, List.length_cons, List.map_nil, List.map_cons, List.cons_append, List.nil_append, ↓reduceIte, Nat.reduceEqDiff, Nat.reduceAdd, Option.map_some, Option.map_none, Option.bind_some, decide_true, decide_false, Bool.false_eq_true, Bool.not_true, Bool.not_false, Int.toNat_natCast, List.getElem?_cons_zero, List.getElem?_cons_succ, Int.natCast_add, Int.cast_ofNat_Int, true_and, and_true, and_self, if_true, if_false, Q6, Nat.mul_one, Nat.one_mul, Nat.zero_add, Nat.add_zero, List.drop_zero, beq_self_eq_true, Bool.and_self, Bool.and_true, Bool.true_and, AV.one, List.all_cons, List.all_nil, Qm, XI, Qb, Nat.reduceLT, Nat.reduceLeDiff, Nat.reduceBEq, Nat.reduceMul, Nat.reduceSub, Int.reduceLT, Int.reduceLE, Int.reduceAdd, Int.reduceSub, Int.reduceMul, Int.reduceToNat, List.take_nil, List.drop_nil, List.take_zero, List.append_nil, Qa, Qc, Qe, app, List.set_cons_zero, List.set_cons_succ, List.length_set, Nat.le_refl, Nat.zero_le, List.take_length, XU, reduceCtorEq, List.drop_succ_cons, List.take_succ_cons, Int.reduceEq, e1, List.take_length]

/-! ### layer 1's reference -/

end Go.Am

namespace Go.Am
open Go.RowKit

theorem ZR (l : List UInt8) : isTL (u8 l) = true := by
  induction l with
  | nil => rfl
  | cons x l ih => simp [QiL, isTL, isT, ih]
def X6 (P : Prg) (f : Nat) : Prop := ∀ l : List UInt8, l.length < 140737488355328 → VC P f [bs l] (bs l)

set_option maxRecDepth 10000 in
theorem QjG {P : Prg} {f t0 : Nat} (b : Qo P f 8 [.tmp 2] (JQ t0)) : X6 P f := by
  intro l hl
  refine VC.of_walk 1 (by simp [isDL, Z5]) (Z5 l) (ACall.of_body b (by simp) ?_)
  have fin : ∀ ob, ob = [⟨t0, 1, l.length, u8 l, 0⟩] → QH (fun _ => true) ob (1 + 1) [.own 0 l.length] = some [bs l] := by
    rintro ob rfl
    simp only [QH, Qy, frzL, Qx, Bool.false_eq_true, if_false, List.getElem?_cons_zero, and_self, if_true, frzL_T _ (ZR l), Option.map_some]
    rfl
  have d1 : l.length * 1 ≤ 140737488355328 := by omega
  have d2 : l.length ≤ 9223372036854775807 := by omega
  by_cases h0 : l = []
  · subst h0
    simp only [abv, walk, ev, okW, Qd, Bool.false_and, QiT, aop, cV, cV1, List.length_nil, List.length_cons, List.map_nil, List.map_cons, List.cons_append, List.nil_append, ↓reduceIte, Nat.reduceEqDiff, Nat.reduceAdd, Option.map_some, Option.map_none, Option.bind_some, decide_true, decide_false, Bool.false_eq_true, Bool.not_true, Bool.not_false, Int.toNat_natCast, List.getElem?_cons_zero, List.getElem?_cons_succ, Int.natCast_add, Int.cast_ofNat_Int, true_and, and_true, and_self, if_true, if_false, Q6, Nat.mul_one, Nat.one_mul, Nat.zero_add, Nat.add_zero, List.drop_zero, beq_self_eq_true, Bool.and_self, Bool.and_true, Bool.true_and, AV.one, List.all_cons, List.all_nil, Qm, XI, Qb, Nat.reduceLT, Nat.reduceLeDiff, Nat.reduceBEq, Nat.reduceMul, Nat.reduceSub, Int.reduceLT, Int.reduceLE, Int.reduceAdd, Int.reduceSub, Int.reduceMul, Int.reduceToNat, List.take_nil, List.drop_nil, List.take_zero, List.append_nil, Qa, Qc, Qe, app, List.set_cons_zero, List.set_cons_succ, List.length_set, Nat.le_refl, Nat.zero_le, List.take_length, XU, reduceCtorEq, List.drop_succ_cons, List.take_succ_cons, Int.reduceEq, JQ, bs, Qiq, QqX]
    simp [QH, Qy, frzL, Qx, isDL]
  · have h1 : l.length ≠ 0 := by simpa using h0
    have d3 : l.length ≤ 140737488355328 := by omega
    simp only [abv, walk, ev, okW, Qd, Bool.false_and, QiT, aop, cV, cV1, List.length_nil, List.length_cons, List.map_nil, List.map_cons, List.cons_append, List.nil_append, ↓reduceIte, Nat.reduceEqDiff, Nat.reduceAdd, Option.map_some, Option.map_none, Option.bind_some, decide_true, decide_false, Bool.false_eq_true, Bool.not_true, Bool.not_false, Int.toNat_natCast, List.getElem?_cons_zero, List.getElem?_cons_succ, Int.natCast_add, Int.cast_ofNat_Int, true_and, and_true, and_self, if_true, if_false, Q6, Nat.mul_one, Nat.one_mul, Nat.zero_add, Nat.add_zero, List.drop_zero, beq_self_eq_true, Bool.and_self, Bool.and_true, Bool.true_and, AV.one, List.all_cons, List.all_nil, Qm, XI, Qb, Nat.reduceLT, Nat.reduceLeDiff, Nat.reduceBEq, Nat.reduceMul, Nat.reduceSub, Int.reduceLT, Int.reduceLE, Int.reduceAdd, Int.reduceSub, Int.reduceMul, Int.reduceToNat, List.take_nil, List.drop_nil, List.take_zero, List.append_nil, Qa, Qc, Qe, app, List.set_cons_zero, List.set_cons_succ, List.length_set, Nat.le_refl, Nat.zero_le, List.take_length, XU, reduceCtorEq, List.drop_succ_cons, List.take_succ_cons, Int.reduceEq, JQ, bs, Qiq, h1, d2, d3]
    exact fin _ rfl

end Go.Am

namespace Go.Am
open Go.RowKit

def QaA (b : Int) : Int := if b = 8 then 128 else if b = 16 then 32768 else if b = 24 then 8388608 else 0

theorem Qa9 (b : Int) : (b = 8 ∧ QaA b = 128) ∨ (b = 16 ∧ QaA b = 32768) ∨ (b = 24 ∧ QaA b = 8388608) ∨ (b ≠ 8 ∧ b ≠ 16 ∧ b ≠ 24 ∧ QaA b = 0) := by
  unfold QaA; split <;> (try split) <;> (try split) <;> omega

def JT (b : Int) : AV := if QaA b = 0 then .tup [.int .i32 0, .int .i32 0, .int .i64 2] else .tup [.int .i32 (-QaA b), .int .i32 (QaA b - 1), .int .i64 0]

def QgC (P : Prg) (f : Nat) : Prop := ∀ b : Int, VC P f [.int .i64 b] (JT b)

theorem Qiv {P : Prg} {f : Nat} (b : Qo P f 18 [.tmp 2, .tmp 3, .tmp 4] Zq) : QgC P f := by
  intro x
  refine VC.of_acall rfl (by unfold JT; split <;> rfl) (ACall.of_body b (by simp) ?_)
  rcases Qa9 x with ⟨rfl, h⟩ | ⟨rfl, h⟩ | ⟨rfl, h⟩ | ⟨h1, h2, h3, h⟩
  · simp (maxSteps := 4000000) (disch := omega) only [rr, aop, cV, cV1, AV.one, Qb, okW, Qd, app, Qa, Qc, Qe, Qf, Qg, simprocAttr, Zq, JT, h]
    rfl
  · simp (maxSteps := 4000000) (disch := omega) only [rr, aop, cV, cV1, AV.one, Qb, okW, Qd, app, Qa, Qc, Qe, Qf, Qg, simprocAttr, Zq, JT, h]
    rfl
  · simp (maxSteps := 4000000) (disch := omega) only [rr, aop, cV, cV1, AV.one, Qb, okW, Qd, app, Qa, Qc, Qe, Qf, Qg, simprocAttr, Zq, JT, h]
    rfl
  · simp (maxSteps := 4000000) (disch := omega) only [rr, aop, cV, cV1, AV.one, Qb, okW, Qd, app, Qa, Qc, Qe, Qf, Qg, simprocAttr, Zq, JT, h]

end Go.Am

namespace Go.Am
open Go.RowKit

def il (l : List Int) : AV := .list l.length (ks .i32 l)
theorem QW (l : List Int) : isD (il l) = true := by simp [il, isD, QZ]

def inR (b x : Int) : Bool := decide (-QaA b ≤ x) && decide (x < QaA b)
def QM (b : Int) (l : List Int) : Int := if QaA b = 0 then 2 else if 4000 < l.length then 4 else if l.all (inR b) then 0 else 16
def I32 (l : List Int) : Prop := ∀ x ∈ l, -2147483648 ≤ x ∧ x ≤ 2147483647
def Qci (P : Prg) (f : Nat) : Prop := ∀ (b : Int) (l : List Int), I32 l → VC P f [.int .i64 b, il l] (.int .i64 (QM b l))

theorem Qgu {l : List Int} {k : Nat} (h : k < l.length) {p : Int → Bool} : (l.take (k + 1)).all p = ((l.take k).all p && p l[k]) := by
  rw [List.take_succ_eq_append_getElem h, List.all_append]; simp

theorem QlR {l : List Int} {k : Nat} (h : k < l.length) {p : Int → Bool} (hp : p l[k] = false) : l.all p = false := by
  rw [List.all_eq_false]
  exact ⟨l[k], List.getElem_mem h, by simp [hp]⟩

set_option maxRecDepth 10000 in
theorem Qiw {P : Prg} {f fR : Nat} (b : Qo P f 37 [.tmp 4] (JH fR)) (hR : QgC P fR) : Qci P f := by
  intro x l hl
  refine VC.of_acall (by simp [isDL, isD, QW]) rfl (ACall.of_body b (by simp) ?_)
  simp (maxSteps := 4000000) (disch := omega) only [rr, aop, cV, cV1, AV.one, Qb, okW, Qd, app, Qa, Qc, Qe, Qf, Qg, simprocAttr, JH]
  refine Qh.vc (hR x) ?_
  by_cases h0 : QaA x = 0
  · simp (maxSteps := 4000000) (disch := omega) only [rr, aop, cV, cV1, AV.one, Qb, okW, Qd, app, Qa, Qc, Qe, Qf, Qg, simprocAttr, JT, QM, h0]
  have h3 : QaA x = 128 ∨ QaA x = 32768 ∨ QaA x = 8388608 := by rcases Qa9 x with h | h | h | h <;> omega
  by_cases h1 : 4000 < l.length
  · simp (maxSteps := 4000000) (disch := omega) only [rr, aop, cV, cV1, AV.one, Qb, okW, Qd, app, Qa, Qc, Qe, Qf, Qg, simprocAttr, JT, QM, h0, il, h1]
  simp (maxSteps := 4000000) (disch := omega) only [rr, aop, cV, cV1, AV.one, Qb, okW, Qd, app, Qa, Qc, Qe, Qf, Qg, simprocAttr, JT, il, if_neg h0]
  refine QQ.by (ι := Nat) (fun k => ⟨[(24, .int .i64 k), (23, .int .i64 l.length), (22, il l), (6, .int .i32 (QaA x - 1)), (5, .int .i32 (-QaA x))], []⟩) (fun k => k ≤ l.length ∧ (l.take k).all (inR x) = true) (fun k => l.length - k) 0 (Le.slots (by simp [Am.look, il])) ⟨by omega, by simp⟩ ?_
  intro k ⟨hk, hg⟩
  by_cases hlt : k < l.length
  · by_cases hp : -QaA x ≤ l[k] ∧ l[k] < QaA x
    · have hs := Qgu hlt (p := inR x)
      simp (maxSteps := 4000000) (disch := omega) only [rr, aop, cV, cV1, AV.one, Qb, okW, Qd, app, Qa, Qc, Qe, Qf, Qg, simprocAttr, il, QcG, hlt]
      exact ⟨k + 1, ⟨by omega, by rw [hs, hg]; simp [inR, hp]⟩, by omega, Le.slots (by simp [Am.look, il])⟩
    · have e : QM x l = 16 := by simp [QM, h0, h1, QlR hlt (p := inR x) (by simp [inR]; omega)]
      by_cases hq : l[k] < -QaA x
      · simp (maxSteps := 4000000) (disch := omega) only [rr, aop, cV, cV1, AV.one, Qb, okW, Qd, app, Qa, Qc, Qe, Qf, Qg, simprocAttr, il, QcG, hlt, e]
      · simp (maxSteps := 4000000) (disch := omega) only [rr, aop, cV, cV1, AV.one, Qb, okW, Qd, app, Qa, Qc, Qe, Qf, Qg, simprocAttr, il, QcG, hlt, e]
  · have e2 : k = l.length := by omega
    subst e2
    rw [List.take_length] at hg
    simp (maxSteps := 4000000) (disch := omega) only [rr, aop, cV, cV1, AV.one, Qb, okW, Qd, app, Qa, Qc, Qe, Qf, Qg, simprocAttr, il, QM, h0, h1, hg]

theorem QoG {n : Nat} {c : Int} (h : 1 ≤ c) : 0 ≤ (n : Int) / c ∧ (n : Int) / c ≤ n :=
  ⟨Int.ediv_nonneg (by omega) (by omega), Int.ediv_le_self _ (by omega)⟩

theorem Qb1 {n : Nat} {c : Int} (h : 1 ≤ c) : 0 ≤ (n : Int) % c ∧ (n : Int) % c < c := ⟨Int.emod_nonneg _ (by omega), Int.emod_lt_of_pos _ (by omega)⟩

end Go.Am

namespace Go.Am
open Go.RowKit

def QJ (r : Int) : Int := if 256 * r / 245 < 1 then 1 else 256 * r / 245
theorem JV (r : Int) : 1 ≤ QJ r := by unfold QJ; split <;> omega
theorem Qqf {r : Int} (h : r ≤ 1048576) : QJ r ≤ 1095654 := by unfold QJ; split <;> omega
def Qed (r : Int) : AV := if r < 1 ∨ 1048576 < r then .tup [.int .i64 0, .int .i64 2] else .tup [.int .i64 (QJ r), .int .i64 0]
def QdK (P : Prg) (f : Nat) : Prop := ∀ r : Int, VC P f [.int .i64 r] (Qed r)

theorem Qqs (r : Int) : isD (Qed r) = true := by unfold Qed; split <;> rfl

theorem Qhx {P : Prg} {f : Nat} (b : Qo P f 14 [.tmp 2, .tmp 3] ZC) : QdK P f := by
  intro r
  refine VC.of_acall rfl (Qqs r) (ACall.of_body b (by simp) ?_)
  by_cases h1 : r < 1
  · simp (maxSteps := 4000000) (disch := omega) only [rr, aop, cV, cV1, AV.one, Qb, okW, Qd, app, Qa, Qc, Qe, Qf, Qg, simprocAttr, ZC, Qed, true_or]
  by_cases h2 : 1048576 < r
  · simp (maxSteps := 4000000) (disch := omega) only [rr, aop, cV, cV1, AV.one, Qb, okW, Qd, app, Qa, Qc, Qe, Qf, Qg, simprocAttr, ZC, Qed, or_true]
  have h3 : 1 ≤ 256 * r / 245 := by omega
  simp (maxSteps := 4000000) (disch := omega) only [rr, aop, cV, cV1, AV.one, Qb, okW, Qd, app, Qa, Qc, Qe, Qf, Qg, simprocAttr, ZC, Qed, or_self, QJ]
  rw [show (if (1 : Int) < 256 * r / 245 then 256 * r / 245 else 1) = 256 * r / 245 by split <;> omega]

def Zu (c b : Int) : Int := if QaA b = 0 ∨ c < 1 ∨ 6 < c then 2 else 0
def shA (c b : Int) : AV := .agg [.int .i64 c, .int .i64 b]
def Qco (P : Prg) (f : Nat) : Prop := ∀ c b : Int, VC P f [shA c b] (.int .i64 (Zu c b))

theorem Qf0 {P : Prg} {f fR t0 : Nat} (b : Qo P f 25 [.tmp 2] (XO fR t0)) (hR : QgC P fR) : Qco P f := by
  intro c x
  refine VC.of_acall rfl rfl (ACall.of_body b (by simp) ?_)
  simp (maxSteps := 4000000) (disch := omega) only [rr, aop, cV, cV1, AV.one, Qb, okW, Qd, app, Qa, Qc, Qe, Qf, Qg, simprocAttr, XO, shA]
  refine Qh.vc (hR x) ?_
  by_cases h0 : QaA x = 0
  · simp (maxSteps := 4000000) (disch := omega) only [rr, aop, cV, cV1, AV.one, Qb, okW, Qd, app, Qa, Qc, Qe, Qf, Qg, simprocAttr, JT, h0, Zu, true_or]
  by_cases h1 : c < 1
  · simp (maxSteps := 4000000) (disch := omega) only [rr, aop, cV, cV1, AV.one, Qb, okW, Qd, app, Qa, Qc, Qe, Qf, Qg, simprocAttr, JT, if_neg h0, Zu, h0, or_true, true_or]
  by_cases h2 : 6 < c
  · simp (maxSteps := 4000000) (disch := omega) only [rr, aop, cV, cV1, AV.one, Qb, okW, Qd, app, Qa, Qc, Qe, Qf, Qg, simprocAttr, JT, if_neg h0, Zu, h0, or_true]
  · simp (maxSteps := 4000000) (disch := omega) only [rr, aop, cV, cV1, AV.one, Qb, okW, Qd, app, Qa, Qc, Qe, Qf, Qg, simprocAttr, JT, if_neg h0, Zu, h0, or_self]

end Go.Am

namespace Go.Am
open Go.RowKit

def bss (l : List (List UInt8)) : AV := .list l.length (l.map bs)
theorem QfX : ∀ l : List (List UInt8), isDL (l.map bs) = true
  | [] => rfl
  | x :: l => by simp [isDL, Z5, QfX l]
theorem Qoh (l : List (List UInt8)) : isD (bss l) = true := by simp [bss, isD, QfX]
end Go.Am

namespace Go.Am
open Go.RowKit

/-! ### slices.IndexFunc, slices.ContainsFunc at elements of one cell -/

theorem Qb7 : ∀ l : List (List UInt8), isTL (l.map bs) = true
  | [] => rfl
  | x :: l => by
    have : isT (bs x) = true := by simp [bs, isT]; induction x with | nil => rfl | cons y x ih => simp [QiL, isTL, isT, ih]
    simp [isTL, this, Qb7 l]

/-! ### feeding -/

end Go.Am

namespace Go.Am
open Go.RowKit

def w32 (x : Int) : Int := IntKind.i32.wrap x
theorem QmO (x : Int) : w32 x = (x + 2147483648) % 4294967296 - 2147483648 := by
  simp [w32, IntKind.wrap, IntKind.bits, IntKind.signed]; split <;> omega
theorem Qrm (a b : Int) : w32 (w32 a + w32 b) = w32 (a + b) := by simp only [QmO]; omega
theorem QmN {a : Int} (h1 : -2147483648 ≤ a) (h2 : a ≤ 2147483647) : w32 a = a := Qkp h1 h2
theorem Xm (a : Int) : -2147483648 ≤ w32 a ∧ w32 a ≤ 2147483647 := by simp only [QmO]; omega
theorem ZV (x : Int) : IntKind.i32.wrap x = w32 x := rfl

theorem ZF {l : List Int} (h : I32 l) (k : Nat) : -2147483648 ≤ l.getD k 0 ∧ l.getD k 0 ≤ 2147483647 := by
  rw [List.getD_eq_getElem?_getD]
  cases hk : l[k]? with
  | none => simp
  | some v => exact h v (List.mem_of_getElem? hk)

theorem Qq7 {K : IntKind} {l : List Int} {k : Nat} (h : k < l.length) : (ks K l)[k]? = some (.int K (l.getD k 0)) := by
  simp [ks, List.getD_eq_getElem?_getD, List.getElem?_eq_getElem h]

structure XA where
  sh : Int
  tp : List Int
  ps : List Int

def Qn (f : XA) : List AV := .int .i64 f.sh :: (ks .i32 f.tp ++ ks .i32 f.ps)
def QaD (f : XA) : Prop := f.tp.length = 16 ∧ f.ps.length = 16 ∧ I32 f.tp ∧ I32 f.ps

theorem QP {f : XA} (h : QaD f) : (Qn f).length = 33 := by
  obtain ⟨h1, h2, _⟩ := h
  simp [Qn, Ql, h1, h2]
theorem QT (f : XA) : (Qn f).all AV.one = true := by
  simp only [Qn, List.all_cons, List.all_append, XE]; rfl
theorem Q7 (f : XA) : isDL (Qn f) = true := by
  have : ∀ a b, isDL (ks .i32 a ++ ks .i32 b) = true := fun a b => by rw [Qef]; exact QZ _ _
  simp [Qn, isDL, isD, this]
theorem QhM {f : XA} (h : QaD f) : ((Qn f).drop 1).take 16 = ks .i32 f.tp := by
  obtain ⟨h1, h2, _⟩ := h
  simp only [Qn, List.drop_succ_cons, List.drop_zero]
  rw [List.take_left' (by simp [Ql, h1])]
theorem Qfp {f : XA} (h : QaD f) : ((Qn f).drop 17).take 16 = ks .i32 f.ps := by
  obtain ⟨h1, h2, _⟩ := h
  simp only [Qn, List.drop_succ_cons]
  rw [List.drop_left' (by simp [Ql, h1]), List.take_of_length_le (by simp [Ql, h2])]
theorem QqA {f : XA} (h : QaD f) {k : Nat} (hk : k < 16) : (Qn f).drop (1 + k) = .int .i32 (f.tp.getD k 0) :: ((ks .i32 f.tp).drop (k + 1) ++ ks .i32 f.ps) := by
  obtain ⟨h1, h2, _⟩ := h
  rw [Nat.add_comm]
  simp only [Qn, List.drop_succ_cons]
  rw [List.drop_append_of_le_length (by simp [Ql, h1]; omega), QcG (by omega), ← Qag]
  simp [List.getD_eq_getElem?_getD, List.getElem?_eq_getElem (show k < f.tp.length by omega)]
theorem Qow {f : XA} (h : QaD f) {k : Nat} (hk : k < 16) : (Qn f).drop (17 + k) = .int .i32 (f.ps.getD k 0) :: (ks .i32 f.ps).drop (k + 1) := by
  obtain ⟨h1, h2, _⟩ := h
  rw [show 17 + k = (16 + k) + 1 by omega]
  simp only [Qn, List.drop_succ_cons]
  rw [← List.drop_drop, List.drop_left' (by simp [Ql, h1]), QcG (by omega), ← Qag]
  simp [List.getD_eq_getElem?_getD, List.getElem?_eq_getElem (show k < f.ps.length by omega)]
theorem Qjh {f : XA} (h : QaD f) {k : Nat} (hk : k < 16) (v : Int) : (Qn f).take (1 + k) ++ [.int .i32 v] ++ (Qn f).drop (1 + k + 1) = Qn { f with tp := f.tp.set k v } := by
  obtain ⟨h1, h2, _⟩ := h
  rw [Nat.add_comm 1 k]
  simp only [Qn, List.take_succ_cons, List.drop_succ_cons, List.cons_append]
  congr 1
  rw [List.take_append_of_le_length (by simp [Ql, h1]; omega), List.drop_append_of_le_length (by simp [Ql, h1]; omega), ← List.append_assoc]
  congr 1
  rw [List.set_eq_take_append_cons_drop, if_pos (by omega)]
  simp [ks]
theorem QhN {f : XA} (h : QaD f) {k : Nat} (hk : k < 16) (v : Int) : (Qn f).take (17 + k) ++ [.int .i32 v] ++ (Qn f).drop (17 + k + 1) = Qn { f with ps := f.ps.set k v } := by
  obtain ⟨h1, h2, _⟩ := h
  rw [show 17 + k = (16 + k) + 1 by omega]
  simp only [Qn, List.take_succ_cons, List.drop_succ_cons, List.cons_append]
  congr 1
  have e : (ks .i32 f.tp).length = 16 := by simp [Ql, h1]
  rw [List.take_append, List.take_of_length_le (by omega), e, show 16 + k + 1 = 16 + (k + 1) by omega, ← List.drop_drop, List.drop_left' e, show 16 + k - 16 = k by omega, List.append_assoc, List.append_assoc]
  congr 1
  rw [List.set_eq_take_append_cons_drop, if_pos (by omega)]
  simp [ks]

theorem Qu {α : Type} {l : List α} {n : Nat} (h : l.length ≤ n) : l.take n = l := List.take_of_length_le h

/-! ### taps.New, taps.Check -/

def Qaa (b : Int) : Int := if b = 16 then 9 else 10
def z16 : List Int := List.replicate 16 0
def QfS (b : Int) (t : List Int) : XA := ⟨Qaa b, t, z16⟩
def QgR : XA := ⟨0, z16, z16⟩
def QeJ (b : Int) (t : List Int) : AV := if QaA b = 0 then .tup [.agg (Qn QgR), .int .i64 2] else .tup [.agg (Qn (QfS b t)), .int .i64 0]
def Qlh (P : Prg) (f : Nat) : Prop := ∀ (b : Int) (t : List Int), t.length = 16 → VC P f [.int .i64 b, .agg (ks .i32 t)] (QeJ b t)

theorem Qqp (b : Int) (t : List Int) : isD (QeJ b t) = true := by
  unfold QeJ; split <;> simp [isD, isDL, Q7]
theorem J4 : Qn QgR = [.int .i64 0, .int .i32 0, .int .i32 0, .int .i32 0, .int .i32 0, .int .i32 0, .int .i32 0, .int .i32 0, .int .i32 0, .int .i32 0, .int .i32 0, .int .i32 0, .int .i32 0, .int .i32 0, .int .i32 0, .int .i32 0, .int .i32 0, .int .i32 0, .int .i32 0, .int .i32 0, .int .i32 0, .int .i32 0, .int .i32 0, .int .i32 0, .int .i32 0, .int .i32 0, .int .i32 0, .int .i32 0, .int .i32 0, .int .i32 0, .int .i32 0, .int .i32 0, .int .i32 0] := rfl

theorem QpH {P : Prg} {f t0 t1 : Nat} (b : Qo P f 18 [.cell 4 t1, .tmp 5] (Xp t0 t1)) (ht : Zs P t1 = some (some 33)) : Qlh P f := by
  intro x t hl
  have hk : (ks .i32 t).length = 16 := by simp [Ql, hl]
  have h1 := XE .i32 t
  have tk16 : (ks .i32 t).take 16 = ks .i32 t := Qu (by omega)
  refine VC.of_acall (by simp [isDL, isD, QZ]) (Qqp _ _) (ACall.of_body b (by simp) ?_)
  have fin : ∀ s : Int, .int .i64 s :: (ks .i32 t ++ [.int .i32 0, .int .i32 0, .int .i32 0, .int .i32 0, .int .i32 0, .int .i32 0, .int .i32 0, .int .i32 0, .int .i32 0, .int .i32 0, .int .i32 0, .int .i32 0, .int .i32 0, .int .i32 0, .int .i32 0, .int .i32 0]) = Qn ⟨s, t, z16⟩ := fun _ => rfl
  have hl33 : ∀ s : Int, (Qn ⟨s, t, z16⟩).length = 33 := fun s => by simp [Qn, Ql, hl, z16]
  have ho := fun s => QT ⟨s, t, z16⟩
  have tk : ∀ s : Int, (Qn ⟨s, t, z16⟩).take 33 = Qn ⟨s, t, z16⟩ := fun s => Qu (by rw [hl33]; omega)
  have st9 : ([] : List AV) ++ [.int .i64 9] ++ (Qn ⟨10, t, z16⟩).drop 1 = Qn ⟨9, t, z16⟩ := rfl
  have d9 : AV.int .i64 9 :: (Qn ⟨10, t, z16⟩).drop 1 = Qn ⟨9, t, z16⟩ := rfl
  rcases Qa9 x with ⟨rfl, h⟩ | ⟨rfl, h⟩ | ⟨rfl, h⟩ | ⟨h2, h3, h4, h⟩
  · simp (maxSteps := 4000000) (disch := omega) only [rr, aop, cV, cV1, AV.one, Qb, okW, Qd, app, Qa, Qc, Qe, Qf, Qg, simprocAttr, Xp, QeJ, h, hk, h1, tk16, fin, hl33, ho, tk, Zf, ht, QfS, Qaa]
  · simp (maxSteps := 4000000) (disch := omega) only [rr, aop, cV, cV1, AV.one, Qb, okW, Qd, app, Qa, Qc, Qe, Qf, Qg, simprocAttr, Xp, QeJ, h, hk, h1, tk16, fin, hl33, ho, tk, Zf, ht, QfS, Qaa, d9]
  · simp (maxSteps := 4000000) (disch := omega) only [rr, aop, cV, cV1, AV.one, Qb, okW, Qd, app, Qa, Qc, Qe, Qf, Qg, simprocAttr, Xp, QeJ, h, hk, h1, tk16, fin, hl33, ho, tk, Zf, ht, QfS, Qaa]
  · simp (maxSteps := 4000000) (disch := omega) only [rr, aop, cV, cV1, AV.one, Qb, okW, Qd, app, Qa, Qc, Qe, Qf, Qg, simprocAttr, Xp, QeJ, h, hk, h1, tk16, fin, hl33, ho, tk, Zf, ht, J4]

def Qpx (s : Int) : Int := if s = 9 ∨ s = 10 then 0 else 8
def Qcj (P : Prg) (f : Nat) : Prop := ∀ x : XA, QaD x → VC P f [.agg (Qn x)] (.int .i64 (Qpx x.sh))

theorem QtC : Qpx 9 = 0 := rfl
theorem QsF : Qpx 10 = 0 := rfl

/-! ### taps.Guess -/

def Qre (a b : List Int) : Nat → Int
  | 0 => 0
  | k + 1 => Qre a b k + a.getD k 0 * b.getD k 0
def QbZ (s : Int) : Int := if s = 9 then 512 else 1024
def QhE (f : XA) : Int := w32 (QbZ f.sh / 2 + Qre f.tp f.ps 16) / QbZ f.sh
def QdI (P : Prg) (f : Nat) : Prop := ∀ x : XA, QaD x → x.sh = 9 ∨ x.sh = 10 → VC P f [.agg (Qn x)] (.tup [.int .i32 (QhE x), .int .i64 0])

theorem QrE : Qp true .i32 1 8 = some (.int .i32 256) := rfl
theorem QrD : Qp true .i32 1 9 = some (.int .i32 512) := rfl
theorem Qrz (s : Int) : Qp false .i32 s 9 = some (.int .i32 (s / 512)) := by
  show some (AV.int .i32 (s.fdiv 512)) = _
  rw [Int.fdiv_eq_ediv_of_nonneg _ (by omega)]
theorem QpU (s : Int) : Qp false .i32 s 10 = some (.int .i32 (s / 1024)) := by
  show some (AV.int .i32 (s.fdiv 1024)) = _
  rw [Int.fdiv_eq_ediv_of_nonneg _ (by omega)]

theorem QlD {P : Prg} {f fC t0 : Nat} (b : Qo P f 36 [.tmp 2, .tmp 3] (Qam fC t0)) (hC : Qcj P fC) : QdI P f := by
  intro x hx hs
  have l33 := QP hx
  have tk : (Qn x).take 33 = Qn x := Qu (by omega)
  have ho := QT x
  have e1 := QhM hx
  have e0 : (Qn x).drop 0 = .int .i64 x.sh :: (ks .i32 x.tp ++ ks .i32 x.ps) := rfl
  have ht : Qpx x.sh = 0 := by simp [Qpx, hs]
  have hl := hx.1
  refine VC.of_acall (by simp [isDL, isD, Q7]) rfl (ACall.of_body b (by simp) ?_)
  simp (maxSteps := 4000000) (disch := omega) only [rr, aop, cV, cV1, AV.one, Qb, okW, Qd, app, Qa, Qc, Qe, Qf, Qg, simprocAttr, Qam, l33, tk, ho]
  refine Qh.vc (hC x hx) ?_
  rcases hs with h | h
  all_goals
    have z0 : w32 (QbZ x.sh / 2 + Qre x.tp x.ps 0) = QbZ x.sh / 2 := by simp only [Qre, Int.add_zero]; exact QmN (by simp [QbZ, h]) (by simp [QbZ, h])
    have z1 : QbZ x.sh = 512 ∧ x.sh = 9 ∨ QbZ x.sh = 1024 ∧ x.sh = 10 := by simp [QbZ, h]
    simp (maxSteps := 4000000) (disch := omega) only [rr, aop, cV, cV1, AV.one, Qb, okW, Qd, app, Qa, Qc, Qe, Qf, Qg, simprocAttr, l33, tk, ho, QtC, QsF, e1, ↓e0, h, QrE, QrD]
    refine QQ.by (ι := Nat) (fun k => ⟨[(19, .int .i64 k), (18, .agg (ks .i32 x.tp)), (5, .int .i32 (w32 (QbZ x.sh / 2 + Qre x.tp x.ps k))), (1, .ref 0 1 0)], [⟨t0, 33, 1, Qn x, 0⟩]⟩) (fun k => k ≤ 16) (fun k => 16 - k) 0 (Le.slots (by rw [z0]; simp [Am.look, h, QbZ])) (by omega) ?_
    intro k hk
    by_cases hlt : k < 16
    · have e2 := Qow hx hlt
      have e3 := Qq7 (K := .i32) (l := x.tp) (k := k) (by omega)
      have e4 : w32 (w32 (QbZ x.sh / 2 + Qre x.tp x.ps k) + w32 (x.tp.getD k 0 * x.ps.getD k 0)) = w32 (QbZ x.sh / 2 + Qre x.tp x.ps (k + 1)) := by
        rw [Qrm]; simp only [Qre]; congr 1; omega
      simp (maxSteps := 4000000) (disch := omega) only [rr, aop, cV, cV1, AV.one, Qb, okW, Qd, app, Qa, Qc, Qe, Qf, Qg, simprocAttr, l33, e2, e3, ZV, e4]
      exact ⟨k + 1, by omega, by omega, Le.slots (by simp [Am.look])⟩
    · have e : k = 16 := by omega
      subst e
      simp (maxSteps := 4000000) (disch := omega) only [rr, aop, cV, cV1, AV.one, Qb, okW, Qd, app, Qa, Qc, Qe, Qf, Qg, simprocAttr, ↓e0, h, Qrz, QpU, QhE, QbZ]
/-! ### taps.Learn, taps.Push -/

theorem QlE {P : Prg} {f t0 : Nat} (b : Qo P f 11 [.tmp 2] (Xa t0)) : Qcj P f := by
  intro x hx
  have l33 := QP hx
  have ho := QT x
  have e0 : (Qn x).drop 0 = .int .i64 x.sh :: (ks .i32 x.tp ++ ks .i32 x.ps) := rfl
  refine VC.of_acall (by simp [isDL, isD, Q7]) rfl (ACall.of_body b (by simp) ?_)
  by_cases h9 : x.sh = 9
  · simp (maxSteps := 4000000) (disch := omega) only [rr, aop, cV, cV1, AV.one, Qb, okW, Qd, app, Qa, Qc, Qe, Qf, Qg, simprocAttr, Xa, l33, ho, ↓e0, h9, Qpx]
  by_cases h10 : x.sh = 10
  · simp (maxSteps := 4000000) (disch := omega) only [rr, aop, cV, cV1, AV.one, Qb, okW, Qd, app, Qa, Qc, Qe, Qf, Qg, simprocAttr, Xa, l33, ho, ↓e0, h10, Qpx]
  · simp (maxSteps := 4000000) (disch := omega) only [rr, aop, cV, cV1, AV.one, Qb, okW, Qd, app, Qa, Qc, Qe, Qf, Qg, simprocAttr, Xa, l33, ho, ↓e0, Qpx]

def QiN (i : Nat) : Int := if i = 0 then 4 else if i < 4 then 2 else 1
def Qka (P : Prg) (f : Nat) : Prop := ∀ i : Nat, VC P f [.int .i64 i] (.int .i32 (QiN i))
theorem Qm8 {P : Prg} {f : Nat} (b : Qo P f 9 [.tmp 2] XF) : Qka P f := by
  intro i
  refine VC.of_acall rfl rfl (ACall.of_body b (by simp) ?_)
  by_cases h0 : i = 0
  · subst h0; simp (maxSteps := 4000000) (disch := omega) only [rr, aop, cV, cV1, AV.one, Qb, okW, Qd, app, Qa, Qc, Qe, Qf, Qg, simprocAttr, XF, QiN, Int.natCast_zero]
  by_cases h1 : i < 4
  · simp (maxSteps := 4000000) (disch := omega) only [rr, aop, cV, cV1, AV.one, Qb, okW, Qd, app, Qa, Qc, Qe, Qf, Qg, simprocAttr, XF, QiN, h0]
  · simp (maxSteps := 4000000) (disch := omega) only [rr, aop, cV, cV1, AV.one, Qb, okW, Qd, app, Qa, Qc, Qe, Qf, Qg, simprocAttr, XF, QiN, h0]

end Go.Am

namespace Go.Am
open Go.RowKit

def sgn (x : Int) : Int := if x < 0 then -1 else if 0 < x then 1 else 0
def QpD (x : XA) (w : Int) (k : Nat) : Int := w32 (x.tp.getD k 0 + QiN k * sgn (x.ps.getD k 0) * sgn w)
def Xj (x : XA) (w : Int) (k : Nat) : List Int := (List.range 16).map fun i => if i < k then QpD x w i else x.tp.getD i 0
def lf (x : XA) (w : Int) (k : Nat) : XA := { x with tp := Xj x w k }
def Ju (x : XA) (w : Int) : XA := lf x w 16

theorem QlO {l : List Int} (h : l.length = 16) : (List.range 16).map (fun i => l.getD i 0) = l := by
  apply List.ext_getElem (by simp [h])
  intro i h1 h2
  simp [List.getD_eq_getElem?_getD, List.getElem?_eq_getElem h2]
theorem Qn5 (x : XA) (w : Int) (k : Nat) : (Xj x w k).length = 16 := by simp [Xj]
theorem Qfl {x : XA} (h : QaD x) (w : Int) : Xj x w 0 = x.tp := by
  have := QlO h.1
  simpa [Xj] using this
theorem QlV (x : XA) (w : Int) {k : Nat} (hk : k < 16) : (Xj x w k).getD k 0 = x.tp.getD k 0 := by
  simp [Xj, List.getD_eq_getElem?_getD, hk]
theorem Qn4 (x : XA) (w : Int) {k : Nat} (hk : k < 16) : (Xj x w k).set k (QpD x w k) = Xj x w (k + 1) := by
  apply List.ext_getElem (by simp [Xj])
  intro i h1 h2
  rw [List.getElem_set]
  simp only [Xj, List.getElem_map, List.getElem_range]
  by_cases e : k = i
  · subst e; simp
  · rw [if_neg e]
    by_cases h : i < k
    · rw [if_pos h, if_pos (by omega)]
    · rw [if_neg h, if_neg (by omega)]
theorem Qfm (x : XA) (w : Int) {k : Nat} (h : QpD x w k = x.tp.getD k 0) : Xj x w (k + 1) = Xj x w k := by
  simp only [Xj]
  apply List.map_congr_left
  intro i _
  by_cases e : i = k
  · subst e; simp [h]
  · by_cases h : i < k
    · rw [if_pos h, if_pos (by omega)]
    · rw [if_neg h, if_neg (by omega)]
theorem Qpv {x : XA} (h : QaD x) (w : Int) (k : Nat) : I32 (Xj x w k) := by
  intro v hv
  simp only [Xj, List.mem_map] at hv
  obtain ⟨i, _, rfl⟩ := hv
  split
  · exact Xm _
  · exact ZF h.2.2.1 i
theorem Qht {x : XA} (h : QaD x) (w : Int) (k : Nat) : QaD (lf x w k) := ⟨Qn5 x w k, h.2.1, Qpv h w k, h.2.2.2⟩
theorem QdC {x : XA} (h : QaD x) (w : Int) : QaD (Ju x w) := Qht h w 16
theorem Qqi {x : XA} (h : QaD x) : Ju x 0 = x := by
  have key : ∀ k, Xj x 0 k = x.tp := fun k => by
    induction k with
    | zero => exact Qfl h 0
    | succ k ih =>
      rw [Qfm x 0, ih]
      have := ZF h.2.2.1 k
      simp only [QpD, sgn]
      simp
      exact QmN (by simpa using this.1) (by simpa using this.2)
  simp [Ju, lf, key]

def QgB (P : Prg) (f : Nat) : Prop := ∀ (x : XA) (w : Int), QaD x → x.sh = 9 ∨ x.sh = 10 → VC P f [.agg (Qn x), .int .i32 w] (.tup [.agg (Qn (Ju x w)), .int .i64 0])

theorem Qm7 {s : Int} (h : s = 9 ∨ s = 10) : Qpx s = 0 := by simp [Qpx, h]

theorem QlC {P : Prg} {f fC fS t0 : Nat} (b : Qo P f 53 [.cell 4 t0, .tmp 5] (Qal fC fS t0)) (ht : Zs P t0 = some (some 33)) (hC : Qcj P fC) (hS : Qka P fS) : QgB P f := by
  intro x w hx hs
  have l33 := QP hx
  have tk : (Qn x).take 33 = Qn x := Qu (by omega)
  have ho := QT x
  have hc := Qm7 hs
  have pp := Qfp hx
  have lw := QP (QdC hx w)
  have tkw : (Qn (Ju x w)).take 33 = Qn (Ju x w) := Qu (by omega)
  have how := QT (Ju x w)
  refine VC.of_acall (by simp [isDL, isD, Q7]) (by simp [isD, isDL, Q7]) (ACall.of_body b (by simp) ?_)
  simp (maxSteps := 4000000) (disch := omega) only [rr, aop, cV, cV1, AV.one, Qb, okW, Qd, app, Qa, Qc, Qe, Qf, Qg, simprocAttr, Qal, l33, tk, ho]
  refine Qh.vc (hC x hx) ?_
  by_cases hw : w = 0
  · subst hw
    have e := Qqi hx
    simp (maxSteps := 4000000) (disch := omega) only [rr, aop, cV, cV1, AV.one, Qb, okW, Qd, app, Qa, Qc, Qe, Qf, Qg, simprocAttr, l33, tk, ho, hc, Zf, ht, e]
  simp (maxSteps := 4000000) (disch := omega) only [rr, aop, cV, cV1, AV.one, Qb, okW, Qd, app, Qa, Qc, Qe, Qf, Qg, simprocAttr, l33, tk, ho, hc, pp]
  refine QQ.by (ι := Nat) (fun k => ⟨[(20, .int .i64 k), (19, .agg (ks .i32 x.ps)), (4, .ref 1 1 0), (2, .ref 0 1 0), (1, .int .i32 w), (5, .int .i64 0)], [⟨t0, 33, 1, Qn (lf x w k), 0⟩, ⟨t0, 33, 1, Qn QgR, 0⟩]⟩) (fun k => k ≤ 16) (fun k => 16 - k) 0 (by rw [show lf x w 0 = x by simp [lf, Qfl hx]]; exact Le.slots (by simp [Am.look])) (by omega) ?_
  intro k hk
  by_cases hlt : k < 16
  · have hok := Qht hx w k
    have e1 := Qq7 (K := .i32) (l := x.ps) (k := k) (by have := hx.2.1; omega)
    have e2 := QqA hok hlt
    have e3 := fun v => Qjh hok hlt v
    have e4 := QlV x w hlt
    have e5 := QP hok
    have hu := Qn4 x w hlt
    have hp := ZF hx.2.2.2 k
    have htp := ZF hx.2.2.1 k
    have ef : ∀ v, ({ lf x w k with tp := (lf x w k).tp.set k v } : XA) = { x with tp := (Xj x w k).set k v } := fun _ => rfl
    have e7 : (lf x w k).tp.getD k 0 = x.tp.getD k 0 := e4
    by_cases p0 : x.ps.getD k 0 = 0
    · have e6 := Qfm x w (k := k) (by simp only [QpD, p0, sgn]; simp; exact QmN (by simpa using htp.1) (by simpa using htp.2))
      simp (maxSteps := 4000000) (disch := omega) only [rr, aop, cV, cV1, AV.one, Qb, okW, Qd, app, Qa, Qc, Qe, Qf, Qg, simprocAttr, e1, p0]
      exact ⟨k + 1, by omega, by omega, by rw [show lf x w (k + 1) = lf x w k by simp [lf, e6]]; exact Le.slots (by simp [Am.look])⟩
    · by_cases hsame : (x.ps.getD k 0 < 0 ↔ w < 0)
      · have e6 : QpD x w k = w32 (x.tp.getD k 0 + QiN k) := by
          simp only [QpD, sgn]; congr 1
          by_cases q : w < 0
          · rw [if_pos q, if_pos (hsame.2 q)]; omega
          · rw [if_neg q, if_neg (fun h => q (hsame.1 h)), if_pos (by omega), if_pos (by omega)]; omega
        rw [e6] at hu
        by_cases q : w < 0
        · have q2 := hsame.2 q
          simp (maxSteps := 4000000) (disch := omega) only [rr, aop, cV, cV1, AV.one, Qb, okW, Qd, app, Qa, Qc, Qe, Qf, Qg, simprocAttr, e1, e2, e7]
          refine QC.vc (hS k) ?_
          simp (maxSteps := 4000000) (disch := omega) only [rr, aop, cV, cV1, AV.one, Qb, okW, Qd, app, Qa, Qc, Qe, Qf, Qg, simprocAttr, e3, e5, ZV, ef, hu]
          exact ⟨k + 1, by omega, by omega, Le.slots (by simp [Am.look])⟩
        · have q2 : ¬ x.ps.getD k 0 < 0 := fun h => q (hsame.1 h)
          simp (maxSteps := 4000000) (disch := omega) only [rr, aop, cV, cV1, AV.one, Qb, okW, Qd, app, Qa, Qc, Qe, Qf, Qg, simprocAttr, e1, e2, e7]
          refine QC.vc (hS k) ?_
          simp (maxSteps := 4000000) (disch := omega) only [rr, aop, cV, cV1, AV.one, Qb, okW, Qd, app, Qa, Qc, Qe, Qf, Qg, simprocAttr, e3, e5, ZV, ef, hu]
          exact ⟨k + 1, by omega, by omega, Le.slots (by simp [Am.look])⟩
      · have e6 : QpD x w k = w32 (x.tp.getD k 0 - QiN k) := by
          simp only [QpD, sgn]; congr 1
          by_cases q : w < 0
          · rw [if_pos q, if_neg (fun h => hsame ⟨fun _ => q, fun _ => h⟩), if_pos (by omega)]; omega
          · rw [if_neg q, if_pos (Classical.byContradiction fun h => hsame ⟨fun h' => absurd h' h, fun h' => absurd h' q⟩), if_pos (by omega)]; omega
        rw [e6] at hu
        by_cases q : w < 0
        · have q2 : ¬ x.ps.getD k 0 < 0 := fun h => hsame ⟨fun _ => q, fun _ => h⟩
          simp (maxSteps := 4000000) (disch := omega) only [rr, aop, cV, cV1, AV.one, Qb, okW, Qd, app, Qa, Qc, Qe, Qf, Qg, simprocAttr, e1, e2, e7]
          refine QC.vc (hS k) ?_
          simp (maxSteps := 4000000) (disch := omega) only [rr, aop, cV, cV1, AV.one, Qb, okW, Qd, app, Qa, Qc, Qe, Qf, Qg, simprocAttr, e3, e5, ZV, ef, hu]
          exact ⟨k + 1, by omega, by omega, Le.slots (by simp [Am.look])⟩
        · have q2 : x.ps.getD k 0 < 0 := Classical.byContradiction fun h => hsame ⟨fun h' => absurd h' h, fun h' => absurd h' q⟩
          simp (maxSteps := 4000000) (disch := omega) only [rr, aop, cV, cV1, AV.one, Qb, okW, Qd, app, Qa, Qc, Qe, Qf, Qg, simprocAttr, e1, e2, e7]
          refine QC.vc (hS k) ?_
          simp (maxSteps := 4000000) (disch := omega) only [rr, aop, cV, cV1, AV.one, Qb, okW, Qd, app, Qa, Qc, Qe, Qf, Qg, simprocAttr, e3, e5, ZV, ef, hu]
          exact ⟨k + 1, by omega, by omega, Le.slots (by simp [Am.look])⟩
  · have e : k = 16 := by omega
    subst e
    have hF : lf x w 16 = Ju x w := rfl
    rw [hF]
    simp (maxSteps := 4000000) (disch := omega) only [rr, aop, cV, cV1, AV.one, Qb, okW, Qd, app, Qa, Qc, Qe, Qf, Qg, simprocAttr, lw, tkw, how, Zf, ht, J4]
/-! ### taps.Push -/

def QeO (x : XA) (v : Int) : XA := { x with ps := v :: x.ps.take 15 }
theorem QnU {x : XA} (h : QaD x) {v : Int} (hv : -2147483648 ≤ v ∧ v ≤ 2147483647) : QaD (QeO x v) := by
  obtain ⟨h1, h2, h3, h4⟩ := h
  refine ⟨h1, by simp [QeO, h2], h3, fun y hy => ?_⟩
  simp only [QeO, List.mem_cons] at hy
  rcases hy with rfl | hy
  · exact hv
  · exact h4 y (List.mem_of_mem_take hy)

def Qkb (P : Prg) (f : Nat) : Prop := ∀ (x : XA) (v : Int), QaD x → x.sh = 9 ∨ x.sh = 10 → VC P f [.agg (Qn x), .int .i32 v] (.tup [.agg (Qn (QeO x v)), .int .i64 0])

theorem Qm9 {P : Prg} {f fC t0 : Nat} (b : Qo P f 22 [.cell 4 t0, .tmp 5] (QaV fC t0)) (ht : Zs P t0 = some (some 33)) (hC : Qcj P fC) : Qkb P f := by
  intro x v hx hs
  have l33 := QP hx
  have tk : (Qn x).take 33 = Qn x := Qu (by omega)
  have ho := QT x
  have hc := Qm7 hs
  have pp := Qfp hx
  have h16 : (ks .i32 x.ps).length = 16 := by simp [Ql, hx.2.1]
  have o16 := XE .i32 x.ps
  refine VC.of_acall (by simp [isDL, isD, Q7]) (by simp [isD, isDL, Q7]) (ACall.of_body b (by simp) ?_)
  simp (maxSteps := 4000000) (disch := omega) only [rr, aop, cV, cV1, AV.one, Qb, okW, Qd, app, Qa, Qc, Qe, Qf, Qg, simprocAttr, QaV, l33, tk, ho]
  refine Qh.vc (hC x hx) ?_
  have hm : Nat.min 16 15 = 15 := rfl
  let y : XA := { x with ps := x.ps.getD 0 0 :: x.ps.take 15 }
  have hy : QaD y := QnU hx (ZF hx.2.2.2 0)
  have hcp : (Qn x).take 18 ++ (ks .i32 x.ps).take 15 ++ (Qn x).drop 33 = Qn y := by
    have e1 : (Qn x).drop 33 = [] := List.drop_eq_nil_of_le (by omega)
    have e2 : (ks .i32 x.tp).length = 16 := by simp [Ql, hx.1]
    have e3 : (ks .i32 x.ps).take 1 = [.int .i32 (x.ps.getD 0 0)] := by
      have h1 : 0 < x.ps.length := by have := hx.2.1; omega
      match hps : x.ps, h1 with
      | a :: l, _ => rfl
    rw [e1, List.append_nil]
    simp only [Qn, List.take_succ_cons, List.cons_append, y]
    congr 1
    rw [List.take_append, List.take_of_length_le (by omega), e2, e3, List.append_assoc, QrW]
    rfl
  have hset : (Qn y).take 17 ++ [.int .i32 v] ++ (Qn y).drop 18 = Qn (QeO x v) := QhN hy (k := 0) (by omega) v
  have ly := QP hy
  have lp : (Qn (QeO x v)).length = 33 := by rw [← hset]; simp [ly]
  have tkp : (Qn (QeO x v)).take 33 = Qn (QeO x v) := Qu (by omega)
  have op := QT (QeO x v)
  simp (maxSteps := 4000000) (disch := omega) only [rr, aop, cV, cV1, AV.one, Qb, okW, Qd, app, Qa, Qc, Qe, Qf, Qg, simprocAttr, l33, tk, ho, hc, pp, h16, o16, hm, hcp, hset, ly, lp, tkp, op, Zf, ht, J4]
end Go.Am

namespace Go.Am
open Go.RowKit

def Z9 (x : XA) (v y : Int) : XA := QeO (Ju x y) v
theorem QaP {x : XA} (h : QaD x) {v : Int} (hv : -2147483648 ≤ v ∧ v ≤ 2147483647) (y : Int) : QaD (Z9 x v y) := QnU (QdC h y) hv
def Qcn (P : Prg) (f : Nat) : Prop := ∀ (x : XA) (v y : Int), QaD x → x.sh = 9 ∨ x.sh = 10 → -2147483648 ≤ v ∧ v ≤ 2147483647 → VC P f [.agg (Qn x), .int .i32 v, .int .i32 y] (.agg (Qn (Z9 x v y)))

theorem QlU {P : Prg} {f fL fP t0 : Nat} (b : Qo P f 20 [.cell 6 t0] (Qan fL fP t0)) (ht : Zs P t0 = some (some 33)) (hL : QgB P fL) (hP : Qkb P fP) : Qcn P f := by
  intro x v y hx hs hv
  have l1 := QP hx
  have t1 : (Qn x).take 33 = Qn x := Qu (by omega)
  have o1 := QT x
  have l2 := QP (QdC hx y)
  have t2 : (Qn (Ju x y)).take 33 = Qn (Ju x y) := Qu (by omega)
  have o2 := QT (Ju x y)
  have l3 := QP (QaP hx hv y)
  have t3 : (Qn (Z9 x v y)).take 33 = Qn (Z9 x v y) := Qu (by omega)
  have o3 := QT (Z9 x v y)
  have d1 : (Qn x).drop 33 = [] := List.drop_eq_nil_of_le (by omega)
  have d2 : (Qn (Ju x y)).drop 33 = [] := List.drop_eq_nil_of_le (by omega)
  refine VC.of_acall (by simp [isDL, isD, Q7]) (by simp [isD, Q7]) (ACall.of_body b (by simp) ?_)
  simp (maxSteps := 4000000) (disch := omega) only [rr, aop, cV, cV1, AV.one, Qb, okW, Qd, app, Qa, Qc, Qe, Qf, Qg, simprocAttr, Qan, l1, t1, o1]
  refine Qh.vc (hL x y hx hs) ?_
  simp (maxSteps := 4000000) (disch := omega) only [rr, aop, cV, cV1, AV.one, Qb, okW, Qd, app, Qa, Qc, Qe, Qf, Qg, simprocAttr, l1, t1, o1, l2, t2, o2, d1]
  refine Qh.vc (hP (Ju x y) v (QdC hx y) hs) ?_
  rw [← Z9]
  simp (maxSteps := 4000000) (disch := omega) only [rr, aop, cV, cV1, AV.one, Qb, okW, Qd, app, Qa, Qc, Qe, Qf, Qg, simprocAttr, l1, t1, o1, l2, t2, o2, l3, t3, o3, d1, d2, Zf, ht, J4]

def Qol (x : XA) (v : Int) : Int := w32 (v - QhE x)
def Qtw (x : XA) (v : Int) : XA := Z9 x v (Qol x v)
def QcR (P : Prg) (f : Nat) : Prop := ∀ (x : XA) (v : Int), QaD x → x.sh = 9 ∨ x.sh = 10 → -2147483648 ≤ v ∧ v ≤ 2147483647 → VC P f [.agg (Qn x), .int .i32 v] (.tup [.int .i32 (Qol x v), .agg (Qn (Qtw x v)), .int .i64 0])

theorem Qi6 {P : Prg} {f fG fB t0 : Nat} (b : Qo P f 27 [.tmp 4, .cell 5 t0, .tmp 6] (JJ fG fB t0)) (ht : Zs P t0 = some (some 33)) (hG : QdI P fG) (hB : Qcn P fB) : QcR P f := by
  intro x v hx hs hv
  have l1 := QP hx
  have t1 : (Qn x).take 33 = Qn x := Qu (by omega)
  have o1 := QT x
  have l3 := QP (QaP hx hv (Qol x v))
  have t3 : (Qn (Z9 x v (Qol x v))).take 33 = Qn (Z9 x v (Qol x v)) := Qu (by omega)
  have o3 := QT (Z9 x v (Qol x v))
  refine VC.of_acall (by simp [isDL, isD, Q7]) (by simp [isD, isDL, Q7]) (ACall.of_body b (by simp) ?_)
  simp (maxSteps := 4000000) (disch := omega) only [rr, aop, cV, cV1, AV.one, Qb, okW, Qd, app, Qa, Qc, Qe, Qf, Qg, simprocAttr, JJ, l1, t1, o1]
  refine Qh.vc (hG x hx hs) ?_
  simp (maxSteps := 4000000) (disch := omega) only [rr, aop, cV, cV1, AV.one, Qb, okW, Qd, app, Qa, Qc, Qe, Qf, Qg, simprocAttr, l1, t1, o1, ZV]
  refine Qh.vc (hB x v (Qol x v) hx hs hv) ?_
  simp only [Qol] at l3 t3 o3
  simp (maxSteps := 4000000) (disch := omega) only [rr, aop, cV, cV1, AV.one, Qb, okW, Qd, app, Qa, Qc, Qe, Qf, Qg, simprocAttr, l1, t1, o1, l3, t3, o3, Zf, ht, J4, Qtw, Qol]

def Qo3 (x : XA) (y : Int) : Int := w32 (y + QhE x)
def Qty (x : XA) (y : Int) : XA := Z9 x (Qo3 x y) y
def Qkf (P : Prg) (f : Nat) : Prop := ∀ (x : XA) (y : Int), QaD x → x.sh = 9 ∨ x.sh = 10 → VC P f [.agg (Qn x), .int .i32 y] (.tup [.int .i32 (Qo3 x y), .agg (Qn (Qty x y)), .int .i64 0])

theorem Qqg {P : Prg} {f fG fB t0 : Nat} (b : Qo P f 27 [.tmp 4, .cell 5 t0, .tmp 6] (QbG fG fB t0)) (ht : Zs P t0 = some (some 33)) (hG : QdI P fG) (hB : Qcn P fB) : Qkf P f := by
  intro x y hx hs
  have hv := Xm (y + QhE x)
  have l1 := QP hx
  have t1 : (Qn x).take 33 = Qn x := Qu (by omega)
  have o1 := QT x
  have l3 := QP (QaP hx hv y)
  have t3 : (Qn (Z9 x (Qo3 x y) y)).take 33 = Qn (Z9 x (Qo3 x y) y) := Qu (by unfold Qo3; omega)
  have o3 := QT (Z9 x (Qo3 x y) y)
  refine VC.of_acall (by simp [isDL, isD, Q7]) (by simp [isD, isDL, Q7]) (ACall.of_body b (by simp) ?_)
  simp (maxSteps := 4000000) (disch := omega) only [rr, aop, cV, cV1, AV.one, Qb, okW, Qd, app, Qa, Qc, Qe, Qf, Qg, simprocAttr, QbG, l1, t1, o1]
  refine Qh.vc (hG x hx hs) ?_
  simp (maxSteps := 4000000) (disch := omega) only [rr, aop, cV, cV1, AV.one, Qb, okW, Qd, app, Qa, Qc, Qe, Qf, Qg, simprocAttr, l1, t1, o1, ZV]
  refine Qh.vc (hB x (Qo3 x y) y hx hs hv) ?_
  simp only [Qo3] at l3 t3 o3
  simp (maxSteps := 4000000) (disch := omega) only [rr, aop, cV, cV1, AV.one, Qb, okW, Qd, app, Qa, Qc, Qe, Qf, Qg, simprocAttr, l1, t1, o1, l3, t3, o3, Zf, ht, J4, Qty, Qo3]

/-! ### first -/

def Qbq (b last : Int) : Int := if b = 8 then 15 * last / 16 else 31 * last / 32
def QgG (P : Prg) (f : Nat) : Prop := ∀ b : Int, QaA b ≠ 0 → VC P f [.int .i64 b] (.tup [.int .i64 (if b = 8 then 4 else 5), .int .i64 0])
theorem Qjf {P : Prg} {f : Nat} (b : Qo P f 10 [.tmp 2, .tmp 3] ZT) : QgG P f := by
  intro x hx
  refine VC.of_acall rfl rfl (ACall.of_body b (by simp) ?_)
  rcases Qa9 x with ⟨rfl, h⟩ | ⟨rfl, h⟩ | ⟨rfl, h⟩ | ⟨h2, h3, h4, h⟩
  · simp (maxSteps := 4000000) (disch := omega) only [rr, aop, cV, cV1, AV.one, Qb, okW, Qd, app, Qa, Qc, Qe, Qf, Qg, simprocAttr, ZT]
  · simp (maxSteps := 4000000) (disch := omega) only [rr, aop, cV, cV1, AV.one, Qb, okW, Qd, app, Qa, Qc, Qe, Qf, Qg, simprocAttr, ZT]
  · simp (maxSteps := 4000000) (disch := omega) only [rr, aop, cV, cV1, AV.one, Qb, okW, Qd, app, Qa, Qc, Qe, Qf, Qg, simprocAttr, ZT]
  · exact absurd h hx

theorem QrC {x : Int} (h : -2147483648 ≤ x ∧ x ≤ 2147483647) : Qp true .i64 x 4 = some (.int .i64 (x * 16)) := by
  show some (AV.int .i64 (IntKind.i64.wrap (x * 16))) = _
  rw [Qa2 (by omega) (by omega)]
theorem QrB {x : Int} (h : -2147483648 ≤ x ∧ x ≤ 2147483647) : Qp true .i64 x 5 = some (.int .i64 (x * 32)) := by
  show some (AV.int .i64 (IntKind.i64.wrap (x * 32))) = _
  rw [Qa2 (by omega) (by omega)]
theorem Qry (x : Int) : Qp false .i64 x 4 = some (.int .i64 (x / 16)) := by
  show some (AV.int .i64 (x.fdiv 16)) = _
  rw [Int.fdiv_eq_ediv_of_nonneg _ (by omega)]
theorem Qrx (x : Int) : Qp false .i64 x 5 = some (.int .i64 (x / 32)) := by
  show some (AV.int .i64 (x.fdiv 32)) = _
  rw [Int.fdiv_eq_ediv_of_nonneg _ (by omega)]

def QgF (P : Prg) (f : Nat) : Prop := ∀ (b l : Int), -2147483648 ≤ l ∧ l ≤ 2147483647 → VC P f [.int .i64 (if b = 8 then 4 else 5), .int .i32 l] (.int .i32 (Qbq b l))
theorem Qje {P : Prg} {f : Nat} (b : Qo P f 16 [.tmp 4] Xx) : QgF P f := by
  intro x l hl
  refine VC.of_acall rfl rfl (ACall.of_body b (by simp) ?_)
  have e1 : l * 16 - l = 15 * l := by omega
  have e2 : l * 32 - l = 31 * l := by omega
  have a := QrC hl
  have c := QrB hl
  by_cases h : x = 8
  · simp (maxSteps := 4000000) (disch := omega) only [rr, aop, cV, cV1, AV.one, Qb, okW, Qd, app, Qa, Qc, Qe, Qf, Qg, simprocAttr, Xx, h, Qbq, a, Qry, e1]
  · simp (maxSteps := 4000000) (disch := omega) only [rr, aop, cV, cV1, AV.one, Qb, okW, Qd, app, Qa, Qc, Qe, Qf, Qg, simprocAttr, Xx, if_neg h, Qbq, c, Qrx, e2]

def QdM (P : Prg) (f : Nat) : Prop := ∀ (b l : Int), QaA b ≠ 0 → -2147483648 ≤ l ∧ l ≤ 2147483647 → VC P f [.int .i64 b, .int .i32 l] (.tup [.int .i32 (Qbq b l), .int .i64 0])
theorem Qjg {P : Prg} {f fS fg : Nat} (b : Qo P f 19 [.tmp 4, .tmp 5] (JL fS fg)) (hS : QgG P fS) (hg : QgF P fg) : QdM P f := by
  intro x l hx hl
  refine VC.of_acall rfl rfl (ACall.of_body b (by simp) ?_)
  simp (maxSteps := 4000000) (disch := omega) only [rr, aop, cV, cV1, AV.one, Qb, okW, Qd, app, Qa, Qc, Qe, Qf, Qg, simprocAttr, JL]
  refine Qh.vc (hS x hx) ?_
  simp (maxSteps := 4000000) (disch := omega) only [rr, aop, cV, cV1, AV.one, Qb, okW, Qd, app, Qa, Qc, Qe, Qf, Qg, simprocAttr]
  refine Qh.vc (hg x l hl) ?_
  simp (maxSteps := 4000000) (disch := omega) only [rr, aop, cV, cV1, AV.one, Qb, okW, Qd, app, Qa, Qc, Qe, Qf, Qg, simprocAttr]
/-! ### chain -/

structure ZM where
  bits : Int
  last : Int
  fl : XA

def QO (c : ZM) : List AV := .int .i64 c.bits :: .int .i32 c.last :: Qn c.fl
def QkL (c : ZM) : Prop := QaA c.bits ≠ 0 ∧ c.fl.sh = Qaa c.bits ∧ QaD c.fl ∧ (-2147483648 ≤ c.last ∧ c.last ≤ 2147483647)
def J5 : ZM := ⟨0, 0, QgR⟩

theorem Zl {c : ZM} (h : QaD c.fl) : (QO c).length = 35 := by simp [QO, QP h]
theorem ZG (c : ZM) : (QO c).all AV.one = true := by simp [QO, AV.one, QT]
theorem JX (c : ZM) : isDL (QO c) = true := by simp [QO, isDL, isD, Q7]
theorem Qkz (b : Int) : Qaa b = 9 ∨ Qaa b = 10 := by unfold Qaa; split <;> simp
theorem QnX {b : Int} {t : List Int} (h1 : t.length = 16) (h2 : I32 t) : QaD (QfS b t) := ⟨h1, by simp [QfS, z16], h2, fun x hx => by simp [QfS, z16] at hx; omega⟩
theorem Qa0 : QO J5 = [.int .i64 0, .int .i32 0, .int .i64 0, .int .i32 0, .int .i32 0, .int .i32 0, .int .i32 0, .int .i32 0, .int .i32 0, .int .i32 0, .int .i32 0, .int .i32 0, .int .i32 0, .int .i32 0, .int .i32 0, .int .i32 0, .int .i32 0, .int .i32 0, .int .i32 0, .int .i32 0, .int .i32 0, .int .i32 0, .int .i32 0, .int .i32 0, .int .i32 0, .int .i32 0, .int .i32 0, .int .i32 0, .int .i32 0, .int .i32 0, .int .i32 0, .int .i32 0, .int .i32 0, .int .i32 0, .int .i32 0] := rfl

def Js (b : Int) (t : List Int) : ZM := ⟨b, 0, QfS b t⟩
def Qjy (b : Int) (t : List Int) : AV := if QaA b = 0 then .tup [.agg (QO J5), .int .i64 2] else .tup [.agg (QO (Js b t)), .int .i64 0]
def Qlk (P : Prg) (f : Nat) : Prop := ∀ (b : Int) (t : List Int), t.length = 16 → I32 t → VC P f [.int .i64 b, .agg (ks .i32 t)] (Qjy b t)
theorem Qqw (b : Int) (t : List Int) : isD (Qjy b t) = true := by unfold Qjy; split <;> simp [isD, isDL, JX]

theorem QoR {P : Prg} {f fT t0 t1 t2 : Nat} (b : Qo P f 21 [.cell 4 t1, .tmp 5] (QaZ fT t0 t1 t2)) (ht : Zs P t1 = some (some 35)) (hT : Qlh P fT) : Qlk P f := by
  intro x t hl hI
  have hk : (ks .i32 t).length = 16 := by simp [Ql, hl]
  have h1 := XE .i32 t
  have tk16 : (ks .i32 t).take 16 = ks .i32 t := Qu (by omega)
  have hok : QaD (QfS x t) := QnX hl hI
  have l1 := QP hok
  have t1' : (Qn (QfS x t)).take 33 = Qn (QfS x t) := Qu (by omega)
  have o1 := QT (QfS x t)
  have lc := Zl (c := Js x t) hok
  have tc : (QO (Js x t)).take 35 = QO (Js x t) := Qu (by omega)
  have oc := ZG (Js x t)
  have mk : AV.int .i64 x :: .int .i32 0 :: Qn (QfS x t) = QO (Js x t) := rfl
  refine VC.of_acall (by simp [isDL, isD, QZ]) (Qqw _ _) (ACall.of_body b (by simp) ?_)
  simp (maxSteps := 4000000) (disch := omega) only [rr, aop, cV, cV1, AV.one, Qb, okW, Qd, app, Qa, Qc, Qe, Qf, Qg, simprocAttr, QaZ, hk, h1, tk16]
  refine Qh.vc (hT x t hl) ?_
  by_cases h0 : QaA x = 0
  · simp (maxSteps := 4000000) (disch := omega) only [rr, aop, cV, cV1, AV.one, Qb, okW, Qd, app, Qa, Qc, Qe, Qf, Qg, simprocAttr, QeJ, h0, Qjy, J4, Qa0, Zf, ht]
  · simp (maxSteps := 4000000) (disch := omega) only [rr, aop, cV, cV1, AV.one, Qb, okW, Qd, app, Qa, Qc, Qe, Qf, Qg, simprocAttr, QeJ, if_neg h0, Qjy, l1, t1', o1, lc, tc, oc, mk, Qa0, Zf, ht]

theorem QoQ {c : ZM} (h : QaD c.fl) : ((QO c).drop 2).take 33 = Qn c.fl := by
  simp only [QO, List.drop_succ_cons, List.drop_zero]
  exact Qu (by rw [QP h]; omega)
theorem QoP {c : ZM} (h : QaD c.fl) : ((QO c).drop 3).take 16 = ks .i32 c.fl.tp := QhM h

def QdQ (P : Prg) (f : Nat) : Prop := ∀ c : ZM, QkL c → VC P f [.agg (QO c)] (.int .i64 0)
theorem QjB {P : Prg} {f fT t0 t1 : Nat} (b : Qo P f 24 [.tmp 2] (JP fT t0 t1)) (hT : Qlh P fT) : QdQ P f := by
  intro c ⟨h1, h2, h3, h4⟩
  have lc := Zl h3
  have oc := ZG c
  have e0 : (QO c).drop 0 = .int .i64 c.bits :: .int .i32 c.last :: Qn c.fl := rfl
  have e2 : (QO c).drop 2 = .int .i64 c.fl.sh :: (ks .i32 c.fl.tp ++ ks .i32 c.fl.ps) := rfl
  have et := QoP h3
  have hk : (ks .i32 c.fl.tp).length = 16 := by simp [Ql, h3.1]
  have hok : QaD (QfS c.bits c.fl.tp) := QnX h3.1 h3.2.2.1
  have l1 := QP hok
  have t1' : (Qn (QfS c.bits c.fl.tp)).take 33 = Qn (QfS c.bits c.fl.tp) := Qu (by omega)
  have o1 := QT (QfS c.bits c.fl.tp)
  have en : (Qn (QfS c.bits c.fl.tp)).drop 0 = .int .i64 (Qaa c.bits) :: (ks .i32 c.fl.tp ++ ks .i32 z16) := rfl
  have dn : (Qn (QfS c.bits c.fl.tp)).drop 33 = [] := List.drop_eq_nil_of_le (by omega)
  refine VC.of_acall (by simp [isDL, isD, JX]) rfl (ACall.of_body b (by simp) ?_)
  simp (maxSteps := 4000000) (disch := omega) only [rr, aop, cV, cV1, AV.one, Qb, okW, Qd, app, Qa, Qc, Qe, Qf, Qg, simprocAttr, JP, lc, oc, ↓e0, et]
  refine Qh.vc (hT c.bits c.fl.tp h3.1) ?_
  simp (maxSteps := 4000000) (disch := omega) only [rr, aop, cV, cV1, AV.one, Qb, okW, Qd, app, Qa, Qc, Qe, Qf, Qg, simprocAttr, QeJ, if_neg h1, l1, t1', o1, ↓en, ↓e2, h2, dn]

def Qta (c : ZM) (x : Int) : Int := w32 (x - Qbq c.bits c.last)
def QjC (c : ZM) (x : Int) : Int := Qol c.fl (Qta c x)
def QaB (c : ZM) (x : Int) : ZM := ⟨c.bits, x, Qtw c.fl (Qta c x)⟩
theorem Qi2 {c : ZM} (h : QkL c) {x : Int} (hx : -2147483648 ≤ x ∧ x ≤ 2147483647) : QkL (QaB c x) := ⟨h.1, h.2.1, QaP h.2.2.1 (Xm _) _, hx⟩

def QcS (P : Prg) (f : Nat) : Prop := ∀ (c : ZM) (x : Int), QkL c → -2147483648 ≤ x ∧ x ≤ 2147483647 → VC P f [.agg (QO c), .int .i32 x] (.tup [.int .i32 (QjC c x), .agg (QO (QaB c x)), .int .i64 0])

theorem Qgc {P : Prg} {f fC fG fF t0 t1 : Nat} (b : Qo P f 44 [.tmp 4, .cell 5 t0, .tmp 6] (XP fC fG fF t0 t1)) (ht : Zs P t0 = some (some 35)) (hC : QdQ P fC) (hG : QdM P fG) (hF : QcR P fF) : QcS P f := by
  intro c x hc hx
  obtain ⟨h1, h2, h3, h4⟩ := id hc
  have hs : c.fl.sh = 9 ∨ c.fl.sh = 10 := by rw [h2]; exact Qkz _
  have lc := Zl h3
  have tc : (QO c).take 35 = QO c := Qu (by omega)
  have oc := ZG c
  have e0 : (QO c).drop 0 = .int .i64 c.bits :: .int .i32 c.last :: Qn c.fl := rfl
  have e1 : (QO c).drop 1 = .int .i32 c.last :: Qn c.fl := rfl
  have e2 := QoQ h3
  have hzr := Xm (x - Qbq c.bits c.last)
  have hok := Qi2 hc hx
  have l1 := QP hok.2.2.1
  have t1' : (Qn (QaB c x).fl).take 33 = Qn (QaB c x).fl := Qu (by omega)
  have o1 := QT (QaB c x).fl
  have d1 : (Qn (QaB c x).fl).drop 33 = [] := List.drop_eq_nil_of_le (by omega)
  have l2 := Zl hok.2.2.1
  have t2 : (QO (QaB c x)).take 35 = QO (QaB c x) := Qu (by omega)
  have o2 := ZG (QaB c x)
  have mk : AV.int .i64 c.bits :: .int .i32 x :: Qn (QaB c x).fl = QO (QaB c x) := rfl
  have hfe : Qtw c.fl (w32 (x - Qbq c.bits c.last)) = (QaB c x).fl := rfl
  have hye : Qol c.fl (w32 (x - Qbq c.bits c.last)) = QjC c x := rfl
  refine VC.of_acall (by simp [isDL, isD, JX]) (by simp [isD, isDL, JX]) (ACall.of_body b (by simp) ?_)
  simp (maxSteps := 4000000) (disch := omega) only [rr, aop, cV, cV1, AV.one, Qb, okW, Qd, app, Qa, Qc, Qe, Qf, Qg, simprocAttr, XP, lc, tc, oc]
  refine Qh.vc (hC c hc) ?_
  simp (maxSteps := 4000000) (disch := omega) only [rr, aop, cV, cV1, AV.one, Qb, okW, Qd, app, Qa, Qc, Qe, Qf, Qg, simprocAttr, lc, tc, oc, ↓e0, ↓e1]
  refine Qh.vc (hG c.bits c.last h1 h4) ?_
  simp (maxSteps := 4000000) (disch := omega) only [rr, aop, cV, cV1, AV.one, Qb, okW, Qd, app, Qa, Qc, Qe, Qf, Qg, simprocAttr, lc, tc, oc, e2, ZV]
  refine Qh.vc (hF c.fl _ h3 hs hzr) ?_
  rw [hfe, hye]
  simp (maxSteps := 4000000) (disch := omega) only [rr, aop, cV, cV1, AV.one, Qb, okW, Qd, app, Qa, Qc, Qe, Qf, Qg, simprocAttr, lc, tc, oc, ↓e0, l1, t1', o1, d1, l2, t2, o2, mk, Zf, ht, Qa0]
end Go.Am

namespace Go.Am
open Go.RowKit

/-! ### chain.Back -/

def Qml (c : ZM) (y : Int) : Int := w32 (Qo3 c.fl y + Qbq c.bits c.last)
def QaC (c : ZM) (y : Int) : ZM := ⟨c.bits, Qml c y, Qty c.fl y⟩
theorem Qi3 {c : ZM} (h : QkL c) (y : Int) : QkL (QaC c y) := ⟨h.1, h.2.1, QaP h.2.2.1 (Xm _) _, Xm _⟩

def Qki (P : Prg) (f : Nat) : Prop := ∀ (c : ZM) (y : Int), QkL c → VC P f [.agg (QO c), .int .i32 y] (.tup [.int .i32 (Qml c y), .agg (QO (QaC c y)), .int .i64 0])

theorem Qmk {P : Prg} {f fC fG fF t0 t1 : Nat} (b : Qo P f 46 [.tmp 4, .cell 5 t0, .tmp 6] (Qas fC fG fF t0 t1)) (ht : Zs P t0 = some (some 35)) (hC : QdQ P fC) (hG : QdM P fG) (hF : Qkf P fF) : Qki P f := by
  intro c x hc
  obtain ⟨h1, h2, h3, h4⟩ := id hc
  have hs : c.fl.sh = 9 ∨ c.fl.sh = 10 := by rw [h2]; exact Qkz _
  have lc := Zl h3
  have tc : (QO c).take 35 = QO c := Qu (by omega)
  have oc := ZG c
  have e0 : (QO c).drop 0 = .int .i64 c.bits :: .int .i32 c.last :: Qn c.fl := rfl
  have e1 : (QO c).drop 1 = .int .i32 c.last :: Qn c.fl := rfl
  have e2 := QoQ h3
  have hok := Qi3 hc x
  have l1 := QP hok.2.2.1
  have t1' : (Qn (QaC c x).fl).take 33 = Qn (QaC c x).fl := Qu (by omega)
  have o1 := QT (QaC c x).fl
  have d1 : (Qn (QaC c x).fl).drop 33 = [] := List.drop_eq_nil_of_le (by omega)
  have l2 := Zl hok.2.2.1
  have t2 : (QO (QaC c x)).take 35 = QO (QaC c x) := Qu (by omega)
  have o2 := ZG (QaC c x)
  have mk : AV.int .i64 c.bits :: .int .i32 (Qml c x) :: Qn (QaC c x).fl = QO (QaC c x) := rfl
  have hfe : Qty c.fl x = (QaC c x).fl := rfl
  have hye : w32 (Qo3 c.fl x + Qbq c.bits c.last) = Qml c x := rfl
  refine VC.of_acall (by simp [isDL, isD, JX]) (by simp [isD, isDL, JX]) (ACall.of_body b (by simp) ?_)
  simp (maxSteps := 4000000) (disch := omega) only [rr, aop, cV, cV1, AV.one, Qb, okW, Qd, app, Qa, Qc, Qe, Qf, Qg, simprocAttr, Qas, lc, tc, oc]
  refine Qh.vc (hC c hc) ?_
  simp (maxSteps := 4000000) (disch := omega) only [rr, aop, cV, cV1, AV.one, Qb, okW, Qd, app, Qa, Qc, Qe, Qf, Qg, simprocAttr, lc, tc, oc, ↓e0, ↓e1]
  refine Qh.vc (hG c.bits c.last h1 h4) ?_
  simp (maxSteps := 4000000) (disch := omega) only [rr, aop, cV, cV1, AV.one, Qb, okW, Qd, app, Qa, Qc, Qe, Qf, Qg, simprocAttr, lc, tc, oc, e2, ZV]
  refine Qh.vc (hF c.fl x h3 hs) ?_
  rw [hfe]
  simp (maxSteps := 4000000) (disch := omega) only [rr, aop, cV, cV1, AV.one, Qb, okW, Qd, app, Qa, Qc, Qe, Qf, Qg, simprocAttr, lc, tc, oc, ↓e0, l1, t1', o1, d1, l2, t2, o2, mk, Zf, ht, Qa0, ZV, hye]

/-! ### The references -/

theorem Qm6 {x : Int} (h : x < 0) (n : Int) : x.tdiv n = -(-x / n) ∧ x.tmod n = -(-x % n) := by
  have e : x = -(-x) := by omega
  constructor
  · rw [e, Int.neg_tdiv, Int.tdiv_eq_ediv_of_nonneg (by omega)]; simp
  · rw [e, Int.neg_tmod, Int.tmod_eq_emod_of_nonneg (by omega)]; simp

def QtG (x : XA) (k : Nat) : List Int := (List.range 16).map fun j => if k < j then x.ps.getD (j - 1) 0 else x.ps.getD j 0
def pf (x : XA) (k : Nat) : XA := { x with ps := QtG x k }
end Go.Am

namespace Go.Am
open Go.RowKit

/-! ### New -/


/-! ### fold -/

def QhK (x : Int) : Int := if x < 0 then -2 * x - 1 else 2 * x
def Qpn (P : Prg) (f : Nat) : Prop := ∀ x : Int, -2147483648 ≤ x ∧ x ≤ 2147483647 → VC P f [.int .i32 x] (.int .u32 (QhK x))
theorem Qos {x : Int} (h : -2147483648 ≤ x ∧ x ≤ 2147483647) : 0 ≤ QhK x ∧ QhK x < 4294967296 := by unfold QhK; split <;> omega

theorem Qkn {a : Nat} (h : a < 4294967296) : (BitVec.ofInt 32 (a : Int) ^^^ BitVec.ofInt 32 4294967295).toNat = 4294967295 - a := by
  have e : BitVec.ofInt 32 4294967295 = BitVec.allOnes 32 := by decide
  rw [e, BitVec.xor_allOnes, BitVec.toNat_not]
  have : (BitVec.ofInt 32 (a : Int)).toNat = a := by simp; omega
  rw [this]
theorem QgS {a : Nat} (h : a < 4294967296) : (BitVec.ofInt 32 (a : Int) ^^^ BitVec.ofInt 32 0).toNat = a := by
  have : (BitVec.ofInt 32 (a : Int)).toNat = a := by simp; omega
  rw [BitVec.toNat_xor, this]
  simp

theorem Qoq {P : Prg} {f : Nat} (b : Qo P f 10 [.tmp 2] Jw) : Qpn P f := by
  intro x hx
  refine VC.of_acall rfl rfl (ACall.of_body b (by simp) ?_)
  by_cases h : x < 0
  · have a1 : IntKind.u32.wrap x = x + 4294967296 := by rw [XB]; omega
    have a2 : Qp true .u32 (x + 4294967296) 1 = some (.int .u32 (2 * x + 4294967296)) := by
      show some (AV.int .u32 (IntKind.u32.wrap ((x + 4294967296) * 2))) = _
      rw [XB]; congr 2; omega
    have a3 : Qp false .i32 x 31 = some (.int .i32 (-1)) := by
      show some (AV.int .i32 (x.fdiv 2147483648)) = _
      rw [Int.fdiv_eq_ediv_of_nonneg _ (by omega)]; congr 2; omega
    have a4 : IntKind.u32.wrap (-1) = 4294967295 := rfl
    have a5 : (BitVec.ofInt IntKind.u32.bits (2 * x + 4294967296) ^^^ BitVec.ofInt IntKind.u32.bits 4294967295).toNat = (-2 * x - 1).toNat := by
      show (BitVec.ofInt 32 (2 * x + 4294967296) ^^^ BitVec.ofInt 32 4294967295).toNat = (-2 * x - 1).toNat
      have := Qkn (a := (2 * x + 4294967296).toNat) (by omega)
      rw [show (((2 * x + 4294967296).toNat : Nat) : Int) = 2 * x + 4294967296 by omega] at this
      rw [this]; omega
    have a6 : (((BitVec.ofInt IntKind.u32.bits (2 * x + 4294967296) ^^^ BitVec.ofInt IntKind.u32.bits 4294967295).toNat : Nat) : Int) = -2 * x - 1 := by rw [a5]; omega
    simp (maxSteps := 4000000) (disch := omega) only [rr, aop, cV, cV1, AV.one, Qb, okW, Qd, app, Qa, Qc, Qe, Qf, Qg, simprocAttr, Jw, a1, a2, a3, a4, a6, QhK]
  · have a2 : Qp true .u32 x 1 = some (.int .u32 (2 * x)) := by
      show some (AV.int .u32 (IntKind.u32.wrap (x * 2))) = _
      rw [XB]; congr 2; omega
    have a3 : Qp false .i32 x 31 = some (.int .i32 0) := by
      show some (AV.int .i32 (x.fdiv 2147483648)) = _
      rw [Int.fdiv_eq_ediv_of_nonneg _ (by omega)]; congr 2; omega
    have a5 : (BitVec.ofInt IntKind.u32.bits (2 * x) ^^^ BitVec.ofInt IntKind.u32.bits 0).toNat = (2 * x).toNat := by
      show (BitVec.ofInt 32 (2 * x) ^^^ BitVec.ofInt 32 0).toNat = (2 * x).toNat
      have := QgS (a := (2 * x).toNat) (by omega)
      rwa [show (((2 * x).toNat : Nat) : Int) = 2 * x by omega] at this
    have a6 : (((BitVec.ofInt IntKind.u32.bits (2 * x) ^^^ BitVec.ofInt IntKind.u32.bits 0).toNat : Nat) : Int) = 2 * x := by rw [a5]; omega
    simp (maxSteps := 4000000) (disch := omega) only [rr, aop, cV, cV1, AV.one, Qb, okW, Qd, app, Qa, Qc, Qe, Qf, Qg, simprocAttr, Jw, a2, a3, a6, QhK]

def Xh (n : Int) : Int := if n % 2 = 0 then n / 2 else -(n / 2) - 1
def Qj9 (P : Prg) (f : Nat) : Prop := ∀ n : Int, 0 ≤ n ∧ n < 4294967296 → VC P f [.int .u32 n] (.int .i32 (Xh n))
theorem Qsp {a : Nat} (h : a < 4294967296) : (BitVec.ofInt 32 (a : Int) &&& BitVec.ofInt 32 1).toNat = a % 2 := by
  have : (BitVec.ofInt 32 (a : Int)).toNat = a := by simp; omega
  rw [BitVec.toNat_and, this]
  exact Nat.and_one_is_mod a

theorem Qor {P : Prg} {f : Nat} (b : Qo P f 11 [.tmp 2] Jy) : Qj9 P f := by
  intro n hn
  refine VC.of_acall rfl rfl (ACall.of_body b (by simp) ?_)
  have a1 : Qp false .u32 n 1 = some (.int .u32 (n / 2)) := by
    show some (AV.int .u32 (n.fdiv 2)) = _
    rw [Int.fdiv_eq_ediv_of_nonneg _ (by omega)]
  have a2 : (((BitVec.ofInt IntKind.u32.bits n &&& BitVec.ofInt IntKind.u32.bits 1).toNat : Nat) : Int) = n % 2 := by
    show (((BitVec.ofInt 32 n &&& BitVec.ofInt 32 1).toNat : Nat) : Int) = n % 2
    have := Qsp (a := n.toNat) (by omega)
    rw [show ((n.toNat : Nat) : Int) = n by omega] at this
    rw [this]; omega
  by_cases h : n % 2 = 0
  · have a3 : (((BitVec.ofInt IntKind.i32.bits (n / 2) ^^^ BitVec.ofInt IntKind.i32.bits 0).toNat : Nat) : Int) = n / 2 := by
      show (((BitVec.ofInt 32 (n / 2) ^^^ BitVec.ofInt 32 0).toNat : Nat) : Int) = n / 2
      have := QgS (a := (n / 2).toNat) (by omega)
      rw [show (((n / 2).toNat : Nat) : Int) = n / 2 by omega] at this
      rw [this]; omega
    simp (maxSteps := 4000000) (disch := omega) only [rr, aop, cV, cV1, AV.one, Qb, okW, Qd, app, Qa, Qc, Qe, Qf, Qg, simprocAttr, Jy, a1, a2, h, a3, Xh]
  · have h1 : n % 2 = 1 := by omega
    have a3 : (((BitVec.ofInt IntKind.i32.bits (n / 2) ^^^ BitVec.ofInt IntKind.i32.bits (-1)).toNat : Nat) : Int) = 4294967295 - n / 2 := by
      show (((BitVec.ofInt 32 (n / 2) ^^^ BitVec.ofInt 32 (-1)).toNat : Nat) : Int) = 4294967295 - n / 2
      have := Qkn (a := (n / 2).toNat) (by omega)
      rw [show (((n / 2).toNat : Nat) : Int) = n / 2 by omega] at this
      rw [show BitVec.ofInt 32 (-1) = BitVec.ofInt 32 4294967295 by decide, this]; omega
    have a4 : IntKind.i32.wrap (4294967295 - n / 2) = -(n / 2) - 1 := by rw [ZV, QmO]; omega
    simp (maxSteps := 4000000) (disch := omega) only [rr, aop, cV, cV1, AV.one, Qb, okW, Qd, app, Qa, Qc, Qe, Qf, Qg, simprocAttr, Jy, a1, a2, h1, a3, a4, Xh]

end Go.Am

namespace Go.Am
open Go.RowKit

theorem QkS {K : IntKind} {l : List Int} {i : Nat} (h : i < l.length) (v : Int) : (ks K l).take i ++ [.int K v] ++ (ks K l).drop (i + 1) = ks K (l.set i v) := by
  rw [List.set_eq_take_append_cons_drop, if_pos h]
  simp [ks]
theorem Qbz {K : IntKind} {l : List Int} {i : Nat} (h : i < l.length) : (ks K l).drop i = .int K (l.getD i 0) :: ks K (l.drop (i + 1)) := by
  rw [QcG h]; simp [List.getD_eq_getElem?_getD, List.getElem?_eq_getElem h]

theorem Qr4 {α : Type} (l : List α) (x : α) : (l ++ [x])[l.length]? = some x := by simp
theorem QrF {α : Type} (l : List α) (x y : α) : (l ++ [x]).set l.length y = l ++ [y] := by simp

/-! ### slices.Clone of numbers -/

def QdP (t : Nat) (P : Prg) (f : Nat) : Prop := ∀ (l : List Int) (ob : List Ob) (K : AV → List Ob → Prop), 0 < l.length → l.length ≤ 1000000 → K (.own ob.length l.length) (ob ++ [⟨t, 1, l.length, ks .i32 l, 0⟩]) → ACall P f [il l] ob K

theorem QoM {P : Prg} {f t0 : Nat} (b : Qo P f 8 [.tmp 2] (Qw t0)) : QdP t0 P f := by
  intro l ob K h0 h1 hK
  refine ACall.of_body b (by simp) ?_
  have g1 := fun x : Ob => Qr4 ob x
  have g2 := fun x y : Ob => QrF ob x y
  have n0 : l.length ≠ 0 := by omega
  simp (maxSteps := 4000000) (disch := omega) only [rr, aop, cV, cV1, AV.one, Qb, okW, Qd, app, Qa, Qc, Qe, Qf, Qg, simprocAttr, Qw, il, Qiq, n0, g1, g2, Qoa]
  exact hK

/-! ### mix.mix: in its place -/

def QeF (L : List Int) (k i : Nat) : List Int := (List.range L.length).map fun j => if k ≤ j ∧ j < k + i then w32 (L.getD (j + 1) 0 - L.getD j 0) else L.getD j 0
def Qea (L : List Int) (k n : Nat) : List Int := if n = 1 then L else (QeF L k (n - 1)).set (k + (n - 1)) (w32 (L.getD (k + (n - 1)) 0 - (w32 (L.getD (k + (n - 1)) 0 - L.getD (k + (n - 2)) 0)).tdiv 2))

theorem Z7 {a b : List Int} (h : a.length = b.length) (h2 : ∀ j, j < a.length → a.getD j 0 = b.getD j 0) : a = b := by
  apply List.ext_getElem h
  intro i h1 h3
  have := h2 i h1
  simpa [List.getD_eq_getElem?_getD, List.getElem?_eq_getElem h1, List.getElem?_eq_getElem h3] using this
theorem Qab (L : List Int) (k i : Nat) : (QeF L k i).length = L.length := by simp [QeF]
theorem QG {g : Nat → Int} {n j : Nat} (h : j < n) : ((List.range n).map g).getD j 0 = g j := by
  simp [List.getD_eq_getElem?_getD, h]
theorem Qdz {l : List Int} {i j : Nat} {v : Int} (h : j < l.length) : (l.set i v).getD j 0 = if i = j then v else l.getD j 0 := by
  simp only [List.getD_eq_getElem?_getD, List.getElem?_set]
  split
  · subst_vars; simp [h]
  · rfl
theorem QsM (L : List Int) (k : Nat) : QeF L k 0 = L := Z7 (Qab _ _ _) fun j hj => by
  rw [Qab] at hj
  rw [QeF, QG hj, if_neg (by omega)]
theorem Qnt {L : List Int} {k i j : Nat} (h : j < L.length) (h2 : k + i ≤ j) : (QeF L k i).getD j 0 = L.getD j 0 := by
  rw [QeF, QG h, if_neg (by omega)]
theorem QpW {L : List Int} {k i : Nat} (h : k + i < L.length) : (QeF L k i).set (k + i) (w32 (L.getD (k + i + 1) 0 - L.getD (k + i) 0)) = QeF L k (i + 1) := Z7 (by simp [Qab]) fun j hj => by
  have hj' : j < L.length := by simpa [Qab] using hj
  rw [Qdz (by rw [Qab]; exact hj'), QeF, QeF, QG hj', QG hj']
  by_cases e : k + i = j
  · subst e; rw [if_pos rfl, if_pos (by omega)]
  · rw [if_neg e]
    by_cases q : k ≤ j ∧ j < k + i
    · rw [if_pos q, if_pos (by omega)]
    · rw [if_neg q, if_neg (by omega)]

def Qsu (P : Prg) (f : Nat) : Prop := ∀ (t : Nat) (L : List Int) (k n : Nat) (K : AV → List Ob → Prop), I32 L → 1 ≤ n → k + n ≤ L.length → L.length ≤ 1000000 →
  K (.tup []) [⟨t, 1, L.length, ks .i32 (Qea L k n), 0⟩] → ACall P f [.view 0 L.length k n] [⟨t, 1, L.length, ks .i32 L, 0⟩] K

theorem Qhc {x : Int} (h : -2147483648 ≤ x ∧ x ≤ 2147483647) : -2147483648 ≤ x.tdiv 2 ∧ x.tdiv 2 ≤ 2147483647 := by
  by_cases hx : x < 0
  · rw [(Qm6 hx 2).1]; omega
  · rw [Int.tdiv_eq_ediv_of_nonneg (by omega)]; omega

theorem QrQ {P : Prg} {f : Nat} (b : Qo P f 39 [] QcL) : Qsu P f := by
  intro t L k n K hL h1 h2 h3 hK
  refine ACall.of_body b (by simp) ?_
  simp (maxSteps := 4000000) (disch := omega) only [rr, aop, cV, cV1, AV.one, Qb, okW, Qd, app, Qa, Qc, Qe, Qf, Qg, simprocAttr, QcL]
  refine QQ.by (ι := Nat) (fun i => ⟨[(8, .int .i64 i), (7, .int .i64 ((n : Int) - 1)), (2, .int .i64 ((n : Int) - 1)), (0, .view 0 L.length k n)], [⟨t, 1, L.length, ks .i32 (QeF L k i), 0⟩]⟩) (fun i => i ≤ n - 1) (fun i => n - 1 - i) 0 (by rw [QsM]; exact Le.slots (by simp [Am.look])) (by omega) ?_
  intro i hi
  have ls := Qab L k i
  by_cases hlt : i < n - 1
  · have e1 := Qbz (K := .i32) (l := QeF L k i) (i := k + i) (by omega)
    have e2 := Qbz (K := .i32) (l := QeF L k i) (i := k + (i + 1)) (by omega)
    have e3 := fun v => QkS (K := .i32) (l := QeF L k i) (i := k + i) (by omega) v
    have a1 := Qnt (L := L) (k := k) (i := i) (j := k + i) (by omega) (by omega)
    have a2 := Qnt (L := L) (k := k) (i := i) (j := k + (i + 1)) (by omega) (by omega)
    have a3 := QpW (L := L) (k := k) (i := i) (by omega)
    rw [show k + i + 1 = k + (i + 1) by omega] at a3
    rw [a1] at e1
    rw [a2] at e2
    simp (maxSteps := 4000000) (disch := omega) only [rr, aop, cV, cV1, AV.one, Qb, okW, Qd, app, Qa, Qc, Qe, Qf, Qg, simprocAttr, e1, e2, e3, ZV, a3, ls]
    exact ⟨i + 1, by omega, by omega, Le.slots (by simp [Am.look])⟩
  · have e : i = n - 1 := by omega
    subst e
    by_cases hn : n = 1
    · subst hn
      have e0 : Qea L k 1 = QeF L k (1 - 1) := by simp [Qea, QsM]
      rw [e0] at hK
      simp (maxSteps := 4000000) (disch := omega) only [rr, aop, cV, cV1, AV.one, Qb, okW, Qd, app, Qa, Qc, Qe, Qf, Qg, simprocAttr]
      exact hK
    · have e1 := Qbz (K := .i32) (l := QeF L k (n - 1)) (i := k + (n - 1)) (by omega)
      have e2 := Qbz (K := .i32) (l := QeF L k (n - 1)) (i := k + (n - 2)) (by omega)
      have e3 := fun v => QkS (K := .i32) (l := QeF L k (n - 1)) (i := k + (n - 1)) (by omega) v
      have a1 := Qnt (L := L) (k := k) (i := n - 1) (j := k + (n - 1)) (by omega) (by omega)
      have a2 : (QeF L k (n - 1)).getD (k + (n - 2)) 0 = w32 (L.getD (k + (n - 1)) 0 - L.getD (k + (n - 2)) 0) := by
        rw [QeF, QG (by omega), if_pos (by omega), show k + (n - 2) + 1 = k + (n - 1) by omega]
      rw [a1] at e1
      rw [a2] at e2
      have hr := Qhc (Xm (L.getD (k + (n - 1)) 0 - L.getD (k + (n - 2)) 0))
      simp only [Qea, if_neg hn] at hK
      rw [show k + (n - 2) = k + (n - 1 - 1) by omega] at e2 hK hr
      simp (maxSteps := 4000000) (disch := omega) only [rr, aop, cV, cV1, AV.one, Qb, okW, Qd, app, Qa, Qc, Qe, Qf, Qg, simprocAttr, e1, e2, e3, ZV, ls]
      exact hK
end Go.Am

namespace Go.Am
open Go.RowKit

def QaQ (c : Int) (n : Nat) : Int := if c < 1 ∨ 6 < c then 2 else if 4000 < n then 4 else if (n : Int) % c ≠ 0 then 2 else 0
def QdJ (P : Prg) (f : Nat) : Prop := ∀ (c : Int) (l : List Int), VC P f [.int .i64 c, il l] (.int .i64 (QaQ c l.length))

theorem Qn2 {P : Prg} {f : Nat} (b : Qo P f 22 [.tmp 4] ZB) : QdJ P f := by
  intro c l
  refine VC.of_acall (by simp [isDL, isD, QW]) rfl (ACall.of_body b (by simp) ?_)
  by_cases h1 : c < 1
  · simp (maxSteps := 4000000) (disch := omega) only [rr, aop, cV, cV1, AV.one, Qb, okW, Qd, app, Qa, Qc, Qe, Qf, Qg, simprocAttr, ZB, il, QaQ]
  by_cases h2 : 6 < c
  · simp (maxSteps := 4000000) (disch := omega) only [rr, aop, cV, cV1, AV.one, Qb, okW, Qd, app, Qa, Qc, Qe, Qf, Qg, simprocAttr, ZB, il, QaQ]
  by_cases h3 : 4000 < l.length
  · simp (maxSteps := 4000000) (disch := omega) only [rr, aop, cV, cV1, AV.one, Qb, okW, Qd, app, Qa, Qc, Qe, Qf, Qg, simprocAttr, ZB, il, QaQ]
  have hm := Qb1 (n := l.length) (c := c) (by omega)
  by_cases h4 : (l.length : Int) % c = 0
  · simp (maxSteps := 4000000) (disch := omega) only [rr, aop, cV, cV1, AV.one, Qb, okW, Qd, app, Qa, Qc, Qe, Qf, Qg, simprocAttr, ZB, il, QaQ, h4]
  · simp (maxSteps := 4000000) (disch := omega) only [rr, aop, cV, cV1, AV.one, Qb, okW, Qd, app, Qa, Qc, Qe, Qf, Qg, simprocAttr, ZB, il, QaQ, h4]

def Qq4 (c : Nat) (l : List Int) (j : Nat) : Int :=
  if c = 1 then l.getD j 0
  else if j % c + 1 < c then w32 (l.getD (j + 1) 0 - l.getD j 0)
  else w32 (l.getD j 0 - (w32 (l.getD j 0 - l.getD (j - 1) 0)).tdiv 2)
def QgP (c : Nat) (l : List Int) (a : Nat) : List Int := (List.range l.length).map fun j => if j < a then Qq4 c l j else l.getD j 0
def JU (c : Nat) (l : List Int) : List Int := (List.range l.length).map (Qq4 c l)

theorem XS (c : Nat) (l : List Int) (a : Nat) : (QgP c l a).length = l.length := by simp [QgP]
theorem QsV (c : Nat) (l : List Int) : QgP c l 0 = l := Z7 (XS _ _ _) fun j hj => by
  rw [XS] at hj; rw [QgP, QG hj, if_neg (by omega)]
theorem QkP (c : Nat) (l : List Int) : QgP c l l.length = JU c l := by
  simp only [QgP, JU]
  apply List.map_congr_left
  intro j hj
  rw [if_pos (by simpa using hj)]
theorem Qqd {c : Nat} {l : List Int} (h : I32 l) (j : Nat) : -2147483648 ≤ Qq4 c l j ∧ Qq4 c l j ≤ 2147483647 := by
  unfold Qq4
  split
  · exact ZF h j
  · split <;> exact Xm _
theorem Qln {c : Nat} {l : List Int} (h : I32 l) (a : Nat) : I32 (QgP c l a) := by
  intro v hv
  simp only [QgP, List.mem_map] at hv
  obtain ⟨j, _, rfl⟩ := hv
  split
  · exact Qqd h j
  · exact ZF h j
theorem QmF {c : Nat} {l : List Int} (h : I32 l) : I32 (JU c l) := by rw [← QkP]; exact Qln h _
theorem Qfj (c : Nat) (l : List Int) : (JU c l).length = l.length := by simp [JU]

theorem QrP {c : Nat} {l : List Int} {m : Nat} (hc : 1 ≤ c) (h : c * m + c ≤ l.length) : Qea (QgP c l (c * m)) (c * m) c = QgP c l (c * m + c) := by
  have mod : ∀ j, c * m ≤ j → j < c * m + c → j % c = j - c * m := fun j h1 h2 => by
    rw [show j = c * m + (j - c * m) by omega, Nat.mul_add_mod]
    rw [Nat.mod_eq_of_lt (by omega)]; omega
  have at' : ∀ j, j < l.length → c * m ≤ j → (QgP c l (c * m)).getD j 0 = l.getD j 0 := fun j h1 h2 => by rw [QgP, QG h1, if_neg (by omega)]
  by_cases h1 : c = 1
  · subst h1
    simp only [Qea, if_true]
    refine Z7 (by simp [XS]) fun j hj => ?_
    rw [XS] at hj
    rw [QgP, QgP, QG hj, QG hj]
    by_cases q : j < 1 * m
    · rw [if_pos q, if_pos (by omega)]
    · rw [if_neg q]; split
      · simp [Qq4]
      · rfl
  · simp only [Qea, if_neg h1]
    refine Z7 (by simp [Qab, XS]) fun j hj => ?_
    have hj' : j < l.length := by simpa [Qab, XS] using hj
    rw [Qdz (by simpa [Qab, XS] using hj')]
    rw [QeF, XS, QG hj']
    conv => rhs; rw [QgP, QG hj']
    by_cases e : c * m + (c - 1) = j
    · rw [if_pos e, if_pos (by omega), at' _ (by omega) (by omega), at' _ (by omega) (by omega)]
      subst e
      have := mod (c * m + (c - 1)) (by omega) (by omega)
      unfold Qq4
      rw [if_neg h1, if_neg (by rw [this]; omega), show c * m + (c - 1) - 1 = c * m + (c - 2) by omega]
    · rw [if_neg e]
      by_cases q : c * m ≤ j ∧ j < c * m + (c - 1)
      · rw [if_pos q, if_pos (by omega), at' _ (by omega) (by omega), at' _ (by omega) (by omega)]
        have := mod j (by omega) (by omega)
        unfold Qq4
        rw [if_neg h1, if_pos (by rw [this]; omega)]
      · rw [if_neg q, QgP, QG hj']
        by_cases r : j < c * m
        · rw [if_pos r, if_pos (by omega)]
        · rw [if_neg r, if_neg (by omega)]

def okM (c : Nat) (l : List Int) : Prop := 1 ≤ c ∧ c ≤ 6 ∧ 0 < l.length ∧ l.length ≤ 4000 ∧ l.length % c = 0 ∧ I32 l
theorem Qhu {c : Nat} {l : List Int} (h : okM c l) : QaQ c l.length = 0 := by
  obtain ⟨h1, h2, h3, h4, h5, _⟩ := h
  unfold QaQ
  rw [if_neg (by omega), if_neg (by omega), if_neg (by rw [← Int.natCast_emod, h5]; simp)]

def QgD (P : Prg) (f : Nat) : Prop := ∀ (c : Nat) (l : List Int), okM c l → VC P f [.int .i64 c, il l] (.tup [il (JU c l), .int .i64 0])

theorem QkO {c m q : Nat} (h : c * m < c * q) : c * m + c ≤ c * q := by
  have : m < q := Nat.lt_of_mul_lt_mul_left h
  have := Nat.mul_le_mul_left c (show m + 1 ≤ q by omega)
  rw [Nat.mul_add, Nat.mul_one] at this
  exact this

theorem QrR {P : Prg} {f fC fK fM t : Nat} (b : Qo P f 32 [.tmp 4, .tmp 5] (QcM fC fK fM)) (hC : QdJ P fC) (hK : QdP t P fK) (hM : Qsu P fM) : QgD P f := by
  intro c l hok
  obtain ⟨h1, h2, h3, h4, h5, h6⟩ := id hok
  have hc := Qhu hok
  obtain ⟨q, hq⟩ : ∃ q, l.length = c * q := ⟨l.length / c, by have := Nat.div_add_mod l.length c; omega⟩
  refine VC.of_walk 1 (by simp [isDL, isD, QW]) (by simp [isD, isDL, QW]) (ACall.of_body b (by simp) ?_)
  simp (maxSteps := 4000000) (disch := omega) only [rr, aop, cV, cV1, AV.one, Qb, okW, Qd, app, Qa, Qc, Qe, Qf, Qg, simprocAttr, QcM]
  refine Qh.vc (hC c l) ?_
  have n0 : l.length ≠ 0 := by omega
  simp (maxSteps := 4000000) (disch := omega) only [rr, aop, cV, cV1, AV.one, Qb, okW, Qd, app, Qa, Qc, Qe, Qf, Qg, simprocAttr, hc, n0]
  refine hK l [] _ h3 (by omega) ?_
  simp (maxSteps := 4000000) (disch := omega) only [rr, aop, cV, cV1, AV.one, Qb, okW, Qd, app, Qa, Qc, Qe, Qf, Qg, simprocAttr, n0]
  refine QQ.by (ι := Nat) (fun m => ⟨[(8, .int .i64 (c * m : Nat)), (7, .own 0 l.length), (0, .int .i64 c)], [⟨t, 1, l.length, ks .i32 (QgP c l (c * m)), 0⟩]⟩) (fun m => m ≤ q) (fun m => q - m) 0 (by rw [Nat.mul_zero, QsV]; exact Le.slots (by simp [Am.look])) (by omega) ?_
  intro m hm
  by_cases hlt : c * m < l.length
  · have hs := QkO (c := c) (m := m) (q := q) (by rw [← hq]; exact hlt)
    rw [← hq] at hs
    have hmq : m < q := Nat.lt_of_mul_lt_mul_left (a := c) (b := m) (c := q) (by rw [← hq]; exact hlt)
    have e0 : c * m + c - c * m = c := by omega
    have hM' := hM t (QgP c l (c * m)) (c * m) c
    rw [XS, QrP h1 hs] at hM'
    simp (maxSteps := 4000000) (disch := omega) only [rr, aop, cV, cV1, AV.one, Qb, okW, Qd, app, Qa, Qc, Qe, Qf, Qg, simprocAttr, e0, n0]
    refine hM' _ (Qln h6 _) h1 hs (by omega) ?_
    simp (maxSteps := 4000000) (disch := omega) only [rr, aop, cV, cV1, AV.one, Qb, okW, Qd, app, Qa, Qc, Qe, Qf, Qg, simprocAttr]
    exact ⟨m + 1, by omega, by omega, by rw [show c * (m + 1) = c * m + c by rw [Nat.mul_add, Nat.mul_one]]; exact Le.slots (by simp [Am.look])⟩
  · have e : c * m = l.length := by
      have := Nat.mul_le_mul_left c hm
      omega
    rw [e, QkP]
    have lm := Qfj c l
    simp (maxSteps := 4000000) (disch := omega) only [rr, aop, cV, cV1, AV.one, Qb, okW, Qd, app, Qa, Qc, Qe, Qf, Qg, simprocAttr]
    simp [QH, Qy, frzL, Qx, isDL, isD, il, lm, frzL_T _ (Qv .i32 (JU c l))]
end Go.Am

namespace Go.Am
open Go.RowKit

def Qcq (c x : Int) (l : List Int) : Int := if Zu c x ≠ 0 then 2 else if QM x l ≠ 0 then QM x l else if l.length = 0 ∨ (l.length : Int) % c ≠ 0 then 2 else 0
theorem QjY {c x : Int} {l : List Int} (h : Zu c x = 2) : Qcq c x l = 2 := by simp [Qcq, h]
theorem QjZ {c x : Int} {l : List Int} (h : Zu c x = 0) (h2 : QM x l ≠ 0) : Qcq c x l = QM x l := by simp [Qcq, h, h2]
theorem QjX {c x : Int} {l : List Int} (h : Zu c x = 0) (h2 : QM x l = 0) (h3 : l.length = 0 ∨ (l.length : Int) % c ≠ 0) : Qcq c x l = 2 := by simp only [Qcq, h, h2, if_pos h3]; simp
theorem Qtk {c x : Int} {l : List Int} (h : Zu c x = 0) (h2 : QM x l = 0) (h3 : ¬ (l.length = 0 ∨ (l.length : Int) % c ≠ 0)) : Qcq c x l = 0 := by simp only [Qcq, h, h2, if_neg h3]; simp
theorem Zh (c x : Int) : Zu c x = 2 ∨ (Zu c x = 0 ∧ QaA x ≠ 0 ∧ 1 ≤ c ∧ c ≤ 6) := by unfold Zu; split <;> omega
theorem Qfu (x : Int) (l : List Int) : QM x l = 2 ∨ QM x l = 4 ∨ QM x l = 16 ∨ (QM x l = 0 ∧ QaA x ≠ 0 ∧ l.length ≤ 4000) := by
  unfold QM
  by_cases h : QaA x = 0
  · simp [h]
  by_cases h2 : 4000 < l.length
  · simp [h, h2]
  by_cases h3 : l.all (inR x)
  · simp [h, h2, h3]; omega
  · simp [h, h2, h3]
theorem Qpd {c x : Int} {l : List Int} (hI : I32 l) (h : Qcq c x l = 0) : ∃ k : Nat, c = k ∧ okM k l ∧ QaA x ≠ 0 := by
  rcases Zh c x with h1 | ⟨h1, h2, h3, h4⟩
  · rw [QjY h1] at h; omega
  by_cases h5 : QM x l = 0
  · by_cases h6 : l.length = 0 ∨ (l.length : Int) % c ≠ 0
    · rw [QjX h1 h5 h6] at h; omega
    · obtain ⟨k, rfl⟩ : ∃ k : Nat, c = k := ⟨c.toNat, by omega⟩
      refine ⟨k, rfl, ⟨by omega, by omega, by omega, by rcases Qfu x l with h | h | h | h <;> omega, by omega, hI⟩, h2⟩
  · rw [QjZ h1 h5] at h; exact absurd h h5

def Qpp (P : Prg) (f : Nat) : Prop := ∀ (c x : Int) (l : List Int), I32 l → VC P f [shA c x, il l] (.int .i64 (Qcq c x l))

theorem QfZ {P : Prg} {f fE fW t0 : Nat} (b : Qo P f 30 [.tmp 4] (XN fE fW t0)) (hE : Qco P fE) (hW : Qci P fW) : Qpp P f := by
  intro c x l hI
  refine VC.of_acall (by simp [isDL, isD, QW, shA]) rfl (ACall.of_body b (by simp) ?_)
  have hE' := hE c x
  rw [shA] at hE'
  simp (maxSteps := 4000000) (disch := omega) only [rr, aop, cV, cV1, AV.one, Qb, okW, Qd, app, Qa, Qc, Qe, Qf, Qg, simprocAttr, XN, shA]
  refine Qh.vc hE' ?_
  rcases Zh c x with h1 | ⟨h1, h2, h3, h4⟩
  · simp (maxSteps := 4000000) (disch := omega) only [rr, aop, cV, cV1, AV.one, Qb, okW, Qd, app, Qa, Qc, Qe, Qf, Qg, simprocAttr, h1, QjY h1]
  simp (maxSteps := 4000000) (disch := omega) only [rr, aop, cV, cV1, AV.one, Qb, okW, Qd, app, Qa, Qc, Qe, Qf, Qg, simprocAttr, h1]
  refine Qh.vc (hW x l hI) ?_
  by_cases h5 : QM x l = 0
  · have h9 : l.length ≤ 4000 := by rcases Qfu x l with h | h | h | h <;> omega
    by_cases h6 : l.length = 0
    · simp (maxSteps := 4000000) (disch := omega) only [rr, aop, cV, cV1, AV.one, Qb, okW, Qd, app, Qa, Qc, Qe, Qf, Qg, simprocAttr, h5, il, h6, QjX h1 h5 (.inl h6)]
    · by_cases h7 : (l.length : Int) % c = 0
      · have hm := Qb1 (n := l.length) (c := c) (by omega)
        simp (maxSteps := 4000000) (disch := omega) only [rr, aop, cV, cV1, AV.one, Qb, okW, Qd, app, Qa, Qc, Qe, Qf, Qg, simprocAttr, h5, il, h6, h7, Qtk h1 h5 (by omega)]
      · have hm := Qb1 (n := l.length) (c := c) (by omega)
        simp (maxSteps := 4000000) (disch := omega) only [rr, aop, cV, cV1, AV.one, Qb, okW, Qd, app, Qa, Qc, Qe, Qf, Qg, simprocAttr, h5, il, h6, h7, QjX h1 h5 (.inr h7)]
  · simp (maxSteps := 4000000) (disch := omega) only [rr, aop, cV, cV1, AV.one, Qb, okW, Qd, app, Qa, Qc, Qe, Qf, Qg, simprocAttr, h5, QjZ h1 h5]

end Go.Am

namespace Go.Am
open Go.RowKit

/-! ### Six channels in one array -/

def six (S : Nat → ZM) : List AV := QO (S 0) ++ (QO (S 1) ++ (QO (S 2) ++ (QO (S 3) ++ (QO (S 4) ++ QO (S 5)))))
def okS (S : Nat → ZM) : Prop := ∀ k, QaD (S k).fl
theorem Qcw {S : Nat → ZM} (h : okS S) : (six S).length = 210 := by simp [six, Zl (h _)]
theorem Qt4 {k : Nat} (h : k < 6) : k = 0 ∨ k = 1 ∨ k = 2 ∨ k = 3 ∨ k = 4 ∨ k = 5 := by omega
theorem QqY {S : Nat → ZM} (h : okS S) {k : Nat} (hk : k < 6) : ((six S).drop (k * 35)).take 35 = QO (S k) := by
  have l := fun k => Zl (h k)
  rcases Qt4 hk with rfl | rfl | rfl | rfl | rfl | rfl <;> simp [six, List.drop_append, List.take_append, l, List.drop_eq_nil_of_le, Qu]
def upd (S : Nat → ZM) (k : Nat) (c : ZM) : Nat → ZM := fun j => if j = k then c else S j
theorem QfK {S : Nat → ZM} (h : okS S) {k : Nat} (hk : k < 6) (c : ZM) : (six S).take (k * 35) ++ QO c ++ (six S).drop (k * 35 + 35) = six (upd S k c) := by
  have l := fun k => Zl (h k)
  rcases Qt4 hk with rfl | rfl | rfl | rfl | rfl | rfl <;> simp [six, upd, List.drop_append, List.take_append, l, List.drop_eq_nil_of_le, Qu]
theorem Qob (c : ZM) : isTL (QO c) = true := by simp [QO, Qn, isTL, isT, Qeg, Qv]
theorem QkU (S : Nat → ZM) : isTL (six S) = true := by simp [six, Qeg, Qob]
theorem Qpi (S : Nat → ZM) : (six S).all AV.one = true := by simp only [six, List.all_append, ZG, Bool.and_self]

/-! ### What is coded -/

def stC (c : Nat) (L : List Int) (z : ZM) (k : Nat) : Nat → ZM
  | 0 => z
  | n + 1 => QaB (stC c L z k n) (L.getD (k + n * c) 0)
def Qt7 (c : Nat) (L : List Int) (z : ZM) (j : Nat) : Int := QhK (QjC (stC c L z (j % c) (j / c)) (L.getD j 0))
def Qip (c : Nat) (L : List Int) (z : ZM) (a : Nat) : List Int := (List.range a).map (Qt7 c L z)
theorem QfP (c : Nat) (L : List Int) (z : ZM) (a : Nat) : (Qip c L z a).length = a := by simp [Qip]
theorem QnR (c : Nat) (L : List Int) (z : ZM) (a : Nat) : Qip c L z a ++ [Qt7 c L z a] = Qip c L z (a + 1) := by simp [Qip, List.range_succ]
theorem QnS {c : Nat} {L : List Int} {z : ZM} (hL : I32 L) (hz : QkL z) (k : Nat) : ∀ n, QkL (stC c L z k n)
  | 0 => hz
  | n + 1 => Qi2 (QnS hL hz k n) (ZF hL _)

def cnt (c k i : Nat) : Nat := if k < i % c then i / c + 1 else i / c
theorem Qs8 (c k : Nat) : cnt c k 0 = 0 := by simp [cnt]
theorem Qk8 (c i : Nat) : cnt c (i % c) i = i / c := by simp [cnt]
theorem Qk7 {c k i : Nat} (hk : k < c) : cnt c k (i + 1) = if k = i % c then i / c + 1 else cnt c k i := by
  have hc : 0 < c := by omega
  have hr := Nat.mod_lt i hc
  have hi := Nat.div_add_mod i c
  unfold cnt
  by_cases h : i % c + 1 < c
  · have e1 : (i + 1) % c = i % c + 1 := by
      rw [show i + 1 = c * (i / c) + (i % c + 1) by omega, Nat.mul_add_mod, Nat.mod_eq_of_lt h]
    have e2 : (i + 1) / c = i / c := by
      rw [show i + 1 = (i % c + 1) + c * (i / c) by omega, Nat.add_mul_div_left _ _ hc, Nat.div_eq_of_lt h, Nat.zero_add]
    rw [e1, e2]
    split <;> split <;> (try split) <;> omega
  · have e0 : i + 1 = c * (i / c + 1) := by rw [Nat.mul_add]; omega
    have e1 : (i + 1) % c = 0 := by rw [e0, Nat.mul_mod_right]
    have e2 : (i + 1) / c = i / c + 1 := by rw [e0, Nat.mul_div_cancel_left _ hc]
    rw [e1, e2]
    split <;> split <;> (try split) <;> omega
def stA (c : Nat) (L : List Int) (z : ZM) (i : Nat) : Nat → ZM := fun k => if k < c then stC c L z k (cnt c k i) else z
theorem QtE (c : Nat) (L : List Int) (z : ZM) : stA c L z 0 = fun _ => z := by
  funext k; simp [stA, Qs8, stC]
theorem QsH {c : Nat} (hc : 1 ≤ c) (L : List Int) (z : ZM) (i : Nat) : stA c L z i (i % c) = stC c L z (i % c) (i / c) := by
  rw [stA, if_pos (Nat.mod_lt _ (by omega)), Qk8]
theorem QpN {c : Nat} (hc : 1 ≤ c) (L : List Int) (z : ZM) (i : Nat) : upd (stA c L z i) (i % c) (QaB (stC c L z (i % c) (i / c)) (L.getD i 0)) = stA c L z (i + 1) := by
  funext k
  have hr := Nat.mod_lt i (show 0 < c by omega)
  by_cases hk : k < c
  · simp only [upd, stA, if_pos hk, Qk7 hk]
    by_cases e : k = i % c
    · rw [if_pos e, if_pos e, e, stC]
      rw [show i % c + i / c * c = i by have := Nat.div_add_mod i c; rw [Nat.mul_comm]; omega]
    · rw [if_neg e, if_neg e]
  · simp only [upd, stA, if_neg hk]
    rw [if_neg (by omega)]
theorem QsR {c : Nat} {L : List Int} {z : ZM} (hL : I32 L) (hz : QkL z) (i : Nat) : okS (stA c L z i) := fun k => by
  unfold stA; split
  · exact (QnS hL hz k _).2.2.1
  · exact hz.2.2.1
def Qfe (l : List Int) : AV := .list l.length (ks .u32 l)
theorem QkV (l : List Int) : isD (Qfe l) = true := by simp [Qfe, isD, QZ]
theorem Le.dropT (os : List Ob) {xs : List Ob} {fr fr' : List (Nat × AV)} (h : ∀ o ∈ os, isTL o.cs = true)
    (hfr : ∀ p ∈ fr', p.2 = .any ∨ Qy (fun o => decide (o < os.length)) (fun o => decide (os.length ≤ o)) (os ++ xs) 2 [look fr p.1] = some [p.2]) : Le 0 ⟨fr, os ++ xs⟩ ⟨fr', os⟩ := by
  refine Le.drop os.length 2 (by omega) rfl hfr ?_
  intro i y hy
  have hi : i < os.length := by
    rcases Nat.lt_or_ge i os.length with h | h
    · exact h
    · rw [List.getElem?_eq_none h] at hy; cases hy
  refine ⟨y.cs, by rw [List.getElem?_append_left hi]; exact hy, ?_⟩
  simp only [Qy]
  exact frzL_T _ (h y (List.mem_of_getElem? hy))
end Go.Am

namespace Go.Am
open Go.RowKit

def QpB (c x : Int) (t l : List Int) : AV := if Qcq c x l ≠ 0 then .tup [.list 0 [], .int .i64 (Qcq c x l)] else .tup [Qfe (Qip c.toNat (JU c.toNat l) (Js x t) l.length), .int .i64 0]
theorem QrY (c x : Int) (t l : List Int) : isD (QpB c x t l) = true := by unfold QpB; split <;> simp [isD, isDL, QkV]
def Qkg (P : Prg) (f : Nat) : Prop := ∀ (c x : Int) (t l : List Int), t.length = 16 → I32 t → I32 l → VC P f [shA c x, .agg (ks .i32 t), il l] (QpB c x t l)

theorem Qb0 : QaD J5.fl := ⟨by simp [J5, QgR, z16], by simp [J5, QgR, z16], fun x hx => by simp [J5, QgR, z16] at hx; omega, fun x hx => by simp [J5, QgR, z16] at hx; omega⟩
def Qn0 (z : ZM) (i : Nat) : Nat → ZM := fun k => if k < i then z else J5
theorem Qq3 (z : ZM) : Qn0 z 0 = fun _ => J5 := by funext k; simp [Qn0]
theorem Qhw (z : ZM) (i : Nat) : upd (Qn0 z i) i z = Qn0 z (i + 1) := by
  funext k
  simp only [upd, Qn0]
  split <;> split <;> (try split) <;> first | rfl | omega
theorem QnV {z : ZM} (h : QaD z.fl) (i : Nat) : okS (Qn0 z i) := fun k => by
  unfold Qn0; split
  · exact h
  · exact Qb0
theorem QsK (z : ZM) : six (Qn0 z 6) = six (fun _ => z) := by simp [six, Qn0]
theorem QnW {x : Int} (hx : QaA x ≠ 0) {t : List Int} (hl : t.length = 16) (hI : I32 t) : QkL (Js x t) := ⟨hx, rfl, QnX hl hI, by simp [Js]⟩

set_option maxRecDepth 20000 in
theorem QeS {P : Prg} {f fA fM fN fF fO t0 t1 t2 t3 t4 : Nat} (b : Qo P f 83 [.tmp 6, .tmp 7] (Xs fA fM fN fF fO t0 t1 t2 t3 t4)) (hA : Qpp P fA) (hM : QgD P fM) (hN : Qlk P fN) (hF : QcS P fF) (hO : Qpn P fO) : Qkg P f := by
  intro c x t l hl hI hL
  have hk : (ks .i32 t).length = 16 := by simp [Ql, hl]
  have ot := XE .i32 t
  have tt : (ks .i32 t).take 16 = ks .i32 t := Qu (by omega)
  refine VC.of_walk 1 (by simp [isDL, isD, QW, QZ, shA]) (QrY _ _ _ _) (ACall.of_body b (by simp) ?_)
  have hA' := hA c x l hL
  rw [shA] at hA'
  unfold Xs
  rw [show ([.int .i64 0, .int .i32 0, .int .i64 0, .int .i32 0, .int .i32 0, .int .i32 0, .int .i32 0, .int .i32 0, .int .i32 0, .int .i32 0, .int .i32 0, .int .i32 0, .int .i32 0, .int .i32 0, .int .i32 0, .int .i32 0, .int .i32 0, .int .i32 0, .int .i32 0, .int .i32 0, .int .i32 0, .int .i32 0, .int .i32 0, .int .i32 0, .int .i32 0, .int .i32 0, .int .i32 0, .int .i32 0, .int .i32 0, .int .i32 0, .int .i32 0, .int .i32 0, .int .i32 0, .int .i32 0, .int .i32 0, .int .i64 0, .int .i32 0, .int .i64 0, .int .i32 0, .int .i32 0, .int .i32 0, .int .i32 0, .int .i32 0, .int .i32 0, .int .i32 0, .int .i32 0, .int .i32 0, .int .i32 0, .int .i32 0, .int .i32 0, .int .i32 0, .int .i32 0, .int .i32 0, .int .i32 0, .int .i32 0, .int .i32 0, .int .i32 0, .int .i32 0, .int .i32 0, .int .i32 0, .int .i32 0, .int .i32 0, .int .i32 0, .int .i32 0, .int .i32 0, .int .i32 0, .int .i32 0, .int .i32 0, .int .i32 0, .int .i32 0, .int .i64 0, .int .i32 0, .int .i64 0, .int .i32 0, .int .i32 0, .int .i32 0, .int .i32 0, .int .i32 0, .int .i32 0, .int .i32 0, .int .i32 0, .int .i32 0, .int .i32 0, .int .i32 0, .int .i32 0, .int .i32 0, .int .i32 0, .int .i32 0, .int .i32 0, .int .i32 0, .int .i32 0, .int .i32 0, .int .i32 0, .int .i32 0, .int .i32 0, .int .i32 0, .int .i32 0, .int .i32 0, .int .i32 0, .int .i32 0, .int .i32 0, .int .i32 0, .int .i32 0, .int .i32 0, .int .i32 0, .int .i64 0, .int .i32 0, .int .i64 0, .int .i32 0, .int .i32 0, .int .i32 0, .int .i32 0, .int .i32 0, .int .i32 0, .int .i32 0, .int .i32 0, .int .i32 0, .int .i32 0, .int .i32 0, .int .i32 0, .int .i32 0, .int .i32 0, .int .i32 0, .int .i32 0, .int .i32 0, .int .i32 0, .int .i32 0, .int .i32 0, .int .i32 0, .int .i32 0, .int .i32 0, .int .i32 0, .int .i32 0, .int .i32 0, .int .i32 0, .int .i32 0, .int .i32 0, .int .i32 0, .int .i32 0, .int .i32 0, .int .i64 0, .int .i32 0, .int .i64 0, .int .i32 0, .int .i32 0, .int .i32 0, .int .i32 0, .int .i32 0, .int .i32 0, .int .i32 0, .int .i32 0, .int .i32 0, .int .i32 0, .int .i32 0, .int .i32 0, .int .i32 0, .int .i32 0, .int .i32 0, .int .i32 0, .int .i32 0, .int .i32 0, .int .i32 0, .int .i32 0, .int .i32 0, .int .i32 0, .int .i32 0, .int .i32 0, .int .i32 0, .int .i32 0, .int .i32 0, .int .i32 0, .int .i32 0, .int .i32 0, .int .i32 0, .int .i32 0, .int .i64 0, .int .i32 0, .int .i64 0, .int .i32 0, .int .i32 0, .int .i32 0, .int .i32 0, .int .i32 0, .int .i32 0, .int .i32 0, .int .i32 0, .int .i32 0, .int .i32 0, .int .i32 0, .int .i32 0, .int .i32 0, .int .i32 0, .int .i32 0, .int .i32 0, .int .i32 0, .int .i32 0, .int .i32 0, .int .i32 0, .int .i32 0, .int .i32 0, .int .i32 0, .int .i32 0, .int .i32 0, .int .i32 0, .int .i32 0, .int .i32 0, .int .i32 0, .int .i32 0, .int .i32 0, .int .i32 0] : List AV) = six (fun _ => J5) from rfl, ← Qa0]
  simp (maxSteps := 4000000) (disch := omega) only [rr, aop, cV, cV1, AV.one, Qb, okW, Qd, app, Qa, Qc, Qe, Qf, Qg, simprocAttr, shA, hk, ot, tt]
  refine Qh.vc hA' ?_
  by_cases h0 : Qcq c x l = 0
  · obtain ⟨k, rfl, hok, hx⟩ := Qpd hL h0
    have hz := QnW hx hl hI
    have l0 := Qcw (S := fun _ => J5) (fun _ => Qb0)
    have o0 := Qpi (fun _ => J5)
    simp (maxSteps := 4000000) (disch := omega) only [rr, aop, cV, cV1, AV.one, Qb, okW, Qd, app, Qa, Qc, Qe, Qf, Qg, simprocAttr, h0]
    refine Qh.vc (hM k l hok) ?_
    obtain ⟨h1, h2, h3, h4, h5, h6⟩ := id hok
    have lm := Qfj k l
    have hI2 := QmF (c := k) hL
    have tm : isTL (ks .i32 (JU k l)) = true := Qv _ _
    generalize hm : JU k l = m at lm hI2 tm
    simp (maxSteps := 4000000) (disch := omega) only [rr, aop, cV, cV1, AV.one, Qb, okW, Qd, app, Qa, Qc, Qe, Qf, Qg, simprocAttr, l0, o0]
    refine QQ.by (ι := Nat) (fun i => ⟨[(36, .int .i64 i), (11, .ref 2 1 0), (9, il m), (4, .ref 1 1 0), (3, .ref 0 1 0)], [⟨t0, 2, 1, [.int .i64 k, .int .i64 x], 0⟩, ⟨t1, 16, 1, ks .i32 t, 0⟩, ⟨t2, 210, 1, six (Qn0 (Js x t) i), 0⟩]⟩) (fun i => i ≤ 6) (fun i => 6 - i) 0 (by rw [Qq3]; exact Le.slots (by simp [Am.look])) (by omega) ?_
    intro i hi
    have oS := QnV hz.2.2.1 i
    have lS := Qcw oS
    by_cases hlt : i < 6
    · have e1 := QfK oS hlt (Js x t)
      rw [Qhw] at e1
      have lc := Zl hz.2.2.1
      have oc := ZG (Js x t)
      simp (maxSteps := 4000000) (disch := omega) only [rr, aop, cV, cV1, AV.one, Qb, okW, Qd, app, Qa, Qc, Qe, Qf, Qg, simprocAttr, hk, tt]
      refine Qh.vc (hN x t hl hI) ?_
      simp (maxSteps := 4000000) (disch := omega) only [rr, aop, cV, cV1, AV.one, Qb, okW, Qd, app, Qa, Qc, Qe, Qf, Qg, simprocAttr, Qjy, if_neg hx, lS, lc, oc, e1]
      exact ⟨i + 1, by omega, by omega, Le.slots (by simp [Am.look])⟩
    · have : i = 6 := by omega
      subst this
      simp (maxSteps := 4000000) (disch := omega) only [rr, aop, cV, cV1, AV.one, Qb, okW, Qd, app, Qa, Qc, Qe, Qf, Qg, simprocAttr, il]
      refine QQ.by (ι := Nat) (fun i => ⟨[(51, .int .i64 i), (50, .int .i64 m.length), (49, il m), (13, .own 3 i), (11, .ref 2 1 0), (3, .ref 0 1 0)], [⟨t0, 2, 1, [.int .i64 k, .int .i64 x], 0⟩, ⟨t1, 16, 1, ks .i32 t, 0⟩, ⟨t2, 210, 1, six (stA k m (Js x t) i), 0⟩, ⟨t4, 1, i, ks .u32 (Qip k m (Js x t) i), 0⟩]⟩) (fun i => i ≤ m.length) (fun i => m.length - i) 0 (by rw [QtE, ← QsK]; exact Le.trans (Le.virt 13 t4 1 (by omega) rfl) (Le.slots (by simp [Am.look, Qip, il]))) (by omega) ?_
      intro i hi
      have lo := QfP k m (Js x t) i
      by_cases hlt : i < m.length
      · have oS := QsR hI2 hz (c := k) i
        have lS := Qcw oS
        have hr := Nat.mod_lt i (show 0 < k by omega)
        have e0 := QqY oS (k := i % k) (by omega)
        rw [QsH h1] at e0
        have e1 := QfK oS (k := i % k) (by omega) (QaB (stC k m (Js x t) (i % k) (i / k)) (m.getD i 0))
        rw [QpN h1] at e1
        have hok2 := QnS (c := k) hI2 hz (i % k) (i / k)
        have hok3 := Qi2 hok2 (ZF hI2 i)
        have hF' := hF _ (m.getD i 0) hok2 (ZF hI2 i)
        have hO' := hO (QjC (stC k m (Js x t) (i % k) (i / k)) (m.getD i 0)) (Xm _)
        have e2 := Qbz (K := .i32) (l := m) (i := i) hlt
        have e3 : ks .u32 (Qip k m (Js x t) i) ++ [.int .u32 (QhK (QjC (stC k m (Js x t) (i % k) (i / k)) (m.getD i 0)))] = ks .u32 (Qip k m (Js x t) (i + 1)) := by rw [Qn9, ← QnR]; rfl
        have lc := Zl hok3.2.2.1
        have oc := ZG (QaB (stC k m (Js x t) (i % k) (i / k)) (m.getD i 0))
        have tc : (QO (QaB (stC k m (Js x t) (i % k) (i / k)) (m.getD i 0))).take 35 = QO (QaB (stC k m (Js x t) (i % k) (i / k)) (m.getD i 0)) := Qu (by omega)
        have lz := Zl Qb0
        have oz := ZG J5
        have dz : (QO J5).drop 35 = [] := List.drop_eq_nil_of_le (by omega)
        have em : (i : Int) % k = (i % k : Nat) := by omega
        simp (maxSteps := 4000000) (disch := omega) only [rr, aop, cV, cV1, AV.one, Qb, okW, Qd, app, Qa, Qc, Qe, Qf, Qg, simprocAttr, il, e2, em, e0]
        refine Qh.vc hF' ?_
        simp (maxSteps := 4000000) (disch := omega) only [rr, aop, cV, cV1, AV.one, Qb, okW, Qd, app, Qa, Qc, Qe, Qf, Qg, simprocAttr, lz, oz, lc, oc, tc, e1, lS, dz, List.append_nil]
        refine Qh.vc hO' ?_
        simp (maxSteps := 4000000) (disch := omega) only [rr, aop, cV, cV1, AV.one, Qb, okW, Qd, app, Qa, Qc, Qe, Qf, Qg, simprocAttr, e3]
        exact ⟨i + 1, by omega, by omega, Le.dropT [_, _, _, _] (by simp [QkU, Qv, isTL, isT]) (by simp [Am.look, Qy, frzL, Qx, frzL_T _ tm])⟩
      · have : i = m.length := by omega
        subst this
        have e9 : QpB k x t l = .tup [Qfe (Qip k m (Js x t) m.length), .int .i64 0] := by simp [QpB, h0, hm, lm]
        clear hi hlt
        have hq : ¬ (m.length : Int) < m.length := by omega
        simp (maxSteps := 4000000) (disch := omega) only [rr, aop, cV, cV1, AV.one, Qb, okW, Qd, app, Qa, Qc, Qe, Qf, Qg, simprocAttr, e9]
        simp [QH, Qy, frzL, Qx, isDL, isD, Qfe, lo, frzL_T _ (Qv .u32 _)]
  · have e9 : QpB c x t l = .tup [.list 0 [], .int .i64 (Qcq c x l)] := by simp [QpB, h0]
    simp (maxSteps := 4000000) (disch := omega) only [rr, aop, cV, cV1, AV.one, Qb, okW, Qd, app, Qa, Qc, Qe, Qf, Qg, simprocAttr, h0, e9]
    simp [QH, Qy, frzL, Qx, isDL, isD]
end Go.Am

namespace Go.Am
open Go.RowKit

theorem QnI (K : IntKind) : ∀ n : Nat, Qm [.int K 0] n = ks K (List.replicate n 0)
  | 0 => rfl
  | n + 1 => by rw [Qm, QnI K n]; simp [ks, List.replicate_succ]

end Go.Am

namespace Go.Am
open Go.RowKit

/-! ### Unmixing -/

def ud (l : List Int) (b c : Nat) : Nat → Int
  | 0 => if c = 1 then l.getD b 0 else w32 (l.getD (b + (c - 1)) 0 + (l.getD (b + (c - 2)) 0).tdiv 2)
  | d + 1 => w32 (ud l b c d - l.getD (b + (c - 2 - d)) 0)
theorem Qks {l l' : List Int} {b b' c : Nat} (hc : 1 ≤ c) (h : ∀ j, j < c → l.getD (b + j) 0 = l'.getD (b' + j) 0) : ∀ d, ud l b c d = ud l' b' c d
  | 0 => by
    unfold ud
    have h0 := h 0 (by omega)
    simp only [Nat.add_zero] at h0
    rw [h0, h (c - 1) (by omega), h (c - 2) (by omega)]
  | d + 1 => by
    unfold ud
    rw [Qks hc h d, h (c - 2 - d) (by omega)]
theorem QsD {l : List Int} (h : I32 l) (b c : Nat) : ∀ d, -2147483648 ≤ ud l b c d ∧ ud l b c d ≤ 2147483647
  | 0 => by
    unfold ud; split
    · exact ZF h b
    · exact Xm _
  | d + 1 => by unfold ud; exact Xm _
def QeE (L : List Int) (k n d : Nat) : List Int := (List.range L.length).map fun j => if k + (n - 1 - d) ≤ j ∧ j < k + n then ud L k n (k + n - 1 - j) else L.getD j 0
theorem XR (L : List Int) (k n d : Nat) : (QeE L k n d).length = L.length := by simp [QeE]
theorem QrH {L : List Int} {k n d j : Nat} (h : j < L.length) (h1 : k + (n - 1 - d) ≤ j) (h2 : j < k + n) : (QeE L k n d).getD j 0 = ud L k n (k + n - 1 - j) := by
  rw [QeE, QG h, if_pos ⟨h1, h2⟩]
theorem QpX {L : List Int} {k n d j : Nat} (h : j < L.length) (h1 : j < k + (n - 1 - d)) : (QeE L k n d).getD j 0 = L.getD j 0 := by
  rw [QeE, QG h, if_neg (by omega)]
theorem QsO {L : List Int} {k n : Nat} (h1 : 1 ≤ n) (h : k + n ≤ L.length) : L.set (k + (n - 1)) (ud L k n 0) = QeE L k n 0 := Z7 (by simp [XR]) fun j hj => by
  have hj' : j < L.length := by simpa using hj
  rw [Qdz hj', QeE, QG hj']
  by_cases e : k + (n - 1) = j
  · subst e
    rw [if_pos rfl, if_pos (by omega), show k + n - 1 - (k + (n - 1)) = 0 by omega]
  · rw [if_neg e, if_neg (by omega)]
theorem QsN {L : List Int} {k : Nat} : QeE L k 1 0 = L := Z7 (by simp [XR]) fun j hj => by
  rw [XR] at hj
  rw [QeE, QG hj]
  split
  · rw [show j = k by omega, show k + 1 - 1 - k = 0 by omega]; simp [ud]
  · rfl
theorem Qnu {L : List Int} {k n d : Nat} (hd : d + 1 < n) (h : k + n ≤ L.length) : (QeE L k n d).set (k + (n - 2 - d)) (w32 (ud L k n d - L.getD (k + (n - 2 - d)) 0)) = QeE L k n (d + 1) := Z7 (by simp [XR]) fun j hj => by
  have hj' : j < L.length := by simpa [XR] using hj
  rw [Qdz (by rw [XR]; exact hj'), QeE, QeE, QG hj', QG hj']
  by_cases e : k + (n - 2 - d) = j
  · subst e
    rw [if_pos rfl, if_pos (by omega), show k + n - 1 - (k + (n - 2 - d)) = d + 1 by omega]
    rfl
  · rw [if_neg e]
    by_cases q : k + (n - 1 - d) ≤ j ∧ j < k + n
    · rw [if_pos q, if_pos (by omega)]
    · rw [if_neg q, if_neg (by omega)]
def Qj8 (P : Prg) (f : Nat) : Prop := ∀ (t : Nat) (L : List Int) (k n : Nat) (K : AV → List Ob → Prop), I32 L → 1 ≤ n → k + n ≤ L.length → L.length ≤ 1000000 →
  K (.tup []) [⟨t, 1, L.length, ks .i32 (QeE L k n (n - 1)), 0⟩] → ACall P f [.view 0 L.length k n] [⟨t, 1, L.length, ks .i32 L, 0⟩] K

theorem Qn1 {P : Prg} {f : Nat} (b : Qo P f 40 [] Jv) : Qj8 P f := by
  intro t L k n K hL h1 h2 h3 hK
  refine ACall.of_body b (by simp) ?_
  by_cases hn : n = 1
  · subst hn
    simp (maxSteps := 4000000) (disch := omega) only [rr, aop, cV, cV1, AV.one, Qb, okW, Qd, app, Qa, Qc, Qe, Qf, Qg, simprocAttr, Jv]
    refine QQ.by (ι := Nat) (fun d => ⟨[(3, .int .i64 (-1)), (0, .view 0 L.length k 1)], [⟨t, 1, L.length, ks .i32 (QeE L k 1 0), 0⟩]⟩) (fun _ => True) (fun d => d) 0 (by rw [QsN]; exact Le.slots (by simp [Am.look])) trivial ?_
    intro d _
    simp (maxSteps := 4000000) (disch := omega) only [rr, aop, cV, cV1, AV.one, Qb, okW, Qd, app, Qa, Qc, Qe, Qf, Qg, simprocAttr]
    exact hK
  · have e1 := Qbz (K := .i32) (l := L) (i := k + (n - 1)) (by omega)
    have e2 := Qbz (K := .i32) (l := L) (i := k + (n - 1 - 1)) (by omega)
    have e3 := fun v => QkS (K := .i32) (l := L) (i := k + (n - 1)) (by omega) v
    have hr := Qhc (ZF hL (k + (n - 2)))
    have a0 := QsO (L := L) (k := k) h1 h2
    have u0 : ud L k n 0 = w32 (L.getD (k + (n - 1)) 0 + (L.getD (k + (n - 2)) 0).tdiv 2) := by rw [ud, if_neg hn]
    rw [u0] at a0
    rw [show n - 1 - 1 = n - 2 by omega] at e2
    have en : n - 1 - 1 = n - 2 := by omega
    simp (maxSteps := 4000000) (disch := omega) only [rr, aop, cV, cV1, AV.one, Qb, okW, Qd, app, Qa, Qc, Qe, Qf, Qg, simprocAttr, Jv, e1, en, e2, e3, ZV, a0]
    refine QQ.by (ι := Nat) (fun d => ⟨[(3, .int .i64 ((n : Int) - 2 - d)), (0, .view 0 L.length k n)], [⟨t, 1, L.length, ks .i32 (QeE L k n d), 0⟩]⟩) (fun d => d ≤ n - 1) (fun d => n - 1 - d) 0 (Le.slots (by simp [Am.look]; omega)) (by omega) ?_
    intro d hd
    have ls := XR L k n d
    by_cases hlt : d < n - 1
    · have f1 := Qbz (K := .i32) (l := QeE L k n d) (i := k + (n - 1 - d)) (by omega)
      have f2 := Qbz (K := .i32) (l := QeE L k n d) (i := k + (n - 2 - d)) (by omega)
      have f3 := fun v => QkS (K := .i32) (l := QeE L k n d) (i := k + (n - 2 - d)) (by omega) v
      rw [QrH (by omega) (by omega) (by omega), show k + n - 1 - (k + (n - 1 - d)) = d by omega, show n - 1 - d = n - 2 - d + 1 by omega] at f1
      rw [QpX (by omega) (by omega)] at f2
      have a3 := Qnu (L := L) (k := k) (n := n) (d := d) (by omega) h2
      simp (maxSteps := 4000000) (disch := omega) only [rr, aop, cV, cV1, AV.one, Qb, okW, Qd, app, Qa, Qc, Qe, Qf, Qg, simprocAttr, f1, f2, f3, ZV, a3, ls]
      exact ⟨d + 1, by omega, by omega, Le.slots (by simp [Am.look]; omega)⟩
    · have e : d = n - 1 := by omega
      subst e
      simp (maxSteps := 4000000) (disch := omega) only [rr, aop, cV, cV1, AV.one, Qb, okW, Qd, app, Qa, Qc, Qe, Qf, Qg, simprocAttr]
      exact hK
end Go.Am

namespace Go.Am
open Go.RowKit

def QsB (c : Nat) (l : List Int) (j : Nat) : Int := ud l (c * (j / c)) c (c - 1 - j % c)
def QtB (c : Nat) (l : List Int) (a : Nat) : List Int := (List.range a).map (QsB c l)
def QiI (c : Nat) (l : List Int) (a : Nat) : List Int := (List.range l.length).map fun j => if j < a then QsB c l j else l.getD j 0
def Qc1 (c : Nat) (l : List Int) : List Int := QtB c l l.length
theorem Qa4 (c : Nat) (l : List Int) (a : Nat) : (QiI c l a).length = l.length := by simp [QiI]
theorem QsC (c : Nat) (l : List Int) : QiI c l 0 = l := Z7 (Qa4 _ _ _) fun j hj => by
  rw [Qa4] at hj; rw [QiI, QG hj, if_neg (by omega)]
theorem Qkr (c : Nat) (l : List Int) : QiI c l l.length = Qc1 c l := by
  simp only [QiI, Qc1, QtB]
  apply List.map_congr_left
  intro j hj
  rw [if_pos (by simpa using hj)]
theorem QpF {c : Nat} {l : List Int} (h : I32 l) (j : Nat) : -2147483648 ≤ QsB c l j ∧ QsB c l j ≤ 2147483647 := QsD h _ _ _
theorem Qlm {c : Nat} {l : List Int} (h : I32 l) (a : Nat) : I32 (QiI c l a) := by
  intro v hv
  simp only [QiI, List.mem_map] at hv
  obtain ⟨j, _, rfl⟩ := hv
  split
  · exact QpF h j
  · exact ZF h j
theorem QmE {c : Nat} {l : List Int} (h : I32 l) : I32 (Qc1 c l) := by rw [← Qkr]; exact Qlm h _
theorem Qfd (c : Nat) (l : List Int) : (Qc1 c l).length = l.length := by simp [Qc1, QtB]
theorem Qma {c m r : Nat} (h : r < c) : (c * m + r) / c = m ∧ (c * m + r) % c = r := by
  rw [Nat.mul_add_mod, Nat.mod_eq_of_lt h, Nat.mul_add_div (by omega), Nat.div_eq_of_lt h]; simp

theorem Qro {c : Nat} {l : List Int} {m : Nat} (hc : 1 ≤ c) (h : c * m + c ≤ l.length) : QeE (QiI c l (c * m)) (c * m) c (c - 1) = QiI c l (c * m + c) := Z7 (by simp [XR, Qa4]) fun j hj => by
  have hj' : j < l.length := by simpa [XR, Qa4] using hj
  rw [QeE, Qa4, QG hj']
  conv => rhs; rw [QiI, QG hj']
  by_cases q : c * m ≤ j ∧ j < c * m + c
  · rw [if_pos (by omega), if_pos q.2]
    have e := Qma (c := c) (m := m) (r := j - c * m) (by omega)
    rw [show c * m + (j - c * m) = j by omega] at e
    rw [QsB, e.1, e.2, show c * m + c - 1 - j = c - 1 - (j - c * m) by omega]
    refine Qks hc (fun i hi => ?_) _
    rw [QiI, QG (by omega), if_neg (by omega)]
  · rw [if_neg (by omega), QiI, QG hj']
    by_cases r : j < c * m
    · rw [if_pos r, if_pos (by omega)]
    · rw [if_neg r, if_neg (by omega)]

def Qex (P : Prg) (f : Nat) : Prop := ∀ (c : Nat) (l : List Int), okM c l → VC P f [.int .i64 c, il l] (.tup [il (Qc1 c l), .int .i64 0])

theorem Qqc {P : Prg} {f fC fK fM t : Nat} (b : Qo P f 32 [.tmp 4, .tmp 5] (QbF fC fK fM)) (hC : QdJ P fC) (hK : QdP t P fK) (hM : Qj8 P fM) : Qex P f := by
  intro c l hok
  obtain ⟨h1, h2, h3, h4, h5, h6⟩ := id hok
  have hc := Qhu hok
  obtain ⟨q, hq⟩ : ∃ q, l.length = c * q := ⟨l.length / c, by have := Nat.div_add_mod l.length c; omega⟩
  refine VC.of_walk 1 (by simp [isDL, isD, QW]) (by simp [isD, isDL, QW]) (ACall.of_body b (by simp) ?_)
  simp (maxSteps := 4000000) (disch := omega) only [rr, aop, cV, cV1, AV.one, Qb, okW, Qd, app, Qa, Qc, Qe, Qf, Qg, simprocAttr, QbF]
  refine Qh.vc (hC c l) ?_
  have n0 : l.length ≠ 0 := by omega
  simp (maxSteps := 4000000) (disch := omega) only [rr, aop, cV, cV1, AV.one, Qb, okW, Qd, app, Qa, Qc, Qe, Qf, Qg, simprocAttr, hc, n0]
  refine hK l [] _ h3 (by omega) ?_
  simp (maxSteps := 4000000) (disch := omega) only [rr, aop, cV, cV1, AV.one, Qb, okW, Qd, app, Qa, Qc, Qe, Qf, Qg, simprocAttr, n0]
  refine QQ.by (ι := Nat) (fun m => ⟨[(8, .int .i64 (c * m : Nat)), (7, .own 0 l.length), (0, .int .i64 c)], [⟨t, 1, l.length, ks .i32 (QiI c l (c * m)), 0⟩]⟩) (fun m => m ≤ q) (fun m => q - m) 0 (by rw [Nat.mul_zero, QsC]; exact Le.slots (by simp [Am.look])) (by omega) ?_
  intro m hm
  by_cases hlt : c * m < l.length
  · have hs := QkO (c := c) (m := m) (q := q) (by rw [← hq]; exact hlt)
    rw [← hq] at hs
    have hmq : m < q := Nat.lt_of_mul_lt_mul_left (a := c) (b := m) (c := q) (by rw [← hq]; exact hlt)
    have e0 : c * m + c - c * m = c := by omega
    have hM' := hM t (QiI c l (c * m)) (c * m) c
    rw [Qa4, Qro h1 hs] at hM'
    simp (maxSteps := 4000000) (disch := omega) only [rr, aop, cV, cV1, AV.one, Qb, okW, Qd, app, Qa, Qc, Qe, Qf, Qg, simprocAttr, e0, n0]
    refine hM' _ (Qlm h6 _) h1 hs (by omega) ?_
    simp (maxSteps := 4000000) (disch := omega) only [rr, aop, cV, cV1, AV.one, Qb, okW, Qd, app, Qa, Qc, Qe, Qf, Qg, simprocAttr]
    exact ⟨m + 1, by omega, by omega, by rw [show c * (m + 1) = c * m + c by rw [Nat.mul_add, Nat.mul_one]]; exact Le.slots (by simp [Am.look])⟩
  · have e : c * m = l.length := by
      have := Nat.mul_le_mul_left c hm
      omega
    rw [e, Qkr]
    have lm := Qfd c l
    simp (maxSteps := 4000000) (disch := omega) only [rr, aop, cV, cV1, AV.one, Qb, okW, Qd, app, Qa, Qc, Qe, Qf, Qg, simprocAttr]
    simp [QH, Qy, frzL, Qx, isDL, isD, il, lm, frzL_T _ (Qv .i32 (Qc1 c l))]

/-! ### The reference -/

end Go.Am

namespace Go.Am
open Go.RowKit

/-! ### What is uncoded -/

def stB (c : Nat) (L : List Int) (z : ZM) (k : Nat) : Nat → ZM
  | 0 => z
  | n + 1 => QaC (stB c L z k n) (L.getD (k + n * c) 0)
def Qub (c : Nat) (L : List Int) (z : ZM) (j : Nat) : Int := Qml (stB c L z (j % c) (j / c)) (L.getD j 0)
def QjH (c : Nat) (L : List Int) (z : ZM) (a : Nat) : List Int := (List.range a).map (Qub c L z)
theorem Qce (c : Nat) (L : List Int) (z : ZM) (a : Nat) : (QjH c L z a).length = a := by simp [QjH]
theorem Qo4 (c : Nat) (L : List Int) (z : ZM) (a : Nat) : QjH c L z a ++ [Qub c L z a] = QjH c L z (a + 1) := by simp [QjH, List.range_succ]
theorem Qlo (c : Nat) (L : List Int) (z : ZM) (a : Nat) : I32 (QjH c L z a) := by
  intro v hv
  simp only [QjH, List.mem_map] at hv
  obtain ⟨j, _, rfl⟩ := hv
  exact Xm _
theorem QnT {c : Nat} {L : List Int} {z : ZM} (hz : QkL z) (k : Nat) : ∀ n, QkL (stB c L z k n)
  | 0 => hz
  | n + 1 => Qi3 (QnT hz k n) _
def Qnd (c : Nat) (L : List Int) (z : ZM) (i : Nat) : Nat → ZM := fun k => if k < c then stB c L z k (cnt c k i) else z
theorem QsI (c : Nat) (L : List Int) (z : ZM) : Qnd c L z 0 = fun _ => z := by
  funext k; simp [Qnd, Qs8, stB]
theorem Qrs {c : Nat} (hc : 1 ≤ c) (L : List Int) (z : ZM) (i : Nat) : Qnd c L z i (i % c) = stB c L z (i % c) (i / c) := by
  rw [Qnd, if_pos (Nat.mod_lt _ (by omega)), Qk8]
theorem Qnc {c : Nat} (hc : 1 ≤ c) (L : List Int) (z : ZM) (i : Nat) : upd (Qnd c L z i) (i % c) (QaC (stB c L z (i % c) (i / c)) (L.getD i 0)) = Qnd c L z (i + 1) := by
  funext k
  have hr := Nat.mod_lt i (show 0 < c by omega)
  by_cases hk : k < c
  · simp only [upd, Qnd, if_pos hk, Qk7 hk]
    by_cases e : k = i % c
    · rw [if_pos e, if_pos e, e, stB]
      rw [show i % c + i / c * c = i by have := Nat.div_add_mod i c; rw [Nat.mul_comm]; omega]
    · rw [if_neg e, if_neg e]
  · simp only [upd, Qnd, if_neg hk]
    rw [if_neg (by omega)]
theorem QrM {c : Nat} {L : List Int} {z : ZM} (hz : QkL z) (i : Nat) : okS (Qnd c L z i) := fun k => by
  unfold Qnd; split
  · exact (QnT hz k _).2.2.1
  · exact hz.2.2.1
def U32 (l : List Int) : Prop := ∀ x ∈ l, 0 ≤ x ∧ x < 4294967296
theorem QqS {l : List Int} (h : U32 l) (j : Nat) : 0 ≤ l.getD j 0 ∧ l.getD j 0 < 4294967296 := by
  by_cases hj : j < l.length
  · rw [List.getD_eq_getElem?_getD, List.getElem?_eq_getElem hj]
    exact h _ (List.getElem_mem hj)
  · rw [List.getD_eq_getElem?_getD, List.getElem?_eq_none (by omega)]; simp
theorem Qms {v : List Int} {j : Nat} (h : j < v.length) : (v.map Xh).getD j 0 = Xh (v.getD j 0) := by
  simp [List.getD_eq_getElem?_getD, List.getElem?_map, List.getElem?_eq_getElem h]

def unB (c : Nat) (x : Int) (t v : List Int) : List Int := Qc1 c (QjH c (v.map Xh) (Js x t) v.length)
theorem Qrp (c : Nat) (x : Int) (t v : List Int) : (unB c x t v).length = v.length := by simp [unB, Qfd, Qce]
def okV (c : Nat) (v : List Int) : Prop := 1 ≤ c ∧ c ≤ 6 ∧ 0 < v.length ∧ v.length ≤ 4000 ∧ v.length % c = 0 ∧ U32 v
theorem QtH {c : Nat} {v : List Int} (h : okV c v) (x : Int) (t : List Int) : okM c (QjH c (v.map Xh) (Js x t) v.length) := by
  obtain ⟨h1, h2, h3, h4, h5, _⟩ := h
  exact ⟨h1, h2, by rw [Qce]; omega, by rw [Qce]; omega, by rw [Qce]; exact h5, Qlo _ _ _ _⟩
def QnA (x : Int) (l : List Int) : AV := if QM x l ≠ 0 then .tup [.list 0 [], .int .i64 (QM x l)] else .tup [il l, .int .i64 0]
theorem Qod (x : Int) (l : List Int) : isD (QnA x l) = true := by unfold QnA; split <;> simp [isD, isDL, QW]
def Qpq (P : Prg) (f : Nat) : Prop := ∀ (c : Nat) (x : Int) (t v : List Int), t.length = 16 → I32 t → okV c v → QaA x ≠ 0 → VC P f [shA c x, .agg (ks .i32 t), Qfe v] (QnA x (unB c x t v))

set_option maxRecDepth 20000 in
theorem Qem {P : Prg} {f fN fO fB fU fW t0 t1 t2 t3 t4 : Nat} (b : Qo P f 84 [.tmp 6, .tmp 7] (Xd fN fO fB fU fW t0 t1 t2 t3 t4)) (hN : Qlk P fN) (hO : Qj9 P fO) (hB : Qki P fB) (hU : Qex P fU) (hW : Qci P fW) : Qpq P f := by
  intro k x t v hl hI hok hx
  have hk : (ks .i32 t).length = 16 := by simp [Ql, hl]
  have ot := XE .i32 t
  have tt : (ks .i32 t).take 16 = ks .i32 t := Qu (by omega)
  refine VC.of_walk 1 (by simp [isDL, isD, QkV, QZ, shA]) (Qod _ _) (ACall.of_cut 5 b (by simp) ?_)
  have hz := QnW hx hl hI
  have l0 := Qcw (S := fun _ => J5) (fun _ => Qb0)
  have o0 := Qpi (fun _ => J5)
  obtain ⟨h1, h2, h3, h4, h5, h6⟩ := id hok
  unfold Xd
  rw [show ([.int .i64 0, .int .i32 0, .int .i64 0, .int .i32 0, .int .i32 0, .int .i32 0, .int .i32 0, .int .i32 0, .int .i32 0, .int .i32 0, .int .i32 0, .int .i32 0, .int .i32 0, .int .i32 0, .int .i32 0, .int .i32 0, .int .i32 0, .int .i32 0, .int .i32 0, .int .i32 0, .int .i32 0, .int .i32 0, .int .i32 0, .int .i32 0, .int .i32 0, .int .i32 0, .int .i32 0, .int .i32 0, .int .i32 0, .int .i32 0, .int .i32 0, .int .i32 0, .int .i32 0, .int .i32 0, .int .i32 0, .int .i64 0, .int .i32 0, .int .i64 0, .int .i32 0, .int .i32 0, .int .i32 0, .int .i32 0, .int .i32 0, .int .i32 0, .int .i32 0, .int .i32 0, .int .i32 0, .int .i32 0, .int .i32 0, .int .i32 0, .int .i32 0, .int .i32 0, .int .i32 0, .int .i32 0, .int .i32 0, .int .i32 0, .int .i32 0, .int .i32 0, .int .i32 0, .int .i32 0, .int .i32 0, .int .i32 0, .int .i32 0, .int .i32 0, .int .i32 0, .int .i32 0, .int .i32 0, .int .i32 0, .int .i32 0, .int .i32 0, .int .i64 0, .int .i32 0, .int .i64 0, .int .i32 0, .int .i32 0, .int .i32 0, .int .i32 0, .int .i32 0, .int .i32 0, .int .i32 0, .int .i32 0, .int .i32 0, .int .i32 0, .int .i32 0, .int .i32 0, .int .i32 0, .int .i32 0, .int .i32 0, .int .i32 0, .int .i32 0, .int .i32 0, .int .i32 0, .int .i32 0, .int .i32 0, .int .i32 0, .int .i32 0, .int .i32 0, .int .i32 0, .int .i32 0, .int .i32 0, .int .i32 0, .int .i32 0, .int .i32 0, .int .i32 0, .int .i32 0, .int .i64 0, .int .i32 0, .int .i64 0, .int .i32 0, .int .i32 0, .int .i32 0, .int .i32 0, .int .i32 0, .int .i32 0, .int .i32 0, .int .i32 0, .int .i32 0, .int .i32 0, .int .i32 0, .int .i32 0, .int .i32 0, .int .i32 0, .int .i32 0, .int .i32 0, .int .i32 0, .int .i32 0, .int .i32 0, .int .i32 0, .int .i32 0, .int .i32 0, .int .i32 0, .int .i32 0, .int .i32 0, .int .i32 0, .int .i32 0, .int .i32 0, .int .i32 0, .int .i32 0, .int .i32 0, .int .i32 0, .int .i64 0, .int .i32 0, .int .i64 0, .int .i32 0, .int .i32 0, .int .i32 0, .int .i32 0, .int .i32 0, .int .i32 0, .int .i32 0, .int .i32 0, .int .i32 0, .int .i32 0, .int .i32 0, .int .i32 0, .int .i32 0, .int .i32 0, .int .i32 0, .int .i32 0, .int .i32 0, .int .i32 0, .int .i32 0, .int .i32 0, .int .i32 0, .int .i32 0, .int .i32 0, .int .i32 0, .int .i32 0, .int .i32 0, .int .i32 0, .int .i32 0, .int .i32 0, .int .i32 0, .int .i32 0, .int .i32 0, .int .i64 0, .int .i32 0, .int .i64 0, .int .i32 0, .int .i32 0, .int .i32 0, .int .i32 0, .int .i32 0, .int .i32 0, .int .i32 0, .int .i32 0, .int .i32 0, .int .i32 0, .int .i32 0, .int .i32 0, .int .i32 0, .int .i32 0, .int .i32 0, .int .i32 0, .int .i32 0, .int .i32 0, .int .i32 0, .int .i32 0, .int .i32 0, .int .i32 0, .int .i32 0, .int .i32 0, .int .i32 0, .int .i32 0, .int .i32 0, .int .i32 0, .int .i32 0, .int .i32 0, .int .i32 0, .int .i32 0] : List AV) = six (fun _ => J5) from rfl, ← Qa0]
  simp (maxSteps := 4000000) (disch := omega) only [rr, aop, cV, cV1, AV.one, Qb, okW, Qd, app, Qa, Qc, Qe, Qf, Qg, simprocAttr, Qf8, shA, Qfe, hk, ot, tt, l0, o0]
  refine QQ.by (ι := Nat) (fun i => ⟨[(20, .int .i64 i), (8, .ref 2 1 0), (4, .ref 1 1 0), (3, .ref 0 1 0), (2, Qfe v)], [⟨t0, 2, 1, [.int .i64 k, .int .i64 x], 0⟩, ⟨t1, 16, 1, ks .i32 t, 0⟩, ⟨t2, 210, 1, six (Qn0 (Js x t) i), 0⟩]⟩) (fun i => i ≤ 6) (fun i => 6 - i) 0 (by rw [Qq3]; exact Le.slots (by simp [Am.look, Qfe])) (by omega) ?_
  intro i hi
  have oS := QnV hz.2.2.1 i
  have lS := Qcw oS
  by_cases hlt : i < 6
  · have e1 := QfK oS hlt (Js x t)
    rw [Qhw] at e1
    have lc := Zl hz.2.2.1
    have oc := ZG (Js x t)
    simp (maxSteps := 4000000) (disch := omega) only [rr, aop, cV, cV1, AV.one, Qb, okW, Qd, app, Qa, Qc, Qe, Qf, Qg, simprocAttr, hk, tt]
    refine Qh.vc (hN x t hl hI) ?_
    simp (maxSteps := 4000000) (disch := omega) only [rr, aop, cV, cV1, AV.one, Qb, okW, Qd, app, Qa, Qc, Qe, Qf, Qg, simprocAttr, Qjy, if_neg hx, lS, lc, oc, e1]
    exact ⟨i + 1, by omega, by omega, Le.slots (by simp [Am.look])⟩
  · have : i = 6 := by omega
    subst this
    simp (maxSteps := 4000000) (disch := omega) only [rr, aop, cV, cV1, AV.one, Qb, okW, Qd, app, Qa, Qc, Qe, Qf, Qg, simprocAttr, Qf8, Qfe]
    have tv : isTL (ks .u32 v) = true := Qv _ _
    refine QQ.by (ι := Nat) (fun i => ⟨[(35, .int .i64 i), (34, .int .i64 v.length), (33, Qfe v), (10, .own 3 i), (8, .ref 2 1 0), (3, .ref 0 1 0)], [⟨t0, 2, 1, [.int .i64 k, .int .i64 x], 0⟩, ⟨t1, 16, 1, ks .i32 t, 0⟩, ⟨t2, 210, 1, six (Qnd k (v.map Xh) (Js x t) i), 0⟩, ⟨t4, 1, i, ks .i32 (QjH k (v.map Xh) (Js x t) i), 0⟩]⟩) (fun i => i ≤ v.length) (fun i => v.length - i) 0 (by rw [QsI, ← QsK]; exact Le.trans (Le.virt 10 t4 1 (by omega) rfl) (Le.slots (by simp [Am.look, QjH, Qfe]))) (by omega) ?_
    intro i hi
    have lo := Qce k (v.map Xh) (Js x t) i
    have to : isTL (ks .i32 (QjH k (v.map Xh) (Js x t) i)) = true := Qv _ _
    by_cases hlt : i < v.length
    · have oS := QrM hz (c := k) (L := v.map Xh) i
      have lS := Qcw oS
      have hr := Nat.mod_lt i (show 0 < k by omega)
      have e0 := QqY oS (k := i % k) (by omega)
      rw [Qrs h1] at e0
      have e1 := QfK oS (k := i % k) (by omega) (QaC (stB k (v.map Xh) (Js x t) (i % k) (i / k)) ((v.map Xh).getD i 0))
      rw [Qnc h1] at e1
      have hok2 := QnT (c := k) (L := v.map Xh) hz (i % k) (i / k)
      have eb := Qms hlt
      have hO' := hO (v.getD i 0) (QqS h6 i)
      rw [← eb] at hO'
      have hB' := hB _ ((v.map Xh).getD i 0) hok2
      have hok3 := Qi3 hok2 ((v.map Xh).getD i 0)
      have e2 := Qbz (K := .u32) (l := v) (i := i) hlt
      have e3 : ks .i32 (QjH k (v.map Xh) (Js x t) i) ++ [.int .i32 (Qml (stB k (v.map Xh) (Js x t) (i % k) (i / k)) ((v.map Xh).getD i 0))] = ks .i32 (QjH k (v.map Xh) (Js x t) (i + 1)) := by rw [Qn9, ← Qo4]; rfl
      have lc := Zl hok3.2.2.1
      have oc := ZG (QaC (stB k (v.map Xh) (Js x t) (i % k) (i / k)) ((v.map Xh).getD i 0))
      have tc : (QO (QaC (stB k (v.map Xh) (Js x t) (i % k) (i / k)) ((v.map Xh).getD i 0))).take 35 = QO (QaC (stB k (v.map Xh) (Js x t) (i % k) (i / k)) ((v.map Xh).getD i 0)) := Qu (by omega)
      have lz := Zl Qb0
      have oz := ZG J5
      have dz : (QO J5).drop 35 = [] := List.drop_eq_nil_of_le (by omega)
      have em : (i : Int) % k = (i % k : Nat) := by omega
      simp (maxSteps := 4000000) (disch := omega) only [rr, aop, cV, cV1, AV.one, Qb, okW, Qd, app, Qa, Qc, Qe, Qf, Qg, simprocAttr, Qfe, e2, em, e0]
      refine QC.vc hO' ?_
      simp (maxSteps := 4000000) (disch := omega) only [rr, aop, cV, cV1, AV.one, Qb, okW, Qd, app, Qa, Qc, Qe, Qf, Qg, simprocAttr]
      refine QC.vc hB' ?_
      simp (maxSteps := 4000000) (disch := omega) only [rr, aop, cV, cV1, AV.one, Qb, okW, Qd, app, Qa, Qc, Qe, Qf, Qg, simprocAttr, lz, oz, lc, oc, tc, e1, lS, dz, e3, List.append_nil, List.take_zero, List.nil_append]
      exact ⟨i + 1, by omega, by omega, Le.dropT [_, _, _, _] (by simp [QkU, Qv, isTL, isT]) (by simp [Am.look, Qy, frzL, Qx, frzL_T _ tv])⟩
    · have e : i = v.length := by omega
      subst e
      simp (maxSteps := 4000000) (disch := omega) only [rr, aop, cV, cV1, AV.one, Qb, okW, Qd, app, Qa, Qc, Qe, Qf, Qg, simprocAttr, Qf8]
      refine ⟨⟨[(10, il (QjH k (v.map Xh) (Js x t) v.length)), (3, .ref 0 1 0)], [⟨t0, 2, 1, [.int .i64 k, .int .i64 x], 0⟩]⟩, Le.dropT [_] (by simp [isTL, isT]) (by simp [Am.look, Qy, frzL, Qx, il, lo, frzL_T _ to]), ?_⟩
      simp (maxSteps := 4000000) (disch := omega) only [rr, aop, cV, cV1, AV.one, Qb, okW, Qd, app, Qa, Qc, Qe, Qf, Qg, simprocAttr]
      refine Qh.vc (hU k _ (QtH hok x t)) ?_
      simp (maxSteps := 4000000) (disch := omega) only [rr, aop, cV, cV1, AV.one, Qb, okW, Qd, app, Qa, Qc, Qe, Qf, Qg, simprocAttr]
      refine Qh.vc (hW x (unB k x t v) (QmE (Qlo _ _ _ _))) ?_
      have lu := Qrp k x t v
      by_cases h9 : QM x (unB k x t v) = 0
      · have e9 : QnA x (unB k x t v) = .tup [il (unB k x t v), .int .i64 0] := by simp [QnA, h9]
        simp (maxSteps := 4000000) (disch := omega) only [rr, aop, cV, cV1, AV.one, Qb, okW, Qd, app, Qa, Qc, Qe, Qf, Qg, simprocAttr, h9, e9]
        simp only [unB] at *
        simp [QH, Qy, frzL, Qx, isDL, isD, il, frzL_T _ (Qv .i32 _)]
      · have e9 : QnA x (unB k x t v) = .tup [.list 0 [], .int .i64 (QM x (unB k x t v))] := by simp [QnA, h9]
        simp (maxSteps := 4000000) (disch := omega) only [rr, aop, cV, cV1, AV.one, Qb, okW, Qd, app, Qa, Qc, Qe, Qf, Qg, simprocAttr, h9, e9]
        simp [QH, Qy, frzL, Qx, isDL, isD]
end Go.Am

namespace Go.Am
open Go.RowKit

def erA (e : Int) : AV := .tup [.list 0 [], .int .i64 e]
end Go.Am

namespace Go.Am
open Go.RowKit

def Qjx (r n : Int) : AV := if r < 1 ∨ 1048576 < r then .tup [.int .i64 0, .int .i64 2] else if n < 1 ∨ 4000 < n then .tup [.int .i64 0, .int .i64 2] else if 1000 < (n + QJ r - 1) / QJ r then .tup [.int .i64 0, .int .i64 4] else .tup [.int .i64 ((n + QJ r - 1) / QJ r), .int .i64 0]
theorem Qr0 (r n : Int) : isD (Qjx r n) = true := by unfold Qjx; split <;> (try split) <;> (try split) <;> rfl
def Qcp (P : Prg) (f : Nat) : Prop := ∀ r n : Int, VC P f [.int .i64 r, .int .i64 n] (Qjx r n)

theorem QfU {P : Prg} {f fL : Nat} (b : Qo P f 32 [.tmp 4, .tmp 5] (XM fL)) (hL : QdK P fL) : Qcp P f := by
  intro r n
  refine VC.of_acall rfl (Qr0 _ _) (ACall.of_body b (by simp) ?_)
  have hL' := hL r
  simp (maxSteps := 4000000) (disch := omega) only [rr, aop, cV, cV1, AV.one, Qb, okW, Qd, app, Qa, Qc, Qe, Qf, Qg, simprocAttr, XM]
  refine Qh.vc hL' ?_
  by_cases h1 : r < 1 ∨ 1048576 < r
  · have e1 : Qed r = .tup [.int .i64 0, .int .i64 2] := by rw [Qed, if_pos h1]
    have e2 : Qjx r n = .tup [.int .i64 0, .int .i64 2] := by rw [Qjx, if_pos h1]
    simp (maxSteps := 4000000) (disch := omega) only [rr, aop, cV, cV1, AV.one, Qb, okW, Qd, app, Qa, Qc, Qe, Qf, Qg, simprocAttr, e1, e2]
  have e1 : Qed r = .tup [.int .i64 (QJ r), .int .i64 0] := by rw [Qed, if_neg h1]
  have p1 := JV r
  have p2 := Qqf (r := r) (by omega)
  by_cases h2 : n < 1
  · have e2 : Qjx r n = .tup [.int .i64 0, .int .i64 2] := by rw [Qjx, if_neg h1, if_pos (.inl h2)]
    simp (maxSteps := 4000000) (disch := omega) only [rr, aop, cV, cV1, AV.one, Qb, okW, Qd, app, Qa, Qc, Qe, Qf, Qg, simprocAttr, e1, e2]
  by_cases h3 : 4000 < n
  · have e2 : Qjx r n = .tup [.int .i64 0, .int .i64 2] := by rw [Qjx, if_neg h1, if_pos (.inr h3)]
    simp (maxSteps := 4000000) (disch := omega) only [rr, aop, cV, cV1, AV.one, Qb, okW, Qd, app, Qa, Qc, Qe, Qf, Qg, simprocAttr, e1, e2]
  have e2 : Qjx r n = if 1000 < (n + QJ r - 1) / QJ r then .tup [.int .i64 0, .int .i64 4] else .tup [.int .i64 ((n + QJ r - 1) / QJ r), .int .i64 0] := by
    rw [Qjx, if_neg h1, if_neg (by omega)]
  generalize QJ r = L at *
  have q0 : (n + L - 1).tdiv L = (n + L - 1) / L := Int.tdiv_eq_ediv_of_nonneg (by omega)
  have q1 : 0 ≤ (n + L - 1) / L := Int.ediv_nonneg (by omega) (by omega)
  have q2 : (n + L - 1) / L ≤ n + L - 1 := Int.ediv_le_self _ (by omega)
  generalize hq : (n + L - 1) / L = Q at *
  by_cases h4 : 1000 < Q
  · rw [if_pos h4] at e2
    simp (maxSteps := 4000000) (disch := omega) only [rr, aop, cV, cV1, AV.one, Qb, okW, Qd, app, Qa, Qc, Qe, Qf, Qg, simprocAttr, e1, q0, hq, e2]
  · rw [if_neg h4] at e2
    simp (maxSteps := 4000000) (disch := omega) only [rr, aop, cV, cV1, AV.one, Qb, okW, Qd, app, Qa, Qc, Qe, Qf, Qg, simprocAttr, e1, q0, hq, e2]

def Qck (P : Prg) (f : Nat) : Prop := ∀ (c x r : Int) (l : List Int), VC P f [.agg [.int .i64 c, .int .i64 x, .int .i64 r, il l]] (shA c x)
theorem Qmf {P : Prg} {f t0 t1 : Nat} (b : Qo P f 8 [.cell 2 t1] (ZK t0 t1)) (ht : Zs P t1 = some (some 2)) : Qck P f := by
  intro c x r l
  refine VC.of_acall (by simp [isDL, isD, QW]) rfl (ACall.of_body b (by simp) ?_)
  simp (maxSteps := 4000000) (disch := omega) only [rr, aop, cV, cV1, AV.one, Qb, okW, Qd, app, Qa, Qc, Qe, Qf, Qg, simprocAttr, ZK, il, Zf, ht, shA]
def QoL (r n : Int) : Int := if r < 1 ∨ 1048576 < r then 2 else if n < 1 ∨ 4000 < n then 2 else if 1000 < (n + QJ r - 1) / QJ r then 4 else 0
theorem QqH (r n : Int) : ∃ k : Int, Qjx r n = .tup [.int .i64 k, .int .i64 (QoL r n)] := by
  unfold Qjx QoL
  split
  · exact ⟨_, rfl⟩
  split
  · exact ⟨_, rfl⟩
  split
  · exact ⟨_, rfl⟩
  · exact ⟨_, rfl⟩
def Z6 (c x r n : Int) : Int := if Zu c x ≠ 0 then 8 else if n < 1 then 8 else if 4000 / c < n then 8 else if QoL r n ≠ 0 then 8 else 0
def QgL (P : Prg) (f : Nat) : Prop := ∀ (c x r n : Int) (l : List Int), VC P f [.agg [.int .i64 c, .int .i64 x, .int .i64 r, il l], .int .i64 n] (.int .i64 (Z6 c x r n))
theorem QoN {P : Prg} {f fS fE fC t0 : Nat} (b : Qo P f 31 [.tmp 4] (QaX fS fE fC t0)) (hS : Qck P fS) (hE : Qco P fE) (hC : Qcp P fC) : QgL P f := by
  intro c x r n l
  refine VC.of_acall (by simp [isDL, isD, QW]) rfl (ACall.of_body b (by simp) ?_)
  have hS' := hS c x r l
  have hE' := hE c x
  rw [shA] at hS' hE'
  rw [il] at hS'
  obtain ⟨k, ek⟩ := QqH r n
  have hC' := hC r n
  rw [ek] at hC'
  simp (maxSteps := 4000000) (disch := omega) only [rr, aop, cV, cV1, AV.one, Qb, okW, Qd, app, Qa, Qc, Qe, Qf, Qg, simprocAttr, QaX, il]
  refine Qh.vc hS' ?_
  simp (maxSteps := 4000000) (disch := omega) only [rr, aop, cV, cV1, AV.one, Qb, okW, Qd, app, Qa, Qc, Qe, Qf, Qg, simprocAttr]
  refine Qh.vc hE' ?_
  rcases Zh c x with h1 | ⟨h1, h2, h3, h4⟩
  · have e9 : Z6 c x r n = 8 := by simp [Z6, h1]
    simp (maxSteps := 4000000) (disch := omega) only [rr, aop, cV, cV1, AV.one, Qb, okW, Qd, app, Qa, Qc, Qe, Qf, Qg, simprocAttr, h1, e9]
  have q0 : (4000 : Int).tdiv c = 4000 / c := Int.tdiv_eq_ediv_of_nonneg (by omega)
  have q1 : 0 ≤ (4000 : Int) / c := Int.ediv_nonneg (by omega) (by omega)
  have q2 : (4000 : Int) / c ≤ 4000 := Int.ediv_le_self _ (by omega)
  by_cases h5 : n < 1
  · have e9 : Z6 c x r n = 8 := by simp [Z6, h5]
    simp (maxSteps := 4000000) (disch := omega) only [rr, aop, cV, cV1, AV.one, Qb, okW, Qd, app, Qa, Qc, Qe, Qf, Qg, simprocAttr, h1, e9]
  by_cases h6 : 4000 / c < n
  · have e9 : Z6 c x r n = 8 := by simp [Z6, h6]
    simp (maxSteps := 4000000) (disch := omega) only [rr, aop, cV, cV1, AV.one, Qb, okW, Qd, app, Qa, Qc, Qe, Qf, Qg, simprocAttr, h1, e9, q0]
  simp (maxSteps := 4000000) (disch := omega) only [rr, aop, cV, cV1, AV.one, Qb, okW, Qd, app, Qa, Qc, Qe, Qf, Qg, simprocAttr, h1, q0]
  refine Qh.vc hC' ?_
  by_cases h7 : QoL r n = 0
  · have e9 : Z6 c x r n = 0 := by simp [Z6, h1, h5, h6, h7]
    simp (maxSteps := 4000000) (disch := omega) only [rr, aop, cV, cV1, AV.one, Qb, okW, Qd, app, Qa, Qc, Qe, Qf, Qg, simprocAttr, h7, e9]
  · have e9 : Z6 c x r n = 8 := by simp [Z6, h7]
    simp (maxSteps := 4000000) (disch := omega) only [rr, aop, cV, cV1, AV.one, Qb, okW, Qd, app, Qa, Qc, Qe, Qf, Qg, simprocAttr, h7, e9]

def Zc (c x r : Int) (l : List Int) : Int := if c < 1 then 8 else if (l.length : Int) % c ≠ 0 then 8 else if Z6 c x r (l.length / c) ≠ 0 then 8 else if QM x l ≠ 0 then 8 else 0
theorem Qfo (c x r n : Int) : Z6 c x r n = 8 ∨ Z6 c x r n = 0 := by
  unfold Z6; split <;> (try split) <;> (try split) <;> (try split) <;> simp
def Jo (P : Prg) (f : Nat) : Prop := ∀ (c x r : Int) (l : List Int), I32 l → l.length ≤ 1000000 → VC P f [.agg [.int .i64 c, .int .i64 x, .int .i64 r, il l]] (.int .i64 (Zc c x r l))
theorem Qmj {P : Prg} {f fH fW t0 : Nat} (b : Qo P f 33 [.tmp 2] (Xe fH fW t0)) (hH : QgL P fH) (hW : Qci P fW) : Jo P f := by
  intro c x r l hI hl
  · refine VC.of_acall (by simp [isDL, isD, QW]) rfl (ACall.of_body b (by simp) ?_)
    by_cases h1 : c < 1
    · have e9 : Zc c x r l = 8 := by simp [Zc, h1]
      simp (maxSteps := 4000000) (disch := omega) only [rr, aop, cV, cV1, AV.one, Qb, okW, Qd, app, Qa, Qc, Qe, Qf, Qg, simprocAttr, Xe, il, e9]
    have hm := Qb1 (n := l.length) (c := c) (by omega)
    have hd := QoG (n := l.length) (c := c) (by omega)
    have q0 : (l.length : Int).tdiv c = l.length / c := Int.tdiv_eq_ediv_of_nonneg (by omega)
    by_cases h2 : (l.length : Int) % c = 0
    · have hH' := hH c x r (l.length / c) l
      have hW' := hW x l hI
      rw [il] at hH' hW'
      simp (maxSteps := 4000000) (disch := omega) only [rr, aop, cV, cV1, AV.one, Qb, okW, Qd, app, Qa, Qc, Qe, Qf, Qg, simprocAttr, Xe, il, h2, q0]
      refine QC.vc hH' ?_
      rcases Qfo c x r (l.length / c) with h3 | h3
      · have e9 : Zc c x r l = 8 := by simp [Zc, h3]
        simp (maxSteps := 4000000) (disch := omega) only [rr, aop, cV, cV1, AV.one, Qb, okW, Qd, app, Qa, Qc, Qe, Qf, Qg, simprocAttr, h3, e9]
      · simp (maxSteps := 4000000) (disch := omega) only [rr, aop, cV, cV1, AV.one, Qb, okW, Qd, app, Qa, Qc, Qe, Qf, Qg, simprocAttr, h3]
        refine Qh.vc hW' ?_
        by_cases h4 : QM x l = 0
        · have e9 : Zc c x r l = 0 := by simp [Zc, h1, h2, h3, h4]
          simp (maxSteps := 4000000) (disch := omega) only [rr, aop, cV, cV1, AV.one, Qb, okW, Qd, app, Qa, Qc, Qe, Qf, Qg, simprocAttr, h4, e9]
        · have e9 : Zc c x r l = 8 := by simp [Zc, h4]
          simp (maxSteps := 4000000) (disch := omega) only [rr, aop, cV, cV1, AV.one, Qb, okW, Qd, app, Qa, Qc, Qe, Qf, Qg, simprocAttr, h4, e9]
    · have e9 : Zc c x r l = 8 := by simp [Zc, h2]
      simp (maxSteps := 4000000) (disch := omega) only [rr, aop, cV, cV1, AV.one, Qb, okW, Qd, app, Qa, Qc, Qe, Qf, Qg, simprocAttr, Xe, il, h2, e9]

def Qbk (c x n : Int) : Int := if Zu c x ≠ 0 then 2 else if n < 1 then 2 else if 4000 / c < n then 2 else 0
end Go.Am

namespace Go.Am
open Go.RowKit

def Q9 (L n : Nat) : List Int := List.replicate ((n - 1) / L) (L : Int) ++ [(n : Int) - ((n - 1) / L * L : Nat)]
theorem Je (L n : Nat) : (Q9 L n).length = (n - 1) / L + 1 := by simp [Q9]
end Go.Am

namespace Go.Am
open Go.RowKit

theorem Qr3 (c x r n : Int) : Z6 c x r n = if Qbk c x n = 0 ∧ QoL r n = 0 then 0 else 8 := by
  unfold Z6 Qbk
  by_cases h1 : Zu c x = 0 <;> by_cases h2 : n < 1 <;> by_cases h3 : 4000 / c < n <;> by_cases h4 : QoL r n = 0 <;> simp [h1, h2, h3, h4]
theorem QqI {c x r : Int} {l : List Int} : Zc c x r l = if Qcq c x l = 0 ∧ Z6 c x r (l.length / c) = 0 then 0 else 8 := by
  unfold Zc Qcq
  by_cases h0 : Z6 c x r (l.length / c) = 0
  · have h0' := h0
    rw [Qr3] at h0'
    have ha : Qbk c x (l.length / c) = 0 := by
      by_cases h : Qbk c x (l.length / c) = 0 ∧ QoL r (l.length / c) = 0
      · exact h.1
      · rw [if_neg h] at h0'; cases h0'
    have hE : Zu c x = 0 := by
      by_cases h : Zu c x = 0
      · exact h
      · simp [Qbk, h] at ha
    have hn : ¬ (l.length : Int) / c < 1 := by
      intro h
      simp [Qbk, h] at ha
    have hc : ¬ c < 1 := by
      rcases Zh c x with h | h <;> omega
    have hl : l.length ≠ 0 := by
      intro h
      rw [h] at hn
      simp at hn
    by_cases h2 : (l.length : Int) % c = 0 <;> by_cases h3 : QM x l = 0 <;> simp [hE, hc, hl, h0, h2, h3]
  · simp [h0]

end Go.Am

namespace Go.Am
open Go.RowKit

def clA (c x r : Int) (l : List Int) : AV := .agg [.int .i64 c, .int .i64 x, .int .i64 r, il l]
def Qsv (P : Prg) (f : Nat) : Prop := ∀ a b : List Int, a.length ≤ 1000000 → b.length ≤ 1000000 → VC P f [il a, il b] (.bool (decide (a = b)))
theorem Qp7 {P : Prg} {f : Nat} (bd : Qo P f 26 [.tmp 4] Zb) : Qsv P f := by
  intro a b ha hb
  refine VC.of_acall (by simp [isDL, isD, QW]) rfl (ACall.of_body bd (by simp) ?_)
  by_cases hn : a.length = b.length
  · simp (maxSteps := 4000000) (disch := omega) only [rr, aop, cV, cV1, AV.one, Qb, okW, Qd, app, Qa, Qc, Qe, Qf, Qg, simprocAttr, Zb, il, hn]
    refine QQ.by (ι := Nat) (fun k => ⟨[(5, .int .i64 k), (1, .list b.length (ks .i32 b)), (0, .list b.length (ks .i32 a))], []⟩) (fun k => k ≤ b.length ∧ ∀ j, j < k → a.getD j 0 = b.getD j 0) (fun k => b.length - k) 0 (Le.slots (by simp [Am.look, il])) ⟨by omega, by simp⟩ ?_
    intro k ⟨hk, hg⟩
    by_cases hlt : k < b.length
    · have e1 := Qbz (K := .i32) (l := a) (i := k) (by omega)
      have e2 := Qbz (K := .i32) (l := b) (i := k) hlt
      have la : (ks .i32 a).length = b.length := by rw [Ql, hn]
      by_cases he : a.getD k 0 = b.getD k 0
      · simp (maxSteps := 4000000) (disch := omega) only [rr, aop, cV, cV1, AV.one, Qb, okW, Qd, app, Qa, Qc, Qe, Qf, Qg, simprocAttr, e1, e2, he, la]
        exact ⟨k + 1, ⟨by omega, fun j hj => by
          by_cases e : j = k
          · rw [e]; exact he
          · exact hg j (by omega)⟩, by omega, Le.slots (by simp [Am.look, il])⟩
      · have e9 : decide (a = b) = false := by simp; intro h; rw [h] at he; exact he rfl
        simp (maxSteps := 4000000) (disch := omega) only [rr, aop, cV, cV1, AV.one, Qb, okW, Qd, app, Qa, Qc, Qe, Qf, Qg, simprocAttr, e1, e2, e9, la, he]
    · have e9 : decide (a = b) = true := by simp; exact Z7 hn fun j hj => hg j (by omega)
      simp (maxSteps := 4000000) (disch := omega) only [rr, aop, cV, cV1, AV.one, Qb, okW, Qd, app, Qa, Qc, Qe, Qf, Qg, simprocAttr, e9]
  · have e9 : decide (a = b) = false := by simp; intro h; rw [h] at hn; exact hn rfl
    simp (maxSteps := 4000000) (disch := omega) only [rr, aop, cV, cV1, AV.one, Qb, okW, Qd, app, Qa, Qc, Qe, Qf, Qg, simprocAttr, Zb, il, e9]
end Go.Am

namespace Go.Am
open Go.RowKit

def iss (L : List (List Int)) : AV := .list L.length (L.map il)
theorem QkX : ∀ L : List (List Int), isDL (L.map il) = true
  | [] => rfl
  | l :: L => by simp [isDL, QW, QkX L]
theorem Qeh (L : List (List Int)) : isD (iss L) = true := by simp [iss, isD, QkX]
theorem QhC {L : List (List Int)} {k : Nat} (h : k < L.length) : (L.map il).drop k = il (L.getD k []) :: (L.map il).drop (k + 1) := by
  rw [List.drop_eq_getElem_cons (by simpa using h)]
  simp [List.getD_eq_getElem?_getD, List.getElem?_eq_getElem h]
theorem QnQ {a b : List (List Int)} (h : a.length = b.length) (h2 : ∀ j, j < a.length → a.getD j [] = b.getD j []) : a = b := by
  apply List.ext_getElem h
  intro i h1 h3
  have := h2 i h1
  simpa [List.getD_eq_getElem?_getD, List.getElem?_eq_getElem h1, List.getElem?_eq_getElem h3] using this
def QrN (L : List (List Int)) : Prop := L.length ≤ 1000000 ∧ ∀ j, (L.getD j []).length ≤ 1000000
def Qst (P : Prg) (f : Nat) : Prop := ∀ a b : List (List Int), QrN a → QrN b → VC P f [iss a, iss b] (.bool (decide (a = b)))
theorem Qd8 {P : Prg} {f fS : Nat} (bd : Qo P f 27 [.tmp 4] (QK fS)) (hS : Qsv P fS) : Qst P f := by
  intro a b ⟨ha, ha2⟩ ⟨hb, hb2⟩
  refine VC.of_acall (by simp [isDL, isD, Qeh]) rfl (ACall.of_body bd (by simp) ?_)
  have la' : (a.map il).length = a.length := by simp
  have lb' : (b.map il).length = b.length := by simp
  by_cases hn : a.length = b.length
  · simp (maxSteps := 4000000) (disch := omega) only [rr, aop, cV, cV1, AV.one, Qb, okW, Qd, app, Qa, Qc, Qe, Qf, Qg, simprocAttr, QK, iss, hn]
    refine QQ.by (ι := Nat) (fun k => ⟨[(5, .int .i64 k), (1, .list b.length (b.map il)), (0, .list b.length (a.map il))], []⟩) (fun k => k ≤ b.length ∧ ∀ j, j < k → a.getD j [] = b.getD j []) (fun k => b.length - k) 0 (Le.slots (by simp [Am.look, iss])) ⟨by omega, by simp⟩ ?_
    intro k ⟨hk, hg⟩
    by_cases hlt : k < b.length
    · have e1 := QhC (L := a) (k := k) (by omega)
      have e2 := QhC (L := b) (k := k) hlt
      have hS' := hS (a.getD k []) (b.getD k []) (ha2 k) (hb2 k)
      simp (maxSteps := 4000000) (disch := omega) only [rr, aop, cV, cV1, AV.one, Qb, okW, Qd, app, Qa, Qc, Qe, Qf, Qg, simprocAttr, e1, e2]
      refine QC.vc hS' ?_
      by_cases he : a.getD k [] = b.getD k []
      · have e8 : decide (a.getD k [] = b.getD k []) = true := by simp only [he, decide_true]
        simp (maxSteps := 4000000) (disch := omega) only [rr, aop, cV, cV1, AV.one, Qb, okW, Qd, app, Qa, Qc, Qe, Qf, Qg, simprocAttr, e8, Bool.not_true]
        exact ⟨k + 1, ⟨by omega, fun j hj => by
          by_cases e : j = k
          · rw [e]; exact he
          · exact hg j (by omega)⟩, by omega, Le.slots (by simp [Am.look])⟩
      · have e8 : decide (a.getD k [] = b.getD k []) = false := decide_eq_false he
        have e9 : decide (a = b) = false := decide_eq_false (fun h => he (by rw [h]))
        simp (maxSteps := 4000000) (disch := omega) only [rr, aop, cV, cV1, AV.one, Qb, okW, Qd, app, Qa, Qc, Qe, Qf, Qg, simprocAttr, e8, e9, Bool.not_false]
    · have e9 : decide (a = b) = true := decide_eq_true (QnQ hn fun j hj => hg j (by omega))
      simp (maxSteps := 4000000) (disch := omega) only [rr, aop, cV, cV1, AV.one, Qb, okW, Qd, app, Qa, Qc, Qe, Qf, Qg, simprocAttr, e9]
  · have e9 : decide (a = b) = false := decide_eq_false (fun h => hn (by rw [h]))
    simp (maxSteps := 4000000) (disch := omega) only [rr, aop, cV, cV1, AV.one, Qb, okW, Qd, app, Qa, Qc, Qe, Qf, Qg, simprocAttr, QK, iss, e9]
end Go.Am

namespace Go.Am
open Go.RowKit

/-! ### le.Bytes -/

def leB (n : Nat) : Nat → List UInt8
  | 0 => []
  | k + 1 => UInt8.ofNat (n % 256) :: leB (n / 256) k

theorem QD : ∀ (k n : Nat), (leB n k).length = k
  | 0, _ => rfl
  | k + 1, n => by simp [leB, QD k]

theorem Qi8 : ∀ (k n i : Nat) (h : i < k), (leB n k)[i]? = some (UInt8.ofNat (n / 256 ^ i % 256))
  | k + 1, n, 0, _ => by simp [leB]
  | k + 1, n, i + 1, h => by
    simp only [leB, List.getElem?_cons_succ]
    rw [Qi8 k (n / 256) i (by omega), Nat.div_div_eq_div_mul, Nat.pow_succ, Nat.mul_comm]

theorem Qb5 {n k i : Nat} (h : i < k) : (leB n k).take (i + 1) = (leB n k).take i ++ [UInt8.ofNat (n / 256 ^ i % 256)] := by
  rw [List.take_add_one, Qi8 k n i h]
  rfl

theorem Qt5 {K : IntKind} {n k : Nat} (hk : k ≤ K.bits) : Qp false K (n : Int) (k : Int) = some (.int K ((n / 2 ^ k : Nat) : Int)) := by
  have h3 : ¬ ((k : Int) < 0) := by omega
  have h5 : min k K.bits = k := by omega
  have h6 : (n : Int).fdiv (2 ^ k) = ((n / 2 ^ k : Nat) : Int) := by
    rw [Int.fdiv_eq_ediv_of_nonneg _ (Int.pow_nonneg (by decide))]
    simp [Int.natCast_ediv, Int.natCast_pow]
  simp only [Qp, if_neg h3, Bool.false_eq_true, if_false, Int.toNat_natCast, h5, h6]

def Qpk (P : Prg) (f : Nat) : Prop := ∀ n w : Nat, 1 ≤ w → w ≤ 8 → VC P f [.int .u64 n, .int .i64 w] (.bool (decide (w = 8) || decide (n / 2 ^ (8 * w) = 0)))
theorem QrU {P : Prg} {f : Nat} (b : Qo P f 14 [.tmp 4] J0) : Qpk P f := by
  intro n w h1 h2
  refine VC.of_acall rfl rfl (ACall.of_body b (by simp) ?_)
  by_cases h8 : w = 8
  · subst h8
    simp (maxSteps := 4000000) (disch := omega) only [rr, aop, cV, cV1, AV.one, Qb, okW, Qd, app, Qa, Qc, Qe, Qf, Qg, simprocAttr, J0]
  · have e1 : (decide (w = 8)) = false := by simpa using h8
    have e2 : Qp false .u64 (n : Int) (8 * (w : Int)) = some (.int .u64 ((n / 2 ^ (8 * w) : Nat) : Int)) := by
      have := Qt5 (K := .u64) (n := n) (k := 8 * w) (by simp [IntKind.bits]; omega)
      rwa [Int.natCast_mul] at this
    have e3 : (((n / 2 ^ (8 * w) : Nat) : Int) == 0) = decide (n / 2 ^ (8 * w) = 0) := by rw [Bool.eq_iff_iff]; simp only [beq_iff_eq, decide_eq_true_eq]; omega
    have e4 : ((w : Int) = 8) = False := eq_false (by omega)
    by_cases h9 : n / 2 ^ (8 * w) = 0
    · have e5 : (decide (n / 2 ^ (8 * w) = 0)) = true := by simpa using h9
      have e6 : (((n / 2 ^ (8 * w) : Nat) : Int) = 0) = True := eq_true (by omega)
      rw [e5]
      simp (maxSteps := 4000000) (disch := omega) only [rr, aop, cV, cV1, AV.one, Qb, okW, Qd, app, Qa, Qc, Qe, Qf, Qg, simprocAttr, J0, e1, e2, e4, e6]
    · have e5 : (decide (n / 2 ^ (8 * w) = 0)) = false := by simpa using h9
      have e6 : (((n / 2 ^ (8 * w) : Nat) : Int) = 0) = False := eq_false (by omega)
      rw [e5]
      simp (maxSteps := 4000000) (disch := omega) only [rr, aop, cV, cV1, AV.one, Qb, okW, Qd, app, Qa, Qc, Qe, Qf, Qg, simprocAttr, J0, e1, e2, e4, e6]

def Qeu (P : Prg) (f : Nat) : Prop := ∀ n w : Nat, 1 ≤ w → w ≤ 8 → n < 256 ^ w → VC P f [.int .u64 n, .int .i64 w] (.tup [bs (leB n w), .int .i64 0])

theorem Qqy {t n : Nat} {l : List UInt8} (h : n = l.length) {e : Int} : QH (fun _ => true) [⟨t, 1, n, u8 l, 0⟩] 2 [.tup [.own 0 n, .int .i64 e]] = some [.tup [bs l, .int .i64 e]] := by
  subst h
  simp only [QH, Qy, frzL, Qx, Bool.false_eq_true, if_false, List.getElem?_cons_zero, and_self, if_true, frzL_T _ (ZR l), Option.map_some, bs]

theorem Qql {P : Prg} {f fF t0 : Nat} (b : Qo P f 35 [.tmp 4, .tmp 5] (Qao fF t0)) (hF : Qpk P fF) : Qeu P f := by
  intro n w h1 h2 hn
  refine VC.of_walk 1 (by simp [isDL, isD]) (by simp [isD, isDL, Z5]) (ACall.of_body b (by simp) ?_)
  have hn8 : n < 18446744073709551616 := Nat.lt_of_lt_of_le hn (Nat.le_trans (Nat.pow_le_pow_right (by omega) h2) (by decide))
  simp (maxSteps := 4000000) (disch := omega) only [rr, aop, cV, cV1, AV.one, Qb, okW, Qd, app, Qa, Qc, Qe, Qf, Qg, simprocAttr, Qao]
  refine Qh.vc (hF n w h1 h2) ?_
  have e0 : (decide (w = 8) || decide (n / 2 ^ (8 * w) = 0)) = true := by
    have : n / 2 ^ (8 * w) = 0 := Nat.div_eq_of_lt (by rw [Nat.pow_mul]; exact hn)
    simp [this]
  rw [e0]
  have r0 : Qm [.int .u8 0] w = u8 ([] : List UInt8) ++ List.replicate w (.int .u8 0) := by
    have : ∀ k, Qm [AV.int .u8 0] k = List.replicate k (.int .u8 0) := fun k => by
      induction k with
      | zero => rfl
      | succ k ih => simp [Qm, ih, List.replicate_succ]
    rw [this]; rfl
  simp (maxSteps := 4000000) (disch := omega) only [rr, aop, cV, cV1, AV.one, Qb, okW, Qd, app, Qa, Qc, Qe, Qf, Qg, simprocAttr, Qao]
  rw [r0]
  refine QQ.by (ι := Nat) (fun k => ⟨[(22, .int .i64 k), (21, .int .i64 w), (6, .own 0 w), (0, .int .u64 n)], [⟨t0, 1, w, u8 ((leB n w).take k) ++ List.replicate (w - k) (.int .u8 0), 0⟩]⟩) (fun k => k ≤ w) (fun k => w - k) 0 (Le.slots (by simp [Am.look])) (by omega) ?_
  intro k hk
  by_cases hlt : k < w
  · have e2 : Qp false .u64 (n : Int) (8 * (k : Int)) = some (.int .u64 ((n / 256 ^ k : Nat) : Int)) := by
      have := Qt5 (K := .u64) (n := n) (k := 8 * k) (by simp [IntKind.bits]; omega)
      rwa [Int.natCast_mul, Nat.pow_mul] at this
    have e3 : IntKind.u8.wrap ((n / 256 ^ k : Nat) : Int) = ((UInt8.ofNat (n / 256 ^ k % 256)).toNat : Int) := by
      simp [IntKind.wrap, IntKind.signed, IntKind.bits]
    have hl : (u8 ((leB n w).take k)).length = k := by simp [Q6, QD]; omega
    have e4 : (u8 ((leB n w).take k) ++ List.replicate (w - k) (AV.int .u8 0)).take k = u8 ((leB n w).take k) := by rw [List.take_left' hl]
    have e5 : (u8 ((leB n w).take k) ++ List.replicate (w - k) (AV.int .u8 0)).drop (k + 1) = List.replicate (w - (k + 1)) (.int .u8 0) := by
      rw [List.drop_append, List.drop_of_length_le (by omega), hl]
      simp
      omega
    have e6 : u8 ((leB n w).take k) ++ [AV.int .u8 ((UInt8.ofNat (n / 256 ^ k % 256)).toNat : Int)] = u8 ((leB n w).take (k + 1)) := by
      rw [Qb5 hlt, ← Qd1]; rfl
    simp (maxSteps := 4000000) (disch := omega) only [rr, aop, cV, cV1, AV.one, Qb, okW, Qd, app, Qa, Qc, Qe, Qf, Qg, simprocAttr, e2, e3, hl, e4, e5, e6]
    refine ⟨k + 1, by omega, by omega, ?_⟩
    refine Le.slots ?_
    simp [Am.look]
  · have ek : k = w := by omega
    subst ek
    have e7 : (leB n k).take k = leB n k := List.take_of_length_le (by rw [QD]; exact Nat.le_refl _)
    have e8 : u8 (leB n k) ++ List.replicate (k - k) (AV.int .u8 0) = u8 (leB n k) := by simp
    simp (maxSteps := 4000000) (disch := omega) only [rr, aop, cV, cV1, AV.one, Qb, okW, Qd, app, Qa, Qc, Qe, Qf, Qg, simprocAttr, e7]
    rw [e8, Qqy (QD k n).symm]

end Go.Am

namespace Go.Am
open Go.RowKit

/-! ### The chunk that tells the form: without a program -/

def QsJ (c b r : Int) : Prop := 1 ≤ c ∧ c ≤ 6 ∧ QaA b ≠ 0 ∧ 1 ≤ r ∧ r ≤ 1048576
instance (c b r : Int) : Decidable (QsJ c b r) := by unfold QsJ; exact inferInstance
/-! ### Check, Wide -/

end Go.Am

namespace Go.Am
open Go.RowKit

/-! ### Numbers: bit by bit -/

theorem Qbe {w n : Nat} (h : n < 2 ^ w) : BitVec.ofInt w (n : Int) = BitVec.ofNat w n := by
  apply BitVec.eq_of_toNat_eq
  rw [BitVec.toNat_ofInt, BitVec.toNat_ofNat]
  omega

theorem Qdu {K : IntKind} (hs : K.signed = false) {n : Nat} (h : n < 2 ^ K.bits) : K.wrap (n : Int) = n := by
  have h1 : (n : Int) % 2 ^ K.bits = n := by
    rw [Int.emod_eq_of_lt (by omega)]
    exact_mod_cast h
  unfold IntKind.wrap
  simp [hs, h1]

theorem Qpw {K : IntKind} (hs : K.signed = false) {a b : Nat} (ha : a < 2 ^ K.bits) (hb : b < 2 ^ K.bits) : K.wrap (BitVec.ofInt K.bits (a : Int) ^^^ BitVec.ofInt K.bits (b : Int)).toNat = ((a ^^^ b : Nat) : Int) := by
  rw [Qbe ha, Qbe hb, BitVec.toNat_xor, BitVec.toNat_ofNat, BitVec.toNat_ofNat, Nat.mod_eq_of_lt ha, Nat.mod_eq_of_lt hb]
  exact Qdu hs (Nat.xor_lt_two_pow ha hb)
theorem Qtz {K : IntKind} (hs : K.signed = false) {a b : Nat} (ha : a < 2 ^ K.bits) (hb : b < 2 ^ K.bits) : K.wrap (BitVec.ofInt K.bits (a : Int) &&& BitVec.ofInt K.bits (b : Int)).toNat = ((a &&& b : Nat) : Int) := by
  rw [Qbe ha, Qbe hb, BitVec.toNat_and, BitVec.toNat_ofNat, BitVec.toNat_ofNat, Nat.mod_eq_of_lt ha, Nat.mod_eq_of_lt hb]
  exact Qdu hs (Nat.and_lt_two_pow _ hb)
theorem orK {K : IntKind} (hs : K.signed = false) {a b : Nat} (ha : a < 2 ^ K.bits) (hb : b < 2 ^ K.bits) : K.wrap (BitVec.ofInt K.bits (a : Int) ||| BitVec.ofInt K.bits (b : Int)).toNat = ((a ||| b : Nat) : Int) := by
  rw [Qbe ha, Qbe hb, BitVec.toNat_or, BitVec.toNat_ofNat, BitVec.toNat_ofNat, Nat.mod_eq_of_lt ha, Nat.mod_eq_of_lt hb]
  exact Qdu hs (Nat.or_lt_two_pow ha hb)

theorem QgO {K : IntKind} {n k : Nat} (hk : k ≤ K.bits) : Qp false K (n : Int) (k : Int) = some (.int K ((n / 2 ^ k : Nat) : Int)) := by
  have h3 : ¬ ((k : Int) < 0) := by omega
  have h5 : min k K.bits = k := by omega
  have h6 : (n : Int).fdiv (2 ^ k) = ((n / 2 ^ k : Nat) : Int) := by
    rw [Int.fdiv_eq_ediv_of_nonneg _ (Int.pow_nonneg (by decide))]
    simp [Int.natCast_ediv, Int.natCast_pow]
  simp only [Qp, if_neg h3, Bool.false_eq_true, if_false, Int.toNat_natCast, h5, h6]

theorem QmG {K : IntKind} (hs : K.signed = false) {c s : Nat} (h : s ≤ K.bits) (h2 : c * 2 ^ s < 2 ^ K.bits) : Qp true K (c : Int) (s : Int) = some (.int K ((c * 2 ^ s : Nat) : Int)) := by
  have h3 : ¬ ((s : Int) < 0) := by omega
  have h5 : min s K.bits = s := by omega
  have h6 : (c : Int) * 2 ^ s = ((c * 2 ^ s : Nat) : Int) := by simp
  simp only [Qp, if_neg h3, if_true, Int.toNat_natCast, h5, h6]
  rw [Qdu hs h2]

end Go.Am

namespace Go.Am
open Go.RowKit

/-! ### CRC-32 (plain) -/

def QqG (c : Nat) : Nat := (c / 2) ^^^ (if c % 2 = 1 then 3988292384 else 0)
def QdG : Nat → Nat → Nat
  | 0, c => c
  | k + 1, c => QdG k (QqG c)

theorem Qsf {c : Nat} (h : c < 4294967296) : QqG c < 4294967296 := by
  unfold QqG
  have : (if c % 2 = 1 then 3988292384 else 0) < 2 ^ 32 := by split <;> decide
  exact Nat.xor_lt_two_pow (n := 32) (by omega) this
theorem Qf9 : ∀ (k : Nat) {c : Nat}, c < 4294967296 → QdG k c < 4294967296
  | 0, _, h => h
  | k + 1, _, h => Qf9 k (Qsf h)
theorem QhV : ∀ (k c : Nat), QdG (k + 1) c = QqG (QdG k c)
  | 0, _ => rfl
  | k + 1, c => by rw [QdG, QhV k, QdG]

theorem QqF (x h : Nat) : QqG (x ^^^ 2 * h) = QqG x ^^^ h := by
  have e1 : (x ^^^ 2 * h) % 2 = x % 2 := by
    have := Nat.xor_mod_two_pow (a := x) (b := 2 * h) (n := 1)
    simpa using this
  have e2 : (x ^^^ 2 * h) / 2 = x / 2 ^^^ h := by rw [Nat.xor_div_two, Nat.mul_div_cancel_left _ (by omega)]
  unfold QqG
  rw [e1, e2, Nat.xor_assoc, Nat.xor_assoc, Nat.xor_comm h]

theorem Qk4 : ∀ (k x h : Nat), QdG k (x ^^^ 2 ^ k * h) = QdG k x ^^^ h
  | 0, x, h => by simp [QdG]
  | k + 1, x, h => by
    rw [QdG, Nat.pow_succ, Nat.mul_comm (2 ^ k) 2, Nat.mul_assoc, QqF, Qk4 k, QdG]

theorem QgT (b k : Nat) : b = b % 2 ^ k ^^^ 2 ^ k * (b / 2 ^ k) := by
  apply Nat.eq_of_testBit_eq
  intro i
  rw [Nat.testBit_xor, Nat.testBit_mod_two_pow, Nat.testBit_two_pow_mul, Nat.testBit_div_two_pow]
  by_cases h : i < k
  · have : ¬ k ≤ i := by omega
    simp [h, this]
  · have h' : k ≤ i := by omega
    simp [h, h', show i - k + k = i by omega]

def Qs7 (s b : Nat) : Nat := QdG 8 (s ^^^ b)
theorem Qmb (s b : Nat) : Qs7 s b = s / 256 ^^^ QdG 8 (s % 256 ^^^ b) := by
  have h : s ^^^ b = (s % 256 ^^^ b) ^^^ 2 ^ 8 * (s / 256) := by
    have := QgT s 8
    rw [show (2 : Nat) ^ 8 = 256 from rfl] at this ⊢
    rw [Nat.xor_assoc, Nat.xor_comm b, ← Nat.xor_assoc, ← this]
  rw [Qs7, h, Qk4, Nat.xor_comm]
theorem Qsg {s b : Nat} (hs : s < 4294967296) (hb : b < 256) : Qs7 s b < 4294967296 := Qf9 8 (Nat.xor_lt_two_pow (n := 32) (by omega) (by omega))

def QmH (s : Nat) (l : List UInt8) : Nat := l.foldl (fun s b => Qs7 s b.toNat) s
theorem QoH {s : Nat} {l : List UInt8} {k : Nat} (h : k < l.length) : QmH s (l.take (k + 1)) = Qs7 (QmH s (l.take k)) (l[k]).toNat := by
  rw [List.take_succ_eq_append_getElem h, QmH, List.foldl_append]; rfl
theorem Qjs : ∀ {l : List UInt8} {s : Nat}, s < 4294967296 → QmH s l < 4294967296
  | [], _, h => h
  | b :: l, s, h => Qjs (l := l) (Qsg h (UInt8.toNat_lt b))

end Go.Am

namespace Go.Am
open Go.RowKit

/-! ### CRC-32 -/

def Qhd (i : Nat) : List Int := (List.range 256).map fun j => if j < i then ((QdG 8 j : Nat) : Int) else 0
theorem ZW (i : Nat) : (Qhd i).length = 256 := by simp [Qhd]
theorem Qdv {i j : Nat} (h : j < 256) : (Qhd i)[j]'(by rw [ZW]; exact h) = if j < i then ((QdG 8 j : Nat) : Int) else 0 := by simp [Qhd]
theorem QpI {i : Nat} (h : i < 256) : (Qhd i).set i ((QdG 8 i : Nat) : Int) = Qhd (i + 1) := by
  refine List.ext_getElem (by simp [ZW]) fun j h1 h2 => ?_
  have hj : j < 256 := by simpa [ZW] using h2
  rw [List.getElem_set, Qdv hj]
  split
  · rename_i e; subst e; rw [Qdv hj, if_pos (by omega)]
  · rename_i e; rw [Qdv hj]
    by_cases h3 : j < i
    · rw [if_pos h3, if_pos (by omega)]
    · rw [if_neg h3, if_neg (by omega)]

def Qj4 (P : Prg) (f : Nat) : Prop := VC P f [] (.cell (ks .u32 (Qhd 256)))
theorem Qc2 {l : List UInt8} {k : Nat} (h : k < l.length) : (u8 l).drop k = .int .u8 (l[k]).toNat :: u8 (l.drop (k + 1)) := by
  rw [QiK, List.drop_eq_getElem_cons h]; rfl

set_option maxRecDepth 40000 in
theorem Qju {P : Prg} {f t0 : Nat} (bd : Qo P f 24 [.tmp 0] (JN t0)) : Qj4 P f := by
  refine VC.of_walk 1 rfl (by simp [isD, Qoc (Qv _ _)]) (ACall.of_body bd (by simp) ?_)
  unfold JN
  have z0 : ([.int .u32 0, .int .u32 0] : List AV) = [.int .u32 0, .int .u32 0] := rfl
  simp (maxSteps := 4000000) (disch := omega) only [rr, aop, cV, cV1, AV.one, Qb, okW, Qd, app, Qa, Qc, Qe, Qf, Qg, simprocAttr]
  refine QQ.by (ι := Nat) (fun i => ⟨[(5, .int .i64 i), (1, .ref 0 1 0)], [⟨t0, 256, 1, ks .u32 (Qhd i), 0⟩]⟩) (fun i => i ≤ 256) (fun i => 256 - i) 0 (Le.slots (by simp [Am.look])) (by omega) ?_
  intro i hi
  by_cases hlt : i < 256
  · simp (maxSteps := 4000000) (disch := omega) only [rr, aop, cV, cV1, AV.one, Qb, okW, Qd, app, Qa, Qc, Qe, Qf, Qg, simprocAttr]
    refine QQ.by (ι := Nat) (fun j => ⟨[(10, .int .i64 j), (3, .int .u32 (QdG j i)), (5, .int .i64 i), (2, .int .i64 i), (1, .ref 0 1 0)], [⟨t0, 256, 1, ks .u32 (Qhd i), 0⟩]⟩) (fun j => j ≤ 8) (fun j => 8 - j) 0 (Le.slots (by simp [Am.look, QdG])) (by omega) ?_
    intro j hj
    by_cases hjl : j < 8
    · have hc := Qf9 j (c := i) (by omega)
      have hn := QhV j i
      generalize QdG j i = c at *
      have a1 : IntKind.u32.wrap (BitVec.ofInt IntKind.u32.bits (c : Int) &&& BitVec.ofInt IntKind.u32.bits 1).toNat = ((c % 2 : Nat) : Int) := by
        have h := Qtz (K := .u32) rfl (a := c) (b := 1) (by exact hc) (by decide)
        rw [Nat.and_one_is_mod] at h
        exact h
      have a2 : Qp false .u32 (c : Int) 1 = some (.int .u32 ((c / 2 : Nat) : Int)) := QgO (K := .u32) (n := c) (k := 1) (by decide)
      rcases Nat.mod_two_eq_zero_or_one c with h2 | h2
      · have a3 : IntKind.u32.wrap (BitVec.ofInt IntKind.u32.bits ((c / 2 : Nat) : Int) ^^^ BitVec.ofInt IntKind.u32.bits 0).toNat = ((QdG (j + 1) i : Nat) : Int) := by
          rw [hn, QqG, h2, if_neg (by decide)]
          exact Qpw (K := .u32) rfl (a := c / 2) (b := 0) (by show c / 2 < 4294967296; omega) (by decide)
        have a1' : IntKind.u32.wrap (BitVec.ofInt IntKind.u32.bits (c : Int) &&& BitVec.ofInt IntKind.u32.bits 1).toNat = 0 := by rw [a1, h2]; rfl
        simp (maxSteps := 4000000) (disch := omega) only [rr, aop, cV, cV1, AV.one, Qb, okW, Qd, app, Qa, Qc, Qe, Qf, Qg, simprocAttr, a1', a2, a3]
        exact ⟨j + 1, by omega, by omega, Le.slots (by simp [Am.look])⟩
      · have a3 : IntKind.u32.wrap (BitVec.ofInt IntKind.u32.bits ((c / 2 : Nat) : Int) ^^^ BitVec.ofInt IntKind.u32.bits 3988292384).toNat = ((QdG (j + 1) i : Nat) : Int) := by
          rw [hn, QqG, h2, if_pos rfl]
          exact Qpw (K := .u32) rfl (a := c / 2) (b := 3988292384) (by show c / 2 < 4294967296; omega) (by decide)
        have a1' : IntKind.u32.wrap (BitVec.ofInt IntKind.u32.bits (c : Int) &&& BitVec.ofInt IntKind.u32.bits 1).toNat = 1 := by rw [a1, h2]; rfl
        simp (maxSteps := 4000000) (disch := omega) only [rr, aop, cV, cV1, AV.one, Qb, okW, Qd, app, Qa, Qc, Qe, Qf, Qg, simprocAttr, a1', a2, a3]
        exact ⟨j + 1, by omega, by omega, Le.slots (by simp [Am.look])⟩
    · obtain rfl : j = 8 := by omega
      have e1 := ZW i
      have e2 := Ql .u32 (Qhd i)
      have e3 : (ks .u32 (Qhd i)).take i ++ [.int .u32 (QdG 8 i)] ++ (ks .u32 (Qhd i)).drop (i + 1) = ks .u32 (Qhd (i + 1)) := by
        rw [← QpI hlt, List.set_eq_take_append_cons_drop, if_pos (by rw [ZW]; exact hlt)]; simp [ks, List.map_take, List.map_drop]
      simp (maxSteps := 4000000) (disch := omega) only [rr, aop, cV, cV1, AV.one, Qb, okW, Qd, app, Qa, Qc, Qe, Qf, Qg, simprocAttr, e1, e2, e3]
      exact ⟨i + 1, by omega, by omega, Le.slots (by simp [Am.look])⟩
  · obtain rfl : i = 256 := by omega
    simp (maxSteps := 4000000) (disch := omega) only [rr, aop, cV, cV1, AV.one, Qb, okW, Qd, app, Qa, Qc, Qe, Qf, Qg, simprocAttr]
    simp [QH, Qy, frzL, Qx, frzL_T _ (Qv _ _)]

def Qkh (P : Prg) (f : Nat) : Prop := ∀ (s : Nat) (l : List UInt8), s < 4294967296 → VC P f [.int .u32 s, bs l] (if 100000 < l.length then .tup [.int .u32 0, .int .i64 4] else .tup [.int .u32 (QmH s l), .int .i64 0])
set_option maxRecDepth 40000 in
theorem Qmd {P : Prg} {f fT : Nat} (bd : Qo P f 32 [.tmp 4, .tmp 5] (X3 fT)) (hT : Qj4 P fT) : Qkh P f := by
  intro s l hs
  refine VC.of_acall (by simp [isDL, isD, Z5]) (by split <;> rfl) (ACall.of_body bd (by simp) ?_)
  by_cases hl : 100000 < l.length
  · rw [if_pos hl]
    simp (maxSteps := 4000000) (disch := omega) only [rr, aop, cV, cV1, AV.one, Qb, okW, Qd, app, Qa, Qc, Qe, Qf, Qg, simprocAttr, X3, bs]
  · rw [if_neg hl]
    have hT' := hT
    have t0 := Ql .u32 (Qhd 256)
    rw [ZW] at t0
    simp (maxSteps := 4000000) (disch := omega) only [rr, aop, cV, cV1, AV.one, Qb, okW, Qd, app, Qa, Qc, Qe, Qf, Qg, simprocAttr, X3, bs]
    refine Qh.vc hT' ?_
    simp (maxSteps := 4000000) (disch := omega) only [rr, aop, cV, cV1, AV.one, Qb, okW, Qd, app, Qa, Qc, Qe, Qf, Qg, simprocAttr]
    refine QQ.by (ι := Nat) (fun k => ⟨[(15, .int .i64 k), (14, .int .i64 l.length), (13, .list l.length (u8 l)), (6, .cell (ks .u32 (Qhd 256))), (0, .int .u32 (QmH s (l.take k)))], []⟩) (fun k => k ≤ l.length) (fun k => l.length - k) 0 (Le.slots (by simp [Am.look, QmH])) (by omega) ?_
    intro k hk
    have hc := Qjs (l := l.take k) hs
    by_cases hlt : k < l.length
    · have e1 := Qc2 hlt
      have hn := QoH (s := s) hlt
      generalize QmH s (l.take k) = c at *
      rw [Qmb] at hn
      have hb := (l[k]).toNat_lt
      have h0 : (c % 256 ^^^ (l[k]).toNat) < 256 := Nat.xor_lt_two_pow (n := 8) (Nat.mod_lt _ (by decide)) hb
      have h1 := Qf9 8 (c := c % 256 ^^^ (l[k]).toNat) (by omega)
      have a1 : Qp false .u32 (c : Int) 8 = some (.int .u32 ((c / 256 : Nat) : Int)) := QgO (K := .u32) (n := c) (k := 8) (by decide)
      have a2 : IntKind.u8.wrap (c : Int) = ((c % 256 : Nat) : Int) := by rw [Qbt]; omega
      have a3 : IntKind.u8.wrap (BitVec.ofInt IntKind.u8.bits ((c % 256 : Nat) : Int) ^^^ BitVec.ofInt IntKind.u8.bits ((l[k]).toNat : Int)).toNat = ((c % 256 ^^^ (l[k]).toNat : Nat) : Int) :=
        Qpw (K := .u8) rfl (a := c % 256) (b := (l[k]).toNat) (Nat.mod_lt _ (by decide)) hb
      have a4 : IntKind.u32.wrap (BitVec.ofInt IntKind.u32.bits ((c / 256 : Nat) : Int) ^^^ BitVec.ofInt IntKind.u32.bits ((QdG 8 (c % 256 ^^^ (l[k]).toNat) : Nat) : Int)).toNat = ((QmH s (l.take (k + 1)) : Nat) : Int) := by
        rw [hn]; exact Qpw (K := .u32) rfl (by show c / 256 < 4294967296; omega) h1
      generalize c % 256 ^^^ (l[k]).toNat = x at *
      have e2 : (ks .u32 (Qhd 256)).drop x = .int .u32 ((QdG 8 x : Nat) : Int) :: ks .u32 ((Qhd 256).drop (x + 1)) := by
        rw [Qag, List.drop_eq_getElem_cons (by rw [ZW]; exact h0), Qby, Qdv h0, if_pos h0]
      simp (maxSteps := 4000000) (disch := omega) only [rr, aop, cV, cV1, AV.one, Qb, okW, Qd, app, Qa, Qc, Qe, Qf, Qg, simprocAttr, e1, a1, a2, a3, a4, e2, t0]
      exact ⟨k + 1, by omega, by omega, Le.slots (by simp [Am.look])⟩
    · have ek : k = l.length := by omega
      subst ek
      rw [List.take_length]
      simp (maxSteps := 4000000) (disch := omega) only [rr, aop, cV, cV1, AV.one, Qb, okW, Qd, app, Qa, Qc, Qe, Qf, Qg, simprocAttr]

def Qlj (P : Prg) (f : Nat) : Prop := ∀ (l : List UInt8), VC P f [bs l] (if 100000 < l.length then .tup [.int .u32 0, .int .i64 4] else .tup [.int .u32 ((4294967295 - QmH 4294967295 l : Nat) : Int), .int .i64 0])

theorem Qri {c : Nat} (h : c < 4294967296) : 4294967295 ^^^ c = 4294967295 - c := by
  have h1 : BitVec.allOnes 32 ^^^ BitVec.ofNat 32 c = ~~~ BitVec.ofNat 32 c := by
    apply BitVec.eq_of_getElem_eq
    intro i hi
    rw [BitVec.getElem_xor, BitVec.getElem_allOnes, BitVec.getElem_not, Bool.true_xor]
  have h2 := congrArg BitVec.toNat h1
  rw [BitVec.toNat_xor, BitVec.toNat_not, BitVec.toNat_allOnes, BitVec.toNat_ofNat, Nat.mod_eq_of_lt h] at h2
  exact h2

theorem QoJ {P : Prg} {f fN : Nat} (bd : Qo P f 16 [.tmp 2, .tmp 3] (JA fN)) (hN : Qkh P fN) : Qlj P f := by
  intro l
  refine VC.of_acall (by simp [isDL, isD, Z5]) (by split <;> rfl) (ACall.of_body bd (by simp) ?_)
  have hN' := hN 4294967295 l (by decide)
  have hc := Qjs (l := l) (s := 4294967295) (by decide)
  generalize QmH 4294967295 l = c at *
  simp only [bs] at hN'
  by_cases hl : 100000 < l.length
  · rw [if_pos hl] at hN' ⊢
    simp (maxSteps := 4000000) (disch := omega) only [rr, aop, cV, cV1, AV.one, Qb, okW, Qd, app, Qa, Qc, Qe, Qf, Qg, simprocAttr, JA, bs]
    refine Qh.vc hN' ?_
    simp (maxSteps := 4000000) (disch := omega) only [rr, aop, cV, cV1, AV.one, Qb, okW, Qd, app, Qa, Qc, Qe, Qf, Qg, simprocAttr]
  · rw [if_neg hl] at hN' ⊢
    have a1 : IntKind.u32.wrap (BitVec.ofInt IntKind.u32.bits IntKind.u32.max ^^^ BitVec.ofInt IntKind.u32.bits (c : Int)).toNat = ((4294967295 - c : Nat) : Int) := by
      rw [← Qri hc]
      exact Qpw (K := .u32) rfl (a := 4294967295) (b := c) (by decide) hc
    have a2 : IntKind.u32.signed = false := rfl
    simp (maxSteps := 4000000) (disch := omega) only [rr, aop, cV, cV1, AV.one, Qb, okW, Qd, app, Qa, Qc, Qe, Qf, Qg, simprocAttr, JA, bs]
    refine Qh.vc hN' ?_
    simp (maxSteps := 4000000) (disch := omega) only [rr, aop, cV, cV1, AV.one, Qb, okW, Qd, app, Qa, Qc, Qe, Qf, Qg, simprocAttr, a1, a2]

/-! ### Its reference -/

end Go.Am

namespace Go.Am
open Go.RowKit

/-! ### Read is what was written: without a program -/

theorem Qn7 : ∀ l : List UInt8, leB (leN l) l.length = l
  | [] => rfl
  | b :: l => by
    have h1 := b.toNat_lt
    have e1 : (b.toNat + 256 * leN l) % 256 = b.toNat := by omega
    have e2 : (b.toNat + 256 * leN l) / 256 = leN l := by omega
    simp only [leN, List.length_cons, leB, e1, e2, Qn7 l]
    simp

end Go.Am

namespace Go.Am
open Go.RowKit

/-! ### Bits as a Qc5: N bits, whose Qc5 is V; their bytes are leB V (nB N) -/

def nB (N : Nat) : Nat := (N + 7) / 8

theorem Qqo (V i : Nat) : leB V (i + 1) = leB V i ++ [UInt8.ofNat (V / 256 ^ i % 256)] := by
  have h1 : (leB V (i + 1)).take (i + 1) = (leB V (i + 1)).take i ++ [UInt8.ofNat (V / 256 ^ i % 256)] := Qb5 (by omega)
  have h2 : ∀ k j n : Nat, k ≤ j → (leB n j).take k = leB n k := by
    intro k
    induction k with
    | zero => intro j n _; simp [leB]
    | succ k ih =>
      intro j n h
      obtain ⟨j, rfl⟩ : ∃ j', j = j' + 1 := ⟨j - 1, by omega⟩
      simp [leB, ih j (n / 256) (by omega)]
  rw [h2 (i + 1) (i + 1) V (by omega), h2 i (i + 1) V (by omega)] at h1
  exact h1

theorem Qn6 : ∀ (i V u : Nat), leB (V + 256 ^ i * u) i = leB V i
  | 0, _, _ => rfl
  | i + 1, V, u => by
    have e : 256 ^ (i + 1) * u = 256 * (256 ^ i * u) := by rw [Nat.pow_succ, Nat.mul_comm (256 ^ i) 256, Nat.mul_assoc]
    have e1 : (V + 256 ^ (i + 1) * u) % 256 = V % 256 := by rw [e]; omega
    have e2 : (V + 256 ^ (i + 1) * u) / 256 = V / 256 + 256 ^ i * u := by rw [e]; omega
    simp only [leB, e1, e2, Qn6 i]

theorem QkG (i : Nat) : (256 : Nat) ^ i = 2 ^ (8 * i) := by rw [Nat.pow_mul]

theorem QaT {V i at_ : Nat} (h : V < 2 ^ (8 * i + at_)) (ha : at_ ≤ 8) : leB V (i + 1) = leB V i ++ [UInt8.ofNat (V / 256 ^ i)] ∧ V / 256 ^ i < 2 ^ at_ := by
  have h1 : V / 256 ^ i < 2 ^ at_ := Nat.div_lt_of_lt_mul (by rw [QkG, ← Nat.pow_add]; exact h)
  have h2 : 2 ^ at_ ≤ 2 ^ 8 := Nat.pow_le_pow_right (by omega) ha
  exact ⟨by rw [Qqo, Nat.mod_eq_of_lt (by omega)], h1⟩

theorem Qbr {V i at_ w r : Nat} (h : V < 2 ^ (8 * i + at_)) (hw : w < 2 ^ r) (hr : at_ + r ≤ 8) :
    leB (V + 2 ^ (8 * i + at_) * w) (i + 1) = leB V i ++ [UInt8.ofNat (V / 256 ^ i + 2 ^ at_ * w)] ∧ V / 256 ^ i + 2 ^ at_ * w < 2 ^ (at_ + r) ∧ V + 2 ^ (8 * i + at_) * w < 2 ^ (8 * i + (at_ + r)) := by
  obtain ⟨_, h1⟩ := QaT h (by omega)
  have e : 2 ^ (8 * i + at_) * w = 256 ^ i * (2 ^ at_ * w) := by rw [QkG, Nat.pow_add, Nat.mul_assoc]
  have h2 : V / 256 ^ i + 2 ^ at_ * w < 2 ^ (at_ + r) := by
    have : 2 ^ at_ * (w + 1) ≤ 2 ^ at_ * 2 ^ r := Nat.mul_le_mul_left _ hw
    rw [Nat.pow_add]; rw [Nat.mul_add, Nat.mul_one] at this; omega
  have h3 : V + 2 ^ (8 * i + at_) * w < 2 ^ (8 * i + (at_ + r)) := by
    have : 2 ^ (8 * i + at_) * (w + 1) ≤ 2 ^ (8 * i + at_) * 2 ^ r := Nat.mul_le_mul_left _ hw
    rw [← Nat.add_assoc, Nat.pow_add 2 (8 * i + at_)]; rw [Nat.mul_add, Nat.mul_one] at this; omega
  refine ⟨?_, h2, h3⟩
  have h4 := (QaT (V := V + 2 ^ (8 * i + at_) * w) (i := i) (at_ := at_ + r) h3 hr).1
  rw [h4, e, Qn6, Nat.add_mul_div_left _ _ (Nat.pow_pos (by omega))]

theorem Qtg (V q r : Nat) (hr : r < 8) : V / 256 ^ q % 256 / 2 ^ r % 2 = V / 2 ^ (8 * q + r) % 2 := by
  rw [QkG, show (256 : Nat) = 2 ^ r * 2 ^ (8 - r) by rw [← Nat.pow_add, show r + (8 - r) = 8 by omega], Nat.mod_mul_right_div_self, Nat.div_div_eq_div_mul, ← Nat.pow_add]
  rw [Nat.mod_mod_of_dvd]
  exact ⟨2 ^ (8 - r - 1), by rw [← Nat.pow_succ']; congr 1; omega⟩

theorem Qsk {V q r n : Nat} (hr : r + n ≤ 8) : V / 256 ^ q % 256 / 2 ^ r % 2 ^ n = V / 2 ^ (8 * q + r) % 2 ^ n := by
  rw [QkG, show (256 : Nat) = 2 ^ r * 2 ^ (8 - r) by rw [← Nat.pow_add, show r + (8 - r) = 8 by omega], Nat.mod_mul_right_div_self, Nat.div_div_eq_div_mul, ← Nat.pow_add]
  rw [Nat.mod_mod_of_dvd]
  exact ⟨2 ^ (8 - r - n), by rw [← Nat.pow_add]; congr 1; omega⟩

end Go.Am

namespace Go.Am
open Go.RowKit

/-! ### Bits: Check, get, Get -/

def bA (N V : Nat) : AV := .agg [.list (nB N) (u8 (leB V (nB N))), .int .i64 N]
theorem Xk (N V : Nat) : isD (bA N V) = true := by simp [bA, isD, isDL, QcD]

theorem Qgt {n : Nat} (h : n < 9223372036854775808) : IntKind.i64.wrap (BitVec.ofInt IntKind.i64.bits (n : Int) &&& BitVec.ofInt IntKind.i64.bits 7).toNat = ((n % 8 : Nat) : Int) := by
  have e1 : (BitVec.ofInt 64 (n : Int)).toNat = n := by
    rw [BitVec.toNat_ofInt]
    show ((n : Int) % 18446744073709551616).toNat = n
    omega
  have e2 : (BitVec.ofInt 64 7).toNat = 7 := by decide
  have : (BitVec.ofInt 64 (n : Int) &&& BitVec.ofInt 64 7).toNat = n % 8 := by
    rw [BitVec.toNat_and, e1, e2]
    exact Nat.and_two_pow_sub_one_eq_mod n 3
  show IntKind.i64.wrap ((BitVec.ofInt 64 (n : Int) &&& BitVec.ofInt 64 7).toNat : Int) = _
  rw [this, Qa2] <;> omega

theorem QsE {l : List UInt8} {k : Nat} (h : k < l.length) : (u8 l).drop k = .int .u8 (l[k]).toNat :: u8 (l.drop (k + 1)) := by
  rw [QiK, List.drop_eq_getElem_cons h]; rfl

theorem Qn8 {V k i : Nat} (h : i < k) : (u8 (leB V k)).drop i = .int .u8 ((V / 256 ^ i % 256 : Nat) : Int) :: u8 ((leB V k).drop (i + 1)) := by
  rw [QsE (by rw [QD]; exact h)]
  have := Qi8 k V i h
  rw [List.getElem?_eq_getElem (by rw [QD]; exact h)] at this
  rw [Option.some.inj this]
  have : (UInt8.ofNat (V / 256 ^ i % 256)).toNat = V / 256 ^ i % 256 := by simp
  rw [this]

def Xf (P : Prg) (f : Nat) : Prop := ∀ N V : Nat, V < 2 ^ N → N ≤ 330000 → VC P f [bA N V] (.int .i64 0)
theorem Qmr {P : Prg} {f t0 : Nat} (bd : Qo P f 40 [.tmp 2] (X5 t0)) : Xf P f := by
  intro N V hV hN
  refine VC.of_acall (by simp [isDL, Xk]) rfl (ACall.of_body bd (by simp) ?_)
  have e1 : Qp false .i64 ((N : Int) + 7) 3 = some (.int .i64 ((nB N : Nat) : Int)) := by
    rw [show (N : Int) + 7 = ((N + 7 : Nat) : Int) by omega]
    exact QgO (K := .i64) (n := N + 7) (k := 3) (by decide)
  have e2 := Qgt (n := N) (by omega)
  have e3 : (u8 (leB V (nB N))).length = nB N := by simp [u8, QD]
  by_cases h0 : N % 8 = 0
  · rw [h0] at e2
    have e2' : IntKind.i64.wrap (BitVec.ofInt IntKind.i64.bits (N : Int) &&& BitVec.ofInt IntKind.i64.bits 7).toNat = 0 := e2
    simp (maxSteps := 4000000) (disch := omega) only [rr, aop, cV, cV1, AV.one, Qb, okW, Qd, app, Qa, Qc, Qe, Qf, Qg, simprocAttr, X5, bA, e1, e2', e3]
  · have hn : nB N = N / 8 + 1 := by unfold nB; omega
    have h8 : N = 8 * (N / 8) + N % 8 := by omega
    obtain ⟨l1, l2⟩ := QaT (V := V) (i := N / 8) (at_ := N % 8) (by rw [← h8]; exact hV) (by omega)
    have e4 := Qn8 (V := V) (k := nB N) (i := N / 8) (by omega)
    have h256 : V / 256 ^ (N / 8) % 256 = V / 256 ^ (N / 8) := Nat.mod_eq_of_lt (by
      have : 2 ^ (N % 8) ≤ 2 ^ 8 := Nat.pow_le_pow_right (by omega) (by omega)
      omega)
    rw [h256] at e4
    have e5 : Qp false .u8 ((V / 256 ^ (N / 8) : Nat) : Int) ((N % 8 : Nat) : Int) = some (.int .u8 0) := by
      have := QgO (K := .u8) (n := V / 256 ^ (N / 8)) (k := N % 8) (by show N % 8 ≤ 8; omega)
      rw [this, Nat.div_eq_of_lt l2]; rfl
    have e6 : nB N - 1 = N / 8 := by omega
    have hq : ((N % 8 : Nat) : Int) = (N : Int) % 8 := by omega
    generalize V / 256 ^ (N / 8) = y at *
    obtain ⟨a, ha⟩ : ∃ a, a = N % 8 := ⟨_, rfl⟩
    rw [← ha] at e2 e5 hq
    simp (maxSteps := 4000000) (disch := omega) only [rr, aop, cV, cV1, AV.one, Qb, okW, Qd, app, Qa, Qc, Qe, Qf, Qg, simprocAttr, X5, bA, e1, e2, e3, e4, e5, e6]

theorem QrS {t : Nat} (h : t ≤ 8) : Qp true .u8 1 (t : Int) = some (.int .u8 ((2 ^ t % 256 : Nat) : Int)) ∧ IntKind.u8.wrap (((2 ^ t % 256 : Nat) : Int) - 1) = ((2 ^ t - 1 : Nat) : Int) := by
  rcases (by omega : t = 0 ∨ t = 1 ∨ t = 2 ∨ t = 3 ∨ t = 4 ∨ t = 5 ∨ t = 6 ∨ t = 7 ∨ t = 8) with rfl | rfl | rfl | rfl | rfl | rfl | rfl | rfl | rfl <;> exact ⟨rfl, by decide⟩

theorem QpV {c s : Nat} (hs : s ≤ 64) (h : c * 2 ^ s < 18446744073709551616) : Qp true .u64 (c : Int) (s : Int) = some (.int .u64 ((c * 2 ^ s : Nat) : Int)) := Qnq hs h

theorem QkY {X h t : Nat} : X % 2 ^ (h + t) = X % 2 ^ h + X / 2 ^ h % 2 ^ t * 2 ^ h := by
  rw [Nat.pow_add, Nat.mod_mul, Nat.mul_comm]

def Qlf (P : Prg) (f : Nat) : Prop := ∀ N V a n : Nat, V < 2 ^ N → N ≤ 400000 → a + n ≤ N → n ≤ 64 → VC P f [bA N V, .int .i64 a, .int .i64 n] (.int .u64 ((V / 2 ^ a % 2 ^ n : Nat) : Int))
theorem QqM {P : Prg} {f t0 : Nat} (bd : Qo P f 47 [.tmp 6] (QbI t0)) : Qlf P f := by
  intro N V a n hV hN han hn
  refine VC.of_acall (by simp [isDL, Xk, isD]) rfl (ACall.of_body bd (by simp) ?_)
  simp (maxSteps := 4000000) (disch := omega) only [rr, aop, cV, cV1, AV.one, Qb, okW, Qd, app, Qa, Qc, Qe, Qf, Qg, simprocAttr, QbI, bA]
  refine QQ.by (ι := Nat) (fun h => ⟨[(8, .int .i64 h), (7, .int .u64 ((V / 2 ^ a % 2 ^ h : Nat) : Int)), (1, .int .i64 a), (2, .int .i64 n), (3, .ref 0 1 0)], [⟨t0, 2, 1, [.list (nB N) (u8 (leB V (nB N))), .int .i64 N], 0⟩]⟩) (fun h => h ≤ n) (fun h => n - h) 0 (Le.slots (by simp [Am.look, Nat.mod_one])) (by omega) ?_
  intro h hh
  by_cases hlt : h < n
  · obtain ⟨q, hq⟩ : ∃ q, q = (a + h) / 8 := ⟨_, rfl⟩
    obtain ⟨o, ho⟩ : ∃ o, o = (a + h) % 8 := ⟨_, rfl⟩
    obtain ⟨t, ht⟩ : ∃ t, t = min (n - h) (8 - o) := ⟨_, rfl⟩
    have e1 : IntKind.i64.wrap (BitVec.ofInt IntKind.i64.bits ((a : Int) + h) &&& BitVec.ofInt IntKind.i64.bits 7).toNat = (o : Int) := by
      rw [show (a : Int) + h = ((a + h : Nat) : Int) by omega, Qgt (by omega), ho]
    have e2 : Qp false .i64 ((a : Int) + h) 3 = some (.int .i64 (q : Int)) := by
      rw [show (a : Int) + h = ((a + h : Nat) : Int) by omega, hq]
      exact QgO (K := .i64) (n := a + h) (k := 3) (by decide)
    have hqn : q < nB N := by unfold nB; omega
    have e3 := Qn8 (V := V) (k := nB N) (i := q) hqn
    have e4 : (u8 (leB V (nB N))).length = nB N := by simp [u8, QD]
    have hy : V / 256 ^ q % 256 < 256 := Nat.mod_lt _ (by decide)
    have e5 : Qp false .u8 ((V / 256 ^ q % 256 : Nat) : Int) (o : Int) = some (.int .u8 ((V / 256 ^ q % 256 / 2 ^ o : Nat) : Int)) := QgO (K := .u8) (k := o) (by show o ≤ 8; omega)
    obtain ⟨e6, e7⟩ := QrS (t := t) (by omega)
    have hz : V / 256 ^ q % 256 / 2 ^ o < 256 := Nat.lt_of_le_of_lt (Nat.div_le_self _ _) hy
    have h2t : 2 ^ t - 1 < 256 := by
      have : 2 ^ t ≤ 2 ^ 8 := Nat.pow_le_pow_right (by omega) (by omega)
      omega
    have e8 : IntKind.u8.wrap (BitVec.ofInt IntKind.u8.bits ((V / 256 ^ q % 256 / 2 ^ o : Nat) : Int) &&& BitVec.ofInt IntKind.u8.bits ((2 ^ t - 1 : Nat) : Int)).toNat = ((V / 2 ^ a / 2 ^ h % 2 ^ t : Nat) : Int) := by
      rw [Qtz (K := .u8) rfl hz h2t, Nat.and_two_pow_sub_one_eq_mod, Qsk (by omega), show 8 * q + o = a + h by omega, Nat.pow_add, Nat.div_div_eq_div_mul]
    have hc : V / 2 ^ a / 2 ^ h % 2 ^ t < 2 ^ t := Nat.mod_lt _ (Nat.pow_pos (by omega))
    have hmul : V / 2 ^ a / 2 ^ h % 2 ^ t * 2 ^ h < 2 ^ (h + t) := by
      rw [Nat.pow_add, Nat.mul_comm]; exact Nat.mul_lt_mul_of_pos_left hc (Nat.pow_pos (by omega))
    have h64 : 2 ^ (h + t) ≤ 2 ^ 64 := Nat.pow_le_pow_right (by omega) (by omega)
    have hv0 : V / 2 ^ a % 2 ^ h < 2 ^ h := Nat.mod_lt _ (Nat.pow_pos (by omega))
    have h65 : 2 ^ h ≤ 2 ^ 64 := Nat.pow_le_pow_right (by omega) (by omega)
    have e9 := QkY (X := V / 2 ^ a) (h := h) (t := t)
    generalize hcc : V / 2 ^ a / 2 ^ h % 2 ^ t = c at *
    have e10 : Qp true .u64 (c : Int) (h : Int) = some (.int .u64 ((c * 2 ^ h : Nat) : Int)) := QpV (by omega) (by omega)
    have e11 : IntKind.u64.wrap (BitVec.ofInt IntKind.u64.bits ((V / 2 ^ a % 2 ^ h : Nat) : Int) ||| BitVec.ofInt IntKind.u64.bits ((c * 2 ^ h : Nat) : Int)).toNat = ((V / 2 ^ a % 2 ^ (h + t) : Nat) : Int) := by
      rw [Qq1 _ _ (by omega) (by omega), Qhr hv0, e9]
    generalize V / 2 ^ a % 2 ^ h = v0 at *
    generalize V / 256 ^ q % 256 / 2 ^ o = z at *
    generalize V / 256 ^ q % 256 = y at *
    have hc8 : c < 256 := by
      have : 2 ^ t ≤ 2 ^ 8 := Nat.pow_le_pow_right (by omega) (by omega)
      omega
    have e12 : (if (8 : Int) - o < n - h then (8 : Int) - o else n - h) = (t : Int) := by split <;> omega
    simp (maxSteps := 4000000) (disch := omega) only [rr, aop, cV, cV1, AV.one, Qb, okW, Qd, app, Qa, Qc, Qe, Qf, Qg, simprocAttr, e1, e2, e3, e4, e5, e6, e7, e8, e10, e11, e12]
    exact ⟨h + t, by omega, by omega, Le.slots (by simp [Am.look])⟩
  · obtain rfl : h = n := by omega
    simp (maxSteps := 4000000) (disch := omega) only [rr, aop, cV, cV1, AV.one, Qb, okW, Qd, app, Qa, Qc, Qe, Qf, Qg, simprocAttr]

def Qfz (P : Prg) (f : Nat) : Prop := ∀ N V a n : Nat, V < 2 ^ N → N ≤ 330000 → n ≤ 64 → a ≤ 400000 → VC P f [bA N V, .int .i64 a, .int .i64 n] (if N < a + n then .tup [.int .u64 0, .int .i64 24] else .tup [.int .u64 ((V / 2 ^ a % 2 ^ n : Nat) : Int), .int .i64 0])
theorem QqO {P : Prg} {f fC fG t0 : Nat} (bd : Qo P f 34 [.tmp 6, .tmp 7] (Qau fC fG t0)) (hC : Xf P fC) (hG : Qlf P fG) : Qfz P f := by
  intro N V a n hV hN hn ha
  refine VC.of_acall (by simp [isDL, Xk, isD]) (by split <;> rfl) (ACall.of_body bd (by simp) ?_)
  have hC' := hC N V hV hN
  rw [bA] at hC'
  by_cases hlt : N < a + n
  · rw [if_pos hlt]
    simp (maxSteps := 4000000) (disch := omega) only [rr, aop, cV, cV1, AV.one, Qb, okW, Qd, app, Qa, Qc, Qe, Qf, Qg, simprocAttr, Qau, bA]
    refine Qh.vc hC' ?_
    simp (maxSteps := 4000000) (disch := omega) only [rr, aop, cV, cV1, AV.one, Qb, okW, Qd, app, Qa, Qc, Qe, Qf, Qg, simprocAttr]
  · rw [if_neg hlt]
    have hG' := hG N V a n hV (by omega) (by omega) hn
    rw [bA] at hG'
    generalize V / 2 ^ a % 2 ^ n = v at *
    simp (maxSteps := 4000000) (disch := omega) only [rr, aop, cV, cV1, AV.one, Qb, okW, Qd, app, Qa, Qc, Qe, Qf, Qg, simprocAttr, Qau, bA]
    refine Qh.vc hC' ?_
    simp (maxSteps := 4000000) (disch := omega) only [rr, aop, cV, cV1, AV.one, Qb, okW, Qd, app, Qa, Qc, Qe, Qf, Qg, simprocAttr]
    refine Qh.vc hG' ?_
    simp (maxSteps := 4000000) (disch := omega) only [rr, aop, cV, cV1, AV.one, Qb, okW, Qd, app, Qa, Qc, Qe, Qf, Qg, simprocAttr]

theorem Qlr {X n : Nat} : X % 2 ^ (n + 1) = 2 * (X / 2 % 2 ^ n) + X % 2 := by
  rw [Nat.pow_succ, Nat.mul_comm, Nat.mod_mul]; omega

end Go.Am

namespace Go.Am
open Go.RowKit

/-! ### Trailing zeros -/

def dbT : List Nat := [0, 1, 56, 2, 57, 49, 28, 3, 61, 58, 42, 50, 38, 29, 17, 4, 62, 47, 59, 36, 45, 43, 51, 22, 53, 39, 33, 30, 24, 18, 12, 5,
  63, 55, 48, 27, 60, 41, 37, 16, 46, 35, 44, 21, 52, 32, 23, 11, 54, 26, 40, 15, 34, 20, 31, 10, 25, 14, 19, 9, 13, 8, 7, 6]
def dbG : List AV := ks .u8 (dbT.map fun n : Nat => (n : Int))

theorem QtO {i : Nat} (h : i < 64) : 2 ^ i * 285870213051353865 % 18446744073709551616 / 288230376151711744 < 64 ∧ dbT[2 ^ i * 285870213051353865 % 18446744073709551616 / 288230376151711744]? = some i := by
  revert i; decide

theorem Qsq {i m : Nat} (h : 2 ^ i * (2 * m + 1) < 18446744073709551616) : (2 ^ i * (2 * m + 1)) &&& (18446744073709551616 - 2 ^ i * (2 * m + 1)) = 2 ^ i := by
  have hi : i < 64 := by
    rcases Nat.lt_or_ge i 64 with h' | h'
    · exact h'
    · have : 2 ^ 64 ≤ 2 ^ i := Nat.pow_le_pow_right (by omega) h'
      have : 2 ^ i * 1 ≤ 2 ^ i * (2 * m + 1) := Nat.mul_le_mul_left _ (by omega)
      omega
  have hm : 2 * m + 1 < 2 ^ (64 - i) := by
    have e : 2 ^ i * 2 ^ (64 - i) = 18446744073709551616 := by rw [← Nat.pow_add, show i + (64 - i) = 64 by omega]
    rw [← e] at h
    exact Nat.lt_of_mul_lt_mul_left h
  have e : 18446744073709551616 - 2 ^ i * (2 * m + 1) = 2 ^ i * (2 ^ (64 - i) - (2 * m + 1)) := by
    rw [Nat.mul_sub, ← Nat.pow_add, show i + (64 - i) = 64 by omega]
  rw [e]
  apply Nat.eq_of_testBit_eq
  intro j
  rw [Nat.testBit_and, Nat.testBit_two_pow_mul, Nat.testBit_two_pow_mul, Nat.testBit_two_pow]
  by_cases hj : i ≤ j
  · rw [show 2 * m + 1 = 2 * m + 1 from rfl]
    have h0 : 2 * m < 2 ^ (64 - i) := by omega
    rw [Nat.testBit_two_pow_sub_succ h0]
    by_cases hj0 : j = i
    · subst hj0
      simp
      omega
    · obtain ⟨k, hk⟩ : ∃ k, j - i = k + 1 := ⟨j - i - 1, by omega⟩
      have e1 : (2 * m + 1).testBit (k + 1) = m.testBit k := by rw [Nat.testBit_succ]; congr 1; omega
      have e2 : (2 * m).testBit (k + 1) = m.testBit k := by rw [Nat.testBit_succ]; congr 1; omega
      rw [hk, e1, e2]
      have : ¬ i = j := fun e => hj0 e.symm
      simp [this]
      intro _ h1 _ _
      exact h1
  · have : ¬ i = j := by omega
    simp [hj, this]

def Qt1 (P : Prg) (f : Nat) : Prop := ∀ i m : Nat, 2 ^ i * (2 * m + 1) < 18446744073709551616 → VC P f [.int .u64 ((2 ^ i * (2 * m + 1) : Nat) : Int)] (.int .i64 i)
theorem Qsl {P : Prg} {f g0 : Nat} (bd : Qo P f 14 [.tmp 2] (QV g0)) (h0 : P.G.lookup g0 = some dbG) : Qt1 P f := by
  intro i m h
  refine VC.of_acall rfl rfl (ACall.of_body bd (by simp) ?_)
  have ha := Qsq h
  have hp : 0 < 2 ^ i * (2 * m + 1) := Nat.mul_pos (Nat.pow_pos (by omega)) (by omega)
  have hi : i < 64 := by
    rcases Nat.lt_or_ge i 64 with h' | h'
    · exact h'
    · have : 2 ^ 64 ≤ 2 ^ i := Nat.pow_le_pow_right (by omega) h'
      have : 2 ^ i * 1 ≤ 2 ^ i * (2 * m + 1) := Nat.mul_le_mul_left _ (by omega)
      omega
  obtain ⟨d1, d2⟩ := QtO hi
  generalize 2 ^ i * (2 * m + 1) = x at *
  have e1 : IntKind.u64.wrap (0 - (x : Int)) = ((18446744073709551616 - x : Nat) : Int) := by rw [Zg]; omega
  have e2 : IntKind.u64.wrap (BitVec.ofInt IntKind.u64.bits (x : Int) &&& BitVec.ofInt IntKind.u64.bits ((18446744073709551616 - x : Nat) : Int)).toNat = ((2 ^ i : Nat) : Int) := by
    rw [Qj2 _ _ h (by omega), ha]
  have e3 : IntKind.u64.wrap (((2 ^ i : Nat) : Int) * 285870213051353865) = ((2 ^ i * 285870213051353865 % 18446744073709551616 : Nat) : Int) := by
    rw [Zg]; omega
  have e4 : Qp false .u64 ((2 ^ i * 285870213051353865 % 18446744073709551616 : Nat) : Int) 58 = some (.int .u64 ((2 ^ i * 285870213051353865 % 18446744073709551616 / 288230376151711744 : Nat) : Int)) :=
    QgO (K := .u64) (k := 58) (by decide)
  generalize 2 ^ i * 285870213051353865 % 18446744073709551616 / 288230376151711744 = k at *
  generalize 2 ^ i * 285870213051353865 % 18446744073709551616 = y at *
  generalize 2 ^ i = p at *
  have e5 : dbG.drop k = .int .u8 (i : Int) :: dbG.drop (k + 1) := by
    have hl : k < dbT.length := d1
    have : dbT[k] = i := by rw [List.getElem?_eq_getElem hl] at d2; exact Option.some.inj d2
    unfold dbG
    rw [Qag, Qag, List.drop_eq_getElem_cons (by rw [List.length_map]; exact hl), Qby, List.getElem_map, this]
  have e6 : dbG.length = 64 := rfl
  have g0' : QsX P.G g0 = .cell dbG := by simp [QsX, h0]
  simp (maxSteps := 4000000) (disch := omega) only [rr, aop, cV, cV1, AV.one, Qb, okW, Qd, app, Qa, Qc, Qe, Qf, Qg, simprocAttr, QV, e1, e2, e3, e4, e5, e6, g0']

end Go.Am

namespace Go.Am
open Go.RowKit

/-! ### Runs of ones -/

def Qdj : Nat → Nat → Nat
  | 0, _ => 0
  | m + 1, X => if X % 2 = 1 then Qdj m (X / 2) + 1 else 0

theorem Qi1 : ∀ (m X : Nat), Qdj m X ≤ m
  | 0, _ => Nat.le_refl _
  | m + 1, X => by
    unfold Qdj
    have := Qi1 m (X / 2)
    split <;> omega

theorem QkJ : ∀ (m K X : Nat), m < K → ∃ t, 2 ^ K - 1 - X % 2 ^ m = 2 ^ Qdj m X * (2 * t + 1)
  | 0, K, X, h => by
    obtain ⟨k, rfl⟩ : ∃ k, K = k + 1 := ⟨K - 1, by omega⟩
    refine ⟨2 ^ k - 1, ?_⟩
    have : 0 < 2 ^ k := Nat.pow_pos (by omega)
    simp only [Qdj, Nat.pow_zero, Nat.mod_one, Nat.one_mul, Nat.pow_succ]
    omega
  | m + 1, K, X, h => by
    obtain ⟨k, rfl⟩ : ∃ k, K = k + 1 := ⟨K - 1, by omega⟩
    obtain ⟨t, ht⟩ := QkJ m k (X / 2) (by omega)
    have hs := Qlr (X := X) (n := m)
    have hp : 0 < 2 ^ k := Nat.pow_pos (by omega)
    have hy : X / 2 % 2 ^ m < 2 ^ m := Nat.mod_lt _ (Nat.pow_pos (by omega))
    have hm : 2 ^ m ≤ 2 ^ k := Nat.pow_le_pow_right (by omega) (by omega)
    rw [hs]
    unfold Qdj
    split
    · rename_i hx
      refine ⟨t, ?_⟩
      rw [hx, Nat.pow_succ 2 k, Nat.pow_succ 2 (Qdj m (X / 2)), Nat.mul_assoc, Nat.mul_left_comm, ← ht]
      generalize X / 2 % 2 ^ m = y at *
      omega
    · rename_i hx
      refine ⟨2 ^ k - 1 - X / 2 % 2 ^ m, ?_⟩
      rw [show X % 2 = 0 by omega, Nat.pow_succ]
      generalize X / 2 % 2 ^ m = y at *
      simp
      omega

def Qgw (P : Prg) (f : Nat) : Prop := ∀ (N a n : Nat) (cs : List AV), isDL cs = true → a < N → N ≤ 400000 → VC P f [.cell [.list n cs, .int .i64 N], .cell [.int .i64 a]] (.int .i64 (min 48 (N - a) : Nat))
theorem QlA {P : Prg} {f : Nat} (bd : Qo P f 8 [.tmp 2] Jj) : Qgw P f := by
  intro N a n cs hcs ha hN
  refine VC.of_acall (by simp [isDL, isD, hcs]) rfl (ACall.of_body bd (by simp) ?_)
  obtain ⟨m, hm⟩ : ∃ m, m = min 48 (N - a) := ⟨_, rfl⟩
  have e1 : (if (N : Int) - a < 48 then (N : Int) - a else 48) = (m : Int) := by split <;> omega
  rw [← hm]
  simp (maxSteps := 4000000) (disch := omega) only [rr, aop, cV, cV1, AV.one, Qb, okW, Qd, app, Qa, Qc, Qe, Qf, Qg, simprocAttr, Jj, e1]

def QbY (V N a : Nat) : Nat ⊕ (Nat × Nat) :=
  if N ≤ a then .inl 24
  else if Qdj (min 48 (N - a)) (V / 2 ^ a) < min 48 (N - a) then .inr (Qdj (min 48 (N - a)) (V / 2 ^ a), a + Qdj (min 48 (N - a)) (V / 2 ^ a) + 1)
  else if min 48 (N - a) = 48 then .inr (48, a + 48) else .inl 24
def Qm1 : Nat ⊕ (Nat × Nat) → AV
  | .inl e => .tup [.int .i64 0, .int .i64 0, .int .i64 e]
  | .inr (q, n) => .tup [.int .i64 q, .int .i64 n, .int .i64 0]
def Qj3 (P : Prg) (f : Nat) : Prop := ∀ N V a : Nat, V < 2 ^ N → N ≤ 330000 → a ≤ 400000 → VC P f [bA N V, .int .i64 a] (Qm1 (QbY V N a))

theorem QmJ {c : Nat} (h : c < 18446744073709551616) : 18446744073709551615 ^^^ c = 18446744073709551615 - c := by
  have h1 : BitVec.allOnes 64 ^^^ BitVec.ofNat 64 c = ~~~ BitVec.ofNat 64 c := by
    apply BitVec.eq_of_getElem_eq
    intro i hi
    rw [BitVec.getElem_xor, BitVec.getElem_allOnes, BitVec.getElem_not, Bool.true_xor]
  have h2 := congrArg BitVec.toNat h1
  rw [BitVec.toNat_xor, BitVec.toNat_not, BitVec.toNat_allOnes, BitVec.toNat_ofNat, Nat.mod_eq_of_lt h] at h2
  exact h2

theorem QlB {P : Prg} {f fC fT fG fZ t0 t1 : Nat} (bd : Qo P f 53 [.tmp 4, .tmp 5, .tmp 6] (Qak fC fT fG fZ t0 t1)) (hC : Xf P fC) (hT : Qgw P fT) (hG : Qfz P fG) (hZ : Qt1 P fZ) : Qj3 P f := by
  intro N V a hV hN ha
  refine VC.of_acall (by simp [isDL, Xk, isD]) (by cases QbY V N a <;> rfl) (ACall.of_cut 1 bd (by simp) ?_)
  have hC' := hC N V hV hN
  rw [bA] at hC'
  have td : isTL (u8 (leB V (nB N))) = true := ZR _
  simp (maxSteps := 4000000) (disch := omega) only [rr, aop, cV, cV1, AV.one, Qb, okW, Qd, app, Qa, Qc, Qe, Qf, Qg, simprocAttr, Qak, Qf8, bA]
  refine ⟨⟨[(6, .int .i64 0), (5, .int .i64 0), (4, .int .i64 0), (3, .cell [.int .i64 a]), (2, .cell [.list (nB N) (u8 (leB V (nB N))), .int .i64 N])], []⟩, Le.dropT [] (by simp) (by simp [Am.look, Qy, frzL, Qx, frzL_T _ td]), ?_⟩
  simp (maxSteps := 4000000) (disch := omega) only [rr, aop, cV, cV1, AV.one, Qb, okW, Qd, app, Qa, Qc, Qe, Qf, Qg, simprocAttr]
  refine Qh.vc hC' ?_
  simp (maxSteps := 4000000) (disch := omega) only [rr, aop, cV, cV1, AV.one, Qb, okW, Qd, app, Qa, Qc, Qe, Qf, Qg, simprocAttr]
  by_cases hlt : N ≤ a
  · have e0 : QbY V N a = .inl 24 := by simp [QbY, hlt]
    rw [e0, Qm1]
    simp (maxSteps := 4000000) (disch := omega) only [rr, aop, cV, cV1, AV.one, Qb, okW, Qd, app, Qa, Qc, Qe, Qf, Qg, simprocAttr]
  · have hT' := hT N a (nB N) (u8 (leB V (nB N))) (QcD _) (by omega) (by omega)
    obtain ⟨m, hm⟩ : ∃ m, m = min 48 (N - a) := ⟨_, rfl⟩
    have hG' := hG N V a m hV hN (by omega) ha
    rw [if_neg (by omega), bA] at hG'
    obtain ⟨q, hq⟩ : ∃ q, q = Qdj m (V / 2 ^ a) := ⟨_, rfl⟩
    have hqm := Qi1 m (V / 2 ^ a)
    obtain ⟨t, ht⟩ := QkJ m 64 (V / 2 ^ a) (by omega)
    have hv : V / 2 ^ a % 2 ^ m < 2 ^ m := Nat.mod_lt _ (Nat.pow_pos (by omega))
    have h48 : 2 ^ m ≤ 2 ^ 48 := Nat.pow_le_pow_right (by omega) (by omega)
    have hZ' := hZ (Qdj m (V / 2 ^ a)) t (by rw [← ht]; omega)
    rw [← ht] at hZ'
    rw [← hm] at hT'
    have e1 : QbY V N a = if q < m then .inr (q, a + q + 1) else if m = 48 then .inr (48, a + 48) else .inl 24 := by
      rw [QbY, if_neg hlt, ← hm, ← hq]
    rw [e1]
    rw [← hq] at hZ' hqm
    generalize V / 2 ^ a % 2 ^ m = v at *
    have e2 : IntKind.u64.wrap (BitVec.ofInt IntKind.u64.bits IntKind.u64.max ^^^ BitVec.ofInt IntKind.u64.bits (v : Int)).toNat = ((2 ^ 64 - 1 - v : Nat) : Int) := by
      have h1 := QmJ (c := v) (by omega)
      rw [show 2 ^ 64 - 1 - v = 18446744073709551615 - v by omega, ← h1]
      exact Qpw (K := .u64) rfl (a := 18446744073709551615) (b := v) (by decide) (by show v < 18446744073709551616; omega)
    have e3 : IntKind.u64.signed = false := rfl
    generalize 2 ^ 64 - 1 - v = w at *
    simp (maxSteps := 4000000) (disch := omega) only [rr, aop, cV, cV1, AV.one, Qb, okW, Qd, app, Qa, Qc, Qe, Qf, Qg, simprocAttr]
    refine QC.vc hT' ?_
    simp (maxSteps := 4000000) (disch := omega) only [rr, aop, cV, cV1, AV.one, Qb, okW, Qd, app, Qa, Qc, Qe, Qf, Qg, simprocAttr]
    refine QC.vc hG' ?_
    simp (maxSteps := 4000000) (disch := omega) only [rr, aop, cV, cV1, AV.one, Qb, okW, Qd, app, Qa, Qc, Qe, Qf, Qg, simprocAttr, e2, e3]
    refine Qh.vc hZ' ?_
    simp (maxSteps := 4000000) (disch := omega) only [rr, aop, cV, cV1, AV.one, Qb, okW, Qd, app, Qa, Qc, Qe, Qf, Qg, simprocAttr]
    refine Qh.vc hT' ?_
    by_cases hqlt : q < m
    · rw [if_pos hqlt, Qm1]
      have e9 : (1 : Int) + (a + q) = a + q + 1 := by omega
      simp (maxSteps := 4000000) (disch := omega) only [rr, aop, cV, cV1, AV.one, Qb, okW, Qd, app, Qa, Qc, Qe, Qf, Qg, simprocAttr, e9]
    · obtain rfl : q = m := by omega
      rw [if_neg hqlt]
      by_cases h4 : q = 48
      · subst h4
        rw [if_pos rfl, Qm1]
        simp (maxSteps := 4000000) (disch := omega) only [rr, aop, cV, cV1, AV.one, Qb, okW, Qd, app, Qa, Qc, Qe, Qf, Qg, simprocAttr, Int.zero_add]
      · rw [if_neg h4, Qm1]
        simp (maxSteps := 4000000) (disch := omega) only [rr, aop, cV, cV1, AV.one, Qb, okW, Qd, app, Qa, Qc, Qe, Qf, Qg, simprocAttr]

end Go.Am

namespace Go.Am
open Go.RowKit

/-! ### The state of the code with two levels -/

structure Dl where
  k0 : Nat
  k1 : Nat
  s0 : Nat
  s1 : Nat
def dlC (d : Dl) : List AV := [.int .i64 d.k0, .int .i64 d.k1, .int .u64 d.s0, .int .u64 d.s1]
def dlA (d : Dl) : AV := .agg (dlC d)
def okD (d : Dl) : Prop := d.k0 ≤ 24 ∧ d.k1 ≤ 24 ∧ d.s0 ≤ 68719476735 ∧ d.s1 ≤ 68719476735
def Qt : Dl := ⟨10, 10, 16384, 16384⟩
def Qaz (k s n : Nat) : Nat × Nat :=
  if 0 < k ∧ s + n - s / 16 < 2 ^ (k + 4) then (k - 1, s + n - s / 16) else if k < 24 ∧ 2 ^ (k + 5) < s + n - s / 16 then (k + 1, s + n - s / 16) else (k, s + n - s / 16)
def Zz (d : Dl) (v : Nat) : Dl :=
  if v < 2 ^ d.k0 then ⟨(Qaz d.k0 d.s0 v).1, d.k1, (Qaz d.k0 d.s0 v).2, d.s1⟩
  else ⟨(Qaz d.k0 d.s0 v).1, (Qaz d.k1 d.s1 (v - 2 ^ d.k0)).1, (Qaz d.k0 d.s0 v).2, (Qaz d.k1 d.s1 (v - 2 ^ d.k0)).2⟩

theorem Qi0 {k s n : Nat} (hk : k ≤ 24) (hs : s ≤ 68719476735) (hn : n < 4294967296) : (Qaz k s n).1 ≤ 24 ∧ (Qaz k s n).2 ≤ 68719476735 := by
  unfold Qaz
  have ht : s + n - s / 16 ≤ 68719476735 := by omega
  generalize s + n - s / 16 = t at *
  split
  · exact ⟨by simp only; omega, ht⟩
  · split
    · rename_i h; exact ⟨by have := h.1; simp only; omega, ht⟩
    · exact ⟨hk, ht⟩
theorem Qqj {d : Dl} {v : Nat} (h : okD d) (hv : v < 4294967296) : okD (Zz d v) := by
  obtain ⟨h1, h2, h3, h4⟩ := h
  have p0 := Qi0 h1 h3 hv
  have p1 := Qi0 (n := v - 2 ^ d.k0) h2 h4 (Nat.lt_of_le_of_lt (Nat.sub_le _ _) hv)
  unfold Zz
  split
  · exact ⟨p0.1, h2, p0.2, h4⟩
  · exact ⟨p0.1, p1.1, p0.2, p1.2⟩
theorem QpM : okD Qt := by unfold okD Qt; decide
theorem Qjb (d : Dl) : isD (dlA d) = true := rfl

theorem p24 {k : Nat} (h : k ≤ 24) : 2 ^ k ≤ 16777216 ∧ 2 ^ (k + 4) = 16 * 2 ^ k ∧ 2 ^ (k + 5) = 32 * 2 ^ k := by
  have := Nat.pow_le_pow_right (n := 2) (by omega) h
  refine ⟨by simpa using this, ?_, ?_⟩ <;> rw [Nat.pow_add, Nat.mul_comm]

def QcP (P : Prg) (f : Nat) : Prop := VC P f [] (dlA Qt)
theorem Ql8 {P : Prg} {f t0 : Nat} (bd : Qo P f 2 [.cell 0 t0] (Qap t0)) (ht : Zs P t0 = some (some 4)) : QcP P f := by
  refine VC.of_acall rfl rfl (ACall.of_body bd (by simp) ?_)
  simp (maxSteps := 4000000) (disch := omega) only [rr, aop, cV, cV1, AV.one, Qb, okW, Qd, app, Qa, Qc, Qe, Qf, Qg, simprocAttr, Qap, Zf, ht, QR, dlA, dlC, Qt]
  try rfl
def QdN (P : Prg) (f : Nat) : Prop := ∀ d : Dl, okD d → VC P f [dlA d] (.int .i64 0)
theorem Ql9 {P : Prg} {f t0 : Nat} (bd : Qo P f 26 [.tmp 2] (Qaq t0)) : QdN P f := by
  intro d h
  obtain ⟨k0, k1, s0, s1⟩ := d
  obtain ⟨h1, h2, h3, h4⟩ := h
  simp only at h1 h2 h3 h4
  refine VC.of_acall rfl rfl (ACall.of_cut 1 bd (by simp) ?_)
  simp (maxSteps := 4000000) (disch := omega) only [rr, aop, cV, cV1, AV.one, Qb, okW, Qd, app, Qa, Qc, Qe, Qf, Qg, simprocAttr, Qaq, dlA, dlC, Qf8]
  refine ⟨⟨[(2, .int .i64 0), (1, .cell [.int .i64 k0, .int .i64 k1, .int .u64 s0, .int .u64 s1])], []⟩, Le.dropT [] (by simp) (by simp [Am.look, Qy, frzL, Qx]), ?_⟩
  simp (maxSteps := 4000000) (disch := omega) only [rr, aop, cV, cV1, AV.one, Qb, okW, Qd, app, Qa, Qc, Qe, Qf, Qg, simprocAttr]

def QcQ (P : Prg) (f : Nat) : Prop := ∀ (d : Dl) (v : Nat), okD d → v < 4294967296 → VC P f [dlA d, .int .u32 v] (if v < 2 ^ d.k0 then .tup [.int .i64 0, .int .u32 v] else .tup [.int .i64 1, .int .u32 ((v - 2 ^ d.k0 : Nat) : Int)])
theorem Ql6 {P : Prg} {f t0 : Nat} (bd : Qo P f 17 [.tmp 4, .tmp 5] (XY t0)) : QcQ P f := by
  intro d v h hv
  obtain ⟨k0, k1, s0, s1⟩ := d
  obtain ⟨h1, h2, h3, h4⟩ := h
  simp only at h1 h2 h3 h4
  refine VC.of_acall rfl (by simp only; split <;> rfl) (ACall.of_body bd (by simp) ?_)
  have e1 : Qp false .u32 (v : Int) (k0 : Int) = some (.int .u32 ((v / 2 ^ k0 : Nat) : Int)) := QgO (K := .u32) (by show k0 ≤ 32; omega)
  obtain ⟨q1, _⟩ := p24 h1
  have e2 : Qp true .u32 1 (k0 : Int) = some (.int .u32 ((2 ^ k0 : Nat) : Int)) := by
    have := QmG (K := .u32) rfl (c := 1) (s := k0) (by show k0 ≤ 32; omega) (by show 1 * 2 ^ k0 < 4294967296; omega)
    rw [Nat.one_mul] at this
    exact this
  simp only
  by_cases c : v < 2 ^ k0
  · rw [if_pos c]
    rw [Nat.div_eq_of_lt c] at e1
    have e1' : Qp false .u32 (v : Int) (k0 : Int) = some (.int .u32 0) := e1
    simp (maxSteps := 4000000) (disch := omega) only [rr, aop, cV, cV1, AV.one, Qb, okW, Qd, app, Qa, Qc, Qe, Qf, Qg, simprocAttr, XY, dlA, dlC, e1']
  · rw [if_neg c]
    have hpos : 0 < v / 2 ^ k0 := Nat.div_pos (by omega) (Nat.pow_pos (by omega))
    have hle : v / 2 ^ k0 ≤ v := Nat.div_le_self _ _
    have e3 : ((v - 2 ^ k0 : Nat) : Int) = (v : Int) - ((2 ^ k0 : Nat) : Int) := by omega
    generalize v / 2 ^ k0 = w at *
    generalize 2 ^ k0 = p at *
    simp (maxSteps := 4000000) (disch := omega) only [rr, aop, cV, cV1, AV.one, Qb, okW, Qd, app, Qa, Qc, Qe, Qf, Qg, simprocAttr, XY, dlA, dlC, e1, e2, e3]

theorem QcB {P : Prg} {f : Nat} (bd : Qo P f 58 [] Qq) {ob : List Ob} {p : Nat} {t : Nat} {d : Dl} (hp : ob[p]? = some ⟨t, 4, 1, dlC d, 0⟩) (hd : okD d) {n : Nat} (hn : n < 4294967296) (b : Bool) {K : AV → List Ob → Prop}
    (hK : K (.tup []) (ob.set p ⟨t, 4, 1, dlC (if b then ⟨d.k0, (Qaz d.k1 d.s1 n).1, d.s0, (Qaz d.k1 d.s1 n).2⟩ else ⟨(Qaz d.k0 d.s0 n).1, d.k1, (Qaz d.k0 d.s0 n).2, d.s1⟩), 0⟩)) :
    ACall P f [.ref p 1 (if b then 1 else 0), .ref p 1 (if b then 3 else 2), .int .u32 n] ob K := by
  have hpl : p < ob.length := (List.getElem?_eq_some_iff.1 hp).1
  have g1 : ∀ x, (ob.set p x)[p]? = some x := fun x => by simp [hpl]
  have g2 : ∀ x y, (ob.set p x).set p y = ob.set p y := fun x y => List.set_set _
  have key : ∀ k s : Nat, k ≤ 24 → s ≤ 68719476735 → ∃ t p4 p5 : Nat, t ≤ 68719476735 ∧ IntKind.u64.wrap ((s : Int) + IntKind.u64.wrap ((n : Int) - ((s / 16 : Nat) : Int))) = (t : Int) ∧ Qp false .u64 (s : Int) 4 = some (.int .u64 ((s / 16 : Nat) : Int)) ∧
      Qp true .u64 16 (k : Int) = some (.int .u64 (p4 : Int)) ∧ Qp true .u64 32 (k : Int) = some (.int .u64 (p5 : Int)) ∧
      Qp true .u64 16 (k : Int) = some (.int .u64 (p4 : Int)) ∧ Qaz k s n = if 0 < k ∧ t < p4 then (k - 1, t) else if k < 24 ∧ p5 < t then (k + 1, t) else (k, t) := by
    intro k s hk hs
    obtain ⟨q1, q2, q3⟩ := p24 hk
    refine ⟨s + n - s / 16, 2 ^ (k + 4), 2 ^ (k + 5), by omega, ?_, QgO (K := .u64) (k := 4) (by decide), ?_, ?_, ?_, rfl⟩
    · rw [Zg, Zg]; omega
    · rw [q2]; exact QmG (K := .u64) rfl (c := 16) (by show k ≤ 64; omega) (by show 16 * 2 ^ k < 18446744073709551616; omega)
    · rw [q3]; exact QmG (K := .u64) rfl (c := 32) (by show k ≤ 64; omega) (by show 32 * 2 ^ k < 18446744073709551616; omega)
    · rw [q2]; exact QmG (K := .u64) rfl (c := 16) (by show k ≤ 64; omega) (by show 16 * 2 ^ k < 18446744073709551616; omega)
  obtain ⟨k0, k1, s0, s1⟩ := d
  obtain ⟨h1, h2, h3, h4⟩ := hd
  simp only at h1 h2 h3 h4
  refine ACall.of_body bd (by simp) ?_
  simp only [dlC] at hp hK
  cases b with
  | false =>
    obtain ⟨u, p4, p5, hu, e1, e2, e3, e4, _, e5⟩ := key k0 s0 h1 h3
    simp only [e5, Bool.false_eq_true, if_false] at hK ⊢
    by_cases c1 : 0 < k0
    · by_cases c2 : u < p4
      · rw [if_pos ⟨c1, c2⟩] at hK
        have e6 : ((k0 - 1 : Nat) : Int) = (k0 : Int) - 1 := by omega
        simp only [e6] at hK
        simp (maxSteps := 4000000) (disch := omega) only [rr, aop, cV, cV1, AV.one, Qb, okW, Qd, app, Qa, Qc, Qe, Qf, Qg, simprocAttr, Qq, hp, g1, g2, e1, e2, e3, e4, e6]
        exact hK
      · rw [if_neg (fun h => c2 h.2)] at hK
        by_cases c3 : k0 < 24
        · by_cases c4 : p5 < u
          · rw [if_pos ⟨c3, c4⟩] at hK
            simp only [Int.natCast_add] at hK
            simp (maxSteps := 4000000) (disch := omega) only [rr, aop, cV, cV1, AV.one, Qb, okW, Qd, app, Qa, Qc, Qe, Qf, Qg, simprocAttr, Qq, hp, g1, g2, e1, e2, e3, e4]
            exact hK
          · rw [if_neg (fun h => c4 h.2)] at hK
            simp (maxSteps := 4000000) (disch := omega) only [rr, aop, cV, cV1, AV.one, Qb, okW, Qd, app, Qa, Qc, Qe, Qf, Qg, simprocAttr, Qq, hp, g1, g2, e1, e2, e3, e4]
            exact hK
        · rw [if_neg (fun h => c3 h.1)] at hK
          simp (maxSteps := 4000000) (disch := omega) only [rr, aop, cV, cV1, AV.one, Qb, okW, Qd, app, Qa, Qc, Qe, Qf, Qg, simprocAttr, Qq, hp, g1, g2, e1, e2, e3, e4]
          exact hK
    · rw [if_neg (fun h => c1 h.1)] at hK
      by_cases c4 : p5 < u
      · rw [if_pos ⟨by omega, c4⟩] at hK
        simp only [Int.natCast_add] at hK
        simp (maxSteps := 4000000) (disch := omega) only [rr, aop, cV, cV1, AV.one, Qb, okW, Qd, app, Qa, Qc, Qe, Qf, Qg, simprocAttr, Qq, hp, g1, g2, e1, e2, e3, e4]
        exact hK
      · rw [if_neg (fun h => c4 h.2)] at hK
        simp (maxSteps := 4000000) (disch := omega) only [rr, aop, cV, cV1, AV.one, Qb, okW, Qd, app, Qa, Qc, Qe, Qf, Qg, simprocAttr, Qq, hp, g1, g2, e1, e2, e3, e4]
        exact hK
  | true =>
    obtain ⟨u, p4, p5, hu, e1, e2, e3, e4, _, e5⟩ := key k1 s1 h2 h4
    simp only [e5, if_true] at hK ⊢
    by_cases c1 : 0 < k1
    · by_cases c2 : u < p4
      · rw [if_pos ⟨c1, c2⟩] at hK
        have e6 : ((k1 - 1 : Nat) : Int) = (k1 : Int) - 1 := by omega
        simp only [e6] at hK
        simp (maxSteps := 4000000) (disch := omega) only [rr, aop, cV, cV1, AV.one, Qb, okW, Qd, app, Qa, Qc, Qe, Qf, Qg, simprocAttr, Qq, hp, g1, g2, e1, e2, e3, e4, e6]
        exact hK
      · rw [if_neg (fun h => c2 h.2)] at hK
        by_cases c3 : k1 < 24
        · by_cases c4 : p5 < u
          · rw [if_pos ⟨c3, c4⟩] at hK
            simp only [Int.natCast_add] at hK
            simp (maxSteps := 4000000) (disch := omega) only [rr, aop, cV, cV1, AV.one, Qb, okW, Qd, app, Qa, Qc, Qe, Qf, Qg, simprocAttr, Qq, hp, g1, g2, e1, e2, e3, e4]
            exact hK
          · rw [if_neg (fun h => c4 h.2)] at hK
            simp (maxSteps := 4000000) (disch := omega) only [rr, aop, cV, cV1, AV.one, Qb, okW, Qd, app, Qa, Qc, Qe, Qf, Qg, simprocAttr, Qq, hp, g1, g2, e1, e2, e3, e4]
            exact hK
        · rw [if_neg (fun h => c3 h.1)] at hK
          simp (maxSteps := 4000000) (disch := omega) only [rr, aop, cV, cV1, AV.one, Qb, okW, Qd, app, Qa, Qc, Qe, Qf, Qg, simprocAttr, Qq, hp, g1, g2, e1, e2, e3, e4]
          exact hK
    · rw [if_neg (fun h => c1 h.1)] at hK
      by_cases c4 : p5 < u
      · rw [if_pos ⟨by omega, c4⟩] at hK
        simp only [Int.natCast_add] at hK
        simp (maxSteps := 4000000) (disch := omega) only [rr, aop, cV, cV1, AV.one, Qb, okW, Qd, app, Qa, Qc, Qe, Qf, Qg, simprocAttr, Qq, hp, g1, g2, e1, e2, e3, e4]
        exact hK
      · rw [if_neg (fun h => c4 h.2)] at hK
        simp (maxSteps := 4000000) (disch := omega) only [rr, aop, cV, cV1, AV.one, Qb, okW, Qd, app, Qa, Qc, Qe, Qf, Qg, simprocAttr, Qq, hp, g1, g2, e1, e2, e3, e4]
        exact hK

end Go.Am

namespace Go.Am
open Go.RowKit

/-! ### Bits are put behind bits -/

def bO (t o N : Nat) : Ob := ⟨t, 2, 1, [.own o (nB N), .int .i64 N], 0⟩
def bY (t N V : Nat) : Ob := ⟨t, 1, nB N, u8 (leB V (nB N)), 0⟩

theorem XT (V n : Nat) : isDL (u8 (leB V n)) = true := QcD _
theorem Low.put {ob : List Ob} (h : Low ob.length ob) {t t0 o p N V N' : Nat} (ho : o < ob.length) : Low ob.length (Xi ob o p (bY t0 N V) (bO t o N')) := by
  unfold Xi
  refine (h.set ?_).set ?_
  · exact lowL_D _ (XT _ _)
  · simp [bO, lowL, Xv, ho]
theorem Low.drop {ob : List Ob} (h : Low ob.length ob) {t t0 o p N V : Nat} (ho : o < ob.length) {M : Nat} (hM : M ≤ ob.length) {J : List Ob} {fr fr' : List (Nat × AV)}
    (hfr : ∀ q ∈ fr', q.2 = .any ∨ (q.2 = Am.look fr q.1 ∧ Xv ob.length q.2 = true)) :
    Le M ⟨fr, Xi ob o p (bY t0 N V) (bO t o N) ++ J⟩ ⟨fr', Xi ob o p (bY t0 N V) (bO t o N)⟩ := by
  have hl : (Xi ob o p (bY t0 N V) (bO t o N)).length = ob.length := Q5
  refine Le.low (by omega) (by rw [hl]; exact h.put ho) ?_
  rw [hl]
  exact hfr

theorem Qt6 {V N v j r : Nat} : V + 2 ^ N * (v % 2 ^ (j + r)) = V + 2 ^ N * (v % 2 ^ j) + 2 ^ (N + j) * (v / 2 ^ j % 2 ^ r) := by
  rw [Nat.pow_add, Nat.mod_mul, Nat.mul_add, Nat.pow_add, Nat.mul_assoc, Nat.add_assoc]

set_option maxHeartbeats 1000000 in
theorem Qlc {P : Prg} {f t0 t : Nat} (bd : Qo P f 75 [] (Jm t0)) {ob : List Ob} {p o N V v n : Nat} (hp : ob[p]? = some (bO t o N)) (ho : ob[o]? = some (bY t0 N V)) (hpo : p ≠ o) (hV : V < 2 ^ N) (hv : v < 2 ^ n) (hn : n ≤ 64) (hN : N + n ≤ 400000) (hfz : Low ob.length ob)
    {K : AV → List Ob → Prop} (hK : K (.tup []) (Xi ob o p (bY t0 (N + n) (V + 2 ^ N * v)) (bO t o (N + n)))) : ACall P f [.ref p 1 0, .int .u64 v, .int .i64 n] ob K := by
  have hol : o < ob.length := (List.getElem?_eq_some_iff.1 ho).1
  have hpl : p < ob.length := (List.getElem?_eq_some_iff.1 hp).1
  refine ACall.of_body bd (by simp) ?_
  have g0 : ∀ x y J, (Xi ob o p x y ++ J)[p]? = some y := fun x y J => by rw [List.getElem?_append_left (by rw [Q5]; exact hpl)]; exact QiG hpl
  have g1 : ∀ x y J, (Xi ob o p x y ++ J)[o]? = some x := fun x y J => by rw [List.getElem?_append_left (by rw [Q5]; exact hol)]; exact QiH hol hpo
  have g2 : ∀ x y J y', (Xi ob o p x y ++ J).set p y' = Xi ob o p x y' ++ J := fun x y J y' => by rw [List.set_append_left _ _ (by rw [Q5]; exact hpl), QmZ]
  have g3 : ∀ x y J x', (Xi ob o p x y ++ J).set o x' = Xi ob o p x' y ++ J := fun x y J x' => by rw [List.set_append_left _ _ (by rw [Q5]; exact hol), Qm0 hpo]
  have g4 : ∀ x y j, (Xi ob o p x y ++ [j])[ob.length]? = some j := fun x y j => by rw [List.getElem?_append_right (by rw [Q5]; exact Nat.le_refl _), Q5, Nat.sub_self]; rfl
  have gp : ∀ x y, (Xi ob o p x y)[p]? = some y := fun x y => QiG hpl
  have go : ∀ x y, (Xi ob o p x y)[o]? = some x := fun x y => QiH hol hpo
  have sp : ∀ x y y', (Xi ob o p x y).set p y' = Xi ob o p x y' := fun x y y' => QmZ
  have so : ∀ x y x', (Xi ob o p x y).set o x' = Xi ob o p x' y := fun x y x' => Qm0 hpo
  have ln : ∀ x y, (Xi ob o p x y).length = ob.length := fun x y => Q5
  simp (maxSteps := 4000000) (disch := omega) only [rr, aop, cV, cV1, AV.one, Qb, okW, Qd, app, Qa, Qc, Qe, Qf, Qg, simprocAttr, Jm]
  refine QQ.by (ι := Nat) (fun j => ⟨[(2, .int .i64 ((n - j : Nat) : Int)), (1, .int .u64 ((v / 2 ^ j : Nat) : Int)), (0, .ref p 1 0)], Xi ob o p (bY t0 (N + j) (V + 2 ^ N * (v % 2 ^ j))) (bO t o (N + j))⟩) (fun j => j ≤ n) (fun j => n - j) 0 ?_ (by omega) ?_
  · have : Xi ob o p (bY t0 (N + 0) (V + 2 ^ N * (v % 2 ^ 0))) (bO t o (N + 0)) = ob := by
      rw [Nat.add_zero, Nat.pow_zero, Nat.mod_one, Nat.mul_zero, Nat.add_zero]
      exact Qha ho hp hpo
    rw [this]
    exact Le.slots (by simp [Am.look])
  intro j hj
  by_cases hlt : j < n
  · obtain ⟨M, hM⟩ : ∃ M, M = N + j := ⟨_, rfl⟩
    obtain ⟨i, hi⟩ : ∃ i, i = M / 8 := ⟨_, rfl⟩
    obtain ⟨a, ha⟩ : ∃ a, a = M % 8 := ⟨_, rfl⟩
    obtain ⟨r, hr⟩ : ∃ r, r = min (n - j) (8 - a) := ⟨_, rfl⟩
    have hM8 : M = 8 * i + a := by omega
    have hW : V + 2 ^ N * (v % 2 ^ j) < 2 ^ M := by
      have h1 : v % 2 ^ j < 2 ^ j := Nat.mod_lt _ (Nat.pow_pos (by omega))
      have h2 : 2 ^ N * (v % 2 ^ j + 1) ≤ 2 ^ N * 2 ^ j := Nat.mul_le_mul_left _ h1
      rw [hM, Nat.pow_add]; rw [Nat.mul_add, Nat.mul_one] at h2; omega
    have hstep := Qt6 (V := V) (N := N) (v := v) (j := j) (r := r)
    rw [← hM] at hstep ⊢
    have hx : v / 2 ^ j < 18446744073709551616 := by
      have h1 : v / 2 ^ j ≤ v := Nat.div_le_self _ _
      have h2 : 2 ^ n ≤ 2 ^ 64 := Nat.pow_le_pow_right (by omega) hn
      omega
    have hxr : v / 2 ^ (j + r) = v / 2 ^ j / 2 ^ r := by rw [Nat.pow_add, Nat.div_div_eq_div_mul]
    generalize V + 2 ^ N * (v % 2 ^ j) = W at *
    generalize hWW : V + 2 ^ N * (v % 2 ^ (j + r)) = W' at *
    generalize hxx : v / 2 ^ j = x at *
    have h2r : 2 ^ r ≤ 2 ^ 8 := Nat.pow_le_pow_right (by omega) (by omega)
    have h2a : 2 ^ a * 2 ^ r ≤ 2 ^ 8 := by rw [← Nat.pow_add]; exact Nat.pow_le_pow_right (by omega) (by omega)
    have hpos : 0 < 2 ^ r := Nat.pow_pos (by omega)
    have hc : x % 2 ^ r < 2 ^ r := Nat.mod_lt _ hpos
    obtain ⟨l1, l2⟩ := QaT (V := W) (i := i) (at_ := a) (by rw [← hM8]; exact hW) (by omega)
    obtain ⟨b1, b2, _⟩ := Qbr (V := W) (i := i) (at_ := a) (w := x % 2 ^ r) (r := r) (by rw [← hM8]; exact hW) hc (by omega)
    rw [← hM8, ← hstep] at b1
    have hyb : W / 256 ^ i < 256 := by
      have : 2 ^ a ≤ 2 ^ 8 := Nat.pow_le_pow_right (by omega) (by omega)
      omega
    have hyb2 : W / 256 ^ i + 2 ^ a * (x % 2 ^ r) < 256 := by
      have : 2 ^ (a + r) ≤ 2 ^ 8 := Nat.pow_le_pow_right (by omega) (by omega)
      omega
    have hca : x % 2 ^ r * 2 ^ a < 2 ^ 8 := by
      rw [Nat.mul_comm]
      exact Nat.lt_of_lt_of_le (Nat.mul_lt_mul_of_pos_left hc (Nat.pow_pos (by omega))) h2a
    have hu : ∀ y, y < 256 → u8 [UInt8.ofNat y] = [.int .u8 (y : Int)] := fun y hy => by simp [u8]; omega
    have e8 : IntKind.u8.wrap (BitVec.ofInt IntKind.u8.bits ((W / 256 ^ i : Nat) : Int) ||| BitVec.ofInt IntKind.u8.bits ((x % 2 ^ r * 2 ^ a : Nat) : Int)).toNat = ((W / 256 ^ i + 2 ^ a * (x % 2 ^ r) : Nat) : Int) := by
      rw [orK (K := .u8) rfl hyb hca, Qhr l2, Nat.mul_comm]
    have e7 : Qp true .u8 ((x % 2 ^ r : Nat) : Int) (a : Int) = some (.int .u8 ((x % 2 ^ r * 2 ^ a : Nat) : Int)) := QmG rfl (by show a ≤ 8; omega) hca
    have e6 : IntKind.u8.wrap ((x % 2 ^ r : Nat) : Int) = ((x % 2 ^ r : Nat) : Int) := by rw [Qbt]; omega
    have e5 : IntKind.u64.wrap (BitVec.ofInt IntKind.u64.bits (x : Int) &&& BitVec.ofInt IntKind.u64.bits ((2 ^ r - 1 : Nat) : Int)).toNat = ((x % 2 ^ r : Nat) : Int) := by
      rw [Qj2 _ _ hx (by omega), Nat.and_two_pow_sub_one_eq_mod]
    have e4 : IntKind.u64.wrap (((2 ^ r : Nat) : Int) - 1) = ((2 ^ r - 1 : Nat) : Int) := by rw [Zg]; omega
    have e3 : Qp true .u64 1 (r : Int) = some (.int .u64 ((2 ^ r : Nat) : Int)) := by
      have := QmG (K := .u64) rfl (c := 1) (s := r) (by show r ≤ 64; omega) (by show 1 * 2 ^ r < 18446744073709551616; omega)
      rw [Nat.one_mul] at this
      exact this
    have e9 : Qp false .u64 (x : Int) (r : Int) = some (.int .u64 ((x / 2 ^ r : Nat) : Int)) := QgO (K := .u64) (by show r ≤ 64; omega)
    have e1 := Qgt (n := M) (by omega)
    rw [← ha] at e1
    have e2 : (if (8 : Int) - a < ((n - j : Nat) : Int) then (8 : Int) - a else ((n - j : Nat) : Int)) = (r : Int) := by split <;> omega
    have hnB : nB (M + r) = i + 1 := by unfold nB; omega
    have hcell : u8 (leB W' (i + 1)) = u8 (leB W i) ++ [.int .u8 ((W / 256 ^ i + 2 ^ a * (x % 2 ^ r) : Nat) : Int)] := by
      rw [b1, show u8 (leB W i ++ [UInt8.ofNat (W / 256 ^ i + 2 ^ a * (x % 2 ^ r))]) = u8 (leB W i) ++ u8 [UInt8.ofNat (W / 256 ^ i + 2 ^ a * (x % 2 ^ r))] by simp [u8]]
      rw [hu _ hyb2]
    have hlen : (u8 (leB W i)).length = i := by simp [u8, QD]
    rw [← hxr] at e9
    generalize W / 256 ^ i + 2 ^ a * (x % 2 ^ r) = y' at *
    generalize x % 2 ^ r * 2 ^ a = ca at *
    generalize x % 2 ^ r = c at *
    generalize 2 ^ r - 1 = mk at *
    generalize 2 ^ r = pr at *
    have d1 : ∀ z : AV, (u8 (leB W i) ++ [z]).drop i = [z] := fun z => by rw [List.drop_left' hlen]
    have d2 : ∀ z : AV, (u8 (leB W i) ++ [z]).take i = u8 (leB W i) := fun z => by rw [List.take_left' hlen]
    have d3 : ∀ z : AV, (u8 (leB W i) ++ [z]).drop (i + 1) = [] := fun z => List.drop_of_length_le (by simp [hlen])
    have jr : n - j - r = n - (j + r) := by omega
    have el : (⟨t0, 1, i + 1, u8 (leB W i) ++ [.int .u8 (y' : Int)], 0⟩ : Ob) = bY t0 (M + r) W' := by rw [bY, hnB, hcell]
    have er : (⟨t, 2, 1, [.own o (i + 1), .int .i64 ((M : Int) + r)], 0⟩ : Ob) = bO t o (M + r) := by rw [bO, hnB, Int.natCast_add]
    have hMr : N + (j + r) = M + r := by omega
    have e10 : ((n - j : Nat) : Int) - r = ((n - (j + r) : Nat) : Int) := by omega
    have e11 : (M : Int) + r = ((M + r : Nat) : Int) := by omega
    by_cases h0 : a = 0
    · subst h0
      have hnM : nB M = i := by unfold nB; omega
      have hW0 : W / 256 ^ i = 0 := by
        have := l2
        rw [Nat.pow_zero] at this
        exact Nat.lt_one_iff.1 this
      rw [hW0] at e8
      have e8' : IntKind.u8.wrap (BitVec.ofInt IntKind.u8.bits 0 ||| BitVec.ofInt IntKind.u8.bits (ca : Int)).toNat = (y' : Int) := e8
      have e1' : IntKind.i64.wrap (BitVec.ofInt IntKind.i64.bits (M : Int) &&& BitVec.ofInt IntKind.i64.bits 7).toNat = 0 := e1
      have e2' : (if (8 : Int) < ((n - j : Nat) : Int) then (8 : Int) else ((n - j : Nat) : Int)) = (r : Int) := by split <;> omega
      have e12 : i + 1 - 1 = i := by omega
      have e7' : Qp true .u8 (c : Int) 0 = some (.int .u8 (ca : Int)) := e7
      have e13 : (i : Int) + 1 - 1 = i := by omega
      simp (maxSteps := 4000000) (disch := omega) only [rr, aop, cV, cV1, AV.one, Qb, okW, Qd, app, Qa, Qc, Qe, Qf, Qg, simprocAttr, e2', e12, e13, bO, bY, gp, go, sp, so, ln, g0, g1, g2, g3, g4, hnM, hlen, e1', e2, e3, e4, e5, e6, e7', e8', e9, d1, d2, d3]
      refine ⟨j + r, by omega, by omega, ?_⟩
      show Le ob.length _ ⟨[(2, .int .i64 ((n - (j + r) : Nat) : Int)), (1, .int .u64 ((v / 2 ^ (j + r) : Nat) : Int)), (0, .ref p 1 0)], Xi ob o p (bY t0 (N + (j + r)) (V + 2 ^ N * (v % 2 ^ (j + r)))) (bO t o (N + (j + r)))⟩
      rw [hWW, hMr, el, er]
      exact hfz.drop hol (Nat.le_refl _) (by simp [Am.look, Xv, hpl, e10])
    · have hnM : nB M = i + 1 := by unfold nB; omega
      have l3 : u8 (leB W (i + 1)) = u8 (leB W i) ++ [.int .u8 ((W / 256 ^ i : Nat) : Int)] := by
        rw [l1, show u8 (leB W i ++ [UInt8.ofNat (W / 256 ^ i)]) = u8 (leB W i) ++ u8 [UInt8.ofNat (W / 256 ^ i)] by simp [u8], hu _ hyb]
      have e12 : i + 1 - 1 = i := by omega
      have e13 : (i : Int) + 1 - 1 = i := by omega
      have ha0 : (a : Int) ≠ 0 := by omega
      generalize W / 256 ^ i = y at *
      simp (maxSteps := 4000000) (disch := omega) only [rr, aop, cV, cV1, AV.one, Qb, okW, Qd, app, Qa, Qc, Qe, Qf, Qg, simprocAttr, e12, e13, bO, bY, gp, go, sp, so, ln, hnM, hlen, l3, e1, e2, e3, e4, e5, e6, e7, e8, e9, d1, d2, d3]
      refine ⟨j + r, by omega, by omega, ?_⟩
      show Le ob.length _ ⟨[(2, .int .i64 ((n - (j + r) : Nat) : Int)), (1, .int .u64 ((v / 2 ^ (j + r) : Nat) : Int)), (0, .ref p 1 0)], Xi ob o p (bY t0 (N + (j + r)) (V + 2 ^ N * (v % 2 ^ (j + r)))) (bO t o (N + (j + r)))⟩
      rw [hWW, hMr, el, er]
      exact Le.slots (by simp [Am.look, e10])
  · obtain rfl : j = n := by omega
    rw [Nat.mod_eq_of_lt hv]
    simp (maxSteps := 4000000) (disch := omega) only [rr, aop, cV, cV1, AV.one, Qb, okW, Qd, app, Qa, Qc, Qe, Qf, Qg, simprocAttr]
    exact hK

end Go.Am
