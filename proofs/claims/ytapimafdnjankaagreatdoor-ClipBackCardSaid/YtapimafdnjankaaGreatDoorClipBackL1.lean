/- What the functions that the law reaches return, for every program that has their code; the conditions stand in each statement. -/
import Derived.Test.YtapimafdnjankaaGreatDoorClipBackD1
set_option linter.unusedSectionVars false
set_option linter.unusedSimpArgs false
set_option linter.unusedVariables false
namespace Go.Am
open Go.RowKit

def leN : List UInt8 → Nat
  | [] => 0
  | b :: l => b.toNat + 256 * leN l

theorem Qi2 : ∀ l : List UInt8, leN l < 2 ^ (8 * l.length)
  | [] => by simp [leN]
  | b :: l => by
    have h1 := Qi2 l
    have h2 := b.toNat_lt
    have h3 : 2 ^ (8 * (b :: l).length) = 256 * 2 ^ (8 * l.length) := by
      rw [List.length_cons, Nat.mul_add, Nat.pow_add, Nat.mul_comm]
    rw [h3]
    simp only [leN]
    omega

theorem QgC : ∀ (a b : List UInt8), leN (a ++ b) = leN a + 2 ^ (8 * a.length) * leN b
  | [], b => by simp [leN]
  | x :: a, b => by
    have h3 : 2 ^ (8 * (x :: a).length) = 256 * 2 ^ (8 * a.length) := by
      rw [List.length_cons, Nat.mul_add, Nat.pow_add, Nat.mul_comm]
    rw [h3]
    simp only [List.cons_append, leN, QgC a b, Nat.mul_add, Nat.mul_assoc]
    omega

theorem Qss {l : List UInt8} (h : l.length ≤ 8) : leN l < 18446744073709551616 := by
  have h1 := Qi2 l
  have h2 : 2 ^ (8 * l.length) ≤ 2 ^ 64 := Nat.pow_le_pow_right (by omega) (by omega)
  omega

theorem Qsr {l : List UInt8} {k : Nat} (h : k < l.length) : leN (l.take (k + 1)) = leN (l.take k) + l[k].toNat * 2 ^ (8 * k) := by
  rw [List.take_succ_eq_append_getElem h, QgC]
  simp [leN, Nat.min_eq_left (Nat.le_of_lt h), Nat.mul_comm]

def QdL (P : Prg) (f : Nat) : Prop := ∀ l : List UInt8, 1 ≤ l.length → l.length ≤ 8 → VC P f [bs l] (.tup [.int .u64 (leN l), .int .i64 0])

set_option maxRecDepth 10000 in
theorem Qsp {P : Prg} {f : Nat} (b : Qj P f 31 [.tmp 2, .tmp 3] QcB) : QdL P f := by
  intro l h1 h2
  refine VC.of_acall (by simp [Qu, X8]) rfl (ACall.of_body b (by simp) ?_)
  have d1 : ¬ ((l.length : Int) < 1) := by omega
  have d2 : ¬ ((8 : Int) < l.length) := by omega
  simp only [abv, Qrz, ev, okW, Qd, Bool.false_and, Qnr, aop, cV, cV1, List.length_nil, List.length_cons, List.map_nil, List.map_cons, List.cons_append, List.nil_append, ↓reduceIte, Nat.reduceEqDiff, Nat.reduceAdd, Option.map_some, Option.map_none, Option.bind_some, decide_true, decide_false, Bool.false_eq_true, Bool.not_true, Bool.not_false, Int.toNat_natCast, List.getElem?_cons_zero, List.getElem?_cons_succ, Int.natCast_add, Int.cast_ofNat_Int, true_and, and_true, and_self, if_true, if_false, Zw, Nat.mul_one, Nat.one_mul, Nat.zero_add, Nat.add_zero, List.drop_zero, beq_self_eq_true, Bool.and_self, Bool.and_true, Bool.true_and, AV.one, List.all_cons, List.all_nil, Qt, Jd, Qb, Nat.reduceLT, Nat.reduceLeDiff, Nat.reduceBEq, Nat.reduceMul, Nat.reduceSub, Int.reduceLT, Int.reduceLE, Int.reduceAdd, Int.reduceSub, Int.reduceMul, Int.reduceToNat, List.take_nil, List.drop_nil, List.take_zero, List.append_nil, Qa, Qc, Qe, app, List.set_cons_zero, List.set_cons_succ, List.length_set, Nat.le_refl, Nat.zero_le, List.take_length, J1, reduceCtorEq, List.drop_succ_cons, List.take_succ_cons, Int.reduceEq, QcB, bs, d1, d2]
  refine QW.by (ι := Nat) (fun k => ⟨[(17, .int .i64 k), (16, .int .i64 l.length), (15, .list l.length (u8 l)), (4, .int .u64 (leN (l.take k)))], []⟩) (fun k => k ≤ l.length) (fun k => l.length - k) 0 (Le.slots (by simp [Am.look, leN])) (by omega) ?_
  intro k hk
  by_cases hlt : k < l.length
  · have e1 : (k : Int) < l.length := by omega
    have e2 : (0 : Int) ≤ k := by omega
    have e4 := Qui hlt
    have e5 : IntKind.u64.wrap ((l[k].toNat : Nat) : Int) = (l[k].toNat : Nat) := QbK (by omega) (by have := l[k].toNat_lt; omega)
    have e6 : IntKind.i64.wrap (8 * (k : Int)) = (8 * k : Nat) := by rw [QaD] <;> omega
    have e7 : Qn true .u64 ((l[k].toNat : Nat) : Int) ((8 * k : Nat) : Int) = some (.int .u64 ((l[k].toNat * 2 ^ (8 * k) : Nat) : Int)) := Qph (by omega) (by
      have h1 := l[k].toNat_lt
      have h2 : 2 ^ (8 * k) ≤ 2 ^ 56 := Nat.pow_le_pow_right (by omega) (by omega)
      calc l[k].toNat * 2 ^ (8 * k) ≤ 255 * 2 ^ 56 := Nat.mul_le_mul (by omega) h2
        _ < _ := by omega)
    have e8 : leN (l.take (k + 1)) < 18446744073709551616 := Qss (by simp; omega)
    have e9 := Qsr hlt
    have e10 : leN (l.take k) < 2 ^ (8 * k) := by have := Qi2 (l.take k); rwa [List.length_take, Nat.min_eq_left hk] at this
    have e11 : IntKind.u64.wrap (BitVec.ofInt IntKind.u64.bits (leN (l.take k) : Nat) ||| BitVec.ofInt IntKind.u64.bits (l[k].toNat * 2 ^ (8 * k) : Nat)).toNat = (leN (l.take (k + 1)) : Nat) := by
      rw [Qs8 _ _ (by omega) (by omega), QiV e10, e9]
    have e12 : IntKind.i64.wrap ((k : Int) + 1) = ((k + 1 : Nat) : Int) := by rw [QaD] <;> omega
    simp only [abv, Qrz, ev, okW, Qd, Bool.false_and, Qnr, aop, cV, cV1, List.length_nil, List.length_cons, List.map_nil, List.map_cons, List.cons_append, List.nil_append, ↓reduceIte, Nat.reduceEqDiff, Nat.reduceAdd, Option.map_some, Option.map_none, Option.bind_some, decide_true, decide_false, Bool.false_eq_true, Bool.not_true, Bool.not_false, Int.toNat_natCast, List.getElem?_cons_zero, List.getElem?_cons_succ, Int.natCast_add, Int.cast_ofNat_Int, true_and, and_true, and_self, if_true, if_false, Zw, Nat.mul_one, Nat.one_mul, Nat.zero_add, Nat.add_zero, List.drop_zero, beq_self_eq_true, Bool.and_self, Bool.and_true, Bool.true_and, AV.one, List.all_cons, List.all_nil, Qt, Jd, Qb, Nat.reduceLT, Nat.reduceLeDiff, Nat.reduceBEq, Nat.reduceMul, Nat.reduceSub, Int.reduceLT, Int.reduceLE, Int.reduceAdd, Int.reduceSub, Int.reduceMul, Int.reduceToNat, List.take_nil, List.drop_nil, List.take_zero, List.append_nil, Qa, Qc, Qe, app, List.set_cons_zero, List.set_cons_succ, List.length_set, Nat.le_refl, Nat.zero_le, List.take_length, J1, reduceCtorEq, List.drop_succ_cons, List.take_succ_cons, Int.reduceEq, e1, e2, hlt, e4, e5, e6, e7, e11, e12]
    exact ⟨k + 1, by omega, by omega, Le.slots (by simp [Am.look])⟩
  · have e1 : ¬ (k : Int) < l.length := by omega
    have e2 : k = l.length := by omega
    subst e2
    simp only [abv, Qrz, ev, okW, Qd, Bool.false_and, Qnr, aop, cV, cV1, List.length_nil, List.length_cons, List.map_nil, List.map_cons, List.cons_append, List.nil_append, ↓reduceIte, Nat.reduceEqDiff, Nat.reduceAdd, Option.map_some, Option.map_none, Option.bind_some, decide_true, decide_false, Bool.false_eq_true, Bool.not_true, Bool.not_false, Int.toNat_natCast, List.getElem?_cons_zero, List.getElem?_cons_succ, Int.natCast_add, Int.cast_ofNat_Int, true_and, and_true, and_self, if_true, if_false, Zw, Nat.mul_one, Nat.one_mul, Nat.zero_add, Nat.add_zero, List.drop_zero, beq_self_eq_true, Bool.and_self, Bool.and_true, Bool.true_and, AV.one, List.all_cons, List.all_nil, Qt, Jd, Qb, Nat.reduceLT, Nat.reduceLeDiff, Nat.reduceBEq, Nat.reduceMul, Nat.reduceSub, Int.reduceLT, Int.reduceLE, Int.reduceAdd, Int.reduceSub, Int.reduceMul, Int.reduceToNat, List.take_nil, List.drop_nil, List.take_zero, List.append_nil, Qa, Qc, Qe, app, List.set_cons_zero, List.set_cons_succ, List.length_set, Nat.le_refl, Nat.zero_le, List.take_length, J1, reduceCtorEq, List.drop_succ_cons, List.take_succ_cons, Int.reduceEq, e1, List.take_length]

/-! ### layer 1's reference -/

end Go.Am

namespace Go.Am
open Go.RowKit

theorem Xo (l : List UInt8) : X7 (u8 l) = true := by
  induction l with
  | nil => rfl
  | cons x l ih => simp [Qkk, X7, isT, ih]
def Jz (P : Prg) (f : Nat) : Prop := ∀ l : List UInt8, l.length < 140737488355328 → VC P f [bs l] (bs l)

set_option maxRecDepth 10000 in
theorem Qlj {P : Prg} {f t0 : Nat} (b : Qj P f 8 [.tmp 2] (Qao t0)) : Jz P f := by
  intro l hl
  refine VC.of_walk 1 (by simp [Qu, X8]) (X8 l) (ACall.of_body b (by simp) ?_)
  have fin : ∀ ob, ob = [⟨t0, 1, l.length, u8 l, 0⟩] → Zk (fun _ => true) ob (1 + 1) [.own 0 l.length] = some [bs l] := by
    rintro ob rfl
    simp only [Zk, QL, QO, QK, Bool.false_eq_true, if_false, List.getElem?_cons_zero, and_self, if_true, Qr _ (Xo l), Option.map_some]
    rfl
  have d1 : l.length * 1 ≤ 140737488355328 := by omega
  have d2 : l.length ≤ 9223372036854775807 := by omega
  by_cases h0 : l = []
  · subst h0
    simp only [abv, Qrz, ev, okW, Qd, Bool.false_and, Qnr, aop, cV, cV1, List.length_nil, List.length_cons, List.map_nil, List.map_cons, List.cons_append, List.nil_append, ↓reduceIte, Nat.reduceEqDiff, Nat.reduceAdd, Option.map_some, Option.map_none, Option.bind_some, decide_true, decide_false, Bool.false_eq_true, Bool.not_true, Bool.not_false, Int.toNat_natCast, List.getElem?_cons_zero, List.getElem?_cons_succ, Int.natCast_add, Int.cast_ofNat_Int, true_and, and_true, and_self, if_true, if_false, Zw, Nat.mul_one, Nat.one_mul, Nat.zero_add, Nat.add_zero, List.drop_zero, beq_self_eq_true, Bool.and_self, Bool.and_true, Bool.true_and, AV.one, List.all_cons, List.all_nil, Qt, Jd, Qb, Nat.reduceLT, Nat.reduceLeDiff, Nat.reduceBEq, Nat.reduceMul, Nat.reduceSub, Int.reduceLT, Int.reduceLE, Int.reduceAdd, Int.reduceSub, Int.reduceMul, Int.reduceToNat, List.take_nil, List.drop_nil, List.take_zero, List.append_nil, Qa, Qc, Qe, app, List.set_cons_zero, List.set_cons_succ, List.length_set, Nat.le_refl, Nat.zero_le, List.take_length, J1, reduceCtorEq, List.drop_succ_cons, List.take_succ_cons, Int.reduceEq, Qao, bs, QjW, Qs3]
    simp [Zk, QL, QO, QK, Qu]
  · have h1 : l.length ≠ 0 := by simpa using h0
    have d3 : l.length ≤ 140737488355328 := by omega
    simp only [abv, Qrz, ev, okW, Qd, Bool.false_and, Qnr, aop, cV, cV1, List.length_nil, List.length_cons, List.map_nil, List.map_cons, List.cons_append, List.nil_append, ↓reduceIte, Nat.reduceEqDiff, Nat.reduceAdd, Option.map_some, Option.map_none, Option.bind_some, decide_true, decide_false, Bool.false_eq_true, Bool.not_true, Bool.not_false, Int.toNat_natCast, List.getElem?_cons_zero, List.getElem?_cons_succ, Int.natCast_add, Int.cast_ofNat_Int, true_and, and_true, and_self, if_true, if_false, Zw, Nat.mul_one, Nat.one_mul, Nat.zero_add, Nat.add_zero, List.drop_zero, beq_self_eq_true, Bool.and_self, Bool.and_true, Bool.true_and, AV.one, List.all_cons, List.all_nil, Qt, Jd, Qb, Nat.reduceLT, Nat.reduceLeDiff, Nat.reduceBEq, Nat.reduceMul, Nat.reduceSub, Int.reduceLT, Int.reduceLE, Int.reduceAdd, Int.reduceSub, Int.reduceMul, Int.reduceToNat, List.take_nil, List.drop_nil, List.take_zero, List.append_nil, Qa, Qc, Qe, app, List.set_cons_zero, List.set_cons_succ, List.length_set, Nat.le_refl, Nat.zero_le, List.take_length, J1, reduceCtorEq, List.drop_succ_cons, List.take_succ_cons, Int.reduceEq, Qao, bs, QjW, h1, d2, d3]
    exact fin _ rfl

end Go.Am

namespace Go.Am
open Go.RowKit

def JJ (b : Int) : Int := if b = 8 then 128 else if b = 16 then 32768 else if b = 24 then 8388608 else 0

theorem XL (b : Int) : (b = 8 ∧ JJ b = 128) ∨ (b = 16 ∧ JJ b = 32768) ∨ (b = 24 ∧ JJ b = 8388608) ∨ (b ≠ 8 ∧ b ≠ 16 ∧ b ≠ 24 ∧ JJ b = 0) := by
  unfold JJ; split <;> (try split) <;> (try split) <;> omega

def Qar (b : Int) : AV := if JJ b = 0 then .tup [.int .i32 0, .int .i32 0, .int .i64 2] else .tup [.int .i32 (-JJ b), .int .i32 (JJ b - 1), .int .i64 0]

def Qh3 (P : Prg) (f : Nat) : Prop := ∀ b : Int, VC P f [.int .i64 b] (Qar b)

theorem Qj3 {P : Prg} {f : Nat} (b : Qj P f 18 [.tmp 2, .tmp 3, .tmp 4] ZC) : Qh3 P f := by
  intro x
  refine VC.of_acall rfl (by unfold Qar; split <;> rfl) (ACall.of_body b (by simp) ?_)
  rcases XL x with ⟨rfl, h⟩ | ⟨rfl, h⟩ | ⟨rfl, h⟩ | ⟨h1, h2, h3, h⟩
  · simp (maxSteps := 4000000) (disch := omega) only [rr, aop, cV, cV1, AV.one, Qb, okW, Qd, app, Qa, Qc, Qe, Qf, Qg, simprocAttr, ZC, Qar, h]
    rfl
  · simp (maxSteps := 4000000) (disch := omega) only [rr, aop, cV, cV1, AV.one, Qb, okW, Qd, app, Qa, Qc, Qe, Qf, Qg, simprocAttr, ZC, Qar, h]
    rfl
  · simp (maxSteps := 4000000) (disch := omega) only [rr, aop, cV, cV1, AV.one, Qb, okW, Qd, app, Qa, Qc, Qe, Qf, Qg, simprocAttr, ZC, Qar, h]
    rfl
  · simp (maxSteps := 4000000) (disch := omega) only [rr, aop, cV, cV1, AV.one, Qb, okW, Qd, app, Qa, Qc, Qe, Qf, Qg, simprocAttr, ZC, Qar, h]

end Go.Am

namespace Go.Am
open Go.RowKit

def il (l : List Int) : AV := .list l.length (ks .i32 l)
theorem QI (l : List Int) : isD (il l) = true := by simp [il, isD, Q0]

def inR (b x : Int) : Bool := decide (-JJ b ≤ x) && decide (x < JJ b)
def QG (b : Int) (l : List Int) : Int := if JJ b = 0 then 2 else if 4000 < l.length then 4 else if l.all (inR b) then 0 else 16
def I32 (l : List Int) : Prop := ∀ x ∈ l, -2147483648 ≤ x ∧ x ≤ 2147483647
def J8 (P : Prg) (f : Nat) : Prop := ∀ (b : Int) (l : List Int), I32 l → VC P f [.int .i64 b, il l] (.int .i64 (QG b l))

theorem Qdg {l : List Int} {k : Nat} (h : k < l.length) {p : Int → Bool} : (l.take (k + 1)).all p = ((l.take k).all p && p l[k]) := by
  rw [List.take_succ_eq_append_getElem h, List.all_append]; simp

theorem Qgy {l : List Int} {k : Nat} (h : k < l.length) {p : Int → Bool} (hp : p l[k] = false) : l.all p = false := by
  rw [List.all_eq_false]
  exact ⟨l[k], List.getElem_mem h, by simp [hp]⟩

set_option maxRecDepth 10000 in
theorem Qj4 {P : Prg} {f fR : Nat} (b : Qj P f 37 [.tmp 4] (Qaf fR)) (hR : Qh3 P fR) : J8 P f := by
  intro x l hl
  refine VC.of_acall (by simp [Qu, isD, QI]) rfl (ACall.of_body b (by simp) ?_)
  simp (maxSteps := 4000000) (disch := omega) only [rr, aop, cV, cV1, AV.one, Qb, okW, Qd, app, Qa, Qc, Qe, Qf, Qg, simprocAttr, Qaf]
  refine Qh.vc (hR x) ?_
  by_cases h0 : JJ x = 0
  · simp (maxSteps := 4000000) (disch := omega) only [rr, aop, cV, cV1, AV.one, Qb, okW, Qd, app, Qa, Qc, Qe, Qf, Qg, simprocAttr, Qar, QG, h0]
  have h3 : JJ x = 128 ∨ JJ x = 32768 ∨ JJ x = 8388608 := by rcases XL x with h | h | h | h <;> omega
  by_cases h1 : 4000 < l.length
  · simp (maxSteps := 4000000) (disch := omega) only [rr, aop, cV, cV1, AV.one, Qb, okW, Qd, app, Qa, Qc, Qe, Qf, Qg, simprocAttr, Qar, QG, h0, il, h1]
  simp (maxSteps := 4000000) (disch := omega) only [rr, aop, cV, cV1, AV.one, Qb, okW, Qd, app, Qa, Qc, Qe, Qf, Qg, simprocAttr, Qar, il, if_neg h0]
  refine QW.by (ι := Nat) (fun k => ⟨[(24, .int .i64 k), (23, .int .i64 l.length), (22, il l), (6, .int .i32 (JJ x - 1)), (5, .int .i32 (-JJ x))], []⟩) (fun k => k ≤ l.length ∧ (l.take k).all (inR x) = true) (fun k => l.length - k) 0 (Le.slots (by simp [Am.look, il])) ⟨by omega, by simp⟩ ?_
  intro k ⟨hk, hg⟩
  by_cases hlt : k < l.length
  · by_cases hp : -JJ x ≤ l[k] ∧ l[k] < JJ x
    · have hs := Qdg hlt (p := inR x)
      simp (maxSteps := 4000000) (disch := omega) only [rr, aop, cV, cV1, AV.one, Qb, okW, Qd, app, Qa, Qc, Qe, Qf, Qg, simprocAttr, il, QaR, hlt]
      exact ⟨k + 1, ⟨by omega, by rw [hs, hg]; simp [inR, hp]⟩, by omega, Le.slots (by simp [Am.look, il])⟩
    · have e : QG x l = 16 := by simp [QG, h0, h1, Qgy hlt (p := inR x) (by simp [inR]; omega)]
      by_cases hq : l[k] < -JJ x
      · simp (maxSteps := 4000000) (disch := omega) only [rr, aop, cV, cV1, AV.one, Qb, okW, Qd, app, Qa, Qc, Qe, Qf, Qg, simprocAttr, il, QaR, hlt, e]
      · simp (maxSteps := 4000000) (disch := omega) only [rr, aop, cV, cV1, AV.one, Qb, okW, Qd, app, Qa, Qc, Qe, Qf, Qg, simprocAttr, il, QaR, hlt, e]
  · have e2 : k = l.length := by omega
    subst e2
    rw [List.take_length] at hg
    simp (maxSteps := 4000000) (disch := omega) only [rr, aop, cV, cV1, AV.one, Qb, okW, Qd, app, Qa, Qc, Qe, Qf, Qg, simprocAttr, il, QG, h0, h1, hg]

def QmZ (P : Prg) (f : Nat) : Prop := ∀ x : Int, VC P f [.int .i64 x] (.int .i64 (JJ x))

theorem QnB {P : Prg} {f : Nat} (b : Qj P f 10 [.tmp 2] Z6) : QmZ P f := by
  intro x
  refine VC.of_acall rfl rfl (ACall.of_body b (by simp) ?_)
  rcases XL x with ⟨rfl, h⟩ | ⟨rfl, h⟩ | ⟨rfl, h⟩ | ⟨h1, h2, h3, h⟩ <;> simp (maxSteps := 4000000) (disch := omega) only [rr, aop, cV, cV1, AV.one, Qb, okW, Qd, app, Qa, Qc, Qe, Qf, Qg, simprocAttr, Z6, h]

set_option maxRecDepth 10000 in
theorem QkF {P : Prg} {f fH : Nat} (b : Qj P f 37 [.tmp 4] (ZS fH)) (hH : QmZ P fH) : J8 P f := by
  intro x l hl
  refine VC.of_acall (by simp [Qu, isD, QI]) rfl (ACall.of_body b (by simp) ?_)
  simp (maxSteps := 4000000) (disch := omega) only [rr, aop, cV, cV1, AV.one, Qb, okW, Qd, app, Qa, Qc, Qe, Qf, Qg, simprocAttr, ZS]
  refine Qh.vc (hH x) ?_
  by_cases h0 : JJ x = 0
  · simp (maxSteps := 4000000) (disch := omega) only [rr, aop, cV, cV1, AV.one, Qb, okW, Qd, app, Qa, Qc, Qe, Qf, Qg, simprocAttr, QG, h0]
  have h3 : JJ x = 128 ∨ JJ x = 32768 ∨ JJ x = 8388608 := by rcases XL x with h | h | h | h <;> omega
  by_cases h1 : 4000 < l.length
  · simp (maxSteps := 4000000) (disch := omega) only [rr, aop, cV, cV1, AV.one, Qb, okW, Qd, app, Qa, Qc, Qe, Qf, Qg, simprocAttr, QG, h0, il, h1]
  simp (maxSteps := 4000000) (disch := omega) only [rr, aop, cV, cV1, AV.one, Qb, okW, Qd, app, Qa, Qc, Qe, Qf, Qg, simprocAttr, il]
  refine QW.by (ι := Nat) (fun k => ⟨[(6, .int .i64 k), (1, il l), (5, .int .i64 (JJ x))], []⟩) (fun k => k ≤ l.length ∧ (l.take k).all (inR x) = true) (fun k => l.length - k) 0 (Le.slots (by simp [Am.look, il])) ⟨by omega, by simp⟩ ?_
  intro k ⟨hk, hg⟩
  by_cases hlt : k < l.length
  · have hb := hl _ (List.getElem_mem hlt)
    by_cases hp : -JJ x ≤ l[k] ∧ l[k] < JJ x
    · have hs := Qdg hlt (p := inR x)
      simp (maxSteps := 4000000) (disch := omega) only [rr, aop, cV, cV1, AV.one, Qb, okW, Qd, app, Qa, Qc, Qe, Qf, Qg, simprocAttr, il, QaR, hlt]
      exact ⟨k + 1, ⟨by omega, by rw [hs, hg]; simp [inR, hp]⟩, by omega, Le.slots (by simp [Am.look, il])⟩
    · have e : QG x l = 16 := by simp [QG, h0, h1, Qgy hlt (p := inR x) (by simp [inR]; omega)]
      by_cases hq : l[k] < -JJ x
      · simp (maxSteps := 4000000) (disch := omega) only [rr, aop, cV, cV1, AV.one, Qb, okW, Qd, app, Qa, Qc, Qe, Qf, Qg, simprocAttr, il, QaR, hlt, e]
      · simp (maxSteps := 4000000) (disch := omega) only [rr, aop, cV, cV1, AV.one, Qb, okW, Qd, app, Qa, Qc, Qe, Qf, Qg, simprocAttr, il, QaR, hlt, e]
  · have e2 : k = l.length := by omega
    subst e2
    rw [List.take_length] at hg
    simp (maxSteps := 4000000) (disch := omega) only [rr, aop, cV, cV1, AV.one, Qb, okW, Qd, app, Qa, Qc, Qe, Qf, Qg, simprocAttr, il, QG, h0, h1, hg]

theorem Qjm {n : Nat} {c : Int} (h : 1 ≤ c) : 0 ≤ (n : Int) / c ∧ (n : Int) / c ≤ n :=
  ⟨Int.ediv_nonneg (by omega) (by omega), Int.ediv_le_self _ (by omega)⟩

theorem Qas {n : Nat} {c : Int} (h : 1 ≤ c) : 0 ≤ (n : Int) % c ∧ (n : Int) % c < c := ⟨Int.emod_nonneg _ (by omega), Int.emod_lt_of_pos _ (by omega)⟩

end Go.Am

namespace Go.Am
open Go.RowKit

def Qy (r : Int) : Int := if 256 * r / 245 < 1 then 1 else 256 * r / 245
theorem Z8 (r : Int) : 1 ≤ Qy r := by unfold Qy; split <;> omega
theorem Qmu {r : Int} (h : r ≤ 1048576) : Qy r ≤ 1095654 := by unfold Qy; split <;> omega
def Qbk (r : Int) : AV := if r < 1 ∨ 1048576 < r then .tup [.int .i64 0, .int .i64 2] else .tup [.int .i64 (Qy r), .int .i64 0]
def Qbb (P : Prg) (f : Nat) : Prop := ∀ r : Int, VC P f [.int .i64 r] (Qbk r)

theorem QmB (r : Int) : isD (Qbk r) = true := by unfold Qbk; split <;> rfl

theorem Qi1 {P : Prg} {f : Nat} (b : Qj P f 14 [.tmp 2, .tmp 3] ZM) : Qbb P f := by
  intro r
  refine VC.of_acall rfl (QmB r) (ACall.of_body b (by simp) ?_)
  by_cases h1 : r < 1
  · simp (maxSteps := 4000000) (disch := omega) only [rr, aop, cV, cV1, AV.one, Qb, okW, Qd, app, Qa, Qc, Qe, Qf, Qg, simprocAttr, ZM, Qbk, true_or]
  by_cases h2 : 1048576 < r
  · simp (maxSteps := 4000000) (disch := omega) only [rr, aop, cV, cV1, AV.one, Qb, okW, Qd, app, Qa, Qc, Qe, Qf, Qg, simprocAttr, ZM, Qbk, or_true]
  have h3 : 1 ≤ 256 * r / 245 := by omega
  simp (maxSteps := 4000000) (disch := omega) only [rr, aop, cV, cV1, AV.one, Qb, okW, Qd, app, Qa, Qc, Qe, Qf, Qg, simprocAttr, ZM, Qbk, or_self, Qy]
  rw [show (if (1 : Int) < 256 * r / 245 then 256 * r / 245 else 1) = 256 * r / 245 by split <;> omega]

theorem QnA {P : Prg} {f : Nat} (b : Qj P f 17 [.tmp 2, .tmp 3] QY) : Qbb P f := by
  intro r
  refine VC.of_acall rfl (QmB r) (ACall.of_body b (by simp) ?_)
  by_cases h1 : r < 1
  · simp (maxSteps := 4000000) (disch := omega) only [rr, aop, cV, cV1, AV.one, Qb, okW, Qd, app, Qa, Qc, Qe, Qf, Qg, simprocAttr, QY, Qbk, true_or]
  by_cases h2 : 1048576 < r
  · simp (maxSteps := 4000000) (disch := omega) only [rr, aop, cV, cV1, AV.one, Qb, okW, Qd, app, Qa, Qc, Qe, Qf, Qg, simprocAttr, QY, Qbk, or_true]
  have e : r * 256 / 245 = 256 * r / 245 := by rw [Int.mul_comm]
  have h3 : 1 ≤ 256 * r / 245 := by omega
  simp (maxSteps := 4000000) (disch := omega) only [rr, aop, cV, cV1, AV.one, Qb, okW, Qd, app, Qa, Qc, Qe, Qf, Qg, simprocAttr, QY, Qbk, or_self, Qy, e]

def Zh (c b : Int) : Int := if JJ b = 0 ∨ c < 1 ∨ 6 < c then 2 else 0
def shA (c b : Int) : AV := .agg [.int .i64 c, .int .i64 b]
def JA (P : Prg) (f : Nat) : Prop := ∀ c b : Int, VC P f [shA c b] (.int .i64 (Zh c b))

theorem Qhp {P : Prg} {f fR t0 : Nat} (b : Qj P f 25 [.tmp 2] (Ji fR t0)) (hR : Qh3 P fR) : JA P f := by
  intro c x
  refine VC.of_acall rfl rfl (ACall.of_body b (by simp) ?_)
  simp (maxSteps := 4000000) (disch := omega) only [rr, aop, cV, cV1, AV.one, Qb, okW, Qd, app, Qa, Qc, Qe, Qf, Qg, simprocAttr, Ji, shA]
  refine Qh.vc (hR x) ?_
  by_cases h0 : JJ x = 0
  · simp (maxSteps := 4000000) (disch := omega) only [rr, aop, cV, cV1, AV.one, Qb, okW, Qd, app, Qa, Qc, Qe, Qf, Qg, simprocAttr, Qar, h0, Zh, true_or]
  by_cases h1 : c < 1
  · simp (maxSteps := 4000000) (disch := omega) only [rr, aop, cV, cV1, AV.one, Qb, okW, Qd, app, Qa, Qc, Qe, Qf, Qg, simprocAttr, Qar, if_neg h0, Zh, h0, or_true, true_or]
  by_cases h2 : 6 < c
  · simp (maxSteps := 4000000) (disch := omega) only [rr, aop, cV, cV1, AV.one, Qb, okW, Qd, app, Qa, Qc, Qe, Qf, Qg, simprocAttr, Qar, if_neg h0, Zh, h0, or_true]
  · simp (maxSteps := 4000000) (disch := omega) only [rr, aop, cV, cV1, AV.one, Qb, okW, Qd, app, Qa, Qc, Qe, Qf, Qg, simprocAttr, Qar, if_neg h0, Zh, h0, or_self]

theorem QkD {P : Prg} {f fH t0 : Nat} (b : Qj P f 17 [.tmp 2] (QT fH t0)) (hH : QmZ P fH) : JA P f := by
  intro c x
  refine VC.of_acall rfl rfl (ACall.of_body b (by simp) ?_)
  have hx := XL x
  by_cases h1 : c < 1
  · simp (maxSteps := 4000000) (disch := omega) only [rr, aop, cV, cV1, AV.one, Qb, okW, Qd, app, Qa, Qc, Qe, Qf, Qg, simprocAttr, QT, shA, Zh, or_true, true_or]
  by_cases h2 : 6 < c
  · simp (maxSteps := 4000000) (disch := omega) only [rr, aop, cV, cV1, AV.one, Qb, okW, Qd, app, Qa, Qc, Qe, Qf, Qg, simprocAttr, QT, shA, Zh, or_true]
  simp (maxSteps := 4000000) (disch := omega) only [rr, aop, cV, cV1, AV.one, Qb, okW, Qd, app, Qa, Qc, Qe, Qf, Qg, simprocAttr, QT, shA]
  refine Qh.vc (hH x) ?_
  by_cases h0 : JJ x = 0
  · simp (maxSteps := 4000000) (disch := omega) only [rr, aop, cV, cV1, AV.one, Qb, okW, Qd, app, Qa, Qc, Qe, Qf, Qg, simprocAttr, h0, Zh, true_or]
  · simp (maxSteps := 4000000) (disch := omega) only [rr, aop, cV, cV1, AV.one, Qb, okW, Qd, app, Qa, Qc, Qe, Qf, Qg, simprocAttr, h0, Zh, or_self]
end Go.Am

namespace Go.Am
open Go.RowKit

structure Enc where
  ch : Int
  bits : Int
  rate : Int
  pw : List UInt8
  rest : List UInt8
  smp : List Int
  frs : List (List UInt8)
  out : List UInt8
  done : Bool
  err : Int

def bss (l : List (List UInt8)) : AV := .list l.length (l.map bs)
def Qws (e : Enc) : List AV := [.int .i64 e.ch, .int .i64 e.bits, .int .i64 e.rate, .str e.pw, bs e.rest, il e.smp, bss e.frs, bs e.out, .bool e.done, .int .i64 e.err]
theorem Qhl : ∀ l : List (List UInt8), Qu (l.map bs) = true
  | [] => rfl
  | x :: l => by simp [Qu, X8, Qhl l]
theorem Qqf (l : List (List UInt8)) : isD (bss l) = true := by simp [bss, isD, Qhl]
end Go.Am

namespace Go.Am
open Go.RowKit

/-! ### slices.IndexFunc, slices.ContainsFunc at elements of one cell -/

theorem Qc5 : ∀ l : List (List UInt8), X7 (l.map bs) = true
  | [] => rfl
  | x :: l => by
    have : isT (bs x) = true := by simp [bs, isT]; induction x with | nil => rfl | cons y x ih => simp [Qkk, X7, isT, ih]
    simp [X7, this, Qc5 l]

/-! ### feeding -/

end Go.Am

namespace Go.Am
open Go.RowKit

theorem QaQ {α : Type} (f : α → AV) : ∀ l : List α, (l.map fun x => [f x]).flatten = l.map f
  | [] => rfl
  | x :: l => by simp [QaQ f l]

theorem Qhm {L : List (List AV)} (h : ∀ c ∈ L, Qbc (.int .u8) c) : ∃ l : List UInt8, L.length = l.length ∧ AV.list L.length L.flatten = bs l := by
  obtain ⟨l, rfl, _⟩ := QbR (f := fun b : UInt8 => [AV.int .u8 b.toNat]) (q := fun _ => True) h (fun c hc => by
    simp only [Qbc] at hc
    obtain ⟨n, rfl, h1, h2⟩ := hc
    simp only [IntKind.min, IntKind.max, IntKind.signed, IntKind.bits] at h1 h2
    refine ⟨UInt8.ofNat n.toNat, ?_, trivial⟩
    simp at h1 h2
    simp; omega)
  exact ⟨l, by simp, by simp [bs, u8, QaQ]⟩

theorem Qqv {K : IntKind} {L : List (List AV)} (h : ∀ c ∈ L, Qbc (.int K) c) : ∃ l : List Int, L.length = l.length ∧ AV.list L.length L.flatten = .list l.length (ks K l) ∧ ∀ x ∈ l, K.min ≤ x ∧ x ≤ K.max := by
  obtain ⟨l, rfl, h2⟩ := QbR (f := fun n : Int => [AV.int K n]) (q := fun x => K.min ≤ x ∧ x ≤ K.max) h (fun c hc => by
    simp only [Qbc] at hc
    obtain ⟨n, rfl, h1, h2⟩ := hc
    exact ⟨n, rfl, h1, h2⟩)
  exact ⟨l, by simp, by simp [ks, QaQ], h2⟩

def Qvc (P : Program) (t : TypeId) : Bool := match P.underlying t with | some (.struct _) => true | _ => false
def Qvd (P : Program) (t : TypeId) : Bool := match P.underlying t with | some (.array _ _) => true | _ => false
def Qwq (P : Program) (t : TypeId) : Bool := match P.underlying t with | some (.slice _) => true | _ => false
theorem Qsu {P : Program} {t : TypeId} (h : Qvc P t = true) : ∃ fs, P.underlying t = some (.struct fs) := by
  unfold Qvc at h; split at h
  · exact ⟨_, by assumption⟩
  · cases h
theorem QvQ {P : Program} {t : TypeId} (h : Qvd P t = true) : ∃ n e, P.underlying t = some (.array n e) := by
  unfold Qvd at h; split at h
  · exact ⟨_, _, by assumption⟩
  · cases h
theorem Qwb {P : Program} {t : TypeId} (h : Qwq P t = true) : ∃ e, P.underlying t = some (.slice e) := by
  unfold Qwq at h; split at h
  · exact ⟨_, by assumption⟩
  · cases h

end Go.Am

namespace Go.Am
open Go.RowKit

theorem Qjd {L : List (List AV)} (h : ∀ c ∈ L, Qbc (.int .i32) c) : ∃ l : List Int, L.length = l.length ∧ AV.list L.length L.flatten = il l ∧ I32 l := by
  obtain ⟨l, h1, h2, h3⟩ := Qqv h
  exact ⟨l, h1, h2, fun x hx => by have := h3 x hx; simpa [IntKind.min, IntKind.max, IntKind.signed, IntKind.bits] using this⟩

theorem QsG {L : List (List AV)} (h : ∀ c ∈ L, Qbc (.slice (.int .u8)) c) : ∃ l : List (List UInt8), L.length = l.length ∧ AV.list L.length L.flatten = bss l ∧ ∀ x ∈ l, x.length ≤ maxLen := by
  obtain ⟨l, rfl, h2⟩ := QbR (f := fun b : List UInt8 => [bs b]) (q := fun x => x.length ≤ maxLen) h (fun c hc => by
    simp only [Qbc] at hc
    obtain ⟨L', rfl, h1, h2⟩ := hc
    obtain ⟨l, h3, h4⟩ := Qhm h2
    exact ⟨l, by rw [h4], by omega⟩)
  exact ⟨l, by simp, by simp [bss, QaQ], h2⟩

def Qv2 : Sh := .tuple [.int .i64, .int .i64]
def Qvl : Sh := .tuple [Qv2, .int .i64, .str, .slice (.int .u8), .slice (.int .i32), .slice (.slice (.int .u8)), .slice (.int .u8), .bool, .int .i64]

theorem QnN {cs0 : List AV} (h : Qbc Qv2 cs0) : ∃ c b : Int, cs0 = [.int .i64 c, .int .i64 b] := by
  simp only [Qv2, Qbc, Qdm] at h
  obtain ⟨_, _, rfl, ⟨c, rfl, _⟩, _, _, rfl, ⟨b, rfl, _⟩, rfl⟩ := h
  exact ⟨c, b, rfl⟩

theorem QvT {cs0 : List AV} (h : Qbc Qvl cs0) : ∃ e : Enc, cs0 = Qws e ∧ I32 e.smp := by
  simp only [Qvl, Qbc, Qdm] at h
  obtain ⟨_, _, rfl, h1, _, _, rfl, ⟨r, rfl, _⟩, _, _, rfl, ⟨p, rfl, _⟩, _, _, rfl, ⟨L1, rfl, _, h2⟩, _, _, rfl, ⟨L2, rfl, _, h3⟩, _, _, rfl, ⟨L3, rfl, _, h4⟩, _, _, rfl, ⟨L4, rfl, _, h5⟩, _, _, rfl, ⟨d, rfl⟩, _, _, rfl, ⟨x, rfl, _⟩, rfl⟩ := h
  obtain ⟨c, b, rfl⟩ := QnN h1
  obtain ⟨l1, _, e1⟩ := Qhm (L := L1) (fun c hc => by simp only [Qbc]; exact h2 c hc)
  obtain ⟨l2, _, e2, hi⟩ := Qjd (L := L2) (fun c hc => by simp only [Qbc]; exact h3 c hc)
  obtain ⟨l3, _, e3, _⟩ := QsG (L := L3) (fun c hc => by simp only [Qbc]; exact h4 c hc)
  obtain ⟨l4, _, e4⟩ := Qhm (L := L4) (fun c hc => by simp only [Qbc]; exact h5 c hc)
  exact ⟨⟨c, b, r, p, l1, l2, l3, l4, d, x⟩, by simp [Qws, e1, e2, e3, e4], hi⟩
end Go.Am

namespace Go.Am
open Go.RowKit

def w32 (x : Int) : Int := IntKind.i32.wrap x
theorem Qgo (x : Int) : w32 x = (x + 2147483648) % 4294967296 - 2147483648 := by
  simp [w32, IntKind.wrap, IntKind.bits, IntKind.signed]; split <;> omega
theorem Qtv (a b : Int) : w32 (w32 a + w32 b) = w32 (a + b) := by simp only [Qgo]; omega
theorem QgT (a b : Int) : w32 (w32 a + b) = w32 (a + b) := by simp only [Qgo]; omega
theorem QrF (a b : Int) : w32 (a - w32 b) = w32 (a - b) := by simp only [Qgo]; omega
theorem Qtu (a : Int) : w32 (w32 a) = w32 a := by simp only [Qgo]; omega
theorem Qin {a : Int} (h1 : -2147483648 ≤ a) (h2 : a ≤ 2147483647) : w32 a = a := Ql2 h1 h2
theorem XH (a : Int) : -2147483648 ≤ w32 a ∧ w32 a ≤ 2147483647 := by simp only [Qgo]; omega
theorem Xf (x : Int) : IntKind.i32.wrap x = w32 x := rfl

theorem Ze {l : List Int} (h : I32 l) (k : Nat) : -2147483648 ≤ l.getD k 0 ∧ l.getD k 0 ≤ 2147483647 := by
  rw [List.getD_eq_getElem?_getD]
  cases hk : l[k]? with
  | none => simp
  | some v => exact h v (List.mem_of_getElem? hk)

theorem Qtd {K : IntKind} {l : List Int} {k : Nat} (h : k < l.length) : (ks K l)[k]? = some (.int K (l.getD k 0)) := by
  simp [ks, List.getD_eq_getElem?_getD, List.getElem?_eq_getElem h]

structure XY where
  sh : Int
  tp : List Int
  ps : List Int

def Qm (f : XY) : List AV := .int .i64 f.sh :: (ks .i32 f.tp ++ ks .i32 f.ps)
def Qbm (f : XY) : Prop := f.tp.length = 16 ∧ f.ps.length = 16 ∧ I32 f.tp ∧ I32 f.ps

theorem QX {f : XY} (h : Qbm f) : (Qm f).length = 33 := by
  obtain ⟨h1, h2, _⟩ := h
  simp [Qm, Qk, h1, h2]
theorem Q1 (f : XY) : (Qm f).all AV.one = true := by
  simp only [Qm, List.all_cons, List.all_append, X6]; rfl
theorem Zd (f : XY) : Qu (Qm f) = true := by
  have : ∀ a b, Qu (ks .i32 a ++ ks .i32 b) = true := fun a b => by rw [Qfe]; exact Q0 _ _
  simp [Qm, Qu, isD, this]
theorem Qje {f : XY} (h : Qbm f) : ((Qm f).drop 1).take 16 = ks .i32 f.tp := by
  obtain ⟨h1, h2, _⟩ := h
  simp only [Qm, List.drop_succ_cons, List.drop_zero]
  rw [List.take_left' (by simp [Qk, h1])]
theorem QgF {f : XY} (h : Qbm f) : ((Qm f).drop 17).take 16 = ks .i32 f.ps := by
  obtain ⟨h1, h2, _⟩ := h
  simp only [Qm, List.drop_succ_cons]
  rw [List.drop_left' (by simp [Qk, h1]), List.take_of_length_le (by simp [Qk, h2])]
theorem QsH {f : XY} (h : Qbm f) {k : Nat} (hk : k < 16) : (Qm f).drop (1 + k) = .int .i32 (f.tp.getD k 0) :: ((ks .i32 f.tp).drop (k + 1) ++ ks .i32 f.ps) := by
  obtain ⟨h1, h2, _⟩ := h
  rw [Nat.add_comm]
  simp only [Qm, List.drop_succ_cons]
  rw [List.drop_append_of_le_length (by simp [Qk, h1]; omega), QaR (by omega), ← QaP]
  simp [List.getD_eq_getElem?_getD, List.getElem?_eq_getElem (show k < f.tp.length by omega)]
theorem Qqz {f : XY} (h : Qbm f) {k : Nat} (hk : k < 16) : (Qm f).drop (17 + k) = .int .i32 (f.ps.getD k 0) :: (ks .i32 f.ps).drop (k + 1) := by
  obtain ⟨h1, h2, _⟩ := h
  rw [show 17 + k = (16 + k) + 1 by omega]
  simp only [Qm, List.drop_succ_cons]
  rw [← List.drop_drop, List.drop_left' (by simp [Qk, h1]), QaR (by omega), ← QaP]
  simp [List.getD_eq_getElem?_getD, List.getElem?_eq_getElem (show k < f.ps.length by omega)]
theorem QkX {f : XY} (h : Qbm f) {k : Nat} (hk : k < 16) (v : Int) : (Qm f).take (1 + k) ++ [.int .i32 v] ++ (Qm f).drop (1 + k + 1) = Qm { f with tp := f.tp.set k v } := by
  obtain ⟨h1, h2, _⟩ := h
  rw [Nat.add_comm 1 k]
  simp only [Qm, List.take_succ_cons, List.drop_succ_cons, List.cons_append]
  congr 1
  rw [List.take_append_of_le_length (by simp [Qk, h1]; omega), List.drop_append_of_le_length (by simp [Qk, h1]; omega), ← List.append_assoc]
  congr 1
  rw [List.set_eq_take_append_cons_drop, if_pos (by omega)]
  simp [ks]
theorem Qjf {f : XY} (h : Qbm f) {k : Nat} (hk : k < 16) (v : Int) : (Qm f).take (17 + k) ++ [.int .i32 v] ++ (Qm f).drop (17 + k + 1) = Qm { f with ps := f.ps.set k v } := by
  obtain ⟨h1, h2, _⟩ := h
  rw [show 17 + k = (16 + k) + 1 by omega]
  simp only [Qm, List.take_succ_cons, List.drop_succ_cons, List.cons_append]
  congr 1
  have e : (ks .i32 f.tp).length = 16 := by simp [Qk, h1]
  rw [List.take_append, List.take_of_length_le (by omega), e, show 16 + k + 1 = 16 + (k + 1) by omega, ← List.drop_drop, List.drop_left' e, show 16 + k - 16 = k by omega, List.append_assoc, List.append_assoc]
  congr 1
  rw [List.set_eq_take_append_cons_drop, if_pos (by omega)]
  simp [ks]

theorem Qw {α : Type} {l : List α} {n : Nat} (h : l.length ≤ n) : l.take n = l := List.take_of_length_le h

/-! ### taps.New, taps.Check -/

def QaI (b : Int) : Int := if b = 16 then 9 else 10
def z16 : List Int := List.replicate 16 0
def Qhf (b : Int) (t : List Int) : XY := ⟨QaI b, t, z16⟩
def Qig : XY := ⟨0, z16, z16⟩
def QfT (b : Int) (t : List Int) : AV := if JJ b = 0 then .tup [.agg (Qm Qig), .int .i64 2] else .tup [.agg (Qm (Qhf b t)), .int .i64 0]
def QmY (P : Prg) (f : Nat) : Prop := ∀ (b : Int) (t : List Int), t.length = 16 → VC P f [.int .i64 b, .agg (ks .i32 t)] (QfT b t)

theorem Qsv (b : Int) (t : List Int) : isD (QfT b t) = true := by
  unfold QfT; split <;> simp [isD, Qu, Zd]
theorem QaB : Qm Qig = [.int .i64 0, .int .i32 0, .int .i32 0, .int .i32 0, .int .i32 0, .int .i32 0, .int .i32 0, .int .i32 0, .int .i32 0, .int .i32 0, .int .i32 0, .int .i32 0, .int .i32 0, .int .i32 0, .int .i32 0, .int .i32 0, .int .i32 0, .int .i32 0, .int .i32 0, .int .i32 0, .int .i32 0, .int .i32 0, .int .i32 0, .int .i32 0, .int .i32 0, .int .i32 0, .int .i32 0, .int .i32 0, .int .i32 0, .int .i32 0, .int .i32 0, .int .i32 0, .int .i32 0] := rfl

theorem QrM {P : Prg} {f t0 t1 : Nat} (b : Qj P f 18 [.cell 4 t1, .tmp 5] (XN t0 t1)) (ht : ZB P t1 = some (some 33)) : QmY P f := by
  intro x t hl
  have hk : (ks .i32 t).length = 16 := by simp [Qk, hl]
  have h1 := X6 .i32 t
  have tk16 : (ks .i32 t).take 16 = ks .i32 t := Qw (by omega)
  refine VC.of_acall (by simp [Qu, isD, Q0]) (Qsv _ _) (ACall.of_body b (by simp) ?_)
  have fin : ∀ s : Int, .int .i64 s :: (ks .i32 t ++ [.int .i32 0, .int .i32 0, .int .i32 0, .int .i32 0, .int .i32 0, .int .i32 0, .int .i32 0, .int .i32 0, .int .i32 0, .int .i32 0, .int .i32 0, .int .i32 0, .int .i32 0, .int .i32 0, .int .i32 0, .int .i32 0]) = Qm ⟨s, t, z16⟩ := fun _ => rfl
  have hl33 : ∀ s : Int, (Qm ⟨s, t, z16⟩).length = 33 := fun s => by simp [Qm, Qk, hl, z16]
  have ho := fun s => Q1 ⟨s, t, z16⟩
  have tk : ∀ s : Int, (Qm ⟨s, t, z16⟩).take 33 = Qm ⟨s, t, z16⟩ := fun s => Qw (by rw [hl33]; omega)
  have st9 : ([] : List AV) ++ [.int .i64 9] ++ (Qm ⟨10, t, z16⟩).drop 1 = Qm ⟨9, t, z16⟩ := rfl
  have d9 : AV.int .i64 9 :: (Qm ⟨10, t, z16⟩).drop 1 = Qm ⟨9, t, z16⟩ := rfl
  rcases XL x with ⟨rfl, h⟩ | ⟨rfl, h⟩ | ⟨rfl, h⟩ | ⟨h2, h3, h4, h⟩
  · simp (maxSteps := 4000000) (disch := omega) only [rr, aop, cV, cV1, AV.one, Qb, okW, Qd, app, Qa, Qc, Qe, Qf, Qg, simprocAttr, XN, QfT, h, hk, h1, tk16, fin, hl33, ho, tk, ZE, ht, Qhf, QaI]
  · simp (maxSteps := 4000000) (disch := omega) only [rr, aop, cV, cV1, AV.one, Qb, okW, Qd, app, Qa, Qc, Qe, Qf, Qg, simprocAttr, XN, QfT, h, hk, h1, tk16, fin, hl33, ho, tk, ZE, ht, Qhf, QaI, d9]
  · simp (maxSteps := 4000000) (disch := omega) only [rr, aop, cV, cV1, AV.one, Qb, okW, Qd, app, Qa, Qc, Qe, Qf, Qg, simprocAttr, XN, QfT, h, hk, h1, tk16, fin, hl33, ho, tk, ZE, ht, Qhf, QaI]
  · simp (maxSteps := 4000000) (disch := omega) only [rr, aop, cV, cV1, AV.one, Qb, okW, Qd, app, Qa, Qc, Qe, Qf, Qg, simprocAttr, XN, QfT, h, hk, h1, tk16, fin, hl33, ho, tk, ZE, ht, QaB]

def QrA (s : Int) : Int := if s = 9 ∨ s = 10 then 0 else 8
def Qdi (P : Prg) (f : Nat) : Prop := ∀ x : XY, Qbm x → VC P f [.agg (Qm x)] (.int .i64 (QrA x.sh))

theorem QvY : QrA 9 = 0 := rfl
theorem QuQ : QrA 10 = 0 := rfl

/-! ### taps.Guess -/

def Qtk (a b : List Int) : Nat → Int
  | 0 => 0
  | k + 1 => Qtk a b k + a.getD k 0 * b.getD k 0
def QcY (s : Int) : Int := if s = 9 then 512 else 1024
def Qi8 (f : XY) : Int := w32 (QcY f.sh / 2 + Qtk f.tp f.ps 16) / QcY f.sh
def QeH (P : Prg) (f : Nat) : Prop := ∀ x : XY, Qbm x → x.sh = 9 ∨ x.sh = 10 → VC P f [.agg (Qm x)] (.tup [.int .i32 (Qi8 x), .int .i64 0])

theorem QtM : Qn true .i32 1 8 = some (.int .i32 256) := rfl
theorem QtL : Qn true .i32 1 9 = some (.int .i32 512) := rfl
theorem QtH (s : Int) : Qn false .i32 s 9 = some (.int .i32 (s / 512)) := by
  show some (AV.int .i32 (s.fdiv 512)) = _
  rw [Int.fdiv_eq_ediv_of_nonneg _ (by omega)]
theorem QrZ (s : Int) : Qn false .i32 s 10 = some (.int .i32 (s / 1024)) := by
  show some (AV.int .i32 (s.fdiv 1024)) = _
  rw [Int.fdiv_eq_ediv_of_nonneg _ (by omega)]

theorem Qnl {P : Prg} {f fC t0 : Nat} (b : Qj P f 36 [.tmp 2, .tmp 3] (Qa2 fC t0)) (hC : Qdi P fC) : QeH P f := by
  intro x hx hs
  have l33 := QX hx
  have tk : (Qm x).take 33 = Qm x := Qw (by omega)
  have ho := Q1 x
  have e1 := Qje hx
  have e0 : (Qm x).drop 0 = .int .i64 x.sh :: (ks .i32 x.tp ++ ks .i32 x.ps) := rfl
  have ht : QrA x.sh = 0 := by simp [QrA, hs]
  have hl := hx.1
  refine VC.of_acall (by simp [Qu, isD, Zd]) rfl (ACall.of_body b (by simp) ?_)
  simp (maxSteps := 4000000) (disch := omega) only [rr, aop, cV, cV1, AV.one, Qb, okW, Qd, app, Qa, Qc, Qe, Qf, Qg, simprocAttr, Qa2, l33, tk, ho]
  refine Qh.vc (hC x hx) ?_
  rcases hs with h | h
  all_goals
    have z0 : w32 (QcY x.sh / 2 + Qtk x.tp x.ps 0) = QcY x.sh / 2 := by simp only [Qtk, Int.add_zero]; exact Qin (by simp [QcY, h]) (by simp [QcY, h])
    have z1 : QcY x.sh = 512 ∧ x.sh = 9 ∨ QcY x.sh = 1024 ∧ x.sh = 10 := by simp [QcY, h]
    simp (maxSteps := 4000000) (disch := omega) only [rr, aop, cV, cV1, AV.one, Qb, okW, Qd, app, Qa, Qc, Qe, Qf, Qg, simprocAttr, l33, tk, ho, QvY, QuQ, e1, ↓e0, h, QtM, QtL]
    refine QW.by (ι := Nat) (fun k => ⟨[(19, .int .i64 k), (18, .agg (ks .i32 x.tp)), (5, .int .i32 (w32 (QcY x.sh / 2 + Qtk x.tp x.ps k))), (1, .ref 0 1 0)], [⟨t0, 33, 1, Qm x, 0⟩]⟩) (fun k => k ≤ 16) (fun k => 16 - k) 0 (Le.slots (by rw [z0]; simp [Am.look, h, QcY])) (by omega) ?_
    intro k hk
    by_cases hlt : k < 16
    · have e2 := Qqz hx hlt
      have e3 := Qtd (K := .i32) (l := x.tp) (k := k) (by omega)
      have e4 : w32 (w32 (QcY x.sh / 2 + Qtk x.tp x.ps k) + w32 (x.tp.getD k 0 * x.ps.getD k 0)) = w32 (QcY x.sh / 2 + Qtk x.tp x.ps (k + 1)) := by
        rw [Qtv]; simp only [Qtk]; congr 1; omega
      simp (maxSteps := 4000000) (disch := omega) only [rr, aop, cV, cV1, AV.one, Qb, okW, Qd, app, Qa, Qc, Qe, Qf, Qg, simprocAttr, l33, e2, e3, Xf, e4]
      exact ⟨k + 1, by omega, by omega, Le.slots (by simp [Am.look])⟩
    · have e : k = 16 := by omega
      subst e
      simp (maxSteps := 4000000) (disch := omega) only [rr, aop, cV, cV1, AV.one, Qb, okW, Qd, app, Qa, Qc, Qe, Qf, Qg, simprocAttr, ↓e0, h, QtH, QrZ, Qi8, QcY]
/-! ### taps.Learn, taps.Push -/

theorem Qnm {P : Prg} {f t0 : Nat} (b : Qj P f 11 [.tmp 2] (Xw t0)) : Qdi P f := by
  intro x hx
  have l33 := QX hx
  have ho := Q1 x
  have e0 : (Qm x).drop 0 = .int .i64 x.sh :: (ks .i32 x.tp ++ ks .i32 x.ps) := rfl
  refine VC.of_acall (by simp [Qu, isD, Zd]) rfl (ACall.of_body b (by simp) ?_)
  by_cases h9 : x.sh = 9
  · simp (maxSteps := 4000000) (disch := omega) only [rr, aop, cV, cV1, AV.one, Qb, okW, Qd, app, Qa, Qc, Qe, Qf, Qg, simprocAttr, Xw, l33, ho, ↓e0, h9, QrA]
  by_cases h10 : x.sh = 10
  · simp (maxSteps := 4000000) (disch := omega) only [rr, aop, cV, cV1, AV.one, Qb, okW, Qd, app, Qa, Qc, Qe, Qf, Qg, simprocAttr, Xw, l33, ho, ↓e0, h10, QrA]
  · simp (maxSteps := 4000000) (disch := omega) only [rr, aop, cV, cV1, AV.one, Qb, okW, Qd, app, Qa, Qc, Qe, Qf, Qg, simprocAttr, Xw, l33, ho, ↓e0, QrA]

def Qko (i : Nat) : Int := if i = 0 then 4 else if i < 4 then 2 else 1
def QlK (P : Prg) (f : Nat) : Prop := ∀ i : Nat, VC P f [.int .i64 i] (.int .i32 (Qko i))
theorem Qo0 {P : Prg} {f : Nat} (b : Qj P f 9 [.tmp 2] X9) : QlK P f := by
  intro i
  refine VC.of_acall rfl rfl (ACall.of_body b (by simp) ?_)
  by_cases h0 : i = 0
  · subst h0; simp (maxSteps := 4000000) (disch := omega) only [rr, aop, cV, cV1, AV.one, Qb, okW, Qd, app, Qa, Qc, Qe, Qf, Qg, simprocAttr, X9, Qko, Int.natCast_zero]
  by_cases h1 : i < 4
  · simp (maxSteps := 4000000) (disch := omega) only [rr, aop, cV, cV1, AV.one, Qb, okW, Qd, app, Qa, Qc, Qe, Qf, Qg, simprocAttr, X9, Qko, h0]
  · simp (maxSteps := 4000000) (disch := omega) only [rr, aop, cV, cV1, AV.one, Qb, okW, Qd, app, Qa, Qc, Qe, Qf, Qg, simprocAttr, X9, Qko, h0]

end Go.Am

namespace Go.Am
open Go.RowKit

def sgn (x : Int) : Int := if x < 0 then -1 else if 0 < x then 1 else 0
def QrI (x : XY) (w : Int) (k : Nat) : Int := w32 (x.tp.getD k 0 + Qko k * sgn (x.ps.getD k 0) * sgn w)
def XF (x : XY) (w : Int) (k : Nat) : List Int := (List.range 16).map fun i => if i < k then QrI x w i else x.tp.getD i 0
def lf (x : XY) (w : Int) (k : Nat) : XY := { x with tp := XF x w k }
def J0 (x : XY) (w : Int) : XY := lf x w 16

theorem QnD {l : List Int} (h : l.length = 16) : (List.range 16).map (fun i => l.getD i 0) = l := by
  apply List.ext_getElem (by simp [h])
  intro i h1 h2
  simp [List.getD_eq_getElem?_getD, List.getElem?_eq_getElem h2]
theorem Qp2 (x : XY) (w : Int) (k : Nat) : (XF x w k).length = 16 := by simp [XF]
theorem QgA {x : XY} (h : Qbm x) (w : Int) : XF x w 0 = x.tp := by
  have := QnD h.1
  simpa [XF] using this
theorem QnJ (x : XY) (w : Int) {k : Nat} (hk : k < 16) : (XF x w k).getD k 0 = x.tp.getD k 0 := by
  simp [XF, List.getD_eq_getElem?_getD, hk]
theorem Qp1 (x : XY) (w : Int) {k : Nat} (hk : k < 16) : (XF x w k).set k (QrI x w k) = XF x w (k + 1) := by
  apply List.ext_getElem (by simp [XF])
  intro i h1 h2
  rw [List.getElem_set]
  simp only [XF, List.getElem_map, List.getElem_range]
  by_cases e : k = i
  · subst e; simp
  · rw [if_neg e]
    by_cases h : i < k
    · rw [if_pos h, if_pos (by omega)]
    · rw [if_neg h, if_neg (by omega)]
theorem QgB (x : XY) (w : Int) {k : Nat} (h : QrI x w k = x.tp.getD k 0) : XF x w (k + 1) = XF x w k := by
  simp only [XF]
  apply List.map_congr_left
  intro i _
  by_cases e : i = k
  · subst e; simp [h]
  · by_cases h : i < k
    · rw [if_pos h, if_pos (by omega)]
    · rw [if_neg h, if_neg (by omega)]
theorem Qrx {x : XY} (h : Qbm x) (w : Int) (k : Nat) : I32 (XF x w k) := by
  intro v hv
  simp only [XF, List.mem_map] at hv
  obtain ⟨i, _, rfl⟩ := hv
  split
  · exact XH _
  · exact Ze h.2.2.1 i
theorem QiX {x : XY} (h : Qbm x) (w : Int) (k : Nat) : Qbm (lf x w k) := ⟨Qp2 x w k, h.2.1, Qrx h w k, h.2.2.2⟩
theorem QeA {x : XY} (h : Qbm x) (w : Int) : Qbm (J0 x w) := QiX h w 16
theorem Qsn {x : XY} (h : Qbm x) : J0 x 0 = x := by
  have key : ∀ k, XF x 0 k = x.tp := fun k => by
    induction k with
    | zero => exact QgA h 0
    | succ k ih =>
      rw [QgB x 0, ih]
      have := Ze h.2.2.1 k
      simp only [QrI, sgn]
      simp
      exact Qin (by simpa using this.1) (by simpa using this.2)
  simp [J0, lf, key]

def Qh2 (P : Prg) (f : Nat) : Prop := ∀ (x : XY) (w : Int), Qbm x → x.sh = 9 ∨ x.sh = 10 → VC P f [.agg (Qm x), .int .i32 w] (.tup [.agg (Qm (J0 x w)), .int .i64 0])

theorem QoZ {s : Int} (h : s = 9 ∨ s = 10) : QrA s = 0 := by simp [QrA, h]

theorem Qnk {P : Prg} {f fC fS t0 : Nat} (b : Qj P f 53 [.cell 4 t0, .tmp 5] (Qa1 fC fS t0)) (ht : ZB P t0 = some (some 33)) (hC : Qdi P fC) (hS : QlK P fS) : Qh2 P f := by
  intro x w hx hs
  have l33 := QX hx
  have tk : (Qm x).take 33 = Qm x := Qw (by omega)
  have ho := Q1 x
  have hc := QoZ hs
  have pp := QgF hx
  have lw := QX (QeA hx w)
  have tkw : (Qm (J0 x w)).take 33 = Qm (J0 x w) := Qw (by omega)
  have how := Q1 (J0 x w)
  refine VC.of_acall (by simp [Qu, isD, Zd]) (by simp [isD, Qu, Zd]) (ACall.of_body b (by simp) ?_)
  simp (maxSteps := 4000000) (disch := omega) only [rr, aop, cV, cV1, AV.one, Qb, okW, Qd, app, Qa, Qc, Qe, Qf, Qg, simprocAttr, Qa1, l33, tk, ho]
  refine Qh.vc (hC x hx) ?_
  by_cases hw : w = 0
  · subst hw
    have e := Qsn hx
    simp (maxSteps := 4000000) (disch := omega) only [rr, aop, cV, cV1, AV.one, Qb, okW, Qd, app, Qa, Qc, Qe, Qf, Qg, simprocAttr, l33, tk, ho, hc, ZE, ht, e]
  simp (maxSteps := 4000000) (disch := omega) only [rr, aop, cV, cV1, AV.one, Qb, okW, Qd, app, Qa, Qc, Qe, Qf, Qg, simprocAttr, l33, tk, ho, hc, pp]
  refine QW.by (ι := Nat) (fun k => ⟨[(20, .int .i64 k), (19, .agg (ks .i32 x.ps)), (4, .ref 1 1 0), (2, .ref 0 1 0), (1, .int .i32 w), (5, .int .i64 0)], [⟨t0, 33, 1, Qm (lf x w k), 0⟩, ⟨t0, 33, 1, Qm Qig, 0⟩]⟩) (fun k => k ≤ 16) (fun k => 16 - k) 0 (by rw [show lf x w 0 = x by simp [lf, QgA hx]]; exact Le.slots (by simp [Am.look])) (by omega) ?_
  intro k hk
  by_cases hlt : k < 16
  · have hok := QiX hx w k
    have e1 := Qtd (K := .i32) (l := x.ps) (k := k) (by have := hx.2.1; omega)
    have e2 := QsH hok hlt
    have e3 := fun v => QkX hok hlt v
    have e4 := QnJ x w hlt
    have e5 := QX hok
    have hu := Qp1 x w hlt
    have hp := Ze hx.2.2.2 k
    have htp := Ze hx.2.2.1 k
    have ef : ∀ v, ({ lf x w k with tp := (lf x w k).tp.set k v } : XY) = { x with tp := (XF x w k).set k v } := fun _ => rfl
    have e7 : (lf x w k).tp.getD k 0 = x.tp.getD k 0 := e4
    by_cases p0 : x.ps.getD k 0 = 0
    · have e6 := QgB x w (k := k) (by simp only [QrI, p0, sgn]; simp; exact Qin (by simpa using htp.1) (by simpa using htp.2))
      simp (maxSteps := 4000000) (disch := omega) only [rr, aop, cV, cV1, AV.one, Qb, okW, Qd, app, Qa, Qc, Qe, Qf, Qg, simprocAttr, e1, p0]
      exact ⟨k + 1, by omega, by omega, by rw [show lf x w (k + 1) = lf x w k by simp [lf, e6]]; exact Le.slots (by simp [Am.look])⟩
    · by_cases hsame : (x.ps.getD k 0 < 0 ↔ w < 0)
      · have e6 : QrI x w k = w32 (x.tp.getD k 0 + Qko k) := by
          simp only [QrI, sgn]; congr 1
          by_cases q : w < 0
          · rw [if_pos q, if_pos (hsame.2 q)]; omega
          · rw [if_neg q, if_neg (fun h => q (hsame.1 h)), if_pos (by omega), if_pos (by omega)]; omega
        rw [e6] at hu
        by_cases q : w < 0
        · have q2 := hsame.2 q
          simp (maxSteps := 4000000) (disch := omega) only [rr, aop, cV, cV1, AV.one, Qb, okW, Qd, app, Qa, Qc, Qe, Qf, Qg, simprocAttr, e1, e2, e7]
          refine Zf.vc (hS k) ?_
          simp (maxSteps := 4000000) (disch := omega) only [rr, aop, cV, cV1, AV.one, Qb, okW, Qd, app, Qa, Qc, Qe, Qf, Qg, simprocAttr, e3, e5, Xf, ef, hu]
          exact ⟨k + 1, by omega, by omega, Le.slots (by simp [Am.look])⟩
        · have q2 : ¬ x.ps.getD k 0 < 0 := fun h => q (hsame.1 h)
          simp (maxSteps := 4000000) (disch := omega) only [rr, aop, cV, cV1, AV.one, Qb, okW, Qd, app, Qa, Qc, Qe, Qf, Qg, simprocAttr, e1, e2, e7]
          refine Zf.vc (hS k) ?_
          simp (maxSteps := 4000000) (disch := omega) only [rr, aop, cV, cV1, AV.one, Qb, okW, Qd, app, Qa, Qc, Qe, Qf, Qg, simprocAttr, e3, e5, Xf, ef, hu]
          exact ⟨k + 1, by omega, by omega, Le.slots (by simp [Am.look])⟩
      · have e6 : QrI x w k = w32 (x.tp.getD k 0 - Qko k) := by
          simp only [QrI, sgn]; congr 1
          by_cases q : w < 0
          · rw [if_pos q, if_neg (fun h => hsame ⟨fun _ => q, fun _ => h⟩), if_pos (by omega)]; omega
          · rw [if_neg q, if_pos (Classical.byContradiction fun h => hsame ⟨fun h' => absurd h' h, fun h' => absurd h' q⟩), if_pos (by omega)]; omega
        rw [e6] at hu
        by_cases q : w < 0
        · have q2 : ¬ x.ps.getD k 0 < 0 := fun h => hsame ⟨fun _ => q, fun _ => h⟩
          simp (maxSteps := 4000000) (disch := omega) only [rr, aop, cV, cV1, AV.one, Qb, okW, Qd, app, Qa, Qc, Qe, Qf, Qg, simprocAttr, e1, e2, e7]
          refine Zf.vc (hS k) ?_
          simp (maxSteps := 4000000) (disch := omega) only [rr, aop, cV, cV1, AV.one, Qb, okW, Qd, app, Qa, Qc, Qe, Qf, Qg, simprocAttr, e3, e5, Xf, ef, hu]
          exact ⟨k + 1, by omega, by omega, Le.slots (by simp [Am.look])⟩
        · have q2 : x.ps.getD k 0 < 0 := Classical.byContradiction fun h => hsame ⟨fun h' => absurd h' h, fun h' => absurd h' q⟩
          simp (maxSteps := 4000000) (disch := omega) only [rr, aop, cV, cV1, AV.one, Qb, okW, Qd, app, Qa, Qc, Qe, Qf, Qg, simprocAttr, e1, e2, e7]
          refine Zf.vc (hS k) ?_
          simp (maxSteps := 4000000) (disch := omega) only [rr, aop, cV, cV1, AV.one, Qb, okW, Qd, app, Qa, Qc, Qe, Qf, Qg, simprocAttr, e3, e5, Xf, ef, hu]
          exact ⟨k + 1, by omega, by omega, Le.slots (by simp [Am.look])⟩
  · have e : k = 16 := by omega
    subst e
    have hF : lf x w 16 = J0 x w := rfl
    rw [hF]
    simp (maxSteps := 4000000) (disch := omega) only [rr, aop, cV, cV1, AV.one, Qb, okW, Qd, app, Qa, Qc, Qe, Qf, Qg, simprocAttr, lw, tkw, how, ZE, ht, QaB]
/-! ### taps.Push -/

def QfZ (x : XY) (v : Int) : XY := { x with ps := v :: x.ps.take 15 }
theorem QpR {x : XY} (h : Qbm x) {v : Int} (hv : -2147483648 ≤ v ∧ v ≤ 2147483647) : Qbm (QfZ x v) := by
  obtain ⟨h1, h2, h3, h4⟩ := h
  refine ⟨h1, by simp [QfZ, h2], h3, fun y hy => ?_⟩
  simp only [QfZ, List.mem_cons] at hy
  rcases hy with rfl | hy
  · exact hv
  · exact h4 y (List.mem_of_mem_take hy)

def QlL (P : Prg) (f : Nat) : Prop := ∀ (x : XY) (v : Int), Qbm x → x.sh = 9 ∨ x.sh = 10 → VC P f [.agg (Qm x), .int .i32 v] (.tup [.agg (Qm (QfZ x v)), .int .i64 0])

theorem Qo1 {P : Prg} {f fC t0 : Nat} (b : Qj P f 22 [.cell 4 t0, .tmp 5] (QbE fC t0)) (ht : ZB P t0 = some (some 33)) (hC : Qdi P fC) : QlL P f := by
  intro x v hx hs
  have l33 := QX hx
  have tk : (Qm x).take 33 = Qm x := Qw (by omega)
  have ho := Q1 x
  have hc := QoZ hs
  have pp := QgF hx
  have h16 : (ks .i32 x.ps).length = 16 := by simp [Qk, hx.2.1]
  have o16 := X6 .i32 x.ps
  refine VC.of_acall (by simp [Qu, isD, Zd]) (by simp [isD, Qu, Zd]) (ACall.of_body b (by simp) ?_)
  simp (maxSteps := 4000000) (disch := omega) only [rr, aop, cV, cV1, AV.one, Qb, okW, Qd, app, Qa, Qc, Qe, Qf, Qg, simprocAttr, QbE, l33, tk, ho]
  refine Qh.vc (hC x hx) ?_
  have hm : Nat.min 16 15 = 15 := rfl
  let y : XY := { x with ps := x.ps.getD 0 0 :: x.ps.take 15 }
  have hy : Qbm y := QpR hx (Ze hx.2.2.2 0)
  have hcp : (Qm x).take 18 ++ (ks .i32 x.ps).take 15 ++ (Qm x).drop 33 = Qm y := by
    have e1 : (Qm x).drop 33 = [] := List.drop_eq_nil_of_le (by omega)
    have e2 : (ks .i32 x.tp).length = 16 := by simp [Qk, hx.1]
    have e3 : (ks .i32 x.ps).take 1 = [.int .i32 (x.ps.getD 0 0)] := by
      have h1 : 0 < x.ps.length := by have := hx.2.1; omega
      match hps : x.ps, h1 with
      | a :: l, _ => rfl
    rw [e1, List.append_nil]
    simp only [Qm, List.take_succ_cons, List.cons_append, y]
    congr 1
    rw [List.take_append, List.take_of_length_le (by omega), e2, e3, List.append_assoc, Qt4]
    rfl
  have hset : (Qm y).take 17 ++ [.int .i32 v] ++ (Qm y).drop 18 = Qm (QfZ x v) := Qjf hy (k := 0) (by omega) v
  have ly := QX hy
  have lp : (Qm (QfZ x v)).length = 33 := by rw [← hset]; simp [ly]
  have tkp : (Qm (QfZ x v)).take 33 = Qm (QfZ x v) := Qw (by omega)
  have op := Q1 (QfZ x v)
  simp (maxSteps := 4000000) (disch := omega) only [rr, aop, cV, cV1, AV.one, Qb, okW, Qd, app, Qa, Qc, Qe, Qf, Qg, simprocAttr, l33, tk, ho, hc, pp, h16, o16, hm, hcp, hset, ly, lp, tkp, op, ZE, ht, QaB]
end Go.Am

namespace Go.Am
open Go.RowKit

def Xv (x : XY) (v y : Int) : XY := QfZ (J0 x y) v
theorem Qbx {x : XY} (h : Qbm x) {v : Int} (hv : -2147483648 ≤ v ∧ v ≤ 2147483647) (y : Int) : Qbm (Xv x v y) := QpR (QeA h y) hv
def Qdl (P : Prg) (f : Nat) : Prop := ∀ (x : XY) (v y : Int), Qbm x → x.sh = 9 ∨ x.sh = 10 → -2147483648 ≤ v ∧ v ≤ 2147483647 → VC P f [.agg (Qm x), .int .i32 v, .int .i32 y] (.agg (Qm (Xv x v y)))

theorem QnI {P : Prg} {f fL fP t0 : Nat} (b : Qj P f 20 [.cell 6 t0] (Qa3 fL fP t0)) (ht : ZB P t0 = some (some 33)) (hL : Qh2 P fL) (hP : QlL P fP) : Qdl P f := by
  intro x v y hx hs hv
  have l1 := QX hx
  have t1 : (Qm x).take 33 = Qm x := Qw (by omega)
  have o1 := Q1 x
  have l2 := QX (QeA hx y)
  have t2 : (Qm (J0 x y)).take 33 = Qm (J0 x y) := Qw (by omega)
  have o2 := Q1 (J0 x y)
  have l3 := QX (Qbx hx hv y)
  have t3 : (Qm (Xv x v y)).take 33 = Qm (Xv x v y) := Qw (by omega)
  have o3 := Q1 (Xv x v y)
  have d1 : (Qm x).drop 33 = [] := List.drop_eq_nil_of_le (by omega)
  have d2 : (Qm (J0 x y)).drop 33 = [] := List.drop_eq_nil_of_le (by omega)
  refine VC.of_acall (by simp [Qu, isD, Zd]) (by simp [isD, Zd]) (ACall.of_body b (by simp) ?_)
  simp (maxSteps := 4000000) (disch := omega) only [rr, aop, cV, cV1, AV.one, Qb, okW, Qd, app, Qa, Qc, Qe, Qf, Qg, simprocAttr, Qa3, l1, t1, o1]
  refine Qh.vc (hL x y hx hs) ?_
  simp (maxSteps := 4000000) (disch := omega) only [rr, aop, cV, cV1, AV.one, Qb, okW, Qd, app, Qa, Qc, Qe, Qf, Qg, simprocAttr, l1, t1, o1, l2, t2, o2, d1]
  refine Qh.vc (hP (J0 x y) v (QeA hx y) hs) ?_
  rw [← Xv]
  simp (maxSteps := 4000000) (disch := omega) only [rr, aop, cV, cV1, AV.one, Qb, okW, Qd, app, Qa, Qc, Qe, Qf, Qg, simprocAttr, l1, t1, o1, l2, t2, o2, l3, t3, o3, d1, d2, ZE, ht, QaB]

def Qow (x : XY) (v : Int) : Int := w32 (v - Qi8 x)
def Qvf (x : XY) (v : Int) : XY := Xv x v (Qow x v)
def QdO (P : Prg) (f : Nat) : Prop := ∀ (x : XY) (v : Int), Qbm x → x.sh = 9 ∨ x.sh = 10 → -2147483648 ≤ v ∧ v ≤ 2147483647 → VC P f [.agg (Qm x), .int .i32 v] (.tup [.int .i32 (Qow x v), .agg (Qm (Qvf x v)), .int .i64 0])

theorem QkM {P : Prg} {f fG fB t0 : Nat} (b : Qj P f 27 [.tmp 4, .cell 5 t0, .tmp 6] (Qah fG fB t0)) (ht : ZB P t0 = some (some 33)) (hG : QeH P fG) (hB : Qdl P fB) : QdO P f := by
  intro x v hx hs hv
  have l1 := QX hx
  have t1 : (Qm x).take 33 = Qm x := Qw (by omega)
  have o1 := Q1 x
  have l3 := QX (Qbx hx hv (Qow x v))
  have t3 : (Qm (Xv x v (Qow x v))).take 33 = Qm (Xv x v (Qow x v)) := Qw (by omega)
  have o3 := Q1 (Xv x v (Qow x v))
  refine VC.of_acall (by simp [Qu, isD, Zd]) (by simp [isD, Qu, Zd]) (ACall.of_body b (by simp) ?_)
  simp (maxSteps := 4000000) (disch := omega) only [rr, aop, cV, cV1, AV.one, Qb, okW, Qd, app, Qa, Qc, Qe, Qf, Qg, simprocAttr, Qah, l1, t1, o1]
  refine Qh.vc (hG x hx hs) ?_
  simp (maxSteps := 4000000) (disch := omega) only [rr, aop, cV, cV1, AV.one, Qb, okW, Qd, app, Qa, Qc, Qe, Qf, Qg, simprocAttr, l1, t1, o1, Xf]
  refine Qh.vc (hB x v (Qow x v) hx hs hv) ?_
  simp only [Qow] at l3 t3 o3
  simp (maxSteps := 4000000) (disch := omega) only [rr, aop, cV, cV1, AV.one, Qb, okW, Qd, app, Qa, Qc, Qe, Qf, Qg, simprocAttr, l1, t1, o1, l3, t3, o3, ZE, ht, QaB, Qvf, Qow]

def Qog (x : XY) (y : Int) : Int := w32 (y + Qi8 x)
def Qvz (x : XY) (y : Int) : XY := Xv x (Qog x y) y
def QlO (P : Prg) (f : Nat) : Prop := ∀ (x : XY) (y : Int), Qbm x → x.sh = 9 ∨ x.sh = 10 → VC P f [.agg (Qm x), .int .i32 y] (.tup [.int .i32 (Qog x y), .agg (Qm (Qvz x y)), .int .i64 0])

theorem Qsl {P : Prg} {f fG fB t0 : Nat} (b : Qj P f 27 [.tmp 4, .cell 5 t0, .tmp 6] (QcA fG fB t0)) (ht : ZB P t0 = some (some 33)) (hG : QeH P fG) (hB : Qdl P fB) : QlO P f := by
  intro x y hx hs
  have hv := XH (y + Qi8 x)
  have l1 := QX hx
  have t1 : (Qm x).take 33 = Qm x := Qw (by omega)
  have o1 := Q1 x
  have l3 := QX (Qbx hx hv y)
  have t3 : (Qm (Xv x (Qog x y) y)).take 33 = Qm (Xv x (Qog x y) y) := Qw (by unfold Qog; omega)
  have o3 := Q1 (Xv x (Qog x y) y)
  refine VC.of_acall (by simp [Qu, isD, Zd]) (by simp [isD, Qu, Zd]) (ACall.of_body b (by simp) ?_)
  simp (maxSteps := 4000000) (disch := omega) only [rr, aop, cV, cV1, AV.one, Qb, okW, Qd, app, Qa, Qc, Qe, Qf, Qg, simprocAttr, QcA, l1, t1, o1]
  refine Qh.vc (hG x hx hs) ?_
  simp (maxSteps := 4000000) (disch := omega) only [rr, aop, cV, cV1, AV.one, Qb, okW, Qd, app, Qa, Qc, Qe, Qf, Qg, simprocAttr, l1, t1, o1, Xf]
  refine Qh.vc (hB x (Qog x y) y hx hs hv) ?_
  simp only [Qog] at l3 t3 o3
  simp (maxSteps := 4000000) (disch := omega) only [rr, aop, cV, cV1, AV.one, Qb, okW, Qd, app, Qa, Qc, Qe, Qf, Qg, simprocAttr, l1, t1, o1, l3, t3, o3, ZE, ht, QaB, Qvz, Qog]

/-! ### first -/

def Qci (b last : Int) : Int := if b = 8 then 15 * last / 16 else 31 * last / 32
def Qh7 (P : Prg) (f : Nat) : Prop := ∀ b : Int, JJ b ≠ 0 → VC P f [.int .i64 b] (.tup [.int .i64 (if b = 8 then 4 else 5), .int .i64 0])
theorem QkV {P : Prg} {f : Nat} (b : Qj P f 10 [.tmp 2, .tmp 3] Xd) : Qh7 P f := by
  intro x hx
  refine VC.of_acall rfl rfl (ACall.of_body b (by simp) ?_)
  rcases XL x with ⟨rfl, h⟩ | ⟨rfl, h⟩ | ⟨rfl, h⟩ | ⟨h2, h3, h4, h⟩
  · simp (maxSteps := 4000000) (disch := omega) only [rr, aop, cV, cV1, AV.one, Qb, okW, Qd, app, Qa, Qc, Qe, Qf, Qg, simprocAttr, Xd]
  · simp (maxSteps := 4000000) (disch := omega) only [rr, aop, cV, cV1, AV.one, Qb, okW, Qd, app, Qa, Qc, Qe, Qf, Qg, simprocAttr, Xd]
  · simp (maxSteps := 4000000) (disch := omega) only [rr, aop, cV, cV1, AV.one, Qb, okW, Qd, app, Qa, Qc, Qe, Qf, Qg, simprocAttr, Xd]
  · exact absurd h hx

theorem QtK {x : Int} (h : -2147483648 ≤ x ∧ x ≤ 2147483647) : Qn true .i64 x 4 = some (.int .i64 (x * 16)) := by
  show some (AV.int .i64 (IntKind.i64.wrap (x * 16))) = _
  rw [QaD (by omega) (by omega)]
theorem QtJ {x : Int} (h : -2147483648 ≤ x ∧ x ≤ 2147483647) : Qn true .i64 x 5 = some (.int .i64 (x * 32)) := by
  show some (AV.int .i64 (IntKind.i64.wrap (x * 32))) = _
  rw [QaD (by omega) (by omega)]
theorem QtG (x : Int) : Qn false .i64 x 4 = some (.int .i64 (x / 16)) := by
  show some (AV.int .i64 (x.fdiv 16)) = _
  rw [Int.fdiv_eq_ediv_of_nonneg _ (by omega)]
theorem QtF (x : Int) : Qn false .i64 x 5 = some (.int .i64 (x / 32)) := by
  show some (AV.int .i64 (x.fdiv 32)) = _
  rw [Int.fdiv_eq_ediv_of_nonneg _ (by omega)]

def Qh6 (P : Prg) (f : Nat) : Prop := ∀ (b l : Int), -2147483648 ≤ l ∧ l ≤ 2147483647 → VC P f [.int .i64 (if b = 8 then 4 else 5), .int .i32 l] (.int .i32 (Qci b l))
theorem QkU {P : Prg} {f : Nat} (b : Qj P f 16 [.tmp 4] XU) : Qh6 P f := by
  intro x l hl
  refine VC.of_acall rfl rfl (ACall.of_body b (by simp) ?_)
  have e1 : l * 16 - l = 15 * l := by omega
  have e2 : l * 32 - l = 31 * l := by omega
  have a := QtK hl
  have c := QtJ hl
  by_cases h : x = 8
  · simp (maxSteps := 4000000) (disch := omega) only [rr, aop, cV, cV1, AV.one, Qb, okW, Qd, app, Qa, Qc, Qe, Qf, Qg, simprocAttr, XU, h, Qci, a, QtG, e1]
  · simp (maxSteps := 4000000) (disch := omega) only [rr, aop, cV, cV1, AV.one, Qb, okW, Qd, app, Qa, Qc, Qe, Qf, Qg, simprocAttr, XU, if_neg h, Qci, c, QtF, e2]

def QeK (P : Prg) (f : Nat) : Prop := ∀ (b l : Int), JJ b ≠ 0 → -2147483648 ≤ l ∧ l ≤ 2147483647 → VC P f [.int .i64 b, .int .i32 l] (.tup [.int .i32 (Qci b l), .int .i64 0])
theorem QkW {P : Prg} {f fS fg : Nat} (b : Qj P f 19 [.tmp 4, .tmp 5] (Qaj fS fg)) (hS : Qh7 P fS) (hg : Qh6 P fg) : QeK P f := by
  intro x l hx hl
  refine VC.of_acall rfl rfl (ACall.of_body b (by simp) ?_)
  simp (maxSteps := 4000000) (disch := omega) only [rr, aop, cV, cV1, AV.one, Qb, okW, Qd, app, Qa, Qc, Qe, Qf, Qg, simprocAttr, Qaj]
  refine Qh.vc (hS x hx) ?_
  simp (maxSteps := 4000000) (disch := omega) only [rr, aop, cV, cV1, AV.one, Qb, okW, Qd, app, Qa, Qc, Qe, Qf, Qg, simprocAttr]
  refine Qh.vc (hg x l hl) ?_
  simp (maxSteps := 4000000) (disch := omega) only [rr, aop, cV, cV1, AV.one, Qb, okW, Qd, app, Qa, Qc, Qe, Qf, Qg, simprocAttr]
/-! ### chain -/

structure ZU where
  bits : Int
  last : Int
  fl : XY

def QV (c : ZU) : List AV := .int .i64 c.bits :: .int .i32 c.last :: Qm c.fl
def Qmo (c : ZU) : Prop := JJ c.bits ≠ 0 ∧ c.fl.sh = QaI c.bits ∧ Qbm c.fl ∧ (-2147483648 ≤ c.last ∧ c.last ≤ 2147483647)
def QaC : ZU := ⟨0, 0, Qig⟩

theorem Zt {c : ZU} (h : Qbm c.fl) : (QV c).length = 35 := by simp [QV, QX h]
theorem ZW (c : ZU) : (QV c).all AV.one = true := by simp [QV, AV.one, Q1]
theorem Qau (c : ZU) : Qu (QV c) = true := by simp [QV, Qu, isD, Zd]
theorem Qma (b : Int) : QaI b = 9 ∨ QaI b = 10 := by unfold QaI; split <;> simp
theorem QpU {b : Int} {t : List Int} (h1 : t.length = 16) (h2 : I32 t) : Qbm (Qhf b t) := ⟨h1, by simp [Qhf, z16], h2, fun x hx => by simp [Qhf, z16] at hx; omega⟩
theorem QbJ : QV QaC = [.int .i64 0, .int .i32 0, .int .i64 0, .int .i32 0, .int .i32 0, .int .i32 0, .int .i32 0, .int .i32 0, .int .i32 0, .int .i32 0, .int .i32 0, .int .i32 0, .int .i32 0, .int .i32 0, .int .i32 0, .int .i32 0, .int .i32 0, .int .i32 0, .int .i32 0, .int .i32 0, .int .i32 0, .int .i32 0, .int .i32 0, .int .i32 0, .int .i32 0, .int .i32 0, .int .i32 0, .int .i32 0, .int .i32 0, .int .i32 0, .int .i32 0, .int .i32 0, .int .i32 0, .int .i32 0, .int .i32 0] := rfl

def Jk (b : Int) (t : List Int) : ZU := ⟨b, 0, Qhf b t⟩
def Qlc (b : Int) (t : List Int) : AV := if JJ b = 0 then .tup [.agg (QV QaC), .int .i64 2] else .tup [.agg (QV (Jk b t)), .int .i64 0]
def Qm1 (P : Prg) (f : Nat) : Prop := ∀ (b : Int) (t : List Int), t.length = 16 → I32 t → VC P f [.int .i64 b, .agg (ks .i32 t)] (Qlc b t)
theorem QsC (b : Int) (t : List Int) : isD (Qlc b t) = true := by unfold Qlc; split <;> simp [isD, Qu, Qau]

theorem QqV {P : Prg} {f fT t0 t1 t2 : Nat} (b : Qj P f 21 [.cell 4 t1, .tmp 5] (QbI fT t0 t1 t2)) (ht : ZB P t1 = some (some 35)) (hT : QmY P fT) : Qm1 P f := by
  intro x t hl hI
  have hk : (ks .i32 t).length = 16 := by simp [Qk, hl]
  have h1 := X6 .i32 t
  have tk16 : (ks .i32 t).take 16 = ks .i32 t := Qw (by omega)
  have hok : Qbm (Qhf x t) := QpU hl hI
  have l1 := QX hok
  have t1' : (Qm (Qhf x t)).take 33 = Qm (Qhf x t) := Qw (by omega)
  have o1 := Q1 (Qhf x t)
  have lc := Zt (c := Jk x t) hok
  have tc : (QV (Jk x t)).take 35 = QV (Jk x t) := Qw (by omega)
  have oc := ZW (Jk x t)
  have mk : AV.int .i64 x :: .int .i32 0 :: Qm (Qhf x t) = QV (Jk x t) := rfl
  refine VC.of_acall (by simp [Qu, isD, Q0]) (QsC _ _) (ACall.of_body b (by simp) ?_)
  simp (maxSteps := 4000000) (disch := omega) only [rr, aop, cV, cV1, AV.one, Qb, okW, Qd, app, Qa, Qc, Qe, Qf, Qg, simprocAttr, QbI, hk, h1, tk16]
  refine Qh.vc (hT x t hl) ?_
  by_cases h0 : JJ x = 0
  · simp (maxSteps := 4000000) (disch := omega) only [rr, aop, cV, cV1, AV.one, Qb, okW, Qd, app, Qa, Qc, Qe, Qf, Qg, simprocAttr, QfT, h0, Qlc, QaB, QbJ, ZE, ht]
  · simp (maxSteps := 4000000) (disch := omega) only [rr, aop, cV, cV1, AV.one, Qb, okW, Qd, app, Qa, Qc, Qe, Qf, Qg, simprocAttr, QfT, if_neg h0, Qlc, l1, t1', o1, lc, tc, oc, mk, QbJ, ZE, ht]

theorem QqU {c : ZU} (h : Qbm c.fl) : ((QV c).drop 2).take 33 = Qm c.fl := by
  simp only [QV, List.drop_succ_cons, List.drop_zero]
  exact Qw (by rw [QX h]; omega)
theorem QqT {c : ZU} (h : Qbm c.fl) : ((QV c).drop 3).take 16 = ks .i32 c.fl.tp := Qje h

def QeO (P : Prg) (f : Nat) : Prop := ∀ c : ZU, Qmo c → VC P f [.agg (QV c)] (.int .i64 0)
theorem Qlf {P : Prg} {f fT t0 t1 : Nat} (b : Qj P f 24 [.tmp 2] (Qan fT t0 t1)) (hT : QmY P fT) : QeO P f := by
  intro c ⟨h1, h2, h3, h4⟩
  have lc := Zt h3
  have oc := ZW c
  have e0 : (QV c).drop 0 = .int .i64 c.bits :: .int .i32 c.last :: Qm c.fl := rfl
  have e2 : (QV c).drop 2 = .int .i64 c.fl.sh :: (ks .i32 c.fl.tp ++ ks .i32 c.fl.ps) := rfl
  have et := QqT h3
  have hk : (ks .i32 c.fl.tp).length = 16 := by simp [Qk, h3.1]
  have hok : Qbm (Qhf c.bits c.fl.tp) := QpU h3.1 h3.2.2.1
  have l1 := QX hok
  have t1' : (Qm (Qhf c.bits c.fl.tp)).take 33 = Qm (Qhf c.bits c.fl.tp) := Qw (by omega)
  have o1 := Q1 (Qhf c.bits c.fl.tp)
  have en : (Qm (Qhf c.bits c.fl.tp)).drop 0 = .int .i64 (QaI c.bits) :: (ks .i32 c.fl.tp ++ ks .i32 z16) := rfl
  have dn : (Qm (Qhf c.bits c.fl.tp)).drop 33 = [] := List.drop_eq_nil_of_le (by omega)
  refine VC.of_acall (by simp [Qu, isD, Qau]) rfl (ACall.of_body b (by simp) ?_)
  simp (maxSteps := 4000000) (disch := omega) only [rr, aop, cV, cV1, AV.one, Qb, okW, Qd, app, Qa, Qc, Qe, Qf, Qg, simprocAttr, Qan, lc, oc, ↓e0, et]
  refine Qh.vc (hT c.bits c.fl.tp h3.1) ?_
  simp (maxSteps := 4000000) (disch := omega) only [rr, aop, cV, cV1, AV.one, Qb, okW, Qd, app, Qa, Qc, Qe, Qf, Qg, simprocAttr, QfT, if_neg h1, l1, t1', o1, ↓en, ↓e2, h2, dn]

def QqW (c : ZU) (x : Int) : Int := w32 (x - Qci c.bits c.last)
def Qda (c : ZU) (x : Int) : Int := Qow c.fl (QqW c x)
def Qaw (c : ZU) (x : Int) : ZU := ⟨c.bits, x, Qvf c.fl (QqW c x)⟩
theorem QkI {c : ZU} (h : Qmo c) {x : Int} (hx : -2147483648 ≤ x ∧ x ≤ 2147483647) : Qmo (Qaw c x) := ⟨h.1, h.2.1, Qbx h.2.2.1 (XH _) _, hx⟩

def QdP (P : Prg) (f : Nat) : Prop := ∀ (c : ZU) (x : Int), Qmo c → -2147483648 ≤ x ∧ x ≤ 2147483647 → VC P f [.agg (QV c), .int .i32 x] (.tup [.int .i32 (Qda c x), .agg (QV (Qaw c x)), .int .i64 0])

theorem QhA {P : Prg} {f fC fG fF t0 t1 : Nat} (b : Qj P f 44 [.tmp 4, .cell 5 t0, .tmp 6] (Jj fC fG fF t0 t1)) (ht : ZB P t0 = some (some 35)) (hC : QeO P fC) (hG : QeK P fG) (hF : QdO P fF) : QdP P f := by
  intro c x hc hx
  obtain ⟨h1, h2, h3, h4⟩ := id hc
  have hs : c.fl.sh = 9 ∨ c.fl.sh = 10 := by rw [h2]; exact Qma _
  have lc := Zt h3
  have tc : (QV c).take 35 = QV c := Qw (by omega)
  have oc := ZW c
  have e0 : (QV c).drop 0 = .int .i64 c.bits :: .int .i32 c.last :: Qm c.fl := rfl
  have e1 : (QV c).drop 1 = .int .i32 c.last :: Qm c.fl := rfl
  have e2 := QqU h3
  have hzr := XH (x - Qci c.bits c.last)
  have hok := QkI hc hx
  have l1 := QX hok.2.2.1
  have t1' : (Qm (Qaw c x).fl).take 33 = Qm (Qaw c x).fl := Qw (by omega)
  have o1 := Q1 (Qaw c x).fl
  have d1 : (Qm (Qaw c x).fl).drop 33 = [] := List.drop_eq_nil_of_le (by omega)
  have l2 := Zt hok.2.2.1
  have t2 : (QV (Qaw c x)).take 35 = QV (Qaw c x) := Qw (by omega)
  have o2 := ZW (Qaw c x)
  have mk : AV.int .i64 c.bits :: .int .i32 x :: Qm (Qaw c x).fl = QV (Qaw c x) := rfl
  have hfe : Qvf c.fl (w32 (x - Qci c.bits c.last)) = (Qaw c x).fl := rfl
  have hye : Qow c.fl (w32 (x - Qci c.bits c.last)) = Qda c x := rfl
  refine VC.of_acall (by simp [Qu, isD, Qau]) (by simp [isD, Qu, Qau]) (ACall.of_body b (by simp) ?_)
  simp (maxSteps := 4000000) (disch := omega) only [rr, aop, cV, cV1, AV.one, Qb, okW, Qd, app, Qa, Qc, Qe, Qf, Qg, simprocAttr, Jj, lc, tc, oc]
  refine Qh.vc (hC c hc) ?_
  simp (maxSteps := 4000000) (disch := omega) only [rr, aop, cV, cV1, AV.one, Qb, okW, Qd, app, Qa, Qc, Qe, Qf, Qg, simprocAttr, lc, tc, oc, ↓e0, ↓e1]
  refine Qh.vc (hG c.bits c.last h1 h4) ?_
  simp (maxSteps := 4000000) (disch := omega) only [rr, aop, cV, cV1, AV.one, Qb, okW, Qd, app, Qa, Qc, Qe, Qf, Qg, simprocAttr, lc, tc, oc, e2, Xf]
  refine Qh.vc (hF c.fl _ h3 hs hzr) ?_
  rw [hfe, hye]
  simp (maxSteps := 4000000) (disch := omega) only [rr, aop, cV, cV1, AV.one, Qb, okW, Qd, app, Qa, Qc, Qe, Qf, Qg, simprocAttr, lc, tc, oc, ↓e0, l1, t1', o1, d1, l2, t2, o2, mk, ZE, ht, QbJ]
end Go.Am

namespace Go.Am
open Go.RowKit

/-! ### chain.Back -/

def QhB (c : ZU) (y : Int) : Int := w32 (Qog c.fl y + Qci c.bits c.last)
def Qax (c : ZU) (y : Int) : ZU := ⟨c.bits, QhB c y, Qvz c.fl y⟩
theorem QkJ {c : ZU} (h : Qmo c) (y : Int) : Qmo (Qax c y) := ⟨h.1, h.2.1, Qbx h.2.2.1 (XH _) _, XH _⟩

def QlT (P : Prg) (f : Nat) : Prop := ∀ (c : ZU) (y : Int), Qmo c → VC P f [.agg (QV c), .int .i32 y] (.tup [.int .i32 (QhB c y), .agg (QV (Qax c y)), .int .i64 0])

theorem Qn9 {P : Prg} {f fC fG fF t0 t1 : Nat} (b : Qj P f 46 [.tmp 4, .cell 5 t0, .tmp 6] (Qa8 fC fG fF t0 t1)) (ht : ZB P t0 = some (some 35)) (hC : QeO P fC) (hG : QeK P fG) (hF : QlO P fF) : QlT P f := by
  intro c x hc
  obtain ⟨h1, h2, h3, h4⟩ := id hc
  have hs : c.fl.sh = 9 ∨ c.fl.sh = 10 := by rw [h2]; exact Qma _
  have lc := Zt h3
  have tc : (QV c).take 35 = QV c := Qw (by omega)
  have oc := ZW c
  have e0 : (QV c).drop 0 = .int .i64 c.bits :: .int .i32 c.last :: Qm c.fl := rfl
  have e1 : (QV c).drop 1 = .int .i32 c.last :: Qm c.fl := rfl
  have e2 := QqU h3
  have hok := QkJ hc x
  have l1 := QX hok.2.2.1
  have t1' : (Qm (Qax c x).fl).take 33 = Qm (Qax c x).fl := Qw (by omega)
  have o1 := Q1 (Qax c x).fl
  have d1 : (Qm (Qax c x).fl).drop 33 = [] := List.drop_eq_nil_of_le (by omega)
  have l2 := Zt hok.2.2.1
  have t2 : (QV (Qax c x)).take 35 = QV (Qax c x) := Qw (by omega)
  have o2 := ZW (Qax c x)
  have mk : AV.int .i64 c.bits :: .int .i32 (QhB c x) :: Qm (Qax c x).fl = QV (Qax c x) := rfl
  have hfe : Qvz c.fl x = (Qax c x).fl := rfl
  have hye : w32 (Qog c.fl x + Qci c.bits c.last) = QhB c x := rfl
  refine VC.of_acall (by simp [Qu, isD, Qau]) (by simp [isD, Qu, Qau]) (ACall.of_body b (by simp) ?_)
  simp (maxSteps := 4000000) (disch := omega) only [rr, aop, cV, cV1, AV.one, Qb, okW, Qd, app, Qa, Qc, Qe, Qf, Qg, simprocAttr, Qa8, lc, tc, oc]
  refine Qh.vc (hC c hc) ?_
  simp (maxSteps := 4000000) (disch := omega) only [rr, aop, cV, cV1, AV.one, Qb, okW, Qd, app, Qa, Qc, Qe, Qf, Qg, simprocAttr, lc, tc, oc, ↓e0, ↓e1]
  refine Qh.vc (hG c.bits c.last h1 h4) ?_
  simp (maxSteps := 4000000) (disch := omega) only [rr, aop, cV, cV1, AV.one, Qb, okW, Qd, app, Qa, Qc, Qe, Qf, Qg, simprocAttr, lc, tc, oc, e2, Xf]
  refine Qh.vc (hF c.fl x h3 hs) ?_
  rw [hfe]
  simp (maxSteps := 4000000) (disch := omega) only [rr, aop, cV, cV1, AV.one, Qb, okW, Qd, app, Qa, Qc, Qe, Qf, Qg, simprocAttr, lc, tc, oc, ↓e0, l1, t1', o1, d1, l2, t2, o2, mk, ZE, ht, QbJ, Xf, hye]

/-! ### The references -/

theorem QoY {x : Int} (h : x < 0) (n : Int) : x.tdiv n = -(-x / n) ∧ x.tmod n = -(-x % n) := by
  have e : x = -(-x) := by omega
  constructor
  · rw [e, Int.neg_tdiv, Int.tdiv_eq_ediv_of_nonneg (by omega)]; simp
  · rw [e, Int.neg_tmod, Int.tmod_eq_emod_of_nonneg (by omega)]; simp

def Qv4 (x : XY) (k : Nat) : List Int := (List.range 16).map fun j => if k < j then x.ps.getD (j - 1) 0 else x.ps.getD j 0
def pf (x : XY) (k : Nat) : XY := { x with ps := Qv4 x k }
end Go.Am

namespace Go.Am
open Go.RowKit

/-! ### New -/


/-! ### fold -/

def Qf2 (x : Int) : Int := if x < 0 then -2 * x - 1 else 2 * x
def Qrp (P : Prg) (f : Nat) : Prop := ∀ x : Int, -2147483648 ≤ x ∧ x ≤ 2147483647 → VC P f [.int .i32 x] (.int .u32 (Qf2 x))
theorem Qqt {x : Int} (h : -2147483648 ≤ x ∧ x ≤ 2147483647) : 0 ≤ Qf2 x ∧ Qf2 x < 4294967296 := by unfold Qf2; split <;> omega

theorem Ql0 {a : Nat} (h : a < 4294967296) : (BitVec.ofInt 32 (a : Int) ^^^ BitVec.ofInt 32 4294967295).toNat = 4294967295 - a := by
  have e : BitVec.ofInt 32 4294967295 = BitVec.allOnes 32 := by decide
  rw [e, BitVec.xor_allOnes, BitVec.toNat_not]
  have : (BitVec.ofInt 32 (a : Int)).toNat = a := by simp; omega
  rw [this]
theorem Qih {a : Nat} (h : a < 4294967296) : (BitVec.ofInt 32 (a : Int) ^^^ BitVec.ofInt 32 0).toNat = a := by
  have : (BitVec.ofInt 32 (a : Int)).toNat = a := by simp; omega
  rw [BitVec.toNat_xor, this]
  simp

theorem Qqr {P : Prg} {f : Nat} (b : Qj P f 10 [.tmp 2] J3) : Qrp P f := by
  intro x hx
  refine VC.of_acall rfl rfl (ACall.of_body b (by simp) ?_)
  by_cases h : x < 0
  · have a1 : IntKind.u32.wrap x = x + 4294967296 := by rw [XZ]; omega
    have a2 : Qn true .u32 (x + 4294967296) 1 = some (.int .u32 (2 * x + 4294967296)) := by
      show some (AV.int .u32 (IntKind.u32.wrap ((x + 4294967296) * 2))) = _
      rw [XZ]; congr 2; omega
    have a3 : Qn false .i32 x 31 = some (.int .i32 (-1)) := by
      show some (AV.int .i32 (x.fdiv 2147483648)) = _
      rw [Int.fdiv_eq_ediv_of_nonneg _ (by omega)]; congr 2; omega
    have a4 : IntKind.u32.wrap (-1) = 4294967295 := rfl
    have a5 : (BitVec.ofInt IntKind.u32.bits (2 * x + 4294967296) ^^^ BitVec.ofInt IntKind.u32.bits 4294967295).toNat = (-2 * x - 1).toNat := by
      show (BitVec.ofInt 32 (2 * x + 4294967296) ^^^ BitVec.ofInt 32 4294967295).toNat = (-2 * x - 1).toNat
      have := Ql0 (a := (2 * x + 4294967296).toNat) (by omega)
      rw [show (((2 * x + 4294967296).toNat : Nat) : Int) = 2 * x + 4294967296 by omega] at this
      rw [this]; omega
    have a6 : (((BitVec.ofInt IntKind.u32.bits (2 * x + 4294967296) ^^^ BitVec.ofInt IntKind.u32.bits 4294967295).toNat : Nat) : Int) = -2 * x - 1 := by rw [a5]; omega
    simp (maxSteps := 4000000) (disch := omega) only [rr, aop, cV, cV1, AV.one, Qb, okW, Qd, app, Qa, Qc, Qe, Qf, Qg, simprocAttr, J3, a1, a2, a3, a4, a6, Qf2]
  · have a2 : Qn true .u32 x 1 = some (.int .u32 (2 * x)) := by
      show some (AV.int .u32 (IntKind.u32.wrap (x * 2))) = _
      rw [XZ]; congr 2; omega
    have a3 : Qn false .i32 x 31 = some (.int .i32 0) := by
      show some (AV.int .i32 (x.fdiv 2147483648)) = _
      rw [Int.fdiv_eq_ediv_of_nonneg _ (by omega)]; congr 2; omega
    have a5 : (BitVec.ofInt IntKind.u32.bits (2 * x) ^^^ BitVec.ofInt IntKind.u32.bits 0).toNat = (2 * x).toNat := by
      show (BitVec.ofInt 32 (2 * x) ^^^ BitVec.ofInt 32 0).toNat = (2 * x).toNat
      have := Qih (a := (2 * x).toNat) (by omega)
      rwa [show (((2 * x).toNat : Nat) : Int) = 2 * x by omega] at this
    have a6 : (((BitVec.ofInt IntKind.u32.bits (2 * x) ^^^ BitVec.ofInt IntKind.u32.bits 0).toNat : Nat) : Int) = 2 * x := by rw [a5]; omega
    simp (maxSteps := 4000000) (disch := omega) only [rr, aop, cV, cV1, AV.one, Qb, okW, Qd, app, Qa, Qc, Qe, Qf, Qg, simprocAttr, J3, a2, a3, a6, Qf2]

def Xc (n : Int) : Int := if n % 2 = 0 then n / 2 else -(n / 2) - 1
def QlJ (P : Prg) (f : Nat) : Prop := ∀ n : Int, 0 ≤ n ∧ n < 4294967296 → VC P f [.int .u32 n] (.int .i32 (Xc n))
theorem QuA {a : Nat} (h : a < 4294967296) : (BitVec.ofInt 32 (a : Int) &&& BitVec.ofInt 32 1).toNat = a % 2 := by
  have : (BitVec.ofInt 32 (a : Int)).toNat = a := by simp; omega
  rw [BitVec.toNat_and, this]
  exact Nat.and_one_is_mod a

theorem Qqs {P : Prg} {f : Nat} (b : Qj P f 11 [.tmp 2] J4) : QlJ P f := by
  intro n hn
  refine VC.of_acall rfl rfl (ACall.of_body b (by simp) ?_)
  have a1 : Qn false .u32 n 1 = some (.int .u32 (n / 2)) := by
    show some (AV.int .u32 (n.fdiv 2)) = _
    rw [Int.fdiv_eq_ediv_of_nonneg _ (by omega)]
  have a2 : (((BitVec.ofInt IntKind.u32.bits n &&& BitVec.ofInt IntKind.u32.bits 1).toNat : Nat) : Int) = n % 2 := by
    show (((BitVec.ofInt 32 n &&& BitVec.ofInt 32 1).toNat : Nat) : Int) = n % 2
    have := QuA (a := n.toNat) (by omega)
    rw [show ((n.toNat : Nat) : Int) = n by omega] at this
    rw [this]; omega
  by_cases h : n % 2 = 0
  · have a3 : (((BitVec.ofInt IntKind.i32.bits (n / 2) ^^^ BitVec.ofInt IntKind.i32.bits 0).toNat : Nat) : Int) = n / 2 := by
      show (((BitVec.ofInt 32 (n / 2) ^^^ BitVec.ofInt 32 0).toNat : Nat) : Int) = n / 2
      have := Qih (a := (n / 2).toNat) (by omega)
      rw [show (((n / 2).toNat : Nat) : Int) = n / 2 by omega] at this
      rw [this]; omega
    simp (maxSteps := 4000000) (disch := omega) only [rr, aop, cV, cV1, AV.one, Qb, okW, Qd, app, Qa, Qc, Qe, Qf, Qg, simprocAttr, J4, a1, a2, h, a3, Xc]
  · have h1 : n % 2 = 1 := by omega
    have a3 : (((BitVec.ofInt IntKind.i32.bits (n / 2) ^^^ BitVec.ofInt IntKind.i32.bits (-1)).toNat : Nat) : Int) = 4294967295 - n / 2 := by
      show (((BitVec.ofInt 32 (n / 2) ^^^ BitVec.ofInt 32 (-1)).toNat : Nat) : Int) = 4294967295 - n / 2
      have := Ql0 (a := (n / 2).toNat) (by omega)
      rw [show (((n / 2).toNat : Nat) : Int) = n / 2 by omega] at this
      rw [show BitVec.ofInt 32 (-1) = BitVec.ofInt 32 4294967295 by decide, this]; omega
    have a4 : IntKind.i32.wrap (4294967295 - n / 2) = -(n / 2) - 1 := by rw [Xf, Qgo]; omega
    simp (maxSteps := 4000000) (disch := omega) only [rr, aop, cV, cV1, AV.one, Qb, okW, Qd, app, Qa, Qc, Qe, Qf, Qg, simprocAttr, J4, a1, a2, h1, a3, a4, Xc]

end Go.Am

namespace Go.Am
open Go.RowKit

theorem Qmw {K : IntKind} {l : List Int} {i : Nat} (h : i < l.length) (v : Int) : (ks K l).take i ++ [.int K v] ++ (ks K l).drop (i + 1) = ks K (l.set i v) := by
  rw [List.set_eq_take_append_cons_drop, if_pos h]
  simp [ks]
theorem Qb0 {K : IntKind} {l : List Int} {i : Nat} (h : i < l.length) : (ks K l).drop i = .int K (l.getD i 0) :: ks K (l.drop (i + 1)) := by
  rw [QaR h]; simp [List.getD_eq_getElem?_getD, List.getElem?_eq_getElem h]

theorem Qua {α : Type} (l : List α) (x : α) : (l ++ [x])[l.length]? = some x := by simp
theorem QtN {α : Type} (l : List α) (x y : α) : (l ++ [x]).set l.length y = l ++ [y] := by simp

/-! ### slices.Clone of numbers -/

def QeN (t : Nat) (P : Prg) (f : Nat) : Prop := ∀ (l : List Int) (ob : List Ob) (K : AV → List Ob → Prop), 0 < l.length → l.length ≤ 1000000 → K (.own ob.length l.length) (ob ++ [⟨t, 1, l.length, ks .i32 l, 0⟩]) → ACall P f [il l] ob K

theorem QqP {P : Prg} {f t0 : Nat} (b : Qj P f 8 [.tmp 2] (Qx t0)) : QeN t0 P f := by
  intro l ob K h0 h1 hK
  refine ACall.of_body b (by simp) ?_
  have g1 := fun x : Ob => Qua ob x
  have g2 := fun x y : Ob => QtN ob x y
  have n0 : l.length ≠ 0 := by omega
  simp (maxSteps := 4000000) (disch := omega) only [rr, aop, cV, cV1, AV.one, Qb, okW, Qd, app, Qa, Qc, Qe, Qf, Qg, simprocAttr, Qx, il, QjW, n0, g1, g2, Qmx]
  exact hK

/-! ### mix.mix: in its place -/

def QfP (L : List Int) (k i : Nat) : List Int := (List.range L.length).map fun j => if k ≤ j ∧ j < k + i then w32 (L.getD (j + 1) 0 - L.getD j 0) else L.getD j 0
def Qfb (L : List Int) (k n : Nat) : List Int := if n = 1 then L else (QfP L k (n - 1)).set (k + (n - 1)) (w32 (L.getD (k + (n - 1)) 0 - (w32 (L.getD (k + (n - 1)) 0 - L.getD (k + (n - 2)) 0)).tdiv 2))

theorem ZV {a b : List Int} (h : a.length = b.length) (h2 : ∀ j, j < a.length → a.getD j 0 = b.getD j 0) : a = b := by
  apply List.ext_getElem h
  intro i h1 h3
  have := h2 i h1
  simpa [List.getD_eq_getElem?_getD, List.getElem?_eq_getElem h1, List.getElem?_eq_getElem h3] using this
theorem QaJ (L : List Int) (k i : Nat) : (QfP L k i).length = L.length := by simp [QfP]
theorem QE {g : Nat → Int} {n j : Nat} (h : j < n) : ((List.range n).map g).getD j 0 = g j := by
  simp [List.getD_eq_getElem?_getD, h]
theorem Qew {l : List Int} {i j : Nat} {v : Int} (h : j < l.length) : (l.set i v).getD j 0 = if i = j then v else l.getD j 0 := by
  simp only [List.getD_eq_getElem?_getD, List.getElem?_set]
  split
  · subst_vars; simp [h]
  · rfl
theorem Qu0 (L : List Int) (k : Nat) : QfP L k 0 = L := ZV (QaJ _ _ _) fun j hj => by
  rw [QaJ] at hj
  rw [QfP, QE hj, if_neg (by omega)]
theorem Qpm {L : List Int} {k i j : Nat} (h : j < L.length) (h2 : k + i ≤ j) : (QfP L k i).getD j 0 = L.getD j 0 := by
  rw [QfP, QE h, if_neg (by omega)]
theorem Qr1 {L : List Int} {k i : Nat} (h : k + i < L.length) : (QfP L k i).set (k + i) (w32 (L.getD (k + i + 1) 0 - L.getD (k + i) 0)) = QfP L k (i + 1) := ZV (by simp [QaJ]) fun j hj => by
  have hj' : j < L.length := by simpa [QaJ] using hj
  rw [Qew (by rw [QaJ]; exact hj'), QfP, QfP, QE hj', QE hj']
  by_cases e : k + i = j
  · subst e; rw [if_pos rfl, if_pos (by omega)]
  · rw [if_neg e]
    by_cases q : k ≤ j ∧ j < k + i
    · rw [if_pos q, if_pos (by omega)]
    · rw [if_neg q, if_neg (by omega)]

def QuG (P : Prg) (f : Nat) : Prop := ∀ (t : Nat) (L : List Int) (k n : Nat) (K : AV → List Ob → Prop), I32 L → 1 ≤ n → k + n ≤ L.length → L.length ≤ 1000000 →
  K (.tup []) [⟨t, 1, L.length, ks .i32 (Qfb L k n), 0⟩] → ACall P f [.view 0 L.length k n] [⟨t, 1, L.length, ks .i32 L, 0⟩] K

theorem QiG {x : Int} (h : -2147483648 ≤ x ∧ x ≤ 2147483647) : -2147483648 ≤ x.tdiv 2 ∧ x.tdiv 2 ≤ 2147483647 := by
  by_cases hx : x < 0
  · rw [(QoY hx 2).1]; omega
  · rw [Int.tdiv_eq_ediv_of_nonneg (by omega)]; omega

theorem QtZ {P : Prg} {f : Nat} (b : Qj P f 39 [] QdI) : QuG P f := by
  intro t L k n K hL h1 h2 h3 hK
  refine ACall.of_body b (by simp) ?_
  simp (maxSteps := 4000000) (disch := omega) only [rr, aop, cV, cV1, AV.one, Qb, okW, Qd, app, Qa, Qc, Qe, Qf, Qg, simprocAttr, QdI]
  refine QW.by (ι := Nat) (fun i => ⟨[(8, .int .i64 i), (7, .int .i64 ((n : Int) - 1)), (2, .int .i64 ((n : Int) - 1)), (0, .view 0 L.length k n)], [⟨t, 1, L.length, ks .i32 (QfP L k i), 0⟩]⟩) (fun i => i ≤ n - 1) (fun i => n - 1 - i) 0 (by rw [Qu0]; exact Le.slots (by simp [Am.look])) (by omega) ?_
  intro i hi
  have ls := QaJ L k i
  by_cases hlt : i < n - 1
  · have e1 := Qb0 (K := .i32) (l := QfP L k i) (i := k + i) (by omega)
    have e2 := Qb0 (K := .i32) (l := QfP L k i) (i := k + (i + 1)) (by omega)
    have e3 := fun v => Qmw (K := .i32) (l := QfP L k i) (i := k + i) (by omega) v
    have a1 := Qpm (L := L) (k := k) (i := i) (j := k + i) (by omega) (by omega)
    have a2 := Qpm (L := L) (k := k) (i := i) (j := k + (i + 1)) (by omega) (by omega)
    have a3 := Qr1 (L := L) (k := k) (i := i) (by omega)
    rw [show k + i + 1 = k + (i + 1) by omega] at a3
    rw [a1] at e1
    rw [a2] at e2
    simp (maxSteps := 4000000) (disch := omega) only [rr, aop, cV, cV1, AV.one, Qb, okW, Qd, app, Qa, Qc, Qe, Qf, Qg, simprocAttr, e1, e2, e3, Xf, a3, ls]
    exact ⟨i + 1, by omega, by omega, Le.slots (by simp [Am.look])⟩
  · have e : i = n - 1 := by omega
    subst e
    by_cases hn : n = 1
    · subst hn
      have e0 : Qfb L k 1 = QfP L k (1 - 1) := by simp [Qfb, Qu0]
      rw [e0] at hK
      simp (maxSteps := 4000000) (disch := omega) only [rr, aop, cV, cV1, AV.one, Qb, okW, Qd, app, Qa, Qc, Qe, Qf, Qg, simprocAttr]
      exact hK
    · have e1 := Qb0 (K := .i32) (l := QfP L k (n - 1)) (i := k + (n - 1)) (by omega)
      have e2 := Qb0 (K := .i32) (l := QfP L k (n - 1)) (i := k + (n - 2)) (by omega)
      have e3 := fun v => Qmw (K := .i32) (l := QfP L k (n - 1)) (i := k + (n - 1)) (by omega) v
      have a1 := Qpm (L := L) (k := k) (i := n - 1) (j := k + (n - 1)) (by omega) (by omega)
      have a2 : (QfP L k (n - 1)).getD (k + (n - 2)) 0 = w32 (L.getD (k + (n - 1)) 0 - L.getD (k + (n - 2)) 0) := by
        rw [QfP, QE (by omega), if_pos (by omega), show k + (n - 2) + 1 = k + (n - 1) by omega]
      rw [a1] at e1
      rw [a2] at e2
      have hr := QiG (XH (L.getD (k + (n - 1)) 0 - L.getD (k + (n - 2)) 0))
      simp only [Qfb, if_neg hn] at hK
      rw [show k + (n - 2) = k + (n - 1 - 1) by omega] at e2 hK hr
      simp (maxSteps := 4000000) (disch := omega) only [rr, aop, cV, cV1, AV.one, Qb, okW, Qd, app, Qa, Qc, Qe, Qf, Qg, simprocAttr, e1, e2, e3, Xf, ls]
      exact hK
end Go.Am

namespace Go.Am
open Go.RowKit

def Qby (c : Int) (n : Nat) : Int := if c < 1 ∨ 6 < c then 2 else if 4000 < n then 4 else if (n : Int) % c ≠ 0 then 2 else 0
def QeI (P : Prg) (f : Nat) : Prop := ∀ (c : Int) (l : List Int), VC P f [.int .i64 c, il l] (.int .i64 (Qby c l.length))

theorem QpY {P : Prg} {f : Nat} (b : Qj P f 22 [.tmp 4] ZL) : QeI P f := by
  intro c l
  refine VC.of_acall (by simp [Qu, isD, QI]) rfl (ACall.of_body b (by simp) ?_)
  by_cases h1 : c < 1
  · simp (maxSteps := 4000000) (disch := omega) only [rr, aop, cV, cV1, AV.one, Qb, okW, Qd, app, Qa, Qc, Qe, Qf, Qg, simprocAttr, ZL, il, Qby]
  by_cases h2 : 6 < c
  · simp (maxSteps := 4000000) (disch := omega) only [rr, aop, cV, cV1, AV.one, Qb, okW, Qd, app, Qa, Qc, Qe, Qf, Qg, simprocAttr, ZL, il, Qby]
  by_cases h3 : 4000 < l.length
  · simp (maxSteps := 4000000) (disch := omega) only [rr, aop, cV, cV1, AV.one, Qb, okW, Qd, app, Qa, Qc, Qe, Qf, Qg, simprocAttr, ZL, il, Qby]
  have hm := Qas (n := l.length) (c := c) (by omega)
  by_cases h4 : (l.length : Int) % c = 0
  · simp (maxSteps := 4000000) (disch := omega) only [rr, aop, cV, cV1, AV.one, Qb, okW, Qd, app, Qa, Qc, Qe, Qf, Qg, simprocAttr, ZL, il, Qby, h4]
  · simp (maxSteps := 4000000) (disch := omega) only [rr, aop, cV, cV1, AV.one, Qb, okW, Qd, app, Qa, Qc, Qe, Qf, Qg, simprocAttr, ZL, il, Qby, h4]

def QnF (c : Nat) (l : List Int) (j : Nat) : Int :=
  if c = 1 then l.getD j 0
  else if j % c + 1 < c then w32 (l.getD (j + 1) 0 - l.getD j 0)
  else w32 (l.getD j 0 - (w32 (l.getD j 0 - l.getD (j - 1) 0)).tdiv 2)
def Qif (c : Nat) (l : List Int) (a : Nat) : List Int := (List.range l.length).map fun j => if j < a then QnF c l j else l.getD j 0
def Zz (c : Nat) (l : List Int) : List Int := (List.range l.length).map (QnF c l)

theorem Jn (c : Nat) (l : List Int) (a : Nat) : (Qif c l a).length = l.length := by simp [Qif]
theorem Qu9 (c : Nat) (l : List Int) : Qif c l 0 = l := ZV (Jn _ _ _) fun j hj => by
  rw [Jn] at hj; rw [Qif, QE hj, if_neg (by omega)]
theorem Qmr (c : Nat) (l : List Int) : Qif c l l.length = Zz c l := by
  simp only [Qif, Zz]
  apply List.map_congr_left
  intro j hj
  rw [if_pos (by simpa using hj)]
theorem Qsj {c : Nat} {l : List Int} (h : I32 l) (j : Nat) : -2147483648 ≤ QnF c l j ∧ QnF c l j ≤ 2147483647 := by
  unfold QnF
  split
  · exact Ze h j
  · split <;> exact XH _
theorem Qm5 {c : Nat} {l : List Int} (h : I32 l) (a : Nat) : I32 (Qif c l a) := by
  intro v hv
  simp only [Qif, List.mem_map] at hv
  obtain ⟨j, _, rfl⟩ := hv
  split
  · exact Qsj h j
  · exact Ze h j
theorem QgS {c : Nat} {l : List Int} (h : I32 l) : I32 (Zz c l) := by rw [← Qmr]; exact Qm5 h _
theorem JD (c : Nat) (l : List Int) : (Zz c l).length = l.length := by simp [Zz]

theorem QtY {c : Nat} {l : List Int} {m : Nat} (hc : 1 ≤ c) (h : c * m + c ≤ l.length) : Qfb (Qif c l (c * m)) (c * m) c = Qif c l (c * m + c) := by
  have mod : ∀ j, c * m ≤ j → j < c * m + c → j % c = j - c * m := fun j h1 h2 => by
    rw [show j = c * m + (j - c * m) by omega, Nat.mul_add_mod]
    rw [Nat.mod_eq_of_lt (by omega)]; omega
  have at' : ∀ j, j < l.length → c * m ≤ j → (Qif c l (c * m)).getD j 0 = l.getD j 0 := fun j h1 h2 => by rw [Qif, QE h1, if_neg (by omega)]
  by_cases h1 : c = 1
  · subst h1
    simp only [Qfb, if_true]
    refine ZV (by simp [Jn]) fun j hj => ?_
    rw [Jn] at hj
    rw [Qif, Qif, QE hj, QE hj]
    by_cases q : j < 1 * m
    · rw [if_pos q, if_pos (by omega)]
    · rw [if_neg q]; split
      · simp [QnF]
      · rfl
  · simp only [Qfb, if_neg h1]
    refine ZV (by simp [QaJ, Jn]) fun j hj => ?_
    have hj' : j < l.length := by simpa [QaJ, Jn] using hj
    rw [Qew (by simpa [QaJ, Jn] using hj')]
    rw [QfP, Jn, QE hj']
    conv => rhs; rw [Qif, QE hj']
    by_cases e : c * m + (c - 1) = j
    · rw [if_pos e, if_pos (by omega), at' _ (by omega) (by omega), at' _ (by omega) (by omega)]
      subst e
      have := mod (c * m + (c - 1)) (by omega) (by omega)
      unfold QnF
      rw [if_neg h1, if_neg (by rw [this]; omega), show c * m + (c - 1) - 1 = c * m + (c - 2) by omega]
    · rw [if_neg e]
      by_cases q : c * m ≤ j ∧ j < c * m + (c - 1)
      · rw [if_pos q, if_pos (by omega), at' _ (by omega) (by omega), at' _ (by omega) (by omega)]
        have := mod j (by omega) (by omega)
        unfold QnF
        rw [if_neg h1, if_pos (by rw [this]; omega)]
      · rw [if_neg q, Qif, QE hj']
        by_cases r : j < c * m
        · rw [if_pos r, if_pos (by omega)]
        · rw [if_neg r, if_neg (by omega)]

def okM (c : Nat) (l : List Int) : Prop := 1 ≤ c ∧ c ≤ 6 ∧ 0 < l.length ∧ l.length ≤ 4000 ∧ l.length % c = 0 ∧ I32 l
theorem QiY {c : Nat} {l : List Int} (h : okM c l) : Qby c l.length = 0 := by
  obtain ⟨h1, h2, h3, h4, h5, _⟩ := h
  unfold Qby
  rw [if_neg (by omega), if_neg (by omega), if_neg (by rw [← Int.natCast_emod, h5]; simp)]

def Qh4 (P : Prg) (f : Nat) : Prop := ∀ (c : Nat) (l : List Int), okM c l → VC P f [.int .i64 c, il l] (.tup [il (Zz c l), .int .i64 0])

theorem Qmq {c m q : Nat} (h : c * m < c * q) : c * m + c ≤ c * q := by
  have : m < q := Nat.lt_of_mul_lt_mul_left h
  have := Nat.mul_le_mul_left c (show m + 1 ≤ q by omega)
  rw [Nat.mul_add, Nat.mul_one] at this
  exact this

theorem Qt0 {P : Prg} {f fC fK fM t : Nat} (b : Qj P f 32 [.tmp 4, .tmp 5] (QdJ fC fK fM)) (hC : QeI P fC) (hK : QeN t P fK) (hM : QuG P fM) : Qh4 P f := by
  intro c l hok
  obtain ⟨h1, h2, h3, h4, h5, h6⟩ := id hok
  have hc := QiY hok
  obtain ⟨q, hq⟩ : ∃ q, l.length = c * q := ⟨l.length / c, by have := Nat.div_add_mod l.length c; omega⟩
  refine VC.of_walk 1 (by simp [Qu, isD, QI]) (by simp [isD, Qu, QI]) (ACall.of_body b (by simp) ?_)
  simp (maxSteps := 4000000) (disch := omega) only [rr, aop, cV, cV1, AV.one, Qb, okW, Qd, app, Qa, Qc, Qe, Qf, Qg, simprocAttr, QdJ]
  refine Qh.vc (hC c l) ?_
  have n0 : l.length ≠ 0 := by omega
  simp (maxSteps := 4000000) (disch := omega) only [rr, aop, cV, cV1, AV.one, Qb, okW, Qd, app, Qa, Qc, Qe, Qf, Qg, simprocAttr, hc, n0]
  refine hK l [] _ h3 (by omega) ?_
  simp (maxSteps := 4000000) (disch := omega) only [rr, aop, cV, cV1, AV.one, Qb, okW, Qd, app, Qa, Qc, Qe, Qf, Qg, simprocAttr, n0]
  refine QW.by (ι := Nat) (fun m => ⟨[(8, .int .i64 (c * m : Nat)), (7, .own 0 l.length), (0, .int .i64 c)], [⟨t, 1, l.length, ks .i32 (Qif c l (c * m)), 0⟩]⟩) (fun m => m ≤ q) (fun m => q - m) 0 (by rw [Nat.mul_zero, Qu9]; exact Le.slots (by simp [Am.look])) (by omega) ?_
  intro m hm
  by_cases hlt : c * m < l.length
  · have hs := Qmq (c := c) (m := m) (q := q) (by rw [← hq]; exact hlt)
    rw [← hq] at hs
    have hmq : m < q := Nat.lt_of_mul_lt_mul_left (a := c) (b := m) (c := q) (by rw [← hq]; exact hlt)
    have e0 : c * m + c - c * m = c := by omega
    have hM' := hM t (Qif c l (c * m)) (c * m) c
    rw [Jn, QtY h1 hs] at hM'
    simp (maxSteps := 4000000) (disch := omega) only [rr, aop, cV, cV1, AV.one, Qb, okW, Qd, app, Qa, Qc, Qe, Qf, Qg, simprocAttr, e0, n0]
    refine hM' _ (Qm5 h6 _) h1 hs (by omega) ?_
    simp (maxSteps := 4000000) (disch := omega) only [rr, aop, cV, cV1, AV.one, Qb, okW, Qd, app, Qa, Qc, Qe, Qf, Qg, simprocAttr]
    exact ⟨m + 1, by omega, by omega, by rw [show c * (m + 1) = c * m + c by rw [Nat.mul_add, Nat.mul_one]]; exact Le.slots (by simp [Am.look])⟩
  · have e : c * m = l.length := by
      have := Nat.mul_le_mul_left c hm
      omega
    rw [e, Qmr]
    have lm := JD c l
    simp (maxSteps := 4000000) (disch := omega) only [rr, aop, cV, cV1, AV.one, Qb, okW, Qd, app, Qa, Qc, Qe, Qf, Qg, simprocAttr]
    simp [Zk, QL, QO, QK, Qu, isD, il, lm, Qr _ (Qv .i32 (Zz c l))]
end Go.Am

namespace Go.Am
open Go.RowKit

theorem Le.drop1 {o : Ob} {xs : List Ob} {fr fr' : List (Nat × AV)} (h : X7 o.cs = true)
    (hfr : ∀ p ∈ fr', p.2 = .any ∨ QL (fun o => decide (o < 1)) (fun o => decide (1 ≤ o)) (o :: xs) 2 [look fr p.1] = some [p.2]) : Le 0 ⟨fr, o :: xs⟩ ⟨fr', [o]⟩ := by
  refine Le.drop 1 2 (by omega) rfl hfr ?_
  intro i y hy
  match i, hy with
  | 0, hy =>
    simp at hy
    subst hy
    exact ⟨o.cs, by simp, by simp only [QL]; exact Qr _ h⟩
  | i + 1, hy => simp at hy

end Go.Am

namespace Go.Am
open Go.RowKit

def Qca (c x : Int) (l : List Int) : Int := if Zh c x ≠ 0 then 2 else if QG x l ≠ 0 then QG x l else if l.length = 0 ∨ (l.length : Int) % c ≠ 0 then 2 else 0
theorem QhR {c x : Int} {l : List Int} (h : Zh c x = 2) : Qca c x l = 2 := by simp [Qca, h]
theorem QhS {c x : Int} {l : List Int} (h : Zh c x = 0) (h2 : QG x l ≠ 0) : Qca c x l = QG x l := by simp [Qca, h, h2]
theorem QfC {c x : Int} {l : List Int} (h : Zh c x = 0) (h2 : QG x l = 0) (h3 : l.length = 0 ∨ (l.length : Int) % c ≠ 0) : Qca c x l = 2 := by simp only [Qca, h, h2, if_pos h3]; simp
theorem Qtn {c x : Int} {l : List Int} (h : Zh c x = 0) (h2 : QG x l = 0) (h3 : ¬ (l.length = 0 ∨ (l.length : Int) % c ≠ 0)) : Qca c x l = 0 := by simp only [Qca, h, h2, if_neg h3]; simp
theorem Q4 (c x : Int) : Zh c x = 2 ∨ (Zh c x = 0 ∧ JJ x ≠ 0 ∧ 1 ≤ c ∧ c ≤ 6) := by unfold Zh; split <;> omega
theorem QdD (x : Int) (l : List Int) : QG x l = 2 ∨ QG x l = 4 ∨ QG x l = 16 ∨ (QG x l = 0 ∧ JJ x ≠ 0 ∧ l.length ≤ 4000) := by
  unfold QG
  by_cases h : JJ x = 0
  · simp [h]
  by_cases h2 : 4000 < l.length
  · simp [h, h2]
  by_cases h3 : l.all (inR x)
  · simp [h, h2, h3]; omega
  · simp [h, h2, h3]
theorem Qlz {c x : Int} {l : List Int} (hI : I32 l) (h : Qca c x l = 0) : ∃ k : Nat, c = k ∧ okM k l ∧ JJ x ≠ 0 := by
  rcases Q4 c x with h1 | ⟨h1, h2, h3, h4⟩
  · rw [QhR h1] at h; omega
  by_cases h5 : QG x l = 0
  · by_cases h6 : l.length = 0 ∨ (l.length : Int) % c ≠ 0
    · rw [QfC h1 h5 h6] at h; omega
    · obtain ⟨k, rfl⟩ : ∃ k : Nat, c = k := ⟨c.toNat, by omega⟩
      refine ⟨k, rfl, ⟨by omega, by omega, by omega, by rcases QdD x l with h | h | h | h <;> omega, by omega, hI⟩, h2⟩
  · rw [QhS h1 h5] at h; exact absurd h h5

def QgR (P : Prg) (f : Nat) : Prop := ∀ (c x : Int) (l : List Int), I32 l → VC P f [shA c x, il l] (.int .i64 (Qca c x l))

theorem Qho {P : Prg} {f fE fW t0 : Nat} (b : Qj P f 30 [.tmp 4] (Jh fE fW t0)) (hE : JA P fE) (hW : J8 P fW) : QgR P f := by
  intro c x l hI
  refine VC.of_acall (by simp [Qu, isD, QI, shA]) rfl (ACall.of_body b (by simp) ?_)
  have hE' := hE c x
  rw [shA] at hE'
  simp (maxSteps := 4000000) (disch := omega) only [rr, aop, cV, cV1, AV.one, Qb, okW, Qd, app, Qa, Qc, Qe, Qf, Qg, simprocAttr, Jh, shA]
  refine Qh.vc hE' ?_
  rcases Q4 c x with h1 | ⟨h1, h2, h3, h4⟩
  · simp (maxSteps := 4000000) (disch := omega) only [rr, aop, cV, cV1, AV.one, Qb, okW, Qd, app, Qa, Qc, Qe, Qf, Qg, simprocAttr, h1, QhR h1]
  simp (maxSteps := 4000000) (disch := omega) only [rr, aop, cV, cV1, AV.one, Qb, okW, Qd, app, Qa, Qc, Qe, Qf, Qg, simprocAttr, h1]
  refine Qh.vc (hW x l hI) ?_
  by_cases h5 : QG x l = 0
  · have h9 : l.length ≤ 4000 := by rcases QdD x l with h | h | h | h <;> omega
    by_cases h6 : l.length = 0
    · simp (maxSteps := 4000000) (disch := omega) only [rr, aop, cV, cV1, AV.one, Qb, okW, Qd, app, Qa, Qc, Qe, Qf, Qg, simprocAttr, h5, il, h6, QfC h1 h5 (.inl h6)]
    · by_cases h7 : (l.length : Int) % c = 0
      · have hm := Qas (n := l.length) (c := c) (by omega)
        simp (maxSteps := 4000000) (disch := omega) only [rr, aop, cV, cV1, AV.one, Qb, okW, Qd, app, Qa, Qc, Qe, Qf, Qg, simprocAttr, h5, il, h6, h7, Qtn h1 h5 (by omega)]
      · have hm := Qas (n := l.length) (c := c) (by omega)
        simp (maxSteps := 4000000) (disch := omega) only [rr, aop, cV, cV1, AV.one, Qb, okW, Qd, app, Qa, Qc, Qe, Qf, Qg, simprocAttr, h5, il, h6, h7, QfC h1 h5 (.inr h7)]
  · simp (maxSteps := 4000000) (disch := omega) only [rr, aop, cV, cV1, AV.one, Qb, okW, Qd, app, Qa, Qc, Qe, Qf, Qg, simprocAttr, h5, QhS h1 h5]

theorem QkE {P : Prg} {f fE fW t0 : Nat} (b : Qj P f 28 [.tmp 4] (ZR fE fW t0)) (hE : JA P fE) (hW : J8 P fW) : QgR P f := by
  intro c x l hI
  refine VC.of_acall (by simp [Qu, isD, QI, shA]) rfl (ACall.of_body b (by simp) ?_)
  have hE' := hE c x
  rw [shA] at hE'
  simp (maxSteps := 4000000) (disch := omega) only [rr, aop, cV, cV1, AV.one, Qb, okW, Qd, app, Qa, Qc, Qe, Qf, Qg, simprocAttr, ZR, shA]
  refine Qh.vc hE' ?_
  rcases Q4 c x with h1 | ⟨h1, h2, h3, h4⟩
  · simp (maxSteps := 4000000) (disch := omega) only [rr, aop, cV, cV1, AV.one, Qb, okW, Qd, app, Qa, Qc, Qe, Qf, Qg, simprocAttr, h1, QhR h1]
  simp (maxSteps := 4000000) (disch := omega) only [rr, aop, cV, cV1, AV.one, Qb, okW, Qd, app, Qa, Qc, Qe, Qf, Qg, simprocAttr, h1]
  refine Qh.vc (hW x l hI) ?_
  by_cases h5 : QG x l = 0
  · have h9 : l.length ≤ 4000 := by rcases QdD x l with h | h | h | h <;> omega
    by_cases h6 : l.length = 0
    · simp (maxSteps := 4000000) (disch := omega) only [rr, aop, cV, cV1, AV.one, Qb, okW, Qd, app, Qa, Qc, Qe, Qf, Qg, simprocAttr, h5, il, h6, QfC h1 h5 (.inl h6)]
    · by_cases h7 : (l.length : Int) % c = 0
      · have hm := Qas (n := l.length) (c := c) (by omega)
        simp (maxSteps := 4000000) (disch := omega) only [rr, aop, cV, cV1, AV.one, Qb, okW, Qd, app, Qa, Qc, Qe, Qf, Qg, simprocAttr, h5, il, h6, h7, Qtn h1 h5 (by omega)]
      · have hm := Qas (n := l.length) (c := c) (by omega)
        have hp : 0 < (l.length : Int) % c := by omega
        simp (maxSteps := 4000000) (disch := omega) only [rr, aop, cV, cV1, AV.one, Qb, okW, Qd, app, Qa, Qc, Qe, Qf, Qg, simprocAttr, h5, il, h6, h7, QfC h1 h5 (.inr h7)]
  · simp (maxSteps := 4000000) (disch := omega) only [rr, aop, cV, cV1, AV.one, Qb, okW, Qd, app, Qa, Qc, Qe, Qf, Qg, simprocAttr, h5]
    refine Qh.vc (hW x l hI) ?_
    simp (maxSteps := 4000000) (disch := omega) only [rr, aop, cV, cV1, AV.one, Qb, okW, Qd, app, Qa, Qc, Qe, Qf, Qg, simprocAttr, QhS h1 h5]

end Go.Am

namespace Go.Am
open Go.RowKit

/-! ### Six channels in one array -/

def six (S : Nat → ZU) : List AV := QV (S 0) ++ (QV (S 1) ++ (QV (S 2) ++ (QV (S 3) ++ (QV (S 4) ++ QV (S 5)))))
def okS (S : Nat → ZU) : Prop := ∀ k, Qbm (S k).fl
theorem Qdr {S : Nat → ZU} (h : okS S) : (six S).length = 210 := by simp [six, Zt (h _)]
theorem Qwm {k : Nat} (h : k < 6) : k = 0 ∨ k = 1 ∨ k = 2 ∨ k = 3 ∨ k = 4 ∨ k = 5 := by omega
theorem Qs5 {S : Nat → ZU} (h : okS S) {k : Nat} (hk : k < 6) : ((six S).drop (k * 35)).take 35 = QV (S k) := by
  have l := fun k => Zt (h k)
  rcases Qwm hk with rfl | rfl | rfl | rfl | rfl | rfl <;> simp [six, List.drop_append, List.take_append, l, List.drop_eq_nil_of_le, Qw]
def upd (S : Nat → ZU) (k : Nat) (c : ZU) : Nat → ZU := fun j => if j = k then c else S j
theorem Qg9 {S : Nat → ZU} (h : okS S) {k : Nat} (hk : k < 6) (c : ZU) : (six S).take (k * 35) ++ QV c ++ (six S).drop (k * 35 + 35) = six (upd S k c) := by
  have l := fun k => Zt (h k)
  rcases Qwm hk with rfl | rfl | rfl | rfl | rfl | rfl <;> simp [six, upd, List.drop_append, List.take_append, l, List.drop_eq_nil_of_le, Qw]
theorem Qp8 (c : ZU) : X7 (QV c) = true := by simp [QV, Qm, X7, isT, Qfg, Qv]
theorem Qmz (S : Nat → ZU) : X7 (six S) = true := by simp [six, Qfg, Qp8]
theorem Qrk (S : Nat → ZU) : (six S).all AV.one = true := by simp only [six, List.all_append, ZW, Bool.and_self]

/-! ### What is coded -/

def stC (c : Nat) (L : List Int) (z : ZU) (k : Nat) : Nat → ZU
  | 0 => z
  | n + 1 => Qaw (stC c L z k n) (L.getD (k + n * c) 0)
def Qv5 (c : Nat) (L : List Int) (z : ZU) (j : Nat) : Int := Qf2 (Qda (stC c L z (j % c) (j / c)) (L.getD j 0))
def Qgw (c : Nat) (L : List Int) (z : ZU) (a : Nat) : List Int := (List.range a).map (Qv5 c L z)
theorem Qez (c : Nat) (L : List Int) (z : ZU) (a : Nat) : (Qgw c L z a).length = a := by simp [Qgw]
theorem QpM (c : Nat) (L : List Int) (z : ZU) (a : Nat) : Qgw c L z a ++ [Qv5 c L z a] = Qgw c L z (a + 1) := by simp [Qgw, List.range_succ]
theorem QpP {c : Nat} {L : List Int} {z : ZU} (hL : I32 L) (hz : Qmo z) (k : Nat) : ∀ n, Qmo (stC c L z k n)
  | 0 => hz
  | n + 1 => QkI (QpP hL hz k n) (Ze hL _)

def cnt (c k i : Nat) : Nat := if k < i % c then i / c + 1 else i / c
theorem Qvs (c k : Nat) : cnt c k 0 = 0 := by simp [cnt]
theorem QmN (c i : Nat) : cnt c (i % c) i = i / c := by simp [cnt]
theorem QmM {c k i : Nat} (hk : k < c) : cnt c k (i + 1) = if k = i % c then i / c + 1 else cnt c k i := by
  have hc : 0 < c := by omega
  have hr := Nat.mod_lt i hc
  have hi := Nat.div_add_mod i c
  unfold cnt
  by_cases h : i % c + 1 < c
  · have e1 : (i + 1) % c = i % c + 1 := by
      rw [show i + 1 = c * (i / c) + (i % c + 1) by omega, Nat.mul_add_mod, Nat.mod_eq_of_lt h]
    have e2 : (i + 1) / c = i / c := by
      rw [show i + 1 = (i % c + 1) + c * (i / c) by omega, Nat.add_mul_div_left _ _ hc, Nat.div_eq_of_lt h, Nat.zero_add]
    rw [e1, e2]
    split <;> split <;> (try split) <;> omega
  · have e0 : i + 1 = c * (i / c + 1) := by rw [Nat.mul_add]; omega
    have e1 : (i + 1) % c = 0 := by rw [e0, Nat.mul_mod_right]
    have e2 : (i + 1) / c = i / c + 1 := by rw [e0, Nat.mul_div_cancel_left _ hc]
    rw [e1, e2]
    split <;> split <;> (try split) <;> omega
def stA (c : Nat) (L : List Int) (z : ZU) (i : Nat) : Nat → ZU := fun k => if k < c then stC c L z k (cnt c k i) else z
theorem Qv0 (c : Nat) (L : List Int) (z : ZU) : stA c L z 0 = fun _ => z := by
  funext k; simp [stA, Qvs, stC]
theorem QuU {c : Nat} (hc : 1 ≤ c) (L : List Int) (z : ZU) (i : Nat) : stA c L z i (i % c) = stC c L z (i % c) (i / c) := by
  rw [stA, if_pos (Nat.mod_lt _ (by omega)), QmN]
theorem QrS {c : Nat} (hc : 1 ≤ c) (L : List Int) (z : ZU) (i : Nat) : upd (stA c L z i) (i % c) (Qaw (stC c L z (i % c) (i / c)) (L.getD i 0)) = stA c L z (i + 1) := by
  funext k
  have hr := Nat.mod_lt i (show 0 < c by omega)
  by_cases hk : k < c
  · simp only [upd, stA, if_pos hk, QmM hk]
    by_cases e : k = i % c
    · rw [if_pos e, if_pos e, e, stC]
      rw [show i % c + i / c * c = i by have := Nat.div_add_mod i c; rw [Nat.mul_comm]; omega]
    · rw [if_neg e, if_neg e]
  · simp only [upd, stA, if_neg hk]
    rw [if_neg (by omega)]
theorem Qu6 {c : Nat} {L : List Int} {z : ZU} (hL : I32 L) (hz : Qmo z) (i : Nat) : okS (stA c L z i) := fun k => by
  unfold stA; split
  · exact (QpP hL hz k _).2.2.1
  · exact hz.2.2.1
def Qgs (l : List Int) : AV := .list l.length (ks .u32 l)
theorem QmA (l : List Int) : isD (Qgs l) = true := by simp [Qgs, isD, Q0]
theorem Le.dropT (os : List Ob) {xs : List Ob} {fr fr' : List (Nat × AV)} (h : ∀ o ∈ os, X7 o.cs = true)
    (hfr : ∀ p ∈ fr', p.2 = .any ∨ QL (fun o => decide (o < os.length)) (fun o => decide (os.length ≤ o)) (os ++ xs) 2 [look fr p.1] = some [p.2]) : Le 0 ⟨fr, os ++ xs⟩ ⟨fr', os⟩ := by
  refine Le.drop os.length 2 (by omega) rfl hfr ?_
  intro i y hy
  have hi : i < os.length := by
    rcases Nat.lt_or_ge i os.length with h | h
    · exact h
    · rw [List.getElem?_eq_none h] at hy; cases hy
  refine ⟨y.cs, by rw [List.getElem?_append_left hi]; exact hy, ?_⟩
  simp only [QL]
  exact Qr _ (h y (List.mem_of_getElem? hy))
end Go.Am

namespace Go.Am
open Go.RowKit

def QrG (c x : Int) (t l : List Int) : AV := if Qca c x l ≠ 0 then .tup [.list 0 [], .int .i64 (Qca c x l)] else .tup [Qgs (Qgw c.toNat (Zz c.toNat l) (Jk x t) l.length), .int .i64 0]
theorem Qt6 (c x : Int) (t l : List Int) : isD (QrG c x t l) = true := by unfold QrG; split <;> simp [isD, Qu, QmA]
def QlQ (P : Prg) (f : Nat) : Prop := ∀ (c x : Int) (t l : List Int), t.length = 16 → I32 t → I32 l → VC P f [shA c x, .agg (ks .i32 t), il l] (QrG c x t l)

theorem QcZ : Qbm QaC.fl := ⟨by simp [QaC, Qig, z16], by simp [QaC, Qig, z16], fun x hx => by simp [QaC, Qig, z16] at hx; omega, fun x hx => by simp [QaC, Qig, z16] at hx; omega⟩
def QpW (z : ZU) (i : Nat) : Nat → ZU := fun k => if k < i then z else QaC
theorem Qta (z : ZU) : QpW z 0 = fun _ => QaC := by funext k; simp [QpW]
theorem Qi0 (z : ZU) (i : Nat) : upd (QpW z i) i z = QpW z (i + 1) := by
  funext k
  simp only [upd, QpW]
  split <;> split <;> (try split) <;> first | rfl | omega
theorem QpS {z : ZU} (h : Qbm z.fl) (i : Nat) : okS (QpW z i) := fun k => by
  unfold QpW; split
  · exact h
  · exact QcZ
theorem QuX (z : ZU) : six (QpW z 6) = six (fun _ => z) := by simp [six, QpW]
theorem QpT {x : Int} (hx : JJ x ≠ 0) {t : List Int} (hl : t.length = 16) (hI : I32 t) : Qmo (Jk x t) := ⟨hx, rfl, QpU hl hI, by simp [Jk]⟩

set_option maxRecDepth 20000 in
theorem Qf4 {P : Prg} {f fA fM fN fF fO t0 t1 t2 t3 t4 : Nat} (b : Qj P f 83 [.tmp 6, .tmp 7] (XQ fA fM fN fF fO t0 t1 t2 t3 t4)) (hA : QgR P fA) (hM : Qh4 P fM) (hN : Qm1 P fN) (hF : QdP P fF) (hO : Qrp P fO) : QlQ P f := by
  intro c x t l hl hI hL
  have hk : (ks .i32 t).length = 16 := by simp [Qk, hl]
  have ot := X6 .i32 t
  have tt : (ks .i32 t).take 16 = ks .i32 t := Qw (by omega)
  refine VC.of_walk 1 (by simp [Qu, isD, QI, Q0, shA]) (Qt6 _ _ _ _) (ACall.of_body b (by simp) ?_)
  have hA' := hA c x l hL
  rw [shA] at hA'
  unfold XQ
  rw [show ([.int .i64 0, .int .i32 0, .int .i64 0, .int .i32 0, .int .i32 0, .int .i32 0, .int .i32 0, .int .i32 0, .int .i32 0, .int .i32 0, .int .i32 0, .int .i32 0, .int .i32 0, .int .i32 0, .int .i32 0, .int .i32 0, .int .i32 0, .int .i32 0, .int .i32 0, .int .i32 0, .int .i32 0, .int .i32 0, .int .i32 0, .int .i32 0, .int .i32 0, .int .i32 0, .int .i32 0, .int .i32 0, .int .i32 0, .int .i32 0, .int .i32 0, .int .i32 0, .int .i32 0, .int .i32 0, .int .i32 0, .int .i64 0, .int .i32 0, .int .i64 0, .int .i32 0, .int .i32 0, .int .i32 0, .int .i32 0, .int .i32 0, .int .i32 0, .int .i32 0, .int .i32 0, .int .i32 0, .int .i32 0, .int .i32 0, .int .i32 0, .int .i32 0, .int .i32 0, .int .i32 0, .int .i32 0, .int .i32 0, .int .i32 0, .int .i32 0, .int .i32 0, .int .i32 0, .int .i32 0, .int .i32 0, .int .i32 0, .int .i32 0, .int .i32 0, .int .i32 0, .int .i32 0, .int .i32 0, .int .i32 0, .int .i32 0, .int .i32 0, .int .i64 0, .int .i32 0, .int .i64 0, .int .i32 0, .int .i32 0, .int .i32 0, .int .i32 0, .int .i32 0, .int .i32 0, .int .i32 0, .int .i32 0, .int .i32 0, .int .i32 0, .int .i32 0, .int .i32 0, .int .i32 0, .int .i32 0, .int .i32 0, .int .i32 0, .int .i32 0, .int .i32 0, .int .i32 0, .int .i32 0, .int .i32 0, .int .i32 0, .int .i32 0, .int .i32 0, .int .i32 0, .int .i32 0, .int .i32 0, .int .i32 0, .int .i32 0, .int .i32 0, .int .i32 0, .int .i32 0, .int .i64 0, .int .i32 0, .int .i64 0, .int .i32 0, .int .i32 0, .int .i32 0, .int .i32 0, .int .i32 0, .int .i32 0, .int .i32 0, .int .i32 0, .int .i32 0, .int .i32 0, .int .i32 0, .int .i32 0, .int .i32 0, .int .i32 0, .int .i32 0, .int .i32 0, .int .i32 0, .int .i32 0, .int .i32 0, .int .i32 0, .int .i32 0, .int .i32 0, .int .i32 0, .int .i32 0, .int .i32 0, .int .i32 0, .int .i32 0, .int .i32 0, .int .i32 0, .int .i32 0, .int .i32 0, .int .i32 0, .int .i64 0, .int .i32 0, .int .i64 0, .int .i32 0, .int .i32 0, .int .i32 0, .int .i32 0, .int .i32 0, .int .i32 0, .int .i32 0, .int .i32 0, .int .i32 0, .int .i32 0, .int .i32 0, .int .i32 0, .int .i32 0, .int .i32 0, .int .i32 0, .int .i32 0, .int .i32 0, .int .i32 0, .int .i32 0, .int .i32 0, .int .i32 0, .int .i32 0, .int .i32 0, .int .i32 0, .int .i32 0, .int .i32 0, .int .i32 0, .int .i32 0, .int .i32 0, .int .i32 0, .int .i32 0, .int .i32 0, .int .i64 0, .int .i32 0, .int .i64 0, .int .i32 0, .int .i32 0, .int .i32 0, .int .i32 0, .int .i32 0, .int .i32 0, .int .i32 0, .int .i32 0, .int .i32 0, .int .i32 0, .int .i32 0, .int .i32 0, .int .i32 0, .int .i32 0, .int .i32 0, .int .i32 0, .int .i32 0, .int .i32 0, .int .i32 0, .int .i32 0, .int .i32 0, .int .i32 0, .int .i32 0, .int .i32 0, .int .i32 0, .int .i32 0, .int .i32 0, .int .i32 0, .int .i32 0, .int .i32 0, .int .i32 0, .int .i32 0] : List AV) = six (fun _ => QaC) from rfl, ← QbJ]
  simp (maxSteps := 4000000) (disch := omega) only [rr, aop, cV, cV1, AV.one, Qb, okW, Qd, app, Qa, Qc, Qe, Qf, Qg, simprocAttr, shA, hk, ot, tt]
  refine Qh.vc hA' ?_
  by_cases h0 : Qca c x l = 0
  · obtain ⟨k, rfl, hok, hx⟩ := Qlz hL h0
    have hz := QpT hx hl hI
    have l0 := Qdr (S := fun _ => QaC) (fun _ => QcZ)
    have o0 := Qrk (fun _ => QaC)
    simp (maxSteps := 4000000) (disch := omega) only [rr, aop, cV, cV1, AV.one, Qb, okW, Qd, app, Qa, Qc, Qe, Qf, Qg, simprocAttr, h0]
    refine Qh.vc (hM k l hok) ?_
    obtain ⟨h1, h2, h3, h4, h5, h6⟩ := id hok
    have lm := JD k l
    have hI2 := QgS (c := k) hL
    have tm : X7 (ks .i32 (Zz k l)) = true := Qv _ _
    generalize hm : Zz k l = m at lm hI2 tm
    simp (maxSteps := 4000000) (disch := omega) only [rr, aop, cV, cV1, AV.one, Qb, okW, Qd, app, Qa, Qc, Qe, Qf, Qg, simprocAttr, l0, o0]
    refine QW.by (ι := Nat) (fun i => ⟨[(36, .int .i64 i), (11, .ref 2 1 0), (9, il m), (4, .ref 1 1 0), (3, .ref 0 1 0)], [⟨t0, 2, 1, [.int .i64 k, .int .i64 x], 0⟩, ⟨t1, 16, 1, ks .i32 t, 0⟩, ⟨t2, 210, 1, six (QpW (Jk x t) i), 0⟩]⟩) (fun i => i ≤ 6) (fun i => 6 - i) 0 (by rw [Qta]; exact Le.slots (by simp [Am.look])) (by omega) ?_
    intro i hi
    have oS := QpS hz.2.2.1 i
    have lS := Qdr oS
    by_cases hlt : i < 6
    · have e1 := Qg9 oS hlt (Jk x t)
      rw [Qi0] at e1
      have lc := Zt hz.2.2.1
      have oc := ZW (Jk x t)
      simp (maxSteps := 4000000) (disch := omega) only [rr, aop, cV, cV1, AV.one, Qb, okW, Qd, app, Qa, Qc, Qe, Qf, Qg, simprocAttr, hk, tt]
      refine Qh.vc (hN x t hl hI) ?_
      simp (maxSteps := 4000000) (disch := omega) only [rr, aop, cV, cV1, AV.one, Qb, okW, Qd, app, Qa, Qc, Qe, Qf, Qg, simprocAttr, Qlc, if_neg hx, lS, lc, oc, e1]
      exact ⟨i + 1, by omega, by omega, Le.slots (by simp [Am.look])⟩
    · have : i = 6 := by omega
      subst this
      simp (maxSteps := 4000000) (disch := omega) only [rr, aop, cV, cV1, AV.one, Qb, okW, Qd, app, Qa, Qc, Qe, Qf, Qg, simprocAttr, il]
      refine QW.by (ι := Nat) (fun i => ⟨[(51, .int .i64 i), (50, .int .i64 m.length), (49, il m), (13, .own 3 i), (11, .ref 2 1 0), (3, .ref 0 1 0)], [⟨t0, 2, 1, [.int .i64 k, .int .i64 x], 0⟩, ⟨t1, 16, 1, ks .i32 t, 0⟩, ⟨t2, 210, 1, six (stA k m (Jk x t) i), 0⟩, ⟨t4, 1, i, ks .u32 (Qgw k m (Jk x t) i), 0⟩]⟩) (fun i => i ≤ m.length) (fun i => m.length - i) 0 (by rw [Qv0, ← QuX]; exact Le.trans (Le.virt 13 t4 1 (by omega) rfl) (Le.slots (by simp [Am.look, Qgw, il]))) (by omega) ?_
      intro i hi
      have lo := Qez k m (Jk x t) i
      by_cases hlt : i < m.length
      · have oS := Qu6 hI2 hz (c := k) i
        have lS := Qdr oS
        have hr := Nat.mod_lt i (show 0 < k by omega)
        have e0 := Qs5 oS (k := i % k) (by omega)
        rw [QuU h1] at e0
        have e1 := Qg9 oS (k := i % k) (by omega) (Qaw (stC k m (Jk x t) (i % k) (i / k)) (m.getD i 0))
        rw [QrS h1] at e1
        have hok2 := QpP (c := k) hI2 hz (i % k) (i / k)
        have hok3 := QkI hok2 (Ze hI2 i)
        have hF' := hF _ (m.getD i 0) hok2 (Ze hI2 i)
        have hO' := hO (Qda (stC k m (Jk x t) (i % k) (i / k)) (m.getD i 0)) (XH _)
        have e2 := Qb0 (K := .i32) (l := m) (i := i) hlt
        have e3 : ks .u32 (Qgw k m (Jk x t) i) ++ [.int .u32 (Qf2 (Qda (stC k m (Jk x t) (i % k) (i / k)) (m.getD i 0)))] = ks .u32 (Qgw k m (Jk x t) (i + 1)) := by rw [Qhk, ← QpM]; rfl
        have lc := Zt hok3.2.2.1
        have oc := ZW (Qaw (stC k m (Jk x t) (i % k) (i / k)) (m.getD i 0))
        have tc : (QV (Qaw (stC k m (Jk x t) (i % k) (i / k)) (m.getD i 0))).take 35 = QV (Qaw (stC k m (Jk x t) (i % k) (i / k)) (m.getD i 0)) := Qw (by omega)
        have lz := Zt QcZ
        have oz := ZW QaC
        have dz : (QV QaC).drop 35 = [] := List.drop_eq_nil_of_le (by omega)
        have em : (i : Int) % k = (i % k : Nat) := by omega
        simp (maxSteps := 4000000) (disch := omega) only [rr, aop, cV, cV1, AV.one, Qb, okW, Qd, app, Qa, Qc, Qe, Qf, Qg, simprocAttr, il, e2, em, e0]
        refine Qh.vc hF' ?_
        simp (maxSteps := 4000000) (disch := omega) only [rr, aop, cV, cV1, AV.one, Qb, okW, Qd, app, Qa, Qc, Qe, Qf, Qg, simprocAttr, lz, oz, lc, oc, tc, e1, lS, dz, List.append_nil]
        refine Qh.vc hO' ?_
        simp (maxSteps := 4000000) (disch := omega) only [rr, aop, cV, cV1, AV.one, Qb, okW, Qd, app, Qa, Qc, Qe, Qf, Qg, simprocAttr, e3]
        exact ⟨i + 1, by omega, by omega, Le.dropT [_, _, _, _] (by simp [Qmz, Qv, X7, isT]) (by simp [Am.look, QL, QO, QK, Qr _ tm])⟩
      · have : i = m.length := by omega
        subst this
        have e9 : QrG k x t l = .tup [Qgs (Qgw k m (Jk x t) m.length), .int .i64 0] := by simp [QrG, h0, hm, lm]
        clear hi hlt
        have hq : ¬ (m.length : Int) < m.length := by omega
        simp (maxSteps := 4000000) (disch := omega) only [rr, aop, cV, cV1, AV.one, Qb, okW, Qd, app, Qa, Qc, Qe, Qf, Qg, simprocAttr, e9]
        simp [Zk, QL, QO, QK, Qu, isD, Qgs, lo, Qr _ (Qv .u32 _)]
  · have e9 : QrG c x t l = .tup [.list 0 [], .int .i64 (Qca c x l)] := by simp [QrG, h0]
    simp (maxSteps := 4000000) (disch := omega) only [rr, aop, cV, cV1, AV.one, Qb, okW, Qd, app, Qa, Qc, Qe, Qf, Qg, simprocAttr, h0, e9]
    simp [Zk, QL, QO, QK, Qu, isD]
end Go.Am

namespace Go.Am
open Go.RowKit

theorem Qs7 (K : IntKind) : ∀ n : Nat, Qt [.int K 0] n = ks K (List.replicate n 0)
  | 0 => rfl
  | n + 1 => by rw [Qt, Qs7 K n]; simp [ks, List.replicate_succ]

end Go.Am

namespace Go.Am
open Go.RowKit

def QlP (P : Prg) (f : Nat) : Prop := ∀ l : List Int, l.length ≤ 100000000 → VC P f [il l, il l] (.bool true)
theorem QnC {P : Prg} {f : Nat} (b : Qj P f 26 [.tmp 4] QM) : QlP P f := by
  intro l hl
  refine VC.of_acall (by simp [Qu, isD, QI]) rfl (ACall.of_body b (by simp) ?_)
  simp (maxSteps := 4000000) (disch := omega) only [rr, aop, cV, cV1, AV.one, Qb, okW, Qd, app, Qa, Qc, Qe, Qf, Qg, simprocAttr, QM, il]
  refine QW.by (ι := Nat) (fun k => ⟨[(5, .int .i64 k), (1, il l), (0, il l)], []⟩) (fun k => k ≤ l.length) (fun k => l.length - k) 0 (Le.slots (by simp [Am.look, il])) (by omega) ?_
  intro k hk
  by_cases hlt : k < l.length
  · have e1 := Qb0 (K := .i32) hlt
    simp (maxSteps := 4000000) (disch := omega) only [rr, aop, cV, cV1, AV.one, Qb, okW, Qd, app, Qa, Qc, Qe, Qf, Qg, simprocAttr, il, e1]
    exact ⟨k + 1, by omega, by omega, Le.slots (by simp [Am.look, il])⟩
  · simp (maxSteps := 4000000) (disch := omega) only [rr, aop, cV, cV1, AV.one, Qb, okW, Qd, app, Qa, Qc, Qe, Qf, Qg, simprocAttr, il]

end Go.Am

namespace Go.Am
open Go.RowKit

def QuR : Sh := .tuple (List.replicate 16 (.int .i32))
theorem QgE (K : IntKind) : ∀ (n : Nat) (cs0 : List AV), Qdm (List.replicate n (.int K)) cs0 → ∃ t : List Int, cs0 = ks K t ∧ t.length = n ∧ ∀ x ∈ t, K.min ≤ x ∧ x ≤ K.max
  | 0, cs0, h => by
    simp only [List.replicate, Qdm] at h
    exact ⟨[], by simpa [ks] using h, rfl, by simp⟩
  | n + 1, cs0, h => by
    simp only [List.replicate, Qdm, Qbc] at h
    obtain ⟨_, r, rfl, ⟨x, rfl, h1, h2⟩, h3⟩ := h
    obtain ⟨t, rfl, h4, h5⟩ := QgE K n r h3
    exact ⟨x :: t, by simp [ks], by simp [h4], fun y hy => by
      rcases List.mem_cons.1 hy with rfl | hy
      · exact ⟨h1, h2⟩
      · exact h5 y hy⟩
theorem Qvi {cs0 : List AV} (h : Qbc QuR cs0) : ∃ t : List Int, cs0 = ks .i32 t ∧ t.length = 16 ∧ I32 t := by
  simp only [QuR, Qbc] at h
  obtain ⟨t, h1, h2, h3⟩ := QgE .i32 16 cs0 h
  exact ⟨t, h1, h2, fun x hx => by have := h3 x hx; simpa [IntKind.min, IntKind.max, IntKind.signed, IntKind.bits] using this⟩
end Go.Am

namespace Go.Am
open Go.RowKit

/-! ### Unmixing -/

def ud (l : List Int) (b c : Nat) : Nat → Int
  | 0 => if c = 1 then l.getD b 0 else w32 (l.getD (b + (c - 1)) 0 + (l.getD (b + (c - 2)) 0).tdiv 2)
  | d + 1 => w32 (ud l b c d - l.getD (b + (c - 2 - d)) 0)
theorem Ql5 {l l' : List Int} {b b' c : Nat} (hc : 1 ≤ c) (h : ∀ j, j < c → l.getD (b + j) 0 = l'.getD (b' + j) 0) : ∀ d, ud l b c d = ud l' b' c d
  | 0 => by
    unfold ud
    have h0 := h 0 (by omega)
    simp only [Nat.add_zero] at h0
    rw [h0, h (c - 1) (by omega), h (c - 2) (by omega)]
  | d + 1 => by
    unfold ud
    rw [Ql5 hc h d, h (c - 2 - d) (by omega)]
theorem QuO {l : List Int} (h : I32 l) (b c : Nat) : ∀ d, -2147483648 ≤ ud l b c d ∧ ud l b c d ≤ 2147483647
  | 0 => by
    unfold ud; split
    · exact Ze h b
    · exact XH _
  | d + 1 => by unfold ud; exact XH _
def QfO (L : List Int) (k n d : Nat) : List Int := (List.range L.length).map fun j => if k + (n - 1 - d) ≤ j ∧ j < k + n then ud L k n (k + n - 1 - j) else L.getD j 0
theorem Jm (L : List Int) (k n d : Nat) : (QfO L k n d).length = L.length := by simp [QfO]
theorem QtP {L : List Int} {k n d j : Nat} (h : j < L.length) (h1 : k + (n - 1 - d) ≤ j) (h2 : j < k + n) : (QfO L k n d).getD j 0 = ud L k n (k + n - 1 - j) := by
  rw [QfO, QE h, if_pos ⟨h1, h2⟩]
theorem Qr2 {L : List Int} {k n d j : Nat} (h : j < L.length) (h1 : j < k + (n - 1 - d)) : (QfO L k n d).getD j 0 = L.getD j 0 := by
  rw [QfO, QE h, if_neg (by omega)]
theorem Qu2 {L : List Int} {k n : Nat} (h1 : 1 ≤ n) (h : k + n ≤ L.length) : L.set (k + (n - 1)) (ud L k n 0) = QfO L k n 0 := ZV (by simp [Jm]) fun j hj => by
  have hj' : j < L.length := by simpa using hj
  rw [Qew hj', QfO, QE hj']
  by_cases e : k + (n - 1) = j
  · subst e
    rw [if_pos rfl, if_pos (by omega), show k + n - 1 - (k + (n - 1)) = 0 by omega]
  · rw [if_neg e, if_neg (by omega)]
theorem Qu1 {L : List Int} {k : Nat} : QfO L k 1 0 = L := ZV (by simp [Jm]) fun j hj => by
  rw [Jm] at hj
  rw [QfO, QE hj]
  split
  · rw [show j = k by omega, show k + 1 - 1 - k = 0 by omega]; simp [ud]
  · rfl
theorem Qpn {L : List Int} {k n d : Nat} (hd : d + 1 < n) (h : k + n ≤ L.length) : (QfO L k n d).set (k + (n - 2 - d)) (w32 (ud L k n d - L.getD (k + (n - 2 - d)) 0)) = QfO L k n (d + 1) := ZV (by simp [Jm]) fun j hj => by
  have hj' : j < L.length := by simpa [Jm] using hj
  rw [Qew (by rw [Jm]; exact hj'), QfO, QfO, QE hj', QE hj']
  by_cases e : k + (n - 2 - d) = j
  · subst e
    rw [if_pos rfl, if_pos (by omega), show k + n - 1 - (k + (n - 2 - d)) = d + 1 by omega]
    rfl
  · rw [if_neg e]
    by_cases q : k + (n - 1 - d) ≤ j ∧ j < k + n
    · rw [if_pos q, if_pos (by omega)]
    · rw [if_neg q, if_neg (by omega)]
def QlI (P : Prg) (f : Nat) : Prop := ∀ (t : Nat) (L : List Int) (k n : Nat) (K : AV → List Ob → Prop), I32 L → 1 ≤ n → k + n ≤ L.length → L.length ≤ 1000000 →
  K (.tup []) [⟨t, 1, L.length, ks .i32 (QfO L k n (n - 1)), 0⟩] → ACall P f [.view 0 L.length k n] [⟨t, 1, L.length, ks .i32 L, 0⟩] K

theorem QpX {P : Prg} {f : Nat} (b : Qj P f 40 [] J2) : QlI P f := by
  intro t L k n K hL h1 h2 h3 hK
  refine ACall.of_body b (by simp) ?_
  by_cases hn : n = 1
  · subst hn
    simp (maxSteps := 4000000) (disch := omega) only [rr, aop, cV, cV1, AV.one, Qb, okW, Qd, app, Qa, Qc, Qe, Qf, Qg, simprocAttr, J2]
    refine QW.by (ι := Nat) (fun d => ⟨[(3, .int .i64 (-1)), (0, .view 0 L.length k 1)], [⟨t, 1, L.length, ks .i32 (QfO L k 1 0), 0⟩]⟩) (fun _ => True) (fun d => d) 0 (by rw [Qu1]; exact Le.slots (by simp [Am.look])) trivial ?_
    intro d _
    simp (maxSteps := 4000000) (disch := omega) only [rr, aop, cV, cV1, AV.one, Qb, okW, Qd, app, Qa, Qc, Qe, Qf, Qg, simprocAttr]
    exact hK
  · have e1 := Qb0 (K := .i32) (l := L) (i := k + (n - 1)) (by omega)
    have e2 := Qb0 (K := .i32) (l := L) (i := k + (n - 1 - 1)) (by omega)
    have e3 := fun v => Qmw (K := .i32) (l := L) (i := k + (n - 1)) (by omega) v
    have hr := QiG (Ze hL (k + (n - 2)))
    have a0 := Qu2 (L := L) (k := k) h1 h2
    have u0 : ud L k n 0 = w32 (L.getD (k + (n - 1)) 0 + (L.getD (k + (n - 2)) 0).tdiv 2) := by rw [ud, if_neg hn]
    rw [u0] at a0
    rw [show n - 1 - 1 = n - 2 by omega] at e2
    have en : n - 1 - 1 = n - 2 := by omega
    simp (maxSteps := 4000000) (disch := omega) only [rr, aop, cV, cV1, AV.one, Qb, okW, Qd, app, Qa, Qc, Qe, Qf, Qg, simprocAttr, J2, e1, en, e2, e3, Xf, a0]
    refine QW.by (ι := Nat) (fun d => ⟨[(3, .int .i64 ((n : Int) - 2 - d)), (0, .view 0 L.length k n)], [⟨t, 1, L.length, ks .i32 (QfO L k n d), 0⟩]⟩) (fun d => d ≤ n - 1) (fun d => n - 1 - d) 0 (Le.slots (by simp [Am.look]; omega)) (by omega) ?_
    intro d hd
    have ls := Jm L k n d
    by_cases hlt : d < n - 1
    · have f1 := Qb0 (K := .i32) (l := QfO L k n d) (i := k + (n - 1 - d)) (by omega)
      have f2 := Qb0 (K := .i32) (l := QfO L k n d) (i := k + (n - 2 - d)) (by omega)
      have f3 := fun v => Qmw (K := .i32) (l := QfO L k n d) (i := k + (n - 2 - d)) (by omega) v
      rw [QtP (by omega) (by omega) (by omega), show k + n - 1 - (k + (n - 1 - d)) = d by omega, show n - 1 - d = n - 2 - d + 1 by omega] at f1
      rw [Qr2 (by omega) (by omega)] at f2
      have a3 := Qpn (L := L) (k := k) (n := n) (d := d) (by omega) h2
      simp (maxSteps := 4000000) (disch := omega) only [rr, aop, cV, cV1, AV.one, Qb, okW, Qd, app, Qa, Qc, Qe, Qf, Qg, simprocAttr, f1, f2, f3, Xf, a3, ls]
      exact ⟨d + 1, by omega, by omega, Le.slots (by simp [Am.look]; omega)⟩
    · have e : d = n - 1 := by omega
      subst e
      simp (maxSteps := 4000000) (disch := omega) only [rr, aop, cV, cV1, AV.one, Qb, okW, Qd, app, Qa, Qc, Qe, Qf, Qg, simprocAttr]
      exact hK
end Go.Am

namespace Go.Am
open Go.RowKit

def QuK (c : Nat) (l : List Int) (j : Nat) : Int := ud l (c * (j / c)) c (c - 1 - j % c)
def QvM (c : Nat) (l : List Int) (a : Nat) : List Int := (List.range a).map (QuK c l)
def Qki (c : Nat) (l : List Int) (a : Nat) : List Int := (List.range l.length).map fun j => if j < a then QuK c l j else l.getD j 0
def Qcc (c : Nat) (l : List Int) : List Int := QvM c l l.length
theorem QbM (c : Nat) (l : List Int) (a : Nat) : (Qki c l a).length = l.length := by simp [Qki]
theorem QuN (c : Nat) (l : List Int) : Qki c l 0 = l := ZV (QbM _ _ _) fun j hj => by
  rw [QbM] at hj; rw [Qki, QE hj, if_neg (by omega)]
theorem Ql4 (c : Nat) (l : List Int) : Qki c l l.length = Qcc c l := by
  simp only [Qki, Qcc, QvM]
  apply List.map_congr_left
  intro j hj
  rw [if_pos (by simpa using hj)]
theorem QrK {c : Nat} {l : List Int} (h : I32 l) (j : Nat) : -2147483648 ≤ QuK c l j ∧ QuK c l j ≤ 2147483647 := QuO h _ _ _
theorem Qm4 {c : Nat} {l : List Int} (h : I32 l) (a : Nat) : I32 (Qki c l a) := by
  intro v hv
  simp only [Qki, List.mem_map] at hv
  obtain ⟨j, _, rfl⟩ := hv
  split
  · exact QrK h j
  · exact Ze h j
theorem Qot {c : Nat} {l : List Int} (h : I32 l) : I32 (Qcc c l) := by rw [← Ql4]; exact Qm4 h _
theorem QbN (c : Nat) (l : List Int) : (Qcc c l).length = l.length := by simp [Qcc, QvM]
theorem QnY {c m r : Nat} (h : r < c) : (c * m + r) / c = m ∧ (c * m + r) % c = r := by
  rw [Nat.mul_add_mod, Nat.mod_eq_of_lt h, Nat.mul_add_div (by omega), Nat.div_eq_of_lt h]; simp

theorem Qtw {c : Nat} {l : List Int} {m : Nat} (hc : 1 ≤ c) (h : c * m + c ≤ l.length) : QfO (Qki c l (c * m)) (c * m) c (c - 1) = Qki c l (c * m + c) := ZV (by simp [Jm, QbM]) fun j hj => by
  have hj' : j < l.length := by simpa [Jm, QbM] using hj
  rw [QfO, QbM, QE hj']
  conv => rhs; rw [Qki, QE hj']
  by_cases q : c * m ≤ j ∧ j < c * m + c
  · rw [if_pos (by omega), if_pos q.2]
    have e := QnY (c := c) (m := m) (r := j - c * m) (by omega)
    rw [show c * m + (j - c * m) = j by omega] at e
    rw [QuK, e.1, e.2, show c * m + c - 1 - j = c - 1 - (j - c * m) by omega]
    refine Ql5 hc (fun i hi => ?_) _
    rw [Qki, QE (by omega), if_neg (by omega)]
  · rw [if_neg (by omega), Qki, QE hj']
    by_cases r : j < c * m
    · rw [if_pos r, if_pos (by omega)]
    · rw [if_neg r, if_neg (by omega)]

def QfI (P : Prg) (f : Nat) : Prop := ∀ (c : Nat) (l : List Int), okM c l → VC P f [.int .i64 c, il l] (.tup [il (Qcc c l), .int .i64 0])

theorem Qsi {P : Prg} {f fC fK fM t : Nat} (b : Qj P f 32 [.tmp 4, .tmp 5] (Qcz fC fK fM)) (hC : QeI P fC) (hK : QeN t P fK) (hM : QlI P fM) : QfI P f := by
  intro c l hok
  obtain ⟨h1, h2, h3, h4, h5, h6⟩ := id hok
  have hc := QiY hok
  obtain ⟨q, hq⟩ : ∃ q, l.length = c * q := ⟨l.length / c, by have := Nat.div_add_mod l.length c; omega⟩
  refine VC.of_walk 1 (by simp [Qu, isD, QI]) (by simp [isD, Qu, QI]) (ACall.of_body b (by simp) ?_)
  simp (maxSteps := 4000000) (disch := omega) only [rr, aop, cV, cV1, AV.one, Qb, okW, Qd, app, Qa, Qc, Qe, Qf, Qg, simprocAttr, Qcz]
  refine Qh.vc (hC c l) ?_
  have n0 : l.length ≠ 0 := by omega
  simp (maxSteps := 4000000) (disch := omega) only [rr, aop, cV, cV1, AV.one, Qb, okW, Qd, app, Qa, Qc, Qe, Qf, Qg, simprocAttr, hc, n0]
  refine hK l [] _ h3 (by omega) ?_
  simp (maxSteps := 4000000) (disch := omega) only [rr, aop, cV, cV1, AV.one, Qb, okW, Qd, app, Qa, Qc, Qe, Qf, Qg, simprocAttr, n0]
  refine QW.by (ι := Nat) (fun m => ⟨[(8, .int .i64 (c * m : Nat)), (7, .own 0 l.length), (0, .int .i64 c)], [⟨t, 1, l.length, ks .i32 (Qki c l (c * m)), 0⟩]⟩) (fun m => m ≤ q) (fun m => q - m) 0 (by rw [Nat.mul_zero, QuN]; exact Le.slots (by simp [Am.look])) (by omega) ?_
  intro m hm
  by_cases hlt : c * m < l.length
  · have hs := Qmq (c := c) (m := m) (q := q) (by rw [← hq]; exact hlt)
    rw [← hq] at hs
    have hmq : m < q := Nat.lt_of_mul_lt_mul_left (a := c) (b := m) (c := q) (by rw [← hq]; exact hlt)
    have e0 : c * m + c - c * m = c := by omega
    have hM' := hM t (Qki c l (c * m)) (c * m) c
    rw [QbM, Qtw h1 hs] at hM'
    simp (maxSteps := 4000000) (disch := omega) only [rr, aop, cV, cV1, AV.one, Qb, okW, Qd, app, Qa, Qc, Qe, Qf, Qg, simprocAttr, e0, n0]
    refine hM' _ (Qm4 h6 _) h1 hs (by omega) ?_
    simp (maxSteps := 4000000) (disch := omega) only [rr, aop, cV, cV1, AV.one, Qb, okW, Qd, app, Qa, Qc, Qe, Qf, Qg, simprocAttr]
    exact ⟨m + 1, by omega, by omega, by rw [show c * (m + 1) = c * m + c by rw [Nat.mul_add, Nat.mul_one]]; exact Le.slots (by simp [Am.look])⟩
  · have e : c * m = l.length := by
      have := Nat.mul_le_mul_left c hm
      omega
    rw [e, Ql4]
    have lm := QbN c l
    simp (maxSteps := 4000000) (disch := omega) only [rr, aop, cV, cV1, AV.one, Qb, okW, Qd, app, Qa, Qc, Qe, Qf, Qg, simprocAttr]
    simp [Zk, QL, QO, QK, Qu, isD, il, lm, Qr _ (Qv .i32 (Qcc c l))]

/-! ### The reference -/

end Go.Am

namespace Go.Am
open Go.RowKit

/-! ### What is uncoded -/

def stB (c : Nat) (L : List Int) (z : ZU) (k : Nat) : Nat → ZU
  | 0 => z
  | n + 1 => Qax (stB c L z k n) (L.getD (k + n * c) 0)
def Qwf (c : Nat) (L : List Int) (z : ZU) (j : Nat) : Int := QhB (stB c L z (j % c) (j / c)) (L.getD j 0)
def Qjy (c : Nat) (L : List Int) (z : ZU) (a : Nat) : List Int := (List.range a).map (Qwf c L z)
theorem QaW (c : Nat) (L : List Int) (z : ZU) (a : Nat) : (Qjy c L z a).length = a := by simp [Qjy]
theorem Qq9 (c : Nat) (L : List Int) (z : ZU) (a : Nat) : Qjy c L z a ++ [Qwf c L z a] = Qjy c L z (a + 1) := by simp [Qjy, List.range_succ]
theorem Qm6 (c : Nat) (L : List Int) (z : ZU) (a : Nat) : I32 (Qjy c L z a) := by
  intro v hv
  simp only [Qjy, List.mem_map] at hv
  obtain ⟨j, _, rfl⟩ := hv
  exact XH _
theorem QpQ {c : Nat} {L : List Int} {z : ZU} (hz : Qmo z) (k : Nat) : ∀ n, Qmo (stB c L z k n)
  | 0 => hz
  | n + 1 => QkJ (QpQ hz k n) _
def Qo4 (c : Nat) (L : List Int) (z : ZU) (i : Nat) : Nat → ZU := fun k => if k < c then stB c L z k (cnt c k i) else z
theorem QuV (c : Nat) (L : List Int) (z : ZU) : Qo4 c L z 0 = fun _ => z := by
  funext k; simp [Qo4, Qvs, stB]
theorem QtA {c : Nat} (hc : 1 ≤ c) (L : List Int) (z : ZU) (i : Nat) : Qo4 c L z i (i % c) = stB c L z (i % c) (i / c) := by
  rw [Qo4, if_pos (Nat.mod_lt _ (by omega)), QmN]
theorem Qo3 {c : Nat} (hc : 1 ≤ c) (L : List Int) (z : ZU) (i : Nat) : upd (Qo4 c L z i) (i % c) (Qax (stB c L z (i % c) (i / c)) (L.getD i 0)) = Qo4 c L z (i + 1) := by
  funext k
  have hr := Nat.mod_lt i (show 0 < c by omega)
  by_cases hk : k < c
  · simp only [upd, Qo4, if_pos hk, QmM hk]
    by_cases e : k = i % c
    · rw [if_pos e, if_pos e, e, stB]
      rw [show i % c + i / c * c = i by have := Nat.div_add_mod i c; rw [Nat.mul_comm]; omega]
    · rw [if_neg e, if_neg e]
  · simp only [upd, Qo4, if_neg hk]
    rw [if_neg (by omega)]
theorem QtU {c : Nat} {L : List Int} {z : ZU} (hz : Qmo z) (i : Nat) : okS (Qo4 c L z i) := fun k => by
  unfold Qo4; split
  · exact (QpQ hz k _).2.2.1
  · exact hz.2.2.1
def U32 (l : List Int) : Prop := ∀ x ∈ l, 0 ≤ x ∧ x < 4294967296
theorem QsX {l : List Int} (h : U32 l) (j : Nat) : 0 ≤ l.getD j 0 ∧ l.getD j 0 < 4294967296 := by
  by_cases hj : j < l.length
  · rw [List.getD_eq_getElem?_getD, List.getElem?_eq_getElem hj]
    exact h _ (List.getElem_mem hj)
  · rw [List.getD_eq_getElem?_getD, List.getElem?_eq_none (by omega)]; simp
theorem QgN {v : List Int} {j : Nat} (h : j < v.length) : (v.map Xc).getD j 0 = Xc (v.getD j 0) := by
  simp [List.getD_eq_getElem?_getD, List.getElem?_map, List.getElem?_eq_getElem h]

def unB (c : Nat) (x : Int) (t v : List Int) : List Int := Qcc c (Qjy c (v.map Xc) (Jk x t) v.length)
theorem QoS (c : Nat) (x : Int) (t v : List Int) : (unB c x t v).length = v.length := by simp [unB, QbN, QaW]
def okV (c : Nat) (v : List Int) : Prop := 1 ≤ c ∧ c ≤ 6 ∧ 0 < v.length ∧ v.length ≤ 4000 ∧ v.length % c = 0 ∧ U32 v
theorem Qv6 {c : Nat} {v : List Int} (h : okV c v) (x : Int) (t : List Int) : okM c (Qjy c (v.map Xc) (Jk x t) v.length) := by
  obtain ⟨h1, h2, h3, h4, h5, _⟩ := h
  exact ⟨h1, h2, by rw [QaW]; omega, by rw [QaW]; omega, by rw [QaW]; exact h5, Qm6 _ _ _ _⟩
def Qov (x : Int) (l : List Int) : AV := if QG x l ≠ 0 then .tup [.list 0 [], .int .i64 (QG x l)] else .tup [il l, .int .i64 0]
theorem Qqa (x : Int) (l : List Int) : isD (Qov x l) = true := by unfold Qov; split <;> simp [isD, Qu, QI]
def Qrs (P : Prg) (f : Nat) : Prop := ∀ (c : Nat) (x : Int) (t v : List Int), t.length = 16 → I32 t → okV c v → JJ x ≠ 0 → VC P f [shA c x, .agg (ks .i32 t), Qgs v] (Qov x (unB c x t v))

set_option maxRecDepth 20000 in
theorem Qfs {P : Prg} {f fN fO fB fU fW t0 t1 t2 t3 t4 : Nat} (b : Qj P f 84 [.tmp 6, .tmp 7] (Xz fN fO fB fU fW t0 t1 t2 t3 t4)) (hN : Qm1 P fN) (hO : QlJ P fO) (hB : QlT P fB) (hU : QfI P fU) (hW : J8 P fW) : Qrs P f := by
  intro k x t v hl hI hok hx
  have hk : (ks .i32 t).length = 16 := by simp [Qk, hl]
  have ot := X6 .i32 t
  have tt : (ks .i32 t).take 16 = ks .i32 t := Qw (by omega)
  refine VC.of_walk 1 (by simp [Qu, isD, QmA, Q0, shA]) (Qqa _ _) (ACall.of_cut 5 b (by simp) ?_)
  have hz := QpT hx hl hI
  have l0 := Qdr (S := fun _ => QaC) (fun _ => QcZ)
  have o0 := Qrk (fun _ => QaC)
  obtain ⟨h1, h2, h3, h4, h5, h6⟩ := id hok
  unfold Xz
  rw [show ([.int .i64 0, .int .i32 0, .int .i64 0, .int .i32 0, .int .i32 0, .int .i32 0, .int .i32 0, .int .i32 0, .int .i32 0, .int .i32 0, .int .i32 0, .int .i32 0, .int .i32 0, .int .i32 0, .int .i32 0, .int .i32 0, .int .i32 0, .int .i32 0, .int .i32 0, .int .i32 0, .int .i32 0, .int .i32 0, .int .i32 0, .int .i32 0, .int .i32 0, .int .i32 0, .int .i32 0, .int .i32 0, .int .i32 0, .int .i32 0, .int .i32 0, .int .i32 0, .int .i32 0, .int .i32 0, .int .i32 0, .int .i64 0, .int .i32 0, .int .i64 0, .int .i32 0, .int .i32 0, .int .i32 0, .int .i32 0, .int .i32 0, .int .i32 0, .int .i32 0, .int .i32 0, .int .i32 0, .int .i32 0, .int .i32 0, .int .i32 0, .int .i32 0, .int .i32 0, .int .i32 0, .int .i32 0, .int .i32 0, .int .i32 0, .int .i32 0, .int .i32 0, .int .i32 0, .int .i32 0, .int .i32 0, .int .i32 0, .int .i32 0, .int .i32 0, .int .i32 0, .int .i32 0, .int .i32 0, .int .i32 0, .int .i32 0, .int .i32 0, .int .i64 0, .int .i32 0, .int .i64 0, .int .i32 0, .int .i32 0, .int .i32 0, .int .i32 0, .int .i32 0, .int .i32 0, .int .i32 0, .int .i32 0, .int .i32 0, .int .i32 0, .int .i32 0, .int .i32 0, .int .i32 0, .int .i32 0, .int .i32 0, .int .i32 0, .int .i32 0, .int .i32 0, .int .i32 0, .int .i32 0, .int .i32 0, .int .i32 0, .int .i32 0, .int .i32 0, .int .i32 0, .int .i32 0, .int .i32 0, .int .i32 0, .int .i32 0, .int .i32 0, .int .i32 0, .int .i32 0, .int .i64 0, .int .i32 0, .int .i64 0, .int .i32 0, .int .i32 0, .int .i32 0, .int .i32 0, .int .i32 0, .int .i32 0, .int .i32 0, .int .i32 0, .int .i32 0, .int .i32 0, .int .i32 0, .int .i32 0, .int .i32 0, .int .i32 0, .int .i32 0, .int .i32 0, .int .i32 0, .int .i32 0, .int .i32 0, .int .i32 0, .int .i32 0, .int .i32 0, .int .i32 0, .int .i32 0, .int .i32 0, .int .i32 0, .int .i32 0, .int .i32 0, .int .i32 0, .int .i32 0, .int .i32 0, .int .i32 0, .int .i64 0, .int .i32 0, .int .i64 0, .int .i32 0, .int .i32 0, .int .i32 0, .int .i32 0, .int .i32 0, .int .i32 0, .int .i32 0, .int .i32 0, .int .i32 0, .int .i32 0, .int .i32 0, .int .i32 0, .int .i32 0, .int .i32 0, .int .i32 0, .int .i32 0, .int .i32 0, .int .i32 0, .int .i32 0, .int .i32 0, .int .i32 0, .int .i32 0, .int .i32 0, .int .i32 0, .int .i32 0, .int .i32 0, .int .i32 0, .int .i32 0, .int .i32 0, .int .i32 0, .int .i32 0, .int .i32 0, .int .i64 0, .int .i32 0, .int .i64 0, .int .i32 0, .int .i32 0, .int .i32 0, .int .i32 0, .int .i32 0, .int .i32 0, .int .i32 0, .int .i32 0, .int .i32 0, .int .i32 0, .int .i32 0, .int .i32 0, .int .i32 0, .int .i32 0, .int .i32 0, .int .i32 0, .int .i32 0, .int .i32 0, .int .i32 0, .int .i32 0, .int .i32 0, .int .i32 0, .int .i32 0, .int .i32 0, .int .i32 0, .int .i32 0, .int .i32 0, .int .i32 0, .int .i32 0, .int .i32 0, .int .i32 0, .int .i32 0] : List AV) = six (fun _ => QaC) from rfl, ← QbJ]
  simp (maxSteps := 4000000) (disch := omega) only [rr, aop, cV, cV1, AV.one, Qb, okW, Qd, app, Qa, Qc, Qe, Qf, Qg, simprocAttr, Qhx, shA, Qgs, hk, ot, tt, l0, o0]
  refine QW.by (ι := Nat) (fun i => ⟨[(20, .int .i64 i), (8, .ref 2 1 0), (4, .ref 1 1 0), (3, .ref 0 1 0), (2, Qgs v)], [⟨t0, 2, 1, [.int .i64 k, .int .i64 x], 0⟩, ⟨t1, 16, 1, ks .i32 t, 0⟩, ⟨t2, 210, 1, six (QpW (Jk x t) i), 0⟩]⟩) (fun i => i ≤ 6) (fun i => 6 - i) 0 (by rw [Qta]; exact Le.slots (by simp [Am.look, Qgs])) (by omega) ?_
  intro i hi
  have oS := QpS hz.2.2.1 i
  have lS := Qdr oS
  by_cases hlt : i < 6
  · have e1 := Qg9 oS hlt (Jk x t)
    rw [Qi0] at e1
    have lc := Zt hz.2.2.1
    have oc := ZW (Jk x t)
    simp (maxSteps := 4000000) (disch := omega) only [rr, aop, cV, cV1, AV.one, Qb, okW, Qd, app, Qa, Qc, Qe, Qf, Qg, simprocAttr, hk, tt]
    refine Qh.vc (hN x t hl hI) ?_
    simp (maxSteps := 4000000) (disch := omega) only [rr, aop, cV, cV1, AV.one, Qb, okW, Qd, app, Qa, Qc, Qe, Qf, Qg, simprocAttr, Qlc, if_neg hx, lS, lc, oc, e1]
    exact ⟨i + 1, by omega, by omega, Le.slots (by simp [Am.look])⟩
  · have : i = 6 := by omega
    subst this
    simp (maxSteps := 4000000) (disch := omega) only [rr, aop, cV, cV1, AV.one, Qb, okW, Qd, app, Qa, Qc, Qe, Qf, Qg, simprocAttr, Qhx, Qgs]
    have tv : X7 (ks .u32 v) = true := Qv _ _
    refine QW.by (ι := Nat) (fun i => ⟨[(35, .int .i64 i), (34, .int .i64 v.length), (33, Qgs v), (10, .own 3 i), (8, .ref 2 1 0), (3, .ref 0 1 0)], [⟨t0, 2, 1, [.int .i64 k, .int .i64 x], 0⟩, ⟨t1, 16, 1, ks .i32 t, 0⟩, ⟨t2, 210, 1, six (Qo4 k (v.map Xc) (Jk x t) i), 0⟩, ⟨t4, 1, i, ks .i32 (Qjy k (v.map Xc) (Jk x t) i), 0⟩]⟩) (fun i => i ≤ v.length) (fun i => v.length - i) 0 (by rw [QuV, ← QuX]; exact Le.trans (Le.virt 10 t4 1 (by omega) rfl) (Le.slots (by simp [Am.look, Qjy, Qgs]))) (by omega) ?_
    intro i hi
    have lo := QaW k (v.map Xc) (Jk x t) i
    have to : X7 (ks .i32 (Qjy k (v.map Xc) (Jk x t) i)) = true := Qv _ _
    by_cases hlt : i < v.length
    · have oS := QtU hz (c := k) (L := v.map Xc) i
      have lS := Qdr oS
      have hr := Nat.mod_lt i (show 0 < k by omega)
      have e0 := Qs5 oS (k := i % k) (by omega)
      rw [QtA h1] at e0
      have e1 := Qg9 oS (k := i % k) (by omega) (Qax (stB k (v.map Xc) (Jk x t) (i % k) (i / k)) ((v.map Xc).getD i 0))
      rw [Qo3 h1] at e1
      have hok2 := QpQ (c := k) (L := v.map Xc) hz (i % k) (i / k)
      have eb := QgN hlt
      have hO' := hO (v.getD i 0) (QsX h6 i)
      rw [← eb] at hO'
      have hB' := hB _ ((v.map Xc).getD i 0) hok2
      have hok3 := QkJ hok2 ((v.map Xc).getD i 0)
      have e2 := Qb0 (K := .u32) (l := v) (i := i) hlt
      have e3 : ks .i32 (Qjy k (v.map Xc) (Jk x t) i) ++ [.int .i32 (QhB (stB k (v.map Xc) (Jk x t) (i % k) (i / k)) ((v.map Xc).getD i 0))] = ks .i32 (Qjy k (v.map Xc) (Jk x t) (i + 1)) := by rw [Qhk, ← Qq9]; rfl
      have lc := Zt hok3.2.2.1
      have oc := ZW (Qax (stB k (v.map Xc) (Jk x t) (i % k) (i / k)) ((v.map Xc).getD i 0))
      have tc : (QV (Qax (stB k (v.map Xc) (Jk x t) (i % k) (i / k)) ((v.map Xc).getD i 0))).take 35 = QV (Qax (stB k (v.map Xc) (Jk x t) (i % k) (i / k)) ((v.map Xc).getD i 0)) := Qw (by omega)
      have lz := Zt QcZ
      have oz := ZW QaC
      have dz : (QV QaC).drop 35 = [] := List.drop_eq_nil_of_le (by omega)
      have em : (i : Int) % k = (i % k : Nat) := by omega
      simp (maxSteps := 4000000) (disch := omega) only [rr, aop, cV, cV1, AV.one, Qb, okW, Qd, app, Qa, Qc, Qe, Qf, Qg, simprocAttr, Qgs, e2, em, e0]
      refine Zf.vc hO' ?_
      simp (maxSteps := 4000000) (disch := omega) only [rr, aop, cV, cV1, AV.one, Qb, okW, Qd, app, Qa, Qc, Qe, Qf, Qg, simprocAttr]
      refine Zf.vc hB' ?_
      simp (maxSteps := 4000000) (disch := omega) only [rr, aop, cV, cV1, AV.one, Qb, okW, Qd, app, Qa, Qc, Qe, Qf, Qg, simprocAttr, lz, oz, lc, oc, tc, e1, lS, dz, e3, List.append_nil, List.take_zero, List.nil_append]
      exact ⟨i + 1, by omega, by omega, Le.dropT [_, _, _, _] (by simp [Qmz, Qv, X7, isT]) (by simp [Am.look, QL, QO, QK, Qr _ tv])⟩
    · have e : i = v.length := by omega
      subst e
      simp (maxSteps := 4000000) (disch := omega) only [rr, aop, cV, cV1, AV.one, Qb, okW, Qd, app, Qa, Qc, Qe, Qf, Qg, simprocAttr, Qhx]
      refine ⟨⟨[(10, il (Qjy k (v.map Xc) (Jk x t) v.length)), (3, .ref 0 1 0)], [⟨t0, 2, 1, [.int .i64 k, .int .i64 x], 0⟩]⟩, Le.dropT [_] (by simp [X7, isT]) (by simp [Am.look, QL, QO, QK, il, lo, Qr _ to]), ?_⟩
      simp (maxSteps := 4000000) (disch := omega) only [rr, aop, cV, cV1, AV.one, Qb, okW, Qd, app, Qa, Qc, Qe, Qf, Qg, simprocAttr]
      refine Qh.vc (hU k _ (Qv6 hok x t)) ?_
      simp (maxSteps := 4000000) (disch := omega) only [rr, aop, cV, cV1, AV.one, Qb, okW, Qd, app, Qa, Qc, Qe, Qf, Qg, simprocAttr]
      refine Qh.vc (hW x (unB k x t v) (Qot (Qm6 _ _ _ _))) ?_
      have lu := QoS k x t v
      by_cases h9 : QG x (unB k x t v) = 0
      · have e9 : Qov x (unB k x t v) = .tup [il (unB k x t v), .int .i64 0] := by simp [Qov, h9]
        simp (maxSteps := 4000000) (disch := omega) only [rr, aop, cV, cV1, AV.one, Qb, okW, Qd, app, Qa, Qc, Qe, Qf, Qg, simprocAttr, h9, e9]
        simp only [unB] at *
        simp [Zk, QL, QO, QK, Qu, isD, il, Qr _ (Qv .i32 _)]
      · have e9 : Qov x (unB k x t v) = .tup [.list 0 [], .int .i64 (QG x (unB k x t v))] := by simp [Qov, h9]
        simp (maxSteps := 4000000) (disch := omega) only [rr, aop, cV, cV1, AV.one, Qb, okW, Qd, app, Qa, Qc, Qe, Qf, Qg, simprocAttr, h9, e9]
        simp [Zk, QL, QO, QK, Qu, isD]
end Go.Am

namespace Go.Am
open Go.RowKit

def erA (e : Int) : AV := .tup [.list 0 [], .int .i64 e]
end Go.Am

namespace Go.Am
open Go.RowKit

def Qgf (r n : Int) : AV := if r < 1 ∨ 1048576 < r then .tup [.int .i64 0, .int .i64 2] else if n < 1 ∨ 4000 < n then .tup [.int .i64 0, .int .i64 2] else if 1000 < (n + Qy r - 1) / Qy r then .tup [.int .i64 0, .int .i64 4] else .tup [.int .i64 ((n + Qy r - 1) / Qy r), .int .i64 0]
theorem Qqd (r n : Int) : isD (Qgf r n) = true := by unfold Qgf; split <;> (try split) <;> (try split) <;> rfl
def JV (P : Prg) (f : Nat) : Prop := ∀ r n : Int, VC P f [.int .i64 r, .int .i64 n] (Qgf r n)

theorem Qhh {P : Prg} {f fL : Nat} (b : Qj P f 32 [.tmp 4, .tmp 5] (Jg fL)) (hL : Qbb P fL) : JV P f := by
  intro r n
  refine VC.of_acall rfl (Qqd _ _) (ACall.of_body b (by simp) ?_)
  have hL' := hL r
  simp (maxSteps := 4000000) (disch := omega) only [rr, aop, cV, cV1, AV.one, Qb, okW, Qd, app, Qa, Qc, Qe, Qf, Qg, simprocAttr, Jg]
  refine Qh.vc hL' ?_
  by_cases h1 : r < 1 ∨ 1048576 < r
  · have e1 : Qbk r = .tup [.int .i64 0, .int .i64 2] := by rw [Qbk, if_pos h1]
    have e2 : Qgf r n = .tup [.int .i64 0, .int .i64 2] := by rw [Qgf, if_pos h1]
    simp (maxSteps := 4000000) (disch := omega) only [rr, aop, cV, cV1, AV.one, Qb, okW, Qd, app, Qa, Qc, Qe, Qf, Qg, simprocAttr, e1, e2]
  have e1 : Qbk r = .tup [.int .i64 (Qy r), .int .i64 0] := by rw [Qbk, if_neg h1]
  have p1 := Z8 r
  have p2 := Qmu (r := r) (by omega)
  by_cases h2 : n < 1
  · have e2 : Qgf r n = .tup [.int .i64 0, .int .i64 2] := by rw [Qgf, if_neg h1, if_pos (.inl h2)]
    simp (maxSteps := 4000000) (disch := omega) only [rr, aop, cV, cV1, AV.one, Qb, okW, Qd, app, Qa, Qc, Qe, Qf, Qg, simprocAttr, e1, e2]
  by_cases h3 : 4000 < n
  · have e2 : Qgf r n = .tup [.int .i64 0, .int .i64 2] := by rw [Qgf, if_neg h1, if_pos (.inr h3)]
    simp (maxSteps := 4000000) (disch := omega) only [rr, aop, cV, cV1, AV.one, Qb, okW, Qd, app, Qa, Qc, Qe, Qf, Qg, simprocAttr, e1, e2]
  have e2 : Qgf r n = if 1000 < (n + Qy r - 1) / Qy r then .tup [.int .i64 0, .int .i64 4] else .tup [.int .i64 ((n + Qy r - 1) / Qy r), .int .i64 0] := by
    rw [Qgf, if_neg h1, if_neg (by omega)]
  generalize Qy r = L at *
  have q0 : (n + L - 1).tdiv L = (n + L - 1) / L := Int.tdiv_eq_ediv_of_nonneg (by omega)
  have q1 : 0 ≤ (n + L - 1) / L := Int.ediv_nonneg (by omega) (by omega)
  have q2 : (n + L - 1) / L ≤ n + L - 1 := Int.ediv_le_self _ (by omega)
  generalize hq : (n + L - 1) / L = Q at *
  by_cases h4 : 1000 < Q
  · rw [if_pos h4] at e2
    simp (maxSteps := 4000000) (disch := omega) only [rr, aop, cV, cV1, AV.one, Qb, okW, Qd, app, Qa, Qc, Qe, Qf, Qg, simprocAttr, e1, q0, hq, e2]
  · rw [if_neg h4] at e2
    simp (maxSteps := 4000000) (disch := omega) only [rr, aop, cV, cV1, AV.one, Qb, okW, Qd, app, Qa, Qc, Qe, Qf, Qg, simprocAttr, e1, q0, hq, e2]

def Ja (P : Prg) (f : Nat) : Prop := ∀ (c x r : Int) (l : List Int), VC P f [.agg [.int .i64 c, .int .i64 x, .int .i64 r, il l]] (shA c x)
theorem Qn3 {P : Prg} {f t0 t1 : Nat} (b : Qj P f 8 [.cell 2 t1] (Z0 t0 t1)) (ht : ZB P t1 = some (some 2)) : Ja P f := by
  intro c x r l
  refine VC.of_acall (by simp [Qu, isD, QI]) rfl (ACall.of_body b (by simp) ?_)
  simp (maxSteps := 4000000) (disch := omega) only [rr, aop, cV, cV1, AV.one, Qb, okW, Qd, app, Qa, Qc, Qe, Qf, Qg, simprocAttr, Z0, il, ZE, ht, shA]
theorem Qkz {P : Prg} {f t0 t1 : Nat} (b : Qj P f 8 [.cell 2 t1] (ZO t0 t1)) (ht : ZB P t1 = some (some 2)) : Ja P f := by
  intro c x r l
  refine VC.of_acall (by simp [Qu, isD, QI]) rfl (ACall.of_body b (by simp) ?_)
  simp (maxSteps := 4000000) (disch := omega) only [rr, aop, cV, cV1, AV.one, Qb, okW, Qd, app, Qa, Qc, Qe, Qf, Qg, simprocAttr, ZO, il, ZE, ht, shA]

def Qlb (r n : Int) : Int := if r < 1 ∨ 1048576 < r then 2 else if n < 1 ∨ 4000 < n then 2 else if 1000 < (n + Qy r - 1) / Qy r then 4 else 0
theorem QmO (r n : Int) : ∃ k : Int, Qgf r n = .tup [.int .i64 k, .int .i64 (Qlb r n)] := by
  unfold Qgf Qlb
  split
  · exact ⟨_, rfl⟩
  split
  · exact ⟨_, rfl⟩
  split
  · exact ⟨_, rfl⟩
  · exact ⟨_, rfl⟩
def ZK (c x r n : Int) : Int := if Zh c x ≠ 0 then 8 else if n < 1 then 8 else if 4000 / c < n then 8 else if Qlb r n ≠ 0 then 8 else 0
def Qic (P : Prg) (f : Nat) : Prop := ∀ (c x r n : Int) (l : List Int), VC P f [.agg [.int .i64 c, .int .i64 x, .int .i64 r, il l], .int .i64 n] (.int .i64 (ZK c x r n))
theorem QqQ {P : Prg} {f fS fE fC t0 : Nat} (b : Qj P f 31 [.tmp 4] (QbG fS fE fC t0)) (hS : Ja P fS) (hE : JA P fE) (hC : JV P fC) : Qic P f := by
  intro c x r n l
  refine VC.of_acall (by simp [Qu, isD, QI]) rfl (ACall.of_body b (by simp) ?_)
  have hS' := hS c x r l
  have hE' := hE c x
  rw [shA] at hS' hE'
  rw [il] at hS'
  obtain ⟨k, ek⟩ := QmO r n
  have hC' := hC r n
  rw [ek] at hC'
  simp (maxSteps := 4000000) (disch := omega) only [rr, aop, cV, cV1, AV.one, Qb, okW, Qd, app, Qa, Qc, Qe, Qf, Qg, simprocAttr, QbG, il]
  refine Qh.vc hS' ?_
  simp (maxSteps := 4000000) (disch := omega) only [rr, aop, cV, cV1, AV.one, Qb, okW, Qd, app, Qa, Qc, Qe, Qf, Qg, simprocAttr]
  refine Qh.vc hE' ?_
  rcases Q4 c x with h1 | ⟨h1, h2, h3, h4⟩
  · have e9 : ZK c x r n = 8 := by simp [ZK, h1]
    simp (maxSteps := 4000000) (disch := omega) only [rr, aop, cV, cV1, AV.one, Qb, okW, Qd, app, Qa, Qc, Qe, Qf, Qg, simprocAttr, h1, e9]
  have q0 : (4000 : Int).tdiv c = 4000 / c := Int.tdiv_eq_ediv_of_nonneg (by omega)
  have q1 : 0 ≤ (4000 : Int) / c := Int.ediv_nonneg (by omega) (by omega)
  have q2 : (4000 : Int) / c ≤ 4000 := Int.ediv_le_self _ (by omega)
  by_cases h5 : n < 1
  · have e9 : ZK c x r n = 8 := by simp [ZK, h5]
    simp (maxSteps := 4000000) (disch := omega) only [rr, aop, cV, cV1, AV.one, Qb, okW, Qd, app, Qa, Qc, Qe, Qf, Qg, simprocAttr, h1, e9]
  by_cases h6 : 4000 / c < n
  · have e9 : ZK c x r n = 8 := by simp [ZK, h6]
    simp (maxSteps := 4000000) (disch := omega) only [rr, aop, cV, cV1, AV.one, Qb, okW, Qd, app, Qa, Qc, Qe, Qf, Qg, simprocAttr, h1, e9, q0]
  simp (maxSteps := 4000000) (disch := omega) only [rr, aop, cV, cV1, AV.one, Qb, okW, Qd, app, Qa, Qc, Qe, Qf, Qg, simprocAttr, h1, q0]
  refine Qh.vc hC' ?_
  by_cases h7 : Qlb r n = 0
  · have e9 : ZK c x r n = 0 := by simp [ZK, h1, h5, h6, h7]
    simp (maxSteps := 4000000) (disch := omega) only [rr, aop, cV, cV1, AV.one, Qb, okW, Qd, app, Qa, Qc, Qe, Qf, Qg, simprocAttr, h7, e9]
  · have e9 : ZK c x r n = 8 := by simp [ZK, h7]
    simp (maxSteps := 4000000) (disch := omega) only [rr, aop, cV, cV1, AV.one, Qb, okW, Qd, app, Qa, Qc, Qe, Qf, Qg, simprocAttr, h7, e9]

def Zo (c x r : Int) (l : List Int) : Int := if c < 1 then 8 else if (l.length : Int) % c ≠ 0 then 8 else if ZK c x r (l.length / c) ≠ 0 then 8 else if QG x l ≠ 0 then 8 else 0
theorem QgD (c x r n : Int) : ZK c x r n = 8 ∨ ZK c x r n = 0 := by
  unfold ZK; split <;> (try split) <;> (try split) <;> (try split) <;> simp
def Xj (P : Prg) (f : Nat) : Prop := ∀ (c x r : Int) (l : List Int), I32 l → l.length ≤ 1000000 → VC P f [.agg [.int .i64 c, .int .i64 x, .int .i64 r, il l]] (.int .i64 (Zo c x r l))
theorem Qn8 {P : Prg} {f fH fW t0 : Nat} (b : Qj P f 33 [.tmp 2] (XA fH fW t0)) (hH : Qic P fH) (hW : J8 P fW) : Xj P f := by
  intro c x r l hI hl
  · refine VC.of_acall (by simp [Qu, isD, QI]) rfl (ACall.of_body b (by simp) ?_)
    by_cases h1 : c < 1
    · have e9 : Zo c x r l = 8 := by simp [Zo, h1]
      simp (maxSteps := 4000000) (disch := omega) only [rr, aop, cV, cV1, AV.one, Qb, okW, Qd, app, Qa, Qc, Qe, Qf, Qg, simprocAttr, XA, il, e9]
    have hm := Qas (n := l.length) (c := c) (by omega)
    have hd := Qjm (n := l.length) (c := c) (by omega)
    have q0 : (l.length : Int).tdiv c = l.length / c := Int.tdiv_eq_ediv_of_nonneg (by omega)
    by_cases h2 : (l.length : Int) % c = 0
    · have hH' := hH c x r (l.length / c) l
      have hW' := hW x l hI
      rw [il] at hH' hW'
      simp (maxSteps := 4000000) (disch := omega) only [rr, aop, cV, cV1, AV.one, Qb, okW, Qd, app, Qa, Qc, Qe, Qf, Qg, simprocAttr, XA, il, h2, q0]
      refine Zf.vc hH' ?_
      rcases QgD c x r (l.length / c) with h3 | h3
      · have e9 : Zo c x r l = 8 := by simp [Zo, h3]
        simp (maxSteps := 4000000) (disch := omega) only [rr, aop, cV, cV1, AV.one, Qb, okW, Qd, app, Qa, Qc, Qe, Qf, Qg, simprocAttr, h3, e9]
      · simp (maxSteps := 4000000) (disch := omega) only [rr, aop, cV, cV1, AV.one, Qb, okW, Qd, app, Qa, Qc, Qe, Qf, Qg, simprocAttr, h3]
        refine Qh.vc hW' ?_
        by_cases h4 : QG x l = 0
        · have e9 : Zo c x r l = 0 := by simp [Zo, h1, h2, h3, h4]
          simp (maxSteps := 4000000) (disch := omega) only [rr, aop, cV, cV1, AV.one, Qb, okW, Qd, app, Qa, Qc, Qe, Qf, Qg, simprocAttr, h4, e9]
        · have e9 : Zo c x r l = 8 := by simp [Zo, h4]
          simp (maxSteps := 4000000) (disch := omega) only [rr, aop, cV, cV1, AV.one, Qb, okW, Qd, app, Qa, Qc, Qe, Qf, Qg, simprocAttr, h4, e9]
    · have e9 : Zo c x r l = 8 := by simp [Zo, h2]
      simp (maxSteps := 4000000) (disch := omega) only [rr, aop, cV, cV1, AV.one, Qb, okW, Qd, app, Qa, Qc, Qe, Qf, Qg, simprocAttr, XA, il, h2, e9]

def Xi (c x n : Int) : Int := if Zh c x ≠ 0 then 2 else if n < 1 then 2 else if 4000 / c < n then 2 else 0
def QlU (P : Prg) (f : Nat) : Prop := ∀ c x n : Int, VC P f [shA c x, .int .i64 n] (.int .i64 (Xi c x n))
theorem QkC {P : Prg} {f fE t0 : Nat} (b : Qj P f 19 [.tmp 4] (ZQ fE t0)) (hE : JA P fE) : QlU P f := by
  intro c x n
  refine VC.of_acall (by simp [Qu, isD, shA]) rfl (ACall.of_body b (by simp) ?_)
  have hE' := hE c x
  rw [shA] at hE'
  simp (maxSteps := 4000000) (disch := omega) only [rr, aop, cV, cV1, AV.one, Qb, okW, Qd, app, Qa, Qc, Qe, Qf, Qg, simprocAttr, ZQ, shA]
  refine Qh.vc hE' ?_
  rcases Q4 c x with h1 | ⟨h1, h2, h3, h4⟩
  · have e9 : Xi c x n = 2 := by simp [Xi, h1]
    simp (maxSteps := 4000000) (disch := omega) only [rr, aop, cV, cV1, AV.one, Qb, okW, Qd, app, Qa, Qc, Qe, Qf, Qg, simprocAttr, h1, e9]
  have q0 : (4000 : Int).tdiv c = 4000 / c := Int.tdiv_eq_ediv_of_nonneg (by omega)
  have q1 : 0 ≤ (4000 : Int) / c := Int.ediv_nonneg (by omega) (by omega)
  have q2 : (4000 : Int) / c ≤ 4000 := Int.ediv_le_self _ (by omega)
  by_cases h5 : n < 1
  · have e9 : Xi c x n = 2 := by simp [Xi, h5]
    simp (maxSteps := 4000000) (disch := omega) only [rr, aop, cV, cV1, AV.one, Qb, okW, Qd, app, Qa, Qc, Qe, Qf, Qg, simprocAttr, h1, e9]
  by_cases h6 : 4000 / c < n
  · have e9 : Xi c x n = 2 := by simp [Xi, h6]
    simp (maxSteps := 4000000) (disch := omega) only [rr, aop, cV, cV1, AV.one, Qb, okW, Qd, app, Qa, Qc, Qe, Qf, Qg, simprocAttr, h1, e9, q0]
  · have e9 : Xi c x n = 0 := by simp [Xi, h1, h5, h6]
    simp (maxSteps := 4000000) (disch := omega) only [rr, aop, cV, cV1, AV.one, Qb, okW, Qd, app, Qa, Qc, Qe, Qf, Qg, simprocAttr, h1, e9, q0]
end Go.Am

namespace Go.Am
open Go.RowKit

def QN (L n : Nat) : List Int := List.replicate ((n - 1) / L) (L : Int) ++ [(n : Int) - ((n - 1) / L * L : Nat)]
theorem Z9 (L n : Nat) : (QN L n).length = (n - 1) / L + 1 := by simp [QN]
theorem Qsc (k : Nat) (a : Int) : List.replicate k a ++ [a] = List.replicate (k + 1) a := by rw [List.replicate_succ']
def Qt9 (l : List Int) : AV := .list l.length (ks .i64 l)
theorem Qsy (l : List Int) : isD (Qt9 l) = true := by simp [Qt9, isD, Q0]
def QjR (r n : Int) : AV := if r < 1 ∨ 1048576 < r ∨ n < 1 ∨ 4000 < n then .tup [.list 0 [], .int .i64 2] else if 1000 < (QN (Qy r).toNat n.toNat).length then .tup [.list 0 [], .int .i64 4] else .tup [Qt9 (QN (Qy r).toNat n.toNat), .int .i64 0]
theorem Qt8 (r n : Int) : isD (QjR r n) = true := by unfold QjR; split <;> (try split) <;> simp [isD, Qu, Qsy]
def QlV (P : Prg) (f : Nat) : Prop := ∀ r n : Int, VC P f [.int .i64 r, .int .i64 n] (QjR r n)

theorem Qpz {P : Prg} {f fL t0 : Nat} (b : Qj P f 41 [.tmp 4, .tmp 5] (QQ fL t0)) (hL : Qbb P fL) : QlV P f := by
  intro r n
  refine VC.of_walk 1 rfl (Qt8 _ _) (ACall.of_body b (by simp) ?_)
  have hL' := hL r
  by_cases h1 : r < 1 ∨ 1048576 < r
  · have e1 : Qbk r = .tup [.int .i64 0, .int .i64 2] := by rw [Qbk, if_pos h1]
    have e2 : QjR r n = .tup [.list 0 [], .int .i64 2] := by rw [QjR, if_pos (by omega)]
    simp (maxSteps := 4000000) (disch := omega) only [rr, aop, cV, cV1, AV.one, Qb, okW, Qd, app, Qa, Qc, Qe, Qf, Qg, simprocAttr, QQ]
    refine Qh.vc hL' ?_
    simp (maxSteps := 4000000) (disch := omega) only [rr, aop, cV, cV1, AV.one, Qb, okW, Qd, app, Qa, Qc, Qe, Qf, Qg, simprocAttr, e1, e2]
    simp [Zk, QL, QO, QK, Qu, isD]
  have e1 : Qbk r = .tup [.int .i64 (Qy r), .int .i64 0] := by rw [Qbk, if_neg h1]
  rw [e1] at hL'
  have p1 := Z8 r
  have p2 := Qmu (r := r) (by omega)
  by_cases h2 : n < 1
  · have e2 : QjR r n = .tup [.list 0 [], .int .i64 2] := by rw [QjR, if_pos (by omega)]
    simp (maxSteps := 4000000) (disch := omega) only [rr, aop, cV, cV1, AV.one, Qb, okW, Qd, app, Qa, Qc, Qe, Qf, Qg, simprocAttr, QQ]
    refine Qh.vc hL' ?_
    simp (maxSteps := 4000000) (disch := omega) only [rr, aop, cV, cV1, AV.one, Qb, okW, Qd, app, Qa, Qc, Qe, Qf, Qg, simprocAttr, e2]
    simp [Zk, QL, QO, QK, Qu, isD]
  by_cases h3 : 4000 < n
  · have e2 : QjR r n = .tup [.list 0 [], .int .i64 2] := by rw [QjR, if_pos (by omega)]
    simp (maxSteps := 4000000) (disch := omega) only [rr, aop, cV, cV1, AV.one, Qb, okW, Qd, app, Qa, Qc, Qe, Qf, Qg, simprocAttr, QQ]
    refine Qh.vc hL' ?_
    simp (maxSteps := 4000000) (disch := omega) only [rr, aop, cV, cV1, AV.one, Qb, okW, Qd, app, Qa, Qc, Qe, Qf, Qg, simprocAttr, e2]
    simp [Zk, QL, QO, QK, Qu, isD]
  have e2 : QjR r n = if 1000 < (QN (Qy r).toNat n.toNat).length then .tup [.list 0 [], .int .i64 4] else .tup [Qt9 (QN (Qy r).toNat n.toNat), .int .i64 0] := by rw [QjR, if_neg (by omega)]
  generalize Qy r = Li at *
  obtain ⟨L, rfl⟩ : ∃ L : Nat, Li = L := ⟨Li.toNat, by omega⟩
  obtain ⟨m, rfl⟩ : ∃ m : Nat, n = m := ⟨n.toNat, by omega⟩
  simp only [Int.toNat_natCast] at e2
  have g1 : (m - 1) / L * L ≤ m - 1 := Nat.div_mul_le_self _ _
  have g2 : m - 1 < ((m - 1) / L + 1) * L := by
    have := Nat.lt_div_mul_add (a := m - 1) (b := L) (by omega)
    rw [Nat.add_mul, Nat.one_mul]; omega
  rw [Nat.add_mul, Nat.one_mul] at g2
  have g3 : (m - 1) / L ≤ m - 1 := Nat.div_le_self _ _
  have ll := Z9 L m
  have lf : QN L m = List.replicate ((m - 1) / L) (L : Int) ++ [(m : Int) - ((m - 1) / L * L : Nat)] := rfl
  generalize hq : (m - 1) / L = q at *
  simp (maxSteps := 4000000) (disch := omega) only [rr, aop, cV, cV1, AV.one, Qb, okW, Qd, app, Qa, Qc, Qe, Qf, Qg, simprocAttr, QQ]
  refine Qh.vc hL' ?_
  simp (maxSteps := 4000000) (disch := omega) only [rr, aop, cV, cV1, AV.one, Qb, okW, Qd, app, Qa, Qc, Qe, Qf, Qg, simprocAttr]
  refine QW.by (ι := Option Nat) (fun i => match i with
      | some k => ⟨[(1, .int .i64 ((m : Int) - (k * L : Nat))), (8, .own 0 k), (6, .int .i64 L)], [⟨t0, 1, k, ks .i64 (List.replicate k (L : Int)), 0⟩]⟩
      | none => ⟨[(1, .int .i64 0), (8, .own 0 (q + 1)), (6, .int .i64 L)], [⟨t0, 1, q + 1, ks .i64 (QN L m), 0⟩]⟩)
    (fun i => match i with | some k => k ≤ q | none => True) (fun i => match i with | some k => q - k + 1 | none => 0) (some 0)
    (by simp only [Nat.zero_mul]; exact Le.trans (Le.virt 8 t0 1 (by omega) rfl) (Le.slots (by simp [Am.look]))) (by simp) ?_
  intro i hi
  cases i with
  | some k =>
    simp only at hi
    have g4 : k * L ≤ q * L := Nat.mul_le_mul_right L hi
    have lr : (List.replicate k (L : Int)).length = k := by simp
    by_cases hk : k < q
    · have g5 : (k + 1) * L ≤ q * L := Nat.mul_le_mul_right L (by omega)
      rw [Nat.add_mul, Nat.one_mul] at g5
      simp (maxSteps := 4000000) (disch := omega) only [rr, aop, cV, cV1, AV.one, Qb, okW, Qd, app, Qa, Qc, Qe, Qf, Qg, simprocAttr, Qhk, Qsc, lr]
      refine ⟨some (k + 1), by simp only; omega, by simp only; omega, ?_⟩
      exact Le.drop1 (Qv _ _) (by simp [Am.look, QL, QO, QK, Nat.add_mul]; omega)
    · have : k = q := by omega
      subst this
      simp (maxSteps := 4000000) (disch := omega) only [rr, aop, cV, cV1, AV.one, Qb, okW, Qd, app, Qa, Qc, Qe, Qf, Qg, simprocAttr, Qhk, lr, ← lf]
      refine ⟨none, trivial, by simp only; omega, ?_⟩
      exact Le.drop1 (Qv _ _) (by simp [Am.look, QL, QO, QK])
  | none =>
    by_cases h9 : 1000 < (QN L m).length
    · rw [if_pos h9] at e2
      simp (maxSteps := 4000000) (disch := omega) only [rr, aop, cV, cV1, AV.one, Qb, okW, Qd, app, Qa, Qc, Qe, Qf, Qg, simprocAttr, e2]
      simp [Zk, QL, QO, QK, Qu, isD]
    · rw [if_neg h9] at e2
      simp (maxSteps := 4000000) (disch := omega) only [rr, aop, cV, cV1, AV.one, Qb, okW, Qd, app, Qa, Qc, Qe, Qf, Qg, simprocAttr, e2]
      simp [Zk, QL, QO, QK, Qu, isD, Qt9, ll, Qr _ (Qv .i64 _)]
end Go.Am

namespace Go.Am
open Go.RowKit

theorem QuC (r n : Int) : (∃ k : Int, QjR r n = .tup [.list 0 [], .int .i64 k] ∧ Qgf r n = .tup [.int .i64 0, .int .i64 k]) ∨
    (∃ l : List Int, QjR r n = .tup [Qt9 l, .int .i64 0] ∧ Qgf r n = .tup [.int .i64 l.length, .int .i64 0]) := by
  by_cases h1 : r < 1 ∨ 1048576 < r
  · exact .inl ⟨2, by rw [QjR, if_pos (by omega)], by rw [Qgf, if_pos h1]⟩
  by_cases h2 : n < 1 ∨ 4000 < n
  · exact .inl ⟨2, by rw [QjR, if_pos (by omega)], by rw [Qgf, if_neg h1, if_pos h2]⟩
  have p1 := Z8 r
  have e : (n + Qy r - 1) / Qy r = (QN (Qy r).toNat n.toNat).length := by
    generalize Qy r = Li at *
    obtain ⟨L, rfl⟩ : ∃ L : Nat, Li = L := ⟨Li.toNat, by omega⟩
    obtain ⟨m, rfl⟩ : ∃ m : Nat, n = m := ⟨n.toNat, by omega⟩
    rw [Int.toNat_natCast, Int.toNat_natCast, Z9]
    have : (m : Int) + L - 1 = ((m - 1 + L : Nat) : Int) := by omega
    rw [this, ← Int.natCast_ediv, Nat.add_div_right _ (by omega)]
  by_cases h3 : 1000 < (QN (Qy r).toNat n.toNat).length
  · exact .inl ⟨4, by rw [QjR, if_neg (by omega), if_pos h3], by rw [Qgf, if_neg h1, if_neg h2, e, if_pos (by omega)]⟩
  · exact .inr ⟨_, by rw [QjR, if_neg (by omega), if_neg h3], by rw [Qgf, if_neg h1, if_neg h2, e, if_neg (by omega)]⟩

theorem QkB {P : Prg} {f fA : Nat} (b : Qj P f 17 [.tmp 4, .tmp 5] (Zg fA)) (hA : QlV P fA) : JV P f := by
  intro r n
  refine VC.of_acall rfl (Qqd _ _) (ACall.of_body b (by simp) ?_)
  have hA' := hA r n
  rcases QuC r n with ⟨k, e1, e2⟩ | ⟨l, e1, e2⟩
  · rw [e1] at hA'
    simp (maxSteps := 4000000) (disch := omega) only [rr, aop, cV, cV1, AV.one, Qb, okW, Qd, app, Qa, Qc, Qe, Qf, Qg, simprocAttr, Zg]
    refine Qh.vc hA' ?_
    simp (maxSteps := 4000000) (disch := omega) only [rr, aop, cV, cV1, AV.one, Qb, okW, Qd, app, Qa, Qc, Qe, Qf, Qg, simprocAttr, e2, List.length_nil]
    try simp
  · rw [e1] at hA'
    simp (maxSteps := 4000000) (disch := omega) only [rr, aop, cV, cV1, AV.one, Qb, okW, Qd, app, Qa, Qc, Qe, Qf, Qg, simprocAttr, Zg]
    refine Qh.vc hA' ?_
    simp (maxSteps := 4000000) (disch := omega) only [rr, aop, cV, cV1, AV.one, Qb, okW, Qd, app, Qa, Qc, Qe, Qf, Qg, simprocAttr, Qt9, e2]
end Go.Am

namespace Go.Am
open Go.RowKit

theorem Qfj (c x r n : Int) : ZK c x r n = if Xi c x n = 0 ∧ Qlb r n = 0 then 0 else 8 := by
  unfold ZK Xi
  by_cases h1 : Zh c x = 0 <;> by_cases h2 : n < 1 <;> by_cases h3 : 4000 / c < n <;> by_cases h4 : Qlb r n = 0 <;> simp [h1, h2, h3, h4]
theorem QaT {c x r : Int} {l : List Int} : Zo c x r l = if Qca c x l = 0 ∧ ZK c x r (l.length / c) = 0 then 0 else 8 := by
  unfold Zo Qca
  by_cases h0 : ZK c x r (l.length / c) = 0
  · have h0' := h0
    rw [Qfj] at h0'
    have ha : Xi c x (l.length / c) = 0 := by
      by_cases h : Xi c x (l.length / c) = 0 ∧ Qlb r (l.length / c) = 0
      · exact h.1
      · rw [if_neg h] at h0'; cases h0'
    have hE : Zh c x = 0 := by
      by_cases h : Zh c x = 0
      · exact h
      · simp [Xi, h] at ha
    have hn : ¬ (l.length : Int) / c < 1 := by
      intro h
      simp [Xi, h] at ha
    have hc : ¬ c < 1 := by
      rcases Q4 c x with h | h <;> omega
    have hl : l.length ≠ 0 := by
      intro h
      rw [h] at hn
      simp at hn
    by_cases h2 : (l.length : Int) % c = 0 <;> by_cases h3 : QG x l = 0 <;> simp [hE, hc, hl, h0, h2, h3]
  · simp [h0]

def QfH (P : Prg) (f : Nat) : Prop := ∀ (c x r n : Int) (l : List Int), VC P f [.agg [.int .i64 c, .int .i64 x, .int .i64 r, il l], .int .i64 n] (.bool (decide (ZK c x r n = 0)))
theorem Qnz {P : Prg} {f fS fA fC t0 : Nat} (b : Qj P f 21 [.tmp 4] (Z5 fS fA fC t0)) (hS : Ja P fS) (hA : QlU P fA) (hC : JV P fC) : QfH P f := by
  intro c x r n l
  refine VC.of_acall (by simp [Qu, isD, QI]) rfl (ACall.of_body b (by simp) ?_)
  have hS' := hS c x r l
  have hA' := hA c x n
  rw [shA] at hS' hA'
  rw [il] at hS'
  obtain ⟨k, ek⟩ := QmO r n
  have hC' := hC r n
  rw [ek] at hC'
  simp (maxSteps := 4000000) (disch := omega) only [rr, aop, cV, cV1, AV.one, Qb, okW, Qd, app, Qa, Qc, Qe, Qf, Qg, simprocAttr, Z5, il]
  refine Qh.vc hS' ?_
  simp (maxSteps := 4000000) (disch := omega) only [rr, aop, cV, cV1, AV.one, Qb, okW, Qd, app, Qa, Qc, Qe, Qf, Qg, simprocAttr]
  refine Qh.vc hA' ?_
  by_cases h1 : Xi c x n = 0
  · simp (maxSteps := 4000000) (disch := omega) only [rr, aop, cV, cV1, AV.one, Qb, okW, Qd, app, Qa, Qc, Qe, Qf, Qg, simprocAttr, h1]
    refine Qh.vc hC' ?_
    by_cases h7 : Qlb r n = 0
    · have e9 : ZK c x r n = 0 := by rw [Qfj, if_pos ⟨h1, h7⟩]
      simp (maxSteps := 4000000) (disch := omega) only [rr, aop, cV, cV1, AV.one, Qb, okW, Qd, app, Qa, Qc, Qe, Qf, Qg, simprocAttr, h7, e9]
      try simp
    · have e9 : ZK c x r n = 8 := by rw [Qfj, if_neg (by simp [h7])]
      simp (maxSteps := 4000000) (disch := omega) only [rr, aop, cV, cV1, AV.one, Qb, okW, Qd, app, Qa, Qc, Qe, Qf, Qg, simprocAttr, e9]
      try simp [h7]
  · have e9 : ZK c x r n = 8 := by rw [Qfj, if_neg (by simp [h1])]
    simp (maxSteps := 4000000) (disch := omega) only [rr, aop, cV, cV1, AV.one, Qb, okW, Qd, app, Qa, Qc, Qe, Qf, Qg, simprocAttr, h1, e9]
    try simp

theorem QkA {P : Prg} {f fS fA fH t0 : Nat} (b : Qj P f 20 [.tmp 2] (ZP fS fA fH t0)) (hS : Ja P fS) (hA : QgR P fA) (hH : QfH P fH) : Xj P f := by
  intro c x r l hI hl
  refine VC.of_acall (by simp [Qu, isD, QI]) rfl (ACall.of_body b (by simp) ?_)
  have hS' := hS c x r l
  have hA' := hA c x l hI
  have hH' := hH c x r (l.length / c) l
  rw [shA] at hS' hA'
  rw [il] at hS' hA' hH'
  simp (maxSteps := 4000000) (disch := omega) only [rr, aop, cV, cV1, AV.one, Qb, okW, Qd, app, Qa, Qc, Qe, Qf, Qg, simprocAttr, ZP, il]
  refine Zf.vc hS' ?_
  simp (maxSteps := 4000000) (disch := omega) only [rr, aop, cV, cV1, AV.one, Qb, okW, Qd, app, Qa, Qc, Qe, Qf, Qg, simprocAttr]
  refine Zf.vc hA' ?_
  by_cases h1 : Qca c x l = 0
  · have hc : 1 ≤ c := by
      obtain ⟨k, rfl, hk, _⟩ := Qlz hI h1
      have := hk.1
      omega
    have hd := Qjm (n := l.length) hc
    have q0 : (l.length : Int).tdiv c = l.length / c := Int.tdiv_eq_ediv_of_nonneg (by omega)
    simp (maxSteps := 4000000) (disch := omega) only [rr, aop, cV, cV1, AV.one, Qb, okW, Qd, app, Qa, Qc, Qe, Qf, Qg, simprocAttr, h1, q0]
    refine Zf.vc hH' ?_
    by_cases h2 : ZK c x r (l.length / c) = 0
    · have e9 : Zo c x r l = 0 := by rw [QaT, if_pos ⟨h1, h2⟩]
      simp (maxSteps := 4000000) (disch := omega) only [rr, aop, cV, cV1, AV.one, Qb, okW, Qd, app, Qa, Qc, Qe, Qf, Qg, simprocAttr, h2, e9, decide_true, Bool.not_true]
    · have e9 : Zo c x r l = 8 := by rw [QaT, if_neg (by simp [h2])]
      have e8 : decide (ZK c x r (l.length / c) = 0) = false := by simp [h2]
      simp (maxSteps := 4000000) (disch := omega) only [rr, aop, cV, cV1, AV.one, Qb, okW, Qd, app, Qa, Qc, Qe, Qf, Qg, simprocAttr, e8, e9, Bool.not_false]
  · have e9 : Zo c x r l = 8 := by rw [QaT, if_neg (by simp [h1])]
    simp (maxSteps := 4000000) (disch := omega) only [rr, aop, cV, cV1, AV.one, Qb, okW, Qd, app, Qa, Qc, Qe, Qf, Qg, simprocAttr, h1, e9]
end Go.Am

namespace Go.Am
open Go.RowKit

def clA (c x r : Int) (l : List Int) : AV := .agg [.int .i64 c, .int .i64 x, .int .i64 r, il l]
def Qh1 (P : Prg) (f : Nat) : Prop := ∀ (c x r : Int) (l m : List Int), VC P f [clA c x r l, il m] (clA c x r m)
theorem Qnx {P : Prg} {f t0 : Nat} (b : Qj P f 13 [.cell 4 t0] (Z3 t0)) (ht : ZB P t0 = some (some 4)) : Qh1 P f := by
  intro c x r l m
  refine VC.of_acall (by simp [Qu, isD, QI, clA]) (by simp [Qu, isD, QI, clA]) (ACall.of_body b (by simp) ?_)
  simp (maxSteps := 4000000) (disch := omega) only [rr, aop, cV, cV1, AV.one, Qb, okW, Qd, app, Qa, Qc, Qe, Qf, Qg, simprocAttr, Z3, clA, il, ZE, ht]

def QlR (P : Prg) (f : Nat) : Prop := ∀ (c x r : Int) (l : List Int), l.length ≤ 100000000 → VC P f [clA c x r l, clA c x r l] (.bool true)
theorem Qny {P : Prg} {f fS t0 : Nat} (b : Qj P f 31 [.tmp 4] (Z4 fS t0)) (hS : QlP P fS) : QlR P f := by
  intro c x r l hl
  refine VC.of_acall (by simp [Qu, isD, QI, clA]) rfl (ACall.of_body b (by simp) ?_)
  have hS' := hS l hl
  rw [il] at hS'
  simp (maxSteps := 4000000) (disch := omega) only [rr, aop, cV, cV1, AV.one, Qb, okW, Qd, app, Qa, Qc, Qe, Qf, Qg, simprocAttr, Z4, clA, il]
  refine Qh.vc hS' ?_
  simp (maxSteps := 4000000) (disch := omega) only [rr, aop, cV, cV1, AV.one, Qb, okW, Qd, app, Qa, Qc, Qe, Qf, Qg, simprocAttr]

def QuH (P : Prg) (f : Nat) : Prop := ∀ a b : List Int, a.length ≤ 1000000 → b.length ≤ 1000000 → VC P f [il a, il b] (.bool (decide (a = b)))
theorem Qsd {P : Prg} {f : Nat} (bd : Qj P f 26 [.tmp 4] QM) : QuH P f := by
  intro a b ha hb
  refine VC.of_acall (by simp [Qu, isD, QI]) rfl (ACall.of_body bd (by simp) ?_)
  by_cases hn : a.length = b.length
  · simp (maxSteps := 4000000) (disch := omega) only [rr, aop, cV, cV1, AV.one, Qb, okW, Qd, app, Qa, Qc, Qe, Qf, Qg, simprocAttr, QM, il, hn]
    refine QW.by (ι := Nat) (fun k => ⟨[(5, .int .i64 k), (1, .list b.length (ks .i32 b)), (0, .list b.length (ks .i32 a))], []⟩) (fun k => k ≤ b.length ∧ ∀ j, j < k → a.getD j 0 = b.getD j 0) (fun k => b.length - k) 0 (Le.slots (by simp [Am.look, il])) ⟨by omega, by simp⟩ ?_
    intro k ⟨hk, hg⟩
    by_cases hlt : k < b.length
    · have e1 := Qb0 (K := .i32) (l := a) (i := k) (by omega)
      have e2 := Qb0 (K := .i32) (l := b) (i := k) hlt
      have la : (ks .i32 a).length = b.length := by rw [Qk, hn]
      by_cases he : a.getD k 0 = b.getD k 0
      · simp (maxSteps := 4000000) (disch := omega) only [rr, aop, cV, cV1, AV.one, Qb, okW, Qd, app, Qa, Qc, Qe, Qf, Qg, simprocAttr, e1, e2, he, la]
        exact ⟨k + 1, ⟨by omega, fun j hj => by
          by_cases e : j = k
          · rw [e]; exact he
          · exact hg j (by omega)⟩, by omega, Le.slots (by simp [Am.look, il])⟩
      · have e9 : decide (a = b) = false := by simp; intro h; rw [h] at he; exact he rfl
        simp (maxSteps := 4000000) (disch := omega) only [rr, aop, cV, cV1, AV.one, Qb, okW, Qd, app, Qa, Qc, Qe, Qf, Qg, simprocAttr, e1, e2, e9, la, he]
    · have e9 : decide (a = b) = true := by simp; exact ZV hn fun j hj => hg j (by omega)
      simp (maxSteps := 4000000) (disch := omega) only [rr, aop, cV, cV1, AV.one, Qb, okW, Qd, app, Qa, Qc, Qe, Qf, Qg, simprocAttr, e9]
  · have e9 : decide (a = b) = false := by simp; intro h; rw [h] at hn; exact hn rfl
    simp (maxSteps := 4000000) (disch := omega) only [rr, aop, cV, cV1, AV.one, Qb, okW, Qd, app, Qa, Qc, Qe, Qf, Qg, simprocAttr, QM, il, e9]
end Go.Am

namespace Go.Am
open Go.RowKit

def iss (L : List (List Int)) : AV := .list L.length (L.map il)
theorem QmD : ∀ L : List (List Int), Qu (L.map il) = true
  | [] => rfl
  | l :: L => by simp [Qu, QI, QmD L]
theorem Qfh (L : List (List Int)) : isD (iss L) = true := by simp [iss, isD, QmD]
theorem Qi6 {L : List (List Int)} {k : Nat} (h : k < L.length) : (L.map il).drop k = il (L.getD k []) :: (L.map il).drop (k + 1) := by
  rw [List.drop_eq_getElem_cons (by simpa using h)]
  simp [List.getD_eq_getElem?_getD, List.getElem?_eq_getElem h]
theorem QpJ {a b : List (List Int)} (h : a.length = b.length) (h2 : ∀ j, j < a.length → a.getD j [] = b.getD j []) : a = b := by
  apply List.ext_getElem h
  intro i h1 h3
  have := h2 i h1
  simpa [List.getD_eq_getElem?_getD, List.getElem?_eq_getElem h1, List.getElem?_eq_getElem h3] using this
def QtV (L : List (List Int)) : Prop := L.length ≤ 1000000 ∧ ∀ j, (L.getD j []).length ≤ 1000000
def QuF (P : Prg) (f : Nat) : Prop := ∀ a b : List (List Int), QtV a → QtV b → VC P f [iss a, iss b] (.bool (decide (a = b)))
theorem Qe9 {P : Prg} {f fS : Nat} (bd : Qj P f 27 [.tmp 4] (QR fS)) (hS : QuH P fS) : QuF P f := by
  intro a b ⟨ha, ha2⟩ ⟨hb, hb2⟩
  refine VC.of_acall (by simp [Qu, isD, Qfh]) rfl (ACall.of_body bd (by simp) ?_)
  have la' : (a.map il).length = a.length := by simp
  have lb' : (b.map il).length = b.length := by simp
  by_cases hn : a.length = b.length
  · simp (maxSteps := 4000000) (disch := omega) only [rr, aop, cV, cV1, AV.one, Qb, okW, Qd, app, Qa, Qc, Qe, Qf, Qg, simprocAttr, QR, iss, hn]
    refine QW.by (ι := Nat) (fun k => ⟨[(5, .int .i64 k), (1, .list b.length (b.map il)), (0, .list b.length (a.map il))], []⟩) (fun k => k ≤ b.length ∧ ∀ j, j < k → a.getD j [] = b.getD j []) (fun k => b.length - k) 0 (Le.slots (by simp [Am.look, iss])) ⟨by omega, by simp⟩ ?_
    intro k ⟨hk, hg⟩
    by_cases hlt : k < b.length
    · have e1 := Qi6 (L := a) (k := k) (by omega)
      have e2 := Qi6 (L := b) (k := k) hlt
      have hS' := hS (a.getD k []) (b.getD k []) (ha2 k) (hb2 k)
      simp (maxSteps := 4000000) (disch := omega) only [rr, aop, cV, cV1, AV.one, Qb, okW, Qd, app, Qa, Qc, Qe, Qf, Qg, simprocAttr, e1, e2]
      refine Zf.vc hS' ?_
      by_cases he : a.getD k [] = b.getD k []
      · have e8 : decide (a.getD k [] = b.getD k []) = true := by simp only [he, decide_true]
        simp (maxSteps := 4000000) (disch := omega) only [rr, aop, cV, cV1, AV.one, Qb, okW, Qd, app, Qa, Qc, Qe, Qf, Qg, simprocAttr, e8, Bool.not_true]
        exact ⟨k + 1, ⟨by omega, fun j hj => by
          by_cases e : j = k
          · rw [e]; exact he
          · exact hg j (by omega)⟩, by omega, Le.slots (by simp [Am.look])⟩
      · have e8 : decide (a.getD k [] = b.getD k []) = false := decide_eq_false he
        have e9 : decide (a = b) = false := decide_eq_false (fun h => he (by rw [h]))
        simp (maxSteps := 4000000) (disch := omega) only [rr, aop, cV, cV1, AV.one, Qb, okW, Qd, app, Qa, Qc, Qe, Qf, Qg, simprocAttr, e8, e9, Bool.not_false]
    · have e9 : decide (a = b) = true := decide_eq_true (QpJ hn fun j hj => hg j (by omega))
      simp (maxSteps := 4000000) (disch := omega) only [rr, aop, cV, cV1, AV.one, Qb, okW, Qd, app, Qa, Qc, Qe, Qf, Qg, simprocAttr, e9]
  · have e9 : decide (a = b) = false := decide_eq_false (fun h => hn (by rw [h]))
    simp (maxSteps := 4000000) (disch := omega) only [rr, aop, cV, cV1, AV.one, Qb, okW, Qd, app, Qa, Qc, Qe, Qf, Qg, simprocAttr, QR, iss, e9]
end Go.Am

namespace Go.Am
open Go.RowKit

/-! ### le.Bytes -/

def leB (n : Nat) : Nat → List UInt8
  | 0 => []
  | k + 1 => UInt8.ofNat (n % 256) :: leB (n / 256) k

theorem QH : ∀ (k n : Nat), (leB n k).length = k
  | 0, _ => rfl
  | k + 1, n => by simp [leB, QH k]

theorem QkP : ∀ (k n i : Nat) (h : i < k), (leB n k)[i]? = some (UInt8.ofNat (n / 256 ^ i % 256))
  | k + 1, n, 0, _ => by simp [leB]
  | k + 1, n, i + 1, h => by
    simp only [leB, List.getElem?_cons_succ]
    rw [QkP k (n / 256) i (by omega), Nat.div_div_eq_div_mul, Nat.pow_succ, Nat.mul_comm]

theorem Qc3 {n k i : Nat} (h : i < k) : (leB n k).take (i + 1) = (leB n k).take i ++ [UInt8.ofNat (n / 256 ^ i % 256)] := by
  rw [List.take_add_one, QkP k n i h]
  rfl

theorem Qwn {K : IntKind} {n k : Nat} (hk : k ≤ K.bits) : Qn false K (n : Int) (k : Int) = some (.int K ((n / 2 ^ k : Nat) : Int)) := by
  have h3 : ¬ ((k : Int) < 0) := by omega
  have h5 : min k K.bits = k := by omega
  have h6 : (n : Int).fdiv (2 ^ k) = ((n / 2 ^ k : Nat) : Int) := by
    rw [Int.fdiv_eq_ediv_of_nonneg _ (Int.pow_nonneg (by decide))]
    simp [Int.natCast_ediv, Int.natCast_pow]
  simp only [Qn, if_neg h3, Bool.false_eq_true, if_false, Int.toNat_natCast, h5, h6]

def Qrm (P : Prg) (f : Nat) : Prop := ∀ n w : Nat, 1 ≤ w → w ≤ 8 → VC P f [.int .u64 n, .int .i64 w] (.bool (decide (w = 8) || decide (n / 2 ^ (8 * w) = 0)))
theorem Qt2 {P : Prg} {f : Nat} (b : Qj P f 14 [.tmp 4] Qaz) : Qrm P f := by
  intro n w h1 h2
  refine VC.of_acall rfl rfl (ACall.of_body b (by simp) ?_)
  by_cases h8 : w = 8
  · subst h8
    simp (maxSteps := 4000000) (disch := omega) only [rr, aop, cV, cV1, AV.one, Qb, okW, Qd, app, Qa, Qc, Qe, Qf, Qg, simprocAttr, Qaz]
  · have e1 : (decide (w = 8)) = false := by simpa using h8
    have e2 : Qn false .u64 (n : Int) (8 * (w : Int)) = some (.int .u64 ((n / 2 ^ (8 * w) : Nat) : Int)) := by
      have := Qwn (K := .u64) (n := n) (k := 8 * w) (by simp [IntKind.bits]; omega)
      rwa [Int.natCast_mul] at this
    have e3 : (((n / 2 ^ (8 * w) : Nat) : Int) == 0) = decide (n / 2 ^ (8 * w) = 0) := by rw [Bool.eq_iff_iff]; simp only [beq_iff_eq, decide_eq_true_eq]; omega
    have e4 : ((w : Int) = 8) = False := eq_false (by omega)
    by_cases h9 : n / 2 ^ (8 * w) = 0
    · have e5 : (decide (n / 2 ^ (8 * w) = 0)) = true := by simpa using h9
      have e6 : (((n / 2 ^ (8 * w) : Nat) : Int) = 0) = True := eq_true (by omega)
      rw [e5]
      simp (maxSteps := 4000000) (disch := omega) only [rr, aop, cV, cV1, AV.one, Qb, okW, Qd, app, Qa, Qc, Qe, Qf, Qg, simprocAttr, Qaz, e1, e2, e4, e6]
    · have e5 : (decide (n / 2 ^ (8 * w) = 0)) = false := by simpa using h9
      have e6 : (((n / 2 ^ (8 * w) : Nat) : Int) = 0) = False := eq_false (by omega)
      rw [e5]
      simp (maxSteps := 4000000) (disch := omega) only [rr, aop, cV, cV1, AV.one, Qb, okW, Qd, app, Qa, Qc, Qe, Qf, Qg, simprocAttr, Qaz, e1, e2, e4, e6]

def QfE (P : Prg) (f : Nat) : Prop := ∀ n w : Nat, 1 ≤ w → w ≤ 8 → n < 256 ^ w → VC P f [.int .u64 n, .int .i64 w] (.tup [bs (leB n w), .int .i64 0])

theorem QsF {t n : Nat} {l : List UInt8} (h : n = l.length) {e : Int} : Zk (fun _ => true) [⟨t, 1, n, u8 l, 0⟩] 2 [.tup [.own 0 n, .int .i64 e]] = some [.tup [bs l, .int .i64 e]] := by
  subst h
  simp only [Zk, QL, QO, QK, Bool.false_eq_true, if_false, List.getElem?_cons_zero, and_self, if_true, Qr _ (Xo l), Option.map_some, bs]

theorem Qsq {P : Prg} {f fF t0 : Nat} (b : Qj P f 35 [.tmp 4, .tmp 5] (Qa4 fF t0)) (hF : Qrm P fF) : QfE P f := by
  intro n w h1 h2 hn
  refine VC.of_walk 1 (by simp [Qu, isD]) (by simp [isD, Qu, X8]) (ACall.of_body b (by simp) ?_)
  have hn8 : n < 18446744073709551616 := Nat.lt_of_lt_of_le hn (Nat.le_trans (Nat.pow_le_pow_right (by omega) h2) (by decide))
  simp (maxSteps := 4000000) (disch := omega) only [rr, aop, cV, cV1, AV.one, Qb, okW, Qd, app, Qa, Qc, Qe, Qf, Qg, simprocAttr, Qa4]
  refine Qh.vc (hF n w h1 h2) ?_
  have e0 : (decide (w = 8) || decide (n / 2 ^ (8 * w) = 0)) = true := by
    have : n / 2 ^ (8 * w) = 0 := Nat.div_eq_of_lt (by rw [Nat.pow_mul]; exact hn)
    simp [this]
  rw [e0]
  have r0 : Qt [.int .u8 0] w = u8 ([] : List UInt8) ++ List.replicate w (.int .u8 0) := by
    have : ∀ k, Qt [AV.int .u8 0] k = List.replicate k (.int .u8 0) := fun k => by
      induction k with
      | zero => rfl
      | succ k ih => simp [Qt, ih, List.replicate_succ]
    rw [this]; rfl
  simp (maxSteps := 4000000) (disch := omega) only [rr, aop, cV, cV1, AV.one, Qb, okW, Qd, app, Qa, Qc, Qe, Qf, Qg, simprocAttr, Qa4]
  rw [r0]
  refine QW.by (ι := Nat) (fun k => ⟨[(22, .int .i64 k), (21, .int .i64 w), (6, .own 0 w), (0, .int .u64 n)], [⟨t0, 1, w, u8 ((leB n w).take k) ++ List.replicate (w - k) (.int .u8 0), 0⟩]⟩) (fun k => k ≤ w) (fun k => w - k) 0 (Le.slots (by simp [Am.look])) (by omega) ?_
  intro k hk
  by_cases hlt : k < w
  · have e2 : Qn false .u64 (n : Int) (8 * (k : Int)) = some (.int .u64 ((n / 256 ^ k : Nat) : Int)) := by
      have := Qwn (K := .u64) (n := n) (k := 8 * k) (by simp [IntKind.bits]; omega)
      rwa [Int.natCast_mul, Nat.pow_mul] at this
    have e3 : IntKind.u8.wrap ((n / 256 ^ k : Nat) : Int) = ((UInt8.ofNat (n / 256 ^ k % 256)).toNat : Int) := by
      simp [IntKind.wrap, IntKind.signed, IntKind.bits]
    have hl : (u8 ((leB n w).take k)).length = k := by simp [Zw, QH]; omega
    have e4 : (u8 ((leB n w).take k) ++ List.replicate (w - k) (AV.int .u8 0)).take k = u8 ((leB n w).take k) := by rw [List.take_left' hl]
    have e5 : (u8 ((leB n w).take k) ++ List.replicate (w - k) (AV.int .u8 0)).drop (k + 1) = List.replicate (w - (k + 1)) (.int .u8 0) := by
      rw [List.drop_append, List.drop_of_length_le (by omega), hl]
      simp
      omega
    have e6 : u8 ((leB n w).take k) ++ [AV.int .u8 ((UInt8.ofNat (n / 256 ^ k % 256)).toNat : Int)] = u8 ((leB n w).take (k + 1)) := by
      rw [Qc3 hlt, ← QeZ]; rfl
    simp (maxSteps := 4000000) (disch := omega) only [rr, aop, cV, cV1, AV.one, Qb, okW, Qd, app, Qa, Qc, Qe, Qf, Qg, simprocAttr, e2, e3, hl, e4, e5, e6]
    refine ⟨k + 1, by omega, by omega, ?_⟩
    refine Le.slots ?_
    simp [Am.look]
  · have ek : k = w := by omega
    subst ek
    have e7 : (leB n k).take k = leB n k := List.take_of_length_le (by rw [QH]; exact Nat.le_refl _)
    have e8 : u8 (leB n k) ++ List.replicate (k - k) (AV.int .u8 0) = u8 (leB n k) := by simp
    simp (maxSteps := 4000000) (disch := omega) only [rr, aop, cV, cV1, AV.one, Qb, okW, Qd, app, Qa, Qc, Qe, Qf, Qg, simprocAttr, e7]
    rw [e8, QsF (QH k n).symm]

end Go.Am

namespace Go.Am
open Go.RowKit

/-! ### The chunk that tells the form: without a program -/

def QuW (c b r : Int) : Prop := 1 ≤ c ∧ c ≤ 6 ∧ JJ b ≠ 0 ∧ 1 ≤ r ∧ r ≤ 1048576
instance (c b r : Int) : Decidable (QuW c b r) := by unfold QuW; exact inferInstance
/-! ### Check, Wide -/

end Go.Am

namespace Go.Am
open Go.RowKit

/-! ### Numbers: bit by bit -/

theorem QbX {w n : Nat} (h : n < 2 ^ w) : BitVec.ofInt w (n : Int) = BitVec.ofNat w n := by
  apply BitVec.eq_of_toNat_eq
  rw [BitVec.toNat_ofInt, BitVec.toNat_ofNat]
  omega

theorem Qer {K : IntKind} (hs : K.signed = false) {n : Nat} (h : n < 2 ^ K.bits) : K.wrap (n : Int) = n := by
  have h1 : (n : Int) % 2 ^ K.bits = n := by
    rw [Int.emod_eq_of_lt (by omega)]
    exact_mod_cast h
  unfold IntKind.wrap
  simp [hs, h1]

theorem Qry {K : IntKind} (hs : K.signed = false) {a b : Nat} (ha : a < 2 ^ K.bits) (hb : b < 2 ^ K.bits) : K.wrap (BitVec.ofInt K.bits (a : Int) ^^^ BitVec.ofInt K.bits (b : Int)).toNat = ((a ^^^ b : Nat) : Int) := by
  rw [QbX ha, QbX hb, BitVec.toNat_xor, BitVec.toNat_ofNat, BitVec.toNat_ofNat, Nat.mod_eq_of_lt ha, Nat.mod_eq_of_lt hb]
  exact Qer hs (Nat.xor_lt_two_pow ha hb)
theorem QvW {K : IntKind} (hs : K.signed = false) {a b : Nat} (ha : a < 2 ^ K.bits) (hb : b < 2 ^ K.bits) : K.wrap (BitVec.ofInt K.bits (a : Int) &&& BitVec.ofInt K.bits (b : Int)).toNat = ((a &&& b : Nat) : Int) := by
  rw [QbX ha, QbX hb, BitVec.toNat_and, BitVec.toNat_ofNat, BitVec.toNat_ofNat, Nat.mod_eq_of_lt ha, Nat.mod_eq_of_lt hb]
  exact Qer hs (Nat.and_lt_two_pow _ hb)
theorem orK {K : IntKind} (hs : K.signed = false) {a b : Nat} (ha : a < 2 ^ K.bits) (hb : b < 2 ^ K.bits) : K.wrap (BitVec.ofInt K.bits (a : Int) ||| BitVec.ofInt K.bits (b : Int)).toNat = ((a ||| b : Nat) : Int) := by
  rw [QbX ha, QbX hb, BitVec.toNat_or, BitVec.toNat_ofNat, BitVec.toNat_ofNat, Nat.mod_eq_of_lt ha, Nat.mod_eq_of_lt hb]
  exact Qer hs (Nat.or_lt_two_pow ha hb)

theorem Qie {K : IntKind} {n k : Nat} (hk : k ≤ K.bits) : Qn false K (n : Int) (k : Int) = some (.int K ((n / 2 ^ k : Nat) : Int)) := by
  have h3 : ¬ ((k : Int) < 0) := by omega
  have h5 : min k K.bits = k := by omega
  have h6 : (n : Int).fdiv (2 ^ k) = ((n / 2 ^ k : Nat) : Int) := by
    rw [Int.fdiv_eq_ediv_of_nonneg _ (Int.pow_nonneg (by decide))]
    simp [Int.natCast_ediv, Int.natCast_pow]
  simp only [Qn, if_neg h3, Bool.false_eq_true, if_false, Int.toNat_natCast, h5, h6]

theorem Qou {K : IntKind} (hs : K.signed = false) {c s : Nat} (h : s ≤ K.bits) (h2 : c * 2 ^ s < 2 ^ K.bits) : Qn true K (c : Int) (s : Int) = some (.int K ((c * 2 ^ s : Nat) : Int)) := by
  have h3 : ¬ ((s : Int) < 0) := by omega
  have h5 : min s K.bits = s := by omega
  have h6 : (c : Int) * 2 ^ s = ((c * 2 ^ s : Nat) : Int) := by simp
  simp only [Qn, if_neg h3, if_true, Int.toNat_natCast, h5, h6]
  rw [Qer hs h2]

end Go.Am

namespace Go.Am
open Go.RowKit

/-! ### CRC-32 (plain) -/

def QsN (c : Nat) : Nat := (c / 2) ^^^ (if c % 2 = 1 then 3988292384 else 0)
def QeF : Nat → Nat → Nat
  | 0, c => c
  | k + 1, c => QeF k (QsN c)

theorem Quo {c : Nat} (h : c < 4294967296) : QsN c < 4294967296 := by
  unfold QsN
  have : (if c % 2 = 1 then 3988292384 else 0) < 2 ^ 32 := by split <;> decide
  exact Nat.xor_lt_two_pow (n := 32) (by omega) this
theorem Qhy : ∀ (k : Nat) {c : Nat}, c < 4294967296 → QeF k c < 4294967296
  | 0, _, h => h
  | k + 1, _, h => Qhy k (Quo h)
theorem Qjn : ∀ (k c : Nat), QeF (k + 1) c = QsN (QeF k c)
  | 0, _ => rfl
  | k + 1, c => by rw [QeF, Qjn k, QeF]

theorem QsM (x h : Nat) : QsN (x ^^^ 2 * h) = QsN x ^^^ h := by
  have e1 : (x ^^^ 2 * h) % 2 = x % 2 := by
    have := Nat.xor_mod_two_pow (a := x) (b := 2 * h) (n := 1)
    simpa using this
  have e2 : (x ^^^ 2 * h) / 2 = x / 2 ^^^ h := by rw [Nat.xor_div_two, Nat.mul_div_cancel_left _ (by omega)]
  unfold QsN
  rw [e1, e2, Nat.xor_assoc, Nat.xor_assoc, Nat.xor_comm h]

theorem QmK : ∀ (k x h : Nat), QeF k (x ^^^ 2 ^ k * h) = QeF k x ^^^ h
  | 0, x, h => by simp [QeF]
  | k + 1, x, h => by
    rw [QeF, Nat.pow_succ, Nat.mul_comm (2 ^ k) 2, Nat.mul_assoc, QsM, QmK k, QeF]

theorem Qii (b k : Nat) : b = b % 2 ^ k ^^^ 2 ^ k * (b / 2 ^ k) := by
  apply Nat.eq_of_testBit_eq
  intro i
  rw [Nat.testBit_xor, Nat.testBit_mod_two_pow, Nat.testBit_two_pow_mul, Nat.testBit_div_two_pow]
  by_cases h : i < k
  · have : ¬ k ≤ i := by omega
    simp [h, this]
  · have h' : k ≤ i := by omega
    simp [h, h', show i - k + k = i by omega]

def Qvp (s b : Nat) : Nat := QeF 8 (s ^^^ b)
theorem QnZ (s b : Nat) : Qvp s b = s / 256 ^^^ QeF 8 (s % 256 ^^^ b) := by
  have h : s ^^^ b = (s % 256 ^^^ b) ^^^ 2 ^ 8 * (s / 256) := by
    have := Qii s 8
    rw [show (2 : Nat) ^ 8 = 256 from rfl] at this ⊢
    rw [Nat.xor_assoc, Nat.xor_comm b, ← Nat.xor_assoc, ← this]
  rw [Qvp, h, QmK, Nat.xor_comm]
theorem Qup {s b : Nat} (hs : s < 4294967296) (hb : b < 256) : Qvp s b < 4294967296 := Qhy 8 (Nat.xor_lt_two_pow (n := 32) (by omega) (by omega))

def Qox (s : Nat) (l : List UInt8) : Nat := l.foldl (fun s b => Qvp s b.toNat) s
theorem QqM {s : Nat} {l : List UInt8} {k : Nat} (h : k < l.length) : Qox s (l.take (k + 1)) = Qvp (Qox s (l.take k)) (l[k]).toNat := by
  rw [List.take_succ_eq_append_getElem h, Qox, List.foldl_append]; rfl
theorem Qk7 : ∀ {l : List UInt8} {s : Nat}, s < 4294967296 → Qox s l < 4294967296
  | [], _, h => h
  | b :: l, s, h => Qk7 (l := l) (Qup h (UInt8.toNat_lt b))

end Go.Am

namespace Go.Am
open Go.RowKit

/-! ### CRC-32 -/

def QiH (i : Nat) : List Int := (List.range 256).map fun j => if j < i then ((QeF 8 j : Nat) : Int) else 0
theorem Xg (i : Nat) : (QiH i).length = 256 := by simp [QiH]
theorem Qes {i j : Nat} (h : j < 256) : (QiH i)[j]'(by rw [Xg]; exact h) = if j < i then ((QeF 8 j : Nat) : Int) else 0 := by simp [QiH]
theorem QrN {i : Nat} (h : i < 256) : (QiH i).set i ((QeF 8 i : Nat) : Int) = QiH (i + 1) := by
  refine List.ext_getElem (by simp [Xg]) fun j h1 h2 => ?_
  have hj : j < 256 := by simpa [Xg] using h2
  rw [List.getElem_set, Qes hj]
  split
  · rename_i e; subst e; rw [Qes hj, if_pos (by omega)]
  · rename_i e; rw [Qes hj]
    by_cases h3 : j < i
    · rw [if_pos h3, if_pos (by omega)]
    · rw [if_neg h3, if_neg (by omega)]

def QlE (P : Prg) (f : Nat) : Prop := VC P f [] (.cell (ks .u32 (QiH 256)))
theorem Qd0 {l : List UInt8} {k : Nat} (h : k < l.length) : (u8 l).drop k = .int .u8 (l[k]).toNat :: u8 (l.drop (k + 1)) := by
  rw [QoT, List.drop_eq_getElem_cons h]; rfl

set_option maxRecDepth 40000 in
theorem Qk9 {P : Prg} {f t0 : Nat} (bd : Qj P f 24 [.tmp 0] (Qal t0)) : QlE P f := by
  refine VC.of_walk 1 rfl (by simp [isD, Qp9 (Qv _ _)]) (ACall.of_body bd (by simp) ?_)
  unfold Qal
  have z0 : ([.int .u32 0, .int .u32 0] : List AV) = [.int .u32 0, .int .u32 0] := rfl
  simp (maxSteps := 4000000) (disch := omega) only [rr, aop, cV, cV1, AV.one, Qb, okW, Qd, app, Qa, Qc, Qe, Qf, Qg, simprocAttr]
  refine QW.by (ι := Nat) (fun i => ⟨[(5, .int .i64 i), (1, .ref 0 1 0)], [⟨t0, 256, 1, ks .u32 (QiH i), 0⟩]⟩) (fun i => i ≤ 256) (fun i => 256 - i) 0 (Le.slots (by simp [Am.look])) (by omega) ?_
  intro i hi
  by_cases hlt : i < 256
  · simp (maxSteps := 4000000) (disch := omega) only [rr, aop, cV, cV1, AV.one, Qb, okW, Qd, app, Qa, Qc, Qe, Qf, Qg, simprocAttr]
    refine QW.by (ι := Nat) (fun j => ⟨[(10, .int .i64 j), (3, .int .u32 (QeF j i)), (5, .int .i64 i), (2, .int .i64 i), (1, .ref 0 1 0)], [⟨t0, 256, 1, ks .u32 (QiH i), 0⟩]⟩) (fun j => j ≤ 8) (fun j => 8 - j) 0 (Le.slots (by simp [Am.look, QeF])) (by omega) ?_
    intro j hj
    by_cases hjl : j < 8
    · have hc := Qhy j (c := i) (by omega)
      have hn := Qjn j i
      generalize QeF j i = c at *
      have a1 : IntKind.u32.wrap (BitVec.ofInt IntKind.u32.bits (c : Int) &&& BitVec.ofInt IntKind.u32.bits 1).toNat = ((c % 2 : Nat) : Int) := by
        have h := QvW (K := .u32) rfl (a := c) (b := 1) (by exact hc) (by decide)
        rw [Nat.and_one_is_mod] at h
        exact h
      have a2 : Qn false .u32 (c : Int) 1 = some (.int .u32 ((c / 2 : Nat) : Int)) := Qie (K := .u32) (n := c) (k := 1) (by decide)
      rcases Nat.mod_two_eq_zero_or_one c with h2 | h2
      · have a3 : IntKind.u32.wrap (BitVec.ofInt IntKind.u32.bits ((c / 2 : Nat) : Int) ^^^ BitVec.ofInt IntKind.u32.bits 0).toNat = ((QeF (j + 1) i : Nat) : Int) := by
          rw [hn, QsN, h2, if_neg (by decide)]
          exact Qry (K := .u32) rfl (a := c / 2) (b := 0) (by show c / 2 < 4294967296; omega) (by decide)
        have a1' : IntKind.u32.wrap (BitVec.ofInt IntKind.u32.bits (c : Int) &&& BitVec.ofInt IntKind.u32.bits 1).toNat = 0 := by rw [a1, h2]; rfl
        simp (maxSteps := 4000000) (disch := omega) only [rr, aop, cV, cV1, AV.one, Qb, okW, Qd, app, Qa, Qc, Qe, Qf, Qg, simprocAttr, a1', a2, a3]
        exact ⟨j + 1, by omega, by omega, Le.slots (by simp [Am.look])⟩
      · have a3 : IntKind.u32.wrap (BitVec.ofInt IntKind.u32.bits ((c / 2 : Nat) : Int) ^^^ BitVec.ofInt IntKind.u32.bits 3988292384).toNat = ((QeF (j + 1) i : Nat) : Int) := by
          rw [hn, QsN, h2, if_pos rfl]
          exact Qry (K := .u32) rfl (a := c / 2) (b := 3988292384) (by show c / 2 < 4294967296; omega) (by decide)
        have a1' : IntKind.u32.wrap (BitVec.ofInt IntKind.u32.bits (c : Int) &&& BitVec.ofInt IntKind.u32.bits 1).toNat = 1 := by rw [a1, h2]; rfl
        simp (maxSteps := 4000000) (disch := omega) only [rr, aop, cV, cV1, AV.one, Qb, okW, Qd, app, Qa, Qc, Qe, Qf, Qg, simprocAttr, a1', a2, a3]
        exact ⟨j + 1, by omega, by omega, Le.slots (by simp [Am.look])⟩
    · obtain rfl : j = 8 := by omega
      have e1 := Xg i
      have e2 := Qk .u32 (QiH i)
      have e3 : (ks .u32 (QiH i)).take i ++ [.int .u32 (QeF 8 i)] ++ (ks .u32 (QiH i)).drop (i + 1) = ks .u32 (QiH (i + 1)) := by
        rw [← QrN hlt, List.set_eq_take_append_cons_drop, if_pos (by rw [Xg]; exact hlt)]; simp [ks, List.map_take, List.map_drop]
      simp (maxSteps := 4000000) (disch := omega) only [rr, aop, cV, cV1, AV.one, Qb, okW, Qd, app, Qa, Qc, Qe, Qf, Qg, simprocAttr, e1, e2, e3]
      exact ⟨i + 1, by omega, by omega, Le.slots (by simp [Am.look])⟩
  · obtain rfl : i = 256 := by omega
    simp (maxSteps := 4000000) (disch := omega) only [rr, aop, cV, cV1, AV.one, Qb, okW, Qd, app, Qa, Qc, Qe, Qf, Qg, simprocAttr]
    simp [Zk, QL, QO, QK, Qr _ (Qv _ _)]

def QlS (P : Prg) (f : Nat) : Prop := ∀ (s : Nat) (l : List UInt8), s < 4294967296 → VC P f [.int .u32 s, bs l] (if 100000 < l.length then .tup [.int .u32 0, .int .i64 4] else .tup [.int .u32 (Qox s l), .int .i64 0])
set_option maxRecDepth 40000 in
theorem Qn1 {P : Prg} {f fT : Nat} (bd : Qj P f 32 [.tmp 4, .tmp 5] (Jv fT)) (hT : QlE P fT) : QlS P f := by
  intro s l hs
  refine VC.of_acall (by simp [Qu, isD, X8]) (by split <;> rfl) (ACall.of_body bd (by simp) ?_)
  by_cases hl : 100000 < l.length
  · rw [if_pos hl]
    simp (maxSteps := 4000000) (disch := omega) only [rr, aop, cV, cV1, AV.one, Qb, okW, Qd, app, Qa, Qc, Qe, Qf, Qg, simprocAttr, Jv, bs]
  · rw [if_neg hl]
    have hT' := hT
    have t0 := Qk .u32 (QiH 256)
    rw [Xg] at t0
    simp (maxSteps := 4000000) (disch := omega) only [rr, aop, cV, cV1, AV.one, Qb, okW, Qd, app, Qa, Qc, Qe, Qf, Qg, simprocAttr, Jv, bs]
    refine Qh.vc hT' ?_
    simp (maxSteps := 4000000) (disch := omega) only [rr, aop, cV, cV1, AV.one, Qb, okW, Qd, app, Qa, Qc, Qe, Qf, Qg, simprocAttr]
    refine QW.by (ι := Nat) (fun k => ⟨[(15, .int .i64 k), (14, .int .i64 l.length), (13, .list l.length (u8 l)), (6, .cell (ks .u32 (QiH 256))), (0, .int .u32 (Qox s (l.take k)))], []⟩) (fun k => k ≤ l.length) (fun k => l.length - k) 0 (Le.slots (by simp [Am.look, Qox])) (by omega) ?_
    intro k hk
    have hc := Qk7 (l := l.take k) hs
    by_cases hlt : k < l.length
    · have e1 := Qd0 hlt
      have hn := QqM (s := s) hlt
      generalize Qox s (l.take k) = c at *
      rw [QnZ] at hn
      have hb := (l[k]).toNat_lt
      have h0 : (c % 256 ^^^ (l[k]).toNat) < 256 := Nat.xor_lt_two_pow (n := 8) (Nat.mod_lt _ (by decide)) hb
      have h1 := Qhy 8 (c := c % 256 ^^^ (l[k]).toNat) (by omega)
      have a1 : Qn false .u32 (c : Int) 8 = some (.int .u32 ((c / 256 : Nat) : Int)) := Qie (K := .u32) (n := c) (k := 8) (by decide)
      have a2 : IntKind.u8.wrap (c : Int) = ((c % 256 : Nat) : Int) := by rw [Qcl]; omega
      have a3 : IntKind.u8.wrap (BitVec.ofInt IntKind.u8.bits ((c % 256 : Nat) : Int) ^^^ BitVec.ofInt IntKind.u8.bits ((l[k]).toNat : Int)).toNat = ((c % 256 ^^^ (l[k]).toNat : Nat) : Int) :=
        Qry (K := .u8) rfl (a := c % 256) (b := (l[k]).toNat) (Nat.mod_lt _ (by decide)) hb
      have a4 : IntKind.u32.wrap (BitVec.ofInt IntKind.u32.bits ((c / 256 : Nat) : Int) ^^^ BitVec.ofInt IntKind.u32.bits ((QeF 8 (c % 256 ^^^ (l[k]).toNat) : Nat) : Int)).toNat = ((Qox s (l.take (k + 1)) : Nat) : Int) := by
        rw [hn]; exact Qry (K := .u32) rfl (by show c / 256 < 4294967296; omega) h1
      generalize c % 256 ^^^ (l[k]).toNat = x at *
      have e2 : (ks .u32 (QiH 256)).drop x = .int .u32 ((QeF 8 x : Nat) : Int) :: ks .u32 ((QiH 256).drop (x + 1)) := by
        rw [QaP, List.drop_eq_getElem_cons (by rw [Xg]; exact h0), Qcr, Qes h0, if_pos h0]
      simp (maxSteps := 4000000) (disch := omega) only [rr, aop, cV, cV1, AV.one, Qb, okW, Qd, app, Qa, Qc, Qe, Qf, Qg, simprocAttr, e1, a1, a2, a3, a4, e2, t0]
      exact ⟨k + 1, by omega, by omega, Le.slots (by simp [Am.look])⟩
    · have ek : k = l.length := by omega
      subst ek
      rw [List.take_length]
      simp (maxSteps := 4000000) (disch := omega) only [rr, aop, cV, cV1, AV.one, Qb, okW, Qd, app, Qa, Qc, Qe, Qf, Qg, simprocAttr]

def Qm0 (P : Prg) (f : Nat) : Prop := ∀ (l : List UInt8), VC P f [bs l] (if 100000 < l.length then .tup [.int .u32 0, .int .i64 4] else .tup [.int .u32 ((4294967295 - Qox 4294967295 l : Nat) : Int), .int .i64 0])

theorem Qtq {c : Nat} (h : c < 4294967296) : 4294967295 ^^^ c = 4294967295 - c := by
  have h1 : BitVec.allOnes 32 ^^^ BitVec.ofNat 32 c = ~~~ BitVec.ofNat 32 c := by
    apply BitVec.eq_of_getElem_eq
    intro i hi
    rw [BitVec.getElem_xor, BitVec.getElem_allOnes, BitVec.getElem_not, Bool.true_xor]
  have h2 := congrArg BitVec.toNat h1
  rw [BitVec.toNat_xor, BitVec.toNat_not, BitVec.toNat_allOnes, BitVec.toNat_ofNat, Nat.mod_eq_of_lt h] at h2
  exact h2

theorem QqO {P : Prg} {f fN : Nat} (bd : Qj P f 16 [.tmp 2, .tmp 3] (J6 fN)) (hN : QlS P fN) : Qm0 P f := by
  intro l
  refine VC.of_acall (by simp [Qu, isD, X8]) (by split <;> rfl) (ACall.of_body bd (by simp) ?_)
  have hN' := hN 4294967295 l (by decide)
  have hc := Qk7 (l := l) (s := 4294967295) (by decide)
  generalize Qox 4294967295 l = c at *
  simp only [bs] at hN'
  by_cases hl : 100000 < l.length
  · rw [if_pos hl] at hN' ⊢
    simp (maxSteps := 4000000) (disch := omega) only [rr, aop, cV, cV1, AV.one, Qb, okW, Qd, app, Qa, Qc, Qe, Qf, Qg, simprocAttr, J6, bs]
    refine Qh.vc hN' ?_
    simp (maxSteps := 4000000) (disch := omega) only [rr, aop, cV, cV1, AV.one, Qb, okW, Qd, app, Qa, Qc, Qe, Qf, Qg, simprocAttr]
  · rw [if_neg hl] at hN' ⊢
    have a1 : IntKind.u32.wrap (BitVec.ofInt IntKind.u32.bits IntKind.u32.max ^^^ BitVec.ofInt IntKind.u32.bits (c : Int)).toNat = ((4294967295 - c : Nat) : Int) := by
      rw [← Qtq hc]
      exact Qry (K := .u32) rfl (a := 4294967295) (b := c) (by decide) hc
    have a2 : IntKind.u32.signed = false := rfl
    simp (maxSteps := 4000000) (disch := omega) only [rr, aop, cV, cV1, AV.one, Qb, okW, Qd, app, Qa, Qc, Qe, Qf, Qg, simprocAttr, J6, bs]
    refine Qh.vc hN' ?_
    simp (maxSteps := 4000000) (disch := omega) only [rr, aop, cV, cV1, AV.one, Qb, okW, Qd, app, Qa, Qc, Qe, Qf, Qg, simprocAttr, a1, a2]

/-! ### Its reference -/

end Go.Am

namespace Go.Am
open Go.RowKit

/-! ### Read is what was written: without a program -/

theorem QkO : ∀ (k n : Nat), n < 256 ^ k → leN (leB n k) = n
  | 0, n, h => by simp at h; subst h; rfl
  | k + 1, n, h => by
    have h1 : n / 256 < 256 ^ k := by rw [Nat.pow_succ] at h; exact Nat.div_lt_of_lt_mul (by omega)
    have h2 : (UInt8.ofNat (n % 256)).toNat = n % 256 := by simp
    simp only [leB, leN, QkO k _ h1, h2]
    omega

theorem Qp5 : ∀ l : List UInt8, leB (leN l) l.length = l
  | [] => rfl
  | b :: l => by
    have h1 := b.toNat_lt
    have e1 : (b.toNat + 256 * leN l) % 256 = b.toNat := by omega
    have e2 : (b.toNat + 256 * leN l) / 256 = leN l := by omega
    simp only [leN, List.length_cons, leB, e1, e2, Qp5 l]
    simp

end Go.Am

namespace Go.Am
open Go.RowKit

/-! ### Bits as a Qd3: N bits, whose Qd3 is V; their bytes are leB V (nB N) -/

def nB (N : Nat) : Nat := (N + 7) / 8

theorem Qst (V i : Nat) : leB V (i + 1) = leB V i ++ [UInt8.ofNat (V / 256 ^ i % 256)] := by
  have h1 : (leB V (i + 1)).take (i + 1) = (leB V (i + 1)).take i ++ [UInt8.ofNat (V / 256 ^ i % 256)] := Qc3 (by omega)
  have h2 : ∀ k j n : Nat, k ≤ j → (leB n j).take k = leB n k := by
    intro k
    induction k with
    | zero => intro j n _; simp [leB]
    | succ k ih =>
      intro j n h
      obtain ⟨j, rfl⟩ : ∃ j', j = j' + 1 := ⟨j - 1, by omega⟩
      simp [leB, ih j (n / 256) (by omega)]
  rw [h2 (i + 1) (i + 1) V (by omega), h2 i (i + 1) V (by omega)] at h1
  exact h1

theorem Qp4 : ∀ (i V u : Nat), leB (V + 256 ^ i * u) i = leB V i
  | 0, _, _ => rfl
  | i + 1, V, u => by
    have e : 256 ^ (i + 1) * u = 256 * (256 ^ i * u) := by rw [Nat.pow_succ, Nat.mul_comm (256 ^ i) 256, Nat.mul_assoc]
    have e1 : (V + 256 ^ (i + 1) * u) % 256 = V % 256 := by rw [e]; omega
    have e2 : (V + 256 ^ (i + 1) * u) / 256 = V / 256 + 256 ^ i * u := by rw [e]; omega
    simp only [leB, e1, e2, Qp4 i]

theorem QiT (i : Nat) : (256 : Nat) ^ i = 2 ^ (8 * i) := by rw [Nat.pow_mul]

theorem QbC {V i at_ : Nat} (h : V < 2 ^ (8 * i + at_)) (ha : at_ ≤ 8) : leB V (i + 1) = leB V i ++ [UInt8.ofNat (V / 256 ^ i)] ∧ V / 256 ^ i < 2 ^ at_ := by
  have h1 : V / 256 ^ i < 2 ^ at_ := Nat.div_lt_of_lt_mul (by rw [QiT, ← Nat.pow_add]; exact h)
  have h2 : 2 ^ at_ ≤ 2 ^ 8 := Nat.pow_le_pow_right (by omega) ha
  exact ⟨by rw [Qst, Nat.mod_eq_of_lt (by omega)], h1⟩

theorem Qcj {V i at_ w r : Nat} (h : V < 2 ^ (8 * i + at_)) (hw : w < 2 ^ r) (hr : at_ + r ≤ 8) :
    leB (V + 2 ^ (8 * i + at_) * w) (i + 1) = leB V i ++ [UInt8.ofNat (V / 256 ^ i + 2 ^ at_ * w)] ∧ V / 256 ^ i + 2 ^ at_ * w < 2 ^ (at_ + r) ∧ V + 2 ^ (8 * i + at_) * w < 2 ^ (8 * i + (at_ + r)) := by
  obtain ⟨_, h1⟩ := QbC h (by omega)
  have e : 2 ^ (8 * i + at_) * w = 256 ^ i * (2 ^ at_ * w) := by rw [QiT, Nat.pow_add, Nat.mul_assoc]
  have h2 : V / 256 ^ i + 2 ^ at_ * w < 2 ^ (at_ + r) := by
    have : 2 ^ at_ * (w + 1) ≤ 2 ^ at_ * 2 ^ r := Nat.mul_le_mul_left _ hw
    rw [Nat.pow_add]; rw [Nat.mul_add, Nat.mul_one] at this; omega
  have h3 : V + 2 ^ (8 * i + at_) * w < 2 ^ (8 * i + (at_ + r)) := by
    have : 2 ^ (8 * i + at_) * (w + 1) ≤ 2 ^ (8 * i + at_) * 2 ^ r := Nat.mul_le_mul_left _ hw
    rw [← Nat.add_assoc, Nat.pow_add 2 (8 * i + at_)]; rw [Nat.mul_add, Nat.mul_one] at this; omega
  refine ⟨?_, h2, h3⟩
  have h4 := (QbC (V := V + 2 ^ (8 * i + at_) * w) (i := i) (at_ := at_ + r) h3 hr).1
  rw [h4, e, Qp4, Nat.add_mul_div_left _ _ (Nat.pow_pos (by omega))]

theorem Qvy (V q r : Nat) (hr : r < 8) : V / 256 ^ q % 256 / 2 ^ r % 2 = V / 2 ^ (8 * q + r) % 2 := by
  rw [QiT, show (256 : Nat) = 2 ^ r * 2 ^ (8 - r) by rw [← Nat.pow_add, show r + (8 - r) = 8 by omega], Nat.mod_mul_right_div_self, Nat.div_div_eq_div_mul, ← Nat.pow_add]
  rw [Nat.mod_mod_of_dvd]
  exact ⟨2 ^ (8 - r - 1), by rw [← Nat.pow_succ']; congr 1; omega⟩

theorem Quu {V q r n : Nat} (hr : r + n ≤ 8) : V / 256 ^ q % 256 / 2 ^ r % 2 ^ n = V / 2 ^ (8 * q + r) % 2 ^ n := by
  rw [QiT, show (256 : Nat) = 2 ^ r * 2 ^ (8 - r) by rw [← Nat.pow_add, show r + (8 - r) = 8 by omega], Nat.mod_mul_right_div_self, Nat.div_div_eq_div_mul, ← Nat.pow_add]
  rw [Nat.mod_mod_of_dvd]
  exact ⟨2 ^ (8 - r - n), by rw [← Nat.pow_add]; congr 1; omega⟩

end Go.Am

namespace Go.Am
open Go.RowKit

/-! ### Bits: Check, get, Get -/

def bA (N V : Nat) : AV := .agg [.list (nB N) (u8 (leB V (nB N))), .int .i64 N]
theorem XG (N V : Nat) : isD (bA N V) = true := by simp [bA, isD, Qu, Qfi]

theorem QhU {n : Nat} (h : n < 9223372036854775808) : IntKind.i64.wrap (BitVec.ofInt IntKind.i64.bits (n : Int) &&& BitVec.ofInt IntKind.i64.bits 7).toNat = ((n % 8 : Nat) : Int) := by
  have e1 : (BitVec.ofInt 64 (n : Int)).toNat = n := by
    rw [BitVec.toNat_ofInt]
    show ((n : Int) % 18446744073709551616).toNat = n
    omega
  have e2 : (BitVec.ofInt 64 7).toNat = 7 := by decide
  have : (BitVec.ofInt 64 (n : Int) &&& BitVec.ofInt 64 7).toNat = n % 8 := by
    rw [BitVec.toNat_and, e1, e2]
    exact Nat.and_two_pow_sub_one_eq_mod n 3
  show IntKind.i64.wrap ((BitVec.ofInt 64 (n : Int) &&& BitVec.ofInt 64 7).toNat : Int) = _
  rw [this, QaD] <;> omega

theorem QuP {l : List UInt8} {k : Nat} (h : k < l.length) : (u8 l).drop k = .int .u8 (l[k]).toNat :: u8 (l.drop (k + 1)) := by
  rw [QoT, List.drop_eq_getElem_cons h]; rfl

theorem Qp6 {V k i : Nat} (h : i < k) : (u8 (leB V k)).drop i = .int .u8 ((V / 256 ^ i % 256 : Nat) : Int) :: u8 ((leB V k).drop (i + 1)) := by
  rw [QuP (by rw [QH]; exact h)]
  have := QkP k V i h
  rw [List.getElem?_eq_getElem (by rw [QH]; exact h)] at this
  rw [Option.some.inj this]
  have : (UInt8.ofNat (V / 256 ^ i % 256)).toNat = V / 256 ^ i % 256 := by simp
  rw [this]

def XB (P : Prg) (f : Nat) : Prop := ∀ N V : Nat, V < 2 ^ N → N ≤ 330000 → VC P f [bA N V] (.int .i64 0)
theorem Qof {P : Prg} {f t0 : Nat} (bd : Qj P f 40 [.tmp 2] (Jy t0)) : XB P f := by
  intro N V hV hN
  refine VC.of_acall (by simp [Qu, XG]) rfl (ACall.of_body bd (by simp) ?_)
  have e1 : Qn false .i64 ((N : Int) + 7) 3 = some (.int .i64 ((nB N : Nat) : Int)) := by
    rw [show (N : Int) + 7 = ((N + 7 : Nat) : Int) by omega]
    exact Qie (K := .i64) (n := N + 7) (k := 3) (by decide)
  have e2 := QhU (n := N) (by omega)
  have e3 : (u8 (leB V (nB N))).length = nB N := by simp [u8, QH]
  by_cases h0 : N % 8 = 0
  · rw [h0] at e2
    have e2' : IntKind.i64.wrap (BitVec.ofInt IntKind.i64.bits (N : Int) &&& BitVec.ofInt IntKind.i64.bits 7).toNat = 0 := e2
    simp (maxSteps := 4000000) (disch := omega) only [rr, aop, cV, cV1, AV.one, Qb, okW, Qd, app, Qa, Qc, Qe, Qf, Qg, simprocAttr, Jy, bA, e1, e2', e3]
  · have hn : nB N = N / 8 + 1 := by unfold nB; omega
    have h8 : N = 8 * (N / 8) + N % 8 := by omega
    obtain ⟨l1, l2⟩ := QbC (V := V) (i := N / 8) (at_ := N % 8) (by rw [← h8]; exact hV) (by omega)
    have e4 := Qp6 (V := V) (k := nB N) (i := N / 8) (by omega)
    have h256 : V / 256 ^ (N / 8) % 256 = V / 256 ^ (N / 8) := Nat.mod_eq_of_lt (by
      have : 2 ^ (N % 8) ≤ 2 ^ 8 := Nat.pow_le_pow_right (by omega) (by omega)
      omega)
    rw [h256] at e4
    have e5 : Qn false .u8 ((V / 256 ^ (N / 8) : Nat) : Int) ((N % 8 : Nat) : Int) = some (.int .u8 0) := by
      have := Qie (K := .u8) (n := V / 256 ^ (N / 8)) (k := N % 8) (by show N % 8 ≤ 8; omega)
      rw [this, Nat.div_eq_of_lt l2]; rfl
    have e6 : nB N - 1 = N / 8 := by omega
    have hq : ((N % 8 : Nat) : Int) = (N : Int) % 8 := by omega
    generalize V / 256 ^ (N / 8) = y at *
    obtain ⟨a, ha⟩ : ∃ a, a = N % 8 := ⟨_, rfl⟩
    rw [← ha] at e2 e5 hq
    simp (maxSteps := 4000000) (disch := omega) only [rr, aop, cV, cV1, AV.one, Qb, okW, Qd, app, Qa, Qc, Qe, Qf, Qg, simprocAttr, Jy, bA, e1, e2, e3, e4, e5, e6]

theorem Qt1 {t : Nat} (h : t ≤ 8) : Qn true .u8 1 (t : Int) = some (.int .u8 ((2 ^ t % 256 : Nat) : Int)) ∧ IntKind.u8.wrap (((2 ^ t % 256 : Nat) : Int) - 1) = ((2 ^ t - 1 : Nat) : Int) := by
  rcases (by omega : t = 0 ∨ t = 1 ∨ t = 2 ∨ t = 3 ∨ t = 4 ∨ t = 5 ∨ t = 6 ∨ t = 7 ∨ t = 8) with rfl | rfl | rfl | rfl | rfl | rfl | rfl | rfl | rfl <;> exact ⟨rfl, by decide⟩

theorem Qr0 {c s : Nat} (hs : s ≤ 64) (h : c * 2 ^ s < 18446744073709551616) : Qn true .u64 (c : Int) (s : Int) = some (.int .u64 ((c * 2 ^ s : Nat) : Int)) := Qph hs h

theorem QmE {X h t : Nat} : X % 2 ^ (h + t) = X % 2 ^ h + X / 2 ^ h % 2 ^ t * 2 ^ h := by
  rw [Nat.pow_add, Nat.mod_mul, Nat.mul_comm]

def QmW (P : Prg) (f : Nat) : Prop := ∀ N V a n : Nat, V < 2 ^ N → N ≤ 400000 → a + n ≤ N → n ≤ 64 → VC P f [bA N V, .int .i64 a, .int .i64 n] (.int .u64 ((V / 2 ^ a % 2 ^ n : Nat) : Int))
theorem QsR {P : Prg} {f t0 : Nat} (bd : Qj P f 47 [.tmp 6] (QcC t0)) : QmW P f := by
  intro N V a n hV hN han hn
  refine VC.of_acall (by simp [Qu, XG, isD]) rfl (ACall.of_body bd (by simp) ?_)
  simp (maxSteps := 4000000) (disch := omega) only [rr, aop, cV, cV1, AV.one, Qb, okW, Qd, app, Qa, Qc, Qe, Qf, Qg, simprocAttr, QcC, bA]
  refine QW.by (ι := Nat) (fun h => ⟨[(8, .int .i64 h), (7, .int .u64 ((V / 2 ^ a % 2 ^ h : Nat) : Int)), (1, .int .i64 a), (2, .int .i64 n), (3, .ref 0 1 0)], [⟨t0, 2, 1, [.list (nB N) (u8 (leB V (nB N))), .int .i64 N], 0⟩]⟩) (fun h => h ≤ n) (fun h => n - h) 0 (Le.slots (by simp [Am.look, Nat.mod_one])) (by omega) ?_
  intro h hh
  by_cases hlt : h < n
  · obtain ⟨q, hq⟩ : ∃ q, q = (a + h) / 8 := ⟨_, rfl⟩
    obtain ⟨o, ho⟩ : ∃ o, o = (a + h) % 8 := ⟨_, rfl⟩
    obtain ⟨t, ht⟩ : ∃ t, t = min (n - h) (8 - o) := ⟨_, rfl⟩
    have e1 : IntKind.i64.wrap (BitVec.ofInt IntKind.i64.bits ((a : Int) + h) &&& BitVec.ofInt IntKind.i64.bits 7).toNat = (o : Int) := by
      rw [show (a : Int) + h = ((a + h : Nat) : Int) by omega, QhU (by omega), ho]
    have e2 : Qn false .i64 ((a : Int) + h) 3 = some (.int .i64 (q : Int)) := by
      rw [show (a : Int) + h = ((a + h : Nat) : Int) by omega, hq]
      exact Qie (K := .i64) (n := a + h) (k := 3) (by decide)
    have hqn : q < nB N := by unfold nB; omega
    have e3 := Qp6 (V := V) (k := nB N) (i := q) hqn
    have e4 : (u8 (leB V (nB N))).length = nB N := by simp [u8, QH]
    have hy : V / 256 ^ q % 256 < 256 := Nat.mod_lt _ (by decide)
    have e5 : Qn false .u8 ((V / 256 ^ q % 256 : Nat) : Int) (o : Int) = some (.int .u8 ((V / 256 ^ q % 256 / 2 ^ o : Nat) : Int)) := Qie (K := .u8) (k := o) (by show o ≤ 8; omega)
    obtain ⟨e6, e7⟩ := Qt1 (t := t) (by omega)
    have hz : V / 256 ^ q % 256 / 2 ^ o < 256 := Nat.lt_of_le_of_lt (Nat.div_le_self _ _) hy
    have h2t : 2 ^ t - 1 < 256 := by
      have : 2 ^ t ≤ 2 ^ 8 := Nat.pow_le_pow_right (by omega) (by omega)
      omega
    have e8 : IntKind.u8.wrap (BitVec.ofInt IntKind.u8.bits ((V / 256 ^ q % 256 / 2 ^ o : Nat) : Int) &&& BitVec.ofInt IntKind.u8.bits ((2 ^ t - 1 : Nat) : Int)).toNat = ((V / 2 ^ a / 2 ^ h % 2 ^ t : Nat) : Int) := by
      rw [QvW (K := .u8) rfl hz h2t, Nat.and_two_pow_sub_one_eq_mod, Quu (by omega), show 8 * q + o = a + h by omega, Nat.pow_add, Nat.div_div_eq_div_mul]
    have hc : V / 2 ^ a / 2 ^ h % 2 ^ t < 2 ^ t := Nat.mod_lt _ (Nat.pow_pos (by omega))
    have hmul : V / 2 ^ a / 2 ^ h % 2 ^ t * 2 ^ h < 2 ^ (h + t) := by
      rw [Nat.pow_add, Nat.mul_comm]; exact Nat.mul_lt_mul_of_pos_left hc (Nat.pow_pos (by omega))
    have h64 : 2 ^ (h + t) ≤ 2 ^ 64 := Nat.pow_le_pow_right (by omega) (by omega)
    have hv0 : V / 2 ^ a % 2 ^ h < 2 ^ h := Nat.mod_lt _ (Nat.pow_pos (by omega))
    have h65 : 2 ^ h ≤ 2 ^ 64 := Nat.pow_le_pow_right (by omega) (by omega)
    have e9 := QmE (X := V / 2 ^ a) (h := h) (t := t)
    generalize hcc : V / 2 ^ a / 2 ^ h % 2 ^ t = c at *
    have e10 : Qn true .u64 (c : Int) (h : Int) = some (.int .u64 ((c * 2 ^ h : Nat) : Int)) := Qr0 (by omega) (by omega)
    have e11 : IntKind.u64.wrap (BitVec.ofInt IntKind.u64.bits ((V / 2 ^ a % 2 ^ h : Nat) : Int) ||| BitVec.ofInt IntKind.u64.bits ((c * 2 ^ h : Nat) : Int)).toNat = ((V / 2 ^ a % 2 ^ (h + t) : Nat) : Int) := by
      rw [Qs8 _ _ (by omega) (by omega), QiV hv0, e9]
    generalize V / 2 ^ a % 2 ^ h = v0 at *
    generalize V / 256 ^ q % 256 / 2 ^ o = z at *
    generalize V / 256 ^ q % 256 = y at *
    have hc8 : c < 256 := by
      have : 2 ^ t ≤ 2 ^ 8 := Nat.pow_le_pow_right (by omega) (by omega)
      omega
    have e12 : (if (8 : Int) - o < n - h then (8 : Int) - o else n - h) = (t : Int) := by split <;> omega
    simp (maxSteps := 4000000) (disch := omega) only [rr, aop, cV, cV1, AV.one, Qb, okW, Qd, app, Qa, Qc, Qe, Qf, Qg, simprocAttr, e1, e2, e3, e4, e5, e6, e7, e8, e10, e11, e12]
    exact ⟨h + t, by omega, by omega, Le.slots (by simp [Am.look])⟩
  · obtain rfl : h = n := by omega
    simp (maxSteps := 4000000) (disch := omega) only [rr, aop, cV, cV1, AV.one, Qb, okW, Qd, app, Qa, Qc, Qe, Qf, Qg, simprocAttr]

def QgP (P : Prg) (f : Nat) : Prop := ∀ N V a n : Nat, V < 2 ^ N → N ≤ 330000 → n ≤ 64 → a ≤ 400000 → VC P f [bA N V, .int .i64 a, .int .i64 n] (if N < a + n then .tup [.int .u64 0, .int .i64 24] else .tup [.int .u64 ((V / 2 ^ a % 2 ^ n : Nat) : Int), .int .i64 0])
theorem QsT {P : Prg} {f fC fG t0 : Nat} (bd : Qj P f 34 [.tmp 6, .tmp 7] (Qba fC fG t0)) (hC : XB P fC) (hG : QmW P fG) : QgP P f := by
  intro N V a n hV hN hn ha
  refine VC.of_acall (by simp [Qu, XG, isD]) (by split <;> rfl) (ACall.of_body bd (by simp) ?_)
  have hC' := hC N V hV hN
  rw [bA] at hC'
  by_cases hlt : N < a + n
  · rw [if_pos hlt]
    simp (maxSteps := 4000000) (disch := omega) only [rr, aop, cV, cV1, AV.one, Qb, okW, Qd, app, Qa, Qc, Qe, Qf, Qg, simprocAttr, Qba, bA]
    refine Qh.vc hC' ?_
    simp (maxSteps := 4000000) (disch := omega) only [rr, aop, cV, cV1, AV.one, Qb, okW, Qd, app, Qa, Qc, Qe, Qf, Qg, simprocAttr]
  · rw [if_neg hlt]
    have hG' := hG N V a n hV (by omega) (by omega) hn
    rw [bA] at hG'
    generalize V / 2 ^ a % 2 ^ n = v at *
    simp (maxSteps := 4000000) (disch := omega) only [rr, aop, cV, cV1, AV.one, Qb, okW, Qd, app, Qa, Qc, Qe, Qf, Qg, simprocAttr, Qba, bA]
    refine Qh.vc hC' ?_
    simp (maxSteps := 4000000) (disch := omega) only [rr, aop, cV, cV1, AV.one, Qb, okW, Qd, app, Qa, Qc, Qe, Qf, Qg, simprocAttr]
    refine Qh.vc hG' ?_
    simp (maxSteps := 4000000) (disch := omega) only [rr, aop, cV, cV1, AV.one, Qb, okW, Qd, app, Qa, Qc, Qe, Qf, Qg, simprocAttr]

theorem Qm9 {X n : Nat} : X % 2 ^ (n + 1) = 2 * (X / 2 % 2 ^ n) + X % 2 := by
  rw [Nat.pow_succ, Nat.mul_comm, Nat.mod_mul]; omega

end Go.Am
