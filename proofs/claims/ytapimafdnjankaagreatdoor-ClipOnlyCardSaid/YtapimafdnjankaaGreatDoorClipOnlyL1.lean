/- What the functions that the law reaches return, for every program that has their code; the conditions stand in each statement. -/
import Derived.Test.YtapimafdnjankaaGreatDoorClipOnlyD1
set_option linter.unusedSectionVars false
set_option linter.unusedSimpArgs false
set_option linter.unusedVariables false
namespace Go.Am
open Go.RowKit

def leN : List UInt8 → Nat
  | [] => 0
  | b :: l => b.toNat + 256 * leN l

theorem QiI : ∀ l : List UInt8, leN l < 2 ^ (8 * l.length)
  | [] => by simp [leN]
  | b :: l => by
    have h1 := QiI l
    have h2 := b.toNat_lt
    have h3 : 2 ^ (8 * (b :: l).length) = 256 * 2 ^ (8 * l.length) := by
      rw [List.length_cons, Nat.mul_add, Nat.pow_add, Nat.mul_comm]
    rw [h3]
    simp only [leN]
    omega

theorem Qgj : ∀ (a b : List UInt8), leN (a ++ b) = leN a + 2 ^ (8 * a.length) * leN b
  | [], b => by simp [leN]
  | x :: a, b => by
    have h3 : 2 ^ (8 * (x :: a).length) = 256 * 2 ^ (8 * a.length) := by
      rw [List.length_cons, Nat.mul_add, Nat.pow_add, Nat.mul_comm]
    rw [h3]
    simp only [List.cons_append, leN, Qgj a b, Nat.mul_add, Nat.mul_assoc]
    omega

theorem Qr4 {l : List UInt8} (h : l.length ≤ 8) : leN l < 18446744073709551616 := by
  have h1 := QiI l
  have h2 : 2 ^ (8 * l.length) ≤ 2 ^ 64 := Nat.pow_le_pow_right (by omega) (by omega)
  omega

theorem Qr3 {l : List UInt8} {k : Nat} (h : k < l.length) : leN (l.take (k + 1)) = leN (l.take k) + l[k].toNat * 2 ^ (8 * k) := by
  rw [List.take_succ_eq_append_getElem h, Qgj]
  simp [leN, Nat.min_eq_left (Nat.le_of_lt h), Nat.mul_comm]

def Qdy (P : Prg) (f : Nat) : Prop := ∀ l : List UInt8, 1 ≤ l.length → l.length ≤ 8 → VC P f [bs l] (.tup [.int .u64 (leN l), .int .i64 0])

set_option maxRecDepth 10000 in
theorem Qr1 {P : Prg} {f : Nat} (b : Qj P f 31 [.tmp 2, .tmp 3] Qcr) : Qdy P f := by
  intro l h1 h2
  refine VC.of_acall (by simp [Qs, X3]) rfl (ACall.of_body b (by simp) ?_)
  have d1 : ¬ ((l.length : Int) < 1) := by omega
  have d2 : ¬ ((8 : Int) < l.length) := by omega
  simp only [abv, Qq7, ev, okW, Qd, Bool.false_and, Qne, aop, cV, cV1, List.length_nil, List.length_cons, List.map_nil, List.map_cons, List.cons_append, List.nil_append, ↓reduceIte, Nat.reduceEqDiff, Nat.reduceAdd, Option.map_some, Option.map_none, Option.bind_some, decide_true, decide_false, Bool.false_eq_true, Bool.not_true, Bool.not_false, Int.toNat_natCast, List.getElem?_cons_zero, List.getElem?_cons_succ, Int.natCast_add, Int.cast_ofNat_Int, true_and, and_true, and_self, if_true, if_false, Zv, Nat.mul_one, Nat.one_mul, Nat.zero_add, Nat.add_zero, List.drop_zero, beq_self_eq_true, Bool.and_self, Bool.and_true, Bool.true_and, AV.one, List.all_cons, List.all_nil, Qq, X8, Qb, Nat.reduceLT, Nat.reduceLeDiff, Nat.reduceBEq, Nat.reduceMul, Nat.reduceSub, Int.reduceLT, Int.reduceLE, Int.reduceAdd, Int.reduceSub, Int.reduceMul, Int.reduceToNat, List.take_nil, List.drop_nil, List.take_zero, List.append_nil, Qa, Qc, Qe, app, List.set_cons_zero, List.set_cons_succ, List.length_set, Nat.le_refl, Nat.zero_le, List.take_length, XQ, reduceCtorEq, List.drop_succ_cons, List.take_succ_cons, Int.reduceEq, Qcr, bs, d1, d2]
  refine QW.by (ι := Nat) (fun k => ⟨[(17, .int .i64 k), (16, .int .i64 l.length), (15, .list l.length (u8 l)), (4, .int .u64 (leN (l.take k)))], []⟩) (fun k => k ≤ l.length) (fun k => l.length - k) 0 (Le.slots (by simp [Am.look, leN])) (by omega) ?_
  intro k hk
  by_cases hlt : k < l.length
  · have e1 : (k : Int) < l.length := by omega
    have e2 : (0 : Int) ≤ k := by omega
    have e4 := Qt5 hlt
    have e5 : IntKind.u64.wrap ((l[k].toNat : Nat) : Int) = (l[k].toNat : Nat) := Qby (by omega) (by have := l[k].toNat_lt; omega)
    have e6 : IntKind.i64.wrap (8 * (k : Int)) = (8 * k : Nat) := by rw [Qau] <;> omega
    have e7 : Qm true .u64 ((l[k].toNat : Nat) : Int) ((8 * k : Nat) : Int) = some (.int .u64 ((l[k].toNat * 2 ^ (8 * k) : Nat) : Int)) := QoX (by omega) (by
      have h1 := l[k].toNat_lt
      have h2 : 2 ^ (8 * k) ≤ 2 ^ 56 := Nat.pow_le_pow_right (by omega) (by omega)
      calc l[k].toNat * 2 ^ (8 * k) ≤ 255 * 2 ^ 56 := Nat.mul_le_mul (by omega) h2
        _ < _ := by omega)
    have e8 : leN (l.take (k + 1)) < 18446744073709551616 := Qr4 (by simp; omega)
    have e9 := Qr3 hlt
    have e10 : leN (l.take k) < 2 ^ (8 * k) := by have := QiI (l.take k); rwa [List.length_take, Nat.min_eq_left hk] at this
    have e11 : IntKind.u64.wrap (BitVec.ofInt IntKind.u64.bits (leN (l.take k) : Nat) ||| BitVec.ofInt IntKind.u64.bits (l[k].toNat * 2 ^ (8 * k) : Nat)).toNat = (leN (l.take (k + 1)) : Nat) := by
      rw [QsK _ _ (by omega) (by omega), QiB e10, e9]
    have e12 : IntKind.i64.wrap ((k : Int) + 1) = ((k + 1 : Nat) : Int) := by rw [Qau] <;> omega
    simp only [abv, Qq7, ev, okW, Qd, Bool.false_and, Qne, aop, cV, cV1, List.length_nil, List.length_cons, List.map_nil, List.map_cons, List.cons_append, List.nil_append, ↓reduceIte, Nat.reduceEqDiff, Nat.reduceAdd, Option.map_some, Option.map_none, Option.bind_some, decide_true, decide_false, Bool.false_eq_true, Bool.not_true, Bool.not_false, Int.toNat_natCast, List.getElem?_cons_zero, List.getElem?_cons_succ, Int.natCast_add, Int.cast_ofNat_Int, true_and, and_true, and_self, if_true, if_false, Zv, Nat.mul_one, Nat.one_mul, Nat.zero_add, Nat.add_zero, List.drop_zero, beq_self_eq_true, Bool.and_self, Bool.and_true, Bool.true_and, AV.one, List.all_cons, List.all_nil, Qq, X8, Qb, Nat.reduceLT, Nat.reduceLeDiff, Nat.reduceBEq, Nat.reduceMul, Nat.reduceSub, Int.reduceLT, Int.reduceLE, Int.reduceAdd, Int.reduceSub, Int.reduceMul, Int.reduceToNat, List.take_nil, List.drop_nil, List.take_zero, List.append_nil, Qa, Qc, Qe, app, List.set_cons_zero, List.set_cons_succ, List.length_set, Nat.le_refl, Nat.zero_le, List.take_length, XQ, reduceCtorEq, List.drop_succ_cons, List.take_succ_cons, Int.reduceEq, e1, e2, hlt, e4, e5, e6, e7, e11, e12]
    exact ⟨k + 1, by omega, by omega, Le.slots (by simp [Am.look])⟩
  · have e1 : ¬ (k : Int) < l.length := by omega
    have e2 : k = l.length := by omega
    subst e2
    simp only [abv, Qq7, ev, okW, Qd, Bool.false_and, Qne, aop, cV, cV1, List.length_nil, List.length_cons, List.map_nil, List.map_cons, List.cons_append, List.nil_append, ↓reduceIte, Nat.reduceEqDiff, Nat.reduceAdd, Option.map_some, Option.map_none, Option.bind_some, decide_true, decide_false, Bool.false_eq_true, Bool.not_true, Bool.not_false, Int.toNat_natCast, List.getElem?_cons_zero, List.getElem?_cons_succ, Int.natCast_add, Int.cast_ofNat_Int, true_and, and_true, and_self, if_true, if_false, Zv, Nat.mul_one, Nat.one_mul, Nat.zero_add, Nat.add_zero, List.drop_zero, beq_self_eq_true, Bool.and_self, Bool.and_true, Bool.true_and, AV.one, List.all_cons, List.all_nil, Qq, X8, Qb, Nat.reduceLT, Nat.reduceLeDiff, Nat.reduceBEq, Nat.reduceMul, Nat.reduceSub, Int.reduceLT, Int.reduceLE, Int.reduceAdd, Int.reduceSub, Int.reduceMul, Int.reduceToNat, List.take_nil, List.drop_nil, List.take_zero, List.append_nil, Qa, Qc, Qe, app, List.set_cons_zero, List.set_cons_succ, List.length_set, Nat.le_refl, Nat.zero_le, List.take_length, XQ, reduceCtorEq, List.drop_succ_cons, List.take_succ_cons, Int.reduceEq, e1, List.take_length]

/-! ### layer 1's reference -/

end Go.Am

namespace Go.Am
open Go.RowKit

theorem Xl (l : List UInt8) : X2 (u8 l) = true := by
  induction l with
  | nil => rfl
  | cons x l ih => simp [QjZ, X2, isT, ih]
def Js (P : Prg) (f : Nat) : Prop := ∀ l : List UInt8, l.length < 140737488355328 → VC P f [bs l] (bs l)

set_option maxRecDepth 10000 in
theorem QkZ {P : Prg} {f t0 : Nat} (b : Qj P f 8 [.tmp 2] (Qae t0)) : Js P f := by
  intro l hl
  refine VC.of_walk 1 (by simp [Qs, X3]) (X3 l) (ACall.of_body b (by simp) ?_)
  have fin : ∀ ob, ob = [⟨t0, 1, l.length, u8 l, 0⟩] → Zr (fun _ => true) ob (1 + 1) [.own 0 l.length] = some [bs l] := by
    rintro ob rfl
    simp only [Zr, QJ, QO, QI, Bool.false_eq_true, if_false, List.getElem?_cons_zero, and_self, if_true, Qr _ (Xl l), Option.map_some]
    rfl
  have d1 : l.length * 1 ≤ 140737488355328 := by omega
  have d2 : l.length ≤ 9223372036854775807 := by omega
  by_cases h0 : l = []
  · subst h0
    simp only [abv, Qq7, ev, okW, Qd, Bool.false_and, Qne, aop, cV, cV1, List.length_nil, List.length_cons, List.map_nil, List.map_cons, List.cons_append, List.nil_append, ↓reduceIte, Nat.reduceEqDiff, Nat.reduceAdd, Option.map_some, Option.map_none, Option.bind_some, decide_true, decide_false, Bool.false_eq_true, Bool.not_true, Bool.not_false, Int.toNat_natCast, List.getElem?_cons_zero, List.getElem?_cons_succ, Int.natCast_add, Int.cast_ofNat_Int, true_and, and_true, and_self, if_true, if_false, Zv, Nat.mul_one, Nat.one_mul, Nat.zero_add, Nat.add_zero, List.drop_zero, beq_self_eq_true, Bool.and_self, Bool.and_true, Bool.true_and, AV.one, List.all_cons, List.all_nil, Qq, X8, Qb, Nat.reduceLT, Nat.reduceLeDiff, Nat.reduceBEq, Nat.reduceMul, Nat.reduceSub, Int.reduceLT, Int.reduceLE, Int.reduceAdd, Int.reduceSub, Int.reduceMul, Int.reduceToNat, List.take_nil, List.drop_nil, List.take_zero, List.append_nil, Qa, Qc, Qe, app, List.set_cons_zero, List.set_cons_succ, List.length_set, Nat.le_refl, Nat.zero_le, List.take_length, XQ, reduceCtorEq, List.drop_succ_cons, List.take_succ_cons, Int.reduceEq, Qae, bs, Qjy, QsF]
    simp [Zr, QJ, QO, QI, Qs]
  · have h1 : l.length ≠ 0 := by simpa using h0
    have d3 : l.length ≤ 140737488355328 := by omega
    simp only [abv, Qq7, ev, okW, Qd, Bool.false_and, Qne, aop, cV, cV1, List.length_nil, List.length_cons, List.map_nil, List.map_cons, List.cons_append, List.nil_append, ↓reduceIte, Nat.reduceEqDiff, Nat.reduceAdd, Option.map_some, Option.map_none, Option.bind_some, decide_true, decide_false, Bool.false_eq_true, Bool.not_true, Bool.not_false, Int.toNat_natCast, List.getElem?_cons_zero, List.getElem?_cons_succ, Int.natCast_add, Int.cast_ofNat_Int, true_and, and_true, and_self, if_true, if_false, Zv, Nat.mul_one, Nat.one_mul, Nat.zero_add, Nat.add_zero, List.drop_zero, beq_self_eq_true, Bool.and_self, Bool.and_true, Bool.true_and, AV.one, List.all_cons, List.all_nil, Qq, X8, Qb, Nat.reduceLT, Nat.reduceLeDiff, Nat.reduceBEq, Nat.reduceMul, Nat.reduceSub, Int.reduceLT, Int.reduceLE, Int.reduceAdd, Int.reduceSub, Int.reduceMul, Int.reduceToNat, List.take_nil, List.drop_nil, List.take_zero, List.append_nil, Qa, Qc, Qe, app, List.set_cons_zero, List.set_cons_succ, List.length_set, Nat.le_refl, Nat.zero_le, List.take_length, XQ, reduceCtorEq, List.drop_succ_cons, List.take_succ_cons, Int.reduceEq, Qae, bs, Qjy, h1, d2, d3]
    exact fin _ rfl

end Go.Am

namespace Go.Am
open Go.RowKit

def Jj (b : Int) : Int := if b = 8 then 128 else if b = 16 then 32768 else if b = 24 then 8388608 else 0

theorem XG (b : Int) : (b = 8 ∧ Jj b = 128) ∨ (b = 16 ∧ Jj b = 32768) ∨ (b = 24 ∧ Jj b = 8388608) ∨ (b ≠ 8 ∧ b ≠ 16 ∧ b ≠ 24 ∧ Jj b = 0) := by
  unfold Jj; split <;> (try split) <;> (try split) <;> omega

def Qai (b : Int) : AV := if Jj b = 0 then .tup [.int .i32 0, .int .i32 0, .int .i64 2] else .tup [.int .i32 (-Jj b), .int .i32 (Jj b - 1), .int .i64 0]

def QhK (P : Prg) (f : Nat) : Prop := ∀ b : Int, VC P f [.int .i64 b] (Qai b)

theorem QjH {P : Prg} {f : Nat} (b : Qj P f 18 [.tmp 2, .tmp 3, .tmp 4] Zz) : QhK P f := by
  intro x
  refine VC.of_acall rfl (by unfold Qai; split <;> rfl) (ACall.of_body b (by simp) ?_)
  rcases XG x with ⟨rfl, h⟩ | ⟨rfl, h⟩ | ⟨rfl, h⟩ | ⟨h1, h2, h3, h⟩
  · simp (maxSteps := 4000000) (disch := omega) only [rr, aop, cV, cV1, AV.one, Qb, okW, Qd, app, Qa, Qc, Qe, Qf, Qg, simprocAttr, Zz, Qai, h]
    rfl
  · simp (maxSteps := 4000000) (disch := omega) only [rr, aop, cV, cV1, AV.one, Qb, okW, Qd, app, Qa, Qc, Qe, Qf, Qg, simprocAttr, Zz, Qai, h]
    rfl
  · simp (maxSteps := 4000000) (disch := omega) only [rr, aop, cV, cV1, AV.one, Qb, okW, Qd, app, Qa, Qc, Qe, Qf, Qg, simprocAttr, Zz, Qai, h]
    rfl
  · simp (maxSteps := 4000000) (disch := omega) only [rr, aop, cV, cV1, AV.one, Qb, okW, Qd, app, Qa, Qc, Qe, Qf, Qg, simprocAttr, Zz, Qai, h]

end Go.Am

namespace Go.Am
open Go.RowKit

def il (l : List Int) : AV := .list l.length (ks .i32 l)
theorem QT (l : List Int) : isD (il l) = true := by simp [il, isD, QY]

def inR (b x : Int) : Bool := decide (-Jj b ≤ x) && decide (x < Jj b)
def QC (b : Int) (l : List Int) : Int := if Jj b = 0 then 2 else if 4000 < l.length then 4 else if l.all (inR b) then 0 else 16
def I32 (l : List Int) : Prop := ∀ x ∈ l, -2147483648 ≤ x ∧ x ≤ 2147483647
def JY (P : Prg) (f : Nat) : Prop := ∀ (b : Int) (l : List Int), I32 l → VC P f [.int .i64 b, il l] (.int .i64 (QC b l))

theorem Qc4 {l : List Int} {k : Nat} (h : k < l.length) {p : Int → Bool} : (l.take (k + 1)).all p = ((l.take k).all p && p l[k]) := by
  rw [List.take_succ_eq_append_getElem h, List.all_append]; simp

theorem Qgg {l : List Int} {k : Nat} (h : k < l.length) {p : Int → Bool} (hp : p l[k] = false) : l.all p = false := by
  rw [List.all_eq_false]
  exact ⟨l[k], List.getElem_mem h, by simp [hp]⟩

set_option maxRecDepth 10000 in
theorem QjI {P : Prg} {f fR : Nat} (b : Qj P f 37 [.tmp 4] (J5 fR)) (hR : QhK P fR) : JY P f := by
  intro x l hl
  refine VC.of_acall (by simp [Qs, isD, QT]) rfl (ACall.of_body b (by simp) ?_)
  simp (maxSteps := 4000000) (disch := omega) only [rr, aop, cV, cV1, AV.one, Qb, okW, Qd, app, Qa, Qc, Qe, Qf, Qg, simprocAttr, J5]
  refine Qh.vc (hR x) ?_
  by_cases h0 : Jj x = 0
  · simp (maxSteps := 4000000) (disch := omega) only [rr, aop, cV, cV1, AV.one, Qb, okW, Qd, app, Qa, Qc, Qe, Qf, Qg, simprocAttr, Qai, QC, h0]
  have h3 : Jj x = 128 ∨ Jj x = 32768 ∨ Jj x = 8388608 := by rcases XG x with h | h | h | h <;> omega
  by_cases h1 : 4000 < l.length
  · simp (maxSteps := 4000000) (disch := omega) only [rr, aop, cV, cV1, AV.one, Qb, okW, Qd, app, Qa, Qc, Qe, Qf, Qg, simprocAttr, Qai, QC, h0, il, h1]
  simp (maxSteps := 4000000) (disch := omega) only [rr, aop, cV, cV1, AV.one, Qb, okW, Qd, app, Qa, Qc, Qe, Qf, Qg, simprocAttr, Qai, il, if_neg h0]
  refine QW.by (ι := Nat) (fun k => ⟨[(24, .int .i64 k), (23, .int .i64 l.length), (22, il l), (6, .int .i32 (Jj x - 1)), (5, .int .i32 (-Jj x))], []⟩) (fun k => k ≤ l.length ∧ (l.take k).all (inR x) = true) (fun k => l.length - k) 0 (Le.slots (by simp [Am.look, il])) ⟨by omega, by simp⟩ ?_
  intro k ⟨hk, hg⟩
  by_cases hlt : k < l.length
  · by_cases hp : -Jj x ≤ l[k] ∧ l[k] < Jj x
    · have hs := Qc4 hlt (p := inR x)
      simp (maxSteps := 4000000) (disch := omega) only [rr, aop, cV, cV1, AV.one, Qb, okW, Qd, app, Qa, Qc, Qe, Qf, Qg, simprocAttr, il, QaI, hlt]
      exact ⟨k + 1, ⟨by omega, by rw [hs, hg]; simp [inR, hp]⟩, by omega, Le.slots (by simp [Am.look, il])⟩
    · have e : QC x l = 16 := by simp [QC, h0, h1, Qgg hlt (p := inR x) (by simp [inR]; omega)]
      by_cases hq : l[k] < -Jj x
      · simp (maxSteps := 4000000) (disch := omega) only [rr, aop, cV, cV1, AV.one, Qb, okW, Qd, app, Qa, Qc, Qe, Qf, Qg, simprocAttr, il, QaI, hlt, e]
      · simp (maxSteps := 4000000) (disch := omega) only [rr, aop, cV, cV1, AV.one, Qb, okW, Qd, app, Qa, Qc, Qe, Qf, Qg, simprocAttr, il, QaI, hlt, e]
  · have e2 : k = l.length := by omega
    subst e2
    rw [List.take_length] at hg
    simp (maxSteps := 4000000) (disch := omega) only [rr, aop, cV, cV1, AV.one, Qb, okW, Qd, app, Qa, Qc, Qe, Qf, Qg, simprocAttr, il, QC, h0, h1, hg]

def QmN (P : Prg) (f : Nat) : Prop := ∀ x : Int, VC P f [.int .i64 x] (.int .i64 (Jj x))

theorem Qnn {P : Prg} {f : Nat} (b : Qj P f 10 [.tmp 2] Z4) : QmN P f := by
  intro x
  refine VC.of_acall rfl rfl (ACall.of_body b (by simp) ?_)
  rcases XG x with ⟨rfl, h⟩ | ⟨rfl, h⟩ | ⟨rfl, h⟩ | ⟨h1, h2, h3, h⟩ <;> simp (maxSteps := 4000000) (disch := omega) only [rr, aop, cV, cV1, AV.one, Qb, okW, Qd, app, Qa, Qc, Qe, Qf, Qg, simprocAttr, Z4, h]

set_option maxRecDepth 10000 in
theorem Qkj {P : Prg} {f fH : Nat} (b : Qj P f 37 [.tmp 4] (ZS fH)) (hH : QmN P fH) : JY P f := by
  intro x l hl
  refine VC.of_acall (by simp [Qs, isD, QT]) rfl (ACall.of_body b (by simp) ?_)
  simp (maxSteps := 4000000) (disch := omega) only [rr, aop, cV, cV1, AV.one, Qb, okW, Qd, app, Qa, Qc, Qe, Qf, Qg, simprocAttr, ZS]
  refine Qh.vc (hH x) ?_
  by_cases h0 : Jj x = 0
  · simp (maxSteps := 4000000) (disch := omega) only [rr, aop, cV, cV1, AV.one, Qb, okW, Qd, app, Qa, Qc, Qe, Qf, Qg, simprocAttr, QC, h0]
  have h3 : Jj x = 128 ∨ Jj x = 32768 ∨ Jj x = 8388608 := by rcases XG x with h | h | h | h <;> omega
  by_cases h1 : 4000 < l.length
  · simp (maxSteps := 4000000) (disch := omega) only [rr, aop, cV, cV1, AV.one, Qb, okW, Qd, app, Qa, Qc, Qe, Qf, Qg, simprocAttr, QC, h0, il, h1]
  simp (maxSteps := 4000000) (disch := omega) only [rr, aop, cV, cV1, AV.one, Qb, okW, Qd, app, Qa, Qc, Qe, Qf, Qg, simprocAttr, il]
  refine QW.by (ι := Nat) (fun k => ⟨[(6, .int .i64 k), (1, il l), (5, .int .i64 (Jj x))], []⟩) (fun k => k ≤ l.length ∧ (l.take k).all (inR x) = true) (fun k => l.length - k) 0 (Le.slots (by simp [Am.look, il])) ⟨by omega, by simp⟩ ?_
  intro k ⟨hk, hg⟩
  by_cases hlt : k < l.length
  · have hb := hl _ (List.getElem_mem hlt)
    by_cases hp : -Jj x ≤ l[k] ∧ l[k] < Jj x
    · have hs := Qc4 hlt (p := inR x)
      simp (maxSteps := 4000000) (disch := omega) only [rr, aop, cV, cV1, AV.one, Qb, okW, Qd, app, Qa, Qc, Qe, Qf, Qg, simprocAttr, il, QaI, hlt]
      exact ⟨k + 1, ⟨by omega, by rw [hs, hg]; simp [inR, hp]⟩, by omega, Le.slots (by simp [Am.look, il])⟩
    · have e : QC x l = 16 := by simp [QC, h0, h1, Qgg hlt (p := inR x) (by simp [inR]; omega)]
      by_cases hq : l[k] < -Jj x
      · simp (maxSteps := 4000000) (disch := omega) only [rr, aop, cV, cV1, AV.one, Qb, okW, Qd, app, Qa, Qc, Qe, Qf, Qg, simprocAttr, il, QaI, hlt, e]
      · simp (maxSteps := 4000000) (disch := omega) only [rr, aop, cV, cV1, AV.one, Qb, okW, Qd, app, Qa, Qc, Qe, Qf, Qg, simprocAttr, il, QaI, hlt, e]
  · have e2 : k = l.length := by omega
    subst e2
    rw [List.take_length] at hg
    simp (maxSteps := 4000000) (disch := omega) only [rr, aop, cV, cV1, AV.one, Qb, okW, Qd, app, Qa, Qc, Qe, Qf, Qg, simprocAttr, il, QC, h0, h1, hg]

theorem Qi1 {n : Nat} {c : Int} (h : 1 ≤ c) : 0 ≤ (n : Int) / c ∧ (n : Int) / c ≤ n :=
  ⟨Int.ediv_nonneg (by omega) (by omega), Int.ediv_le_self _ (by omega)⟩

theorem Qaj {n : Nat} {c : Int} (h : 1 ≤ c) : 0 ≤ (n : Int) % c ∧ (n : Int) % c < c := ⟨Int.emod_nonneg _ (by omega), Int.emod_lt_of_pos _ (by omega)⟩

end Go.Am

namespace Go.Am
open Go.RowKit

def Qt (r : Int) : Int := if 256 * r / 245 < 1 then 1 else 256 * r / 245
theorem ZJ (r : Int) : 1 ≤ Qt r := by unfold Qt; split <;> omega
theorem Qmb {r : Int} (h : r ≤ 1048576) : Qt r ≤ 1095654 := by unfold Qt; split <;> omega
def Qa8 (r : Int) : AV := if r < 1 ∨ 1048576 < r then .tup [.int .i64 0, .int .i64 2] else .tup [.int .i64 (Qt r), .int .i64 0]
def Qa1 (P : Prg) (f : Nat) : Prop := ∀ r : Int, VC P f [.int .i64 r] (Qa8 r)

theorem Qmi (r : Int) : isD (Qa8 r) = true := by unfold Qa8; split <;> rfl

theorem QiH {P : Prg} {f : Nat} (b : Qj P f 14 [.tmp 2, .tmp 3] ZM) : Qa1 P f := by
  intro r
  refine VC.of_acall rfl (Qmi r) (ACall.of_body b (by simp) ?_)
  by_cases h1 : r < 1
  · simp (maxSteps := 4000000) (disch := omega) only [rr, aop, cV, cV1, AV.one, Qb, okW, Qd, app, Qa, Qc, Qe, Qf, Qg, simprocAttr, ZM, Qa8, true_or]
  by_cases h2 : 1048576 < r
  · simp (maxSteps := 4000000) (disch := omega) only [rr, aop, cV, cV1, AV.one, Qb, okW, Qd, app, Qa, Qc, Qe, Qf, Qg, simprocAttr, ZM, Qa8, or_true]
  have h3 : 1 ≤ 256 * r / 245 := by omega
  simp (maxSteps := 4000000) (disch := omega) only [rr, aop, cV, cV1, AV.one, Qb, okW, Qd, app, Qa, Qc, Qe, Qf, Qg, simprocAttr, ZM, Qa8, or_self, Qt]
  rw [show (if (1 : Int) < 256 * r / 245 then 256 * r / 245 else 1) = 256 * r / 245 by split <;> omega]

theorem Qnm {P : Prg} {f : Nat} (b : Qj P f 17 [.tmp 2, .tmp 3] QV) : Qa1 P f := by
  intro r
  refine VC.of_acall rfl (Qmi r) (ACall.of_body b (by simp) ?_)
  by_cases h1 : r < 1
  · simp (maxSteps := 4000000) (disch := omega) only [rr, aop, cV, cV1, AV.one, Qb, okW, Qd, app, Qa, Qc, Qe, Qf, Qg, simprocAttr, QV, Qa8, true_or]
  by_cases h2 : 1048576 < r
  · simp (maxSteps := 4000000) (disch := omega) only [rr, aop, cV, cV1, AV.one, Qb, okW, Qd, app, Qa, Qc, Qe, Qf, Qg, simprocAttr, QV, Qa8, or_true]
  have e : r * 256 / 245 = 256 * r / 245 := by rw [Int.mul_comm]
  have h3 : 1 ≤ 256 * r / 245 := by omega
  simp (maxSteps := 4000000) (disch := omega) only [rr, aop, cV, cV1, AV.one, Qb, okW, Qd, app, Qa, Qc, Qe, Qf, Qg, simprocAttr, QV, Qa8, or_self, Qt, e]

def Zf (c b : Int) : Int := if Jj b = 0 ∨ c < 1 ∨ 6 < c then 2 else 0
def shA (c b : Int) : AV := .agg [.int .i64 c, .int .i64 b]
def Jt (P : Prg) (f : Nat) : Prop := ∀ c b : Int, VC P f [shA c b] (.int .i64 (Zf c b))

theorem Qha {P : Prg} {f fR t0 : Nat} (b : Qj P f 25 [.tmp 2] (Jd fR t0)) (hR : QhK P fR) : Jt P f := by
  intro c x
  refine VC.of_acall rfl rfl (ACall.of_body b (by simp) ?_)
  simp (maxSteps := 4000000) (disch := omega) only [rr, aop, cV, cV1, AV.one, Qb, okW, Qd, app, Qa, Qc, Qe, Qf, Qg, simprocAttr, Jd, shA]
  refine Qh.vc (hR x) ?_
  by_cases h0 : Jj x = 0
  · simp (maxSteps := 4000000) (disch := omega) only [rr, aop, cV, cV1, AV.one, Qb, okW, Qd, app, Qa, Qc, Qe, Qf, Qg, simprocAttr, Qai, h0, Zf, true_or]
  by_cases h1 : c < 1
  · simp (maxSteps := 4000000) (disch := omega) only [rr, aop, cV, cV1, AV.one, Qb, okW, Qd, app, Qa, Qc, Qe, Qf, Qg, simprocAttr, Qai, if_neg h0, Zf, h0, or_true, true_or]
  by_cases h2 : 6 < c
  · simp (maxSteps := 4000000) (disch := omega) only [rr, aop, cV, cV1, AV.one, Qb, okW, Qd, app, Qa, Qc, Qe, Qf, Qg, simprocAttr, Qai, if_neg h0, Zf, h0, or_true]
  · simp (maxSteps := 4000000) (disch := omega) only [rr, aop, cV, cV1, AV.one, Qb, okW, Qd, app, Qa, Qc, Qe, Qf, Qg, simprocAttr, Qai, if_neg h0, Zf, h0, or_self]

theorem Qkh {P : Prg} {f fH t0 : Nat} (b : Qj P f 17 [.tmp 2] (QR fH t0)) (hH : QmN P fH) : Jt P f := by
  intro c x
  refine VC.of_acall rfl rfl (ACall.of_body b (by simp) ?_)
  have hx := XG x
  by_cases h1 : c < 1
  · simp (maxSteps := 4000000) (disch := omega) only [rr, aop, cV, cV1, AV.one, Qb, okW, Qd, app, Qa, Qc, Qe, Qf, Qg, simprocAttr, QR, shA, Zf, or_true, true_or]
  by_cases h2 : 6 < c
  · simp (maxSteps := 4000000) (disch := omega) only [rr, aop, cV, cV1, AV.one, Qb, okW, Qd, app, Qa, Qc, Qe, Qf, Qg, simprocAttr, QR, shA, Zf, or_true]
  simp (maxSteps := 4000000) (disch := omega) only [rr, aop, cV, cV1, AV.one, Qb, okW, Qd, app, Qa, Qc, Qe, Qf, Qg, simprocAttr, QR, shA]
  refine Qh.vc (hH x) ?_
  by_cases h0 : Jj x = 0
  · simp (maxSteps := 4000000) (disch := omega) only [rr, aop, cV, cV1, AV.one, Qb, okW, Qd, app, Qa, Qc, Qe, Qf, Qg, simprocAttr, h0, Zf, true_or]
  · simp (maxSteps := 4000000) (disch := omega) only [rr, aop, cV, cV1, AV.one, Qb, okW, Qd, app, Qa, Qc, Qe, Qf, Qg, simprocAttr, h0, Zf, or_self]
end Go.Am

namespace Go.Am
open Go.RowKit

structure Enc where
  ch : Int
  bits : Int
  rate : Int
  pw : List UInt8
  rest : List UInt8
  smp : List Int
  frs : List (List UInt8)
  out : List UInt8
  done : Bool
  err : Int

def bss (l : List (List UInt8)) : AV := .list l.length (l.map bs)
def Qwa (e : Enc) : List AV := [.int .i64 e.ch, .int .i64 e.bits, .int .i64 e.rate, .str e.pw, bs e.rest, il e.smp, bss e.frs, bs e.out, .bool e.done, .int .i64 e.err]
theorem Qg6 : ∀ l : List (List UInt8), Qs (l.map bs) = true
  | [] => rfl
  | x :: l => by simp [Qs, X3, Qg6 l]
theorem QeZ (l : List (List UInt8)) : isD (bss l) = true := by simp [bss, isD, Qg6]
end Go.Am

namespace Go.Am
open Go.RowKit

/-! ### slices.IndexFunc, slices.ContainsFunc at elements of one cell -/

theorem QcV : ∀ l : List (List UInt8), X2 (l.map bs) = true
  | [] => rfl
  | x :: l => by
    have : isT (bs x) = true := by simp [bs, isT]; induction x with | nil => rfl | cons y x ih => simp [QjZ, X2, isT, ih]
    simp [X2, this, QcV l]

/-! ### feeding -/

end Go.Am

namespace Go.Am
open Go.RowKit

theorem QaH {α : Type} (f : α → AV) : ∀ l : List α, (l.map fun x => [f x]).flatten = l.map f
  | [] => rfl
  | x :: l => by simp [QaH f l]

theorem Qg7 {L : List (List AV)} (h : ∀ c ∈ L, Qaq (.int .u8) c) : ∃ l : List UInt8, L.length = l.length ∧ AV.list L.length L.flatten = bs l := by
  obtain ⟨l, rfl, _⟩ := QbG (f := fun b : UInt8 => [AV.int .u8 b.toNat]) (q := fun _ => True) h (fun c hc => by
    simp only [Qaq] at hc
    obtain ⟨n, rfl, h1, h2⟩ := hc
    simp only [IntKind.min, IntKind.max, IntKind.signed, IntKind.bits] at h1 h2
    refine ⟨UInt8.ofNat n.toNat, ?_, trivial⟩
    simp at h1 h2
    simp; omega)
  exact ⟨l, by simp, by simp [bs, u8, QaH]⟩

theorem Qp2 {K : IntKind} {L : List (List AV)} (h : ∀ c ∈ L, Qaq (.int K) c) : ∃ l : List Int, L.length = l.length ∧ AV.list L.length L.flatten = .list l.length (ks K l) ∧ ∀ x ∈ l, K.min ≤ x ∧ x ≤ K.max := by
  obtain ⟨l, rfl, h2⟩ := QbG (f := fun n : Int => [AV.int K n]) (q := fun x => K.min ≤ x ∧ x ≤ K.max) h (fun c hc => by
    simp only [Qaq] at hc
    obtain ⟨n, rfl, h1, h2⟩ := hc
    exact ⟨n, rfl, h1, h2⟩)
  exact ⟨l, by simp, by simp [ks, QaH], h2⟩

def QuX (P : Program) (t : TypeId) : Bool := match P.underlying t with | some (.struct _) => true | _ => false
def QuY (P : Program) (t : TypeId) : Bool := match P.underlying t with | some (.array _ _) => true | _ => false
def Qv8 (P : Program) (t : TypeId) : Bool := match P.underlying t with | some (.slice _) => true | _ => false
theorem Qr6 {P : Program} {t : TypeId} (h : QuX P t = true) : ∃ fs, P.underlying t = some (.struct fs) := by
  unfold QuX at h; split at h
  · exact ⟨_, by assumption⟩
  · cases h
theorem QvB {P : Program} {t : TypeId} (h : QuY P t = true) : ∃ n e, P.underlying t = some (.array n e) := by
  unfold QuY at h; split at h
  · exact ⟨_, _, by assumption⟩
  · cases h
theorem QtP {P : Program} {t : TypeId} (h : Qv8 P t = true) : ∃ e, P.underlying t = some (.slice e) := by
  unfold Qv8 at h; split at h
  · exact ⟨_, by assumption⟩
  · cases h

end Go.Am

namespace Go.Am
open Go.RowKit

theorem QiS {L : List (List AV)} (h : ∀ c ∈ L, Qaq (.int .i32) c) : ∃ l : List Int, L.length = l.length ∧ AV.list L.length L.flatten = il l ∧ I32 l := by
  obtain ⟨l, h1, h2, h3⟩ := Qp2 h
  exact ⟨l, h1, h2, fun x hx => by have := h3 x hx; simpa [IntKind.min, IntKind.max, IntKind.signed, IntKind.bits] using this⟩

theorem Qms {L : List (List AV)} (h : ∀ c ∈ L, Qaq (.slice (.int .u8)) c) : ∃ l : List (List UInt8), L.length = l.length ∧ AV.list L.length L.flatten = bss l ∧ ∀ x ∈ l, x.length ≤ maxLen := by
  obtain ⟨l, rfl, h2⟩ := QbG (f := fun b : List UInt8 => [bs b]) (q := fun x => x.length ≤ maxLen) h (fun c hc => by
    simp only [Qaq] at hc
    obtain ⟨L', rfl, h1, h2⟩ := hc
    obtain ⟨l, h3, h4⟩ := Qg7 h2
    exact ⟨l, by rw [h4], by omega⟩)
  exact ⟨l, by simp, by simp [bss, QaH], h2⟩

def QvN : Sh := .tuple [.int .i64, .int .i64]
def Qu6 : Sh := .tuple [QvN, .int .i64, .str, .slice (.int .u8), .slice (.int .i32), .slice (.slice (.int .u8)), .slice (.int .u8), .bool, .int .i64]

theorem Qny {cs0 : List AV} (h : Qaq QvN cs0) : ∃ c b : Int, cs0 = [.int .i64 c, .int .i64 b] := by
  simp only [QvN, Qaq, Qda] at h
  obtain ⟨_, _, rfl, ⟨c, rfl, _⟩, _, _, rfl, ⟨b, rfl, _⟩, rfl⟩ := h
  exact ⟨c, b, rfl⟩

theorem QvE {cs0 : List AV} (h : Qaq Qu6 cs0) : ∃ e : Enc, cs0 = Qwa e ∧ I32 e.smp := by
  simp only [Qu6, Qaq, Qda] at h
  obtain ⟨_, _, rfl, h1, _, _, rfl, ⟨r, rfl, _⟩, _, _, rfl, ⟨p, rfl, _⟩, _, _, rfl, ⟨L1, rfl, _, h2⟩, _, _, rfl, ⟨L2, rfl, _, h3⟩, _, _, rfl, ⟨L3, rfl, _, h4⟩, _, _, rfl, ⟨L4, rfl, _, h5⟩, _, _, rfl, ⟨d, rfl⟩, _, _, rfl, ⟨x, rfl, _⟩, rfl⟩ := h
  obtain ⟨c, b, rfl⟩ := Qny h1
  obtain ⟨l1, _, e1⟩ := Qg7 (L := L1) (fun c hc => by simp only [Qaq]; exact h2 c hc)
  obtain ⟨l2, _, e2, hi⟩ := QiS (L := L2) (fun c hc => by simp only [Qaq]; exact h3 c hc)
  obtain ⟨l3, _, e3, _⟩ := Qms (L := L3) (fun c hc => by simp only [Qaq]; exact h4 c hc)
  obtain ⟨l4, _, e4⟩ := Qg7 (L := L4) (fun c hc => by simp only [Qaq]; exact h5 c hc)
  exact ⟨⟨c, b, r, p, l1, l2, l3, l4, d, x⟩, by simp [Qwa, e1, e2, e3, e4], hi⟩
end Go.Am

namespace Go.Am
open Go.RowKit

def w32 (x : Int) : Int := IntKind.i32.wrap x
theorem Qf7 (x : Int) : w32 x = (x + 2147483648) % 4294967296 - 2147483648 := by
  simp [w32, IntKind.wrap, IntKind.bits, IntKind.signed]; split <;> omega
theorem Qta (a b : Int) : w32 (w32 a + w32 b) = w32 (a + b) := by simp only [Qf7]; omega
theorem Qef (a b : Int) : w32 (w32 a - b) = w32 (a - b) := by simp only [Qf7]; omega
theorem QlG (a b : Int) : w32 (a - w32 b) = w32 (a - b) := by simp only [Qf7]; omega
theorem Qs9 (a : Int) : w32 (w32 a) = w32 a := by simp only [Qf7]; omega
theorem Qf6 {a : Int} (h1 : -2147483648 ≤ a) (h2 : a ≤ 2147483647) : w32 a = a := QlF h1 h2
theorem XD (a : Int) : -2147483648 ≤ w32 a ∧ w32 a ≤ 2147483647 := by simp only [Qf7]; omega
theorem Xd (x : Int) : IntKind.i32.wrap x = w32 x := rfl

theorem Zc {l : List Int} (h : I32 l) (k : Nat) : -2147483648 ≤ l.getD k 0 ∧ l.getD k 0 ≤ 2147483647 := by
  rw [List.getD_eq_getElem?_getD]
  cases hk : l[k]? with
  | none => simp
  | some v => exact h v (List.mem_of_getElem? hk)

theorem QsP {K : IntKind} {l : List Int} {k : Nat} (h : k < l.length) : (ks K l)[k]? = some (.int K (l.getD k 0)) := by
  simp [ks, List.getD_eq_getElem?_getD, List.getElem?_eq_getElem h]

structure XT where
  sh : Int
  tp : List Int
  ps : List Int

def Ql (f : XT) : List AV := .int .i64 f.sh :: (ks .i32 f.tp ++ ks .i32 f.ps)
def Qbb (f : XT) : Prop := f.tp.length = 16 ∧ f.ps.length = 16 ∧ I32 f.tp ∧ I32 f.ps

theorem QU {f : XT} (h : Qbb f) : (Ql f).length = 33 := by
  obtain ⟨h1, h2, _⟩ := h
  simp [Ql, Qk, h1, h2]
theorem QZ (f : XT) : (Ql f).all AV.one = true := by
  simp only [Ql, List.all_cons, List.all_append, XZ]; rfl
theorem Zb (f : XT) : Qs (Ql f) = true := by
  have : ∀ a b, Qs (ks .i32 a ++ ks .i32 b) = true := fun a b => by rw [QeX]; exact QY _ _
  simp [Ql, Qs, isD, this]
theorem QiT {f : XT} (h : Qbb f) : ((Ql f).drop 1).take 16 = ks .i32 f.tp := by
  obtain ⟨h1, h2, _⟩ := h
  simp only [Ql, List.drop_succ_cons, List.drop_zero]
  rw [List.take_left' (by simp [Qk, h1])]
theorem Qgo {f : XT} (h : Qbb f) : ((Ql f).drop 17).take 16 = ks .i32 f.ps := by
  obtain ⟨h1, h2, _⟩ := h
  simp only [Ql, List.drop_succ_cons]
  rw [List.drop_left' (by simp [Qk, h1]), List.take_of_length_le (by simp [Qk, h2])]
theorem Qsi {f : XT} (h : Qbb f) {k : Nat} (hk : k < 16) : (Ql f).drop (1 + k) = .int .i32 (f.tp.getD k 0) :: ((ks .i32 f.tp).drop (k + 1) ++ ks .i32 f.ps) := by
  obtain ⟨h1, h2, _⟩ := h
  rw [Nat.add_comm]
  simp only [Ql, List.drop_succ_cons]
  rw [List.drop_append_of_le_length (by simp [Qk, h1]; omega), QaI (by omega), ← QaG]
  simp [List.getD_eq_getElem?_getD, List.getElem?_eq_getElem (show k < f.tp.length by omega)]
theorem Qp6 {f : XT} (h : Qbb f) {k : Nat} (hk : k < 16) : (Ql f).drop (17 + k) = .int .i32 (f.ps.getD k 0) :: (ks .i32 f.ps).drop (k + 1) := by
  obtain ⟨h1, h2, _⟩ := h
  rw [show 17 + k = (16 + k) + 1 by omega]
  simp only [Ql, List.drop_succ_cons]
  rw [← List.drop_drop, List.drop_left' (by simp [Qk, h1]), QaI (by omega), ← QaG]
  simp [List.getD_eq_getElem?_getD, List.getElem?_eq_getElem (show k < f.ps.length by omega)]
theorem QkD {f : XT} (h : Qbb f) {k : Nat} (hk : k < 16) (v : Int) : (Ql f).take (1 + k) ++ [.int .i32 v] ++ (Ql f).drop (1 + k + 1) = Ql { f with tp := f.tp.set k v } := by
  obtain ⟨h1, h2, _⟩ := h
  rw [Nat.add_comm 1 k]
  simp only [Ql, List.take_succ_cons, List.drop_succ_cons, List.cons_append]
  congr 1
  rw [List.take_append_of_le_length (by simp [Qk, h1]; omega), List.drop_append_of_le_length (by simp [Qk, h1]; omega), ← List.append_assoc]
  congr 1
  rw [List.set_eq_take_append_cons_drop, if_pos (by omega)]
  simp [ks]
theorem QiU {f : XT} (h : Qbb f) {k : Nat} (hk : k < 16) (v : Int) : (Ql f).take (17 + k) ++ [.int .i32 v] ++ (Ql f).drop (17 + k + 1) = Ql { f with ps := f.ps.set k v } := by
  obtain ⟨h1, h2, _⟩ := h
  rw [show 17 + k = (16 + k) + 1 by omega]
  simp only [Ql, List.take_succ_cons, List.drop_succ_cons, List.cons_append]
  congr 1
  have e : (ks .i32 f.tp).length = 16 := by simp [Qk, h1]
  rw [List.take_append, List.take_of_length_le (by omega), e, show 16 + k + 1 = 16 + (k + 1) by omega, ← List.drop_drop, List.drop_left' e, show 16 + k - 16 = k by omega, List.append_assoc, List.append_assoc]
  congr 1
  rw [List.set_eq_take_append_cons_drop, if_pos (by omega)]
  simp [ks]

theorem Qu {α : Type} {l : List α} {n : Nat} (h : l.length ≤ n) : l.take n = l := List.take_of_length_le h

/-! ### taps.New, taps.Check -/

def Qaz (b : Int) : Int := if b = 16 then 9 else 10
def z16 : List Int := List.replicate 16 0
def QgZ (b : Int) (t : List Int) : XT := ⟨Qaz b, t, z16⟩
def QhZ : XT := ⟨0, z16, z16⟩
def Qfz (b : Int) (t : List Int) : AV := if Jj b = 0 then .tup [.agg (Ql QhZ), .int .i64 2] else .tup [.agg (Ql (QgZ b t)), .int .i64 0]
def QmM (P : Prg) (f : Nat) : Prop := ∀ (b : Int) (t : List Int), t.length = 16 → VC P f [.int .i64 b, .agg (ks .i32 t)] (Qfz b t)

theorem Qr7 (b : Int) (t : List Int) : isD (Qfz b t) = true := by
  unfold Qfz; split <;> simp [isD, Qs, Zb]
theorem Qas : Ql QhZ = [.int .i64 0, .int .i32 0, .int .i32 0, .int .i32 0, .int .i32 0, .int .i32 0, .int .i32 0, .int .i32 0, .int .i32 0, .int .i32 0, .int .i32 0, .int .i32 0, .int .i32 0, .int .i32 0, .int .i32 0, .int .i32 0, .int .i32 0, .int .i32 0, .int .i32 0, .int .i32 0, .int .i32 0, .int .i32 0, .int .i32 0, .int .i32 0, .int .i32 0, .int .i32 0, .int .i32 0, .int .i32 0, .int .i32 0, .int .i32 0, .int .i32 0, .int .i32 0, .int .i32 0] := rfl

theorem Qrl {P : Prg} {f t0 t1 : Nat} (b : Qj P f 18 [.cell 4 t1, .tmp 5] (XI t0 t1)) (ht : ZG P t1 = some (some 33)) : QmM P f := by
  intro x t hl
  have hk : (ks .i32 t).length = 16 := by simp [Qk, hl]
  have h1 := XZ .i32 t
  have tk16 : (ks .i32 t).take 16 = ks .i32 t := Qu (by omega)
  refine VC.of_acall (by simp [Qs, isD, QY]) (Qr7 _ _) (ACall.of_body b (by simp) ?_)
  have fin : ∀ s : Int, .int .i64 s :: (ks .i32 t ++ [.int .i32 0, .int .i32 0, .int .i32 0, .int .i32 0, .int .i32 0, .int .i32 0, .int .i32 0, .int .i32 0, .int .i32 0, .int .i32 0, .int .i32 0, .int .i32 0, .int .i32 0, .int .i32 0, .int .i32 0, .int .i32 0]) = Ql ⟨s, t, z16⟩ := fun _ => rfl
  have hl33 : ∀ s : Int, (Ql ⟨s, t, z16⟩).length = 33 := fun s => by simp [Ql, Qk, hl, z16]
  have ho := fun s => QZ ⟨s, t, z16⟩
  have tk : ∀ s : Int, (Ql ⟨s, t, z16⟩).take 33 = Ql ⟨s, t, z16⟩ := fun s => Qu (by rw [hl33]; omega)
  have st9 : ([] : List AV) ++ [.int .i64 9] ++ (Ql ⟨10, t, z16⟩).drop 1 = Ql ⟨9, t, z16⟩ := rfl
  have d9 : AV.int .i64 9 :: (Ql ⟨10, t, z16⟩).drop 1 = Ql ⟨9, t, z16⟩ := rfl
  rcases XG x with ⟨rfl, h⟩ | ⟨rfl, h⟩ | ⟨rfl, h⟩ | ⟨h2, h3, h4, h⟩
  · simp (maxSteps := 4000000) (disch := omega) only [rr, aop, cV, cV1, AV.one, Qb, okW, Qd, app, Qa, Qc, Qe, Qf, Qg, simprocAttr, XI, Qfz, h, hk, h1, tk16, fin, hl33, ho, tk, ZU, ht, QgZ, Qaz]
  · simp (maxSteps := 4000000) (disch := omega) only [rr, aop, cV, cV1, AV.one, Qb, okW, Qd, app, Qa, Qc, Qe, Qf, Qg, simprocAttr, XI, Qfz, h, hk, h1, tk16, fin, hl33, ho, tk, ZU, ht, QgZ, Qaz, d9]
  · simp (maxSteps := 4000000) (disch := omega) only [rr, aop, cV, cV1, AV.one, Qb, okW, Qd, app, Qa, Qc, Qe, Qf, Qg, simprocAttr, XI, Qfz, h, hk, h1, tk16, fin, hl33, ho, tk, ZU, ht, QgZ, Qaz]
  · simp (maxSteps := 4000000) (disch := omega) only [rr, aop, cV, cV1, AV.one, Qb, okW, Qd, app, Qa, Qc, Qe, Qf, Qg, simprocAttr, XI, Qfz, h, hk, h1, tk16, fin, hl33, ho, tk, ZU, ht, Qas]

def Qq8 (s : Int) : Int := if s = 9 ∨ s = 10 then 0 else 8
def Qc6 (P : Prg) (f : Nat) : Prop := ∀ x : XT, Qbb x → VC P f [.agg (Ql x)] (.int .i64 (Qq8 x.sh))

theorem QvJ : Qq8 9 = 0 := rfl
theorem QuC : Qq8 10 = 0 := rfl

/-! ### taps.Guess -/

def QsZ (a b : List Int) : Nat → Int
  | 0 => 0
  | k + 1 => QsZ a b k + a.getD k 0 * b.getD k 0
def QcM (s : Int) : Int := if s = 9 then 512 else 1024
def QiO (f : XT) : Int := w32 (QcM f.sh / 2 + QsZ f.tp f.ps 16) / QcM f.sh
def Qes (P : Prg) (f : Nat) : Prop := ∀ x : XT, Qbb x → x.sh = 9 ∨ x.sh = 10 → VC P f [.agg (Ql x)] (.tup [.int .i32 (QiO x), .int .i64 0])

theorem Qtq : Qm true .i32 1 8 = some (.int .i32 256) := rfl
theorem Qtp : Qm true .i32 1 9 = some (.int .i32 512) := rfl
theorem Qtl (s : Int) : Qm false .i32 s 9 = some (.int .i32 (s / 512)) := by
  show some (AV.int .i32 (s.fdiv 512)) = _
  rw [Int.fdiv_eq_ediv_of_nonneg _ (by omega)]
theorem QrA (s : Int) : Qm false .i32 s 10 = some (.int .i32 (s / 1024)) := by
  show some (AV.int .i32 (s.fdiv 1024)) = _
  rw [Int.fdiv_eq_ediv_of_nonneg _ (by omega)]

theorem Qm8 {P : Prg} {f fC t0 : Nat} (b : Qj P f 36 [.tmp 2, .tmp 3] (QaS fC t0)) (hC : Qc6 P fC) : Qes P f := by
  intro x hx hs
  have l33 := QU hx
  have tk : (Ql x).take 33 = Ql x := Qu (by omega)
  have ho := QZ x
  have e1 := QiT hx
  have e0 : (Ql x).drop 0 = .int .i64 x.sh :: (ks .i32 x.tp ++ ks .i32 x.ps) := rfl
  have ht : Qq8 x.sh = 0 := by simp [Qq8, hs]
  have hl := hx.1
  refine VC.of_acall (by simp [Qs, isD, Zb]) rfl (ACall.of_body b (by simp) ?_)
  simp (maxSteps := 4000000) (disch := omega) only [rr, aop, cV, cV1, AV.one, Qb, okW, Qd, app, Qa, Qc, Qe, Qf, Qg, simprocAttr, QaS, l33, tk, ho]
  refine Qh.vc (hC x hx) ?_
  rcases hs with h | h
  all_goals
    have z0 : w32 (QcM x.sh / 2 + QsZ x.tp x.ps 0) = QcM x.sh / 2 := by simp only [QsZ, Int.add_zero]; exact Qf6 (by simp [QcM, h]) (by simp [QcM, h])
    have z1 : QcM x.sh = 512 ∧ x.sh = 9 ∨ QcM x.sh = 1024 ∧ x.sh = 10 := by simp [QcM, h]
    simp (maxSteps := 4000000) (disch := omega) only [rr, aop, cV, cV1, AV.one, Qb, okW, Qd, app, Qa, Qc, Qe, Qf, Qg, simprocAttr, l33, tk, ho, QvJ, QuC, e1, ↓e0, h, Qtq, Qtp]
    refine QW.by (ι := Nat) (fun k => ⟨[(19, .int .i64 k), (18, .agg (ks .i32 x.tp)), (5, .int .i32 (w32 (QcM x.sh / 2 + QsZ x.tp x.ps k))), (1, .ref 0 1 0)], [⟨t0, 33, 1, Ql x, 0⟩]⟩) (fun k => k ≤ 16) (fun k => 16 - k) 0 (Le.slots (by rw [z0]; simp [Am.look, h, QcM])) (by omega) ?_
    intro k hk
    by_cases hlt : k < 16
    · have e2 := Qp6 hx hlt
      have e3 := QsP (K := .i32) (l := x.tp) (k := k) (by omega)
      have e4 : w32 (w32 (QcM x.sh / 2 + QsZ x.tp x.ps k) + w32 (x.tp.getD k 0 * x.ps.getD k 0)) = w32 (QcM x.sh / 2 + QsZ x.tp x.ps (k + 1)) := by
        rw [Qta]; simp only [QsZ]; congr 1; omega
      simp (maxSteps := 4000000) (disch := omega) only [rr, aop, cV, cV1, AV.one, Qb, okW, Qd, app, Qa, Qc, Qe, Qf, Qg, simprocAttr, l33, e2, e3, Xd, e4]
      exact ⟨k + 1, by omega, by omega, Le.slots (by simp [Am.look])⟩
    · have e : k = 16 := by omega
      subst e
      simp (maxSteps := 4000000) (disch := omega) only [rr, aop, cV, cV1, AV.one, Qb, okW, Qd, app, Qa, Qc, Qe, Qf, Qg, simprocAttr, ↓e0, h, Qtl, QrA, QiO, QcM]
/-! ### taps.Learn, taps.Push -/

theorem Qm9 {P : Prg} {f t0 : Nat} (b : Qj P f 11 [.tmp 2] (Xs t0)) : Qc6 P f := by
  intro x hx
  have l33 := QU hx
  have ho := QZ x
  have e0 : (Ql x).drop 0 = .int .i64 x.sh :: (ks .i32 x.tp ++ ks .i32 x.ps) := rfl
  refine VC.of_acall (by simp [Qs, isD, Zb]) rfl (ACall.of_body b (by simp) ?_)
  by_cases h9 : x.sh = 9
  · simp (maxSteps := 4000000) (disch := omega) only [rr, aop, cV, cV1, AV.one, Qb, okW, Qd, app, Qa, Qc, Qe, Qf, Qg, simprocAttr, Xs, l33, ho, ↓e0, h9, Qq8]
  by_cases h10 : x.sh = 10
  · simp (maxSteps := 4000000) (disch := omega) only [rr, aop, cV, cV1, AV.one, Qb, okW, Qd, app, Qa, Qc, Qe, Qf, Qg, simprocAttr, Xs, l33, ho, ↓e0, h10, Qq8]
  · simp (maxSteps := 4000000) (disch := omega) only [rr, aop, cV, cV1, AV.one, Qb, okW, Qd, app, Qa, Qc, Qe, Qf, Qg, simprocAttr, Xs, l33, ho, ↓e0, Qq8]

def Qj2 (i : Nat) : Int := if i = 0 then 4 else if i < 4 then 2 else 1
def Qlp (P : Prg) (f : Nat) : Prop := ∀ i : Nat, VC P f [.int .i64 i] (.int .i32 (Qj2 i))
theorem QoD {P : Prg} {f : Nat} (b : Qj P f 9 [.tmp 2] X4) : Qlp P f := by
  intro i
  refine VC.of_acall rfl rfl (ACall.of_body b (by simp) ?_)
  by_cases h0 : i = 0
  · subst h0; simp (maxSteps := 4000000) (disch := omega) only [rr, aop, cV, cV1, AV.one, Qb, okW, Qd, app, Qa, Qc, Qe, Qf, Qg, simprocAttr, X4, Qj2, Int.natCast_zero]
  by_cases h1 : i < 4
  · simp (maxSteps := 4000000) (disch := omega) only [rr, aop, cV, cV1, AV.one, Qb, okW, Qd, app, Qa, Qc, Qe, Qf, Qg, simprocAttr, X4, Qj2, h0]
  · simp (maxSteps := 4000000) (disch := omega) only [rr, aop, cV, cV1, AV.one, Qb, okW, Qd, app, Qa, Qc, Qe, Qf, Qg, simprocAttr, X4, Qj2, h0]

end Go.Am

namespace Go.Am
open Go.RowKit

def sgn (x : Int) : Int := if x < 0 then -1 else if 0 < x then 1 else 0
def Qrg (x : XT) (w : Int) (k : Nat) : Int := w32 (x.tp.getD k 0 + Qj2 k * sgn (x.ps.getD k 0) * sgn w)
def XB (x : XT) (w : Int) (k : Nat) : List Int := (List.range 16).map fun i => if i < k then Qrg x w i else x.tp.getD i 0
def lf (x : XT) (w : Int) (k : Nat) : XT := { x with tp := XB x w k }
def JR (x : XT) (w : Int) : XT := lf x w 16

theorem Qno {l : List Int} (h : l.length = 16) : (List.range 16).map (fun i => l.getD i 0) = l := by
  apply List.ext_getElem (by simp [h])
  intro i h1 h2
  simp [List.getD_eq_getElem?_getD, List.getElem?_eq_getElem h2]
theorem QpG (x : XT) (w : Int) (k : Nat) : (XB x w k).length = 16 := by simp [XB]
theorem Qgh {x : XT} (h : Qbb x) (w : Int) : XB x w 0 = x.tp := by
  have := Qno h.1
  simpa [XB] using this
theorem Qnt (x : XT) (w : Int) {k : Nat} (hk : k < 16) : (XB x w k).getD k 0 = x.tp.getD k 0 := by
  simp [XB, List.getD_eq_getElem?_getD, hk]
theorem QpF (x : XT) (w : Int) {k : Nat} (hk : k < 16) : (XB x w k).set k (Qrg x w k) = XB x w (k + 1) := by
  apply List.ext_getElem (by simp [XB])
  intro i h1 h2
  rw [List.getElem_set]
  simp only [XB, List.getElem_map, List.getElem_range]
  by_cases e : k = i
  · subst e; simp
  · rw [if_neg e]
    by_cases h : i < k
    · rw [if_pos h, if_pos (by omega)]
    · rw [if_neg h, if_neg (by omega)]
theorem Qgi (x : XT) (w : Int) {k : Nat} (h : Qrg x w k = x.tp.getD k 0) : XB x w (k + 1) = XB x w k := by
  simp only [XB]
  apply List.map_congr_left
  intro i _
  by_cases e : i = k
  · subst e; simp [h]
  · by_cases h : i < k
    · rw [if_pos h, if_pos (by omega)]
    · rw [if_neg h, if_neg (by omega)]
theorem Qq5 {x : XT} (h : Qbb x) (w : Int) (k : Nat) : I32 (XB x w k) := by
  intro v hv
  simp only [XB, List.mem_map] at hv
  obtain ⟨i, _, rfl⟩ := hv
  split
  · exact XD _
  · exact Zc h.2.2.1 i
theorem QiD {x : XT} (h : Qbb x) (w : Int) (k : Nat) : Qbb (lf x w k) := ⟨QpG x w k, h.2.1, Qq5 h w k, h.2.2.2⟩
theorem Qen {x : XT} (h : Qbb x) (w : Int) : Qbb (JR x w) := QiD h w 16
theorem QrZ {x : XT} (h : Qbb x) : JR x 0 = x := by
  have key : ∀ k, XB x 0 k = x.tp := fun k => by
    induction k with
    | zero => exact Qgh h 0
    | succ k ih =>
      rw [Qgi x 0, ih]
      have := Zc h.2.2.1 k
      simp only [Qrg, sgn]
      simp
      exact Qf6 (by simpa using this.1) (by simpa using this.2)
  simp [JR, lf, key]

def QhJ (P : Prg) (f : Nat) : Prop := ∀ (x : XT) (w : Int), Qbb x → x.sh = 9 ∨ x.sh = 10 → VC P f [.agg (Ql x), .int .i32 w] (.tup [.agg (Ql (JR x w)), .int .i64 0])

theorem QoC {s : Int} (h : s = 9 ∨ s = 10) : Qq8 s = 0 := by simp [Qq8, h]

theorem Qm7 {P : Prg} {f fC fS t0 : Nat} (b : Qj P f 53 [.cell 4 t0, .tmp 5] (QaR fC fS t0)) (ht : ZG P t0 = some (some 33)) (hC : Qc6 P fC) (hS : Qlp P fS) : QhJ P f := by
  intro x w hx hs
  have l33 := QU hx
  have tk : (Ql x).take 33 = Ql x := Qu (by omega)
  have ho := QZ x
  have hc := QoC hs
  have pp := Qgo hx
  have lw := QU (Qen hx w)
  have tkw : (Ql (JR x w)).take 33 = Ql (JR x w) := Qu (by omega)
  have how := QZ (JR x w)
  refine VC.of_acall (by simp [Qs, isD, Zb]) (by simp [isD, Qs, Zb]) (ACall.of_body b (by simp) ?_)
  simp (maxSteps := 4000000) (disch := omega) only [rr, aop, cV, cV1, AV.one, Qb, okW, Qd, app, Qa, Qc, Qe, Qf, Qg, simprocAttr, QaR, l33, tk, ho]
  refine Qh.vc (hC x hx) ?_
  by_cases hw : w = 0
  · subst hw
    have e := QrZ hx
    simp (maxSteps := 4000000) (disch := omega) only [rr, aop, cV, cV1, AV.one, Qb, okW, Qd, app, Qa, Qc, Qe, Qf, Qg, simprocAttr, l33, tk, ho, hc, ZU, ht, e]
  simp (maxSteps := 4000000) (disch := omega) only [rr, aop, cV, cV1, AV.one, Qb, okW, Qd, app, Qa, Qc, Qe, Qf, Qg, simprocAttr, l33, tk, ho, hc, pp]
  refine QW.by (ι := Nat) (fun k => ⟨[(20, .int .i64 k), (19, .agg (ks .i32 x.ps)), (4, .ref 1 1 0), (2, .ref 0 1 0), (1, .int .i32 w), (5, .int .i64 0)], [⟨t0, 33, 1, Ql (lf x w k), 0⟩, ⟨t0, 33, 1, Ql QhZ, 0⟩]⟩) (fun k => k ≤ 16) (fun k => 16 - k) 0 (by rw [show lf x w 0 = x by simp [lf, Qgh hx]]; exact Le.slots (by simp [Am.look])) (by omega) ?_
  intro k hk
  by_cases hlt : k < 16
  · have hok := QiD hx w k
    have e1 := QsP (K := .i32) (l := x.ps) (k := k) (by have := hx.2.1; omega)
    have e2 := Qsi hok hlt
    have e3 := fun v => QkD hok hlt v
    have e4 := Qnt x w hlt
    have e5 := QU hok
    have hu := QpF x w hlt
    have hp := Zc hx.2.2.2 k
    have htp := Zc hx.2.2.1 k
    have ef : ∀ v, ({ lf x w k with tp := (lf x w k).tp.set k v } : XT) = { x with tp := (XB x w k).set k v } := fun _ => rfl
    have e7 : (lf x w k).tp.getD k 0 = x.tp.getD k 0 := e4
    by_cases p0 : x.ps.getD k 0 = 0
    · have e6 := Qgi x w (k := k) (by simp only [Qrg, p0, sgn]; simp; exact Qf6 (by simpa using htp.1) (by simpa using htp.2))
      simp (maxSteps := 4000000) (disch := omega) only [rr, aop, cV, cV1, AV.one, Qb, okW, Qd, app, Qa, Qc, Qe, Qf, Qg, simprocAttr, e1, p0]
      exact ⟨k + 1, by omega, by omega, by rw [show lf x w (k + 1) = lf x w k by simp [lf, e6]]; exact Le.slots (by simp [Am.look])⟩
    · by_cases hsame : (x.ps.getD k 0 < 0 ↔ w < 0)
      · have e6 : Qrg x w k = w32 (x.tp.getD k 0 + Qj2 k) := by
          simp only [Qrg, sgn]; congr 1
          by_cases q : w < 0
          · rw [if_pos q, if_pos (hsame.2 q)]; omega
          · rw [if_neg q, if_neg (fun h => q (hsame.1 h)), if_pos (by omega), if_pos (by omega)]; omega
        rw [e6] at hu
        by_cases q : w < 0
        · have q2 := hsame.2 q
          simp (maxSteps := 4000000) (disch := omega) only [rr, aop, cV, cV1, AV.one, Qb, okW, Qd, app, Qa, Qc, Qe, Qf, Qg, simprocAttr, e1, e2, e7]
          refine Ze.vc (hS k) ?_
          simp (maxSteps := 4000000) (disch := omega) only [rr, aop, cV, cV1, AV.one, Qb, okW, Qd, app, Qa, Qc, Qe, Qf, Qg, simprocAttr, e3, e5, Xd, ef, hu]
          exact ⟨k + 1, by omega, by omega, Le.slots (by simp [Am.look])⟩
        · have q2 : ¬ x.ps.getD k 0 < 0 := fun h => q (hsame.1 h)
          simp (maxSteps := 4000000) (disch := omega) only [rr, aop, cV, cV1, AV.one, Qb, okW, Qd, app, Qa, Qc, Qe, Qf, Qg, simprocAttr, e1, e2, e7]
          refine Ze.vc (hS k) ?_
          simp (maxSteps := 4000000) (disch := omega) only [rr, aop, cV, cV1, AV.one, Qb, okW, Qd, app, Qa, Qc, Qe, Qf, Qg, simprocAttr, e3, e5, Xd, ef, hu]
          exact ⟨k + 1, by omega, by omega, Le.slots (by simp [Am.look])⟩
      · have e6 : Qrg x w k = w32 (x.tp.getD k 0 - Qj2 k) := by
          simp only [Qrg, sgn]; congr 1
          by_cases q : w < 0
          · rw [if_pos q, if_neg (fun h => hsame ⟨fun _ => q, fun _ => h⟩), if_pos (by omega)]; omega
          · rw [if_neg q, if_pos (Classical.byContradiction fun h => hsame ⟨fun h' => absurd h' h, fun h' => absurd h' q⟩), if_pos (by omega)]; omega
        rw [e6] at hu
        by_cases q : w < 0
        · have q2 : ¬ x.ps.getD k 0 < 0 := fun h => hsame ⟨fun _ => q, fun _ => h⟩
          simp (maxSteps := 4000000) (disch := omega) only [rr, aop, cV, cV1, AV.one, Qb, okW, Qd, app, Qa, Qc, Qe, Qf, Qg, simprocAttr, e1, e2, e7]
          refine Ze.vc (hS k) ?_
          simp (maxSteps := 4000000) (disch := omega) only [rr, aop, cV, cV1, AV.one, Qb, okW, Qd, app, Qa, Qc, Qe, Qf, Qg, simprocAttr, e3, e5, Xd, ef, hu]
          exact ⟨k + 1, by omega, by omega, Le.slots (by simp [Am.look])⟩
        · have q2 : x.ps.getD k 0 < 0 := Classical.byContradiction fun h => hsame ⟨fun h' => absurd h' h, fun h' => absurd h' q⟩
          simp (maxSteps := 4000000) (disch := omega) only [rr, aop, cV, cV1, AV.one, Qb, okW, Qd, app, Qa, Qc, Qe, Qf, Qg, simprocAttr, e1, e2, e7]
          refine Ze.vc (hS k) ?_
          simp (maxSteps := 4000000) (disch := omega) only [rr, aop, cV, cV1, AV.one, Qb, okW, Qd, app, Qa, Qc, Qe, Qf, Qg, simprocAttr, e3, e5, Xd, ef, hu]
          exact ⟨k + 1, by omega, by omega, Le.slots (by simp [Am.look])⟩
  · have e : k = 16 := by omega
    subst e
    have hF : lf x w 16 = JR x w := rfl
    rw [hF]
    simp (maxSteps := 4000000) (disch := omega) only [rr, aop, cV, cV1, AV.one, Qb, okW, Qd, app, Qa, Qc, Qe, Qf, Qg, simprocAttr, lw, tkw, how, ZU, ht, Qas]
/-! ### taps.Push -/

def QfG (x : XT) (v : Int) : XT := { x with ps := v :: x.ps.take 15 }
theorem Qpw {x : XT} (h : Qbb x) {v : Int} (hv : -2147483648 ≤ v ∧ v ≤ 2147483647) : Qbb (QfG x v) := by
  obtain ⟨h1, h2, h3, h4⟩ := h
  refine ⟨h1, by simp [QfG, h2], h3, fun y hy => ?_⟩
  simp only [QfG, List.mem_cons] at hy
  rcases hy with rfl | hy
  · exact hv
  · exact h4 y (List.mem_of_mem_take hy)

def Qlq (P : Prg) (f : Nat) : Prop := ∀ (x : XT) (v : Int), Qbb x → x.sh = 9 ∨ x.sh = 10 → VC P f [.agg (Ql x), .int .i32 v] (.tup [.agg (Ql (QfG x v)), .int .i64 0])

theorem QoE {P : Prg} {f fC t0 : Nat} (b : Qj P f 22 [.cell 4 t0, .tmp 5] (Qbt fC t0)) (ht : ZG P t0 = some (some 33)) (hC : Qc6 P fC) : Qlq P f := by
  intro x v hx hs
  have l33 := QU hx
  have tk : (Ql x).take 33 = Ql x := Qu (by omega)
  have ho := QZ x
  have hc := QoC hs
  have pp := Qgo hx
  have h16 : (ks .i32 x.ps).length = 16 := by simp [Qk, hx.2.1]
  have o16 := XZ .i32 x.ps
  refine VC.of_acall (by simp [Qs, isD, Zb]) (by simp [isD, Qs, Zb]) (ACall.of_body b (by simp) ?_)
  simp (maxSteps := 4000000) (disch := omega) only [rr, aop, cV, cV1, AV.one, Qb, okW, Qd, app, Qa, Qc, Qe, Qf, Qg, simprocAttr, Qbt, l33, tk, ho]
  refine Qh.vc (hC x hx) ?_
  have hm : Nat.min 16 15 = 15 := rfl
  let y : XT := { x with ps := x.ps.getD 0 0 :: x.ps.take 15 }
  have hy : Qbb y := Qpw hx (Zc hx.2.2.2 0)
  have hcp : (Ql x).take 18 ++ (ks .i32 x.ps).take 15 ++ (Ql x).drop 33 = Ql y := by
    have e1 : (Ql x).drop 33 = [] := List.drop_eq_nil_of_le (by omega)
    have e2 : (ks .i32 x.tp).length = 16 := by simp [Qk, hx.1]
    have e3 : (ks .i32 x.ps).take 1 = [.int .i32 (x.ps.getD 0 0)] := by
      have h1 : 0 < x.ps.length := by have := hx.2.1; omega
      match hps : x.ps, h1 with
      | a :: l, _ => rfl
    rw [e1, List.append_nil]
    simp only [Ql, List.take_succ_cons, List.cons_append, y]
    congr 1
    rw [List.take_append, List.take_of_length_le (by omega), e2, e3, List.append_assoc, QtN]
    rfl
  have hset : (Ql y).take 17 ++ [.int .i32 v] ++ (Ql y).drop 18 = Ql (QfG x v) := QiU hy (k := 0) (by omega) v
  have ly := QU hy
  have lp : (Ql (QfG x v)).length = 33 := by rw [← hset]; simp [ly]
  have tkp : (Ql (QfG x v)).take 33 = Ql (QfG x v) := Qu (by omega)
  have op := QZ (QfG x v)
  simp (maxSteps := 4000000) (disch := omega) only [rr, aop, cV, cV1, AV.one, Qb, okW, Qd, app, Qa, Qc, Qe, Qf, Qg, simprocAttr, l33, tk, ho, hc, pp, h16, o16, hm, hcp, hset, ly, lp, tkp, op, ZU, ht, Qas]
end Go.Am

namespace Go.Am
open Go.RowKit

def Xr (x : XT) (v y : Int) : XT := QfG (JR x y) v
theorem Qbn {x : XT} (h : Qbb x) {v : Int} (hv : -2147483648 ≤ v ∧ v ≤ 2147483647) (y : Int) : Qbb (Xr x v y) := Qpw (Qen h y) hv
def Qc9 (P : Prg) (f : Nat) : Prop := ∀ (x : XT) (v y : Int), Qbb x → x.sh = 9 ∨ x.sh = 10 → -2147483648 ≤ v ∧ v ≤ 2147483647 → VC P f [.agg (Ql x), .int .i32 v, .int .i32 y] (.agg (Ql (Xr x v y)))

theorem Qns {P : Prg} {f fL fP t0 : Nat} (b : Qj P f 20 [.cell 6 t0] (QaT fL fP t0)) (ht : ZG P t0 = some (some 33)) (hL : QhJ P fL) (hP : Qlq P fP) : Qc9 P f := by
  intro x v y hx hs hv
  have l1 := QU hx
  have t1 : (Ql x).take 33 = Ql x := Qu (by omega)
  have o1 := QZ x
  have l2 := QU (Qen hx y)
  have t2 : (Ql (JR x y)).take 33 = Ql (JR x y) := Qu (by omega)
  have o2 := QZ (JR x y)
  have l3 := QU (Qbn hx hv y)
  have t3 : (Ql (Xr x v y)).take 33 = Ql (Xr x v y) := Qu (by omega)
  have o3 := QZ (Xr x v y)
  have d1 : (Ql x).drop 33 = [] := List.drop_eq_nil_of_le (by omega)
  have d2 : (Ql (JR x y)).drop 33 = [] := List.drop_eq_nil_of_le (by omega)
  refine VC.of_acall (by simp [Qs, isD, Zb]) (by simp [isD, Zb]) (ACall.of_body b (by simp) ?_)
  simp (maxSteps := 4000000) (disch := omega) only [rr, aop, cV, cV1, AV.one, Qb, okW, Qd, app, Qa, Qc, Qe, Qf, Qg, simprocAttr, QaT, l1, t1, o1]
  refine Qh.vc (hL x y hx hs) ?_
  simp (maxSteps := 4000000) (disch := omega) only [rr, aop, cV, cV1, AV.one, Qb, okW, Qd, app, Qa, Qc, Qe, Qf, Qg, simprocAttr, l1, t1, o1, l2, t2, o2, d1]
  refine Qh.vc (hP (JR x y) v (Qen hx y) hs) ?_
  rw [← Xr]
  simp (maxSteps := 4000000) (disch := omega) only [rr, aop, cV, cV1, AV.one, Qb, okW, Qd, app, Qa, Qc, Qe, Qf, Qg, simprocAttr, l1, t1, o1, l2, t2, o2, l3, t3, o3, d1, d2, ZU, ht, Qas]

def Qmn (x : XT) (v : Int) : Int := w32 (v - QiO x)
def Qu0 (x : XT) (v : Int) : XT := Xr x v (Qmn x v)
def QdB (P : Prg) (f : Nat) : Prop := ∀ (x : XT) (v : Int), Qbb x → x.sh = 9 ∨ x.sh = 10 → -2147483648 ≤ v ∧ v ≤ 2147483647 → VC P f [.agg (Ql x), .int .i32 v] (.tup [.int .i32 (Qmn x v), .agg (Ql (Qu0 x v)), .int .i64 0])

theorem Qkq {P : Prg} {f fG fB t0 : Nat} (b : Qj P f 27 [.tmp 4, .cell 5 t0, .tmp 6] (J7 fG fB t0)) (ht : ZG P t0 = some (some 33)) (hG : Qes P fG) (hB : Qc9 P fB) : QdB P f := by
  intro x v hx hs hv
  have l1 := QU hx
  have t1 : (Ql x).take 33 = Ql x := Qu (by omega)
  have o1 := QZ x
  have l3 := QU (Qbn hx hv (Qmn x v))
  have t3 : (Ql (Xr x v (Qmn x v))).take 33 = Ql (Xr x v (Qmn x v)) := Qu (by omega)
  have o3 := QZ (Xr x v (Qmn x v))
  refine VC.of_acall (by simp [Qs, isD, Zb]) (by simp [isD, Qs, Zb]) (ACall.of_body b (by simp) ?_)
  simp (maxSteps := 4000000) (disch := omega) only [rr, aop, cV, cV1, AV.one, Qb, okW, Qd, app, Qa, Qc, Qe, Qf, Qg, simprocAttr, J7, l1, t1, o1]
  refine Qh.vc (hG x hx hs) ?_
  simp (maxSteps := 4000000) (disch := omega) only [rr, aop, cV, cV1, AV.one, Qb, okW, Qd, app, Qa, Qc, Qe, Qf, Qg, simprocAttr, l1, t1, o1, Xd]
  refine Qh.vc (hB x v (Qmn x v) hx hs hv) ?_
  simp only [Qmn] at l3 t3 o3
  simp (maxSteps := 4000000) (disch := omega) only [rr, aop, cV, cV1, AV.one, Qb, okW, Qd, app, Qa, Qc, Qe, Qf, Qg, simprocAttr, l1, t1, o1, l3, t3, o3, ZU, ht, Qas, Qu0, Qmn]

def QjC (x : XT) (y : Int) : Int := w32 (y + QiO x)
def Qvk (x : XT) (y : Int) : XT := Xr x (QjC x y) y
def Qlt (P : Prg) (f : Nat) : Prop := ∀ (x : XT) (y : Int), Qbb x → x.sh = 9 ∨ x.sh = 10 → VC P f [.agg (Ql x), .int .i32 y] (.tup [.int .i32 (QjC x y), .agg (Ql (Qvk x y)), .int .i64 0])

theorem QrX {P : Prg} {f fG fB t0 : Nat} (b : Qj P f 27 [.tmp 4, .cell 5 t0, .tmp 6] (Qcq fG fB t0)) (ht : ZG P t0 = some (some 33)) (hG : Qes P fG) (hB : Qc9 P fB) : Qlt P f := by
  intro x y hx hs
  have hv := XD (y + QiO x)
  have l1 := QU hx
  have t1 : (Ql x).take 33 = Ql x := Qu (by omega)
  have o1 := QZ x
  have l3 := QU (Qbn hx hv y)
  have t3 : (Ql (Xr x (QjC x y) y)).take 33 = Ql (Xr x (QjC x y) y) := Qu (by unfold QjC; omega)
  have o3 := QZ (Xr x (QjC x y) y)
  refine VC.of_acall (by simp [Qs, isD, Zb]) (by simp [isD, Qs, Zb]) (ACall.of_body b (by simp) ?_)
  simp (maxSteps := 4000000) (disch := omega) only [rr, aop, cV, cV1, AV.one, Qb, okW, Qd, app, Qa, Qc, Qe, Qf, Qg, simprocAttr, Qcq, l1, t1, o1]
  refine Qh.vc (hG x hx hs) ?_
  simp (maxSteps := 4000000) (disch := omega) only [rr, aop, cV, cV1, AV.one, Qb, okW, Qd, app, Qa, Qc, Qe, Qf, Qg, simprocAttr, l1, t1, o1, Xd]
  refine Qh.vc (hB x (QjC x y) y hx hs hv) ?_
  simp only [QjC] at l3 t3 o3
  simp (maxSteps := 4000000) (disch := omega) only [rr, aop, cV, cV1, AV.one, Qb, okW, Qd, app, Qa, Qc, Qe, Qf, Qg, simprocAttr, l1, t1, o1, l3, t3, o3, ZU, ht, Qas, Qvk, QjC]

/-! ### first -/

def Qb8 (b last : Int) : Int := if b = 8 then 15 * last / 16 else 31 * last / 32
def QhO (P : Prg) (f : Nat) : Prop := ∀ b : Int, Jj b ≠ 0 → VC P f [.int .i64 b] (.tup [.int .i64 (if b = 8 then 4 else 5), .int .i64 0])
theorem QkB {P : Prg} {f : Nat} (b : Qj P f 10 [.tmp 2, .tmp 3] Xa) : QhO P f := by
  intro x hx
  refine VC.of_acall rfl rfl (ACall.of_body b (by simp) ?_)
  rcases XG x with ⟨rfl, h⟩ | ⟨rfl, h⟩ | ⟨rfl, h⟩ | ⟨h2, h3, h4, h⟩
  · simp (maxSteps := 4000000) (disch := omega) only [rr, aop, cV, cV1, AV.one, Qb, okW, Qd, app, Qa, Qc, Qe, Qf, Qg, simprocAttr, Xa]
  · simp (maxSteps := 4000000) (disch := omega) only [rr, aop, cV, cV1, AV.one, Qb, okW, Qd, app, Qa, Qc, Qe, Qf, Qg, simprocAttr, Xa]
  · simp (maxSteps := 4000000) (disch := omega) only [rr, aop, cV, cV1, AV.one, Qb, okW, Qd, app, Qa, Qc, Qe, Qf, Qg, simprocAttr, Xa]
  · exact absurd h hx

theorem Qto {x : Int} (h : -2147483648 ≤ x ∧ x ≤ 2147483647) : Qm true .i64 x 4 = some (.int .i64 (x * 16)) := by
  show some (AV.int .i64 (IntKind.i64.wrap (x * 16))) = _
  rw [Qau (by omega) (by omega)]
theorem Qtn {x : Int} (h : -2147483648 ≤ x ∧ x ≤ 2147483647) : Qm true .i64 x 5 = some (.int .i64 (x * 32)) := by
  show some (AV.int .i64 (IntKind.i64.wrap (x * 32))) = _
  rw [Qau (by omega) (by omega)]
theorem Qtk (x : Int) : Qm false .i64 x 4 = some (.int .i64 (x / 16)) := by
  show some (AV.int .i64 (x.fdiv 16)) = _
  rw [Int.fdiv_eq_ediv_of_nonneg _ (by omega)]
theorem Qtj (x : Int) : Qm false .i64 x 5 = some (.int .i64 (x / 32)) := by
  show some (AV.int .i64 (x.fdiv 32)) = _
  rw [Int.fdiv_eq_ediv_of_nonneg _ (by omega)]

def QhN (P : Prg) (f : Nat) : Prop := ∀ (b l : Int), -2147483648 ≤ l ∧ l ≤ 2147483647 → VC P f [.int .i64 (if b = 8 then 4 else 5), .int .i32 l] (.int .i32 (Qb8 b l))
theorem QkA {P : Prg} {f : Nat} (b : Qj P f 16 [.tmp 4] XR) : QhN P f := by
  intro x l hl
  refine VC.of_acall rfl rfl (ACall.of_body b (by simp) ?_)
  have e1 : l * 16 - l = 15 * l := by omega
  have e2 : l * 32 - l = 31 * l := by omega
  have a := Qto hl
  have c := Qtn hl
  by_cases h : x = 8
  · simp (maxSteps := 4000000) (disch := omega) only [rr, aop, cV, cV1, AV.one, Qb, okW, Qd, app, Qa, Qc, Qe, Qf, Qg, simprocAttr, XR, h, Qb8, a, Qtk, e1]
  · simp (maxSteps := 4000000) (disch := omega) only [rr, aop, cV, cV1, AV.one, Qb, okW, Qd, app, Qa, Qc, Qe, Qf, Qg, simprocAttr, XR, if_neg h, Qb8, c, Qtj, e2]

def Qev (P : Prg) (f : Nat) : Prop := ∀ (b l : Int), Jj b ≠ 0 → -2147483648 ≤ l ∧ l ≤ 2147483647 → VC P f [.int .i64 b, .int .i32 l] (.tup [.int .i32 (Qb8 b l), .int .i64 0])
theorem QkC {P : Prg} {f fS fg : Nat} (b : Qj P f 19 [.tmp 4, .tmp 5] (J9 fS fg)) (hS : QhO P fS) (hg : QhN P fg) : Qev P f := by
  intro x l hx hl
  refine VC.of_acall rfl rfl (ACall.of_body b (by simp) ?_)
  simp (maxSteps := 4000000) (disch := omega) only [rr, aop, cV, cV1, AV.one, Qb, okW, Qd, app, Qa, Qc, Qe, Qf, Qg, simprocAttr, J9]
  refine Qh.vc (hS x hx) ?_
  simp (maxSteps := 4000000) (disch := omega) only [rr, aop, cV, cV1, AV.one, Qb, okW, Qd, app, Qa, Qc, Qe, Qf, Qg, simprocAttr]
  refine Qh.vc (hg x l hl) ?_
  simp (maxSteps := 4000000) (disch := omega) only [rr, aop, cV, cV1, AV.one, Qb, okW, Qd, app, Qa, Qc, Qe, Qf, Qg, simprocAttr]
/-! ### chain -/

structure ZV where
  bits : Int
  last : Int
  fl : XT

def QS (c : ZV) : List AV := .int .i64 c.bits :: .int .i32 c.last :: Ql c.fl
def Ql5 (c : ZV) : Prop := Jj c.bits ≠ 0 ∧ c.fl.sh = Qaz c.bits ∧ Qbb c.fl ∧ (-2147483648 ≤ c.last ∧ c.last ≤ 2147483647)
def Qat : ZV := ⟨0, 0, QhZ⟩

theorem Zs {c : ZV} (h : Qbb c.fl) : (QS c).length = 35 := by simp [QS, QU h]
theorem ZX (c : ZV) : (QS c).all AV.one = true := by simp [QS, AV.one, QZ]
theorem Qal (c : ZV) : Qs (QS c) = true := by simp [QS, Qs, isD, Zb]
theorem QlR (b : Int) : Qaz b = 9 ∨ Qaz b = 10 := by unfold Qaz; split <;> simp
theorem Qpz {b : Int} {t : List Int} (h1 : t.length = 16) (h2 : I32 t) : Qbb (QgZ b t) := ⟨h1, by simp [QgZ, z16], h2, fun x hx => by simp [QgZ, z16] at hx; omega⟩
theorem Qbx : QS Qat = [.int .i64 0, .int .i32 0, .int .i64 0, .int .i32 0, .int .i32 0, .int .i32 0, .int .i32 0, .int .i32 0, .int .i32 0, .int .i32 0, .int .i32 0, .int .i32 0, .int .i32 0, .int .i32 0, .int .i32 0, .int .i32 0, .int .i32 0, .int .i32 0, .int .i32 0, .int .i32 0, .int .i32 0, .int .i32 0, .int .i32 0, .int .i32 0, .int .i32 0, .int .i32 0, .int .i32 0, .int .i32 0, .int .i32 0, .int .i32 0, .int .i32 0, .int .i32 0, .int .i32 0, .int .i32 0, .int .i32 0] := rfl

def Jv (b : Int) (t : List Int) : ZV := ⟨b, 0, QgZ b t⟩
def QkS (b : Int) (t : List Int) : AV := if Jj b = 0 then .tup [.agg (QS Qat), .int .i64 2] else .tup [.agg (QS (Jv b t)), .int .i64 0]
def QmP (P : Prg) (f : Nat) : Prop := ∀ (b : Int) (t : List Int), t.length = 16 → I32 t → VC P f [.int .i64 b, .agg (ks .i32 t)] (QkS b t)
theorem Qse (b : Int) (t : List Int) : isD (QkS b t) = true := by unfold QkS; split <;> simp [isD, Qs, Qal]

theorem Qqs {P : Prg} {f fT t0 t1 t2 : Nat} (b : Qj P f 21 [.cell 4 t1, .tmp 5] (Qbw fT t0 t1 t2)) (ht : ZG P t1 = some (some 35)) (hT : QmM P fT) : QmP P f := by
  intro x t hl hI
  have hk : (ks .i32 t).length = 16 := by simp [Qk, hl]
  have h1 := XZ .i32 t
  have tk16 : (ks .i32 t).take 16 = ks .i32 t := Qu (by omega)
  have hok : Qbb (QgZ x t) := Qpz hl hI
  have l1 := QU hok
  have t1' : (Ql (QgZ x t)).take 33 = Ql (QgZ x t) := Qu (by omega)
  have o1 := QZ (QgZ x t)
  have lc := Zs (c := Jv x t) hok
  have tc : (QS (Jv x t)).take 35 = QS (Jv x t) := Qu (by omega)
  have oc := ZX (Jv x t)
  have mk : AV.int .i64 x :: .int .i32 0 :: Ql (QgZ x t) = QS (Jv x t) := rfl
  refine VC.of_acall (by simp [Qs, isD, QY]) (Qse _ _) (ACall.of_body b (by simp) ?_)
  simp (maxSteps := 4000000) (disch := omega) only [rr, aop, cV, cV1, AV.one, Qb, okW, Qd, app, Qa, Qc, Qe, Qf, Qg, simprocAttr, Qbw, hk, h1, tk16]
  refine Qh.vc (hT x t hl) ?_
  by_cases h0 : Jj x = 0
  · simp (maxSteps := 4000000) (disch := omega) only [rr, aop, cV, cV1, AV.one, Qb, okW, Qd, app, Qa, Qc, Qe, Qf, Qg, simprocAttr, Qfz, h0, QkS, Qas, Qbx, ZU, ht]
  · simp (maxSteps := 4000000) (disch := omega) only [rr, aop, cV, cV1, AV.one, Qb, okW, Qd, app, Qa, Qc, Qe, Qf, Qg, simprocAttr, Qfz, if_neg h0, QkS, l1, t1', o1, lc, tc, oc, mk, Qbx, ZU, ht]

theorem Qqr {c : ZV} (h : Qbb c.fl) : ((QS c).drop 2).take 33 = Ql c.fl := by
  simp only [QS, List.drop_succ_cons, List.drop_zero]
  exact Qu (by rw [QU h]; omega)
theorem Qqq {c : ZV} (h : Qbb c.fl) : ((QS c).drop 3).take 16 = ks .i32 c.fl.tp := QiT h

def Qez (P : Prg) (f : Nat) : Prop := ∀ c : ZV, Ql5 c → VC P f [.agg (QS c)] (.int .i64 0)
theorem QkV {P : Prg} {f fT t0 t1 : Nat} (b : Qj P f 24 [.tmp 2] (Qad fT t0 t1)) (hT : QmM P fT) : Qez P f := by
  intro c ⟨h1, h2, h3, h4⟩
  have lc := Zs h3
  have oc := ZX c
  have e0 : (QS c).drop 0 = .int .i64 c.bits :: .int .i32 c.last :: Ql c.fl := rfl
  have e2 : (QS c).drop 2 = .int .i64 c.fl.sh :: (ks .i32 c.fl.tp ++ ks .i32 c.fl.ps) := rfl
  have et := Qqq h3
  have hk : (ks .i32 c.fl.tp).length = 16 := by simp [Qk, h3.1]
  have hok : Qbb (QgZ c.bits c.fl.tp) := Qpz h3.1 h3.2.2.1
  have l1 := QU hok
  have t1' : (Ql (QgZ c.bits c.fl.tp)).take 33 = Ql (QgZ c.bits c.fl.tp) := Qu (by omega)
  have o1 := QZ (QgZ c.bits c.fl.tp)
  have en : (Ql (QgZ c.bits c.fl.tp)).drop 0 = .int .i64 (Qaz c.bits) :: (ks .i32 c.fl.tp ++ ks .i32 z16) := rfl
  have dn : (Ql (QgZ c.bits c.fl.tp)).drop 33 = [] := List.drop_eq_nil_of_le (by omega)
  refine VC.of_acall (by simp [Qs, isD, Qal]) rfl (ACall.of_body b (by simp) ?_)
  simp (maxSteps := 4000000) (disch := omega) only [rr, aop, cV, cV1, AV.one, Qb, okW, Qd, app, Qa, Qc, Qe, Qf, Qg, simprocAttr, Qad, lc, oc, ↓e0, et]
  refine Qh.vc (hT c.bits c.fl.tp h3.1) ?_
  simp (maxSteps := 4000000) (disch := omega) only [rr, aop, cV, cV1, AV.one, Qb, okW, Qd, app, Qa, Qc, Qe, Qf, Qg, simprocAttr, Qfz, if_neg h1, l1, t1', o1, ↓en, ↓e2, h2, dn]

def Qsq (c : ZV) (x : Int) : Int := w32 (x - Qb8 c.bits c.last)
def QfX (c : ZV) (x : Int) : Int := Qmn c.fl (Qsq c x)
def Qam (c : ZV) (x : Int) : ZV := ⟨c.bits, x, Qu0 c.fl (Qsq c x)⟩
theorem Qkl {c : ZV} (h : Ql5 c) {x : Int} (hx : -2147483648 ≤ x ∧ x ≤ 2147483647) : Ql5 (Qam c x) := ⟨h.1, h.2.1, Qbn h.2.2.1 (XD _) _, hx⟩

def QdC (P : Prg) (f : Nat) : Prop := ∀ (c : ZV) (x : Int), Ql5 c → -2147483648 ≤ x ∧ x ≤ 2147483647 → VC P f [.agg (QS c), .int .i32 x] (.tup [.int .i32 (QfX c x), .agg (QS (Qam c x)), .int .i64 0])

theorem Qhk {P : Prg} {f fC fG fF t0 t1 : Nat} (b : Qj P f 44 [.tmp 4, .cell 5 t0, .tmp 6] (Je fC fG fF t0 t1)) (ht : ZG P t0 = some (some 35)) (hC : Qez P fC) (hG : Qev P fG) (hF : QdB P fF) : QdC P f := by
  intro c x hc hx
  obtain ⟨h1, h2, h3, h4⟩ := id hc
  have hs : c.fl.sh = 9 ∨ c.fl.sh = 10 := by rw [h2]; exact QlR _
  have lc := Zs h3
  have tc : (QS c).take 35 = QS c := Qu (by omega)
  have oc := ZX c
  have e0 : (QS c).drop 0 = .int .i64 c.bits :: .int .i32 c.last :: Ql c.fl := rfl
  have e1 : (QS c).drop 1 = .int .i32 c.last :: Ql c.fl := rfl
  have e2 := Qqr h3
  have hzr := XD (x - Qb8 c.bits c.last)
  have hok := Qkl hc hx
  have l1 := QU hok.2.2.1
  have t1' : (Ql (Qam c x).fl).take 33 = Ql (Qam c x).fl := Qu (by omega)
  have o1 := QZ (Qam c x).fl
  have d1 : (Ql (Qam c x).fl).drop 33 = [] := List.drop_eq_nil_of_le (by omega)
  have l2 := Zs hok.2.2.1
  have t2 : (QS (Qam c x)).take 35 = QS (Qam c x) := Qu (by omega)
  have o2 := ZX (Qam c x)
  have mk : AV.int .i64 c.bits :: .int .i32 x :: Ql (Qam c x).fl = QS (Qam c x) := rfl
  have hfe : Qu0 c.fl (w32 (x - Qb8 c.bits c.last)) = (Qam c x).fl := rfl
  have hye : Qmn c.fl (w32 (x - Qb8 c.bits c.last)) = QfX c x := rfl
  refine VC.of_acall (by simp [Qs, isD, Qal]) (by simp [isD, Qs, Qal]) (ACall.of_body b (by simp) ?_)
  simp (maxSteps := 4000000) (disch := omega) only [rr, aop, cV, cV1, AV.one, Qb, okW, Qd, app, Qa, Qc, Qe, Qf, Qg, simprocAttr, Je, lc, tc, oc]
  refine Qh.vc (hC c hc) ?_
  simp (maxSteps := 4000000) (disch := omega) only [rr, aop, cV, cV1, AV.one, Qb, okW, Qd, app, Qa, Qc, Qe, Qf, Qg, simprocAttr, lc, tc, oc, ↓e0, ↓e1]
  refine Qh.vc (hG c.bits c.last h1 h4) ?_
  simp (maxSteps := 4000000) (disch := omega) only [rr, aop, cV, cV1, AV.one, Qb, okW, Qd, app, Qa, Qc, Qe, Qf, Qg, simprocAttr, lc, tc, oc, e2, Xd]
  refine Qh.vc (hF c.fl _ h3 hs hzr) ?_
  rw [hfe, hye]
  simp (maxSteps := 4000000) (disch := omega) only [rr, aop, cV, cV1, AV.one, Qb, okW, Qd, app, Qa, Qc, Qe, Qf, Qg, simprocAttr, lc, tc, oc, ↓e0, l1, t1', o1, d1, l2, t2, o2, mk, ZU, ht, Qbx]
end Go.Am

namespace Go.Am
open Go.RowKit

/-! ### chain.Back -/

def Qdq (c : ZV) (y : Int) : Int := w32 (QjC c.fl y + Qb8 c.bits c.last)
def Qan (c : ZV) (y : Int) : ZV := ⟨c.bits, Qdq c y, Qvk c.fl y⟩
theorem Qkm {c : ZV} (h : Ql5 c) (y : Int) : Ql5 (Qan c y) := ⟨h.1, h.2.1, Qbn h.2.2.1 (XD _) _, XD _⟩

def Qlw (P : Prg) (f : Nat) : Prop := ∀ (c : ZV) (y : Int), Ql5 c → VC P f [.agg (QS c), .int .i32 y] (.tup [.int .i32 (Qdq c y), .agg (QS (Qan c y)), .int .i64 0])

theorem QnR {P : Prg} {f fC fG fF t0 t1 : Nat} (b : Qj P f 46 [.tmp 4, .cell 5 t0, .tmp 6] (QaY fC fG fF t0 t1)) (ht : ZG P t0 = some (some 35)) (hC : Qez P fC) (hG : Qev P fG) (hF : Qlt P fF) : Qlw P f := by
  intro c x hc
  obtain ⟨h1, h2, h3, h4⟩ := id hc
  have hs : c.fl.sh = 9 ∨ c.fl.sh = 10 := by rw [h2]; exact QlR _
  have lc := Zs h3
  have tc : (QS c).take 35 = QS c := Qu (by omega)
  have oc := ZX c
  have e0 : (QS c).drop 0 = .int .i64 c.bits :: .int .i32 c.last :: Ql c.fl := rfl
  have e1 : (QS c).drop 1 = .int .i32 c.last :: Ql c.fl := rfl
  have e2 := Qqr h3
  have hok := Qkm hc x
  have l1 := QU hok.2.2.1
  have t1' : (Ql (Qan c x).fl).take 33 = Ql (Qan c x).fl := Qu (by omega)
  have o1 := QZ (Qan c x).fl
  have d1 : (Ql (Qan c x).fl).drop 33 = [] := List.drop_eq_nil_of_le (by omega)
  have l2 := Zs hok.2.2.1
  have t2 : (QS (Qan c x)).take 35 = QS (Qan c x) := Qu (by omega)
  have o2 := ZX (Qan c x)
  have mk : AV.int .i64 c.bits :: .int .i32 (Qdq c x) :: Ql (Qan c x).fl = QS (Qan c x) := rfl
  have hfe : Qvk c.fl x = (Qan c x).fl := rfl
  have hye : w32 (QjC c.fl x + Qb8 c.bits c.last) = Qdq c x := rfl
  refine VC.of_acall (by simp [Qs, isD, Qal]) (by simp [isD, Qs, Qal]) (ACall.of_body b (by simp) ?_)
  simp (maxSteps := 4000000) (disch := omega) only [rr, aop, cV, cV1, AV.one, Qb, okW, Qd, app, Qa, Qc, Qe, Qf, Qg, simprocAttr, QaY, lc, tc, oc]
  refine Qh.vc (hC c hc) ?_
  simp (maxSteps := 4000000) (disch := omega) only [rr, aop, cV, cV1, AV.one, Qb, okW, Qd, app, Qa, Qc, Qe, Qf, Qg, simprocAttr, lc, tc, oc, ↓e0, ↓e1]
  refine Qh.vc (hG c.bits c.last h1 h4) ?_
  simp (maxSteps := 4000000) (disch := omega) only [rr, aop, cV, cV1, AV.one, Qb, okW, Qd, app, Qa, Qc, Qe, Qf, Qg, simprocAttr, lc, tc, oc, e2, Xd]
  refine Qh.vc (hF c.fl x h3 hs) ?_
  rw [hfe]
  simp (maxSteps := 4000000) (disch := omega) only [rr, aop, cV, cV1, AV.one, Qb, okW, Qd, app, Qa, Qc, Qe, Qf, Qg, simprocAttr, lc, tc, oc, ↓e0, l1, t1', o1, d1, l2, t2, o2, mk, ZU, ht, Qbx, Xd, hye]

/-! ### The references -/

theorem QoB {x : Int} (h : x < 0) (n : Int) : x.tdiv n = -(-x / n) ∧ x.tmod n = -(-x % n) := by
  have e : x = -(-x) := by omega
  constructor
  · rw [e, Int.neg_tdiv, Int.tdiv_eq_ediv_of_nonneg (by omega)]; simp
  · rw [e, Int.neg_tmod, Int.tmod_eq_emod_of_nonneg (by omega)]; simp

def QvO (x : XT) (k : Nat) : List Int := (List.range 16).map fun j => if k < j then x.ps.getD (j - 1) 0 else x.ps.getD j 0
def pf (x : XT) (k : Nat) : XT := { x with ps := QvO x k }
end Go.Am

namespace Go.Am
open Go.RowKit

/-! ### New -/


/-! ### fold -/

def QfK (x : Int) : Int := if x < 0 then -2 * x - 1 else 2 * x
def QqY (P : Prg) (f : Nat) : Prop := ∀ x : Int, -2147483648 ≤ x ∧ x ≤ 2147483647 → VC P f [.int .i32 x] (.int .u32 (QfK x))
theorem Qp0 {x : Int} (h : -2147483648 ≤ x ∧ x ≤ 2147483647) : 0 ≤ QfK x ∧ QfK x < 4294967296 := by unfold QfK; split <;> omega

theorem QlD {a : Nat} (h : a < 4294967296) : (BitVec.ofInt 32 (a : Int) ^^^ BitVec.ofInt 32 4294967295).toNat = 4294967295 - a := by
  have e : BitVec.ofInt 32 4294967295 = BitVec.allOnes 32 := by decide
  rw [e, BitVec.xor_allOnes, BitVec.toNat_not]
  have : (BitVec.ofInt 32 (a : Int)).toNat = a := by simp; omega
  rw [this]
theorem Qh0 {a : Nat} (h : a < 4294967296) : (BitVec.ofInt 32 (a : Int) ^^^ BitVec.ofInt 32 0).toNat = a := by
  have : (BitVec.ofInt 32 (a : Int)).toNat = a := by simp; omega
  rw [BitVec.toNat_xor, this]
  simp

theorem QpY {P : Prg} {f : Nat} (b : Qj P f 10 [.tmp 2] JT) : QqY P f := by
  intro x hx
  refine VC.of_acall rfl rfl (ACall.of_body b (by simp) ?_)
  by_cases h : x < 0
  · have a1 : IntKind.u32.wrap x = x + 4294967296 := by rw [XU]; omega
    have a2 : Qm true .u32 (x + 4294967296) 1 = some (.int .u32 (2 * x + 4294967296)) := by
      show some (AV.int .u32 (IntKind.u32.wrap ((x + 4294967296) * 2))) = _
      rw [XU]; congr 2; omega
    have a3 : Qm false .i32 x 31 = some (.int .i32 (-1)) := by
      show some (AV.int .i32 (x.fdiv 2147483648)) = _
      rw [Int.fdiv_eq_ediv_of_nonneg _ (by omega)]; congr 2; omega
    have a4 : IntKind.u32.wrap (-1) = 4294967295 := rfl
    have a5 : (BitVec.ofInt IntKind.u32.bits (2 * x + 4294967296) ^^^ BitVec.ofInt IntKind.u32.bits 4294967295).toNat = (-2 * x - 1).toNat := by
      show (BitVec.ofInt 32 (2 * x + 4294967296) ^^^ BitVec.ofInt 32 4294967295).toNat = (-2 * x - 1).toNat
      have := QlD (a := (2 * x + 4294967296).toNat) (by omega)
      rw [show (((2 * x + 4294967296).toNat : Nat) : Int) = 2 * x + 4294967296 by omega] at this
      rw [this]; omega
    have a6 : (((BitVec.ofInt IntKind.u32.bits (2 * x + 4294967296) ^^^ BitVec.ofInt IntKind.u32.bits 4294967295).toNat : Nat) : Int) = -2 * x - 1 := by rw [a5]; omega
    simp (maxSteps := 4000000) (disch := omega) only [rr, aop, cV, cV1, AV.one, Qb, okW, Qd, app, Qa, Qc, Qe, Qf, Qg, simprocAttr, JT, a1, a2, a3, a4, a6, QfK]
  · have a2 : Qm true .u32 x 1 = some (.int .u32 (2 * x)) := by
      show some (AV.int .u32 (IntKind.u32.wrap (x * 2))) = _
      rw [XU]; congr 2; omega
    have a3 : Qm false .i32 x 31 = some (.int .i32 0) := by
      show some (AV.int .i32 (x.fdiv 2147483648)) = _
      rw [Int.fdiv_eq_ediv_of_nonneg _ (by omega)]; congr 2; omega
    have a5 : (BitVec.ofInt IntKind.u32.bits (2 * x) ^^^ BitVec.ofInt IntKind.u32.bits 0).toNat = (2 * x).toNat := by
      show (BitVec.ofInt 32 (2 * x) ^^^ BitVec.ofInt 32 0).toNat = (2 * x).toNat
      have := Qh0 (a := (2 * x).toNat) (by omega)
      rwa [show (((2 * x).toNat : Nat) : Int) = 2 * x by omega] at this
    have a6 : (((BitVec.ofInt IntKind.u32.bits (2 * x) ^^^ BitVec.ofInt IntKind.u32.bits 0).toNat : Nat) : Int) = 2 * x := by rw [a5]; omega
    simp (maxSteps := 4000000) (disch := omega) only [rr, aop, cV, cV1, AV.one, Qb, okW, Qd, app, Qa, Qc, Qe, Qf, Qg, simprocAttr, JT, a2, a3, a6, QfK]

def Zy (n : Int) : Int := if n % 2 = 0 then n / 2 else -(n / 2) - 1
def Qlo (P : Prg) (f : Nat) : Prop := ∀ n : Int, 0 ≤ n ∧ n < 4294967296 → VC P f [.int .u32 n] (.int .i32 (Zy n))
theorem QqF {n : Int} (h : 0 ≤ n ∧ n < 4294967296) : -2147483648 ≤ Zy n ∧ Zy n ≤ 2147483647 := by unfold Zy; split <;> omega
theorem Qum {a : Nat} (h : a < 4294967296) : (BitVec.ofInt 32 (a : Int) &&& BitVec.ofInt 32 1).toNat = a % 2 := by
  have : (BitVec.ofInt 32 (a : Int)).toNat = a := by simp; omega
  rw [BitVec.toNat_and, this]
  exact Nat.and_one_is_mod a

theorem QpZ {P : Prg} {f : Nat} (b : Qj P f 11 [.tmp 2] JU) : Qlo P f := by
  intro n hn
  refine VC.of_acall rfl rfl (ACall.of_body b (by simp) ?_)
  have a1 : Qm false .u32 n 1 = some (.int .u32 (n / 2)) := by
    show some (AV.int .u32 (n.fdiv 2)) = _
    rw [Int.fdiv_eq_ediv_of_nonneg _ (by omega)]
  have a2 : (((BitVec.ofInt IntKind.u32.bits n &&& BitVec.ofInt IntKind.u32.bits 1).toNat : Nat) : Int) = n % 2 := by
    show (((BitVec.ofInt 32 n &&& BitVec.ofInt 32 1).toNat : Nat) : Int) = n % 2
    have := Qum (a := n.toNat) (by omega)
    rw [show ((n.toNat : Nat) : Int) = n by omega] at this
    rw [this]; omega
  by_cases h : n % 2 = 0
  · have a3 : (((BitVec.ofInt IntKind.i32.bits (n / 2) ^^^ BitVec.ofInt IntKind.i32.bits 0).toNat : Nat) : Int) = n / 2 := by
      show (((BitVec.ofInt 32 (n / 2) ^^^ BitVec.ofInt 32 0).toNat : Nat) : Int) = n / 2
      have := Qh0 (a := (n / 2).toNat) (by omega)
      rw [show (((n / 2).toNat : Nat) : Int) = n / 2 by omega] at this
      rw [this]; omega
    simp (maxSteps := 4000000) (disch := omega) only [rr, aop, cV, cV1, AV.one, Qb, okW, Qd, app, Qa, Qc, Qe, Qf, Qg, simprocAttr, JU, a1, a2, h, a3, Zy]
  · have h1 : n % 2 = 1 := by omega
    have a3 : (((BitVec.ofInt IntKind.i32.bits (n / 2) ^^^ BitVec.ofInt IntKind.i32.bits (-1)).toNat : Nat) : Int) = 4294967295 - n / 2 := by
      show (((BitVec.ofInt 32 (n / 2) ^^^ BitVec.ofInt 32 (-1)).toNat : Nat) : Int) = 4294967295 - n / 2
      have := QlD (a := (n / 2).toNat) (by omega)
      rw [show (((n / 2).toNat : Nat) : Int) = n / 2 by omega] at this
      rw [show BitVec.ofInt 32 (-1) = BitVec.ofInt 32 4294967295 by decide, this]; omega
    have a4 : IntKind.i32.wrap (4294967295 - n / 2) = -(n / 2) - 1 := by rw [Xd, Qf7]; omega
    simp (maxSteps := 4000000) (disch := omega) only [rr, aop, cV, cV1, AV.one, Qb, okW, Qd, app, Qa, Qc, Qe, Qf, Qg, simprocAttr, JU, a1, a2, h1, a3, a4, Zy]

end Go.Am

namespace Go.Am
open Go.RowKit

theorem Qme {K : IntKind} {l : List Int} {i : Nat} (h : i < l.length) (v : Int) : (ks K l).take i ++ [.int K v] ++ (ks K l).drop (i + 1) = ks K (l.set i v) := by
  rw [List.set_eq_take_append_cons_drop, if_pos h]
  simp [ks]
theorem Qci {K : IntKind} {l : List Int} {i : Nat} (h : i < l.length) : (ks K l).drop i = .int K (l.getD i 0) :: ks K (l.drop (i + 1)) := by
  rw [QaI h]; simp [List.getD_eq_getElem?_getD, List.getElem?_eq_getElem h]

theorem QtW {α : Type} (l : List α) (x : α) : (l ++ [x])[l.length]? = some x := by simp
theorem Qtr {α : Type} (l : List α) (x y : α) : (l ++ [x]).set l.length y = l ++ [y] := by simp

/-! ### slices.Clone of numbers -/

def Qey (t : Nat) (P : Prg) (f : Nat) : Prop := ∀ (l : List Int) (ob : List Ob) (K : AV → List Ob → Prop), 0 < l.length → l.length ≤ 1000000 → K (.own ob.length l.length) (ob ++ [⟨t, 1, l.length, ks .i32 l, 0⟩]) → ACall P f [il l] ob K

theorem Qqm {P : Prg} {f t0 : Nat} (b : Qj P f 8 [.tmp 2] (Qv t0)) : Qey t0 P f := by
  intro l ob K h0 h1 hK
  refine ACall.of_body b (by simp) ?_
  have g1 := fun x : Ob => QtW ob x
  have g2 := fun x y : Ob => Qtr ob x y
  have n0 : l.length ≠ 0 := by omega
  simp (maxSteps := 4000000) (disch := omega) only [rr, aop, cV, cV1, AV.one, Qb, okW, Qd, app, Qa, Qc, Qe, Qf, Qg, simprocAttr, Qv, il, Qjy, n0, g1, g2, QiK]
  exact hK

/-! ### mix.mix: in its place -/

def Qfv (L : List Int) (k i : Nat) : List Int := (List.range L.length).map fun j => if k ≤ j ∧ j < k + i then w32 (L.getD (j + 1) 0 - L.getD j 0) else L.getD j 0
def QeU (L : List Int) (k n : Nat) : List Int := if n = 1 then L else (Qfv L k (n - 1)).set (k + (n - 1)) (w32 (L.getD (k + (n - 1)) 0 - (w32 (L.getD (k + (n - 1)) 0 - L.getD (k + (n - 2)) 0)).tdiv 2))

theorem ZW {a b : List Int} (h : a.length = b.length) (h2 : ∀ j, j < a.length → a.getD j 0 = b.getD j 0) : a = b := by
  apply List.ext_getElem h
  intro i h1 h3
  have := h2 i h1
  simpa [List.getD_eq_getElem?_getD, List.getElem?_eq_getElem h1, List.getElem?_eq_getElem h3] using this
theorem QaA (L : List Int) (k i : Nat) : (Qfv L k i).length = L.length := by simp [Qfv]
theorem QE {g : Nat → Int} {n j : Nat} (h : j < n) : ((List.range n).map g).getD j 0 = g j := by
  simp [List.getD_eq_getElem?_getD, h]
theorem Qek {l : List Int} {i j : Nat} {v : Int} (h : j < l.length) : (l.set i v).getD j 0 = if i = j then v else l.getD j 0 := by
  simp only [List.getD_eq_getElem?_getD, List.getElem?_set]
  split
  · subst_vars; simp [h]
  · rfl
theorem QuM (L : List Int) (k : Nat) : Qfv L k 0 = L := ZW (QaA _ _ _) fun j hj => by
  rw [QaA] at hj
  rw [Qfv, QE hj, if_neg (by omega)]
theorem Qo3 {L : List Int} {k i j : Nat} (h : j < L.length) (h2 : k + i ≤ j) : (Qfv L k i).getD j 0 = L.getD j 0 := by
  rw [Qfv, QE h, if_neg (by omega)]
theorem QrC {L : List Int} {k i : Nat} (h : k + i < L.length) : (Qfv L k i).set (k + i) (w32 (L.getD (k + i + 1) 0 - L.getD (k + i) 0)) = Qfv L k (i + 1) := ZW (by simp [QaA]) fun j hj => by
  have hj' : j < L.length := by simpa [QaA] using hj
  rw [Qek (by rw [QaA]; exact hj'), Qfv, Qfv, QE hj', QE hj']
  by_cases e : k + i = j
  · subst e; rw [if_pos rfl, if_pos (by omega)]
  · rw [if_neg e]
    by_cases q : k ≤ j ∧ j < k + i
    · rw [if_pos q, if_pos (by omega)]
    · rw [if_neg q, if_neg (by omega)]

def Qus (P : Prg) (f : Nat) : Prop := ∀ (t : Nat) (L : List Int) (k n : Nat) (K : AV → List Ob → Prop), I32 L → 1 ≤ n → k + n ≤ L.length → L.length ≤ 1000000 →
  K (.tup []) [⟨t, 1, L.length, ks .i32 (QeU L k n), 0⟩] → ACall P f [.view 0 L.length k n] [⟨t, 1, L.length, ks .i32 L, 0⟩] K

theorem Qil {x : Int} (h : -2147483648 ≤ x ∧ x ≤ 2147483647) : -2147483648 ≤ x.tdiv 2 ∧ x.tdiv 2 ≤ 2147483647 := by
  by_cases hx : x < 0
  · rw [(QoB hx 2).1]; omega
  · rw [Int.tdiv_eq_ediv_of_nonneg (by omega)]; omega

theorem QtH {P : Prg} {f : Nat} (b : Qj P f 39 [] Qdv) : Qus P f := by
  intro t L k n K hL h1 h2 h3 hK
  refine ACall.of_body b (by simp) ?_
  simp (maxSteps := 4000000) (disch := omega) only [rr, aop, cV, cV1, AV.one, Qb, okW, Qd, app, Qa, Qc, Qe, Qf, Qg, simprocAttr, Qdv]
  refine QW.by (ι := Nat) (fun i => ⟨[(8, .int .i64 i), (7, .int .i64 ((n : Int) - 1)), (2, .int .i64 ((n : Int) - 1)), (0, .view 0 L.length k n)], [⟨t, 1, L.length, ks .i32 (Qfv L k i), 0⟩]⟩) (fun i => i ≤ n - 1) (fun i => n - 1 - i) 0 (by rw [QuM]; exact Le.slots (by simp [Am.look])) (by omega) ?_
  intro i hi
  have ls := QaA L k i
  by_cases hlt : i < n - 1
  · have e1 := Qci (K := .i32) (l := Qfv L k i) (i := k + i) (by omega)
    have e2 := Qci (K := .i32) (l := Qfv L k i) (i := k + (i + 1)) (by omega)
    have e3 := fun v => Qme (K := .i32) (l := Qfv L k i) (i := k + i) (by omega) v
    have a1 := Qo3 (L := L) (k := k) (i := i) (j := k + i) (by omega) (by omega)
    have a2 := Qo3 (L := L) (k := k) (i := i) (j := k + (i + 1)) (by omega) (by omega)
    have a3 := QrC (L := L) (k := k) (i := i) (by omega)
    rw [show k + i + 1 = k + (i + 1) by omega] at a3
    rw [a1] at e1
    rw [a2] at e2
    simp (maxSteps := 4000000) (disch := omega) only [rr, aop, cV, cV1, AV.one, Qb, okW, Qd, app, Qa, Qc, Qe, Qf, Qg, simprocAttr, e1, e2, e3, Xd, a3, ls]
    exact ⟨i + 1, by omega, by omega, Le.slots (by simp [Am.look])⟩
  · have e : i = n - 1 := by omega
    subst e
    by_cases hn : n = 1
    · subst hn
      have e0 : QeU L k 1 = Qfv L k (1 - 1) := by simp [QeU, QuM]
      rw [e0] at hK
      simp (maxSteps := 4000000) (disch := omega) only [rr, aop, cV, cV1, AV.one, Qb, okW, Qd, app, Qa, Qc, Qe, Qf, Qg, simprocAttr]
      exact hK
    · have e1 := Qci (K := .i32) (l := Qfv L k (n - 1)) (i := k + (n - 1)) (by omega)
      have e2 := Qci (K := .i32) (l := Qfv L k (n - 1)) (i := k + (n - 2)) (by omega)
      have e3 := fun v => Qme (K := .i32) (l := Qfv L k (n - 1)) (i := k + (n - 1)) (by omega) v
      have a1 := Qo3 (L := L) (k := k) (i := n - 1) (j := k + (n - 1)) (by omega) (by omega)
      have a2 : (Qfv L k (n - 1)).getD (k + (n - 2)) 0 = w32 (L.getD (k + (n - 1)) 0 - L.getD (k + (n - 2)) 0) := by
        rw [Qfv, QE (by omega), if_pos (by omega), show k + (n - 2) + 1 = k + (n - 1) by omega]
      rw [a1] at e1
      rw [a2] at e2
      have hr := Qil (XD (L.getD (k + (n - 1)) 0 - L.getD (k + (n - 2)) 0))
      simp only [QeU, if_neg hn] at hK
      rw [show k + (n - 2) = k + (n - 1 - 1) by omega] at e2 hK hr
      simp (maxSteps := 4000000) (disch := omega) only [rr, aop, cV, cV1, AV.one, Qb, okW, Qd, app, Qa, Qc, Qe, Qf, Qg, simprocAttr, e1, e2, e3, Xd, ls]
      exact hK
end Go.Am

namespace Go.Am
open Go.RowKit

def Qbo (c : Int) (n : Nat) : Int := if c < 1 ∨ 6 < c then 2 else if 4000 < n then 4 else if (n : Int) % c ≠ 0 then 2 else 0
def Qet (P : Prg) (f : Nat) : Prop := ∀ (c : Int) (l : List Int), VC P f [.int .i64 c, il l] (.int .i64 (Qbo c l.length))

theorem QpD {P : Prg} {f : Nat} (b : Qj P f 22 [.tmp 4] ZL) : Qet P f := by
  intro c l
  refine VC.of_acall (by simp [Qs, isD, QT]) rfl (ACall.of_body b (by simp) ?_)
  by_cases h1 : c < 1
  · simp (maxSteps := 4000000) (disch := omega) only [rr, aop, cV, cV1, AV.one, Qb, okW, Qd, app, Qa, Qc, Qe, Qf, Qg, simprocAttr, ZL, il, Qbo]
  by_cases h2 : 6 < c
  · simp (maxSteps := 4000000) (disch := omega) only [rr, aop, cV, cV1, AV.one, Qb, okW, Qd, app, Qa, Qc, Qe, Qf, Qg, simprocAttr, ZL, il, Qbo]
  by_cases h3 : 4000 < l.length
  · simp (maxSteps := 4000000) (disch := omega) only [rr, aop, cV, cV1, AV.one, Qb, okW, Qd, app, Qa, Qc, Qe, Qf, Qg, simprocAttr, ZL, il, Qbo]
  have hm := Qaj (n := l.length) (c := c) (by omega)
  by_cases h4 : (l.length : Int) % c = 0
  · simp (maxSteps := 4000000) (disch := omega) only [rr, aop, cV, cV1, AV.one, Qb, okW, Qd, app, Qa, Qc, Qe, Qf, Qg, simprocAttr, ZL, il, Qbo, h4]
  · simp (maxSteps := 4000000) (disch := omega) only [rr, aop, cV, cV1, AV.one, Qb, okW, Qd, app, Qa, Qc, Qe, Qf, Qg, simprocAttr, ZL, il, Qbo, h4]

def Qq9 (c : Nat) (l : List Int) (j : Nat) : Int :=
  if c = 1 then l.getD j 0
  else if j % c + 1 < c then w32 (l.getD (j + 1) 0 - l.getD j 0)
  else w32 (l.getD j 0 - (w32 (l.getD j 0 - l.getD (j - 1) 0)).tdiv 2)
def QhX (c : Nat) (l : List Int) (a : Nat) : List Int := (List.range l.length).map fun j => if j < a then Qq9 c l j else l.getD j 0
def XY (c : Nat) (l : List Int) : List Int := (List.range l.length).map (Qq9 c l)

theorem Jh (c : Nat) (l : List Int) (a : Nat) : (QhX c l a).length = l.length := by simp [QhX]
theorem QuU (c : Nat) (l : List Int) : QhX c l 0 = l := ZW (Jh _ _ _) fun j hj => by
  rw [Jh] at hj; rw [QhX, QE hj, if_neg (by omega)]
theorem Ql8 (c : Nat) (l : List Int) : QhX c l l.length = XY c l := by
  simp only [QhX, XY]
  apply List.map_congr_left
  intro j hj
  rw [if_pos (by simpa using hj)]
theorem QrV {c : Nat} {l : List Int} (h : I32 l) (j : Nat) : -2147483648 ≤ Qq9 c l j ∧ Qq9 c l j ≤ 2147483647 := by
  unfold Qq9
  split
  · exact Zc h j
  · split <;> exact XD _
theorem QmT {c : Nat} {l : List Int} (h : I32 l) (a : Nat) : I32 (QhX c l a) := by
  intro v hv
  simp only [QhX, List.mem_map] at hv
  obtain ⟨j, _, rfl⟩ := hv
  split
  · exact QrV h j
  · exact Zc h j
theorem Qoa {c : Nat} {l : List Int} (h : I32 l) : I32 (XY c l) := by rw [← Ql8]; exact QmT h _
theorem QbF (c : Nat) (l : List Int) : (XY c l).length = l.length := by simp [XY]

theorem QtG {c : Nat} {l : List Int} {m : Nat} (hc : 1 ≤ c) (h : c * m + c ≤ l.length) : QeU (QhX c l (c * m)) (c * m) c = QhX c l (c * m + c) := by
  have mod : ∀ j, c * m ≤ j → j < c * m + c → j % c = j - c * m := fun j h1 h2 => by
    rw [show j = c * m + (j - c * m) by omega, Nat.mul_add_mod]
    rw [Nat.mod_eq_of_lt (by omega)]; omega
  have at' : ∀ j, j < l.length → c * m ≤ j → (QhX c l (c * m)).getD j 0 = l.getD j 0 := fun j h1 h2 => by rw [QhX, QE h1, if_neg (by omega)]
  by_cases h1 : c = 1
  · subst h1
    simp only [QeU, if_true]
    refine ZW (by simp [Jh]) fun j hj => ?_
    rw [Jh] at hj
    rw [QhX, QhX, QE hj, QE hj]
    by_cases q : j < 1 * m
    · rw [if_pos q, if_pos (by omega)]
    · rw [if_neg q]; split
      · simp [Qq9]
      · rfl
  · simp only [QeU, if_neg h1]
    refine ZW (by simp [QaA, Jh]) fun j hj => ?_
    have hj' : j < l.length := by simpa [QaA, Jh] using hj
    rw [Qek (by simpa [QaA, Jh] using hj')]
    rw [Qfv, Jh, QE hj']
    conv => rhs; rw [QhX, QE hj']
    by_cases e : c * m + (c - 1) = j
    · rw [if_pos e, if_pos (by omega), at' _ (by omega) (by omega), at' _ (by omega) (by omega)]
      subst e
      have := mod (c * m + (c - 1)) (by omega) (by omega)
      unfold Qq9
      rw [if_neg h1, if_neg (by rw [this]; omega), show c * m + (c - 1) - 1 = c * m + (c - 2) by omega]
    · rw [if_neg e]
      by_cases q : c * m ≤ j ∧ j < c * m + (c - 1)
      · rw [if_pos q, if_pos (by omega), at' _ (by omega) (by omega), at' _ (by omega) (by omega)]
        have := mod j (by omega) (by omega)
        unfold Qq9
        rw [if_neg h1, if_pos (by rw [this]; omega)]
      · rw [if_neg q, QhX, QE hj']
        by_cases r : j < c * m
        · rw [if_pos r, if_pos (by omega)]
        · rw [if_neg r, if_neg (by omega)]

def okM (c : Nat) (l : List Int) : Prop := 1 ≤ c ∧ c ≤ 6 ∧ 0 < l.length ∧ l.length ≤ 4000 ∧ l.length % c = 0 ∧ I32 l
theorem QiE {c : Nat} {l : List Int} (h : okM c l) : Qbo c l.length = 0 := by
  obtain ⟨h1, h2, h3, h4, h5, _⟩ := h
  unfold Qbo
  rw [if_neg (by omega), if_neg (by omega), if_neg (by rw [← Int.natCast_emod, h5]; simp)]

def QhL (P : Prg) (f : Nat) : Prop := ∀ (c : Nat) (l : List Int), okM c l → VC P f [.int .i64 c, il l] (.tup [il (XY c l), .int .i64 0])

theorem Ql7 {c m q : Nat} (h : c * m < c * q) : c * m + c ≤ c * q := by
  have : m < q := Nat.lt_of_mul_lt_mul_left h
  have := Nat.mul_le_mul_left c (show m + 1 ≤ q by omega)
  rw [Nat.mul_add, Nat.mul_one] at this
  exact this

theorem QtI {P : Prg} {f fC fK fM t : Nat} (b : Qj P f 32 [.tmp 4, .tmp 5] (Qdw fC fK fM)) (hC : Qet P fC) (hK : Qey t P fK) (hM : Qus P fM) : QhL P f := by
  intro c l hok
  obtain ⟨h1, h2, h3, h4, h5, h6⟩ := id hok
  have hc := QiE hok
  obtain ⟨q, hq⟩ : ∃ q, l.length = c * q := ⟨l.length / c, by have := Nat.div_add_mod l.length c; omega⟩
  refine VC.of_walk 1 (by simp [Qs, isD, QT]) (by simp [isD, Qs, QT]) (ACall.of_body b (by simp) ?_)
  simp (maxSteps := 4000000) (disch := omega) only [rr, aop, cV, cV1, AV.one, Qb, okW, Qd, app, Qa, Qc, Qe, Qf, Qg, simprocAttr, Qdw]
  refine Qh.vc (hC c l) ?_
  have n0 : l.length ≠ 0 := by omega
  simp (maxSteps := 4000000) (disch := omega) only [rr, aop, cV, cV1, AV.one, Qb, okW, Qd, app, Qa, Qc, Qe, Qf, Qg, simprocAttr, hc, n0]
  refine hK l [] _ h3 (by omega) ?_
  simp (maxSteps := 4000000) (disch := omega) only [rr, aop, cV, cV1, AV.one, Qb, okW, Qd, app, Qa, Qc, Qe, Qf, Qg, simprocAttr, n0]
  refine QW.by (ι := Nat) (fun m => ⟨[(8, .int .i64 (c * m : Nat)), (7, .own 0 l.length), (0, .int .i64 c)], [⟨t, 1, l.length, ks .i32 (QhX c l (c * m)), 0⟩]⟩) (fun m => m ≤ q) (fun m => q - m) 0 (by rw [Nat.mul_zero, QuU]; exact Le.slots (by simp [Am.look])) (by omega) ?_
  intro m hm
  by_cases hlt : c * m < l.length
  · have hs := Ql7 (c := c) (m := m) (q := q) (by rw [← hq]; exact hlt)
    rw [← hq] at hs
    have hmq : m < q := Nat.lt_of_mul_lt_mul_left (a := c) (b := m) (c := q) (by rw [← hq]; exact hlt)
    have e0 : c * m + c - c * m = c := by omega
    have hM' := hM t (QhX c l (c * m)) (c * m) c
    rw [Jh, QtG h1 hs] at hM'
    simp (maxSteps := 4000000) (disch := omega) only [rr, aop, cV, cV1, AV.one, Qb, okW, Qd, app, Qa, Qc, Qe, Qf, Qg, simprocAttr, e0, n0]
    refine hM' _ (QmT h6 _) h1 hs (by omega) ?_
    simp (maxSteps := 4000000) (disch := omega) only [rr, aop, cV, cV1, AV.one, Qb, okW, Qd, app, Qa, Qc, Qe, Qf, Qg, simprocAttr]
    exact ⟨m + 1, by omega, by omega, by rw [show c * (m + 1) = c * m + c by rw [Nat.mul_add, Nat.mul_one]]; exact Le.slots (by simp [Am.look])⟩
  · have e : c * m = l.length := by
      have := Nat.mul_le_mul_left c hm
      omega
    rw [e, Ql8]
    have lm := QbF c l
    simp (maxSteps := 4000000) (disch := omega) only [rr, aop, cV, cV1, AV.one, Qb, okW, Qd, app, Qa, Qc, Qe, Qf, Qg, simprocAttr]
    simp [Zr, QJ, QO, QI, Qs, isD, il, lm, Qr _ (Qx .i32 (XY c l))]
end Go.Am

namespace Go.Am
open Go.RowKit

theorem Le.drop1 {o : Ob} {xs : List Ob} {fr fr' : List (Nat × AV)} (h : X2 o.cs = true)
    (hfr : ∀ p ∈ fr', p.2 = .any ∨ QJ (fun o => decide (o < 1)) (fun o => decide (1 ≤ o)) (o :: xs) 2 [look fr p.1] = some [p.2]) : Le 0 ⟨fr, o :: xs⟩ ⟨fr', [o]⟩ := by
  refine Le.drop 1 2 (by omega) rfl hfr ?_
  intro i y hy
  match i, hy with
  | 0, hy =>
    simp at hy
    subst hy
    exact ⟨o.cs, by simp, by simp only [QJ]; exact Qr _ h⟩
  | i + 1, hy => simp at hy

end Go.Am

namespace Go.Am
open Go.RowKit

def Qb0 (c x : Int) (l : List Int) : Int := if Zf c x ≠ 0 then 2 else if QC x l ≠ 0 then QC x l else if l.length = 0 ∨ (l.length : Int) % c ≠ 0 then 2 else 0
theorem Qhz {c x : Int} {l : List Int} (h : Zf c x = 2) : Qb0 c x l = 2 := by simp [Qb0, h]
theorem QhA {c x : Int} {l : List Int} (h : Zf c x = 0) (h2 : QC x l ≠ 0) : Qb0 c x l = QC x l := by simp [Qb0, h, h2]
theorem Qfl {c x : Int} {l : List Int} (h : Zf c x = 0) (h2 : QC x l = 0) (h3 : l.length = 0 ∨ (l.length : Int) % c ≠ 0) : Qb0 c x l = 2 := by simp only [Qb0, h, h2, if_pos h3]; simp
theorem QqO {c x : Int} {l : List Int} (h : Zf c x = 0) (h2 : QC x l = 0) (h3 : ¬ (l.length = 0 ∨ (l.length : Int) % c ≠ 0)) : Qb0 c x l = 0 := by simp only [Qb0, h, h2, if_neg h3]; simp
theorem Q1 (c x : Int) : Zf c x = 2 ∨ (Zf c x = 0 ∧ Jj x ≠ 0 ∧ 1 ≤ c ∧ c ≤ 6) := by unfold Zf; split <;> omega
theorem Qdp (x : Int) (l : List Int) : QC x l = 2 ∨ QC x l = 4 ∨ QC x l = 16 ∨ (QC x l = 0 ∧ Jj x ≠ 0 ∧ l.length ≤ 4000) := by
  unfold QC
  by_cases h : Jj x = 0
  · simp [h]
  by_cases h2 : 4000 < l.length
  · simp [h, h2]
  by_cases h3 : l.all (inR x)
  · simp [h, h2, h3]; omega
  · simp [h, h2, h3]
theorem Qle {c x : Int} {l : List Int} (hI : I32 l) (h : Qb0 c x l = 0) : ∃ k : Nat, c = k ∧ okM k l ∧ Jj x ≠ 0 := by
  rcases Q1 c x with h1 | ⟨h1, h2, h3, h4⟩
  · rw [Qhz h1] at h; omega
  by_cases h5 : QC x l = 0
  · by_cases h6 : l.length = 0 ∨ (l.length : Int) % c ≠ 0
    · rw [Qfl h1 h5 h6] at h; omega
    · obtain ⟨k, rfl⟩ : ∃ k : Nat, c = k := ⟨c.toNat, by omega⟩
      refine ⟨k, rfl, ⟨by omega, by omega, by omega, by rcases Qdp x l with h | h | h | h <;> omega, by omega, hI⟩, h2⟩
  · rw [QhA h1 h5] at h; exact absurd h h5

def QgB (P : Prg) (f : Nat) : Prop := ∀ (c x : Int) (l : List Int), I32 l → VC P f [shA c x, il l] (.int .i64 (Qb0 c x l))

theorem Qg9 {P : Prg} {f fE fW t0 : Nat} (b : Qj P f 30 [.tmp 4] (Jc fE fW t0)) (hE : Jt P fE) (hW : JY P fW) : QgB P f := by
  intro c x l hI
  refine VC.of_acall (by simp [Qs, isD, QT, shA]) rfl (ACall.of_body b (by simp) ?_)
  have hE' := hE c x
  rw [shA] at hE'
  simp (maxSteps := 4000000) (disch := omega) only [rr, aop, cV, cV1, AV.one, Qb, okW, Qd, app, Qa, Qc, Qe, Qf, Qg, simprocAttr, Jc, shA]
  refine Qh.vc hE' ?_
  rcases Q1 c x with h1 | ⟨h1, h2, h3, h4⟩
  · simp (maxSteps := 4000000) (disch := omega) only [rr, aop, cV, cV1, AV.one, Qb, okW, Qd, app, Qa, Qc, Qe, Qf, Qg, simprocAttr, h1, Qhz h1]
  simp (maxSteps := 4000000) (disch := omega) only [rr, aop, cV, cV1, AV.one, Qb, okW, Qd, app, Qa, Qc, Qe, Qf, Qg, simprocAttr, h1]
  refine Qh.vc (hW x l hI) ?_
  by_cases h5 : QC x l = 0
  · have h9 : l.length ≤ 4000 := by rcases Qdp x l with h | h | h | h <;> omega
    by_cases h6 : l.length = 0
    · simp (maxSteps := 4000000) (disch := omega) only [rr, aop, cV, cV1, AV.one, Qb, okW, Qd, app, Qa, Qc, Qe, Qf, Qg, simprocAttr, h5, il, h6, Qfl h1 h5 (.inl h6)]
    · by_cases h7 : (l.length : Int) % c = 0
      · have hm := Qaj (n := l.length) (c := c) (by omega)
        simp (maxSteps := 4000000) (disch := omega) only [rr, aop, cV, cV1, AV.one, Qb, okW, Qd, app, Qa, Qc, Qe, Qf, Qg, simprocAttr, h5, il, h6, h7, QqO h1 h5 (by omega)]
      · have hm := Qaj (n := l.length) (c := c) (by omega)
        simp (maxSteps := 4000000) (disch := omega) only [rr, aop, cV, cV1, AV.one, Qb, okW, Qd, app, Qa, Qc, Qe, Qf, Qg, simprocAttr, h5, il, h6, h7, Qfl h1 h5 (.inr h7)]
  · simp (maxSteps := 4000000) (disch := omega) only [rr, aop, cV, cV1, AV.one, Qb, okW, Qd, app, Qa, Qc, Qe, Qf, Qg, simprocAttr, h5, QhA h1 h5]

theorem Qki {P : Prg} {f fE fW t0 : Nat} (b : Qj P f 28 [.tmp 4] (ZR fE fW t0)) (hE : Jt P fE) (hW : JY P fW) : QgB P f := by
  intro c x l hI
  refine VC.of_acall (by simp [Qs, isD, QT, shA]) rfl (ACall.of_body b (by simp) ?_)
  have hE' := hE c x
  rw [shA] at hE'
  simp (maxSteps := 4000000) (disch := omega) only [rr, aop, cV, cV1, AV.one, Qb, okW, Qd, app, Qa, Qc, Qe, Qf, Qg, simprocAttr, ZR, shA]
  refine Qh.vc hE' ?_
  rcases Q1 c x with h1 | ⟨h1, h2, h3, h4⟩
  · simp (maxSteps := 4000000) (disch := omega) only [rr, aop, cV, cV1, AV.one, Qb, okW, Qd, app, Qa, Qc, Qe, Qf, Qg, simprocAttr, h1, Qhz h1]
  simp (maxSteps := 4000000) (disch := omega) only [rr, aop, cV, cV1, AV.one, Qb, okW, Qd, app, Qa, Qc, Qe, Qf, Qg, simprocAttr, h1]
  refine Qh.vc (hW x l hI) ?_
  by_cases h5 : QC x l = 0
  · have h9 : l.length ≤ 4000 := by rcases Qdp x l with h | h | h | h <;> omega
    by_cases h6 : l.length = 0
    · simp (maxSteps := 4000000) (disch := omega) only [rr, aop, cV, cV1, AV.one, Qb, okW, Qd, app, Qa, Qc, Qe, Qf, Qg, simprocAttr, h5, il, h6, Qfl h1 h5 (.inl h6)]
    · by_cases h7 : (l.length : Int) % c = 0
      · have hm := Qaj (n := l.length) (c := c) (by omega)
        simp (maxSteps := 4000000) (disch := omega) only [rr, aop, cV, cV1, AV.one, Qb, okW, Qd, app, Qa, Qc, Qe, Qf, Qg, simprocAttr, h5, il, h6, h7, QqO h1 h5 (by omega)]
      · have hm := Qaj (n := l.length) (c := c) (by omega)
        have hp : 0 < (l.length : Int) % c := by omega
        simp (maxSteps := 4000000) (disch := omega) only [rr, aop, cV, cV1, AV.one, Qb, okW, Qd, app, Qa, Qc, Qe, Qf, Qg, simprocAttr, h5, il, h6, h7, Qfl h1 h5 (.inr h7)]
  · simp (maxSteps := 4000000) (disch := omega) only [rr, aop, cV, cV1, AV.one, Qb, okW, Qd, app, Qa, Qc, Qe, Qf, Qg, simprocAttr, h5]
    refine Qh.vc (hW x l hI) ?_
    simp (maxSteps := 4000000) (disch := omega) only [rr, aop, cV, cV1, AV.one, Qb, okW, Qd, app, Qa, Qc, Qe, Qf, Qg, simprocAttr, QhA h1 h5]

end Go.Am

namespace Go.Am
open Go.RowKit

/-! ### Six channels in one array -/

def six (S : Nat → ZV) : List AV := QS (S 0) ++ (QS (S 1) ++ (QS (S 2) ++ (QS (S 3) ++ (QS (S 4) ++ QS (S 5)))))
def okS (S : Nat → ZV) : Prop := ∀ k, Qbb (S k).fl
theorem Qdg {S : Nat → ZV} (h : okS S) : (six S).length = 210 := by simp [six, Zs (h _)]
theorem Qv4 {k : Nat} (h : k < 6) : k = 0 ∨ k = 1 ∨ k = 2 ∨ k = 3 ∨ k = 4 ∨ k = 5 := by omega
theorem QsH {S : Nat → ZV} (h : okS S) {k : Nat} (hk : k < 6) : ((six S).drop (k * 35)).take 35 = QS (S k) := by
  have l := fun k => Zs (h k)
  rcases Qv4 hk with rfl | rfl | rfl | rfl | rfl | rfl <;> simp [six, List.drop_append, List.take_append, l, List.drop_eq_nil_of_le, Qu]
def upd (S : Nat → ZV) (k : Nat) (c : ZV) : Nat → ZV := fun j => if j = k then c else S j
theorem QgR {S : Nat → ZV} (h : okS S) {k : Nat} (hk : k < 6) (c : ZV) : (six S).take (k * 35) ++ QS c ++ (six S).drop (k * 35 + 35) = six (upd S k c) := by
  have l := fun k => Zs (h k)
  rcases Qv4 hk with rfl | rfl | rfl | rfl | rfl | rfl <;> simp [six, upd, List.drop_append, List.take_append, l, List.drop_eq_nil_of_le, Qu]
theorem QpJ (c : ZV) : X2 (QS c) = true := by simp [QS, Ql, X2, isT, QeY, Qx]
theorem Qmg (S : Nat → ZV) : X2 (six S) = true := by simp [six, QeY, QpJ]
theorem QqT (S : Nat → ZV) : (six S).all AV.one = true := by simp only [six, List.all_append, ZX, Bool.and_self]

/-! ### What is coded -/

def stC (c : Nat) (L : List Int) (z : ZV) (k : Nat) : Nat → ZV
  | 0 => z
  | n + 1 => Qam (stC c L z k n) (L.getD (k + n * c) 0)
def QvP (c : Nat) (L : List Int) (z : ZV) (j : Nat) : Int := QfK (QfX (stC c L z (j % c) (j / c)) (L.getD j 0))
def QhW (c : Nat) (L : List Int) (z : ZV) (a : Nat) : List Int := (List.range a).map (QvP c L z)
theorem QcN (c : Nat) (L : List Int) (z : ZV) (a : Nat) : (QhW c L z a).length = a := by simp [QhW]
theorem Qps (c : Nat) (L : List Int) (z : ZV) (a : Nat) : QhW c L z a ++ [QvP c L z a] = QhW c L z (a + 1) := by simp [QhW, List.range_succ]
theorem Qpu {c : Nat} {L : List Int} {z : ZV} (hL : I32 L) (hz : Ql5 z) (k : Nat) : ∀ n, Ql5 (stC c L z k n)
  | 0 => hz
  | n + 1 => Qkl (Qpu hL hz k n) (Zc hL _)

def cnt (c k i : Nat) : Nat := if k < i % c then i / c + 1 else i / c
theorem Qvd (c k : Nat) : cnt c k 0 = 0 := by simp [cnt]
theorem Qmz (c i : Nat) : cnt c (i % c) i = i / c := by simp [cnt]
theorem Qmy {c k i : Nat} (hk : k < c) : cnt c k (i + 1) = if k = i % c then i / c + 1 else cnt c k i := by
  have hc : 0 < c := by omega
  have hr := Nat.mod_lt i hc
  have hi := Nat.div_add_mod i c
  unfold cnt
  by_cases h : i % c + 1 < c
  · have e1 : (i + 1) % c = i % c + 1 := by
      rw [show i + 1 = c * (i / c) + (i % c + 1) by omega, Nat.mul_add_mod, Nat.mod_eq_of_lt h]
    have e2 : (i + 1) / c = i / c := by
      rw [show i + 1 = (i % c + 1) + c * (i / c) by omega, Nat.add_mul_div_left _ _ hc, Nat.div_eq_of_lt h, Nat.zero_add]
    rw [e1, e2]
    split <;> split <;> (try split) <;> omega
  · have e0 : i + 1 = c * (i / c + 1) := by rw [Nat.mul_add]; omega
    have e1 : (i + 1) % c = 0 := by rw [e0, Nat.mul_mod_right]
    have e2 : (i + 1) / c = i / c + 1 := by rw [e0, Nat.mul_div_cancel_left _ hc]
    rw [e1, e2]
    split <;> split <;> (try split) <;> omega
def stA (c : Nat) (L : List Int) (z : ZV) (i : Nat) : Nat → ZV := fun k => if k < c then stC c L z k (cnt c k i) else z
theorem QvL (c : Nat) (L : List Int) (z : ZV) : stA c L z 0 = fun _ => z := by
  funext k; simp [stA, Qvd, stC]
theorem QuG {c : Nat} (hc : 1 ≤ c) (L : List Int) (z : ZV) (i : Nat) : stA c L z i (i % c) = stC c L z (i % c) (i / c) := by
  rw [stA, if_pos (Nat.mod_lt _ (by omega)), Qmz]
theorem Qrt {c : Nat} (hc : 1 ≤ c) (L : List Int) (z : ZV) (i : Nat) : upd (stA c L z i) (i % c) (Qam (stC c L z (i % c) (i / c)) (L.getD i 0)) = stA c L z (i + 1) := by
  funext k
  have hr := Nat.mod_lt i (show 0 < c by omega)
  by_cases hk : k < c
  · simp only [upd, stA, if_pos hk, Qmy hk]
    by_cases e : k = i % c
    · rw [if_pos e, if_pos e, e, stC]
      rw [show i % c + i / c * c = i by have := Nat.div_add_mod i c; rw [Nat.mul_comm]; omega]
    · rw [if_neg e, if_neg e]
  · simp only [upd, stA, if_neg hk]
    rw [if_neg (by omega)]
theorem QuR {c : Nat} {L : List Int} {z : ZV} (hL : I32 L) (hz : Ql5 z) (i : Nat) : okS (stA c L z i) := fun k => by
  unfold stA; split
  · exact (Qpu hL hz k _).2.2.1
  · exact hz.2.2.1
def Qgb (l : List Int) : AV := .list l.length (ks .u32 l)
theorem Qmh (l : List Int) : isD (Qgb l) = true := by simp [Qgb, isD, QY]
theorem Le.dropT (os : List Ob) {xs : List Ob} {fr fr' : List (Nat × AV)} (h : ∀ o ∈ os, X2 o.cs = true)
    (hfr : ∀ p ∈ fr', p.2 = .any ∨ QJ (fun o => decide (o < os.length)) (fun o => decide (os.length ≤ o)) (os ++ xs) 2 [look fr p.1] = some [p.2]) : Le 0 ⟨fr, os ++ xs⟩ ⟨fr', os⟩ := by
  refine Le.drop os.length 2 (by omega) rfl hfr ?_
  intro i y hy
  have hi : i < os.length := by
    rcases Nat.lt_or_ge i os.length with h | h
    · exact h
    · rw [List.getElem?_eq_none h] at hy; cases hy
  refine ⟨y.cs, by rw [List.getElem?_append_left hi]; exact hy, ?_⟩
  simp only [QJ]
  exact Qr _ (h y (List.mem_of_getElem? hy))
end Go.Am

namespace Go.Am
open Go.RowKit

def Qre (c x : Int) (t l : List Int) : AV := if Qb0 c x l ≠ 0 then .tup [.list 0 [], .int .i64 (Qb0 c x l)] else .tup [Qgb (QhW c.toNat (XY c.toNat l) (Jv x t) l.length), .int .i64 0]
theorem QtQ (c x : Int) (t l : List Int) : isD (Qre c x t l) = true := by unfold Qre; split <;> simp [isD, Qs, Qmh]
def Qlu (P : Prg) (f : Nat) : Prop := ∀ (c x : Int) (t l : List Int), t.length = 16 → I32 t → I32 l → VC P f [shA c x, .agg (ks .i32 t), il l] (Qre c x t l)

theorem QcO : Qbb Qat.fl := ⟨by simp [Qat, QhZ, z16], by simp [Qat, QhZ, z16], fun x hx => by simp [Qat, QhZ, z16] at hx; omega, fun x hx => by simp [Qat, QhZ, z16] at hx; omega⟩
def QpB (z : ZV) (i : Nat) : Nat → ZV := fun k => if k < i then z else Qat
theorem QsM (z : ZV) : QpB z 0 = fun _ => Qat := by funext k; simp [QpB]
theorem QiG (z : ZV) (i : Nat) : upd (QpB z i) i z = QpB z (i + 1) := by
  funext k
  simp only [upd, QpB]
  split <;> split <;> (try split) <;> first | rfl | omega
theorem Qpx {z : ZV} (h : Qbb z.fl) (i : Nat) : okS (QpB z i) := fun k => by
  unfold QpB; split
  · exact h
  · exact QcO
theorem QuJ (z : ZV) : six (QpB z 6) = six (fun _ => z) := by simp [six, QpB]
theorem Qpy {x : Int} (hx : Jj x ≠ 0) {t : List Int} (hl : t.length = 16) (hI : I32 t) : Ql5 (Jv x t) := ⟨hx, rfl, Qpz hl hI, by simp [Jv]⟩

set_option maxRecDepth 20000 in
theorem QfM {P : Prg} {f fA fM fN fF fO t0 t1 t2 t3 t4 : Nat} (b : Qj P f 83 [.tmp 6, .tmp 7] (XM fA fM fN fF fO t0 t1 t2 t3 t4)) (hA : QgB P fA) (hM : QhL P fM) (hN : QmP P fN) (hF : QdC P fF) (hO : QqY P fO) : Qlu P f := by
  intro c x t l hl hI hL
  have hk : (ks .i32 t).length = 16 := by simp [Qk, hl]
  have ot := XZ .i32 t
  have tt : (ks .i32 t).take 16 = ks .i32 t := Qu (by omega)
  refine VC.of_walk 1 (by simp [Qs, isD, QT, QY, shA]) (QtQ _ _ _ _) (ACall.of_body b (by simp) ?_)
  have hA' := hA c x l hL
  rw [shA] at hA'
  unfold XM
  rw [show ([.int .i64 0, .int .i32 0, .int .i64 0, .int .i32 0, .int .i32 0, .int .i32 0, .int .i32 0, .int .i32 0, .int .i32 0, .int .i32 0, .int .i32 0, .int .i32 0, .int .i32 0, .int .i32 0, .int .i32 0, .int .i32 0, .int .i32 0, .int .i32 0, .int .i32 0, .int .i32 0, .int .i32 0, .int .i32 0, .int .i32 0, .int .i32 0, .int .i32 0, .int .i32 0, .int .i32 0, .int .i32 0, .int .i32 0, .int .i32 0, .int .i32 0, .int .i32 0, .int .i32 0, .int .i32 0, .int .i32 0, .int .i64 0, .int .i32 0, .int .i64 0, .int .i32 0, .int .i32 0, .int .i32 0, .int .i32 0, .int .i32 0, .int .i32 0, .int .i32 0, .int .i32 0, .int .i32 0, .int .i32 0, .int .i32 0, .int .i32 0, .int .i32 0, .int .i32 0, .int .i32 0, .int .i32 0, .int .i32 0, .int .i32 0, .int .i32 0, .int .i32 0, .int .i32 0, .int .i32 0, .int .i32 0, .int .i32 0, .int .i32 0, .int .i32 0, .int .i32 0, .int .i32 0, .int .i32 0, .int .i32 0, .int .i32 0, .int .i32 0, .int .i64 0, .int .i32 0, .int .i64 0, .int .i32 0, .int .i32 0, .int .i32 0, .int .i32 0, .int .i32 0, .int .i32 0, .int .i32 0, .int .i32 0, .int .i32 0, .int .i32 0, .int .i32 0, .int .i32 0, .int .i32 0, .int .i32 0, .int .i32 0, .int .i32 0, .int .i32 0, .int .i32 0, .int .i32 0, .int .i32 0, .int .i32 0, .int .i32 0, .int .i32 0, .int .i32 0, .int .i32 0, .int .i32 0, .int .i32 0, .int .i32 0, .int .i32 0, .int .i32 0, .int .i32 0, .int .i32 0, .int .i64 0, .int .i32 0, .int .i64 0, .int .i32 0, .int .i32 0, .int .i32 0, .int .i32 0, .int .i32 0, .int .i32 0, .int .i32 0, .int .i32 0, .int .i32 0, .int .i32 0, .int .i32 0, .int .i32 0, .int .i32 0, .int .i32 0, .int .i32 0, .int .i32 0, .int .i32 0, .int .i32 0, .int .i32 0, .int .i32 0, .int .i32 0, .int .i32 0, .int .i32 0, .int .i32 0, .int .i32 0, .int .i32 0, .int .i32 0, .int .i32 0, .int .i32 0, .int .i32 0, .int .i32 0, .int .i32 0, .int .i64 0, .int .i32 0, .int .i64 0, .int .i32 0, .int .i32 0, .int .i32 0, .int .i32 0, .int .i32 0, .int .i32 0, .int .i32 0, .int .i32 0, .int .i32 0, .int .i32 0, .int .i32 0, .int .i32 0, .int .i32 0, .int .i32 0, .int .i32 0, .int .i32 0, .int .i32 0, .int .i32 0, .int .i32 0, .int .i32 0, .int .i32 0, .int .i32 0, .int .i32 0, .int .i32 0, .int .i32 0, .int .i32 0, .int .i32 0, .int .i32 0, .int .i32 0, .int .i32 0, .int .i32 0, .int .i32 0, .int .i64 0, .int .i32 0, .int .i64 0, .int .i32 0, .int .i32 0, .int .i32 0, .int .i32 0, .int .i32 0, .int .i32 0, .int .i32 0, .int .i32 0, .int .i32 0, .int .i32 0, .int .i32 0, .int .i32 0, .int .i32 0, .int .i32 0, .int .i32 0, .int .i32 0, .int .i32 0, .int .i32 0, .int .i32 0, .int .i32 0, .int .i32 0, .int .i32 0, .int .i32 0, .int .i32 0, .int .i32 0, .int .i32 0, .int .i32 0, .int .i32 0, .int .i32 0, .int .i32 0, .int .i32 0, .int .i32 0] : List AV) = six (fun _ => Qat) from rfl, ← Qbx]
  simp (maxSteps := 4000000) (disch := omega) only [rr, aop, cV, cV1, AV.one, Qb, okW, Qd, app, Qa, Qc, Qe, Qf, Qg, simprocAttr, shA, hk, ot, tt]
  refine Qh.vc hA' ?_
  by_cases h0 : Qb0 c x l = 0
  · obtain ⟨k, rfl, hok, hx⟩ := Qle hL h0
    have hz := Qpy hx hl hI
    have l0 := Qdg (S := fun _ => Qat) (fun _ => QcO)
    have o0 := QqT (fun _ => Qat)
    simp (maxSteps := 4000000) (disch := omega) only [rr, aop, cV, cV1, AV.one, Qb, okW, Qd, app, Qa, Qc, Qe, Qf, Qg, simprocAttr, h0]
    refine Qh.vc (hM k l hok) ?_
    obtain ⟨h1, h2, h3, h4, h5, h6⟩ := id hok
    have lm := QbF k l
    have hI2 := Qoa (c := k) hL
    have tm : X2 (ks .i32 (XY k l)) = true := Qx _ _
    generalize hm : XY k l = m at lm hI2 tm
    simp (maxSteps := 4000000) (disch := omega) only [rr, aop, cV, cV1, AV.one, Qb, okW, Qd, app, Qa, Qc, Qe, Qf, Qg, simprocAttr, l0, o0]
    refine QW.by (ι := Nat) (fun i => ⟨[(36, .int .i64 i), (11, .ref 2 1 0), (9, il m), (4, .ref 1 1 0), (3, .ref 0 1 0)], [⟨t0, 2, 1, [.int .i64 k, .int .i64 x], 0⟩, ⟨t1, 16, 1, ks .i32 t, 0⟩, ⟨t2, 210, 1, six (QpB (Jv x t) i), 0⟩]⟩) (fun i => i ≤ 6) (fun i => 6 - i) 0 (by rw [QsM]; exact Le.slots (by simp [Am.look])) (by omega) ?_
    intro i hi
    have oS := Qpx hz.2.2.1 i
    have lS := Qdg oS
    by_cases hlt : i < 6
    · have e1 := QgR oS hlt (Jv x t)
      rw [QiG] at e1
      have lc := Zs hz.2.2.1
      have oc := ZX (Jv x t)
      simp (maxSteps := 4000000) (disch := omega) only [rr, aop, cV, cV1, AV.one, Qb, okW, Qd, app, Qa, Qc, Qe, Qf, Qg, simprocAttr, hk, tt]
      refine Qh.vc (hN x t hl hI) ?_
      simp (maxSteps := 4000000) (disch := omega) only [rr, aop, cV, cV1, AV.one, Qb, okW, Qd, app, Qa, Qc, Qe, Qf, Qg, simprocAttr, QkS, if_neg hx, lS, lc, oc, e1]
      exact ⟨i + 1, by omega, by omega, Le.slots (by simp [Am.look])⟩
    · have : i = 6 := by omega
      subst this
      simp (maxSteps := 4000000) (disch := omega) only [rr, aop, cV, cV1, AV.one, Qb, okW, Qd, app, Qa, Qc, Qe, Qf, Qg, simprocAttr, il]
      refine QW.by (ι := Nat) (fun i => ⟨[(51, .int .i64 i), (50, .int .i64 m.length), (49, il m), (13, .own 3 i), (11, .ref 2 1 0), (3, .ref 0 1 0)], [⟨t0, 2, 1, [.int .i64 k, .int .i64 x], 0⟩, ⟨t1, 16, 1, ks .i32 t, 0⟩, ⟨t2, 210, 1, six (stA k m (Jv x t) i), 0⟩, ⟨t4, 1, i, ks .u32 (QhW k m (Jv x t) i), 0⟩]⟩) (fun i => i ≤ m.length) (fun i => m.length - i) 0 (by rw [QvL, ← QuJ]; exact Le.trans (Le.virt 13 t4 1 (by omega) rfl) (Le.slots (by simp [Am.look, QhW, il]))) (by omega) ?_
      intro i hi
      have lo := QcN k m (Jv x t) i
      by_cases hlt : i < m.length
      · have oS := QuR hI2 hz (c := k) i
        have lS := Qdg oS
        have hr := Nat.mod_lt i (show 0 < k by omega)
        have e0 := QsH oS (k := i % k) (by omega)
        rw [QuG h1] at e0
        have e1 := QgR oS (k := i % k) (by omega) (Qam (stC k m (Jv x t) (i % k) (i / k)) (m.getD i 0))
        rw [Qrt h1] at e1
        have hok2 := Qpu (c := k) hI2 hz (i % k) (i / k)
        have hok3 := Qkl hok2 (Zc hI2 i)
        have hF' := hF _ (m.getD i 0) hok2 (Zc hI2 i)
        have hO' := hO (QfX (stC k m (Jv x t) (i % k) (i / k)) (m.getD i 0)) (XD _)
        have e2 := Qci (K := .i32) (l := m) (i := i) hlt
        have e3 : ks .u32 (QhW k m (Jv x t) i) ++ [.int .u32 (QfK (QfX (stC k m (Jv x t) (i % k) (i / k)) (m.getD i 0)))] = ks .u32 (QhW k m (Jv x t) (i + 1)) := by rw [Qg5, ← Qps]; rfl
        have lc := Zs hok3.2.2.1
        have oc := ZX (Qam (stC k m (Jv x t) (i % k) (i / k)) (m.getD i 0))
        have tc : (QS (Qam (stC k m (Jv x t) (i % k) (i / k)) (m.getD i 0))).take 35 = QS (Qam (stC k m (Jv x t) (i % k) (i / k)) (m.getD i 0)) := Qu (by omega)
        have lz := Zs QcO
        have oz := ZX Qat
        have dz : (QS Qat).drop 35 = [] := List.drop_eq_nil_of_le (by omega)
        have em : (i : Int) % k = (i % k : Nat) := by omega
        simp (maxSteps := 4000000) (disch := omega) only [rr, aop, cV, cV1, AV.one, Qb, okW, Qd, app, Qa, Qc, Qe, Qf, Qg, simprocAttr, il, e2, em, e0]
        refine Qh.vc hF' ?_
        simp (maxSteps := 4000000) (disch := omega) only [rr, aop, cV, cV1, AV.one, Qb, okW, Qd, app, Qa, Qc, Qe, Qf, Qg, simprocAttr, lz, oz, lc, oc, tc, e1, lS, dz, List.append_nil]
        refine Qh.vc hO' ?_
        simp (maxSteps := 4000000) (disch := omega) only [rr, aop, cV, cV1, AV.one, Qb, okW, Qd, app, Qa, Qc, Qe, Qf, Qg, simprocAttr, e3]
        exact ⟨i + 1, by omega, by omega, Le.dropT [_, _, _, _] (by simp [Qmg, Qx, X2, isT]) (by simp [Am.look, QJ, QO, QI, Qr _ tm])⟩
      · have : i = m.length := by omega
        subst this
        have e9 : Qre k x t l = .tup [Qgb (QhW k m (Jv x t) m.length), .int .i64 0] := by simp [Qre, h0, hm, lm]
        clear hi hlt
        have hq : ¬ (m.length : Int) < m.length := by omega
        simp (maxSteps := 4000000) (disch := omega) only [rr, aop, cV, cV1, AV.one, Qb, okW, Qd, app, Qa, Qc, Qe, Qf, Qg, simprocAttr, e9]
        simp [Zr, QJ, QO, QI, Qs, isD, Qgb, lo, Qr _ (Qx .u32 _)]
  · have e9 : Qre c x t l = .tup [.list 0 [], .int .i64 (Qb0 c x l)] := by simp [Qre, h0]
    simp (maxSteps := 4000000) (disch := omega) only [rr, aop, cV, cV1, AV.one, Qb, okW, Qd, app, Qa, Qc, Qe, Qf, Qg, simprocAttr, h0, e9]
    simp [Zr, QJ, QO, QI, Qs, isD]
end Go.Am

namespace Go.Am
open Go.RowKit

theorem QsJ (K : IntKind) : ∀ n : Nat, Qq [.int K 0] n = ks K (List.replicate n 0)
  | 0 => rfl
  | n + 1 => by rw [Qq, QsJ K n]; simp [ks, List.replicate_succ]

end Go.Am

namespace Go.Am
open Go.RowKit

def QuD : Sh := .tuple (List.replicate 16 (.int .i32))
theorem Qgm (K : IntKind) : ∀ (n : Nat) (cs0 : List AV), Qda (List.replicate n (.int K)) cs0 → ∃ t : List Int, cs0 = ks K t ∧ t.length = n ∧ ∀ x ∈ t, K.min ≤ x ∧ x ≤ K.max
  | 0, cs0, h => by
    simp only [List.replicate, Qda] at h
    exact ⟨[], by simpa [ks] using h, rfl, by simp⟩
  | n + 1, cs0, h => by
    simp only [List.replicate, Qda, Qaq] at h
    obtain ⟨_, r, rfl, ⟨x, rfl, h1, h2⟩, h3⟩ := h
    obtain ⟨t, rfl, h4, h5⟩ := Qgm K n r h3
    exact ⟨x :: t, by simp [ks], by simp [h4], fun y hy => by
      rcases List.mem_cons.1 hy with rfl | hy
      · exact ⟨h1, h2⟩
      · exact h5 y hy⟩
theorem Qu2 {cs0 : List AV} (h : Qaq QuD cs0) : ∃ t : List Int, cs0 = ks .i32 t ∧ t.length = 16 ∧ I32 t := by
  simp only [QuD, Qaq] at h
  obtain ⟨t, h1, h2, h3⟩ := Qgm .i32 16 cs0 h
  exact ⟨t, h1, h2, fun x hx => by have := h3 x hx; simpa [IntKind.min, IntKind.max, IntKind.signed, IntKind.bits] using this⟩
end Go.Am

namespace Go.Am
open Go.RowKit

/-! ### Unmixing -/

def ud (l : List Int) (b c : Nat) : Nat → Int
  | 0 => if c = 1 then l.getD b 0 else w32 (l.getD (b + (c - 1)) 0 + (l.getD (b + (c - 2)) 0).tdiv 2)
  | d + 1 => w32 (ud l b c d - l.getD (b + (c - 2 - d)) 0)
theorem QlK {l l' : List Int} {b b' c : Nat} (hc : 1 ≤ c) (h : ∀ j, j < c → l.getD (b + j) 0 = l'.getD (b' + j) 0) : ∀ d, ud l b c d = ud l' b' c d
  | 0 => by
    unfold ud
    have h0 := h 0 (by omega)
    simp only [Nat.add_zero] at h0
    rw [h0, h (c - 1) (by omega), h (c - 2) (by omega)]
  | d + 1 => by
    unfold ud
    rw [QlK hc h d, h (c - 2 - d) (by omega)]
theorem QuA {l : List Int} (h : I32 l) (b c : Nat) : ∀ d, -2147483648 ≤ ud l b c d ∧ ud l b c d ≤ 2147483647
  | 0 => by
    unfold ud; split
    · exact Zc h b
    · exact XD _
  | d + 1 => by unfold ud; exact XD _
def Qfu (L : List Int) (k n d : Nat) : List Int := (List.range L.length).map fun j => if k + (n - 1 - d) ≤ j ∧ j < k + n then ud L k n (k + n - 1 - j) else L.getD j 0
theorem Jg (L : List Int) (k n d : Nat) : (Qfu L k n d).length = L.length := by simp [Qfu]
theorem Qtt {L : List Int} {k n d j : Nat} (h : j < L.length) (h1 : k + (n - 1 - d) ≤ j) (h2 : j < k + n) : (Qfu L k n d).getD j 0 = ud L k n (k + n - 1 - j) := by
  rw [Qfu, QE h, if_pos ⟨h1, h2⟩]
theorem QrD {L : List Int} {k n d j : Nat} (h : j < L.length) (h1 : j < k + (n - 1 - d)) : (Qfu L k n d).getD j 0 = L.getD j 0 := by
  rw [Qfu, QE h, if_neg (by omega)]
theorem QuO {L : List Int} {k n : Nat} (h1 : 1 ≤ n) (h : k + n ≤ L.length) : L.set (k + (n - 1)) (ud L k n 0) = Qfu L k n 0 := ZW (by simp [Jg]) fun j hj => by
  have hj' : j < L.length := by simpa using hj
  rw [Qek hj', Qfu, QE hj']
  by_cases e : k + (n - 1) = j
  · subst e
    rw [if_pos rfl, if_pos (by omega), show k + n - 1 - (k + (n - 1)) = 0 by omega]
  · rw [if_neg e, if_neg (by omega)]
theorem QuN {L : List Int} {k : Nat} : Qfu L k 1 0 = L := ZW (by simp [Jg]) fun j hj => by
  rw [Jg] at hj
  rw [Qfu, QE hj]
  split
  · rw [show j = k by omega, show k + 1 - 1 - k = 0 by omega]; simp [ud]
  · rfl
theorem Qo4 {L : List Int} {k n d : Nat} (hd : d + 1 < n) (h : k + n ≤ L.length) : (Qfu L k n d).set (k + (n - 2 - d)) (w32 (ud L k n d - L.getD (k + (n - 2 - d)) 0)) = Qfu L k n (d + 1) := ZW (by simp [Jg]) fun j hj => by
  have hj' : j < L.length := by simpa [Jg] using hj
  rw [Qek (by rw [Jg]; exact hj'), Qfu, Qfu, QE hj', QE hj']
  by_cases e : k + (n - 2 - d) = j
  · subst e
    rw [if_pos rfl, if_pos (by omega), show k + n - 1 - (k + (n - 2 - d)) = d + 1 by omega]
    rfl
  · rw [if_neg e]
    by_cases q : k + (n - 1 - d) ≤ j ∧ j < k + n
    · rw [if_pos q, if_pos (by omega)]
    · rw [if_neg q, if_neg (by omega)]
def Qln (P : Prg) (f : Nat) : Prop := ∀ (t : Nat) (L : List Int) (k n : Nat) (K : AV → List Ob → Prop), I32 L → 1 ≤ n → k + n ≤ L.length → L.length ≤ 1000000 →
  K (.tup []) [⟨t, 1, L.length, ks .i32 (Qfu L k n (n - 1)), 0⟩] → ACall P f [.view 0 L.length k n] [⟨t, 1, L.length, ks .i32 L, 0⟩] K

theorem QpC {P : Prg} {f : Nat} (b : Qj P f 40 [] JS) : Qln P f := by
  intro t L k n K hL h1 h2 h3 hK
  refine ACall.of_body b (by simp) ?_
  by_cases hn : n = 1
  · subst hn
    simp (maxSteps := 4000000) (disch := omega) only [rr, aop, cV, cV1, AV.one, Qb, okW, Qd, app, Qa, Qc, Qe, Qf, Qg, simprocAttr, JS]
    refine QW.by (ι := Nat) (fun d => ⟨[(3, .int .i64 (-1)), (0, .view 0 L.length k 1)], [⟨t, 1, L.length, ks .i32 (Qfu L k 1 0), 0⟩]⟩) (fun _ => True) (fun d => d) 0 (by rw [QuN]; exact Le.slots (by simp [Am.look])) trivial ?_
    intro d _
    simp (maxSteps := 4000000) (disch := omega) only [rr, aop, cV, cV1, AV.one, Qb, okW, Qd, app, Qa, Qc, Qe, Qf, Qg, simprocAttr]
    exact hK
  · have e1 := Qci (K := .i32) (l := L) (i := k + (n - 1)) (by omega)
    have e2 := Qci (K := .i32) (l := L) (i := k + (n - 1 - 1)) (by omega)
    have e3 := fun v => Qme (K := .i32) (l := L) (i := k + (n - 1)) (by omega) v
    have hr := Qil (Zc hL (k + (n - 2)))
    have a0 := QuO (L := L) (k := k) h1 h2
    have u0 : ud L k n 0 = w32 (L.getD (k + (n - 1)) 0 + (L.getD (k + (n - 2)) 0).tdiv 2) := by rw [ud, if_neg hn]
    rw [u0] at a0
    rw [show n - 1 - 1 = n - 2 by omega] at e2
    have en : n - 1 - 1 = n - 2 := by omega
    simp (maxSteps := 4000000) (disch := omega) only [rr, aop, cV, cV1, AV.one, Qb, okW, Qd, app, Qa, Qc, Qe, Qf, Qg, simprocAttr, JS, e1, en, e2, e3, Xd, a0]
    refine QW.by (ι := Nat) (fun d => ⟨[(3, .int .i64 ((n : Int) - 2 - d)), (0, .view 0 L.length k n)], [⟨t, 1, L.length, ks .i32 (Qfu L k n d), 0⟩]⟩) (fun d => d ≤ n - 1) (fun d => n - 1 - d) 0 (Le.slots (by simp [Am.look]; omega)) (by omega) ?_
    intro d hd
    have ls := Jg L k n d
    by_cases hlt : d < n - 1
    · have f1 := Qci (K := .i32) (l := Qfu L k n d) (i := k + (n - 1 - d)) (by omega)
      have f2 := Qci (K := .i32) (l := Qfu L k n d) (i := k + (n - 2 - d)) (by omega)
      have f3 := fun v => Qme (K := .i32) (l := Qfu L k n d) (i := k + (n - 2 - d)) (by omega) v
      rw [Qtt (by omega) (by omega) (by omega), show k + n - 1 - (k + (n - 1 - d)) = d by omega, show n - 1 - d = n - 2 - d + 1 by omega] at f1
      rw [QrD (by omega) (by omega)] at f2
      have a3 := Qo4 (L := L) (k := k) (n := n) (d := d) (by omega) h2
      simp (maxSteps := 4000000) (disch := omega) only [rr, aop, cV, cV1, AV.one, Qb, okW, Qd, app, Qa, Qc, Qe, Qf, Qg, simprocAttr, f1, f2, f3, Xd, a3, ls]
      exact ⟨d + 1, by omega, by omega, Le.slots (by simp [Am.look]; omega)⟩
    · have e : d = n - 1 := by omega
      subst e
      simp (maxSteps := 4000000) (disch := omega) only [rr, aop, cV, cV1, AV.one, Qb, okW, Qd, app, Qa, Qc, Qe, Qf, Qg, simprocAttr]
      exact hK
end Go.Am

namespace Go.Am
open Go.RowKit

def Qtc (c : Nat) (l : List Int) (j : Nat) : Int := ud l (c * (j / c)) c (c - 1 - j % c)
def Qvx (c : Nat) (l : List Int) (a : Nat) : List Int := (List.range a).map (Qtc c l)
def QjV (c : Nat) (l : List Int) (a : Nat) : List Int := (List.range l.length).map fun j => if j < a then Qtc c l j else l.getD j 0
def Qa4 (c : Nat) (l : List Int) : List Int := Qvx c l l.length
theorem QbA (c : Nat) (l : List Int) (a : Nat) : (QjV c l a).length = l.length := by simp [QjV]
theorem Quz (c : Nat) (l : List Int) : QjV c l 0 = l := ZW (QbA _ _ _) fun j hj => by
  rw [QbA] at hj; rw [QjV, QE hj, if_neg (by omega)]
theorem QlJ (c : Nat) (l : List Int) : QjV c l l.length = Qa4 c l := by
  simp only [QjV, Qa4, Qvx]
  apply List.map_congr_left
  intro j hj
  rw [if_pos (by simpa using hj)]
theorem Qri {c : Nat} {l : List Int} (h : I32 l) (j : Nat) : -2147483648 ≤ Qtc c l j ∧ Qtc c l j ≤ 2147483647 := QuA h _ _ _
theorem QmS {c : Nat} {l : List Int} (h : I32 l) (a : Nat) : I32 (QjV c l a) := by
  intro v hv
  simp only [QjV, List.mem_map] at hv
  obtain ⟨j, _, rfl⟩ := hv
  split
  · exact Qri h j
  · exact Zc h j
theorem QgC {c : Nat} {l : List Int} (h : I32 l) : I32 (Qa4 c l) := by rw [← QlJ]; exact QmS h _
theorem Qah (c : Nat) (l : List Int) : (Qa4 c l).length = l.length := by simp [Qa4, Qvx]
theorem QnI {c m r : Nat} (h : r < c) : (c * m + r) / c = m ∧ (c * m + r) % c = r := by
  rw [Nat.mul_add_mod, Nat.mod_eq_of_lt h, Nat.mul_add_div (by omega), Nat.div_eq_of_lt h]; simp

theorem Qtb {c : Nat} {l : List Int} {m : Nat} (hc : 1 ≤ c) (h : c * m + c ≤ l.length) : Qfu (QjV c l (c * m)) (c * m) c (c - 1) = QjV c l (c * m + c) := ZW (by simp [Jg, QbA]) fun j hj => by
  have hj' : j < l.length := by simpa [Jg, QbA] using hj
  rw [Qfu, QbA, QE hj']
  conv => rhs; rw [QjV, QE hj']
  by_cases q : c * m ≤ j ∧ j < c * m + c
  · rw [if_pos (by omega), if_pos q.2]
    have e := QnI (c := c) (m := m) (r := j - c * m) (by omega)
    rw [show c * m + (j - c * m) = j by omega] at e
    rw [Qtc, e.1, e.2, show c * m + c - 1 - j = c - 1 - (j - c * m) by omega]
    refine QlK hc (fun i hi => ?_) _
    rw [QjV, QE (by omega), if_neg (by omega)]
  · rw [if_neg (by omega), QjV, QE hj']
    by_cases r : j < c * m
    · rw [if_pos r, if_pos (by omega)]
    · rw [if_neg r, if_neg (by omega)]

def Qfp (P : Prg) (f : Nat) : Prop := ∀ (c : Nat) (l : List Int), okM c l → VC P f [.int .i64 c, il l] (.tup [il (Qa4 c l), .int .i64 0])

theorem QrU {P : Prg} {f fC fK fM t : Nat} (b : Qj P f 32 [.tmp 4, .tmp 5] (Qcp fC fK fM)) (hC : Qet P fC) (hK : Qey t P fK) (hM : Qln P fM) : Qfp P f := by
  intro c l hok
  obtain ⟨h1, h2, h3, h4, h5, h6⟩ := id hok
  have hc := QiE hok
  obtain ⟨q, hq⟩ : ∃ q, l.length = c * q := ⟨l.length / c, by have := Nat.div_add_mod l.length c; omega⟩
  refine VC.of_walk 1 (by simp [Qs, isD, QT]) (by simp [isD, Qs, QT]) (ACall.of_body b (by simp) ?_)
  simp (maxSteps := 4000000) (disch := omega) only [rr, aop, cV, cV1, AV.one, Qb, okW, Qd, app, Qa, Qc, Qe, Qf, Qg, simprocAttr, Qcp]
  refine Qh.vc (hC c l) ?_
  have n0 : l.length ≠ 0 := by omega
  simp (maxSteps := 4000000) (disch := omega) only [rr, aop, cV, cV1, AV.one, Qb, okW, Qd, app, Qa, Qc, Qe, Qf, Qg, simprocAttr, hc, n0]
  refine hK l [] _ h3 (by omega) ?_
  simp (maxSteps := 4000000) (disch := omega) only [rr, aop, cV, cV1, AV.one, Qb, okW, Qd, app, Qa, Qc, Qe, Qf, Qg, simprocAttr, n0]
  refine QW.by (ι := Nat) (fun m => ⟨[(8, .int .i64 (c * m : Nat)), (7, .own 0 l.length), (0, .int .i64 c)], [⟨t, 1, l.length, ks .i32 (QjV c l (c * m)), 0⟩]⟩) (fun m => m ≤ q) (fun m => q - m) 0 (by rw [Nat.mul_zero, Quz]; exact Le.slots (by simp [Am.look])) (by omega) ?_
  intro m hm
  by_cases hlt : c * m < l.length
  · have hs := Ql7 (c := c) (m := m) (q := q) (by rw [← hq]; exact hlt)
    rw [← hq] at hs
    have hmq : m < q := Nat.lt_of_mul_lt_mul_left (a := c) (b := m) (c := q) (by rw [← hq]; exact hlt)
    have e0 : c * m + c - c * m = c := by omega
    have hM' := hM t (QjV c l (c * m)) (c * m) c
    rw [QbA, Qtb h1 hs] at hM'
    simp (maxSteps := 4000000) (disch := omega) only [rr, aop, cV, cV1, AV.one, Qb, okW, Qd, app, Qa, Qc, Qe, Qf, Qg, simprocAttr, e0, n0]
    refine hM' _ (QmS h6 _) h1 hs (by omega) ?_
    simp (maxSteps := 4000000) (disch := omega) only [rr, aop, cV, cV1, AV.one, Qb, okW, Qd, app, Qa, Qc, Qe, Qf, Qg, simprocAttr]
    exact ⟨m + 1, by omega, by omega, by rw [show c * (m + 1) = c * m + c by rw [Nat.mul_add, Nat.mul_one]]; exact Le.slots (by simp [Am.look])⟩
  · have e : c * m = l.length := by
      have := Nat.mul_le_mul_left c hm
      omega
    rw [e, QlJ]
    have lm := Qah c l
    simp (maxSteps := 4000000) (disch := omega) only [rr, aop, cV, cV1, AV.one, Qb, okW, Qd, app, Qa, Qc, Qe, Qf, Qg, simprocAttr]
    simp [Zr, QJ, QO, QI, Qs, isD, il, lm, Qr _ (Qx .i32 (Qa4 c l))]

/-! ### The reference -/

end Go.Am

namespace Go.Am
open Go.RowKit

/-! ### What is uncoded -/

def stB (c : Nat) (L : List Int) (z : ZV) (k : Nat) : Nat → ZV
  | 0 => z
  | n + 1 => Qan (stB c L z k n) (L.getD (k + n * c) 0)
def QvY (c : Nat) (L : List Int) (z : ZV) (j : Nat) : Int := Qdq (stB c L z (j % c) (j / c)) (L.getD j 0)
def Qjc (c : Nat) (L : List Int) (z : ZV) (a : Nat) : List Int := (List.range a).map (QvY c L z)
theorem QbP (c : Nat) (L : List Int) (z : ZV) (a : Nat) : (Qjc c L z a).length = a := by simp [Qjc]
theorem QqG (c : Nat) (L : List Int) (z : ZV) (a : Nat) : Qjc c L z a ++ [QvY c L z a] = Qjc c L z (a + 1) := by simp [Qjc, List.range_succ]
theorem QeA (c : Nat) (L : List Int) (z : ZV) (a : Nat) : I32 (Qjc c L z a) := by
  intro v hv
  simp only [Qjc, List.mem_map] at hv
  obtain ⟨j, _, rfl⟩ := hv
  exact XD _
theorem Qpv {c : Nat} {L : List Int} {z : ZV} (hz : Ql5 z) (k : Nat) : ∀ n, Ql5 (stB c L z k n)
  | 0 => hz
  | n + 1 => Qkm (Qpv hz k n) _
def QoK (c : Nat) (L : List Int) (z : ZV) (i : Nat) : Nat → ZV := fun k => if k < c then stB c L z k (cnt c k i) else z
theorem QuH (c : Nat) (L : List Int) (z : ZV) : QoK c L z 0 = fun _ => z := by
  funext k; simp [QoK, Qvd, stB]
theorem Qte {c : Nat} (hc : 1 ≤ c) (L : List Int) (z : ZV) (i : Nat) : QoK c L z i (i % c) = stB c L z (i % c) (i / c) := by
  rw [QoK, if_pos (Nat.mod_lt _ (by omega)), Qmz]
theorem QoJ {c : Nat} (hc : 1 ≤ c) (L : List Int) (z : ZV) (i : Nat) : upd (QoK c L z i) (i % c) (Qan (stB c L z (i % c) (i / c)) (L.getD i 0)) = QoK c L z (i + 1) := by
  funext k
  have hr := Nat.mod_lt i (show 0 < c by omega)
  by_cases hk : k < c
  · simp only [upd, QoK, if_pos hk, Qmy hk]
    by_cases e : k = i % c
    · rw [if_pos e, if_pos e, e, stB]
      rw [show i % c + i / c * c = i by have := Nat.div_add_mod i c; rw [Nat.mul_comm]; omega]
    · rw [if_neg e, if_neg e]
  · simp only [upd, QoK, if_neg hk]
    rw [if_neg (by omega)]
theorem QtB {c : Nat} {L : List Int} {z : ZV} (hz : Ql5 z) (i : Nat) : okS (QoK c L z i) := fun k => by
  unfold QoK; split
  · exact (Qpv hz k _).2.2.1
  · exact hz.2.2.1
def U32 (l : List Int) : Prop := ∀ x ∈ l, 0 ≤ x ∧ x < 4294967296
theorem QmJ {l : List Int} (h : U32 l) (j : Nat) : 0 ≤ l.getD j 0 ∧ l.getD j 0 < 4294967296 := by
  by_cases hj : j < l.length
  · rw [List.getD_eq_getElem?_getD, List.getElem?_eq_getElem hj]
    exact h _ (List.getElem_mem hj)
  · rw [List.getD_eq_getElem?_getD, List.getElem?_eq_none (by omega)]; simp
theorem Qgw {v : List Int} {j : Nat} (h : j < v.length) : (v.map Zy).getD j 0 = Zy (v.getD j 0) := by
  simp [List.getD_eq_getElem?_getD, List.getElem?_map, List.getElem?_eq_getElem h]

def unB (c : Nat) (x : Int) (t v : List Int) : List Int := Qa4 c (Qjc c (v.map Zy) (Jv x t) v.length)
theorem QjY (c : Nat) (x : Int) (t v : List Int) : (unB c x t v).length = v.length := by simp [unB, Qah, QbP]
def okV (c : Nat) (v : List Int) : Prop := 1 ≤ c ∧ c ≤ 6 ∧ 0 < v.length ∧ v.length ≤ 4000 ∧ v.length % c = 0 ∧ U32 v
theorem QvQ {c : Nat} {v : List Int} (h : okV c v) (x : Int) (t : List Int) : okM c (Qjc c (v.map Zy) (Jv x t) v.length) := by
  obtain ⟨h1, h2, h3, h4, h5, _⟩ := h
  exact ⟨h1, h2, by rw [QbP]; omega, by rw [QbP]; omega, by rw [QbP]; exact h5, QeA _ _ _ _⟩
def Qoc (x : Int) (l : List Int) : AV := if QC x l ≠ 0 then .tup [.list 0 [], .int .i64 (QC x l)] else .tup [il l, .int .i64 0]
theorem QpL (x : Int) (l : List Int) : isD (Qoc x l) = true := by unfold Qoc; split <;> simp [isD, Qs, QT]
def Qq0 (P : Prg) (f : Nat) : Prop := ∀ (c : Nat) (x : Int) (t v : List Int), t.length = 16 → I32 t → okV c v → Jj x ≠ 0 → VC P f [shA c x, .agg (ks .i32 t), Qgb v] (Qoc x (unB c x t v))

set_option maxRecDepth 20000 in
theorem Qfa {P : Prg} {f fN fO fB fU fW t0 t1 t2 t3 t4 : Nat} (b : Qj P f 84 [.tmp 6, .tmp 7] (Xv fN fO fB fU fW t0 t1 t2 t3 t4)) (hN : QmP P fN) (hO : Qlo P fO) (hB : Qlw P fB) (hU : Qfp P fU) (hW : JY P fW) : Qq0 P f := by
  intro k x t v hl hI hok hx
  have hk : (ks .i32 t).length = 16 := by simp [Qk, hl]
  have ot := XZ .i32 t
  have tt : (ks .i32 t).take 16 = ks .i32 t := Qu (by omega)
  refine VC.of_walk 1 (by simp [Qs, isD, Qmh, QY, shA]) (QpL _ _) (ACall.of_cut 5 b (by simp) ?_)
  have hz := Qpy hx hl hI
  have l0 := Qdg (S := fun _ => Qat) (fun _ => QcO)
  have o0 := QqT (fun _ => Qat)
  obtain ⟨h1, h2, h3, h4, h5, h6⟩ := id hok
  unfold Xv
  rw [show ([.int .i64 0, .int .i32 0, .int .i64 0, .int .i32 0, .int .i32 0, .int .i32 0, .int .i32 0, .int .i32 0, .int .i32 0, .int .i32 0, .int .i32 0, .int .i32 0, .int .i32 0, .int .i32 0, .int .i32 0, .int .i32 0, .int .i32 0, .int .i32 0, .int .i32 0, .int .i32 0, .int .i32 0, .int .i32 0, .int .i32 0, .int .i32 0, .int .i32 0, .int .i32 0, .int .i32 0, .int .i32 0, .int .i32 0, .int .i32 0, .int .i32 0, .int .i32 0, .int .i32 0, .int .i32 0, .int .i32 0, .int .i64 0, .int .i32 0, .int .i64 0, .int .i32 0, .int .i32 0, .int .i32 0, .int .i32 0, .int .i32 0, .int .i32 0, .int .i32 0, .int .i32 0, .int .i32 0, .int .i32 0, .int .i32 0, .int .i32 0, .int .i32 0, .int .i32 0, .int .i32 0, .int .i32 0, .int .i32 0, .int .i32 0, .int .i32 0, .int .i32 0, .int .i32 0, .int .i32 0, .int .i32 0, .int .i32 0, .int .i32 0, .int .i32 0, .int .i32 0, .int .i32 0, .int .i32 0, .int .i32 0, .int .i32 0, .int .i32 0, .int .i64 0, .int .i32 0, .int .i64 0, .int .i32 0, .int .i32 0, .int .i32 0, .int .i32 0, .int .i32 0, .int .i32 0, .int .i32 0, .int .i32 0, .int .i32 0, .int .i32 0, .int .i32 0, .int .i32 0, .int .i32 0, .int .i32 0, .int .i32 0, .int .i32 0, .int .i32 0, .int .i32 0, .int .i32 0, .int .i32 0, .int .i32 0, .int .i32 0, .int .i32 0, .int .i32 0, .int .i32 0, .int .i32 0, .int .i32 0, .int .i32 0, .int .i32 0, .int .i32 0, .int .i32 0, .int .i32 0, .int .i64 0, .int .i32 0, .int .i64 0, .int .i32 0, .int .i32 0, .int .i32 0, .int .i32 0, .int .i32 0, .int .i32 0, .int .i32 0, .int .i32 0, .int .i32 0, .int .i32 0, .int .i32 0, .int .i32 0, .int .i32 0, .int .i32 0, .int .i32 0, .int .i32 0, .int .i32 0, .int .i32 0, .int .i32 0, .int .i32 0, .int .i32 0, .int .i32 0, .int .i32 0, .int .i32 0, .int .i32 0, .int .i32 0, .int .i32 0, .int .i32 0, .int .i32 0, .int .i32 0, .int .i32 0, .int .i32 0, .int .i64 0, .int .i32 0, .int .i64 0, .int .i32 0, .int .i32 0, .int .i32 0, .int .i32 0, .int .i32 0, .int .i32 0, .int .i32 0, .int .i32 0, .int .i32 0, .int .i32 0, .int .i32 0, .int .i32 0, .int .i32 0, .int .i32 0, .int .i32 0, .int .i32 0, .int .i32 0, .int .i32 0, .int .i32 0, .int .i32 0, .int .i32 0, .int .i32 0, .int .i32 0, .int .i32 0, .int .i32 0, .int .i32 0, .int .i32 0, .int .i32 0, .int .i32 0, .int .i32 0, .int .i32 0, .int .i32 0, .int .i64 0, .int .i32 0, .int .i64 0, .int .i32 0, .int .i32 0, .int .i32 0, .int .i32 0, .int .i32 0, .int .i32 0, .int .i32 0, .int .i32 0, .int .i32 0, .int .i32 0, .int .i32 0, .int .i32 0, .int .i32 0, .int .i32 0, .int .i32 0, .int .i32 0, .int .i32 0, .int .i32 0, .int .i32 0, .int .i32 0, .int .i32 0, .int .i32 0, .int .i32 0, .int .i32 0, .int .i32 0, .int .i32 0, .int .i32 0, .int .i32 0, .int .i32 0, .int .i32 0, .int .i32 0, .int .i32 0] : List AV) = six (fun _ => Qat) from rfl, ← Qbx]
  simp (maxSteps := 4000000) (disch := omega) only [rr, aop, cV, cV1, AV.one, Qb, okW, Qd, app, Qa, Qc, Qe, Qf, Qg, simprocAttr, Qhi, shA, Qgb, hk, ot, tt, l0, o0]
  refine QW.by (ι := Nat) (fun i => ⟨[(20, .int .i64 i), (8, .ref 2 1 0), (4, .ref 1 1 0), (3, .ref 0 1 0), (2, Qgb v)], [⟨t0, 2, 1, [.int .i64 k, .int .i64 x], 0⟩, ⟨t1, 16, 1, ks .i32 t, 0⟩, ⟨t2, 210, 1, six (QpB (Jv x t) i), 0⟩]⟩) (fun i => i ≤ 6) (fun i => 6 - i) 0 (by rw [QsM]; exact Le.slots (by simp [Am.look, Qgb])) (by omega) ?_
  intro i hi
  have oS := Qpx hz.2.2.1 i
  have lS := Qdg oS
  by_cases hlt : i < 6
  · have e1 := QgR oS hlt (Jv x t)
    rw [QiG] at e1
    have lc := Zs hz.2.2.1
    have oc := ZX (Jv x t)
    simp (maxSteps := 4000000) (disch := omega) only [rr, aop, cV, cV1, AV.one, Qb, okW, Qd, app, Qa, Qc, Qe, Qf, Qg, simprocAttr, hk, tt]
    refine Qh.vc (hN x t hl hI) ?_
    simp (maxSteps := 4000000) (disch := omega) only [rr, aop, cV, cV1, AV.one, Qb, okW, Qd, app, Qa, Qc, Qe, Qf, Qg, simprocAttr, QkS, if_neg hx, lS, lc, oc, e1]
    exact ⟨i + 1, by omega, by omega, Le.slots (by simp [Am.look])⟩
  · have : i = 6 := by omega
    subst this
    simp (maxSteps := 4000000) (disch := omega) only [rr, aop, cV, cV1, AV.one, Qb, okW, Qd, app, Qa, Qc, Qe, Qf, Qg, simprocAttr, Qhi, Qgb]
    have tv : X2 (ks .u32 v) = true := Qx _ _
    refine QW.by (ι := Nat) (fun i => ⟨[(35, .int .i64 i), (34, .int .i64 v.length), (33, Qgb v), (10, .own 3 i), (8, .ref 2 1 0), (3, .ref 0 1 0)], [⟨t0, 2, 1, [.int .i64 k, .int .i64 x], 0⟩, ⟨t1, 16, 1, ks .i32 t, 0⟩, ⟨t2, 210, 1, six (QoK k (v.map Zy) (Jv x t) i), 0⟩, ⟨t4, 1, i, ks .i32 (Qjc k (v.map Zy) (Jv x t) i), 0⟩]⟩) (fun i => i ≤ v.length) (fun i => v.length - i) 0 (by rw [QuH, ← QuJ]; exact Le.trans (Le.virt 10 t4 1 (by omega) rfl) (Le.slots (by simp [Am.look, Qjc, Qgb]))) (by omega) ?_
    intro i hi
    have lo := QbP k (v.map Zy) (Jv x t) i
    have to : X2 (ks .i32 (Qjc k (v.map Zy) (Jv x t) i)) = true := Qx _ _
    by_cases hlt : i < v.length
    · have oS := QtB hz (c := k) (L := v.map Zy) i
      have lS := Qdg oS
      have hr := Nat.mod_lt i (show 0 < k by omega)
      have e0 := QsH oS (k := i % k) (by omega)
      rw [Qte h1] at e0
      have e1 := QgR oS (k := i % k) (by omega) (Qan (stB k (v.map Zy) (Jv x t) (i % k) (i / k)) ((v.map Zy).getD i 0))
      rw [QoJ h1] at e1
      have hok2 := Qpv (c := k) (L := v.map Zy) hz (i % k) (i / k)
      have eb := Qgw hlt
      have hO' := hO (v.getD i 0) (QmJ h6 i)
      rw [← eb] at hO'
      have hB' := hB _ ((v.map Zy).getD i 0) hok2
      have hok3 := Qkm hok2 ((v.map Zy).getD i 0)
      have e2 := Qci (K := .u32) (l := v) (i := i) hlt
      have e3 : ks .i32 (Qjc k (v.map Zy) (Jv x t) i) ++ [.int .i32 (Qdq (stB k (v.map Zy) (Jv x t) (i % k) (i / k)) ((v.map Zy).getD i 0))] = ks .i32 (Qjc k (v.map Zy) (Jv x t) (i + 1)) := by rw [Qg5, ← QqG]; rfl
      have lc := Zs hok3.2.2.1
      have oc := ZX (Qan (stB k (v.map Zy) (Jv x t) (i % k) (i / k)) ((v.map Zy).getD i 0))
      have tc : (QS (Qan (stB k (v.map Zy) (Jv x t) (i % k) (i / k)) ((v.map Zy).getD i 0))).take 35 = QS (Qan (stB k (v.map Zy) (Jv x t) (i % k) (i / k)) ((v.map Zy).getD i 0)) := Qu (by omega)
      have lz := Zs QcO
      have oz := ZX Qat
      have dz : (QS Qat).drop 35 = [] := List.drop_eq_nil_of_le (by omega)
      have em : (i : Int) % k = (i % k : Nat) := by omega
      simp (maxSteps := 4000000) (disch := omega) only [rr, aop, cV, cV1, AV.one, Qb, okW, Qd, app, Qa, Qc, Qe, Qf, Qg, simprocAttr, Qgb, e2, em, e0]
      refine Ze.vc hO' ?_
      simp (maxSteps := 4000000) (disch := omega) only [rr, aop, cV, cV1, AV.one, Qb, okW, Qd, app, Qa, Qc, Qe, Qf, Qg, simprocAttr]
      refine Ze.vc hB' ?_
      simp (maxSteps := 4000000) (disch := omega) only [rr, aop, cV, cV1, AV.one, Qb, okW, Qd, app, Qa, Qc, Qe, Qf, Qg, simprocAttr, lz, oz, lc, oc, tc, e1, lS, dz, e3, List.append_nil, List.take_zero, List.nil_append]
      exact ⟨i + 1, by omega, by omega, Le.dropT [_, _, _, _] (by simp [Qmg, Qx, X2, isT]) (by simp [Am.look, QJ, QO, QI, Qr _ tv])⟩
    · have e : i = v.length := by omega
      subst e
      simp (maxSteps := 4000000) (disch := omega) only [rr, aop, cV, cV1, AV.one, Qb, okW, Qd, app, Qa, Qc, Qe, Qf, Qg, simprocAttr, Qhi]
      refine ⟨⟨[(10, il (Qjc k (v.map Zy) (Jv x t) v.length)), (3, .ref 0 1 0)], [⟨t0, 2, 1, [.int .i64 k, .int .i64 x], 0⟩]⟩, Le.dropT [_] (by simp [X2, isT]) (by simp [Am.look, QJ, QO, QI, il, lo, Qr _ to]), ?_⟩
      simp (maxSteps := 4000000) (disch := omega) only [rr, aop, cV, cV1, AV.one, Qb, okW, Qd, app, Qa, Qc, Qe, Qf, Qg, simprocAttr]
      refine Qh.vc (hU k _ (QvQ hok x t)) ?_
      simp (maxSteps := 4000000) (disch := omega) only [rr, aop, cV, cV1, AV.one, Qb, okW, Qd, app, Qa, Qc, Qe, Qf, Qg, simprocAttr]
      refine Qh.vc (hW x (unB k x t v) (QgC (QeA _ _ _ _))) ?_
      have lu := QjY k x t v
      by_cases h9 : QC x (unB k x t v) = 0
      · have e9 : Qoc x (unB k x t v) = .tup [il (unB k x t v), .int .i64 0] := by simp [Qoc, h9]
        simp (maxSteps := 4000000) (disch := omega) only [rr, aop, cV, cV1, AV.one, Qb, okW, Qd, app, Qa, Qc, Qe, Qf, Qg, simprocAttr, h9, e9]
        simp only [unB] at *
        simp [Zr, QJ, QO, QI, Qs, isD, il, Qr _ (Qx .i32 _)]
      · have e9 : Qoc x (unB k x t v) = .tup [.list 0 [], .int .i64 (QC x (unB k x t v))] := by simp [Qoc, h9]
        simp (maxSteps := 4000000) (disch := omega) only [rr, aop, cV, cV1, AV.one, Qb, okW, Qd, app, Qa, Qc, Qe, Qf, Qg, simprocAttr, h9, e9]
        simp [Zr, QJ, QO, QI, Qs, isD]
end Go.Am

namespace Go.Am
open Go.RowKit

def erA (e : Int) : AV := .tup [.list 0 [], .int .i64 e]
end Go.Am

namespace Go.Am
open Go.RowKit

def QfW (r n : Int) : AV := if r < 1 ∨ 1048576 < r then .tup [.int .i64 0, .int .i64 2] else if n < 1 ∨ 4000 < n then .tup [.int .i64 0, .int .i64 2] else if 1000 < (n + Qt r - 1) / Qt r then .tup [.int .i64 0, .int .i64 4] else .tup [.int .i64 ((n + Qt r - 1) / Qt r), .int .i64 0]
theorem QpO (r n : Int) : isD (QfW r n) = true := by unfold QfW; split <;> (try split) <;> (try split) <;> rfl
def JM (P : Prg) (f : Nat) : Prop := ∀ r n : Int, VC P f [.int .i64 r, .int .i64 n] (QfW r n)

theorem Qg1 {P : Prg} {f fL : Nat} (b : Qj P f 32 [.tmp 4, .tmp 5] (Jb fL)) (hL : Qa1 P fL) : JM P f := by
  intro r n
  refine VC.of_acall rfl (QpO _ _) (ACall.of_body b (by simp) ?_)
  have hL' := hL r
  simp (maxSteps := 4000000) (disch := omega) only [rr, aop, cV, cV1, AV.one, Qb, okW, Qd, app, Qa, Qc, Qe, Qf, Qg, simprocAttr, Jb]
  refine Qh.vc hL' ?_
  by_cases h1 : r < 1 ∨ 1048576 < r
  · have e1 : Qa8 r = .tup [.int .i64 0, .int .i64 2] := by rw [Qa8, if_pos h1]
    have e2 : QfW r n = .tup [.int .i64 0, .int .i64 2] := by rw [QfW, if_pos h1]
    simp (maxSteps := 4000000) (disch := omega) only [rr, aop, cV, cV1, AV.one, Qb, okW, Qd, app, Qa, Qc, Qe, Qf, Qg, simprocAttr, e1, e2]
  have e1 : Qa8 r = .tup [.int .i64 (Qt r), .int .i64 0] := by rw [Qa8, if_neg h1]
  have p1 := ZJ r
  have p2 := Qmb (r := r) (by omega)
  by_cases h2 : n < 1
  · have e2 : QfW r n = .tup [.int .i64 0, .int .i64 2] := by rw [QfW, if_neg h1, if_pos (.inl h2)]
    simp (maxSteps := 4000000) (disch := omega) only [rr, aop, cV, cV1, AV.one, Qb, okW, Qd, app, Qa, Qc, Qe, Qf, Qg, simprocAttr, e1, e2]
  by_cases h3 : 4000 < n
  · have e2 : QfW r n = .tup [.int .i64 0, .int .i64 2] := by rw [QfW, if_neg h1, if_pos (.inr h3)]
    simp (maxSteps := 4000000) (disch := omega) only [rr, aop, cV, cV1, AV.one, Qb, okW, Qd, app, Qa, Qc, Qe, Qf, Qg, simprocAttr, e1, e2]
  have e2 : QfW r n = if 1000 < (n + Qt r - 1) / Qt r then .tup [.int .i64 0, .int .i64 4] else .tup [.int .i64 ((n + Qt r - 1) / Qt r), .int .i64 0] := by
    rw [QfW, if_neg h1, if_neg (by omega)]
  generalize Qt r = L at *
  have q0 : (n + L - 1).tdiv L = (n + L - 1) / L := Int.tdiv_eq_ediv_of_nonneg (by omega)
  have q1 : 0 ≤ (n + L - 1) / L := Int.ediv_nonneg (by omega) (by omega)
  have q2 : (n + L - 1) / L ≤ n + L - 1 := Int.ediv_le_self _ (by omega)
  generalize hq : (n + L - 1) / L = Q at *
  by_cases h4 : 1000 < Q
  · rw [if_pos h4] at e2
    simp (maxSteps := 4000000) (disch := omega) only [rr, aop, cV, cV1, AV.one, Qb, okW, Qd, app, Qa, Qc, Qe, Qf, Qg, simprocAttr, e1, q0, hq, e2]
  · rw [if_neg h4] at e2
    simp (maxSteps := 4000000) (disch := omega) only [rr, aop, cV, cV1, AV.one, Qb, okW, Qd, app, Qa, Qc, Qe, Qf, Qg, simprocAttr, e1, q0, hq, e2]

def X5 (P : Prg) (f : Nat) : Prop := ∀ (c x r : Int) (l : List Int), VC P f [.agg [.int .i64 c, .int .i64 x, .int .i64 r, il l]] (shA c x)
theorem QnN {P : Prg} {f t0 t1 : Nat} (b : Qj P f 8 [.cell 2 t1] (Z1 t0 t1)) (ht : ZG P t1 = some (some 2)) : X5 P f := by
  intro c x r l
  refine VC.of_acall (by simp [Qs, isD, QT]) rfl (ACall.of_body b (by simp) ?_)
  simp (maxSteps := 4000000) (disch := omega) only [rr, aop, cV, cV1, AV.one, Qb, okW, Qd, app, Qa, Qc, Qe, Qf, Qg, simprocAttr, Z1, il, ZU, ht, shA]
theorem Qkd {P : Prg} {f t0 t1 : Nat} (b : Qj P f 8 [.cell 2 t1] (ZO t0 t1)) (ht : ZG P t1 = some (some 2)) : X5 P f := by
  intro c x r l
  refine VC.of_acall (by simp [Qs, isD, QT]) rfl (ACall.of_body b (by simp) ?_)
  simp (maxSteps := 4000000) (disch := omega) only [rr, aop, cV, cV1, AV.one, Qb, okW, Qd, app, Qa, Qc, Qe, Qf, Qg, simprocAttr, ZO, il, ZU, ht, shA]

def QjB (r n : Int) : Int := if r < 1 ∨ 1048576 < r then 2 else if n < 1 ∨ 4000 < n then 2 else if 1000 < (n + Qt r - 1) / Qt r then 4 else 0
theorem QmA (r n : Int) : ∃ k : Int, QfW r n = .tup [.int .i64 k, .int .i64 (QjB r n)] := by
  unfold QfW QjB
  split
  · exact ⟨_, rfl⟩
  split
  · exact ⟨_, rfl⟩
  split
  · exact ⟨_, rfl⟩
  · exact ⟨_, rfl⟩
def ZF (c x r n : Int) : Int := if Zf c x ≠ 0 then 8 else if n < 1 then 8 else if 4000 / c < n then 8 else if QjB r n ≠ 0 then 8 else 0
def QhT (P : Prg) (f : Nat) : Prop := ∀ (c x r n : Int) (l : List Int), VC P f [.agg [.int .i64 c, .int .i64 x, .int .i64 r, il l], .int .i64 n] (.int .i64 (ZF c x r n))
theorem Qqn {P : Prg} {f fS fE fC t0 : Nat} (b : Qj P f 31 [.tmp 4] (Qbv fS fE fC t0)) (hS : X5 P fS) (hE : Jt P fE) (hC : JM P fC) : QhT P f := by
  intro c x r n l
  refine VC.of_acall (by simp [Qs, isD, QT]) rfl (ACall.of_body b (by simp) ?_)
  have hS' := hS c x r l
  have hE' := hE c x
  rw [shA] at hS' hE'
  rw [il] at hS'
  obtain ⟨k, ek⟩ := QmA r n
  have hC' := hC r n
  rw [ek] at hC'
  simp (maxSteps := 4000000) (disch := omega) only [rr, aop, cV, cV1, AV.one, Qb, okW, Qd, app, Qa, Qc, Qe, Qf, Qg, simprocAttr, Qbv, il]
  refine Qh.vc hS' ?_
  simp (maxSteps := 4000000) (disch := omega) only [rr, aop, cV, cV1, AV.one, Qb, okW, Qd, app, Qa, Qc, Qe, Qf, Qg, simprocAttr]
  refine Qh.vc hE' ?_
  rcases Q1 c x with h1 | ⟨h1, h2, h3, h4⟩
  · have e9 : ZF c x r n = 8 := by simp [ZF, h1]
    simp (maxSteps := 4000000) (disch := omega) only [rr, aop, cV, cV1, AV.one, Qb, okW, Qd, app, Qa, Qc, Qe, Qf, Qg, simprocAttr, h1, e9]
  have q0 : (4000 : Int).tdiv c = 4000 / c := Int.tdiv_eq_ediv_of_nonneg (by omega)
  have q1 : 0 ≤ (4000 : Int) / c := Int.ediv_nonneg (by omega) (by omega)
  have q2 : (4000 : Int) / c ≤ 4000 := Int.ediv_le_self _ (by omega)
  by_cases h5 : n < 1
  · have e9 : ZF c x r n = 8 := by simp [ZF, h5]
    simp (maxSteps := 4000000) (disch := omega) only [rr, aop, cV, cV1, AV.one, Qb, okW, Qd, app, Qa, Qc, Qe, Qf, Qg, simprocAttr, h1, e9]
  by_cases h6 : 4000 / c < n
  · have e9 : ZF c x r n = 8 := by simp [ZF, h6]
    simp (maxSteps := 4000000) (disch := omega) only [rr, aop, cV, cV1, AV.one, Qb, okW, Qd, app, Qa, Qc, Qe, Qf, Qg, simprocAttr, h1, e9, q0]
  simp (maxSteps := 4000000) (disch := omega) only [rr, aop, cV, cV1, AV.one, Qb, okW, Qd, app, Qa, Qc, Qe, Qf, Qg, simprocAttr, h1, q0]
  refine Qh.vc hC' ?_
  by_cases h7 : QjB r n = 0
  · have e9 : ZF c x r n = 0 := by simp [ZF, h1, h5, h6, h7]
    simp (maxSteps := 4000000) (disch := omega) only [rr, aop, cV, cV1, AV.one, Qb, okW, Qd, app, Qa, Qc, Qe, Qf, Qg, simprocAttr, h7, e9]
  · have e9 : ZF c x r n = 8 := by simp [ZF, h7]
    simp (maxSteps := 4000000) (disch := omega) only [rr, aop, cV, cV1, AV.one, Qb, okW, Qd, app, Qa, Qc, Qe, Qf, Qg, simprocAttr, h7, e9]

def Z8 (c x r : Int) (l : List Int) : Int := if c < 1 then 8 else if (l.length : Int) % c ≠ 0 then 8 else if ZF c x r (l.length / c) ≠ 0 then 8 else if QC x l ≠ 0 then 8 else 0
theorem Qgk (c x r n : Int) : ZF c x r n = 8 ∨ ZF c x r n = 0 := by
  unfold ZF; split <;> (try split) <;> (try split) <;> (try split) <;> simp
def Xg (P : Prg) (f : Nat) : Prop := ∀ (c x r : Int) (l : List Int), I32 l → l.length ≤ 1000000 → VC P f [.agg [.int .i64 c, .int .i64 x, .int .i64 r, il l]] (.int .i64 (Z8 c x r l))
theorem QnQ {P : Prg} {f fH fW t0 : Nat} (b : Qj P f 33 [.tmp 2] (Xw fH fW t0)) (hH : QhT P fH) (hW : JY P fW) : Xg P f := by
  intro c x r l hI hl
  · refine VC.of_acall (by simp [Qs, isD, QT]) rfl (ACall.of_body b (by simp) ?_)
    by_cases h1 : c < 1
    · have e9 : Z8 c x r l = 8 := by simp [Z8, h1]
      simp (maxSteps := 4000000) (disch := omega) only [rr, aop, cV, cV1, AV.one, Qb, okW, Qd, app, Qa, Qc, Qe, Qf, Qg, simprocAttr, Xw, il, e9]
    have hm := Qaj (n := l.length) (c := c) (by omega)
    have hd := Qi1 (n := l.length) (c := c) (by omega)
    have q0 : (l.length : Int).tdiv c = l.length / c := Int.tdiv_eq_ediv_of_nonneg (by omega)
    by_cases h2 : (l.length : Int) % c = 0
    · have hH' := hH c x r (l.length / c) l
      have hW' := hW x l hI
      rw [il] at hH' hW'
      simp (maxSteps := 4000000) (disch := omega) only [rr, aop, cV, cV1, AV.one, Qb, okW, Qd, app, Qa, Qc, Qe, Qf, Qg, simprocAttr, Xw, il, h2, q0]
      refine Ze.vc hH' ?_
      rcases Qgk c x r (l.length / c) with h3 | h3
      · have e9 : Z8 c x r l = 8 := by simp [Z8, h3]
        simp (maxSteps := 4000000) (disch := omega) only [rr, aop, cV, cV1, AV.one, Qb, okW, Qd, app, Qa, Qc, Qe, Qf, Qg, simprocAttr, h3, e9]
      · simp (maxSteps := 4000000) (disch := omega) only [rr, aop, cV, cV1, AV.one, Qb, okW, Qd, app, Qa, Qc, Qe, Qf, Qg, simprocAttr, h3]
        refine Qh.vc hW' ?_
        by_cases h4 : QC x l = 0
        · have e9 : Z8 c x r l = 0 := by simp [Z8, h1, h2, h3, h4]
          simp (maxSteps := 4000000) (disch := omega) only [rr, aop, cV, cV1, AV.one, Qb, okW, Qd, app, Qa, Qc, Qe, Qf, Qg, simprocAttr, h4, e9]
        · have e9 : Z8 c x r l = 8 := by simp [Z8, h4]
          simp (maxSteps := 4000000) (disch := omega) only [rr, aop, cV, cV1, AV.one, Qb, okW, Qd, app, Qa, Qc, Qe, Qf, Qg, simprocAttr, h4, e9]
    · have e9 : Z8 c x r l = 8 := by simp [Z8, h2]
      simp (maxSteps := 4000000) (disch := omega) only [rr, aop, cV, cV1, AV.one, Qb, okW, Qd, app, Qa, Qc, Qe, Qf, Qg, simprocAttr, Xw, il, h2, e9]

def ZC (c x n : Int) : Int := if Zf c x ≠ 0 then 2 else if n < 1 then 2 else if 4000 / c < n then 2 else 0
def Qlx (P : Prg) (f : Nat) : Prop := ∀ c x n : Int, VC P f [shA c x, .int .i64 n] (.int .i64 (ZC c x n))
theorem Qkg {P : Prg} {f fE t0 : Nat} (b : Qj P f 19 [.tmp 4] (ZQ fE t0)) (hE : Jt P fE) : Qlx P f := by
  intro c x n
  refine VC.of_acall (by simp [Qs, isD, shA]) rfl (ACall.of_body b (by simp) ?_)
  have hE' := hE c x
  rw [shA] at hE'
  simp (maxSteps := 4000000) (disch := omega) only [rr, aop, cV, cV1, AV.one, Qb, okW, Qd, app, Qa, Qc, Qe, Qf, Qg, simprocAttr, ZQ, shA]
  refine Qh.vc hE' ?_
  rcases Q1 c x with h1 | ⟨h1, h2, h3, h4⟩
  · have e9 : ZC c x n = 2 := by simp [ZC, h1]
    simp (maxSteps := 4000000) (disch := omega) only [rr, aop, cV, cV1, AV.one, Qb, okW, Qd, app, Qa, Qc, Qe, Qf, Qg, simprocAttr, h1, e9]
  have q0 : (4000 : Int).tdiv c = 4000 / c := Int.tdiv_eq_ediv_of_nonneg (by omega)
  have q1 : 0 ≤ (4000 : Int) / c := Int.ediv_nonneg (by omega) (by omega)
  have q2 : (4000 : Int) / c ≤ 4000 := Int.ediv_le_self _ (by omega)
  by_cases h5 : n < 1
  · have e9 : ZC c x n = 2 := by simp [ZC, h5]
    simp (maxSteps := 4000000) (disch := omega) only [rr, aop, cV, cV1, AV.one, Qb, okW, Qd, app, Qa, Qc, Qe, Qf, Qg, simprocAttr, h1, e9]
  by_cases h6 : 4000 / c < n
  · have e9 : ZC c x n = 2 := by simp [ZC, h6]
    simp (maxSteps := 4000000) (disch := omega) only [rr, aop, cV, cV1, AV.one, Qb, okW, Qd, app, Qa, Qc, Qe, Qf, Qg, simprocAttr, h1, e9, q0]
  · have e9 : ZC c x n = 0 := by simp [ZC, h1, h5, h6]
    simp (maxSteps := 4000000) (disch := omega) only [rr, aop, cV, cV1, AV.one, Qb, okW, Qd, app, Qa, Qc, Qe, Qf, Qg, simprocAttr, h1, e9, q0]
end Go.Am

namespace Go.Am
open Go.RowKit

def QH (L n : Nat) : List Int := List.replicate ((n - 1) / L) (L : Int) ++ [(n : Int) - ((n - 1) / L * L : Nat)]
theorem Z6 (L n : Nat) : (QH L n).length = (n - 1) / L + 1 := by simp [QH]
theorem QrN (k : Nat) (a : Int) : List.replicate k a ++ [a] = List.replicate (k + 1) a := by rw [List.replicate_succ']
def QtU (l : List Int) : AV := .list l.length (ks .i64 l)
theorem Qsa (l : List Int) : isD (QtU l) = true := by simp [QtU, isD, QY]
def Qjv (r n : Int) : AV := if r < 1 ∨ 1048576 < r ∨ n < 1 ∨ 4000 < n then .tup [.list 0 [], .int .i64 2] else if 1000 < (QH (Qt r).toNat n.toNat).length then .tup [.list 0 [], .int .i64 4] else .tup [QtU (QH (Qt r).toNat n.toNat), .int .i64 0]
theorem QtS (r n : Int) : isD (Qjv r n) = true := by unfold Qjv; split <;> (try split) <;> simp [isD, Qs, Qsa]
def Qly (P : Prg) (f : Nat) : Prop := ∀ r n : Int, VC P f [.int .i64 r, .int .i64 n] (Qjv r n)

theorem Qph {P : Prg} {f fL t0 : Nat} (b : Qj P f 41 [.tmp 4, .tmp 5] (QN fL t0)) (hL : Qa1 P fL) : Qly P f := by
  intro r n
  refine VC.of_walk 1 rfl (QtS _ _) (ACall.of_body b (by simp) ?_)
  have hL' := hL r
  by_cases h1 : r < 1 ∨ 1048576 < r
  · have e1 : Qa8 r = .tup [.int .i64 0, .int .i64 2] := by rw [Qa8, if_pos h1]
    have e2 : Qjv r n = .tup [.list 0 [], .int .i64 2] := by rw [Qjv, if_pos (by omega)]
    simp (maxSteps := 4000000) (disch := omega) only [rr, aop, cV, cV1, AV.one, Qb, okW, Qd, app, Qa, Qc, Qe, Qf, Qg, simprocAttr, QN]
    refine Qh.vc hL' ?_
    simp (maxSteps := 4000000) (disch := omega) only [rr, aop, cV, cV1, AV.one, Qb, okW, Qd, app, Qa, Qc, Qe, Qf, Qg, simprocAttr, e1, e2]
    simp [Zr, QJ, QO, QI, Qs, isD]
  have e1 : Qa8 r = .tup [.int .i64 (Qt r), .int .i64 0] := by rw [Qa8, if_neg h1]
  rw [e1] at hL'
  have p1 := ZJ r
  have p2 := Qmb (r := r) (by omega)
  by_cases h2 : n < 1
  · have e2 : Qjv r n = .tup [.list 0 [], .int .i64 2] := by rw [Qjv, if_pos (by omega)]
    simp (maxSteps := 4000000) (disch := omega) only [rr, aop, cV, cV1, AV.one, Qb, okW, Qd, app, Qa, Qc, Qe, Qf, Qg, simprocAttr, QN]
    refine Qh.vc hL' ?_
    simp (maxSteps := 4000000) (disch := omega) only [rr, aop, cV, cV1, AV.one, Qb, okW, Qd, app, Qa, Qc, Qe, Qf, Qg, simprocAttr, e2]
    simp [Zr, QJ, QO, QI, Qs, isD]
  by_cases h3 : 4000 < n
  · have e2 : Qjv r n = .tup [.list 0 [], .int .i64 2] := by rw [Qjv, if_pos (by omega)]
    simp (maxSteps := 4000000) (disch := omega) only [rr, aop, cV, cV1, AV.one, Qb, okW, Qd, app, Qa, Qc, Qe, Qf, Qg, simprocAttr, QN]
    refine Qh.vc hL' ?_
    simp (maxSteps := 4000000) (disch := omega) only [rr, aop, cV, cV1, AV.one, Qb, okW, Qd, app, Qa, Qc, Qe, Qf, Qg, simprocAttr, e2]
    simp [Zr, QJ, QO, QI, Qs, isD]
  have e2 : Qjv r n = if 1000 < (QH (Qt r).toNat n.toNat).length then .tup [.list 0 [], .int .i64 4] else .tup [QtU (QH (Qt r).toNat n.toNat), .int .i64 0] := by rw [Qjv, if_neg (by omega)]
  generalize Qt r = Li at *
  obtain ⟨L, rfl⟩ : ∃ L : Nat, Li = L := ⟨Li.toNat, by omega⟩
  obtain ⟨m, rfl⟩ : ∃ m : Nat, n = m := ⟨n.toNat, by omega⟩
  simp only [Int.toNat_natCast] at e2
  have g1 : (m - 1) / L * L ≤ m - 1 := Nat.div_mul_le_self _ _
  have g2 : m - 1 < ((m - 1) / L + 1) * L := by
    have := Nat.lt_div_mul_add (a := m - 1) (b := L) (by omega)
    rw [Nat.add_mul, Nat.one_mul]; omega
  rw [Nat.add_mul, Nat.one_mul] at g2
  have g3 : (m - 1) / L ≤ m - 1 := Nat.div_le_self _ _
  have ll := Z6 L m
  have lf : QH L m = List.replicate ((m - 1) / L) (L : Int) ++ [(m : Int) - ((m - 1) / L * L : Nat)] := rfl
  generalize hq : (m - 1) / L = q at *
  simp (maxSteps := 4000000) (disch := omega) only [rr, aop, cV, cV1, AV.one, Qb, okW, Qd, app, Qa, Qc, Qe, Qf, Qg, simprocAttr, QN]
  refine Qh.vc hL' ?_
  simp (maxSteps := 4000000) (disch := omega) only [rr, aop, cV, cV1, AV.one, Qb, okW, Qd, app, Qa, Qc, Qe, Qf, Qg, simprocAttr]
  refine QW.by (ι := Option Nat) (fun i => match i with
      | some k => ⟨[(1, .int .i64 ((m : Int) - (k * L : Nat))), (8, .own 0 k), (6, .int .i64 L)], [⟨t0, 1, k, ks .i64 (List.replicate k (L : Int)), 0⟩]⟩
      | none => ⟨[(1, .int .i64 0), (8, .own 0 (q + 1)), (6, .int .i64 L)], [⟨t0, 1, q + 1, ks .i64 (QH L m), 0⟩]⟩)
    (fun i => match i with | some k => k ≤ q | none => True) (fun i => match i with | some k => q - k + 1 | none => 0) (some 0)
    (by simp only [Nat.zero_mul]; exact Le.trans (Le.virt 8 t0 1 (by omega) rfl) (Le.slots (by simp [Am.look]))) (by simp) ?_
  intro i hi
  cases i with
  | some k =>
    simp only at hi
    have g4 : k * L ≤ q * L := Nat.mul_le_mul_right L hi
    have lr : (List.replicate k (L : Int)).length = k := by simp
    by_cases hk : k < q
    · have g5 : (k + 1) * L ≤ q * L := Nat.mul_le_mul_right L (by omega)
      rw [Nat.add_mul, Nat.one_mul] at g5
      simp (maxSteps := 4000000) (disch := omega) only [rr, aop, cV, cV1, AV.one, Qb, okW, Qd, app, Qa, Qc, Qe, Qf, Qg, simprocAttr, Qg5, QrN, lr]
      refine ⟨some (k + 1), by simp only; omega, by simp only; omega, ?_⟩
      exact Le.drop1 (Qx _ _) (by simp [Am.look, QJ, QO, QI, Nat.add_mul]; omega)
    · have : k = q := by omega
      subst this
      simp (maxSteps := 4000000) (disch := omega) only [rr, aop, cV, cV1, AV.one, Qb, okW, Qd, app, Qa, Qc, Qe, Qf, Qg, simprocAttr, Qg5, lr, ← lf]
      refine ⟨none, trivial, by simp only; omega, ?_⟩
      exact Le.drop1 (Qx _ _) (by simp [Am.look, QJ, QO, QI])
  | none =>
    by_cases h9 : 1000 < (QH L m).length
    · rw [if_pos h9] at e2
      simp (maxSteps := 4000000) (disch := omega) only [rr, aop, cV, cV1, AV.one, Qb, okW, Qd, app, Qa, Qc, Qe, Qf, Qg, simprocAttr, e2]
      simp [Zr, QJ, QO, QI, Qs, isD]
    · rw [if_neg h9] at e2
      simp (maxSteps := 4000000) (disch := omega) only [rr, aop, cV, cV1, AV.one, Qb, okW, Qd, app, Qa, Qc, Qe, Qf, Qg, simprocAttr, e2]
      simp [Zr, QJ, QO, QI, Qs, isD, QtU, ll, Qr _ (Qx .i64 _)]
end Go.Am

namespace Go.Am
open Go.RowKit

theorem Quo (r n : Int) : (∃ k : Int, Qjv r n = .tup [.list 0 [], .int .i64 k] ∧ QfW r n = .tup [.int .i64 0, .int .i64 k]) ∨
    (∃ l : List Int, Qjv r n = .tup [QtU l, .int .i64 0] ∧ QfW r n = .tup [.int .i64 l.length, .int .i64 0]) := by
  by_cases h1 : r < 1 ∨ 1048576 < r
  · exact .inl ⟨2, by rw [Qjv, if_pos (by omega)], by rw [QfW, if_pos h1]⟩
  by_cases h2 : n < 1 ∨ 4000 < n
  · exact .inl ⟨2, by rw [Qjv, if_pos (by omega)], by rw [QfW, if_neg h1, if_pos h2]⟩
  have p1 := ZJ r
  have e : (n + Qt r - 1) / Qt r = (QH (Qt r).toNat n.toNat).length := by
    generalize Qt r = Li at *
    obtain ⟨L, rfl⟩ : ∃ L : Nat, Li = L := ⟨Li.toNat, by omega⟩
    obtain ⟨m, rfl⟩ : ∃ m : Nat, n = m := ⟨n.toNat, by omega⟩
    rw [Int.toNat_natCast, Int.toNat_natCast, Z6]
    have : (m : Int) + L - 1 = ((m - 1 + L : Nat) : Int) := by omega
    rw [this, ← Int.natCast_ediv, Nat.add_div_right _ (by omega)]
  by_cases h3 : 1000 < (QH (Qt r).toNat n.toNat).length
  · exact .inl ⟨4, by rw [Qjv, if_neg (by omega), if_pos h3], by rw [QfW, if_neg h1, if_neg h2, e, if_pos (by omega)]⟩
  · exact .inr ⟨_, by rw [Qjv, if_neg (by omega), if_neg h3], by rw [QfW, if_neg h1, if_neg h2, e, if_neg (by omega)]⟩

theorem Qkf {P : Prg} {f fA : Nat} (b : Qj P f 17 [.tmp 4, .tmp 5] (Zd fA)) (hA : Qly P fA) : JM P f := by
  intro r n
  refine VC.of_acall rfl (QpO _ _) (ACall.of_body b (by simp) ?_)
  have hA' := hA r n
  rcases Quo r n with ⟨k, e1, e2⟩ | ⟨l, e1, e2⟩
  · rw [e1] at hA'
    simp (maxSteps := 4000000) (disch := omega) only [rr, aop, cV, cV1, AV.one, Qb, okW, Qd, app, Qa, Qc, Qe, Qf, Qg, simprocAttr, Zd]
    refine Qh.vc hA' ?_
    simp (maxSteps := 4000000) (disch := omega) only [rr, aop, cV, cV1, AV.one, Qb, okW, Qd, app, Qa, Qc, Qe, Qf, Qg, simprocAttr, e2, List.length_nil]
    try simp
  · rw [e1] at hA'
    simp (maxSteps := 4000000) (disch := omega) only [rr, aop, cV, cV1, AV.one, Qb, okW, Qd, app, Qa, Qc, Qe, Qf, Qg, simprocAttr, Zd]
    refine Qh.vc hA' ?_
    simp (maxSteps := 4000000) (disch := omega) only [rr, aop, cV, cV1, AV.one, Qb, okW, Qd, app, Qa, Qc, Qe, Qf, Qg, simprocAttr, QtU, e2]
end Go.Am

namespace Go.Am
open Go.RowKit

theorem Qdn (c x r n : Int) : ZF c x r n = if ZC c x n = 0 ∧ QjB r n = 0 then 0 else 8 := by
  unfold ZF ZC
  by_cases h1 : Zf c x = 0 <;> by_cases h2 : n < 1 <;> by_cases h3 : 4000 / c < n <;> by_cases h4 : QjB r n = 0 <;> simp [h1, h2, h3, h4]
theorem QbM {c x r : Int} {l : List Int} : Z8 c x r l = if Qb0 c x l = 0 ∧ ZF c x r (l.length / c) = 0 then 0 else 8 := by
  unfold Z8 Qb0
  by_cases h0 : ZF c x r (l.length / c) = 0
  · have h0' := h0
    rw [Qdn] at h0'
    have ha : ZC c x (l.length / c) = 0 := by
      by_cases h : ZC c x (l.length / c) = 0 ∧ QjB r (l.length / c) = 0
      · exact h.1
      · rw [if_neg h] at h0'; cases h0'
    have hE : Zf c x = 0 := by
      by_cases h : Zf c x = 0
      · exact h
      · simp [ZC, h] at ha
    have hn : ¬ (l.length : Int) / c < 1 := by
      intro h
      simp [ZC, h] at ha
    have hc : ¬ c < 1 := by
      rcases Q1 c x with h | h <;> omega
    have hl : l.length ≠ 0 := by
      intro h
      rw [h] at hn
      simp at hn
    by_cases h2 : (l.length : Int) % c = 0 <;> by_cases h3 : QC x l = 0 <;> simp [hE, hc, hl, h0, h2, h3]
  · simp [h0]

def Qfo (P : Prg) (f : Nat) : Prop := ∀ (c x r n : Int) (l : List Int), VC P f [.agg [.int .i64 c, .int .i64 x, .int .i64 r, il l], .int .i64 n] (.bool (decide (ZF c x r n = 0)))
theorem Qnl {P : Prg} {f fS fA fC t0 : Nat} (b : Qj P f 21 [.tmp 4] (Z3 fS fA fC t0)) (hS : X5 P fS) (hA : Qlx P fA) (hC : JM P fC) : Qfo P f := by
  intro c x r n l
  refine VC.of_acall (by simp [Qs, isD, QT]) rfl (ACall.of_body b (by simp) ?_)
  have hS' := hS c x r l
  have hA' := hA c x n
  rw [shA] at hS' hA'
  rw [il] at hS'
  obtain ⟨k, ek⟩ := QmA r n
  have hC' := hC r n
  rw [ek] at hC'
  simp (maxSteps := 4000000) (disch := omega) only [rr, aop, cV, cV1, AV.one, Qb, okW, Qd, app, Qa, Qc, Qe, Qf, Qg, simprocAttr, Z3, il]
  refine Qh.vc hS' ?_
  simp (maxSteps := 4000000) (disch := omega) only [rr, aop, cV, cV1, AV.one, Qb, okW, Qd, app, Qa, Qc, Qe, Qf, Qg, simprocAttr]
  refine Qh.vc hA' ?_
  by_cases h1 : ZC c x n = 0
  · simp (maxSteps := 4000000) (disch := omega) only [rr, aop, cV, cV1, AV.one, Qb, okW, Qd, app, Qa, Qc, Qe, Qf, Qg, simprocAttr, h1]
    refine Qh.vc hC' ?_
    by_cases h7 : QjB r n = 0
    · have e9 : ZF c x r n = 0 := by rw [Qdn, if_pos ⟨h1, h7⟩]
      simp (maxSteps := 4000000) (disch := omega) only [rr, aop, cV, cV1, AV.one, Qb, okW, Qd, app, Qa, Qc, Qe, Qf, Qg, simprocAttr, h7, e9]
      try simp
    · have e9 : ZF c x r n = 8 := by rw [Qdn, if_neg (by simp [h7])]
      simp (maxSteps := 4000000) (disch := omega) only [rr, aop, cV, cV1, AV.one, Qb, okW, Qd, app, Qa, Qc, Qe, Qf, Qg, simprocAttr, e9]
      try simp [h7]
  · have e9 : ZF c x r n = 8 := by rw [Qdn, if_neg (by simp [h1])]
    simp (maxSteps := 4000000) (disch := omega) only [rr, aop, cV, cV1, AV.one, Qb, okW, Qd, app, Qa, Qc, Qe, Qf, Qg, simprocAttr, h1, e9]
    try simp

theorem Qke {P : Prg} {f fS fA fH t0 : Nat} (b : Qj P f 20 [.tmp 2] (ZP fS fA fH t0)) (hS : X5 P fS) (hA : QgB P fA) (hH : Qfo P fH) : Xg P f := by
  intro c x r l hI hl
  refine VC.of_acall (by simp [Qs, isD, QT]) rfl (ACall.of_body b (by simp) ?_)
  have hS' := hS c x r l
  have hA' := hA c x l hI
  have hH' := hH c x r (l.length / c) l
  rw [shA] at hS' hA'
  rw [il] at hS' hA' hH'
  simp (maxSteps := 4000000) (disch := omega) only [rr, aop, cV, cV1, AV.one, Qb, okW, Qd, app, Qa, Qc, Qe, Qf, Qg, simprocAttr, ZP, il]
  refine Ze.vc hS' ?_
  simp (maxSteps := 4000000) (disch := omega) only [rr, aop, cV, cV1, AV.one, Qb, okW, Qd, app, Qa, Qc, Qe, Qf, Qg, simprocAttr]
  refine Ze.vc hA' ?_
  by_cases h1 : Qb0 c x l = 0
  · have hc : 1 ≤ c := by
      obtain ⟨k, rfl, hk, _⟩ := Qle hI h1
      have := hk.1
      omega
    have hd := Qi1 (n := l.length) hc
    have q0 : (l.length : Int).tdiv c = l.length / c := Int.tdiv_eq_ediv_of_nonneg (by omega)
    simp (maxSteps := 4000000) (disch := omega) only [rr, aop, cV, cV1, AV.one, Qb, okW, Qd, app, Qa, Qc, Qe, Qf, Qg, simprocAttr, h1, q0]
    refine Ze.vc hH' ?_
    by_cases h2 : ZF c x r (l.length / c) = 0
    · have e9 : Z8 c x r l = 0 := by rw [QbM, if_pos ⟨h1, h2⟩]
      simp (maxSteps := 4000000) (disch := omega) only [rr, aop, cV, cV1, AV.one, Qb, okW, Qd, app, Qa, Qc, Qe, Qf, Qg, simprocAttr, h2, e9, decide_true, Bool.not_true]
    · have e9 : Z8 c x r l = 8 := by rw [QbM, if_neg (by simp [h2])]
      have e8 : decide (ZF c x r (l.length / c) = 0) = false := by simp [h2]
      simp (maxSteps := 4000000) (disch := omega) only [rr, aop, cV, cV1, AV.one, Qb, okW, Qd, app, Qa, Qc, Qe, Qf, Qg, simprocAttr, e8, e9, Bool.not_false]
  · have e9 : Z8 c x r l = 8 := by rw [QbM, if_neg (by simp [h1])]
    simp (maxSteps := 4000000) (disch := omega) only [rr, aop, cV, cV1, AV.one, Qb, okW, Qd, app, Qa, Qc, Qe, Qf, Qg, simprocAttr, h1, e9]
end Go.Am

namespace Go.Am
open Go.RowKit

def clA (c x r : Int) (l : List Int) : AV := .agg [.int .i64 c, .int .i64 x, .int .i64 r, il l]
def Qut (P : Prg) (f : Nat) : Prop := ∀ a b : List Int, a.length ≤ 1000000 → b.length ≤ 1000000 → VC P f [il a, il b] (.bool (decide (a = b)))
theorem QrO {P : Prg} {f : Nat} (bd : Qj P f 26 [.tmp 4] Zh) : Qut P f := by
  intro a b ha hb
  refine VC.of_acall (by simp [Qs, isD, QT]) rfl (ACall.of_body bd (by simp) ?_)
  by_cases hn : a.length = b.length
  · simp (maxSteps := 4000000) (disch := omega) only [rr, aop, cV, cV1, AV.one, Qb, okW, Qd, app, Qa, Qc, Qe, Qf, Qg, simprocAttr, Zh, il, hn]
    refine QW.by (ι := Nat) (fun k => ⟨[(5, .int .i64 k), (1, .list b.length (ks .i32 b)), (0, .list b.length (ks .i32 a))], []⟩) (fun k => k ≤ b.length ∧ ∀ j, j < k → a.getD j 0 = b.getD j 0) (fun k => b.length - k) 0 (Le.slots (by simp [Am.look, il])) ⟨by omega, by simp⟩ ?_
    intro k ⟨hk, hg⟩
    by_cases hlt : k < b.length
    · have e1 := Qci (K := .i32) (l := a) (i := k) (by omega)
      have e2 := Qci (K := .i32) (l := b) (i := k) hlt
      have la : (ks .i32 a).length = b.length := by rw [Qk, hn]
      by_cases he : a.getD k 0 = b.getD k 0
      · simp (maxSteps := 4000000) (disch := omega) only [rr, aop, cV, cV1, AV.one, Qb, okW, Qd, app, Qa, Qc, Qe, Qf, Qg, simprocAttr, e1, e2, he, la]
        exact ⟨k + 1, ⟨by omega, fun j hj => by
          by_cases e : j = k
          · rw [e]; exact he
          · exact hg j (by omega)⟩, by omega, Le.slots (by simp [Am.look, il])⟩
      · have e9 : decide (a = b) = false := by simp; intro h; rw [h] at he; exact he rfl
        simp (maxSteps := 4000000) (disch := omega) only [rr, aop, cV, cV1, AV.one, Qb, okW, Qd, app, Qa, Qc, Qe, Qf, Qg, simprocAttr, e1, e2, e9, la, he]
    · have e9 : decide (a = b) = true := by simp; exact ZW hn fun j hj => hg j (by omega)
      simp (maxSteps := 4000000) (disch := omega) only [rr, aop, cV, cV1, AV.one, Qb, okW, Qd, app, Qa, Qc, Qe, Qf, Qg, simprocAttr, e9]
  · have e9 : decide (a = b) = false := by simp; intro h; rw [h] at hn; exact hn rfl
    simp (maxSteps := 4000000) (disch := omega) only [rr, aop, cV, cV1, AV.one, Qb, okW, Qd, app, Qa, Qc, Qe, Qf, Qg, simprocAttr, Zh, il, e9]
end Go.Am

namespace Go.Am
open Go.RowKit

def iss (L : List (List Int)) : AV := .list L.length (L.map il)
theorem Qmk : ∀ L : List (List Int), Qs (L.map il) = true
  | [] => rfl
  | l :: L => by simp [Qs, QT, Qmk L]
theorem QpN (L : List (List Int)) : isD (iss L) = true := by simp [iss, isD, Qmk]
theorem QsU {L : List (List Int)} {k : Nat} (h : k < L.length) : (L.map il).drop k = il (L.getD k []) :: (L.map il).drop (k + 1) := by
  rw [List.drop_eq_getElem_cons (by simpa using h)]
  simp [List.getD_eq_getElem?_getD, List.getElem?_eq_getElem h]
theorem Qpq {a b : List (List Int)} (h : a.length = b.length) (h2 : ∀ j, j < a.length → a.getD j [] = b.getD j []) : a = b := by
  apply List.ext_getElem h
  intro i h1 h3
  have := h2 i h1
  simpa [List.getD_eq_getElem?_getD, List.getElem?_eq_getElem h1, List.getElem?_eq_getElem h3] using this
def QtC (L : List (List Int)) : Prop := L.length ≤ 1000000 ∧ ∀ j, (L.getD j []).length ≤ 1000000
def Qur (P : Prg) (f : Nat) : Prop := ∀ a b : List (List Int), QtC a → QtC b → VC P f [iss a, iss b] (.bool (decide (a = b)))
theorem QeR {P : Prg} {f fS : Nat} (bd : Qj P f 27 [.tmp 4] (QP fS)) (hS : Qut P fS) : Qur P f := by
  intro a b ⟨ha, ha2⟩ ⟨hb, hb2⟩
  refine VC.of_acall (by simp [Qs, isD, QpN]) rfl (ACall.of_body bd (by simp) ?_)
  have la' : (a.map il).length = a.length := by simp
  have lb' : (b.map il).length = b.length := by simp
  by_cases hn : a.length = b.length
  · simp (maxSteps := 4000000) (disch := omega) only [rr, aop, cV, cV1, AV.one, Qb, okW, Qd, app, Qa, Qc, Qe, Qf, Qg, simprocAttr, QP, iss, hn]
    refine QW.by (ι := Nat) (fun k => ⟨[(5, .int .i64 k), (1, .list b.length (b.map il)), (0, .list b.length (a.map il))], []⟩) (fun k => k ≤ b.length ∧ ∀ j, j < k → a.getD j [] = b.getD j []) (fun k => b.length - k) 0 (Le.slots (by simp [Am.look, iss])) ⟨by omega, by simp⟩ ?_
    intro k ⟨hk, hg⟩
    by_cases hlt : k < b.length
    · have e1 := QsU (L := a) (k := k) (by omega)
      have e2 := QsU (L := b) (k := k) hlt
      have hS' := hS (a.getD k []) (b.getD k []) (ha2 k) (hb2 k)
      simp (maxSteps := 4000000) (disch := omega) only [rr, aop, cV, cV1, AV.one, Qb, okW, Qd, app, Qa, Qc, Qe, Qf, Qg, simprocAttr, e1, e2]
      refine Ze.vc hS' ?_
      by_cases he : a.getD k [] = b.getD k []
      · have e8 : decide (a.getD k [] = b.getD k []) = true := by simp only [he, decide_true]
        simp (maxSteps := 4000000) (disch := omega) only [rr, aop, cV, cV1, AV.one, Qb, okW, Qd, app, Qa, Qc, Qe, Qf, Qg, simprocAttr, e8, Bool.not_true]
        exact ⟨k + 1, ⟨by omega, fun j hj => by
          by_cases e : j = k
          · rw [e]; exact he
          · exact hg j (by omega)⟩, by omega, Le.slots (by simp [Am.look])⟩
      · have e8 : decide (a.getD k [] = b.getD k []) = false := decide_eq_false he
        have e9 : decide (a = b) = false := decide_eq_false (fun h => he (by rw [h]))
        simp (maxSteps := 4000000) (disch := omega) only [rr, aop, cV, cV1, AV.one, Qb, okW, Qd, app, Qa, Qc, Qe, Qf, Qg, simprocAttr, e8, e9, Bool.not_false]
    · have e9 : decide (a = b) = true := decide_eq_true (Qpq hn fun j hj => hg j (by omega))
      simp (maxSteps := 4000000) (disch := omega) only [rr, aop, cV, cV1, AV.one, Qb, okW, Qd, app, Qa, Qc, Qe, Qf, Qg, simprocAttr, e9]
  · have e9 : decide (a = b) = false := decide_eq_false (fun h => hn (by rw [h]))
    simp (maxSteps := 4000000) (disch := omega) only [rr, aop, cV, cV1, AV.one, Qb, okW, Qd, app, Qa, Qc, Qe, Qf, Qg, simprocAttr, QP, iss, e9]
end Go.Am

namespace Go.Am
open Go.RowKit

/-! ### le.Bytes -/

def leB (n : Nat) : Nat → List UInt8
  | 0 => []
  | k + 1 => UInt8.ofNat (n % 256) :: leB (n / 256) k

theorem QF : ∀ (k n : Nat), (leB n k).length = k
  | 0, _ => rfl
  | k + 1, n => by simp [leB, QF k]

theorem Qkt : ∀ (k n i : Nat) (h : i < k), (leB n k)[i]? = some (UInt8.ofNat (n / 256 ^ i % 256))
  | k + 1, n, 0, _ => by simp [leB]
  | k + 1, n, i + 1, h => by
    simp only [leB, List.getElem?_cons_succ]
    rw [Qkt k (n / 256) i (by omega), Nat.div_div_eq_div_mul, Nat.pow_succ, Nat.mul_comm]

theorem QcT {n k i : Nat} (h : i < k) : (leB n k).take (i + 1) = (leB n k).take i ++ [UInt8.ofNat (n / 256 ^ i % 256)] := by
  rw [List.take_add_one, Qkt k n i h]
  rfl

theorem Qv5 {K : IntKind} {n k : Nat} (hk : k ≤ K.bits) : Qm false K (n : Int) (k : Int) = some (.int K ((n / 2 ^ k : Nat) : Int)) := by
  have h3 : ¬ ((k : Int) < 0) := by omega
  have h5 : min k K.bits = k := by omega
  have h6 : (n : Int).fdiv (2 ^ k) = ((n / 2 ^ k : Nat) : Int) := by
    rw [Int.fdiv_eq_ediv_of_nonneg _ (Int.pow_nonneg (by decide))]
    simp [Int.natCast_ediv, Int.natCast_pow]
  simp only [Qm, if_neg h3, Bool.false_eq_true, if_false, Int.toNat_natCast, h5, h6]

def QqV (P : Prg) (f : Nat) : Prop := ∀ n w : Nat, 1 ≤ w → w ≤ 8 → VC P f [.int .u64 n, .int .i64 w] (.bool (decide (w = 8) || decide (n / 2 ^ (8 * w) = 0)))
theorem QtL {P : Prg} {f : Nat} (b : Qj P f 14 [.tmp 4] Qap) : QqV P f := by
  intro n w h1 h2
  refine VC.of_acall rfl rfl (ACall.of_body b (by simp) ?_)
  by_cases h8 : w = 8
  · subst h8
    simp (maxSteps := 4000000) (disch := omega) only [rr, aop, cV, cV1, AV.one, Qb, okW, Qd, app, Qa, Qc, Qe, Qf, Qg, simprocAttr, Qap]
  · have e1 : (decide (w = 8)) = false := by simpa using h8
    have e2 : Qm false .u64 (n : Int) (8 * (w : Int)) = some (.int .u64 ((n / 2 ^ (8 * w) : Nat) : Int)) := by
      have := Qv5 (K := .u64) (n := n) (k := 8 * w) (by simp [IntKind.bits]; omega)
      rwa [Int.natCast_mul] at this
    have e3 : (((n / 2 ^ (8 * w) : Nat) : Int) == 0) = decide (n / 2 ^ (8 * w) = 0) := by rw [Bool.eq_iff_iff]; simp only [beq_iff_eq, decide_eq_true_eq]; omega
    have e4 : ((w : Int) = 8) = False := eq_false (by omega)
    by_cases h9 : n / 2 ^ (8 * w) = 0
    · have e5 : (decide (n / 2 ^ (8 * w) = 0)) = true := by simpa using h9
      have e6 : (((n / 2 ^ (8 * w) : Nat) : Int) = 0) = True := eq_true (by omega)
      rw [e5]
      simp (maxSteps := 4000000) (disch := omega) only [rr, aop, cV, cV1, AV.one, Qb, okW, Qd, app, Qa, Qc, Qe, Qf, Qg, simprocAttr, Qap, e1, e2, e4, e6]
    · have e5 : (decide (n / 2 ^ (8 * w) = 0)) = false := by simpa using h9
      have e6 : (((n / 2 ^ (8 * w) : Nat) : Int) = 0) = False := eq_false (by omega)
      rw [e5]
      simp (maxSteps := 4000000) (disch := omega) only [rr, aop, cV, cV1, AV.one, Qb, okW, Qd, app, Qa, Qc, Qe, Qf, Qg, simprocAttr, Qap, e1, e2, e4, e6]

def Qfm (P : Prg) (f : Nat) : Prop := ∀ n w : Nat, 1 ≤ w → w ≤ 8 → n < 256 ^ w → VC P f [.int .u64 n, .int .i64 w] (.tup [bs (leB n w), .int .i64 0])

theorem Qsg {t n : Nat} {l : List UInt8} (h : n = l.length) {e : Int} : Zr (fun _ => true) [⟨t, 1, n, u8 l, 0⟩] 2 [.tup [.own 0 n, .int .i64 e]] = some [.tup [bs l, .int .i64 e]] := by
  subst h
  simp only [Zr, QJ, QO, QI, Bool.false_eq_true, if_false, List.getElem?_cons_zero, and_self, if_true, Qr _ (Xl l), Option.map_some, bs]

theorem Qr2 {P : Prg} {f fF t0 : Nat} (b : Qj P f 35 [.tmp 4, .tmp 5] (QaU fF t0)) (hF : QqV P fF) : Qfm P f := by
  intro n w h1 h2 hn
  refine VC.of_walk 1 (by simp [Qs, isD]) (by simp [isD, Qs, X3]) (ACall.of_body b (by simp) ?_)
  have hn8 : n < 18446744073709551616 := Nat.lt_of_lt_of_le hn (Nat.le_trans (Nat.pow_le_pow_right (by omega) h2) (by decide))
  simp (maxSteps := 4000000) (disch := omega) only [rr, aop, cV, cV1, AV.one, Qb, okW, Qd, app, Qa, Qc, Qe, Qf, Qg, simprocAttr, QaU]
  refine Qh.vc (hF n w h1 h2) ?_
  have e0 : (decide (w = 8) || decide (n / 2 ^ (8 * w) = 0)) = true := by
    have : n / 2 ^ (8 * w) = 0 := Nat.div_eq_of_lt (by rw [Nat.pow_mul]; exact hn)
    simp [this]
  rw [e0]
  have r0 : Qq [.int .u8 0] w = u8 ([] : List UInt8) ++ List.replicate w (.int .u8 0) := by
    have : ∀ k, Qq [AV.int .u8 0] k = List.replicate k (.int .u8 0) := fun k => by
      induction k with
      | zero => rfl
      | succ k ih => simp [Qq, ih, List.replicate_succ]
    rw [this]; rfl
  simp (maxSteps := 4000000) (disch := omega) only [rr, aop, cV, cV1, AV.one, Qb, okW, Qd, app, Qa, Qc, Qe, Qf, Qg, simprocAttr, QaU]
  rw [r0]
  refine QW.by (ι := Nat) (fun k => ⟨[(22, .int .i64 k), (21, .int .i64 w), (6, .own 0 w), (0, .int .u64 n)], [⟨t0, 1, w, u8 ((leB n w).take k) ++ List.replicate (w - k) (.int .u8 0), 0⟩]⟩) (fun k => k ≤ w) (fun k => w - k) 0 (Le.slots (by simp [Am.look])) (by omega) ?_
  intro k hk
  by_cases hlt : k < w
  · have e2 : Qm false .u64 (n : Int) (8 * (k : Int)) = some (.int .u64 ((n / 256 ^ k : Nat) : Int)) := by
      have := Qv5 (K := .u64) (n := n) (k := 8 * k) (by simp [IntKind.bits]; omega)
      rwa [Int.natCast_mul, Nat.pow_mul] at this
    have e3 : IntKind.u8.wrap ((n / 256 ^ k : Nat) : Int) = ((UInt8.ofNat (n / 256 ^ k % 256)).toNat : Int) := by
      simp [IntKind.wrap, IntKind.signed, IntKind.bits]
    have hl : (u8 ((leB n w).take k)).length = k := by simp [Zv, QF]; omega
    have e4 : (u8 ((leB n w).take k) ++ List.replicate (w - k) (AV.int .u8 0)).take k = u8 ((leB n w).take k) := by rw [List.take_left' hl]
    have e5 : (u8 ((leB n w).take k) ++ List.replicate (w - k) (AV.int .u8 0)).drop (k + 1) = List.replicate (w - (k + 1)) (.int .u8 0) := by
      rw [List.drop_append, List.drop_of_length_le (by omega), hl]
      simp
      omega
    have e6 : u8 ((leB n w).take k) ++ [AV.int .u8 ((UInt8.ofNat (n / 256 ^ k % 256)).toNat : Int)] = u8 ((leB n w).take (k + 1)) := by
      rw [QcT hlt, ← QeL]; rfl
    simp (maxSteps := 4000000) (disch := omega) only [rr, aop, cV, cV1, AV.one, Qb, okW, Qd, app, Qa, Qc, Qe, Qf, Qg, simprocAttr, e2, e3, hl, e4, e5, e6]
    refine ⟨k + 1, by omega, by omega, ?_⟩
    refine Le.slots ?_
    simp [Am.look]
  · have ek : k = w := by omega
    subst ek
    have e7 : (leB n k).take k = leB n k := List.take_of_length_le (by rw [QF]; exact Nat.le_refl _)
    have e8 : u8 (leB n k) ++ List.replicate (k - k) (AV.int .u8 0) = u8 (leB n k) := by simp
    simp (maxSteps := 4000000) (disch := omega) only [rr, aop, cV, cV1, AV.one, Qb, okW, Qd, app, Qa, Qc, Qe, Qf, Qg, simprocAttr, e7]
    rw [e8, Qsg (QF k n).symm]

end Go.Am

namespace Go.Am
open Go.RowKit

/-! ### The chunk that tells the form: without a program -/

def QuI (c b r : Int) : Prop := 1 ≤ c ∧ c ≤ 6 ∧ Jj b ≠ 0 ∧ 1 ≤ r ∧ r ≤ 1048576
instance (c b r : Int) : Decidable (QuI c b r) := by unfold QuI; exact inferInstance
/-! ### Check, Wide -/

end Go.Am

namespace Go.Am
open Go.RowKit

theorem Qmd : ∀ (k n : Nat), n < 256 ^ k → leN (leB n k) = n
  | 0, n, h => by simp at h; subst h; rfl
  | k + 1, n, h => by
    have h1 : n / 256 < 256 ^ k := by rw [Nat.pow_succ] at h; exact Nat.div_lt_of_lt_mul (by omega)
    have h2 : (UInt8.ofNat (n % 256)).toNat = n % 256 := by simp
    simp only [leB, leN, Qmd k _ h1, h2]
    omega

end Go.Am

namespace Go.Am
open Go.RowKit

/-! ### Numbers: bit by bit -/

theorem QbO {w n : Nat} (h : n < 2 ^ w) : BitVec.ofInt w (n : Int) = BitVec.ofNat w n := by
  apply BitVec.eq_of_toNat_eq
  rw [BitVec.toNat_ofInt, BitVec.toNat_ofNat]
  omega

theorem Qee {K : IntKind} (hs : K.signed = false) {n : Nat} (h : n < 2 ^ K.bits) : K.wrap (n : Int) = n := by
  have h1 : (n : Int) % 2 ^ K.bits = n := by
    rw [Int.emod_eq_of_lt (by omega)]
    exact_mod_cast h
  unfold IntKind.wrap
  simp [hs, h1]

theorem Qq6 {K : IntKind} (hs : K.signed = false) {a b : Nat} (ha : a < 2 ^ K.bits) (hb : b < 2 ^ K.bits) : K.wrap (BitVec.ofInt K.bits (a : Int) ^^^ BitVec.ofInt K.bits (b : Int)).toNat = ((a ^^^ b : Nat) : Int) := by
  rw [QbO ha, QbO hb, BitVec.toNat_xor, BitVec.toNat_ofNat, BitVec.toNat_ofNat, Nat.mod_eq_of_lt ha, Nat.mod_eq_of_lt hb]
  exact Qee hs (Nat.xor_lt_two_pow ha hb)
theorem QvH {K : IntKind} (hs : K.signed = false) {a b : Nat} (ha : a < 2 ^ K.bits) (hb : b < 2 ^ K.bits) : K.wrap (BitVec.ofInt K.bits (a : Int) &&& BitVec.ofInt K.bits (b : Int)).toNat = ((a &&& b : Nat) : Int) := by
  rw [QbO ha, QbO hb, BitVec.toNat_and, BitVec.toNat_ofNat, BitVec.toNat_ofNat, Nat.mod_eq_of_lt ha, Nat.mod_eq_of_lt hb]
  exact Qee hs (Nat.and_lt_two_pow _ hb)
theorem orK {K : IntKind} (hs : K.signed = false) {a b : Nat} (ha : a < 2 ^ K.bits) (hb : b < 2 ^ K.bits) : K.wrap (BitVec.ofInt K.bits (a : Int) ||| BitVec.ofInt K.bits (b : Int)).toNat = ((a ||| b : Nat) : Int) := by
  rw [QbO ha, QbO hb, BitVec.toNat_or, BitVec.toNat_ofNat, BitVec.toNat_ofNat, Nat.mod_eq_of_lt ha, Nat.mod_eq_of_lt hb]
  exact Qee hs (Nat.or_lt_two_pow ha hb)

theorem QhV {K : IntKind} {n k : Nat} (hk : k ≤ K.bits) : Qm false K (n : Int) (k : Int) = some (.int K ((n / 2 ^ k : Nat) : Int)) := by
  have h3 : ¬ ((k : Int) < 0) := by omega
  have h5 : min k K.bits = k := by omega
  have h6 : (n : Int).fdiv (2 ^ k) = ((n / 2 ^ k : Nat) : Int) := by
    rw [Int.fdiv_eq_ediv_of_nonneg _ (Int.pow_nonneg (by decide))]
    simp [Int.natCast_ediv, Int.natCast_pow]
  simp only [Qm, if_neg h3, Bool.false_eq_true, if_false, Int.toNat_natCast, h5, h6]

theorem Qob {K : IntKind} (hs : K.signed = false) {c s : Nat} (h : s ≤ K.bits) (h2 : c * 2 ^ s < 2 ^ K.bits) : Qm true K (c : Int) (s : Int) = some (.int K ((c * 2 ^ s : Nat) : Int)) := by
  have h3 : ¬ ((s : Int) < 0) := by omega
  have h5 : min s K.bits = s := by omega
  have h6 : (c : Int) * 2 ^ s = ((c * 2 ^ s : Nat) : Int) := by simp
  simp only [Qm, if_neg h3, if_true, Int.toNat_natCast, h5, h6]
  rw [Qee hs h2]

end Go.Am

namespace Go.Am
open Go.RowKit

/-! ### CRC-32 (plain) -/

def Qsp (c : Nat) : Nat := (c / 2) ^^^ (if c % 2 = 1 then 3988292384 else 0)
def Qeq : Nat → Nat → Nat
  | 0, c => c
  | k + 1, c => Qeq k (Qsp c)

theorem Qt9 {c : Nat} (h : c < 4294967296) : Qsp c < 4294967296 := by
  unfold Qsp
  have : (if c % 2 = 1 then 3988292384 else 0) < 2 ^ 32 := by split <;> decide
  exact Nat.xor_lt_two_pow (n := 32) (by omega) this
theorem Qhj : ∀ (k : Nat) {c : Nat}, c < 4294967296 → Qeq k c < 4294967296
  | 0, _, h => h
  | k + 1, _, h => Qhj k (Qt9 h)
theorem Qi2 : ∀ (k c : Nat), Qeq (k + 1) c = Qsp (Qeq k c)
  | 0, _ => rfl
  | k + 1, c => by rw [Qeq, Qi2 k, Qeq]

theorem Qso (x h : Nat) : Qsp (x ^^^ 2 * h) = Qsp x ^^^ h := by
  have e1 : (x ^^^ 2 * h) % 2 = x % 2 := by
    have := Nat.xor_mod_two_pow (a := x) (b := 2 * h) (n := 1)
    simpa using this
  have e2 : (x ^^^ 2 * h) / 2 = x / 2 ^^^ h := by rw [Nat.xor_div_two, Nat.mul_div_cancel_left _ (by omega)]
  unfold Qsp
  rw [e1, e2, Nat.xor_assoc, Nat.xor_assoc, Nat.xor_comm h]

theorem Qmv : ∀ (k x h : Nat), Qeq k (x ^^^ 2 ^ k * h) = Qeq k x ^^^ h
  | 0, x, h => by simp [Qeq]
  | k + 1, x, h => by
    rw [Qeq, Nat.pow_succ, Nat.mul_comm (2 ^ k) 2, Nat.mul_assoc, Qso, Qmv k, Qeq]

theorem Qh1 (b k : Nat) : b = b % 2 ^ k ^^^ 2 ^ k * (b / 2 ^ k) := by
  apply Nat.eq_of_testBit_eq
  intro i
  rw [Nat.testBit_xor, Nat.testBit_mod_two_pow, Nat.testBit_two_pow_mul, Nat.testBit_div_two_pow]
  by_cases h : i < k
  · have : ¬ k ≤ i := by omega
    simp [h, this]
  · have h' : k ≤ i := by omega
    simp [h, h', show i - k + k = i by omega]

def Qva (s b : Nat) : Nat := Qeq 8 (s ^^^ b)
theorem QnJ (s b : Nat) : Qva s b = s / 256 ^^^ Qeq 8 (s % 256 ^^^ b) := by
  have h : s ^^^ b = (s % 256 ^^^ b) ^^^ 2 ^ 8 * (s / 256) := by
    have := Qh1 s 8
    rw [show (2 : Nat) ^ 8 = 256 from rfl] at this ⊢
    rw [Nat.xor_assoc, Nat.xor_comm b, ← Nat.xor_assoc, ← this]
  rw [Qva, h, Qmv, Nat.xor_comm]
theorem Qua {s b : Nat} (hs : s < 4294967296) (hb : b < 256) : Qva s b < 4294967296 := Qhj 8 (Nat.xor_lt_two_pow (n := 32) (by omega) (by omega))

def Qod (s : Nat) (l : List UInt8) : Nat := l.foldl (fun s b => Qva s b.toNat) s
theorem Qqi {s : Nat} {l : List UInt8} {k : Nat} (h : k < l.length) : Qod s (l.take (k + 1)) = Qva (Qod s (l.take k)) (l[k]).toNat := by
  rw [List.take_succ_eq_append_getElem h, Qod, List.foldl_append]; rfl
theorem QkO : ∀ {l : List UInt8} {s : Nat}, s < 4294967296 → Qod s l < 4294967296
  | [], _, h => h
  | b :: l, s, h => QkO (l := l) (Qua h (UInt8.toNat_lt b))

end Go.Am

namespace Go.Am
open Go.RowKit

/-! ### CRC-32 -/

def Qim (i : Nat) : List Int := (List.range 256).map fun j => if j < i then ((Qeq 8 j : Nat) : Int) else 0
theorem Xe (i : Nat) : (Qim i).length = 256 := by simp [Qim]
theorem Qeg {i j : Nat} (h : j < 256) : (Qim i)[j]'(by rw [Xe]; exact h) = if j < i then ((Qeq 8 j : Nat) : Int) else 0 := by simp [Qim]
theorem Qrm {i : Nat} (h : i < 256) : (Qim i).set i ((Qeq 8 i : Nat) : Int) = Qim (i + 1) := by
  refine List.ext_getElem (by simp [Xe]) fun j h1 h2 => ?_
  have hj : j < 256 := by simpa [Xe] using h2
  rw [List.getElem_set, Qeg hj]
  split
  · rename_i e; subst e; rw [Qeg hj, if_pos (by omega)]
  · rename_i e; rw [Qeg hj]
    by_cases h3 : j < i
    · rw [if_pos h3, if_pos (by omega)]
    · rw [if_neg h3, if_neg (by omega)]

def Qlj (P : Prg) (f : Nat) : Prop := VC P f [] (.cell (ks .u32 (Qim 256)))
theorem QdN {l : List UInt8} {k : Nat} (h : k < l.length) : (u8 l).drop k = .int .u8 (l[k]).toNat :: u8 (l.drop (k + 1)) := by
  rw [Qow, List.drop_eq_getElem_cons h]; rfl

set_option maxRecDepth 40000 in
theorem QkQ {P : Prg} {f t0 : Nat} (bd : Qj P f 24 [.tmp 0] (Qab t0)) : Qlj P f := by
  refine VC.of_walk 1 rfl (by simp [isD, QpK (Qx _ _)]) (ACall.of_body bd (by simp) ?_)
  unfold Qab
  have z0 : ([.int .u32 0, .int .u32 0] : List AV) = [.int .u32 0, .int .u32 0] := rfl
  simp (maxSteps := 4000000) (disch := omega) only [rr, aop, cV, cV1, AV.one, Qb, okW, Qd, app, Qa, Qc, Qe, Qf, Qg, simprocAttr]
  refine QW.by (ι := Nat) (fun i => ⟨[(5, .int .i64 i), (1, .ref 0 1 0)], [⟨t0, 256, 1, ks .u32 (Qim i), 0⟩]⟩) (fun i => i ≤ 256) (fun i => 256 - i) 0 (Le.slots (by simp [Am.look])) (by omega) ?_
  intro i hi
  by_cases hlt : i < 256
  · simp (maxSteps := 4000000) (disch := omega) only [rr, aop, cV, cV1, AV.one, Qb, okW, Qd, app, Qa, Qc, Qe, Qf, Qg, simprocAttr]
    refine QW.by (ι := Nat) (fun j => ⟨[(10, .int .i64 j), (3, .int .u32 (Qeq j i)), (5, .int .i64 i), (2, .int .i64 i), (1, .ref 0 1 0)], [⟨t0, 256, 1, ks .u32 (Qim i), 0⟩]⟩) (fun j => j ≤ 8) (fun j => 8 - j) 0 (Le.slots (by simp [Am.look, Qeq])) (by omega) ?_
    intro j hj
    by_cases hjl : j < 8
    · have hc := Qhj j (c := i) (by omega)
      have hn := Qi2 j i
      generalize Qeq j i = c at *
      have a1 : IntKind.u32.wrap (BitVec.ofInt IntKind.u32.bits (c : Int) &&& BitVec.ofInt IntKind.u32.bits 1).toNat = ((c % 2 : Nat) : Int) := by
        have h := QvH (K := .u32) rfl (a := c) (b := 1) (by exact hc) (by decide)
        rw [Nat.and_one_is_mod] at h
        exact h
      have a2 : Qm false .u32 (c : Int) 1 = some (.int .u32 ((c / 2 : Nat) : Int)) := QhV (K := .u32) (n := c) (k := 1) (by decide)
      rcases Nat.mod_two_eq_zero_or_one c with h2 | h2
      · have a3 : IntKind.u32.wrap (BitVec.ofInt IntKind.u32.bits ((c / 2 : Nat) : Int) ^^^ BitVec.ofInt IntKind.u32.bits 0).toNat = ((Qeq (j + 1) i : Nat) : Int) := by
          rw [hn, Qsp, h2, if_neg (by decide)]
          exact Qq6 (K := .u32) rfl (a := c / 2) (b := 0) (by show c / 2 < 4294967296; omega) (by decide)
        have a1' : IntKind.u32.wrap (BitVec.ofInt IntKind.u32.bits (c : Int) &&& BitVec.ofInt IntKind.u32.bits 1).toNat = 0 := by rw [a1, h2]; rfl
        simp (maxSteps := 4000000) (disch := omega) only [rr, aop, cV, cV1, AV.one, Qb, okW, Qd, app, Qa, Qc, Qe, Qf, Qg, simprocAttr, a1', a2, a3]
        exact ⟨j + 1, by omega, by omega, Le.slots (by simp [Am.look])⟩
      · have a3 : IntKind.u32.wrap (BitVec.ofInt IntKind.u32.bits ((c / 2 : Nat) : Int) ^^^ BitVec.ofInt IntKind.u32.bits 3988292384).toNat = ((Qeq (j + 1) i : Nat) : Int) := by
          rw [hn, Qsp, h2, if_pos rfl]
          exact Qq6 (K := .u32) rfl (a := c / 2) (b := 3988292384) (by show c / 2 < 4294967296; omega) (by decide)
        have a1' : IntKind.u32.wrap (BitVec.ofInt IntKind.u32.bits (c : Int) &&& BitVec.ofInt IntKind.u32.bits 1).toNat = 1 := by rw [a1, h2]; rfl
        simp (maxSteps := 4000000) (disch := omega) only [rr, aop, cV, cV1, AV.one, Qb, okW, Qd, app, Qa, Qc, Qe, Qf, Qg, simprocAttr, a1', a2, a3]
        exact ⟨j + 1, by omega, by omega, Le.slots (by simp [Am.look])⟩
    · obtain rfl : j = 8 := by omega
      have e1 := Xe i
      have e2 := Qk .u32 (Qim i)
      have e3 : (ks .u32 (Qim i)).take i ++ [.int .u32 (Qeq 8 i)] ++ (ks .u32 (Qim i)).drop (i + 1) = ks .u32 (Qim (i + 1)) := by
        rw [← Qrm hlt, List.set_eq_take_append_cons_drop, if_pos (by rw [Xe]; exact hlt)]; simp [ks, List.map_take, List.map_drop]
      simp (maxSteps := 4000000) (disch := omega) only [rr, aop, cV, cV1, AV.one, Qb, okW, Qd, app, Qa, Qc, Qe, Qf, Qg, simprocAttr, e1, e2, e3]
      exact ⟨i + 1, by omega, by omega, Le.slots (by simp [Am.look])⟩
  · obtain rfl : i = 256 := by omega
    simp (maxSteps := 4000000) (disch := omega) only [rr, aop, cV, cV1, AV.one, Qb, okW, Qd, app, Qa, Qc, Qe, Qf, Qg, simprocAttr]
    simp [Zr, QJ, QO, QI, Qr _ (Qx _ _)]

def Qlv (P : Prg) (f : Nat) : Prop := ∀ (s : Nat) (l : List UInt8), s < 4294967296 → VC P f [.int .u32 s, bs l] (if 100000 < l.length then .tup [.int .u32 0, .int .i64 4] else .tup [.int .u32 (Qod s l), .int .i64 0])
set_option maxRecDepth 40000 in
theorem QnL {P : Prg} {f fT : Nat} (bd : Qj P f 32 [.tmp 4, .tmp 5] (Jp fT)) (hT : Qlj P fT) : Qlv P f := by
  intro s l hs
  refine VC.of_acall (by simp [Qs, isD, X3]) (by split <;> rfl) (ACall.of_body bd (by simp) ?_)
  by_cases hl : 100000 < l.length
  · rw [if_pos hl]
    simp (maxSteps := 4000000) (disch := omega) only [rr, aop, cV, cV1, AV.one, Qb, okW, Qd, app, Qa, Qc, Qe, Qf, Qg, simprocAttr, Jp, bs]
  · rw [if_neg hl]
    have hT' := hT
    have t0 := Qk .u32 (Qim 256)
    rw [Xe] at t0
    simp (maxSteps := 4000000) (disch := omega) only [rr, aop, cV, cV1, AV.one, Qb, okW, Qd, app, Qa, Qc, Qe, Qf, Qg, simprocAttr, Jp, bs]
    refine Qh.vc hT' ?_
    simp (maxSteps := 4000000) (disch := omega) only [rr, aop, cV, cV1, AV.one, Qb, okW, Qd, app, Qa, Qc, Qe, Qf, Qg, simprocAttr]
    refine QW.by (ι := Nat) (fun k => ⟨[(15, .int .i64 k), (14, .int .i64 l.length), (13, .list l.length (u8 l)), (6, .cell (ks .u32 (Qim 256))), (0, .int .u32 (Qod s (l.take k)))], []⟩) (fun k => k ≤ l.length) (fun k => l.length - k) 0 (Le.slots (by simp [Am.look, Qod])) (by omega) ?_
    intro k hk
    have hc := QkO (l := l.take k) hs
    by_cases hlt : k < l.length
    · have e1 := QdN hlt
      have hn := Qqi (s := s) hlt
      generalize Qod s (l.take k) = c at *
      rw [QnJ] at hn
      have hb := (l[k]).toNat_lt
      have h0 : (c % 256 ^^^ (l[k]).toNat) < 256 := Nat.xor_lt_two_pow (n := 8) (Nat.mod_lt _ (by decide)) hb
      have h1 := Qhj 8 (c := c % 256 ^^^ (l[k]).toNat) (by omega)
      have a1 : Qm false .u32 (c : Int) 8 = some (.int .u32 ((c / 256 : Nat) : Int)) := QhV (K := .u32) (n := c) (k := 8) (by decide)
      have a2 : IntKind.u8.wrap (c : Int) = ((c % 256 : Nat) : Int) := by rw [Qcb]; omega
      have a3 : IntKind.u8.wrap (BitVec.ofInt IntKind.u8.bits ((c % 256 : Nat) : Int) ^^^ BitVec.ofInt IntKind.u8.bits ((l[k]).toNat : Int)).toNat = ((c % 256 ^^^ (l[k]).toNat : Nat) : Int) :=
        Qq6 (K := .u8) rfl (a := c % 256) (b := (l[k]).toNat) (Nat.mod_lt _ (by decide)) hb
      have a4 : IntKind.u32.wrap (BitVec.ofInt IntKind.u32.bits ((c / 256 : Nat) : Int) ^^^ BitVec.ofInt IntKind.u32.bits ((Qeq 8 (c % 256 ^^^ (l[k]).toNat) : Nat) : Int)).toNat = ((Qod s (l.take (k + 1)) : Nat) : Int) := by
        rw [hn]; exact Qq6 (K := .u32) rfl (by show c / 256 < 4294967296; omega) h1
      generalize c % 256 ^^^ (l[k]).toNat = x at *
      have e2 : (ks .u32 (Qim 256)).drop x = .int .u32 ((Qeq 8 x : Nat) : Int) :: ks .u32 ((Qim 256).drop (x + 1)) := by
        rw [QaG, List.drop_eq_getElem_cons (by rw [Xe]; exact h0), Qch, Qeg h0, if_pos h0]
      simp (maxSteps := 4000000) (disch := omega) only [rr, aop, cV, cV1, AV.one, Qb, okW, Qd, app, Qa, Qc, Qe, Qf, Qg, simprocAttr, e1, a1, a2, a3, a4, e2, t0]
      exact ⟨k + 1, by omega, by omega, Le.slots (by simp [Am.look])⟩
    · have ek : k = l.length := by omega
      subst ek
      rw [List.take_length]
      simp (maxSteps := 4000000) (disch := omega) only [rr, aop, cV, cV1, AV.one, Qb, okW, Qd, app, Qa, Qc, Qe, Qf, Qg, simprocAttr]

def QmO (P : Prg) (f : Nat) : Prop := ∀ (l : List UInt8), VC P f [bs l] (if 100000 < l.length then .tup [.int .u32 0, .int .i64 4] else .tup [.int .u32 ((4294967295 - Qod 4294967295 l : Nat) : Int), .int .i64 0])

theorem Qs5 {c : Nat} (h : c < 4294967296) : 4294967295 ^^^ c = 4294967295 - c := by
  have h1 : BitVec.allOnes 32 ^^^ BitVec.ofNat 32 c = ~~~ BitVec.ofNat 32 c := by
    apply BitVec.eq_of_getElem_eq
    intro i hi
    rw [BitVec.getElem_xor, BitVec.getElem_allOnes, BitVec.getElem_not, Bool.true_xor]
  have h2 := congrArg BitVec.toNat h1
  rw [BitVec.toNat_xor, BitVec.toNat_not, BitVec.toNat_allOnes, BitVec.toNat_ofNat, Nat.mod_eq_of_lt h] at h2
  exact h2

theorem Qqk {P : Prg} {f fN : Nat} (bd : Qj P f 16 [.tmp 2, .tmp 3] (JW fN)) (hN : Qlv P fN) : QmO P f := by
  intro l
  refine VC.of_acall (by simp [Qs, isD, X3]) (by split <;> rfl) (ACall.of_body bd (by simp) ?_)
  have hN' := hN 4294967295 l (by decide)
  have hc := QkO (l := l) (s := 4294967295) (by decide)
  generalize Qod 4294967295 l = c at *
  simp only [bs] at hN'
  by_cases hl : 100000 < l.length
  · rw [if_pos hl] at hN' ⊢
    simp (maxSteps := 4000000) (disch := omega) only [rr, aop, cV, cV1, AV.one, Qb, okW, Qd, app, Qa, Qc, Qe, Qf, Qg, simprocAttr, JW, bs]
    refine Qh.vc hN' ?_
    simp (maxSteps := 4000000) (disch := omega) only [rr, aop, cV, cV1, AV.one, Qb, okW, Qd, app, Qa, Qc, Qe, Qf, Qg, simprocAttr]
  · rw [if_neg hl] at hN' ⊢
    have a1 : IntKind.u32.wrap (BitVec.ofInt IntKind.u32.bits IntKind.u32.max ^^^ BitVec.ofInt IntKind.u32.bits (c : Int)).toNat = ((4294967295 - c : Nat) : Int) := by
      rw [← Qs5 hc]
      exact Qq6 (K := .u32) rfl (a := 4294967295) (b := c) (by decide) hc
    have a2 : IntKind.u32.signed = false := rfl
    simp (maxSteps := 4000000) (disch := omega) only [rr, aop, cV, cV1, AV.one, Qb, okW, Qd, app, Qa, Qc, Qe, Qf, Qg, simprocAttr, JW, bs]
    refine Qh.vc hN' ?_
    simp (maxSteps := 4000000) (disch := omega) only [rr, aop, cV, cV1, AV.one, Qb, okW, Qd, app, Qa, Qc, Qe, Qf, Qg, simprocAttr, a1, a2]

/-! ### Its reference -/

end Go.Am

namespace Go.Am
open Go.RowKit

/-! ### Read is what was written: without a program -/

theorem Qg2 : ∀ l : List UInt8, leB (leN l) l.length = l
  | [] => rfl
  | b :: l => by
    have h1 := b.toNat_lt
    have e1 : (b.toNat + 256 * leN l) % 256 = b.toNat := by omega
    have e2 : (b.toNat + 256 * leN l) / 256 = leN l := by omega
    simp only [leN, List.length_cons, leB, e1, e2, Qg2 l]
    simp

end Go.Am

namespace Go.Am
open Go.RowKit

/-! ### Bits as a QcP: N bits, whose QcP is V; their bytes are leB V (nB N) -/

def nB (N : Nat) : Nat := (N + 7) / 8

theorem Qr5 (V i : Nat) : leB V (i + 1) = leB V i ++ [UInt8.ofNat (V / 256 ^ i % 256)] := by
  have h1 : (leB V (i + 1)).take (i + 1) = (leB V (i + 1)).take i ++ [UInt8.ofNat (V / 256 ^ i % 256)] := QcT (by omega)
  have h2 : ∀ k j n : Nat, k ≤ j → (leB n j).take k = leB n k := by
    intro k
    induction k with
    | zero => intro j n _; simp [leB]
    | succ k ih =>
      intro j n h
      obtain ⟨j, rfl⟩ : ∃ j', j = j' + 1 := ⟨j - 1, by omega⟩
      simp [leB, ih j (n / 256) (by omega)]
  rw [h2 (i + 1) (i + 1) V (by omega), h2 i (i + 1) V (by omega)] at h1
  exact h1

theorem QpH : ∀ (i V u : Nat), leB (V + 256 ^ i * u) i = leB V i
  | 0, _, _ => rfl
  | i + 1, V, u => by
    have e : 256 ^ (i + 1) * u = 256 * (256 ^ i * u) := by rw [Nat.pow_succ, Nat.mul_comm (256 ^ i) 256, Nat.mul_assoc]
    have e1 : (V + 256 ^ (i + 1) * u) % 256 = V % 256 := by rw [e]; omega
    have e2 : (V + 256 ^ (i + 1) * u) / 256 = V / 256 + 256 ^ i * u := by rw [e]; omega
    simp only [leB, e1, e2, QpH i]

theorem QlZ (i : Nat) : (256 : Nat) ^ i = 2 ^ (8 * i) := by rw [Nat.pow_mul]

theorem Qbr {V i at_ : Nat} (h : V < 2 ^ (8 * i + at_)) (ha : at_ ≤ 8) : leB V (i + 1) = leB V i ++ [UInt8.ofNat (V / 256 ^ i)] ∧ V / 256 ^ i < 2 ^ at_ := by
  have h1 : V / 256 ^ i < 2 ^ at_ := Nat.div_lt_of_lt_mul (by rw [QlZ, ← Nat.pow_add]; exact h)
  have h2 : 2 ^ at_ ≤ 2 ^ 8 := Nat.pow_le_pow_right (by omega) ha
  exact ⟨by rw [Qr5, Nat.mod_eq_of_lt (by omega)], h1⟩

theorem Qb9 {V i at_ w r : Nat} (h : V < 2 ^ (8 * i + at_)) (hw : w < 2 ^ r) (hr : at_ + r ≤ 8) :
    leB (V + 2 ^ (8 * i + at_) * w) (i + 1) = leB V i ++ [UInt8.ofNat (V / 256 ^ i + 2 ^ at_ * w)] ∧ V / 256 ^ i + 2 ^ at_ * w < 2 ^ (at_ + r) ∧ V + 2 ^ (8 * i + at_) * w < 2 ^ (8 * i + (at_ + r)) := by
  obtain ⟨_, h1⟩ := Qbr h (by omega)
  have e : 2 ^ (8 * i + at_) * w = 256 ^ i * (2 ^ at_ * w) := by rw [QlZ, Nat.pow_add, Nat.mul_assoc]
  have h2 : V / 256 ^ i + 2 ^ at_ * w < 2 ^ (at_ + r) := by
    have : 2 ^ at_ * (w + 1) ≤ 2 ^ at_ * 2 ^ r := Nat.mul_le_mul_left _ hw
    rw [Nat.pow_add]; rw [Nat.mul_add, Nat.mul_one] at this; omega
  have h3 : V + 2 ^ (8 * i + at_) * w < 2 ^ (8 * i + (at_ + r)) := by
    have : 2 ^ (8 * i + at_) * (w + 1) ≤ 2 ^ (8 * i + at_) * 2 ^ r := Nat.mul_le_mul_left _ hw
    rw [← Nat.add_assoc, Nat.pow_add 2 (8 * i + at_)]; rw [Nat.mul_add, Nat.mul_one] at this; omega
  refine ⟨?_, h2, h3⟩
  have h4 := (Qbr (V := V + 2 ^ (8 * i + at_) * w) (i := i) (at_ := at_ + r) h3 hr).1
  rw [h4, e, QpH, Nat.add_mul_div_left _ _ (Nat.pow_pos (by omega))]

theorem Qvj (V q r : Nat) (hr : r < 8) : V / 256 ^ q % 256 / 2 ^ r % 2 = V / 2 ^ (8 * q + r) % 2 := by
  rw [QlZ, show (256 : Nat) = 2 ^ r * 2 ^ (8 - r) by rw [← Nat.pow_add, show r + (8 - r) = 8 by omega], Nat.mod_mul_right_div_self, Nat.div_div_eq_div_mul, ← Nat.pow_add]
  rw [Nat.mod_mod_of_dvd]
  exact ⟨2 ^ (8 - r - 1), by rw [← Nat.pow_succ']; congr 1; omega⟩

theorem Quf {V q r n : Nat} (hr : r + n ≤ 8) : V / 256 ^ q % 256 / 2 ^ r % 2 ^ n = V / 2 ^ (8 * q + r) % 2 ^ n := by
  rw [QlZ, show (256 : Nat) = 2 ^ r * 2 ^ (8 - r) by rw [← Nat.pow_add, show r + (8 - r) = 8 by omega], Nat.mod_mul_right_div_self, Nat.div_div_eq_div_mul, ← Nat.pow_add]
  rw [Nat.mod_mod_of_dvd]
  exact ⟨2 ^ (8 - r - n), by rw [← Nat.pow_add]; congr 1; omega⟩

end Go.Am

namespace Go.Am
open Go.RowKit

/-! ### Bits: Check, get, Get -/

def bA (N V : Nat) : AV := .agg [.list (nB N) (u8 (leB V (nB N))), .int .i64 N]
theorem XC (N V : Nat) : isD (bA N V) = true := by simp [bA, isD, Qs, Qe0]

theorem QhC {n : Nat} (h : n < 9223372036854775808) : IntKind.i64.wrap (BitVec.ofInt IntKind.i64.bits (n : Int) &&& BitVec.ofInt IntKind.i64.bits 7).toNat = ((n % 8 : Nat) : Int) := by
  have e1 : (BitVec.ofInt 64 (n : Int)).toNat = n := by
    rw [BitVec.toNat_ofInt]
    show ((n : Int) % 18446744073709551616).toNat = n
    omega
  have e2 : (BitVec.ofInt 64 7).toNat = 7 := by decide
  have : (BitVec.ofInt 64 (n : Int) &&& BitVec.ofInt 64 7).toNat = n % 8 := by
    rw [BitVec.toNat_and, e1, e2]
    exact Nat.and_two_pow_sub_one_eq_mod n 3
  show IntKind.i64.wrap ((BitVec.ofInt 64 (n : Int) &&& BitVec.ofInt 64 7).toNat : Int) = _
  rw [this, Qau] <;> omega

theorem QuB {l : List UInt8} {k : Nat} (h : k < l.length) : (u8 l).drop k = .int .u8 (l[k]).toNat :: u8 (l.drop (k + 1)) := by
  rw [Qow, List.drop_eq_getElem_cons h]; rfl

theorem QpI {V k i : Nat} (h : i < k) : (u8 (leB V k)).drop i = .int .u8 ((V / 256 ^ i % 256 : Nat) : Int) :: u8 ((leB V k).drop (i + 1)) := by
  rw [QuB (by rw [QF]; exact h)]
  have := Qkt k V i h
  rw [List.getElem?_eq_getElem (by rw [QF]; exact h)] at this
  rw [Option.some.inj this]
  have : (UInt8.ofNat (V / 256 ^ i % 256)).toNat = V / 256 ^ i % 256 := by simp
  rw [this]

def Xx (P : Prg) (f : Nat) : Prop := ∀ N V : Nat, V < 2 ^ N → N ≤ 330000 → VC P f [bA N V] (.int .i64 0)
theorem QnX {P : Prg} {f t0 : Nat} (bd : Qj P f 40 [.tmp 2] (Jr t0)) : Xx P f := by
  intro N V hV hN
  refine VC.of_acall (by simp [Qs, XC]) rfl (ACall.of_body bd (by simp) ?_)
  have e1 : Qm false .i64 ((N : Int) + 7) 3 = some (.int .i64 ((nB N : Nat) : Int)) := by
    rw [show (N : Int) + 7 = ((N + 7 : Nat) : Int) by omega]
    exact QhV (K := .i64) (n := N + 7) (k := 3) (by decide)
  have e2 := QhC (n := N) (by omega)
  have e3 : (u8 (leB V (nB N))).length = nB N := by simp [u8, QF]
  by_cases h0 : N % 8 = 0
  · rw [h0] at e2
    have e2' : IntKind.i64.wrap (BitVec.ofInt IntKind.i64.bits (N : Int) &&& BitVec.ofInt IntKind.i64.bits 7).toNat = 0 := e2
    simp (maxSteps := 4000000) (disch := omega) only [rr, aop, cV, cV1, AV.one, Qb, okW, Qd, app, Qa, Qc, Qe, Qf, Qg, simprocAttr, Jr, bA, e1, e2', e3]
  · have hn : nB N = N / 8 + 1 := by unfold nB; omega
    have h8 : N = 8 * (N / 8) + N % 8 := by omega
    obtain ⟨l1, l2⟩ := Qbr (V := V) (i := N / 8) (at_ := N % 8) (by rw [← h8]; exact hV) (by omega)
    have e4 := QpI (V := V) (k := nB N) (i := N / 8) (by omega)
    have h256 : V / 256 ^ (N / 8) % 256 = V / 256 ^ (N / 8) := Nat.mod_eq_of_lt (by
      have : 2 ^ (N % 8) ≤ 2 ^ 8 := Nat.pow_le_pow_right (by omega) (by omega)
      omega)
    rw [h256] at e4
    have e5 : Qm false .u8 ((V / 256 ^ (N / 8) : Nat) : Int) ((N % 8 : Nat) : Int) = some (.int .u8 0) := by
      have := QhV (K := .u8) (n := V / 256 ^ (N / 8)) (k := N % 8) (by show N % 8 ≤ 8; omega)
      rw [this, Nat.div_eq_of_lt l2]; rfl
    have e6 : nB N - 1 = N / 8 := by omega
    have hq : ((N % 8 : Nat) : Int) = (N : Int) % 8 := by omega
    generalize V / 256 ^ (N / 8) = y at *
    obtain ⟨a, ha⟩ : ∃ a, a = N % 8 := ⟨_, rfl⟩
    rw [← ha] at e2 e5 hq
    simp (maxSteps := 4000000) (disch := omega) only [rr, aop, cV, cV1, AV.one, Qb, okW, Qd, app, Qa, Qc, Qe, Qf, Qg, simprocAttr, Jr, bA, e1, e2, e3, e4, e5, e6]

theorem QtJ {t : Nat} (h : t ≤ 8) : Qm true .u8 1 (t : Int) = some (.int .u8 ((2 ^ t % 256 : Nat) : Int)) ∧ IntKind.u8.wrap (((2 ^ t % 256 : Nat) : Int) - 1) = ((2 ^ t - 1 : Nat) : Int) := by
  rcases (by omega : t = 0 ∨ t = 1 ∨ t = 2 ∨ t = 3 ∨ t = 4 ∨ t = 5 ∨ t = 6 ∨ t = 7 ∨ t = 8) with rfl | rfl | rfl | rfl | rfl | rfl | rfl | rfl | rfl <;> exact ⟨rfl, by decide⟩

theorem QrB {c s : Nat} (hs : s ≤ 64) (h : c * 2 ^ s < 18446744073709551616) : Qm true .u64 (c : Int) (s : Int) = some (.int .u64 ((c * 2 ^ s : Nat) : Int)) := QoX hs h

theorem Qmm {X h t : Nat} : X % 2 ^ (h + t) = X % 2 ^ h + X / 2 ^ h % 2 ^ t * 2 ^ h := by
  rw [Nat.pow_add, Nat.mod_mul, Nat.mul_comm]

def QmK (P : Prg) (f : Nat) : Prop := ∀ N V a n : Nat, V < 2 ^ N → N ≤ 400000 → a + n ≤ N → n ≤ 64 → VC P f [bA N V, .int .i64 a, .int .i64 n] (.int .u64 ((V / 2 ^ a % 2 ^ n : Nat) : Int))
theorem Qsu {P : Prg} {f t0 : Nat} (bd : Qj P f 47 [.tmp 6] (Qcs t0)) : QmK P f := by
  intro N V a n hV hN han hn
  refine VC.of_acall (by simp [Qs, XC, isD]) rfl (ACall.of_body bd (by simp) ?_)
  simp (maxSteps := 4000000) (disch := omega) only [rr, aop, cV, cV1, AV.one, Qb, okW, Qd, app, Qa, Qc, Qe, Qf, Qg, simprocAttr, Qcs, bA]
  refine QW.by (ι := Nat) (fun h => ⟨[(8, .int .i64 h), (7, .int .u64 ((V / 2 ^ a % 2 ^ h : Nat) : Int)), (1, .int .i64 a), (2, .int .i64 n), (3, .ref 0 1 0)], [⟨t0, 2, 1, [.list (nB N) (u8 (leB V (nB N))), .int .i64 N], 0⟩]⟩) (fun h => h ≤ n) (fun h => n - h) 0 (Le.slots (by simp [Am.look, Nat.mod_one])) (by omega) ?_
  intro h hh
  by_cases hlt : h < n
  · obtain ⟨q, hq⟩ : ∃ q, q = (a + h) / 8 := ⟨_, rfl⟩
    obtain ⟨o, ho⟩ : ∃ o, o = (a + h) % 8 := ⟨_, rfl⟩
    obtain ⟨t, ht⟩ : ∃ t, t = min (n - h) (8 - o) := ⟨_, rfl⟩
    have e1 : IntKind.i64.wrap (BitVec.ofInt IntKind.i64.bits ((a : Int) + h) &&& BitVec.ofInt IntKind.i64.bits 7).toNat = (o : Int) := by
      rw [show (a : Int) + h = ((a + h : Nat) : Int) by omega, QhC (by omega), ho]
    have e2 : Qm false .i64 ((a : Int) + h) 3 = some (.int .i64 (q : Int)) := by
      rw [show (a : Int) + h = ((a + h : Nat) : Int) by omega, hq]
      exact QhV (K := .i64) (n := a + h) (k := 3) (by decide)
    have hqn : q < nB N := by unfold nB; omega
    have e3 := QpI (V := V) (k := nB N) (i := q) hqn
    have e4 : (u8 (leB V (nB N))).length = nB N := by simp [u8, QF]
    have hy : V / 256 ^ q % 256 < 256 := Nat.mod_lt _ (by decide)
    have e5 : Qm false .u8 ((V / 256 ^ q % 256 : Nat) : Int) (o : Int) = some (.int .u8 ((V / 256 ^ q % 256 / 2 ^ o : Nat) : Int)) := QhV (K := .u8) (k := o) (by show o ≤ 8; omega)
    obtain ⟨e6, e7⟩ := QtJ (t := t) (by omega)
    have hz : V / 256 ^ q % 256 / 2 ^ o < 256 := Nat.lt_of_le_of_lt (Nat.div_le_self _ _) hy
    have h2t : 2 ^ t - 1 < 256 := by
      have : 2 ^ t ≤ 2 ^ 8 := Nat.pow_le_pow_right (by omega) (by omega)
      omega
    have e8 : IntKind.u8.wrap (BitVec.ofInt IntKind.u8.bits ((V / 256 ^ q % 256 / 2 ^ o : Nat) : Int) &&& BitVec.ofInt IntKind.u8.bits ((2 ^ t - 1 : Nat) : Int)).toNat = ((V / 2 ^ a / 2 ^ h % 2 ^ t : Nat) : Int) := by
      rw [QvH (K := .u8) rfl hz h2t, Nat.and_two_pow_sub_one_eq_mod, Quf (by omega), show 8 * q + o = a + h by omega, Nat.pow_add, Nat.div_div_eq_div_mul]
    have hc : V / 2 ^ a / 2 ^ h % 2 ^ t < 2 ^ t := Nat.mod_lt _ (Nat.pow_pos (by omega))
    have hmul : V / 2 ^ a / 2 ^ h % 2 ^ t * 2 ^ h < 2 ^ (h + t) := by
      rw [Nat.pow_add, Nat.mul_comm]; exact Nat.mul_lt_mul_of_pos_left hc (Nat.pow_pos (by omega))
    have h64 : 2 ^ (h + t) ≤ 2 ^ 64 := Nat.pow_le_pow_right (by omega) (by omega)
    have hv0 : V / 2 ^ a % 2 ^ h < 2 ^ h := Nat.mod_lt _ (Nat.pow_pos (by omega))
    have h65 : 2 ^ h ≤ 2 ^ 64 := Nat.pow_le_pow_right (by omega) (by omega)
    have e9 := Qmm (X := V / 2 ^ a) (h := h) (t := t)
    generalize hcc : V / 2 ^ a / 2 ^ h % 2 ^ t = c at *
    have e10 : Qm true .u64 (c : Int) (h : Int) = some (.int .u64 ((c * 2 ^ h : Nat) : Int)) := QrB (by omega) (by omega)
    have e11 : IntKind.u64.wrap (BitVec.ofInt IntKind.u64.bits ((V / 2 ^ a % 2 ^ h : Nat) : Int) ||| BitVec.ofInt IntKind.u64.bits ((c * 2 ^ h : Nat) : Int)).toNat = ((V / 2 ^ a % 2 ^ (h + t) : Nat) : Int) := by
      rw [QsK _ _ (by omega) (by omega), QiB hv0, e9]
    generalize V / 2 ^ a % 2 ^ h = v0 at *
    generalize V / 256 ^ q % 256 / 2 ^ o = z at *
    generalize V / 256 ^ q % 256 = y at *
    have hc8 : c < 256 := by
      have : 2 ^ t ≤ 2 ^ 8 := Nat.pow_le_pow_right (by omega) (by omega)
      omega
    have e12 : (if (8 : Int) - o < n - h then (8 : Int) - o else n - h) = (t : Int) := by split <;> omega
    simp (maxSteps := 4000000) (disch := omega) only [rr, aop, cV, cV1, AV.one, Qb, okW, Qd, app, Qa, Qc, Qe, Qf, Qg, simprocAttr, e1, e2, e3, e4, e5, e6, e7, e8, e10, e11, e12]
    exact ⟨h + t, by omega, by omega, Le.slots (by simp [Am.look])⟩
  · obtain rfl : h = n := by omega
    simp (maxSteps := 4000000) (disch := omega) only [rr, aop, cV, cV1, AV.one, Qb, okW, Qd, app, Qa, Qc, Qe, Qf, Qg, simprocAttr]

def Qgy (P : Prg) (f : Nat) : Prop := ∀ N V a n : Nat, V < 2 ^ N → N ≤ 330000 → n ≤ 64 → a ≤ 400000 → VC P f [bA N V, .int .i64 a, .int .i64 n] (if N < a + n then .tup [.int .u64 0, .int .i64 24] else .tup [.int .u64 ((V / 2 ^ a % 2 ^ n : Nat) : Int), .int .i64 0])
theorem Qsw {P : Prg} {f fC fG t0 : Nat} (bd : Qj P f 34 [.tmp 6, .tmp 7] (Qa0 fC fG t0)) (hC : Xx P fC) (hG : QmK P fG) : Qgy P f := by
  intro N V a n hV hN hn ha
  refine VC.of_acall (by simp [Qs, XC, isD]) (by split <;> rfl) (ACall.of_body bd (by simp) ?_)
  have hC' := hC N V hV hN
  rw [bA] at hC'
  by_cases hlt : N < a + n
  · rw [if_pos hlt]
    simp (maxSteps := 4000000) (disch := omega) only [rr, aop, cV, cV1, AV.one, Qb, okW, Qd, app, Qa, Qc, Qe, Qf, Qg, simprocAttr, Qa0, bA]
    refine Qh.vc hC' ?_
    simp (maxSteps := 4000000) (disch := omega) only [rr, aop, cV, cV1, AV.one, Qb, okW, Qd, app, Qa, Qc, Qe, Qf, Qg, simprocAttr]
  · rw [if_neg hlt]
    have hG' := hG N V a n hV (by omega) (by omega) hn
    rw [bA] at hG'
    generalize V / 2 ^ a % 2 ^ n = v at *
    simp (maxSteps := 4000000) (disch := omega) only [rr, aop, cV, cV1, AV.one, Qb, okW, Qd, app, Qa, Qc, Qe, Qf, Qg, simprocAttr, Qa0, bA]
    refine Qh.vc hC' ?_
    simp (maxSteps := 4000000) (disch := omega) only [rr, aop, cV, cV1, AV.one, Qb, okW, Qd, app, Qa, Qc, Qe, Qf, Qg, simprocAttr]
    refine Qh.vc hG' ?_
    simp (maxSteps := 4000000) (disch := omega) only [rr, aop, cV, cV1, AV.one, Qb, okW, Qd, app, Qa, Qc, Qe, Qf, Qg, simprocAttr]

theorem QmW {X n : Nat} : X % 2 ^ (n + 1) = 2 * (X / 2 % 2 ^ n) + X % 2 := by
  rw [Nat.pow_succ, Nat.mul_comm, Nat.mod_mul]; omega

end Go.Am

namespace Go.Am
open Go.RowKit

/-! ### Trailing zeros -/

def dbT : List Nat := [0, 1, 56, 2, 57, 49, 28, 3, 61, 58, 42, 50, 38, 29, 17, 4, 62, 47, 59, 36, 45, 43, 51, 22, 53, 39, 33, 30, 24, 18, 12, 5,
  63, 55, 48, 27, 60, 41, 37, 16, 46, 35, 44, 21, 52, 32, 23, 11, 54, 26, 40, 15, 34, 20, 31, 10, 25, 14, 19, 9, 13, 8, 7, 6]
def dbG : List AV := ks .u8 (dbT.map fun n : Nat => (n : Int))

theorem QvW {i : Nat} (h : i < 64) : 2 ^ i * 285870213051353865 % 18446744073709551616 / 288230376151711744 < 64 ∧ dbT[2 ^ i * 285870213051353865 % 18446744073709551616 / 288230376151711744]? = some i := by
  revert i; decide

theorem Qun {i m : Nat} (h : 2 ^ i * (2 * m + 1) < 18446744073709551616) : (2 ^ i * (2 * m + 1)) &&& (18446744073709551616 - 2 ^ i * (2 * m + 1)) = 2 ^ i := by
  have hi : i < 64 := by
    rcases Nat.lt_or_ge i 64 with h' | h'
    · exact h'
    · have : 2 ^ 64 ≤ 2 ^ i := Nat.pow_le_pow_right (by omega) h'
      have : 2 ^ i * 1 ≤ 2 ^ i * (2 * m + 1) := Nat.mul_le_mul_left _ (by omega)
      omega
  have hm : 2 * m + 1 < 2 ^ (64 - i) := by
    have e : 2 ^ i * 2 ^ (64 - i) = 18446744073709551616 := by rw [← Nat.pow_add, show i + (64 - i) = 64 by omega]
    rw [← e] at h
    exact Nat.lt_of_mul_lt_mul_left h
  have e : 18446744073709551616 - 2 ^ i * (2 * m + 1) = 2 ^ i * (2 ^ (64 - i) - (2 * m + 1)) := by
    rw [Nat.mul_sub, ← Nat.pow_add, show i + (64 - i) = 64 by omega]
  rw [e]
  apply Nat.eq_of_testBit_eq
  intro j
  rw [Nat.testBit_and, Nat.testBit_two_pow_mul, Nat.testBit_two_pow_mul, Nat.testBit_two_pow]
  by_cases hj : i ≤ j
  · rw [show 2 * m + 1 = 2 * m + 1 from rfl]
    have h0 : 2 * m < 2 ^ (64 - i) := by omega
    rw [Nat.testBit_two_pow_sub_succ h0]
    by_cases hj0 : j = i
    · subst hj0
      simp
      omega
    · obtain ⟨k, hk⟩ : ∃ k, j - i = k + 1 := ⟨j - i - 1, by omega⟩
      have e1 : (2 * m + 1).testBit (k + 1) = m.testBit k := by rw [Nat.testBit_succ]; congr 1; omega
      have e2 : (2 * m).testBit (k + 1) = m.testBit k := by rw [Nat.testBit_succ]; congr 1; omega
      rw [hk, e1, e2]
      have : ¬ i = j := fun e => hj0 e.symm
      simp [this]
      intro _ h1 _ _
      exact h1
  · have : ¬ i = j := by omega
    simp [hj, this]

def Qv1 (P : Prg) (f : Nat) : Prop := ∀ i m : Nat, 2 ^ i * (2 * m + 1) < 18446744073709551616 → VC P f [.int .u64 ((2 ^ i * (2 * m + 1) : Nat) : Int)] (.int .i64 i)
theorem Qug {P : Prg} {f g0 : Nat} (bd : Qj P f 14 [.tmp 2] (Q0 g0)) (h0 : P.G.lookup g0 = some dbG) : Qv1 P f := by
  intro i m h
  refine VC.of_acall rfl rfl (ACall.of_body bd (by simp) ?_)
  have ha := Qun h
  have hp : 0 < 2 ^ i * (2 * m + 1) := Nat.mul_pos (Nat.pow_pos (by omega)) (by omega)
  have hi : i < 64 := by
    rcases Nat.lt_or_ge i 64 with h' | h'
    · exact h'
    · have : 2 ^ 64 ≤ 2 ^ i := Nat.pow_le_pow_right (by omega) h'
      have : 2 ^ i * 1 ≤ 2 ^ i * (2 * m + 1) := Nat.mul_le_mul_left _ (by omega)
      omega
  obtain ⟨d1, d2⟩ := QvW hi
  generalize 2 ^ i * (2 * m + 1) = x at *
  have e1 : IntKind.u64.wrap (0 - (x : Int)) = ((18446744073709551616 - x : Nat) : Int) := by rw [Zm]; omega
  have e2 : IntKind.u64.wrap (BitVec.ofInt IntKind.u64.bits (x : Int) &&& BitVec.ofInt IntKind.u64.bits ((18446744073709551616 - x : Nat) : Int)).toNat = ((2 ^ i : Nat) : Int) := by
    rw [Qlh _ _ h (by omega), ha]
  have e3 : IntKind.u64.wrap (((2 ^ i : Nat) : Int) * 285870213051353865) = ((2 ^ i * 285870213051353865 % 18446744073709551616 : Nat) : Int) := by
    rw [Zm]; omega
  have e4 : Qm false .u64 ((2 ^ i * 285870213051353865 % 18446744073709551616 : Nat) : Int) 58 = some (.int .u64 ((2 ^ i * 285870213051353865 % 18446744073709551616 / 288230376151711744 : Nat) : Int)) :=
    QhV (K := .u64) (k := 58) (by decide)
  generalize 2 ^ i * 285870213051353865 % 18446744073709551616 / 288230376151711744 = k at *
  generalize 2 ^ i * 285870213051353865 % 18446744073709551616 = y at *
  generalize 2 ^ i = p at *
  have e5 : dbG.drop k = .int .u8 (i : Int) :: dbG.drop (k + 1) := by
    have hl : k < dbT.length := d1
    have : dbT[k] = i := by rw [List.getElem?_eq_getElem hl] at d2; exact Option.some.inj d2
    unfold dbG
    rw [QaG, QaG, List.drop_eq_getElem_cons (by rw [List.length_map]; exact hl), Qch, List.getElem_map, this]
  have e6 : dbG.length = 64 := rfl
  have g0' : QuZ P.G g0 = .cell dbG := by simp [QuZ, h0]
  simp (maxSteps := 4000000) (disch := omega) only [rr, aop, cV, cV1, AV.one, Qb, okW, Qd, app, Qa, Qc, Qe, Qf, Qg, simprocAttr, Q0, e1, e2, e3, e4, e5, e6, g0']

end Go.Am
