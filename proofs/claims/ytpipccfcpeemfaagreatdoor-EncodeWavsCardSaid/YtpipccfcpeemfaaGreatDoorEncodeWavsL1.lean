/- What the functions that the law reaches return, for every program that has their code; the conditions stand in each statement. -/
import Derived.Test.YtpipccfcpeemfaaGreatDoorEncodeWavsD1
set_option linter.unusedSectionVars false
set_option linter.unusedSimpArgs false
set_option linter.unusedVariables false
namespace Go.Am
open Go.RowKit
def leN : List UInt8 → Nat
 | [] => 0
 | b :: l => b.toNat + 256 * leN l
theorem QeA : ∀ l : List UInt8, leN l < 2 ^ (8 * l.length)
 | [] => by simp [leN]
 | b :: l => by
  have h1 := QeA l
  have h2 := b.toNat_lt
  have h3 : 2 ^ (8 * (b :: l).length) = 256 * 2 ^ (8 * l.length) := by
   rw [List.length_cons, Nat.mul_add, Nat.pow_add, Nat.mul_comm]
  rw [h3]
  simp only [leN]
  omega
theorem Qki : ∀ (a b : List UInt8), leN (a ++ b) = leN a + 2 ^ (8 * a.length) * leN b
 | [], b => by simp [leN]
 | x :: a, b => by
  have h3 : 2 ^ (8 * (x :: a).length) = 256 * 2 ^ (8 * a.length) := by
   rw [List.length_cons, Nat.mul_add, Nat.pow_add, Nat.mul_comm]
  rw [h3]
  simp only [List.cons_append, leN, Qki a b, Nat.mul_add, Nat.mul_assoc]
  omega
theorem Qsu {l : List UInt8} (h : l.length ≤ 8) : leN l < 18446744073709551616 := by
 have h1 := QeA l
 have h2 : 2 ^ (8 * l.length) ≤ 2 ^ 64 := Nat.pow_le_pow_right (by omega) (by omega)
 omega
theorem QyL {l : List UInt8} {k : Nat} (h : k < l.length) : leN (l.take (k + 1)) = leN (l.take k) + l[k].toNat * 2 ^ (8 * k) := by
 rw [List.take_succ_eq_append_getElem h, Qki]
 simp [leN, Nat.min_eq_left (Nat.le_of_lt h), Nat.mul_comm]
def QgO (P : Prg) (f : Nat) : Prop := ∀ l : List UInt8, 1 ≤ l.length → l.length ≤ 8 → VC P f [bs l] (.tup [.int .u64 (leN l), .int .i64 0])
set_option maxRecDepth 10000 in
theorem QyJ {P : Prg} {f : Nat} (b : Qf P f 31 [.tmp 2, .tmp 3] Qfk) : QgO P f := by
 intro l h1 h2
 refine VC.of_acall (by simp [isDL, QC]) rfl (ACall.of_body b (by simp) ?_)
 have d1 : ¬ ((l.length : Int) < 1) := by omega
 have d2 : ¬ ((8 : Int) < l.length) := by omega
 simp only [rv, okW, Qh, aop, cV, cV1, AV.one, Qe, Qw, Qc, Qa, Qi, ZE, app, decide_true, decide_false, if_true, if_false, beq_self_eq_true, simprocAttr, Qfk, bs, d1, d2]
 refine Qx.by (ι := Nat) (fun k => ⟨[(17, .int .i64 k), (16, .int .i64 l.length), (15, .list l.length (u8 l)), (4, .int .u64 (leN (l.take k)))], []⟩) (fun k => k ≤ l.length) (fun k => l.length - k) 0 (Le.slots (by simp [Am.look, leN])) (by omega) ?_
 intro k hk
 by_cases hlt : k < l.length
 ·have e1 : (k : Int) < l.length := by omega
  have e2 : (0 : Int) ≤ k := by omega
  have e4 := XA hlt
  have e5 : IntKind.u64.wrap ((l[k].toNat : Nat) : Int) = (l[k].toNat : Nat) := ZR (by omega) (by have := l[k].toNat_lt; omega)
  have e6 : IntKind.i64.wrap (8 * (k : Int)) = (8 * k : Nat) := by rw [QE] <;> omega
  have e7 : Qn true .u64 ((l[k].toNat : Nat) : Int) ((8 * k : Nat) : Int) = some (.int .u64 ((l[k].toNat * 2 ^ (8 * k) : Nat) : Int)) := QzU (by omega) (by
   have h1 := l[k].toNat_lt
   have h2 : 2 ^ (8 * k) ≤ 2 ^ 56 := Nat.pow_le_pow_right (by omega) (by omega)
   calc l[k].toNat * 2 ^ (8 * k) ≤ 255 * 2 ^ 56 := Nat.mul_le_mul (by omega) h2
    _ < _ := by omega)
  have e8 : leN (l.take (k + 1)) < 18446744073709551616 := Qsu (by simp; omega)
  have e9 := QyL hlt
  have e10 : leN (l.take k) < 2 ^ (8 * k) := by have := QeA (l.take k); rwa [List.length_take, Nat.min_eq_left hk] at this
  have e11 : IntKind.u64.wrap (BitVec.ofInt IntKind.u64.bits (leN (l.take k) : Nat) ||| BitVec.ofInt IntKind.u64.bits (l[k].toNat * 2 ^ (8 * k) : Nat)).toNat = (leN (l.take (k + 1)) : Nat) := by
   rw [QBb _ _ (by omega) (by omega), Qsh e10, e9]
  have e12 : IntKind.i64.wrap ((k : Int) + 1) = ((k + 1 : Nat) : Int) := by rw [QE] <;> omega
  simp only [rv, okW, Qh, aop, cV, cV1, AV.one, Qe, Qw, Qc, Qa, Qi, ZE, app, decide_true, decide_false, if_true, if_false, beq_self_eq_true, simprocAttr, e1, e2, hlt, e4, e5, e6, e7, e11, e12]
  exact ⟨k + 1, by omega, by omega, Le.slots (by simp [Am.look])⟩
 ·have e1 : ¬ (k : Int) < l.length := by omega
  have e2 : k = l.length := by omega
  subst e2
  simp only [rv, okW, Qh, aop, cV, cV1, AV.one, Qe, Qw, Qc, Qa, Qi, ZE, app, decide_true, decide_false, if_true, if_false, beq_self_eq_true, simprocAttr, e1, List.take_length]
def QiM (P : Prg) (f : Nat) : Prop := ∀ (l : List UInt8) (a w : Nat), l.length < 4611686018427387904 → 1 ≤ w → w ≤ 8 → a < 4611686018427387904 →
 VC P f [bs l, .int .i64 a, .int .i64 w] (if a + w ≤ l.length then .tup [.int .u64 (leN ((l.drop a).take w)), .int .i64 0] else .tup [.int .u64 0, .int .i64 24])
set_option maxRecDepth 10000 in
theorem QB9 {P : Prg} {f g : Nat} (b : Qf P f 33 [.tmp 6, .tmp 7] (QhI g)) (hg : QgO P g) : QiM P f := by
 intro l a w hl h1 h2 ha
 have d1 : ¬ ((w : Int) < 1) := by omega
 have d2 : ¬ ((8 : Int) < w) := by omega
 have d3 : ¬ ((a : Int) < 0) := by omega
 have d4 : IntKind.i64.wrap ((l.length : Int) - w) = (l.length : Int) - w := by rw [QE] <;> omega
 have d5 : IntKind.i64.wrap ((a : Int) + w) = (a : Int) + w := by rw [QE] <;> omega
 by_cases hle : a + w ≤ l.length
 ·rw [if_pos hle]
  refine VC.of_acall (by simp [isDL, QC, isD]) rfl (ACall.of_body b (by simp) ?_)
  have d6 : ¬ ((l.length : Int) - w < a) := by omega
  have d7 := Qzf (ob := []) (l := l) (a := a) (b := (a : Int) + w) (i := a) (j := a + w) rfl (by omega) (by omega) hle
  simp only [rv, okW, Qh, aop, cV, cV1, AV.one, Qe, Qw, Qc, Qa, Qi, ZE, app, decide_true, decide_false, if_true, if_false, beq_self_eq_true, simprocAttr, QhI, bs, d1, d2, d3, d4, d5, d6, d7]
  have hlen : ((l.drop a).take w).length = w := by simp; omega
  have e : a + w - a = w := by omega
  rw [e]
  have := hg ((l.drop a).take w) (by omega) (by omega)
  rw [bs, hlen] at this
  refine Qb.vc this ?_
  simp only [rv, okW, Qh, aop, cV, cV1, AV.one, Qe, Qw, Qc, Qa, Qi, ZE, app, decide_true, decide_false, if_true, if_false, beq_self_eq_true, simprocAttr]
 ·rw [if_neg hle]
  refine VC.of_acall (by simp [isDL, QC, isD]) rfl (ACall.of_body b (by simp) ?_)
  have d6 : ((l.length : Int) - w < a) := by omega
  simp only [rv, okW, Qh, aop, cV, cV1, AV.one, Qe, Qw, Qc, Qa, Qi, ZE, app, decide_true, decide_false, if_true, if_false, beq_self_eq_true, simprocAttr, QhI, bs, d1, d2, d3, d4, d6]
def QdW (P : Prg) (f : Nat) : Prop := ∀ l : List UInt8, l.length ≤ 8 → VC P f [bs l] (.int .u64 (leN l))
theorem QyM {l : List UInt8} {k : Nat} (h : k < l.length) : leN (l.drop k) = l[k].toNat + 256 * leN (l.drop (k + 1)) := by
 rw [List.drop_eq_getElem_cons h]; rfl
set_option maxRecDepth 10000 in
theorem Qyw {P : Prg} {f : Nat} (b : Qf P f 21 [.tmp 2] J6) : QdW P f := by
 intro l hl
 refine VC.of_acall (by simp [isDL, QC]) rfl (ACall.of_body b (by simp) ?_)
 have d1 : IntKind.i64.wrap ((l.length : Int) - 1) = (l.length : Int) - 1 := by rw [QE] <;> omega
 simp only [rv, okW, Qh, aop, cV, cV1, AV.one, Qe, Qw, Qc, Qa, Qi, ZE, app, decide_true, decide_false, if_true, if_false, beq_self_eq_true, simprocAttr, J6, bs, d1]
 refine Qx.by (ι := Nat) (fun k => ⟨[(4, .int .i64 ((k : Int) - 1)), (3, .int .u64 (leN (l.drop k))), (0, .list l.length (u8 l))], []⟩) (fun k => k ≤ l.length) (fun k => k) l.length (Le.slots (by simp [Am.look, leN])) (by omega) ?_
 intro k hk
 cases k with
 | zero =>
  have e1 : ¬ ((0 : Int) ≤ -1) := by omega
  simp only [rv, okW, Qh, aop, cV, cV1, AV.one, Qe, Qw, Qc, Qa, Qi, ZE, app, decide_true, decide_false, if_true, if_false, beq_self_eq_true, simprocAttr, Int.natCast_zero, Int.zero_sub, e1]
 | succ k =>
  have hlt : k < l.length := by omega
  have e0 : (((k + 1 : Nat) : Int) - 1) = k := by omega
  have e1 : (0 : Int) ≤ k := by omega
  have e2 : (k : Int) < l.length := by omega
  have e3 := XA hlt
  have hb := l[k].toNat_lt
  have hd := QyM hlt
  have hd2 : leN (l.drop k) < 18446744073709551616 := Qsu (by simp; omega)
  have hd3 : leN (l.drop (k + 1)) < 18446744073709551616 := by omega
  have e4 : IntKind.u64.wrap ((l[k].toNat : Nat) : Int) = (l[k].toNat : Nat) := ZR (by omega) (by omega)
  have e5 : IntKind.u64.wrap (256 * ((leN (l.drop (k + 1)) : Nat) : Int)) = (256 * leN (l.drop (k + 1)) : Nat) := by rw [ZR] <;> omega
  have e6 : IntKind.u64.wrap (((256 * leN (l.drop (k + 1)) : Nat) : Int) + (l[k].toNat : Nat)) = (leN (l.drop k) : Nat) := by rw [ZR] <;> omega
  have e7 : IntKind.i64.wrap ((k : Int) - 1) = (k : Int) - 1 := by rw [QE] <;> omega
  simp only [e0]
  simp only [rv, okW, Qh, aop, cV, cV1, AV.one, Qe, Qw, Qc, Qa, Qi, ZE, app, decide_true, decide_false, if_true, if_false, beq_self_eq_true, simprocAttr, e1, e2, hlt, e3, e4, e5, e6, e7]
  exact ⟨k, by omega, by omega, Le.slots (by simp [Am.look])⟩
def Qgv (c : UInt8) : Bool := decide (32 ≤ c.toNat) && decide (c.toNat ≤ 126)
def Xt (s : List UInt8) : Bool := s.all Qgv && s.length == 4
theorem Qga {s : List UInt8} {k : Nat} (h : k < s.length) {p : UInt8 → Bool} : (s.take (k + 1)).all p = ((s.take k).all p && p s[k]) := by
 rw [List.take_succ_eq_append_getElem h, List.all_append]; simp
theorem QlC {s : List UInt8} {k : Nat} (h : k < s.length) {p : UInt8 → Bool} (hp : p s[k] = false) : s.all p = false := by
 rw [List.all_eq_false]
 exact ⟨s[k], List.getElem_mem h, by simp [hp]⟩
def QcR (P : Prg) (f : Nat) : Prop := ∀ s : List UInt8, s.length < 4611686018427387904 → VC P f [.str s] (.bool (Xt s))
set_option maxRecDepth 10000 in
theorem Qp8 {P : Prg} {f : Nat} (b : Qf P f 22 [.tmp 2] QbY) : QcR P f := by
 intro s hs
 refine VC.of_acall rfl rfl (ACall.of_body b (by simp) ?_)
 simp only [rv, okW, Qh, aop, cV, cV1, AV.one, Qe, Qw, Qc, Qa, Qi, ZE, app, decide_true, decide_false, if_true, if_false, beq_self_eq_true, simprocAttr, QbY]
 refine Qx.by (ι := Nat) (fun k => ⟨[(8, .int .i64 k), (7, .int .i64 s.length), (6, bs s), (0, .str s)], []⟩) (fun k => k ≤ s.length ∧ (s.take k).all Qgv = true) (fun k => s.length - k) 0 (Le.slots (by simp [Am.look, bs])) ⟨by omega, by simp⟩ ?_
 intro k ⟨hk, hg⟩
 by_cases hlt : k < s.length
 ·have e1 : (k : Int) < s.length := by omega
  have e2 : (0 : Int) ≤ k := by omega
  have e4 := XA hlt
  have e12 : IntKind.i64.wrap ((k : Int) + 1) = ((k + 1 : Nat) : Int) := by rw [QE] <;> omega
  by_cases h1 : s[k].toNat < 32
  ·have f1 : ((s[k].toNat : Nat) : Int) < 32 := by omega
   have f2 : Xt s = false := by simp [Xt, QlC hlt (p := Qgv) (by simp [Qgv]; omega)]
   simp only [rv, okW, Qh, aop, cV, cV1, AV.one, Qe, Qw, Qc, Qa, Qi, ZE, app, decide_true, decide_false, if_true, if_false, beq_self_eq_true, simprocAttr, bs, e1, e2, hlt, e4, e12, f1, f2]
  ·have f1 : ¬ ((s[k].toNat : Nat) : Int) < 32 := by omega
   by_cases h2 : 126 < s[k].toNat
   ·have f3 : (126 : Int) < ((s[k].toNat : Nat) : Int) := by omega
    have f2 : Xt s = false := by simp [Xt, QlC hlt (p := Qgv) (by simp [Qgv]; omega)]
    simp only [rv, okW, Qh, aop, cV, cV1, AV.one, Qe, Qw, Qc, Qa, Qi, ZE, app, decide_true, decide_false, if_true, if_false, beq_self_eq_true, simprocAttr, bs, e1, e2, hlt, e4, e12, f1, f2, f3]
   ·have f3 : ¬ (126 : Int) < ((s[k].toNat : Nat) : Int) := by omega
    simp only [rv, okW, Qh, aop, cV, cV1, AV.one, Qe, Qw, Qc, Qa, Qi, ZE, app, decide_true, decide_false, if_true, if_false, beq_self_eq_true, simprocAttr, bs, e1, e2, hlt, e4, e12, f1, f3]
    exact ⟨k + 1, ⟨by omega, by rw [Qga hlt, hg]; simp [Qgv]; omega⟩, by omega, Le.slots (by simp [Am.look, bs])⟩
 ·have e1 : ¬ (k : Int) < s.length := by omega
  have e2 : k = s.length := by omega
  subst e2
  rw [List.take_length] at hg
  have e3 : (((s.length : Nat) : Int) == 4) = Xt s := by
   simp only [Xt, hg, Bool.true_and]
   rw [Bool.eq_iff_iff]; simp; omega
  simp only [rv, okW, Qh, aop, cV, cV1, AV.one, Qe, Qw, Qc, Qa, Qi, ZE, app, decide_true, decide_false, if_true, if_false, beq_self_eq_true, simprocAttr, bs, e1, e3]
set_option maxRecDepth 10000 in
theorem Qtv {P : Prg} {f : Nat} (b : Qf P f 23 [.tmp 2] X8) : QcR P f := by
 intro s hs
 refine VC.of_acall rfl rfl (ACall.of_body b (by simp) ?_)
 simp only [rv, okW, Qh, aop, cV, cV1, AV.one, Qe, Qw, Qc, Qa, Qi, ZE, app, decide_true, decide_false, if_true, if_false, beq_self_eq_true, simprocAttr, X8]
 refine Qx.by (ι := Nat) (fun k => ⟨[(3, .int .i64 k), (0, .str s)], []⟩) (fun k => k ≤ s.length ∧ (s.take k).all Qgv = true) (fun k => s.length - k) 0 (Le.slots (by simp [Am.look])) ⟨by omega, by simp⟩ ?_
 intro k ⟨hk, hg⟩
 by_cases hlt : k < s.length
 ·have e1 : (k : Int) < s.length := by omega
  have e2 : (0 : Int) ≤ k := by omega
  have e4 : s[k]? = some s[k] := List.getElem?_eq_getElem hlt
  have e12 : IntKind.i64.wrap ((k : Int) + 1) = ((k + 1 : Nat) : Int) := by rw [QE] <;> omega
  by_cases h1 : s[k].toNat < 32
  ·have f1 : ((s[k].toNat : Nat) : Int) < 32 := by omega
   have f2 : Xt s = false := by simp [Xt, QlC hlt (p := Qgv) (by simp [Qgv]; omega)]
   simp only [rv, okW, Qh, aop, cV, cV1, AV.one, Qe, Qw, Qc, Qa, Qi, ZE, app, decide_true, decide_false, if_true, if_false, beq_self_eq_true, simprocAttr, e1, e2, hlt, e4, e12, f1, f2]
  ·have f1 : ¬ ((s[k].toNat : Nat) : Int) < 32 := by omega
   by_cases h2 : 126 < s[k].toNat
   ·have f3 : (126 : Int) < ((s[k].toNat : Nat) : Int) := by omega
    have f2 : Xt s = false := by simp [Xt, QlC hlt (p := Qgv) (by simp [Qgv]; omega)]
    simp only [rv, okW, Qh, aop, cV, cV1, AV.one, Qe, Qw, Qc, Qa, Qi, ZE, app, decide_true, decide_false, if_true, if_false, beq_self_eq_true, simprocAttr, e1, e2, hlt, e4, e12, f1, f2, f3]
   ·have f3 : ¬ (126 : Int) < ((s[k].toNat : Nat) : Int) := by omega
    simp only [rv, okW, Qh, aop, cV, cV1, AV.one, Qe, Qw, Qc, Qa, Qi, ZE, app, decide_true, decide_false, if_true, if_false, beq_self_eq_true, simprocAttr, e1, e2, hlt, e4, e12, f1, f3]
    exact ⟨k + 1, ⟨by omega, by rw [Qga hlt, hg]; simp [Qgv]; omega⟩, by omega, Le.slots (by simp [Am.look])⟩
 ·have e1 : ¬ (k : Int) < s.length := by omega
  have e2 : k = s.length := by omega
  subst e2
  rw [List.take_length] at hg
  have e3 : (((s.length : Nat) : Int) == 4) = Xt s := by
   simp only [Xt, hg, Bool.true_and]
   rw [Bool.eq_iff_iff]; simp; omega
  simp only [rv, okW, Qh, aop, cV, cV1, AV.one, Qe, Qw, Qc, Qa, Qi, ZE, app, decide_true, decide_false, if_true, if_false, beq_self_eq_true, simprocAttr, e1, e3]
theorem Qv (l : List UInt8) : isTL (u8 l) = true := by
 induction l with
 | nil => rfl
 | cons x l ih => simp [QhX, isTL, isT, ih]
theorem Qzo (l : List UInt8) : isT (bs l) = true := by simp [bs, isT, Qv]
theorem QBp {f : List AV → Option (List AV)} {kp ok : Nat → Bool} {ob : List Ob} (l : List UInt8) : Qs f kp ok ob (bs l) = some (bs l) := Qzq _ (Qzo l)
def QcS (P : Prg) (f : Nat) : Prop := ∀ l : List UInt8, l.length < 140737488355328 → VC P f [bs l] (bs l)
set_option maxRecDepth 10000 in
theorem Qrh {P : Prg} {f t0 : Nat} (b : Qf P f 8 [.tmp 2] (Qas t0)) : QcS P f := by
 intro l hl
 refine VC.of_walk 1 (by simp [isDL, QC]) (QC l) (ACall.of_body b (by simp) ?_)
 have fin : ∀ ob, ob = [⟨t0, 1, l.length, u8 l, 0⟩] → QF (fun _ => true) ob (1 + 1) [.own 0 l.length] = some [bs l] := by
  rintro ob rfl
  simp only [QF, Qu, frzL, Qs, Bool.false_eq_true, if_false, List.getElem?_cons_zero, and_self, if_true, frzL_T _ (Qv l), Option.map_some]
  rfl
 have d1 : l.length * 1 ≤ 140737488355328 := by omega
 have d2 : l.length ≤ 9223372036854775807 := by omega
 by_cases h0 : l = []
 ·subst h0
  simp only [rv, okW, Qh, aop, cV, cV1, AV.one, Qe, Qw, Qc, Qa, Qi, ZE, app, decide_true, decide_false, if_true, if_false, beq_self_eq_true, simprocAttr, Qas, bs, Qsk, Qj6]
  simp [QF, Qu, frzL, Qs, isDL]
 ·have h1 : l.length ≠ 0 := by simpa using h0
  have d3 : l.length ≤ 140737488355328 := by omega
  simp only [rv, okW, Qh, aop, cV, cV1, AV.one, Qe, Qw, Qc, Qa, Qi, ZE, app, decide_true, decide_false, if_true, if_false, beq_self_eq_true, simprocAttr, Qas, bs, Qsk, h1, d2, d3]
  exact fin _ rfl
theorem Qav {ob : List Ob} {l : List UInt8} {a b : Int} (i j n : Nat) (ha : a = i) (hb : b = j) (hn : j = i + n) (h2 : j ≤ l.length) : QfB ob 1 (.list l.length (u8 l)) a b = some (.list n (u8 ((l.drop i).take n))) := by
 have := Qzf (ob := ob) ha hb (by omega) h2
 rwa [show j - i = n by omega] at this
theorem Xy {l : List UInt8} {i n : Nat} (h : i + n ≤ l.length) : ((l.drop i).take n).length = n := by simp; omega
abbrev Ck := List UInt8 × List UInt8
def ckA (c : Ck) : AV := .agg [.str c.1, bs c.2]
def QaI (l : List UInt8) : Option (Ck × List UInt8) :=
 if l.length < 8 ∨ Xt (l.take 4) = false then none
 else
  let n := leN ((l.drop 4).take 4)
  if l.length - 8 < n then none
  else if n % 2 = 1 then
   (if l.length = 8 + n ∨ (l.getD (8 + n) 0) ≠ 0 then none else some ((l.take 4, (l.drop 8).take n), l.drop (9 + n)))
  else some ((l.take 4, (l.drop 8).take n), l.drop (8 + n))
def QjG : Option (Ck × List UInt8) → AV
 | none => .tup [ckA ([], []), bs [], .bool false]
 | some (c, r) => .tup [ckA c, bs r, .bool true]
def Qfl (P : Prg) (f : Nat) : Prop := ∀ l : List UInt8, l.length < 140737488355328 → VC P f [bs l] (QjG (QaI l))
theorem QyQ (r : Option (Ck × List UInt8)) : isD (QjG r) = true := by
 cases r with
 | none => rfl
 | some p => obtain ⟨c, r⟩ := p; simp [QjG, ckA, isD, isDL, QC]
set_option maxRecDepth 20000 in
theorem Qvw {P : Prg} {f fN fA fC t0 : Nat} (b : Qf P f 62 [.cell 2 t0, .tmp 3, .tmp 4] (QbH fN fA fC t0)) (ht : Q6 P t0 = some (some 2)) (hN : QcR P fN) (hA : QiM P fA) (hC : QcS P fC) : Qfl P f := by
 intro l hl
 refine VC.of_walk 1 (by simp [isDL, QC]) (QyQ _) (ACall.of_body b (by simp) ?_)
 have fin0 : ∀ ob, QF (fun _ => true) ob 2 [.tup [.agg [.str [], .emp true], .emp true, .bool false]] = some [QjG none] := by
  intro ob
  simp [QF, Qu, frzL, Qs, QjG, ckA, bs, u8]
 have fin1 : ∀ ob (c : Ck) r, QF (fun _ => true) ob 2 [.tup [.agg [.str c.1, bs c.2], bs r, .bool true]] = some [QjG (some (c, r))] := by
  intro ob c r
  simp [QF, Qu, frzL, Qs, QjG, ckA, QBp]
 have fin2 : ∀ ob (c : Ck) r n m, n = c.2.length → m = r.length → QF (fun _ => true) ob 2 [.tup [.agg [.str c.1, .list n (u8 c.2)], .list m (u8 r), .bool true]] = some [QjG (some (c, r))] := by
  rintro ob c r n m rfl rfl
  exact fin1 ob c r
 by_cases h8 : l.length < 8
 ·have e0 : QaI l = none := by simp [QaI, h8]
  have e1 : (l.length : Int) < 8 := by omega
  rw [e0]
  simp only [rv, okW, Qh, aop, cV, cV1, AV.one, Qe, Qw, Qc, Qa, Qi, ZE, app, decide_true, decide_false, if_true, if_false, beq_self_eq_true, simprocAttr, QbH, bs, e1, QD, ht]
  exact fin0 _
 ·have e1 : ¬ (l.length : Int) < 8 := by omega
  have e2 := Qav (ob := [⟨t0, 2, 1, [.str [], .emp true], 0⟩]) (l := l) (a := 0) (b := 4) 0 4 4 rfl rfl rfl (by omega)
  have e3 := Xy (l := l) (i := 0) (n := 4) (by omega)
  simp only [List.drop_zero] at e2 e3
  simp only [rv, okW, Qh, aop, cV, cV1, AV.one, Qe, Qw, Qc, Qa, Qi, ZE, app, decide_true, decide_false, if_true, if_false, beq_self_eq_true, simprocAttr, QbH, bs, e1, e2, e3, QD, ht]
  refine Qb.vc (hN (l.take 4) (by omega)) ?_
  by_cases hn : Xt (l.take 4) = false
  ·have e0 : QaI l = none := by simp [QaI, hn]
   rw [e0]
   simp only [rv, okW, Qh, aop, cV, cV1, AV.one, Qe, Qw, Qc, Qa, Qi, ZE, app, decide_true, decide_false, if_true, if_false, beq_self_eq_true, simprocAttr, hn, QD, ht]
   exact fin0 _
  ·have hn' : Xt (l.take 4) = true := by simpa using hn
   simp only [rv, okW, Qh, aop, cV, cV1, AV.one, Qe, Qw, Qc, Qa, Qi, ZE, app, decide_true, decide_false, if_true, if_false, beq_self_eq_true, simprocAttr, hn']
   have hv := hA l 4 4 (by omega) (by omega) (by omega) (by omega)
   rw [if_pos (by omega : 4 + 4 ≤ l.length)] at hv
   refine Qb.vc hv ?_
   generalize hnn : leN ((l.drop 4).take 4) = n
   have hn4 : n < 4294967296 := by
    have := QeA ((l.drop 4).take 4)
    rw [hnn, Xy (by omega)] at this
    exact this
   have f1 := Qav (ob := [⟨t0, 2, 1, [.str [], .emp true], 0⟩]) (l := l) (a := 8) (b := l.length) 8 l.length (l.length - 8) rfl rfl (by omega) (by omega)
   have f2 := Xy (l := l) (i := 8) (n := l.length - 8) (by omega)
   have f3 : (l.drop 8).take (l.length - 8) = l.drop 8 := List.take_of_length_le (by simp)
   have f4 : (l.drop 8).length = l.length - 8 := by simp
   rw [f3] at f1 f2
   have f5 : IntKind.u64.wrap ((l.length - 8 : Nat) : Int) = (l.length - 8 : Nat) := ZR (by omega) (by omega)
   by_cases hlt : l.length - 8 < n
   ·have e0 : QaI l = none := by simp [QaI, hn', hnn, hlt]
    have e4 : ((l.length - 8 : Nat) : Int) < (n : Int) := by omega
    rw [e0]
    simp only [rv, okW, Qh, aop, cV, cV1, AV.one, Qe, Qw, Qc, Qa, Qi, ZE, app, decide_true, decide_false, if_true, if_false, beq_self_eq_true, simprocAttr, e1, e2, e3, f1, f5, e4, QD, ht]
    exact fin0 _
   ·have e4 : ¬ ((l.length - 8 : Nat) : Int) < (n : Int) := by omega
    generalize hr : l.drop 8 = r at *
    have g1 := Qav (ob := [⟨t0, 2, 1, [.str [], .emp true], 0⟩]) (l := r) (a := 0) (b := n) 0 n n rfl rfl (by omega) (by omega)
    have g2 := Xy (l := r) (i := 0) (n := n) (by omega)
    simp only [List.drop_zero] at g1 g2
    rw [← f4] at f1 f5 e4
    simp only [rv, okW, Qh, aop, cV, cV1, AV.one, Qe, Qw, Qc, Qa, Qi, ZE, app, decide_true, decide_false, if_true, if_false, beq_self_eq_true, simprocAttr, e1, e2, e3, f1, f5, e4, g1]
    have hcl := hC (r.take n) (by omega)
    rw [bs, g2] at hcl
    refine Qb.vc hcl ?_
    have g3 := Qav (ob := [⟨t0, 2, 1, [.str [], .emp true], 0⟩, ⟨t0, 2, 1, [.str (l.take 4), .list n (u8 (r.take n))], 0⟩]) (l := r) (a := n) (b := r.length) n r.length (r.length - n) rfl rfl (by omega) (by omega)
    have g4 : (r.drop n).length = r.length - n := by simp
    have g5 : (r.drop n).take (r.length - n) = r.drop n := List.take_of_length_le (by omega)
    rw [g5, ← g4] at g3
    have g6 : ((n : Int).tmod 2) = ((n % 2 : Nat) : Int) := rfl
    have g7 : leN ((l.drop 4).take 4) = n := hnn
    by_cases hodd : n % 2 = 1
    ·have g8 : (((n % 2 : Nat) : Int) == 1) = true := by rw [hodd]; rfl
     by_cases hend : r.length = n
     ·have e0 : QaI l = none := by
       simp only [QaI, hn', g7]
       rw [if_neg (by simp; omega), if_neg (by omega), if_pos hodd, if_pos (.inl (by omega))]
      have g9 : (((r.drop n).length : Int) == 0) = true := by simp; omega
      rw [e0]
      simp only [rv, okW, Qh, aop, cV, cV1, AV.one, Qe, Qw, Qc, Qa, Qi, ZE, app, decide_true, decide_false, if_true, if_false, beq_self_eq_true, simprocAttr, g3, g6, g8, g9, QD, ht]
      exact fin0 _
     ·have hlt2 : 0 < (r.drop n).length := by omega
      have g9 : (((r.drop n).length : Int) == 0) = false := by simp; omega
      have g10 : (0 : Int) < (r.drop n).length := by omega
      have g11 := XA hlt2
      simp only [List.drop_zero] at g11
      have g12 : (r.drop n)[0] = l.getD (8 + n) 0 := by
       subst hr
       simp [List.getD_eq_getElem?_getD, List.getElem?_eq_getElem (show 8 + n < l.length by omega)]
      have g14 : 0 < ((r.drop n).drop 1).length + 1 := by omega
      by_cases hz : l.getD (8 + n) 0 = 0
      ·have e0 : QaI l = some ((l.take 4, r.take n), (r.drop n).drop 1) := by
        simp only [QaI, hn', g7]
        rw [if_neg (by simp; omega), if_neg (by omega), if_pos hodd, if_neg (by rintro (h | h); omega; exact h hz), ← hr, List.drop_drop, List.drop_drop]
        congr 3
        omega
       have g13 : (((r.drop n)[0].toNat : Int) != 0) = false := by rw [g12, hz]; rfl
       have h1 := Qav (ob := [⟨t0, 2, 1, [.str [], .emp true], 0⟩, ⟨t0, 2, 1, [.str (l.take 4), .list n (u8 (r.take n))], 0⟩]) (l := r.drop n) (a := 1) (b := (r.drop n).length) 1 (r.drop n).length ((r.drop n).length - 1) rfl rfl (by omega) (by omega)
       have h2 : ((r.drop n).drop 1).take ((r.drop n).length - 1) = (r.drop n).drop 1 := List.take_of_length_le (by rw [List.length_drop]; exact Nat.le_refl _)
       rw [h2, g11] at h1
       rw [e0]
       simp only [rv, okW, Qh, aop, cV, cV1, AV.one, Qe, Qw, Qc, Qa, Qi, ZE, app, decide_true, decide_false, if_true, if_false, beq_self_eq_true, simprocAttr, g3, g6, g8, g9, g10, g11, g13, g14, h1, hlt2, QD, ht]
       exact fin2 _ (l.take 4, r.take n) ((r.drop n).drop 1) _ _ g2.symm (by rw [List.length_drop (i := 1)])
      ·have e0 : QaI l = none := by
        simp only [QaI, hn', g7]
        rw [if_neg (by simp; omega), if_neg (by omega), if_pos hodd, if_pos (.inr hz)]
       have g13 : (((r.drop n)[0].toNat : Int) != 0) = true := by
        rw [g12]
        have : (l.getD (8 + n) 0).toNat ≠ 0 := fun h => hz (UInt8.toNat_inj.1 h)
        exact bne_iff_ne.2 (by omega)
       rw [e0]
       simp only [rv, okW, Qh, aop, cV, cV1, AV.one, Qe, Qw, Qc, Qa, Qi, ZE, app, decide_true, decide_false, if_true, if_false, beq_self_eq_true, simprocAttr, g3, g6, g8, g9, g10, g11, g13, g14, hlt2, QD, ht]
       exact fin0 _
    ·have g8 : (((n % 2 : Nat) : Int) == 1) = false := by simp; omega
     have e0 : QaI l = some ((l.take 4, r.take n), r.drop n) := by
      simp only [QaI, hn', g7, hr]
      rw [if_neg (by simp; omega), if_neg (by omega), if_neg hodd, ← hr, List.drop_drop]
     rw [e0]
     simp only [rv, okW, Qh, aop, cV, cV1, AV.one, Qe, Qw, Qc, Qa, Qi, ZE, app, decide_true, decide_false, if_true, if_false, beq_self_eq_true, simprocAttr, g3, g6, g8, QD, ht]
     exact fin2 _ (l.take 4, r.take n) (r.drop n) _ _ g2.symm rfl
def XB : Nat → List Ck → List UInt8 → Nat ⊕ List Ck
 | 0, _, _ => .inl 0
 | k + 1, out, rest =>
  if rest = [] then .inr out
  else if out.length = 20 then .inl 4
  else match QaI rest with
   | none => .inl 12
   | some (c, left) => XB k (out ++ [c]) left
def Qh3 : List UInt8 := [82, 73, 70, 70]
def ZV (l : List UInt8) : Nat ⊕ (List UInt8 × List Ck) :=
 if l.length < 12 then .inl 24
 else
  let n := leN ((l.drop 4).take 4)
  let form := (l.drop 8).take 4
  if l.take 4 ≠ Qh3 ∨ Xt form = false ∨ n < 4 then .inl 12
  else if 100000 < n + 8 then .inl 4
  else if l.length < n + 8 then .inl 24
  else match XB (n + 1) [] ((l.drop 12).take (n - 4)) with
   | .inl e => .inl e
   | .inr out => if n + 8 < l.length then .inl 38 else .inr (form, out)
def ckL : List Ck → List AV
 | [] => []
 | c :: r => .str c.1 :: bs c.2 :: ckL r
theorem Xa : ∀ l : List Ck, (ckL l).length = l.length * 2
 | [] => rfl
 | c :: r => by simp [ckL, Xa r]; omega
theorem QdS : ∀ a b : List Ck, ckL a ++ ckL b = ckL (a ++ b)
 | [], b => rfl
 | c :: a, b => by simp [ckL, QdS a b]
theorem Qcy : ∀ l : List Ck, isTL (ckL l) = true
 | [] => rfl
 | c :: r => by simp [ckL, isTL, isT, Qzo, Qcy r]
def QeK : Nat ⊕ (List UInt8 × List Ck) → AV
 | .inl e => .tup [.str [], .list 0 [], .int .i64 e]
 | .inr (form, out) => .tup [.str form, .list out.length (ckL out), .int .i64 0]
theorem Qsz (r : Nat ⊕ (List UInt8 × List Ck)) : isD (QeK r) = true := by
 cases r with
 | inl e => rfl
 | inr p => obtain ⟨f, o⟩ := p; simp [QeK, isD, isDL, QeB (Qcy o)]
theorem Qsl {l : List UInt8} {c : Ck} {r : List UInt8} (h : QaI l = some (c, r)) : r.length < l.length ∧ c.1.length = 4 := by
 unfold QaI at h
 split at h
 ·cases h
 rename_i h0
 simp only at h
 split at h
 ·cases h
 split at h
 ·split at h
  ·cases h
  ·cases h; simp; omega
 ·cases h; simp; omega
def Qkz (P : Prg) (f : Nat) : Prop := ∀ l : List UInt8, l.length < 140737488355328 → VC P f [bs l] (QeK (ZV l))
set_option maxRecDepth 20000 in
theorem Qvx {P : Prg} {f fA fN fX t0 : Nat} (b : Qf P f 80 [.tmp 2, .tmp 3, .tmp 4] (QbI fA fN fX t0)) (hA : QiM P fA) (hN : QcR P fN) (hX : Qfl P fX) : Qkz P f := by
 intro l hl
 refine VC.of_walk 1 (by simp [isDL, QC]) (Qsz _) (ACall.of_body b (by simp) ?_)
 have fin0 : ∀ ob (e : Int) (n : Nat), e = n → QF (fun _ => true) ob 2 [.tup [.str [], .emp true, .int .i64 e]] = some [QeK (.inl n)] := by
  rintro ob e n rfl
  simp [QF, Qu, frzL, Qs, QeK]
 by_cases h12 : l.length < 12
 ·have e0 : ZV l = .inl 24 := by simp [ZV, h12]
  have e1 : (l.length : Int) < 12 := by omega
  rw [e0]
  simp only [rv, okW, Qh, aop, cV, cV1, AV.one, Qe, Qw, Qc, Qa, Qi, ZE, app, decide_true, decide_false, if_true, if_false, beq_self_eq_true, simprocAttr, QbI, bs, e1, QD]
  exact fin0 _ _ _ rfl
 ·have e1 : ¬ (l.length : Int) < 12 := by omega
  have hv := hA l 4 4 (by omega) (by omega) (by omega) (by omega)
  rw [if_pos (by omega : 4 + 4 ≤ l.length)] at hv
  generalize hnn : leN ((l.drop 4).take 4) = n at hv
  have hn4 : n < 4294967296 := by
   have := QeA ((l.drop 4).take 4)
   rw [hnn, Xy (by omega)] at this
   exact this
  have e2 := Qav (ob := []) (l := l) (a := 8) (b := 12) 8 12 4 rfl rfl rfl (by omega)
  have e3 := Xy (l := l) (i := 8) (n := 4) (by omega)
  have e4 := Qav (ob := []) (l := l) (a := 0) (b := 4) 0 4 4 rfl rfl rfl (by omega)
  have e5 := Xy (l := l) (i := 0) (n := 4) (by omega)
  simp only [List.drop_zero] at e4 e5
  simp only [rv, okW, Qh, aop, cV, cV1, AV.one, Qe, Qw, Qc, Qa, Qi, ZE, app, decide_true, decide_false, if_true, if_false, beq_self_eq_true, simprocAttr, QbI, bs, e1, QD]
  refine Qb.vc hv ?_
  simp only [rv, okW, Qh, aop, cV, cV1, AV.one, Qe, Qw, Qc, Qa, Qi, ZE, app, decide_true, decide_false, if_true, if_false, beq_self_eq_true, simprocAttr, e2, e3, e4, e5, Qfo]
  generalize hform : (l.drop 8).take 4 = form at *
  have hR : ([82, 73, 70, 70] : List UInt8) = Qh3 := rfl
  have f1 : IntKind.u64.wrap ((n : Int) + 8) = (n : Int) + 8 := by rw [ZR] <;> omega
  have f2 : IntKind.u64.wrap (l.length : Int) = (l.length : Int) := by rw [ZR] <;> omega
  by_cases hr : l.take 4 = Qh3
  ·have g1 : (l.take 4 == Qh3) = true := by rw [hr]; rfl
   simp only [rv, okW, Qh, aop, cV, cV1, AV.one, Qe, Qw, Qc, Qa, Qi, ZE, app, decide_true, decide_false, if_true, if_false, beq_self_eq_true, simprocAttr, hR, g1]
   refine Qb.vc (hN form (by omega)) ?_
   by_cases hf : Xt form = true
   ·simp only [rv, okW, Qh, aop, cV, cV1, AV.one, Qe, Qw, Qc, Qa, Qi, ZE, app, decide_true, decide_false, if_true, if_false, beq_self_eq_true, simprocAttr, hf]
    by_cases h4 : n < 4
    ·have g2 : (n : Int) < 4 := by omega
     have e0 : ZV l = .inl 12 := by simp [ZV, h12, hnn, hform, hr, hf, h4]
     rw [e0]
     simp only [rv, okW, Qh, aop, cV, cV1, AV.one, Qe, Qw, Qc, Qa, Qi, ZE, app, decide_true, decide_false, if_true, if_false, beq_self_eq_true, simprocAttr, g2, QD]
     exact fin0 _ _ _ rfl
    ·have g2 : ¬ (n : Int) < 4 := by omega
     by_cases hbig : 100000 < n + 8
     ·have g3 : (100000 : Int) < (n : Int) + 8 := by omega
      have e0 : ZV l = .inl 4 := by simp [ZV, h12, hnn, hform, hr, hf, h4, hbig]
      rw [e0]
      simp only [rv, okW, Qh, aop, cV, cV1, AV.one, Qe, Qw, Qc, Qa, Qi, ZE, app, decide_true, decide_false, if_true, if_false, beq_self_eq_true, simprocAttr, g2, f1, g3, QD]
      exact fin0 _ _ _ rfl
     ·have g3 : ¬ (100000 : Int) < (n : Int) + 8 := by omega
      by_cases hsh : l.length < n + 8
      ·have g4 : (l.length : Int) < (n : Int) + 8 := by omega
       have e0 : ZV l = .inl 24 := by simp [ZV, h12, hnn, hform, hr, hf, h4, hbig, hsh]
       rw [e0]
       simp only [rv, okW, Qh, aop, cV, cV1, AV.one, Qe, Qw, Qc, Qa, Qi, ZE, app, decide_true, decide_false, if_true, if_false, beq_self_eq_true, simprocAttr, g2, f1, f2, g3, g4, QD]
       exact fin0 _ _ _ rfl
      ·have g4 : ¬ (l.length : Int) < (n : Int) + 8 := by omega
       have g5 := Qav (ob := []) (l := l) (a := 12) (b := (n : Int) + 8) 12 (n + 8) (n - 4) rfl (by omega) (by omega) (by omega)
       have g6 := Xy (l := l) (i := 12) (n := n - 4) (by omega)
       simp only [rv, okW, Qh, aop, cV, cV1, AV.one, Qe, Qw, Qc, Qa, Qi, ZE, app, decide_true, decide_false, if_true, if_false, beq_self_eq_true, simprocAttr, g2, f1, f2, g3, g4, g5]
       generalize hrest : (l.drop 12).take (n - 4) = rest0 at *
       generalize hR0 : XB (n + 1) [] rest0 = R
       have e0 : ZV l = match R with
         | .inl e => .inl e
         | .inr out => if n + 8 < l.length then .inl 38 else .inr (form, out) := by
        simp only [ZV, hnn, hform, hrest, hR0]
        rw [if_neg h12, if_neg (by simp [hr, hf]; omega), if_neg hbig, if_neg hsh]
        cases R <;> rfl
       rw [e0]
       refine Qx.by (ι := Nat × List Ck × List UInt8) (fun i => ⟨[(9, bs i.2.2), (8, .own 0 i.2.1.length), (7, .str form), (5, .int .u64 n), (0, bs l)], [⟨t0, 2, i.2.1.length, ckL i.2.1, 0⟩]⟩)
        (fun i => XB i.1 i.2.1 i.2.2 = R ∧ i.2.2.length < i.1 ∧ i.2.2.length ≤ n ∧ i.2.1.length ≤ 20) (fun i => i.2.2.length) (n + 1, [], rest0)
        (Le.trans (Le.virt 8 t0 2 (by omega) rfl) (Le.slots (by simp [Am.look, bs, g6]))) ⟨hR0, by simp only; omega, by simp only; omega, by simp⟩ ?_
       rintro ⟨k, out, rest⟩ ⟨i1, i2, i3, i4⟩
       simp only at i1 i2 i3 i4
       obtain ⟨k, rfl⟩ : ∃ k', k = k' + 1 := ⟨k - 1, by omega⟩
       simp only [XB] at i1
       by_cases hemp : rest = []
       ·rw [if_pos hemp] at i1
        subst hemp
        subst i1
        by_cases hmore : n + 8 < l.length
        ·have h1 : (n : Int) + 8 < l.length := by omega
         simp only [rv, okW, Qh, aop, cV, cV1, AV.one, Qe, Qw, Qc, Qa, Qi, ZE, app, decide_true, decide_false, if_true, if_false, beq_self_eq_true, simprocAttr, bs, f1, f2, h1, hmore, QD]
         exact fin0 _ _ _ rfl
        ·have h1 : ¬ (n : Int) + 8 < l.length := by omega
         simp only [rv, okW, Qh, aop, cV, cV1, AV.one, Qe, Qw, Qc, Qa, Qi, ZE, app, decide_true, decide_false, if_true, if_false, beq_self_eq_true, simprocAttr, bs, f1, f2, h1, hmore, QD]
         simp [QF, Qu, frzL, Qs, QeK, frzL_T _ (Qcy out)]
       ·rw [if_neg hemp] at i1
        have hpos : 0 < rest.length := List.length_pos_iff.2 hemp
        have h1 : (0 : Int) < rest.length := by omega
        by_cases h20 : out.length = 20
        ·rw [if_pos h20] at i1
         subst i1
         have h2 : ((out.length : Int) == 20) = true := by simp; omega
         simp only [rv, okW, Qh, aop, cV, cV1, AV.one, Qe, Qw, Qc, Qa, Qi, ZE, app, decide_true, decide_false, if_true, if_false, beq_self_eq_true, simprocAttr, bs, h1, h2, QD]
         exact fin0 _ _ _ rfl
        ·rw [if_neg h20] at i1
         have h2 : ((out.length : Int) == 20) = false := by simp; omega
         simp only [rv, okW, Qh, aop, cV, cV1, AV.one, Qe, Qw, Qc, Qa, Qi, ZE, app, decide_true, decide_false, if_true, if_false, beq_self_eq_true, simprocAttr, bs, h1, h2, QD]
         refine Qb.vc (hX rest (by omega)) ?_
         cases hnx : QaI rest with
         | none =>
          rw [hnx] at i1
          subst i1
          simp only [rv, okW, Qh, aop, cV, cV1, AV.one, Qe, Qw, Qc, Qa, Qi, ZE, app, decide_true, decide_false, if_true, if_false, beq_self_eq_true, simprocAttr, QjG, ckA, bs, Qj6, QD]
          exact fin0 _ _ _ rfl
         | some p =>
          obtain ⟨c, left⟩ := p
          rw [hnx] at i1
          simp only at i1
          have hlt := (Qsl hnx).1
          have h3 : (out.length + 1) * 40 ≤ 140737488355328 := by omega
          have h4' : out.length + 1 ≤ 9223372036854775807 := by omega
          have h5 := Xa out
          simp only [rv, okW, Qh, aop, cV, cV1, AV.one, Qe, Qw, Qc, Qa, Qi, ZE, app, decide_true, decide_false, if_true, if_false, beq_self_eq_true, simprocAttr, QjG, ckA, bs, h3, h4', h5]
          refine ⟨(k, out ++ [c], left), ⟨i1, by simp only; omega, by simp only; omega, by simp; omega⟩, hlt, ?_⟩
          have hck : ckL out ++ [.str c.1, .list c.2.length (u8 c.2)] = ckL (out ++ [c]) := by rw [← QdS]; rfl
          rw [hck]
          refine Le.drop 1 2 (by omega) rfl ?_ ?_
          ·simp [Am.look, Qu, frzL, Qs, frzL_T _ (Qv _)]
          ·intro i y hy
           match i, hy with
           | 0, hy =>
            simp at hy
            subst hy
            exact ⟨ckL (out ++ [c]), by simp, by simp only [Qu]; exact frzL_T _ (Qcy _)⟩
           | i + 1, hy => simp at hy
   ·have e0 : ZV l = .inl 12 := by simp [ZV, h12, hnn, hform, hr, hf]
    have hf' : Xt form = false := by simpa using hf
    rw [e0]
    simp only [rv, okW, Qh, aop, cV, cV1, AV.one, Qe, Qw, Qc, Qa, Qi, ZE, app, decide_true, decide_false, if_true, if_false, beq_self_eq_true, simprocAttr, hf', QD]
    exact fin0 _ _ _ rfl
  ·have g1 : (l.take 4 == Qh3) = false := by simpa using hr
   have e0 : ZV l = .inl 12 := by simp [ZV, h12, hnn, hform, hr]
   rw [e0]
   simp only [rv, okW, Qh, aop, cV, cV1, AV.one, Qe, Qw, Qc, Qa, Qi, ZE, app, decide_true, decide_false, if_true, if_false, beq_self_eq_true, simprocAttr, hR, g1, QD]
   exact fin0 _ _ _ rfl
theorem QcC : ∀ {l : List Ck} {k : Nat} (h : k < l.length), (ckL l).drop (k * 2) = .str (l[k]).1 :: bs (l[k]).2 :: ckL (l.drop (k + 1))
 | c :: l, 0, _ => by simp [ckL]
 | c :: l, k + 1, h => by
  have := QcC (l := l) (k := k) (by simpa using h)
  rw [Nat.add_mul, Nat.one_mul]
  simpa [ckL] using this
theorem QnR {l : List UInt8} {a m i n : Nat} (h : i + n ≤ m) : (((l.drop a).take m).drop i).take n = (l.drop (a + i)).take n := by
 rw [List.drop_take, List.take_take, List.drop_drop, Nat.min_eq_left (by omega)]
theorem QyA {l : List UInt8} {a e : Nat} (h1 : a + 8 ≤ e) (h2 : e ≤ l.length) :
  QaI ((l.drop a).take (e - a)) = if Xt ((l.drop a).take 4) = false then none else
   if e - a - 8 < leN ((l.drop (a + 4)).take 4) + leN ((l.drop (a + 4)).take 4) % 2 ∨ (leN ((l.drop (a + 4)).take 4) % 2 = 1 ∧ l.getD (a + 8 + leN ((l.drop (a + 4)).take 4)) 0 ≠ 0) then none
   else some (((l.drop a).take 4, (l.drop (a + 8)).take (leN ((l.drop (a + 4)).take 4))),
    (l.drop (a + 8 + leN ((l.drop (a + 4)).take 4) + leN ((l.drop (a + 4)).take 4) % 2)).take (e - (a + 8 + leN ((l.drop (a + 4)).take 4) + leN ((l.drop (a + 4)).take 4) % 2))) := by
 have hlen : ((l.drop a).take (e - a)).length = e - a := by simp; omega
 have t1 : ((l.drop a).take (e - a)).take 4 = (l.drop a).take 4 := by rw [List.take_take, Nat.min_eq_left (by omega)]
 have t2 : (((l.drop a).take (e - a)).drop 4).take 4 = (l.drop (a + 4)).take 4 := QnR (by omega)
 unfold QaI
 rw [hlen, t1, t2]
 generalize leN ((l.drop (a + 4)).take 4) = n
 by_cases hn : Xt ((l.drop a).take 4) = false
 ·rw [if_pos (.inr hn), if_pos hn]
 ·rw [if_neg (by rintro (h | h); omega; exact hn h), if_neg hn]
  simp only
  by_cases hs : e - a - 8 < n
  ·rw [if_pos hs, if_pos (.inl (by omega))]
  ·rw [if_neg hs]
   have t3 : (((l.drop a).take (e - a)).drop 8).take n = (l.drop (a + 8)).take n := QnR (by omega)
   have t4 : ∀ i, ((l.drop a).take (e - a)).drop i = (l.drop (a + i)).take (e - (a + i)) := fun i => by
    rw [List.drop_take, List.drop_drop]; congr 1; omega
   by_cases hodd : n % 2 = 1
   ·rw [if_pos hodd]
    by_cases hend : e - a = 8 + n
    ·rw [if_pos (.inl hend), if_pos (.inl (by omega))]
    ·have t5 : ((l.drop a).take (e - a)).getD (8 + n) 0 = l.getD (a + 8 + n) 0 := by
      simp only [List.getD_eq_getElem?_getD, List.getElem?_take, List.getElem?_drop]
      rw [if_pos (by omega)]
      congr 2
      omega
     rw [t5]
     by_cases hz : l.getD (a + 8 + n) 0 = 0
     ·rw [if_neg (by rintro (h | h); exact hend h; exact h hz), if_neg (by rintro (h | h); omega; exact h.2 hz), t3, t4, hodd]
      have : a + (9 + n) = a + 8 + n + 1 := by omega
      rw [this]
     ·rw [if_pos (.inr hz), if_pos (.inr ⟨hodd, hz⟩)]
   ·have h0 : n % 2 = 0 := by omega
    rw [if_neg hodd, if_neg (by rintro (h | h); omega; exact hodd h.1), t3, t4, h0]
    have : a + (8 + n) = a + 8 + n + 0 := by omega
    rw [this]
set_option maxHeartbeats 4000000 in
set_option maxRecDepth 20000 in
theorem Qtu {P : Prg} {f fO fN t0 t1 : Nat} (b : Qf P f 130 [.tmp 2, .tmp 3, .tmp 4] (ZJ fO fN t0 t1)) (hO : QdW P fO) (hN : QcR P fN) : Qkz P f := by
 intro l hl
 refine VC.of_walk 1 (by simp [isDL, QC]) (Qsz _) (ACall.of_body b (by simp) ?_)
 have fin0 : ∀ ob (e : Int) (n : Nat), e = n → QF (fun _ => true) ob 2 [.tup [.str [], .emp true, .int .i64 e]] = some [QeK (.inl n)] := by
  rintro ob e n rfl
  simp [QF, Qu, frzL, Qs, QeK]
 by_cases h12 : l.length < 12
 ·have e0 : ZV l = .inl 24 := by simp [ZV, h12]
  have e1 : (l.length : Int) < 12 := by omega
  rw [e0]
  simp only [rv, okW, Qh, aop, cV, cV1, AV.one, Qe, Qw, Qc, Qa, Qi, ZE, app, decide_true, decide_false, if_true, if_false, beq_self_eq_true, simprocAttr, ZJ, bs, e1, QD]
  exact fin0 _ _ _ rfl
 ·have e1 : ¬ (l.length : Int) < 12 := by omega
  have e2 := Qav (ob := []) (l := l) (a := 8) (b := 12) 8 12 4 rfl rfl rfl (by omega)
  have e3 := Xy (l := l) (i := 8) (n := 4) (by omega)
  have e4 := Qav (ob := []) (l := l) (a := 0) (b := 4) 0 4 4 rfl rfl rfl (by omega)
  have e5 := Xy (l := l) (i := 0) (n := 4) (by omega)
  have e6 := Qav (ob := []) (l := l) (a := 4) (b := 8) 4 8 4 rfl rfl rfl (by omega)
  have e7 := Xy (l := l) (i := 4) (n := 4) (by omega)
  have hv := hO ((l.drop 4).take 4) (by omega)
  rw [bs, e7] at hv
  generalize hnn : leN ((l.drop 4).take 4) = n at hv
  have hn4 : n < 4294967296 := by
   have := QeA ((l.drop 4).take 4)
   rw [hnn, e7] at this
   exact this
  simp only [List.drop_zero] at e4 e5
  simp only [rv, okW, Qh, aop, cV, cV1, AV.one, Qe, Qw, Qc, Qa, Qi, ZE, app, decide_true, decide_false, if_true, if_false, beq_self_eq_true, simprocAttr, ZJ, bs, e1, e2, e3, e6, QD]
  refine Qb.vc hv ?_
  simp only [rv, okW, Qh, aop, cV, cV1, AV.one, Qe, Qw, Qc, Qa, Qi, ZE, app, decide_true, decide_false, if_true, if_false, beq_self_eq_true, simprocAttr, e4, e5, Qfo]
  generalize hform : (l.drop 8).take 4 = form at *
  have hR : ([82, 73, 70, 70] : List UInt8) = Qh3 := rfl
  have f1 : IntKind.u64.wrap ((n : Int) + 8) = (n : Int) + 8 := by rw [ZR] <;> omega
  have f2 : IntKind.i64.wrap (n : Int) = (n : Int) := by rw [QE] <;> omega
  have f3 : IntKind.i64.wrap ((n : Int) + 8) = (n : Int) + 8 := by rw [QE] <;> omega
  by_cases hr : l.take 4 = Qh3
  ·have g1 : (l.take 4 == Qh3) = true := by rw [hr]; rfl
   simp only [rv, okW, Qh, aop, cV, cV1, AV.one, Qe, Qw, Qc, Qa, Qi, ZE, app, decide_true, decide_false, if_true, if_false, beq_self_eq_true, simprocAttr, hR, g1]
   refine Qb.vc (hN form (by omega)) ?_
   by_cases hf : Xt form = true
   ·simp only [rv, okW, Qh, aop, cV, cV1, AV.one, Qe, Qw, Qc, Qa, Qi, ZE, app, decide_true, decide_false, if_true, if_false, beq_self_eq_true, simprocAttr, hf]
    by_cases h4 : n < 4
    ·have g2 : (n : Int) < 4 := by omega
     have e0 : ZV l = .inl 12 := by simp [ZV, h12, hnn, hform, hr, hf, h4]
     rw [e0]
     simp only [rv, okW, Qh, aop, cV, cV1, AV.one, Qe, Qw, Qc, Qa, Qi, ZE, app, decide_true, decide_false, if_true, if_false, beq_self_eq_true, simprocAttr, g2, QD]
     exact fin0 _ _ _ rfl
    ·have g2 : ¬ (n : Int) < 4 := by omega
     by_cases hbig : 100000 < n + 8
     ·have g3 : (100000 : Int) < (n : Int) + 8 := by omega
      have e0 : ZV l = .inl 4 := by simp [ZV, h12, hnn, hform, hr, hf, h4, hbig]
      rw [e0]
      simp only [rv, okW, Qh, aop, cV, cV1, AV.one, Qe, Qw, Qc, Qa, Qi, ZE, app, decide_true, decide_false, if_true, if_false, beq_self_eq_true, simprocAttr, g2, f1, g3, QD]
      exact fin0 _ _ _ rfl
     ·have g3 : ¬ (100000 : Int) < (n : Int) + 8 := by omega
      by_cases hsh : l.length < n + 8
      ·have g4 : (l.length : Int) < (n : Int) + 8 := by omega
       have e0 : ZV l = .inl 24 := by simp [ZV, h12, hnn, hform, hr, hf, h4, hbig, hsh]
       rw [e0]
       simp only [rv, okW, Qh, aop, cV, cV1, AV.one, Qe, Qw, Qc, Qa, Qi, ZE, app, decide_true, decide_false, if_true, if_false, beq_self_eq_true, simprocAttr, g2, f1, f2, f3, g3, g4, QD]
       exact fin0 _ _ _ rfl
      ·have g4 : ¬ (l.length : Int) < (n : Int) + 8 := by omega
       simp only [rv, okW, Qh, aop, cV, cV1, AV.one, Qe, Qw, Qc, Qa, Qi, ZE, app, decide_true, decide_false, if_true, if_false, beq_self_eq_true, simprocAttr, g2, f1, f2, f3, g3, g4]
       generalize hrest : (l.drop 12).take (n - 4) = rest0
       generalize hR0 : XB (n + 1) [] rest0 = R
       have e0 : ZV l = match R with
         | .inl e => .inl e
         | .inr out => if n + 8 < l.length then .inl 38 else .inr (form, out) := by
        simp only [ZV, hnn, hform, hrest, hR0]
        rw [if_neg h12, if_neg (by simp [hr, hf]; omega), if_neg hbig, if_neg hsh]
        cases R <;> rfl
       rw [e0]
       refine Qx.by (ι := Nat × List Ck × Nat) (fun i => ⟨[(9, .int .i64 i.2.2), (8, .own 0 i.2.1.length), (7, .int .i64 ((n : Int) + 8)), (5, .str form), (0, bs l)], [⟨t1, 2, i.2.1.length, ckL i.2.1, 0⟩]⟩)
        (fun i => XB i.1 i.2.1 ((l.drop i.2.2).take (n + 8 - i.2.2)) = R ∧ n + 8 - i.2.2 < i.1 ∧ i.2.2 ≤ n + 8 ∧ i.2.1.length ≤ 20) (fun i => n + 8 - i.2.2) (n + 1, [], 12)
        (Le.trans (Le.virt 8 t1 2 (by omega) rfl) (Le.slots (by simp [Am.look, bs]))) ⟨by simp only; rw [show n + 8 - 12 = n - 4 by omega, hrest]; exact hR0, by simp only; omega, by simp only; omega, by simp⟩ ?_
       rintro ⟨k, out, at'⟩ ⟨i1, i2, i3, i4⟩
       simp only at i1 i2 i3 i4
       obtain ⟨k, rfl⟩ : ∃ k', k = k' + 1 := ⟨k - 1, by omega⟩
       simp only [XB] at i1
       have hlr : ((l.drop at').take (n + 8 - at')).length = n + 8 - at' := by simp; omega
       by_cases hemp : at' = n + 8
       ·rw [if_pos (List.eq_nil_of_length_eq_zero (by rw [hlr]; omega))] at i1
        subst i1
        have h0 : ¬ (at' : Int) < (n : Int) + 8 := by omega
        by_cases hmore : n + 8 < l.length
        ·have h1 : (n : Int) + 8 < l.length := by omega
         simp only [rv, okW, Qh, aop, cV, cV1, AV.one, Qe, Qw, Qc, Qa, Qi, ZE, app, decide_true, decide_false, if_true, if_false, beq_self_eq_true, simprocAttr, bs, h0, h1, hmore, QD]
         exact fin0 _ _ _ rfl
        ·have h1 : ¬ (n : Int) + 8 < l.length := by omega
         simp only [rv, okW, Qh, aop, cV, cV1, AV.one, Qe, Qw, Qc, Qa, Qi, ZE, app, decide_true, decide_false, if_true, if_false, beq_self_eq_true, simprocAttr, bs, h0, h1, hmore, QD]
         simp [QF, Qu, frzL, Qs, QeK, frzL_T _ (Qcy out)]
       ·rw [if_neg (fun h => by rw [h] at hlr; simp at hlr; omega)] at i1
        have h0 : (at' : Int) < (n : Int) + 8 := by omega
        by_cases h20 : out.length = 20
        ·rw [if_pos h20] at i1
         subst i1
         have h2 : ((out.length : Int) == 20) = true := by simp; omega
         simp only [rv, okW, Qh, aop, cV, cV1, AV.one, Qe, Qw, Qc, Qa, Qi, ZE, app, decide_true, decide_false, if_true, if_false, beq_self_eq_true, simprocAttr, bs, h0, h2, QD]
         exact fin0 _ _ _ rfl
        ·rw [if_neg h20] at i1
         have h2 : ((out.length : Int) == 20) = false := by simp; omega
         have h3 : IntKind.i64.wrap ((n : Int) + 8 - at') = (n : Int) + 8 - at' := by rw [QE] <;> omega
         by_cases h8 : n + 8 - at' < 8
         ·have hx : QaI ((l.drop at').take (n + 8 - at')) = none := by
           unfold QaI
           rw [if_pos (.inl (by rw [hlr]; exact h8))]
          rw [hx] at i1
          subst i1
          have h4' : (n : Int) + 8 - at' < 8 := by omega
          simp only [rv, okW, Qh, aop, cV, cV1, AV.one, Qe, Qw, Qc, Qa, Qi, ZE, app, decide_true, decide_false, if_true, if_false, beq_self_eq_true, simprocAttr, bs, h0, h2, h3, h4', QD]
          exact fin0 _ _ _ rfl
         ·have h4' : ¬ (n : Int) + 8 - at' < 8 := by omega
          have h5 : IntKind.i64.wrap ((at' : Int) + 4) = (at' : Int) + 4 := by rw [QE] <;> omega
          have h6 : IntKind.i64.wrap ((at' : Int) + 8) = (at' : Int) + 8 := by rw [QE] <;> omega
          have h7 := Qav (ob := [⟨t1, 2, out.length, ckL out, 0⟩]) (l := l) (a := at') (b := (at' : Int) + 4) at' (at' + 4) 4 rfl (by omega) rfl (by omega)
          have h9 := Xy (l := l) (i := at') (n := 4) (by omega)
          have h10 := Qav (ob := [⟨t1, 2, out.length, ckL out, 0⟩]) (l := l) (a := (at' : Int) + 4) (b := (at' : Int) + 8) (at' + 4) (at' + 8) 4 (by omega) (by omega) (by omega) (by omega)
          have h11 := Xy (l := l) (i := at' + 4) (n := 4) (by omega)
          have hx := QyA (l := l) (a := at') (e := n + 8) (by omega) (by omega)
          rw [hx] at i1
          simp only [rv, okW, Qh, aop, cV, cV1, AV.one, Qe, Qw, Qc, Qa, Qi, ZE, app, decide_true, decide_false, if_true, if_false, beq_self_eq_true, simprocAttr, bs, h0, h2, h3, h4', h5, h6, h7, h9, h10, h11]
          refine Qb.vc (hN _ (by omega)) ?_
          by_cases hnm : Xt ((l.drop at').take 4) = false
          ·rw [if_pos hnm] at i1
           subst i1
           simp only [rv, okW, Qh, aop, cV, cV1, AV.one, Qe, Qw, Qc, Qa, Qi, ZE, app, decide_true, decide_false, if_true, if_false, beq_self_eq_true, simprocAttr, hnm, QD]
           exact fin0 _ _ _ rfl
          ·rw [if_neg hnm] at i1
           have hnm' : Xt ((l.drop at').take 4) = true := by simpa using hnm
           simp only [rv, okW, Qh, aop, cV, cV1, AV.one, Qe, Qw, Qc, Qa, Qi, ZE, app, decide_true, decide_false, if_true, if_false, beq_self_eq_true, simprocAttr, hnm', h5, h6, h10]
           have hv2 := hO ((l.drop (at' + 4)).take 4) (by omega)
           rw [bs, h11] at hv2
           refine Qb.vc hv2 ?_
           generalize hn2 : leN ((l.drop (at' + 4)).take 4) = m at *
           have hm4 : m < 4294967296 := by
            have := QeA ((l.drop (at' + 4)).take 4)
            rw [hn2, h11] at this
            exact this
           have j1 : ((m : Int).tmod 2) = ((m % 2 : Nat) : Int) := rfl
           have j2 : IntKind.u64.wrap ((m : Int) + ((m % 2 : Nat) : Int)) = (m : Int) + ((m % 2 : Nat) : Int) := by rw [ZR] <;> omega
           have j3 : IntKind.i64.wrap ((n : Int) + 8 - at' - 8) = (n : Int) + 8 - at' - 8 := by rw [QE] <;> omega
           have j4 : IntKind.u64.wrap ((n : Int) + 8 - at' - 8) = (n : Int) + 8 - at' - 8 := by rw [ZR] <;> omega
           have j5 : IntKind.i64.wrap (m : Int) = (m : Int) := by rw [QE] <;> omega
           by_cases hev : n + 8 - at' - 8 < m + m % 2
           ·rw [if_pos (.inl hev)] at i1
            subst i1
            have j6 : (n : Int) + 8 - at' - 8 < (m : Int) + ((m % 2 : Nat) : Int) := by omega
            simp only [rv, okW, Qh, aop, cV, cV1, AV.one, Qe, Qw, Qc, Qa, Qi, ZE, app, decide_true, decide_false, if_true, if_false, beq_self_eq_true, simprocAttr, h3, j1, j2, j3, j4, j6, QD]
            exact fin0 _ _ _ rfl
           ·have j6 : ¬ (n : Int) + 8 - at' - 8 < (m : Int) + ((m % 2 : Nat) : Int) := by omega
            have j7 : IntKind.i64.wrap ((at' : Int) + 8 + m) = (at' : Int) + 8 + m := by rw [QE] <;> omega
            have go : XB k (out ++ [((l.drop at').take 4, (l.drop (at' + 8)).take m)]) ((l.drop (at' + 8 + m + m % 2)).take (n + 8 - (at' + 8 + m + m % 2))) = R →
              Qu5 P (some (.tup [], none)) [] (fun _ _ => False) [] [] none ∨ True := fun _ => .inr trivial
            by_cases hodd : m % 2 = 1
            ·have j8 : (((m % 2 : Nat) : Int) == 1) = true := by rw [hodd]; rfl
             have k1 : ∀ ob, QfB ob 1 (.list l.length (u8 l)) (at' : Int) ((at' : Int) + 4) = some (.list 4 (u8 ((l.drop at').take 4))) := fun ob => Qav at' (at' + 4) 4 rfl (by omega) rfl (by omega)
             have k2 : ∀ ob, QfB ob 1 (.list l.length (u8 l)) ((at' : Int) + 8) ((at' : Int) + 8 + m) = some (.list m (u8 ((l.drop (at' + 8)).take m))) := fun ob => Qav (at' + 8) (at' + 8 + m) m (by omega) (by omega) (by omega) (by omega)
             have k3 := Xy (l := l) (i := at' + 8) (n := m) (by omega)
             have k4 : m ≤ 140737488355328 := by omega
             have k5 : m ≤ 9223372036854775807 := by omega
             have k6 : (out.length + 1) * 40 ≤ 140737488355328 := by omega
             have k7 : out.length + 1 ≤ 9223372036854775807 := by omega
             have k8 : IntKind.i64.wrap ((m : Int) + ((m % 2 : Nat) : Int)) = (m : Int) + ((m % 2 : Nat) : Int) := by rw [QE] <;> omega
             have k9 : IntKind.i64.wrap (8 + ((m : Int) + ((m % 2 : Nat) : Int))) = 8 + ((m : Int) + ((m % 2 : Nat) : Int)) := by rw [QE] <;> omega
             have k10 : IntKind.i64.wrap ((at' : Int) + (8 + ((m : Int) + ((m % 2 : Nat) : Int)))) = (at' : Int) + (8 + ((m : Int) + ((m % 2 : Nat) : Int))) := by rw [QE] <;> omega
             have hidx : at' + 8 + m < l.length := by omega
             have y1 : ((at' : Int) + 8 + m).toNat = at' + 8 + m := by omega
             have y2 : (0 : Int) ≤ (at' : Int) + 8 + m := by omega
             have y3 : (at' : Int) + 8 + m < l.length := by omega
             have y4 := XA hidx
             have y5 : l.getD (at' + 8 + m) 0 = l[at' + 8 + m] := by simp [List.getD_eq_getElem?_getD, List.getElem?_eq_getElem hidx]
             by_cases hz : l.getD (at' + 8 + m) 0 = 0
             ·rw [if_neg (by rintro (h | h); exact hev h; exact h.2 hz)] at i1
              have y6 : ((l[at' + 8 + m].toNat : Int) != 0) = false := by rw [← y5, hz]; rfl
              simp only [rv, okW, Qh, aop, cV, cV1, AV.one, Qe, Qw, Qc, Qa, Qi, ZE, app, decide_true, decide_false, if_true, if_false, beq_self_eq_true, simprocAttr, h3, h5, h6, h9, j1, j2, j3, j4, j5, j6, j7, j8, k1, k2, k3, k4, k5, k6, k7, k8, k9, k10, y1, y2, y3, hidx, y4, y6, Xa]
              refine ⟨(k, out ++ [((l.drop at').take 4, (l.drop (at' + 8)).take m)], at' + 8 + m + m % 2), ⟨i1, by simp only; omega, by simp only; omega, by simp; omega⟩, by simp only; omega, ?_⟩
              refine Le.drop 1 2 (by omega) rfl ?_ ?_
              ·have z : (at' : Int) + (8 + ((m : Int) + ((m % 2 : Nat) : Int))) = ((at' + 8 + m + m % 2 : Nat) : Int) := by omega
               simp [Am.look, Qu, frzL, Qs, frzL_T _ (Qv _), bs, z]
               omega
              ·intro i y hy
               match i, hy with
               | 0, hy =>
                simp at hy
                subst hy
                refine ⟨ckL out ++ [.str ((l.drop at').take 4), .own 1 m], by simp, ?_⟩
                simp only [Qu]
                rw [QeP, frzL_T _ (Qcy _), ← QdS]
                simp [frzL, Qs, QeB (Qv _), frzL_T _ (Qv _), ckL, bs, k3]
               | i + 1, hy => simp at hy
             ·rw [if_pos (.inr ⟨hodd, hz⟩)] at i1
              subst i1
              have y6 : ((l[at' + 8 + m].toNat : Int) != 0) = true := by
               have : l[at' + 8 + m].toNat ≠ 0 := fun h => hz (by rw [y5]; exact UInt8.toNat_inj.1 h)
               exact bne_iff_ne.2 (by omega)
              simp only [rv, okW, Qh, aop, cV, cV1, AV.one, Qe, Qw, Qc, Qa, Qi, ZE, app, decide_true, decide_false, if_true, if_false, beq_self_eq_true, simprocAttr, h3, h5, h6, h9, j1, j2, j3, j4, j5, j6, j7, j8, y1, y2, y3, hidx, y4, y6, QD]
              exact fin0 _ _ _ rfl
            ·have j8 : (((m % 2 : Nat) : Int) == 1) = false := by simp; omega
             have k1 : ∀ ob, QfB ob 1 (.list l.length (u8 l)) (at' : Int) ((at' : Int) + 4) = some (.list 4 (u8 ((l.drop at').take 4))) := fun ob => Qav at' (at' + 4) 4 rfl (by omega) rfl (by omega)
             have k2 : ∀ ob, QfB ob 1 (.list l.length (u8 l)) ((at' : Int) + 8) ((at' : Int) + 8 + m) = some (.list m (u8 ((l.drop (at' + 8)).take m))) := fun ob => Qav (at' + 8) (at' + 8 + m) m (by omega) (by omega) (by omega) (by omega)
             have k3 := Xy (l := l) (i := at' + 8) (n := m) (by omega)
             have k4 : m ≤ 140737488355328 := by omega
             have k5 : m ≤ 9223372036854775807 := by omega
             have k6 : (out.length + 1) * 40 ≤ 140737488355328 := by omega
             have k7 : out.length + 1 ≤ 9223372036854775807 := by omega
             have k8 : IntKind.i64.wrap ((m : Int) + ((m % 2 : Nat) : Int)) = (m : Int) + ((m % 2 : Nat) : Int) := by rw [QE] <;> omega
             have k9 : IntKind.i64.wrap (8 + ((m : Int) + ((m % 2 : Nat) : Int))) = 8 + ((m : Int) + ((m % 2 : Nat) : Int)) := by rw [QE] <;> omega
             have k10 : IntKind.i64.wrap ((at' : Int) + (8 + ((m : Int) + ((m % 2 : Nat) : Int)))) = (at' : Int) + (8 + ((m : Int) + ((m % 2 : Nat) : Int))) := by rw [QE] <;> omega
             rw [if_neg (by rintro (h | h); exact hev h; exact hodd h.1)] at i1
             simp only [rv, okW, Qh, aop, cV, cV1, AV.one, Qe, Qw, Qc, Qa, Qi, ZE, app, decide_true, decide_false, if_true, if_false, beq_self_eq_true, simprocAttr, h3, h5, h6, h9, j1, j2, j3, j4, j5, j6, j7, j8, k1, k2, k3, k4, k5, k6, k7, k8, k9, k10, Xa]
             refine ⟨(k, out ++ [((l.drop at').take 4, (l.drop (at' + 8)).take m)], at' + 8 + m + m % 2), ⟨i1, by simp only; omega, by simp only; omega, by simp; omega⟩, by simp only; omega, ?_⟩
             refine Le.drop 1 2 (by omega) rfl ?_ ?_
             ·have z : (at' : Int) + (8 + ((m : Int) + ((m % 2 : Nat) : Int))) = ((at' + 8 + m + m % 2 : Nat) : Int) := by omega
              simp [Am.look, Qu, frzL, Qs, frzL_T _ (Qv _), bs, z]
              omega
             ·intro i y hy
              match i, hy with
              | 0, hy =>
               simp at hy
               subst hy
               refine ⟨ckL out ++ [.str ((l.drop at').take 4), .own 1 m], by simp, ?_⟩
               simp only [Qu]
               rw [QeP, frzL_T _ (Qcy _), ← QdS]
               simp [frzL, Qs, QeB (Qv _), frzL_T _ (Qv _), ckL, bs, k3]
              | i + 1, hy => simp at hy
   ·have e0 : ZV l = .inl 12 := by simp [ZV, h12, hnn, hform, hr, hf]
    have hf' : Xt form = false := by simpa using hf
    rw [e0]
    simp only [rv, okW, Qh, aop, cV, cV1, AV.one, Qe, Qw, Qc, Qa, Qi, ZE, app, decide_true, decide_false, if_true, if_false, beq_self_eq_true, simprocAttr, hf', QD]
    exact fin0 _ _ _ rfl
  ·have g1 : (l.take 4 == Qh3) = false := by simpa using hr
   have e0 : ZV l = .inl 12 := by simp [ZV, h12, hnn, hform, hr]
   rw [e0]
   simp only [rv, okW, Qh, aop, cV, cV1, AV.one, Qe, Qw, Qc, Qa, Qi, ZE, app, decide_true, decide_false, if_true, if_false, beq_self_eq_true, simprocAttr, hR, g1, QD]
   exact fin0 _ _ _ rfl
theorem Qzh : ∀ (k : Nat) (out : List Ck) (rest : List UInt8) (r : List Ck), XB k out rest = .inr r → out.length ≤ 20 → r.length ≤ 20
 | 0, _, _, _, h, _ => by simp [XB] at h
 | k + 1, out, rest, r, h, hl => by
  simp only [XB] at h
  split at h
  ·cases h; exact hl
  ·split at h
   ·cases h
   ·split at h
    ·cases h
    ·exact Qzh k _ _ r h (by simp; omega)
theorem Qsc {l form : List UInt8} {out : List Ck} (h : ZV l = .inr (form, out)) : out.length ≤ 20 := by
 unfold ZV at h
 split at h
 ·cases h
 simp only at h
 split at h
 ·cases h
 split at h
 ·cases h
 split at h
 ·cases h
 split at h
 ·cases h
 ·rename_i o ho
  split at h
  ·cases h
  ·cases h
   exact Qzh _ _ _ _ ho (by simp)
def Jk (b : Int) : Int := if b = 8 then 128 else if b = 16 then 32768 else if b = 24 then 8388608 else 0
theorem Zb (b : Int) : (b = 8 ∧ Jk b = 128) ∨ (b = 16 ∧ Jk b = 32768) ∨ (b = 24 ∧ Jk b = 8388608) ∨ (b ≠ 8 ∧ b ≠ 16 ∧ b ≠ 24 ∧ Jk b = 0) := by
 unfold Jk; split <;> (try split) <;> (try split) <;> omega
def Qay (b : Int) : AV := if Jk b = 0 then .tup [.int .i32 0, .int .i32 0, .int .i64 2] else .tup [.int .i32 (-Jk b), .int .i32 (Jk b - 1), .int .i64 0]
def QiV (P : Prg) (f : Nat) : Prop := ∀ b : Int, VC P f [.int .i64 b] (Qay b)
theorem Qpv {P : Prg} {f : Nat} (b : Qf P f 18 [.tmp 2, .tmp 3, .tmp 4] Xb) : QiV P f := by
 intro x
 refine VC.of_acall rfl (by unfold Qay; split <;> rfl) (ACall.of_body b (by simp) ?_)
 rcases Zb x with ⟨rfl, h⟩ | ⟨rfl, h⟩ | ⟨rfl, h⟩ | ⟨h1, h2, h3, h⟩
 ·simp (disch := omega) only [rq, simprocAttr, Xb, Qay, h]
  rfl
 ·simp (disch := omega) only [rq, simprocAttr, Xb, Qay, h]
  rfl
 ·simp (disch := omega) only [rq, simprocAttr, Xb, Qay, h]
  rfl
 ·simp (disch := omega) only [rq, simprocAttr, Xb, Qay, h]
def il (l : List Int) : AV := .list l.length (ks .i32 l)
theorem QZ (l : List Int) : isD (il l) = true := by simp [il, isD, QW]
def inR (b x : Int) : Bool := decide (-Jk b ≤ x) && decide (x < Jk b)
def Q3 (b : Int) (l : List Int) : Int := if Jk b = 0 then 2 else if 4000 < l.length then 4 else if l.all (inR b) then 0 else 16
def I32 (l : List Int) : Prop := ∀ x ∈ l, -2147483648 ≤ x ∧ x ≤ 2147483647
def QcT (P : Prg) (f : Nat) : Prop := ∀ (b : Int) (l : List Int), I32 l → VC P f [.int .i64 b, il l] (.int .i64 (Q3 b l))
theorem Qgb {l : List Int} {k : Nat} (h : k < l.length) {p : Int → Bool} : (l.take (k + 1)).all p = ((l.take k).all p && p l[k]) := by
 rw [List.take_succ_eq_append_getElem h, List.all_append]; simp
theorem Qkf {l : List Int} {k : Nat} (h : k < l.length) {p : Int → Bool} (hp : p l[k] = false) : l.all p = false := by
 rw [List.all_eq_false]
 exact ⟨l[k], List.getElem_mem h, by simp [hp]⟩
set_option maxRecDepth 10000 in
theorem Qpw {P : Prg} {f fR : Nat} (b : Qf P f 37 [.tmp 4] (QbW fR)) (hR : QiV P fR) : QcT P f := by
 intro x l hl
 refine VC.of_acall (by simp [isDL, isD, QZ]) rfl (ACall.of_body b (by simp) ?_)
 simp (disch := omega) only [rq, simprocAttr, QbW]
 refine Qb.vc (hR x) ?_
 by_cases h0 : Jk x = 0
 ·simp (disch := omega) only [rq, simprocAttr, Qay, Q3, h0]
 have h3 : Jk x = 128 ∨ Jk x = 32768 ∨ Jk x = 8388608 := by rcases Zb x with h | h | h | h <;> omega
 by_cases h1 : 4000 < l.length
 ·simp (disch := omega) only [rq, simprocAttr, Qay, Q3, h0, il, h1]
 simp (disch := omega) only [rq, simprocAttr, Qay, il, if_neg h0]
 refine Qx.by (ι := Nat) (fun k => ⟨[(24, .int .i64 k), (23, .int .i64 l.length), (22, il l), (6, .int .i32 (Jk x - 1)), (5, .int .i32 (-Jk x))], []⟩) (fun k => k ≤ l.length ∧ (l.take k).all (inR x) = true) (fun k => l.length - k) 0 (Le.slots (by simp [Am.look, il])) ⟨by omega, by simp⟩ ?_
 intro k ⟨hk, hg⟩
 by_cases hlt : k < l.length
 ·by_cases hp : -Jk x ≤ l[k] ∧ l[k] < Jk x
  ·have hs := Qgb hlt (p := inR x)
   simp (disch := omega) only [rq, simprocAttr, il, Qah, hlt]
   exact ⟨k + 1, ⟨by omega, by rw [hs, hg]; simp [inR, hp]⟩, by omega, Le.slots (by simp [Am.look, il])⟩
  ·have e : Q3 x l = 16 := by simp [Q3, h0, h1, Qkf hlt (p := inR x) (by simp [inR]; omega)]
   by_cases hq : l[k] < -Jk x
   ·simp (disch := omega) only [rq, simprocAttr, il, Qah, hlt, e]
   ·simp (disch := omega) only [rq, simprocAttr, il, Qah, hlt, e]
 ·have e2 : k = l.length := by omega
  subst e2
  rw [List.take_length] at hg
  simp (disch := omega) only [rq, simprocAttr, il, Q3, h0, h1, hg]
def Qpl (P : Prg) (f : Nat) : Prop := ∀ x : Int, VC P f [.int .i64 x] (.int .i64 (Jk x))
theorem QtB {P : Prg} {f : Nat} (b : Qf P f 10 [.tmp 2] Jc) : Qpl P f := by
 intro x
 refine VC.of_acall rfl rfl (ACall.of_body b (by simp) ?_)
 rcases Zb x with ⟨rfl, h⟩ | ⟨rfl, h⟩ | ⟨rfl, h⟩ | ⟨h1, h2, h3, h⟩ <;> simp (disch := omega) only [rq, simprocAttr, Jc, h]
set_option maxRecDepth 10000 in
theorem Qqs {P : Prg} {f fH : Nat} (b : Qf P f 37 [.tmp 4] (XT fH)) (hH : Qpl P fH) : QcT P f := by
 intro x l hl
 refine VC.of_acall (by simp [isDL, isD, QZ]) rfl (ACall.of_body b (by simp) ?_)
 simp (disch := omega) only [rq, simprocAttr, XT]
 refine Qb.vc (hH x) ?_
 by_cases h0 : Jk x = 0
 ·simp (disch := omega) only [rq, simprocAttr, Q3, h0]
 have h3 : Jk x = 128 ∨ Jk x = 32768 ∨ Jk x = 8388608 := by rcases Zb x with h | h | h | h <;> omega
 by_cases h1 : 4000 < l.length
 ·simp (disch := omega) only [rq, simprocAttr, Q3, h0, il, h1]
 simp (disch := omega) only [rq, simprocAttr, il]
 refine Qx.by (ι := Nat) (fun k => ⟨[(6, .int .i64 k), (1, il l), (5, .int .i64 (Jk x))], []⟩) (fun k => k ≤ l.length ∧ (l.take k).all (inR x) = true) (fun k => l.length - k) 0 (Le.slots (by simp [Am.look, il])) ⟨by omega, by simp⟩ ?_
 intro k ⟨hk, hg⟩
 by_cases hlt : k < l.length
 ·have hb := hl _ (List.getElem_mem hlt)
  by_cases hp : -Jk x ≤ l[k] ∧ l[k] < Jk x
  ·have hs := Qgb hlt (p := inR x)
   simp (disch := omega) only [rq, simprocAttr, il, Qah, hlt]
   exact ⟨k + 1, ⟨by omega, by rw [hs, hg]; simp [inR, hp]⟩, by omega, Le.slots (by simp [Am.look, il])⟩
  ·have e : Q3 x l = 16 := by simp [Q3, h0, h1, Qkf hlt (p := inR x) (by simp [inR]; omega)]
   by_cases hq : l[k] < -Jk x
   ·simp (disch := omega) only [rq, simprocAttr, il, Qah, hlt, e]
   ·simp (disch := omega) only [rq, simprocAttr, il, Qah, hlt, e]
 ·have e2 : k = l.length := by omega
  subst e2
  rw [List.take_length] at hg
  simp (disch := omega) only [rq, simprocAttr, il, Q3, h0, h1, hg]
theorem QoO {n : Nat} {c : Int} (h : 1 ≤ c) : 0 ≤ (n : Int) / c ∧ (n : Int) / c ≤ n :=
 ⟨Int.ediv_nonneg (by omega) (by omega), Int.ediv_le_self _ (by omega)⟩
theorem Qbi {n : Nat} {c : Int} (h : 1 ≤ c) : 0 ≤ (n : Int) % c ∧ (n : Int) % c < c := ⟨Int.emod_nonneg _ (by omega), Int.emod_lt_of_pos _ (by omega)⟩
def QL (r : Int) : Int := if 256 * r / 245 < 1 then 1 else 256 * r / 245
theorem Xw (r : Int) : 1 ≤ QL r := by unfold QL; split <;> omega
theorem QlE {r : Int} (h : r ≤ 1048576) : QL r ≤ 1095654 := by unfold QL; split <;> omega
def QcZ (r : Int) : AV := if r < 1 ∨ 1048576 < r then .tup [.int .i64 0, .int .i64 2] else .tup [.int .i64 (QL r), .int .i64 0]
def QcU (P : Prg) (f : Nat) : Prop := ∀ r : Int, VC P f [.int .i64 r] (QcZ r)
theorem QsB (r : Int) : isD (QcZ r) = true := by unfold QcZ; split <;> rfl
theorem Qot {P : Prg} {f : Nat} (b : Qf P f 14 [.tmp 2, .tmp 3] XD) : QcU P f := by
 intro r
 refine VC.of_acall rfl (QsB r) (ACall.of_body b (by simp) ?_)
 by_cases h1 : r < 1
 ·simp (disch := omega) only [rq, simprocAttr, XD, QcZ, true_or]
 by_cases h2 : 1048576 < r
 ·simp (disch := omega) only [rq, simprocAttr, XD, QcZ, or_true]
 have h3 : 1 ≤ 256 * r / 245 := by omega
 simp (disch := omega) only [rq, simprocAttr, XD, QcZ, or_self, QL]
 rw [show (if (1 : Int) < 256 * r / 245 then 256 * r / 245 else 1) = 256 * r / 245 by split <;> omega]
theorem Qtz {P : Prg} {f : Nat} (b : Qf P f 17 [.tmp 2, .tmp 3] Zf) : QcU P f := by
 intro r
 refine VC.of_acall rfl (QsB r) (ACall.of_body b (by simp) ?_)
 by_cases h1 : r < 1
 ·simp (disch := omega) only [rq, simprocAttr, Zf, QcZ, true_or]
 by_cases h2 : 1048576 < r
 ·simp (disch := omega) only [rq, simprocAttr, Zf, QcZ, or_true]
 have e : r * 256 / 245 = 256 * r / 245 := by rw [Int.mul_comm]
 have h3 : 1 ≤ 256 * r / 245 := by omega
 simp (disch := omega) only [rq, simprocAttr, Zf, QcZ, or_self, QL, e]
def ZC (c b : Int) : Int := if Jk b = 0 ∨ c < 1 ∨ 6 < c then 2 else 0
def shA (c b : Int) : AV := .agg [.int .i64 c, .int .i64 b]
def QbO (P : Prg) (f : Nat) : Prop := ∀ c b : Int, VC P f [shA c b] (.int .i64 (ZC c b))
theorem QlO {P : Prg} {f fR t0 : Nat} (b : Qf P f 25 [.tmp 2] (QaP fR t0)) (hR : QiV P fR) : QbO P f := by
 intro c x
 refine VC.of_acall rfl rfl (ACall.of_body b (by simp) ?_)
 simp (disch := omega) only [rq, simprocAttr, QaP, shA]
 refine Qb.vc (hR x) ?_
 by_cases h0 : Jk x = 0
 ·simp (disch := omega) only [rq, simprocAttr, Qay, h0, ZC, true_or]
 by_cases h1 : c < 1
 ·simp (disch := omega) only [rq, simprocAttr, Qay, if_neg h0, ZC, h0, or_true, true_or]
 by_cases h2 : 6 < c
 ·simp (disch := omega) only [rq, simprocAttr, Qay, if_neg h0, ZC, h0, or_true]
 ·simp (disch := omega) only [rq, simprocAttr, Qay, if_neg h0, ZC, h0, or_self]
theorem Qqp {P : Prg} {f fH t0 : Nat} (b : Qf P f 17 [.tmp 2] (Za fH t0)) (hH : Qpl P fH) : QbO P f := by
 intro c x
 refine VC.of_acall rfl rfl (ACall.of_body b (by simp) ?_)
 have hx := Zb x
 by_cases h1 : c < 1
 ·simp (disch := omega) only [rq, simprocAttr, Za, shA, ZC, or_true, true_or]
 by_cases h2 : 6 < c
 ·simp (disch := omega) only [rq, simprocAttr, Za, shA, ZC, or_true]
 simp (disch := omega) only [rq, simprocAttr, Za, shA]
 refine Qb.vc (hH x) ?_
 by_cases h0 : Jk x = 0
 ·simp (disch := omega) only [rq, simprocAttr, h0, ZC, true_or]
 ·simp (disch := omega) only [rq, simprocAttr, h0, ZC, or_self]
structure Enc where
 ch : Int
 bits : Int
 rate : Int
 pw : List UInt8
 rest : List UInt8
 smp : List Int
 frs : List (List UInt8)
 out : List UInt8
 done : Bool
 err : Int
def bss (l : List (List UInt8)) : AV := .list l.length (l.map bs)
def QCo (e : Enc) : List AV := [.int .i64 e.ch, .int .i64 e.bits, .int .i64 e.rate, .str e.pw, bs e.rest, il e.smp, bss e.frs, bs e.out, .bool e.done, .int .i64 e.err]
theorem QlI : ∀ l : List (List UInt8), isDL (l.map bs) = true
 | [] => rfl
 | x :: l => by simp [isDL, QC, QlI l]
theorem QlH (l : List (List UInt8)) : isD (bss l) = true := by simp [bss, isD, QlI]
def QAq {α : Type} (p : α → Bool) (l : List α) : Int := match l.findIdx? p with | some i => i | none => -1
theorem QwC {α : Type} {p : α → Bool} {l : List α} (h : l.all (fun x => !p x) = true) : l.findIdx? p = none := by
 rw [List.findIdx?_eq_none_iff]
 intro x hx
 have := List.all_eq_true.1 h x hx
 simpa using this
theorem QAv {α : Type} {p : α → Bool} {l : List α} {k : Nat} (hk : k < l.length) (h : (l.take k).all (fun x => !p x) = true) (hp : p l[k] = true) : l.findIdx? p = some k := by
 rw [List.findIdx?_eq_some_iff_getElem]
 refine ⟨hk, hp, fun j hj => ?_⟩
 have := List.all_eq_true.1 h l[j] (by
  rw [List.mem_take_iff_getElem]
  exact ⟨j, by omega, rfl⟩)
 simpa using this
theorem Qry {α : Type} {l : List α} {k : Nat} (h : k < l.length) {p : α → Bool} : (l.take (k + 1)).all p = ((l.take k).all p && p l[k]) := by
 rw [List.take_succ_eq_append_getElem h, List.all_append]; simp
theorem QbG : ∀ l : List (List UInt8), isTL (l.map bs) = true
 | [] => rfl
 | x :: l => by
  have : isT (bs x) = true := by simp [bs, isT]; induction x with | nil => rfl | cons y x ih => simp [QhX, isTL, isT, ih]
  simp [isTL, this, QbG l]
theorem QcA {α : Type} (f : α → AV) : ∀ l : List α, (l.map fun x => [f x]).flatten = l.map f
 | [] => rfl
 | x :: l => by simp [QcA f l]
theorem QhC {L : List (List AV)} (h : ∀ c ∈ L, Qc6 (.int .u8) c) : ∃ l : List UInt8, L.length = l.length ∧ AV.list L.length L.flatten = bs l := by
 obtain ⟨l, rfl, _⟩ := QdL (f := fun b : UInt8 => [AV.int .u8 b.toNat]) (q := fun _ => True) h (fun c hc => by
  simp only [Qc6] at hc
  obtain ⟨n, rfl, h1, h2⟩ := hc
  simp only [IntKind.min, IntKind.max, IntKind.signed, IntKind.bits] at h1 h2
  refine ⟨UInt8.ofNat n.toNat, ?_, trivial⟩
  simp at h1 h2
  simp; omega)
 exact ⟨l, by simp, by simp [bs, u8, QcA]⟩
theorem QwA {K : IntKind} {L : List (List AV)} (h : ∀ c ∈ L, Qc6 (.int K) c) : ∃ l : List Int, L.length = l.length ∧ AV.list L.length L.flatten = .list l.length (ks K l) ∧ ∀ x ∈ l, K.min ≤ x ∧ x ≤ K.max := by
 obtain ⟨l, rfl, h2⟩ := QdL (f := fun n : Int => [AV.int K n]) (q := fun x => K.min ≤ x ∧ x ≤ K.max) h (fun c hc => by
  simp only [Qc6] at hc
  obtain ⟨n, rfl, h1, h2⟩ := hc
  exact ⟨n, rfl, h1, h2⟩)
 exact ⟨l, by simp, by simp [ks, QcA], h2⟩
def QBl (P : Program) (t : TypeId) : Bool := match P.underlying t with | some (.struct _) => true | _ => false
def QBm (P : Program) (t : TypeId) : Bool := match P.underlying t with | some (.array _ _) => true | _ => false
def QCn (P : Program) (t : TypeId) : Bool := match P.underlying t with | some (.slice _) => true | _ => false
theorem QBN {P : Program} {t : TypeId} (h : QBl P t = true) : ∃ fs, P.underlying t = some (.struct fs) := by
 unfold QBl at h; split at h
 ·exact ⟨_, by assumption⟩
 ·cases h
theorem QBO {P : Program} {t : TypeId} (h : QBm P t = true) : ∃ n e, P.underlying t = some (.array n e) := by
 unfold QBm at h; split at h
 ·exact ⟨_, _, by assumption⟩
 ·cases h
theorem QAh {P : Program} {t : TypeId} (h : QCn P t = true) : ∃ e, P.underlying t = some (.slice e) := by
 unfold QCn at h; split at h
 ·exact ⟨_, by assumption⟩
 ·cases h
theorem QwB {L : List (List AV)} (h : ∀ c ∈ L, Qc6 (.int .i32) c) : ∃ l : List Int, L.length = l.length ∧ AV.list L.length L.flatten = il l ∧ I32 l := by
 obtain ⟨l, h1, h2, h3⟩ := QwA h
 exact ⟨l, h1, h2, fun x hx => by have := h3 x hx; simpa [IntKind.min, IntKind.max, IntKind.signed, IntKind.bits] using this⟩
theorem QyW {L : List (List AV)} (h : ∀ c ∈ L, Qc6 (.slice (.int .u8)) c) : ∃ l : List (List UInt8), L.length = l.length ∧ AV.list L.length L.flatten = bss l ∧ ∀ x ∈ l, x.length ≤ maxLen := by
 obtain ⟨l, rfl, h2⟩ := QdL (f := fun b : List UInt8 => [bs b]) (q := fun x => x.length ≤ maxLen) h (fun c hc => by
  simp only [Qc6] at hc
  obtain ⟨L', rfl, h1, h2⟩ := hc
  obtain ⟨l, h3, h4⟩ := QhC h2
  exact ⟨l, by rw [h4], by omega⟩)
 exact ⟨l, by simp, by simp [bss, QcA], h2⟩
def QBZ : Sh := .tuple [.int .i64, .int .i64]
def QBt : Sh := .tuple [QBZ, .int .i64, .str, .slice (.int .u8), .slice (.int .i32), .slice (.slice (.int .u8)), .slice (.int .u8), .bool, .int .i64]
theorem Qt1 {cs0 : List AV} (h : Qc6 QBZ cs0) : ∃ c b : Int, cs0 = [.int .i64 c, .int .i64 b] := by
 simp only [QBZ, Qc6, FitsL] at h
 obtain ⟨_, _, rfl, ⟨c, rfl, _⟩, _, _, rfl, ⟨b, rfl, _⟩, rfl⟩ := h
 exact ⟨c, b, rfl⟩
theorem QBQ {cs0 : List AV} (h : Qc6 QBt cs0) : ∃ e : Enc, cs0 = QCo e ∧ I32 e.smp := by
 simp only [QBt, Qc6, FitsL] at h
 obtain ⟨_, _, rfl, h1, _, _, rfl, ⟨r, rfl, _⟩, _, _, rfl, ⟨p, rfl, _⟩, _, _, rfl, ⟨L1, rfl, _, h2⟩, _, _, rfl, ⟨L2, rfl, _, h3⟩, _, _, rfl, ⟨L3, rfl, _, h4⟩, _, _, rfl, ⟨L4, rfl, _, h5⟩, _, _, rfl, ⟨d, rfl⟩, _, _, rfl, ⟨x, rfl, _⟩, rfl⟩ := h
 obtain ⟨c, b, rfl⟩ := Qt1 h1
 obtain ⟨l1, _, e1⟩ := QhC (L := L1) (fun c hc => by simp only [Qc6]; exact h2 c hc)
 obtain ⟨l2, _, e2, hi⟩ := QwB (L := L2) (fun c hc => by simp only [Qc6]; exact h3 c hc)
 obtain ⟨l3, _, e3, _⟩ := QyW (L := L3) (fun c hc => by simp only [Qc6]; exact h4 c hc)
 obtain ⟨l4, _, e4⟩ := QhC (L := L4) (fun c hc => by simp only [Qc6]; exact h5 c hc)
 exact ⟨⟨c, b, r, p, l1, l2, l3, l4, d, x⟩, by simp [QCo, e1, e2, e3, e4], hi⟩
def w32 (x : Int) : Int := IntKind.i32.wrap x
theorem Qnb (x : Int) : w32 x = (x + 2147483648) % 4294967296 - 2147483648 := by
 simp [w32, IntKind.wrap, IntKind.bits, IntKind.signed]; split <;> omega
theorem QuP (a b : Int) : w32 (w32 a + w32 b) = w32 (a + b) := by simp only [Qnb]; omega
theorem QrT (a b : Int) : w32 (w32 a + b) = w32 (a + b) := by simp only [Qnb]; omega
theorem QuO {a : Int} (h1 : -2147483648 ≤ a) (h2 : a ≤ 2147483647) : w32 a = a := QbB h1 h2
theorem Jw (a : Int) : -2147483648 ≤ w32 a ∧ w32 a ≤ 2147483647 := by simp only [Qnb]; omega
theorem Qba (x : Int) : IntKind.i32.wrap x = w32 x := rfl
theorem Zq {l : List Int} (h : I32 l) (k : Nat) : -2147483648 ≤ l.getD k 0 ∧ l.getD k 0 ≤ 2147483647 := by
 rw [List.getD_eq_getElem?_getD]
 cases hk : l[k]? with
 | none => simp
 | some v => exact h v (List.mem_of_getElem? hk)
theorem Qzl {K : IntKind} {l : List Int} {k : Nat} (h : k < l.length) : (ks K l)[k]? = some (.int K (l.getD k 0)) := by
 simp [ks, List.getD_eq_getElem?_getD, List.getElem?_eq_getElem h]
structure JG where
 sh : Int
 tp : List Int
 ps : List Int
def Qj (f : JG) : List AV := .int .i64 f.sh :: (ks .i32 f.tp ++ ks .i32 f.ps)
def Qbx (f : JG) : Prop := f.tp.length = 16 ∧ f.ps.length = 16 ∧ I32 f.tp ∧ I32 f.ps
theorem QK {f : JG} (h : Qbx f) : (Qj f).length = 33 := by
 obtain ⟨h1, h2, _⟩ := h
 simp [Qj, Qg, h1, h2]
theorem QP (f : JG) : (Qj f).all AV.one = true := by
 simp only [Qj, List.all_cons, List.all_append, X6]; rfl
theorem QX (f : JG) : isDL (Qj f) = true := by
 have : ∀ a b, isDL (ks .i32 a ++ ks .i32 b) = true := fun a b => by rw [QfP]; exact QW _ _
 simp [Qj, isDL, isD, this]
theorem QoH {f : JG} (h : Qbx f) : ((Qj f).drop 1).take 16 = ks .i32 f.tp := by
 obtain ⟨h1, h2, _⟩ := h
 simp only [Qj, List.drop_succ_cons, List.drop_zero]
 rw [List.take_left' (by simp [Qg, h1])]
theorem Qkp {f : JG} (h : Qbx f) : ((Qj f).drop 17).take 16 = ks .i32 f.ps := by
 obtain ⟨h1, h2, _⟩ := h
 simp only [Qj, List.drop_succ_cons]
 rw [List.drop_left' (by simp [Qg, h1]), List.take_of_length_le (by simp [Qg, h2])]
theorem QlM {f : JG} (h : Qbx f) {k : Nat} (hk : k < 16) : (Qj f).drop (1 + k) = .int .i32 (f.tp.getD k 0) :: ((ks .i32 f.tp).drop (k + 1) ++ ks .i32 f.ps) := by
 obtain ⟨h1, h2, _⟩ := h
 rw [Nat.add_comm]
 simp only [Qj, List.drop_succ_cons]
 rw [List.drop_append_of_le_length (by simp [Qg, h1]; omega), Qah (by omega), ← QaJ]
 simp [List.getD_eq_getElem?_getD, List.getElem?_eq_getElem (show k < f.tp.length by omega)]
theorem QfR {f : JG} (h : Qbx f) {k : Nat} (hk : k < 16) : (Qj f).drop (17 + k) = .int .i32 (f.ps.getD k 0) :: (ks .i32 f.ps).drop (k + 1) := by
 obtain ⟨h1, h2, _⟩ := h
 rw [show 17 + k = (16 + k) + 1 by omega]
 simp only [Qj, List.drop_succ_cons]
 rw [← List.drop_drop, List.drop_left' (by simp [Qg, h1]), Qah (by omega), ← QaJ]
 simp [List.getD_eq_getElem?_getD, List.getElem?_eq_getElem (show k < f.ps.length by omega)]
theorem Qil {f : JG} (h : Qbx f) {k : Nat} (hk : k < 16) (v : Int) : (Qj f).take (1 + k) ++ [.int .i32 v] ++ (Qj f).drop (1 + k + 1) = Qj { f with tp := f.tp.set k v } := by
 obtain ⟨h1, h2, _⟩ := h
 rw [Nat.add_comm 1 k]
 simp only [Qj, List.take_succ_cons, List.drop_succ_cons, List.cons_append]
 congr 1
 rw [List.take_append_of_le_length (by simp [Qg, h1]; omega), List.drop_append_of_le_length (by simp [Qg, h1]; omega), ← List.append_assoc]
 congr 1
 rw [List.set_eq_take_append_cons_drop, if_pos (by omega)]
 simp [ks]
theorem Qdk {f : JG} (h : Qbx f) {k : Nat} (hk : k < 16) (v : Int) : (Qj f).take (17 + k) ++ [.int .i32 v] ++ (Qj f).drop (17 + k + 1) = Qj { f with ps := f.ps.set k v } := by
 obtain ⟨h1, h2, _⟩ := h
 rw [show 17 + k = (16 + k) + 1 by omega]
 simp only [Qj, List.take_succ_cons, List.drop_succ_cons, List.cons_append]
 congr 1
 have e : (ks .i32 f.tp).length = 16 := by simp [Qg, h1]
 rw [List.take_append, List.take_of_length_le (by omega), e, show 16 + k + 1 = 16 + (k + 1) by omega, ← List.drop_drop, List.drop_left' e, show 16 + k - 16 = k by omega, List.append_assoc, List.append_assoc]
 congr 1
 rw [List.set_eq_take_append_cons_drop, if_pos (by omega)]
 simp [ks]
theorem Qo {α : Type} {l : List α} {n : Nat} (h : l.length ≤ n) : l.take n = l := List.take_of_length_le h
def QaG (b : Int) : Int := if b = 16 then 9 else 10
def z16 : List Int := List.replicate 16 0
def Qgr (b : Int) (t : List Int) : JG := ⟨QaG b, t, z16⟩
def Qjl : JG := ⟨0, z16, z16⟩
def Qd3 (b : Int) (t : List Int) : AV := if Jk b = 0 then .tup [.agg (Qj Qjl), .int .i64 2] else .tup [.agg (Qj (Qgr b t)), .int .i64 0]
def QiO (P : Prg) (f : Nat) : Prop := ∀ (b : Int) (t : List Int), t.length = 16 → VC P f [.int .i64 b, .agg (ks .i32 t)] (Qd3 b t)
theorem Qsx (b : Int) (t : List Int) : isD (Qd3 b t) = true := by
 unfold Qd3; split <;> simp [isD, isDL, QX]
theorem JQ : Qj Qjl = [.int .i64 0, .int .i32 0, .int .i32 0, .int .i32 0, .int .i32 0, .int .i32 0, .int .i32 0, .int .i32 0, .int .i32 0, .int .i32 0, .int .i32 0, .int .i32 0, .int .i32 0, .int .i32 0, .int .i32 0, .int .i32 0, .int .i32 0, .int .i32 0, .int .i32 0, .int .i32 0, .int .i32 0, .int .i32 0, .int .i32 0, .int .i32 0, .int .i32 0, .int .i32 0, .int .i32 0, .int .i32 0, .int .i32 0, .int .i32 0, .int .i32 0, .int .i32 0, .int .i32 0] := rfl
theorem Qx5 {P : Prg} {f t0 t1 : Nat} (b : Qf P f 18 [.cell 4 t1, .tmp 5] (Qai t0 t1)) (ht : Q6 P t1 = some (some 33)) : QiO P f := by
 intro x t hl
 have hk : (ks .i32 t).length = 16 := by simp [Qg, hl]
 have h1 := X6 .i32 t
 have tk16 : (ks .i32 t).take 16 = ks .i32 t := Qo (by omega)
 refine VC.of_acall (by simp [isDL, isD, QW]) (Qsx _ _) (ACall.of_body b (by simp) ?_)
 have fin : ∀ s : Int, .int .i64 s :: (ks .i32 t ++ [.int .i32 0, .int .i32 0, .int .i32 0, .int .i32 0, .int .i32 0, .int .i32 0, .int .i32 0, .int .i32 0, .int .i32 0, .int .i32 0, .int .i32 0, .int .i32 0, .int .i32 0, .int .i32 0, .int .i32 0, .int .i32 0]) = Qj ⟨s, t, z16⟩ := fun _ => rfl
 have hl33 : ∀ s : Int, (Qj ⟨s, t, z16⟩).length = 33 := fun s => by simp [Qj, Qg, hl, z16]
 have ho := fun s => QP ⟨s, t, z16⟩
 have tk : ∀ s : Int, (Qj ⟨s, t, z16⟩).take 33 = Qj ⟨s, t, z16⟩ := fun s => Qo (by rw [hl33]; omega)
 have st9 : ([] : List AV) ++ [.int .i64 9] ++ (Qj ⟨10, t, z16⟩).drop 1 = Qj ⟨9, t, z16⟩ := rfl
 have d9 : AV.int .i64 9 :: (Qj ⟨10, t, z16⟩).drop 1 = Qj ⟨9, t, z16⟩ := rfl
 rcases Zb x with ⟨rfl, h⟩ | ⟨rfl, h⟩ | ⟨rfl, h⟩ | ⟨h2, h3, h4, h⟩
 ·simp (disch := omega) only [rq, simprocAttr, Qai, Qd3, h, hk, h1, tk16, fin, hl33, ho, tk, QD, ht, Qgr, QaG]
 ·simp (disch := omega) only [rq, simprocAttr, Qai, Qd3, h, hk, h1, tk16, fin, hl33, ho, tk, QD, ht, Qgr, QaG, d9]
 ·simp (disch := omega) only [rq, simprocAttr, Qai, Qd3, h, hk, h1, tk16, fin, hl33, ho, tk, QD, ht, Qgr, QaG]
 ·simp (disch := omega) only [rq, simprocAttr, Qai, Qd3, h, hk, h1, tk16, fin, hl33, ho, tk, QD, ht, JQ]
def QxR (s : Int) : Int := if s = 9 ∨ s = 10 then 0 else 8
def Qgd (P : Prg) (f : Nat) : Prop := ∀ x : JG, Qbx x → VC P f [.agg (Qj x)] (.int .i64 (QxR x.sh))
theorem QBU : QxR 9 = 0 := rfl
theorem QAW : QxR 10 = 0 := rfl
def QhD (a b : List Int) : Nat → Int
 | 0 => 0
 | k + 1 => QhD a b k + a.getD k 0 * b.getD k 0
def QbS (s : Int) : Int := if s = 9 then 512 else 1024
def QeD (f : JG) : Int := w32 (QbS f.sh / 2 + QhD f.tp f.ps 16) / QbS f.sh
def QmF (P : Prg) (f : Nat) : Prop := ∀ x : JG, Qbx x → x.sh = 9 ∨ x.sh = 10 → VC P f [.agg (Qj x)] (.tup [.int .i32 (QeD x), .int .i64 0])
theorem QoB (f : JG) (h : f.sh = 9 ∨ f.sh = 10) : -2147483648 ≤ QeD f ∧ QeD f ≤ 2147483647 := by
 have := Jw (QbS f.sh / 2 + QhD f.tp f.ps 16)
 unfold QeD QbS at *
 rcases h with h | h <;> simp [h] at * <;> omega
theorem QzZ : Qn true .i32 1 8 = some (.int .i32 256) := rfl
theorem QzY : Qn true .i32 1 9 = some (.int .i32 512) := rfl
theorem QzT (s : Int) : Qn false .i32 s 9 = some (.int .i32 (s / 512)) := by
 show some (AV.int .i32 (s.fdiv 512)) = _
 rw [Int.fdiv_eq_ediv_of_nonneg _ (by omega)]
theorem Qyk (s : Int) : Qn false .i32 s 10 = some (.int .i32 (s / 1024)) := by
 show some (AV.int .i32 (s.fdiv 1024)) = _
 rw [Int.fdiv_eq_ediv_of_nonneg _ (by omega)]
theorem Qtd {P : Prg} {f fC t0 : Nat} (b : Qf P f 36 [.tmp 2, .tmp 3] (QcI fC t0)) (hC : Qgd P fC) : QmF P f := by
 intro x hx hs
 have l33 := QK hx
 have tk : (Qj x).take 33 = Qj x := Qo (by omega)
 have ho := QP x
 have e1 := QoH hx
 have e0 : (Qj x).drop 0 = .int .i64 x.sh :: (ks .i32 x.tp ++ ks .i32 x.ps) := rfl
 have ht : QxR x.sh = 0 := by simp [QxR, hs]
 have hl := hx.1
 refine VC.of_acall (by simp [isDL, isD, QX]) rfl (ACall.of_body b (by simp) ?_)
 simp (disch := omega) only [rq, simprocAttr, QcI, l33, tk, ho]
 refine Qb.vc (hC x hx) ?_
 rcases hs with h | h
 all_goals
  have z0 : w32 (QbS x.sh / 2 + QhD x.tp x.ps 0) = QbS x.sh / 2 := by simp only [QhD, Int.add_zero]; exact QuO (by simp [QbS, h]) (by simp [QbS, h])
  have z1 : QbS x.sh = 512 ∧ x.sh = 9 ∨ QbS x.sh = 1024 ∧ x.sh = 10 := by simp [QbS, h]
  simp (disch := omega) only [rq, simprocAttr, l33, tk, ho, QBU, QAW, e1, ↓e0, h, QzZ, QzY]
  refine Qx.by (ι := Nat) (fun k => ⟨[(19, .int .i64 k), (18, .agg (ks .i32 x.tp)), (5, .int .i32 (w32 (QbS x.sh / 2 + QhD x.tp x.ps k))), (1, .ref 0 1 0)], [⟨t0, 33, 1, Qj x, 0⟩]⟩) (fun k => k ≤ 16) (fun k => 16 - k) 0 (Le.slots (by rw [z0]; simp [Am.look, h, QbS])) (by omega) ?_
  intro k hk
  by_cases hlt : k < 16
  ·have e2 := QfR hx hlt
   have e3 := Qzl (K := .i32) (l := x.tp) (k := k) (by omega)
   have e4 : w32 (w32 (QbS x.sh / 2 + QhD x.tp x.ps k) + w32 (x.tp.getD k 0 * x.ps.getD k 0)) = w32 (QbS x.sh / 2 + QhD x.tp x.ps (k + 1)) := by
    rw [QuP]; simp only [QhD]; congr 1; omega
   simp (disch := omega) only [rq, simprocAttr, l33, e2, e3, Qba, e4]
   exact ⟨k + 1, by omega, by omega, Le.slots (by simp [Am.look])⟩
  ·have e : k = 16 := by omega
   subst e
   simp (disch := omega) only [rq, simprocAttr, ↓e0, h, QzT, Qyk, QeD, QbS]
theorem Qte {P : Prg} {f t0 : Nat} (b : Qf P f 11 [.tmp 2] (JW t0)) : Qgd P f := by
 intro x hx
 have l33 := QK hx
 have ho := QP x
 have e0 : (Qj x).drop 0 = .int .i64 x.sh :: (ks .i32 x.tp ++ ks .i32 x.ps) := rfl
 refine VC.of_acall (by simp [isDL, isD, QX]) rfl (ACall.of_body b (by simp) ?_)
 by_cases h9 : x.sh = 9
 ·simp (disch := omega) only [rq, simprocAttr, JW, l33, ho, ↓e0, h9, QxR]
 by_cases h10 : x.sh = 10
 ·simp (disch := omega) only [rq, simprocAttr, JW, l33, ho, ↓e0, h10, QxR]
 ·simp (disch := omega) only [rq, simprocAttr, JW, l33, ho, ↓e0, QxR]
def QcY (i : Nat) : Int := if i = 0 then 4 else if i < 4 then 2 else 1
def QmD (P : Prg) (f : Nat) : Prop := ∀ i : Nat, VC P f [.int .i64 i] (.int .i32 (QcY i))
theorem Qu1 {P : Prg} {f : Nat} (b : Qf P f 9 [.tmp 2] QaB) : QmD P f := by
 intro i
 refine VC.of_acall rfl rfl (ACall.of_body b (by simp) ?_)
 by_cases h0 : i = 0
 ·subst h0; simp (disch := omega) only [rq, simprocAttr, QaB, QcY, Int.natCast_zero]
 by_cases h1 : i < 4
 ·simp (disch := omega) only [rq, simprocAttr, QaB, QcY, h0]
 ·simp (disch := omega) only [rq, simprocAttr, QaB, QcY, h0]
def sgn (x : Int) : Int := if x < 0 then -1 else if 0 < x then 1 else 0
def QxQ (x : JG) (w : Int) (k : Nat) : Int := w32 (x.tp.getD k 0 + QcY k * sgn (x.ps.getD k 0) * sgn w)
def JU (x : JG) (w : Int) (k : Nat) : List Int := (List.range 16).map fun i => if i < k then QxQ x w i else x.tp.getD i 0
def lf (x : JG) (w : Int) (k : Nat) : JG := { x with tp := JU x w k }
def JM (x : JG) (w : Int) : JG := lf x w 16
theorem Qka {l : List Int} (h : l.length = 16) : (List.range 16).map (fun i => l.getD i 0) = l := by
 apply List.ext_getElem (by simp [h])
 intro i h1 h2
 simp [List.getD_eq_getElem?_getD, List.getElem?_eq_getElem h2]
theorem Qwd (x : JG) (w : Int) (k : Nat) : (JU x w k).length = 16 := by simp [JU]
theorem Qgt {x : JG} (h : Qbx x) (w : Int) : JU x w 0 = x.tp := by
 have := Qka h.1
 simpa [JU] using this
theorem Qkh (x : JG) (w : Int) {k : Nat} (hk : k < 16) : (JU x w k).getD k 0 = x.tp.getD k 0 := by
 simp [JU, List.getD_eq_getElem?_getD, hk]
theorem Qou (x : JG) (w : Int) {k : Nat} (hk : k < 16) : (JU x w k).set k (QxQ x w k) = JU x w (k + 1) := by
 apply List.ext_getElem (by simp [JU])
 intro i h1 h2
 rw [List.getElem_set]
 simp only [JU, List.getElem_map, List.getElem_range]
 by_cases e : k = i
 ·subst e; simp
 ·rw [if_neg e]
  by_cases h : i < k
  ·rw [if_pos h, if_pos (by omega)]
  ·rw [if_neg h, if_neg (by omega)]
theorem Qkg (x : JG) (w : Int) {k : Nat} (h : QxQ x w k = x.tp.getD k 0) : JU x w (k + 1) = JU x w k := by
 simp only [JU]
 apply List.map_congr_left
 intro i _
 by_cases e : i = k
 ·subst e; simp [h]
 ·by_cases h : i < k
  ·rw [if_pos h, if_pos (by omega)]
  ·rw [if_neg h, if_neg (by omega)]
theorem QxN {x : JG} (h : Qbx x) (w : Int) (k : Nat) : I32 (JU x w k) := by
 intro v hv
 simp only [JU, List.mem_map] at hv
 obtain ⟨i, _, rfl⟩ := hv
 split
 ·exact Jw _
 ·exact Zq h.2.2.1 i
theorem Qh7 {x : JG} (h : Qbx x) (w : Int) (k : Nat) : Qbx (lf x w k) := ⟨Qwd x w k, h.2.1, QxN h w k, h.2.2.2⟩
theorem QdJ {x : JG} (h : Qbx x) (w : Int) : Qbx (JM x w) := Qh7 h w 16
theorem QyH {x : JG} (h : Qbx x) : JM x 0 = x := by
 have key : ∀ k, JU x 0 k = x.tp := fun k => by
  induction k with
  | zero => exact Qgt h 0
  | succ k ih =>
   rw [Qkg x 0, ih]
   have := Zq h.2.2.1 k
   simp only [QxQ, sgn]
   simp
   exact QuO (by simpa using this.1) (by simpa using this.2)
 simp [JM, lf, key]
def QmE (P : Prg) (f : Nat) : Prop := ∀ (x : JG) (w : Int), Qbx x → x.sh = 9 ∨ x.sh = 10 → VC P f [.agg (Qj x), .int .i32 w] (.tup [.agg (Qj (JM x w)), .int .i64 0])
theorem Qu0 {s : Int} (h : s = 9 ∨ s = 10) : QxR s = 0 := by simp [QxR, h]
theorem Qtc {P : Prg} {f fC fS t0 : Nat} (b : Qf P f 53 [.cell 4 t0, .tmp 5] (QcH fC fS t0)) (ht : Q6 P t0 = some (some 33)) (hC : Qgd P fC) (hS : QmD P fS) : QmE P f := by
 intro x w hx hs
 have l33 := QK hx
 have tk : (Qj x).take 33 = Qj x := Qo (by omega)
 have ho := QP x
 have hc := Qu0 hs
 have pp := Qkp hx
 have lw := QK (QdJ hx w)
 have tkw : (Qj (JM x w)).take 33 = Qj (JM x w) := Qo (by omega)
 have how := QP (JM x w)
 refine VC.of_acall (by simp [isDL, isD, QX]) (by simp [isD, isDL, QX]) (ACall.of_body b (by simp) ?_)
 simp (disch := omega) only [rq, simprocAttr, QcH, l33, tk, ho]
 refine Qb.vc (hC x hx) ?_
 by_cases hw : w = 0
 ·subst hw
  have e := QyH hx
  simp (disch := omega) only [rq, simprocAttr, l33, tk, ho, hc, QD, ht, e]
 simp (disch := omega) only [rq, simprocAttr, l33, tk, ho, hc, pp]
 refine Qx.by (ι := Nat) (fun k => ⟨[(20, .int .i64 k), (19, .agg (ks .i32 x.ps)), (4, .ref 1 1 0), (2, .ref 0 1 0), (1, .int .i32 w), (5, .int .i64 0)], [⟨t0, 33, 1, Qj (lf x w k), 0⟩, ⟨t0, 33, 1, Qj Qjl, 0⟩]⟩) (fun k => k ≤ 16) (fun k => 16 - k) 0 (by rw [show lf x w 0 = x by simp [lf, Qgt hx]]; exact Le.slots (by simp [Am.look])) (by omega) ?_
 intro k hk
 by_cases hlt : k < 16
 ·have hok := Qh7 hx w k
  have e1 := Qzl (K := .i32) (l := x.ps) (k := k) (by have := hx.2.1; omega)
  have e2 := QlM hok hlt
  have e3 := fun v => Qil hok hlt v
  have e4 := Qkh x w hlt
  have e5 := QK hok
  have hu := Qou x w hlt
  have hp := Zq hx.2.2.2 k
  have htp := Zq hx.2.2.1 k
  have ef : ∀ v, ({ lf x w k with tp := (lf x w k).tp.set k v } : JG) = { x with tp := (JU x w k).set k v } := fun _ => rfl
  have e7 : (lf x w k).tp.getD k 0 = x.tp.getD k 0 := e4
  by_cases p0 : x.ps.getD k 0 = 0
  ·have e6 := Qkg x w (k := k) (by simp only [QxQ, p0, sgn]; simp; exact QuO (by simpa using htp.1) (by simpa using htp.2))
   simp (disch := omega) only [rq, simprocAttr, e1, p0]
   exact ⟨k + 1, by omega, by omega, by rw [show lf x w (k + 1) = lf x w k by simp [lf, e6]]; exact Le.slots (by simp [Am.look])⟩
  ·by_cases hsame : (x.ps.getD k 0 < 0 ↔ w < 0)
   ·have e6 : QxQ x w k = w32 (x.tp.getD k 0 + QcY k) := by
     simp only [QxQ, sgn]; congr 1
     by_cases q : w < 0
     ·rw [if_pos q, if_pos (hsame.2 q)]; omega
     ·rw [if_neg q, if_neg (fun h => q (hsame.1 h)), if_pos (by omega), if_pos (by omega)]; omega
    rw [e6] at hu
    by_cases q : w < 0
    ·have q2 := hsame.2 q
     simp (disch := omega) only [rq, simprocAttr, e1, e2, e7]
     refine QU.vc (hS k) ?_
     simp (disch := omega) only [rq, simprocAttr, e3, e5, Qba, ef, hu]
     exact ⟨k + 1, by omega, by omega, Le.slots (by simp [Am.look])⟩
    ·have q2 : ¬ x.ps.getD k 0 < 0 := fun h => q (hsame.1 h)
     simp (disch := omega) only [rq, simprocAttr, e1, e2, e7]
     refine QU.vc (hS k) ?_
     simp (disch := omega) only [rq, simprocAttr, e3, e5, Qba, ef, hu]
     exact ⟨k + 1, by omega, by omega, Le.slots (by simp [Am.look])⟩
   ·have e6 : QxQ x w k = w32 (x.tp.getD k 0 - QcY k) := by
     simp only [QxQ, sgn]; congr 1
     by_cases q : w < 0
     ·rw [if_pos q, if_neg (fun h => hsame ⟨fun _ => q, fun _ => h⟩), if_pos (by omega)]; omega
     ·rw [if_neg q, if_pos (Classical.byContradiction fun h => hsame ⟨fun h' => absurd h' h, fun h' => absurd h' q⟩), if_pos (by omega)]; omega
    rw [e6] at hu
    by_cases q : w < 0
    ·have q2 : ¬ x.ps.getD k 0 < 0 := fun h => hsame ⟨fun _ => q, fun _ => h⟩
     simp (disch := omega) only [rq, simprocAttr, e1, e2, e7]
     refine QU.vc (hS k) ?_
     simp (disch := omega) only [rq, simprocAttr, e3, e5, Qba, ef, hu]
     exact ⟨k + 1, by omega, by omega, Le.slots (by simp [Am.look])⟩
    ·have q2 : x.ps.getD k 0 < 0 := Classical.byContradiction fun h => hsame ⟨fun h' => absurd h' h, fun h' => absurd h' q⟩
     simp (disch := omega) only [rq, simprocAttr, e1, e2, e7]
     refine QU.vc (hS k) ?_
     simp (disch := omega) only [rq, simprocAttr, e3, e5, Qba, ef, hu]
     exact ⟨k + 1, by omega, by omega, Le.slots (by simp [Am.look])⟩
 ·have e : k = 16 := by omega
  subst e
  have hF : lf x w 16 = JM x w := rfl
  rw [hF]
  simp (disch := omega) only [rq, simprocAttr, lw, tkw, how, QD, ht, JQ]
def Qd6 (x : JG) (v : Int) : JG := { x with ps := v :: x.ps.take 15 }
theorem Qqz {x : JG} (h : Qbx x) {v : Int} (hv : -2147483648 ≤ v ∧ v ≤ 2147483647) : Qbx (Qd6 x v) := by
 obtain ⟨h1, h2, h3, h4⟩ := h
 refine ⟨h1, by simp [Qd6, h2], h3, fun y hy => ?_⟩
 simp only [Qd6, List.mem_cons] at hy
 rcases hy with rfl | hy
 ·exact hv
 ·exact h4 y (List.mem_of_mem_take hy)
def QrD (P : Prg) (f : Nat) : Prop := ∀ (x : JG) (v : Int), Qbx x → x.sh = 9 ∨ x.sh = 10 → VC P f [.agg (Qj x), .int .i32 v] (.tup [.agg (Qj (Qd6 x v)), .int .i64 0])
theorem Qu2 {P : Prg} {f fC t0 : Nat} (b : Qf P f 22 [.cell 4 t0, .tmp 5] (Qdz fC t0)) (ht : Q6 P t0 = some (some 33)) (hC : Qgd P fC) : QrD P f := by
 intro x v hx hs
 have l33 := QK hx
 have tk : (Qj x).take 33 = Qj x := Qo (by omega)
 have ho := QP x
 have hc := Qu0 hs
 have pp := Qkp hx
 have h16 : (ks .i32 x.ps).length = 16 := by simp [Qg, hx.2.1]
 have o16 := X6 .i32 x.ps
 refine VC.of_acall (by simp [isDL, isD, QX]) (by simp [isD, isDL, QX]) (ACall.of_body b (by simp) ?_)
 simp (disch := omega) only [rq, simprocAttr, Qdz, l33, tk, ho]
 refine Qb.vc (hC x hx) ?_
 have hm : Nat.min 16 15 = 15 := rfl
 let y : JG := { x with ps := x.ps.getD 0 0 :: x.ps.take 15 }
 have hy : Qbx y := Qqz hx (Zq hx.2.2.2 0)
 have hcp : (Qj x).take 18 ++ (ks .i32 x.ps).take 15 ++ (Qj x).drop 33 = Qj y := by
  have e1 : (Qj x).drop 33 = [] := List.drop_eq_nil_of_le (by omega)
  have e2 : (ks .i32 x.tp).length = 16 := by simp [Qg, hx.1]
  have e3 : (ks .i32 x.ps).take 1 = [.int .i32 (x.ps.getD 0 0)] := by
   have h1 : 0 < x.ps.length := by have := hx.2.1; omega
   match hps : x.ps, h1 with
   | a :: l, _ => rfl
  rw [e1, List.append_nil]
  simp only [Qj, List.take_succ_cons, List.cons_append, y]
  congr 1
  rw [List.take_append, List.take_of_length_le (by omega), e2, e3, List.append_assoc, QqF]
  rfl
 have hset : (Qj y).take 17 ++ [.int .i32 v] ++ (Qj y).drop 18 = Qj (Qd6 x v) := Qdk hy (k := 0) (by omega) v
 have ly := QK hy
 have lp : (Qj (Qd6 x v)).length = 33 := by rw [← hset]; simp [ly]
 have tkp : (Qj (Qd6 x v)).take 33 = Qj (Qd6 x v) := Qo (by omega)
 have op := QP (Qd6 x v)
 simp (disch := omega) only [rq, simprocAttr, l33, tk, ho, hc, pp, h16, o16, hm, hcp, hset, ly, lp, tkp, op, QD, ht, JQ]
def QbT (x : JG) (v y : Int) : JG := Qd6 (JM x y) v
theorem QfJ {x : JG} (h : Qbx x) {v : Int} (hv : -2147483648 ≤ v ∧ v ≤ 2147483647) (y : Int) : Qbx (QbT x v y) := Qqz (QdJ h y) hv
def Qi4 (P : Prg) (f : Nat) : Prop := ∀ (x : JG) (v y : Int), Qbx x → x.sh = 9 ∨ x.sh = 10 → -2147483648 ≤ v ∧ v ≤ 2147483647 → VC P f [.agg (Qj x), .int .i32 v, .int .i32 y] (.agg (Qj (QbT x v y)))
theorem QtU {P : Prg} {f fL fP t0 : Nat} (b : Qf P f 20 [.cell 6 t0] (QcJ fL fP t0)) (ht : Q6 P t0 = some (some 33)) (hL : QmE P fL) (hP : QrD P fP) : Qi4 P f := by
 intro x v y hx hs hv
 have l1 := QK hx
 have t1 : (Qj x).take 33 = Qj x := Qo (by omega)
 have o1 := QP x
 have l2 := QK (QdJ hx y)
 have t2 : (Qj (JM x y)).take 33 = Qj (JM x y) := Qo (by omega)
 have o2 := QP (JM x y)
 have l3 := QK (QfJ hx hv y)
 have t3 : (Qj (QbT x v y)).take 33 = Qj (QbT x v y) := Qo (by omega)
 have o3 := QP (QbT x v y)
 have d1 : (Qj x).drop 33 = [] := List.drop_eq_nil_of_le (by omega)
 have d2 : (Qj (JM x y)).drop 33 = [] := List.drop_eq_nil_of_le (by omega)
 refine VC.of_acall (by simp [isDL, isD, QX]) (by simp [isD, QX]) (ACall.of_body b (by simp) ?_)
 simp (disch := omega) only [rq, simprocAttr, QcJ, l1, t1, o1]
 refine Qb.vc (hL x y hx hs) ?_
 simp (disch := omega) only [rq, simprocAttr, l1, t1, o1, l2, t2, o2, d1]
 refine Qb.vc (hP (JM x y) v (QdJ hx y) hs) ?_
 rw [← QbT]
 simp (disch := omega) only [rq, simprocAttr, l1, t1, o1, l2, t2, o2, l3, t3, o3, d1, d2, QD, ht, JQ]
def Qpp (x : JG) (v : Int) : Int := w32 (v - QeD x)
def QuF (x : JG) (v : Int) : JG := QbT x v (Qpp x v)
def QgT (P : Prg) (f : Nat) : Prop := ∀ (x : JG) (v : Int), Qbx x → x.sh = 9 ∨ x.sh = 10 → -2147483648 ≤ v ∧ v ≤ 2147483647 → VC P f [.agg (Qj x), .int .i32 v] (.tup [.int .i32 (Qpp x v), .agg (Qj (QuF x v)), .int .i64 0])
theorem QqB {P : Prg} {f fG fB t0 : Nat} (b : Qf P f 27 [.tmp 4, .cell 5 t0, .tmp 6] (Qb0 fG fB t0)) (ht : Q6 P t0 = some (some 33)) (hG : QmF P fG) (hB : Qi4 P fB) : QgT P f := by
 intro x v hx hs hv
 have l1 := QK hx
 have t1 : (Qj x).take 33 = Qj x := Qo (by omega)
 have o1 := QP x
 have l3 := QK (QfJ hx hv (Qpp x v))
 have t3 : (Qj (QbT x v (Qpp x v))).take 33 = Qj (QbT x v (Qpp x v)) := Qo (by omega)
 have o3 := QP (QbT x v (Qpp x v))
 refine VC.of_acall (by simp [isDL, isD, QX]) (by simp [isD, isDL, QX]) (ACall.of_body b (by simp) ?_)
 simp (disch := omega) only [rq, simprocAttr, Qb0, l1, t1, o1]
 refine Qb.vc (hG x hx hs) ?_
 simp (disch := omega) only [rq, simprocAttr, l1, t1, o1, Qba]
 refine Qb.vc (hB x v (Qpp x v) hx hs hv) ?_
 simp only [Qpp] at l3 t3 o3
 simp (disch := omega) only [rq, simprocAttr, l1, t1, o1, l3, t3, o3, QD, ht, JQ, QuF, Qpp]
def Xo (b last : Int) : Int := if b = 8 then 15 * last / 16 else 31 * last / 32
theorem Qgx (b : Int) {l : Int} (h : -2147483648 ≤ l ∧ l ≤ 2147483647) : -2147483648 ≤ Xo b l ∧ Xo b l ≤ 2147483647 := by unfold Xo; split <;> omega
def QmU (P : Prg) (f : Nat) : Prop := ∀ b : Int, Jk b ≠ 0 → VC P f [.int .i64 b] (.tup [.int .i64 (if b = 8 then 4 else 5), .int .i64 0])
theorem QqO {P : Prg} {f : Nat} (b : Qf P f 10 [.tmp 2, .tmp 3] Jr) : QmU P f := by
 intro x hx
 refine VC.of_acall rfl rfl (ACall.of_body b (by simp) ?_)
 rcases Zb x with ⟨rfl, h⟩ | ⟨rfl, h⟩ | ⟨rfl, h⟩ | ⟨h2, h3, h4, h⟩
 ·simp (disch := omega) only [rq, simprocAttr, Jr]
 ·simp (disch := omega) only [rq, simprocAttr, Jr]
 ·simp (disch := omega) only [rq, simprocAttr, Jr]
 ·exact absurd h hx
theorem QzX {x : Int} (h : -2147483648 ≤ x ∧ x ≤ 2147483647) : Qn true .i64 x 4 = some (.int .i64 (x * 16)) := by
 show some (AV.int .i64 (IntKind.i64.wrap (x * 16))) = _
 rw [QE (by omega) (by omega)]
theorem QzW {x : Int} (h : -2147483648 ≤ x ∧ x ≤ 2147483647) : Qn true .i64 x 5 = some (.int .i64 (x * 32)) := by
 show some (AV.int .i64 (IntKind.i64.wrap (x * 32))) = _
 rw [QE (by omega) (by omega)]
theorem QzS (x : Int) : Qn false .i64 x 4 = some (.int .i64 (x / 16)) := by
 show some (AV.int .i64 (x.fdiv 16)) = _
 rw [Int.fdiv_eq_ediv_of_nonneg _ (by omega)]
theorem QzR (x : Int) : Qn false .i64 x 5 = some (.int .i64 (x / 32)) := by
 show some (AV.int .i64 (x.fdiv 32)) = _
 rw [Int.fdiv_eq_ediv_of_nonneg _ (by omega)]
def QmT (P : Prg) (f : Nat) : Prop := ∀ (b l : Int), -2147483648 ≤ l ∧ l ≤ 2147483647 → VC P f [.int .i64 (if b = 8 then 4 else 5), .int .i32 l] (.int .i32 (Xo b l))
theorem QqN {P : Prg} {f : Nat} (b : Qf P f 16 [.tmp 4] Qaq) : QmT P f := by
 intro x l hl
 refine VC.of_acall rfl rfl (ACall.of_body b (by simp) ?_)
 have e1 : l * 16 - l = 15 * l := by omega
 have e2 : l * 32 - l = 31 * l := by omega
 have a := QzX hl
 have c := QzW hl
 by_cases h : x = 8
 ·simp (disch := omega) only [rq, simprocAttr, Qaq, h, Xo, a, QzS, e1]
 ·simp (disch := omega) only [rq, simprocAttr, Qaq, if_neg h, Xo, c, QzR, e2]
def QmV (P : Prg) (f : Nat) : Prop := ∀ (b l : Int), Jk b ≠ 0 → -2147483648 ≤ l ∧ l ≤ 2147483647 → VC P f [.int .i64 b, .int .i32 l] (.tup [.int .i32 (Xo b l), .int .i64 0])
theorem QqP {P : Prg} {f fS fg : Nat} (b : Qf P f 19 [.tmp 4, .tmp 5] (Qb2 fS fg)) (hS : QmU P fS) (hg : QmT P fg) : QmV P f := by
 intro x l hx hl
 refine VC.of_acall rfl rfl (ACall.of_body b (by simp) ?_)
 simp (disch := omega) only [rq, simprocAttr, Qb2]
 refine Qb.vc (hS x hx) ?_
 simp (disch := omega) only [rq, simprocAttr]
 refine Qb.vc (hg x l hl) ?_
 simp (disch := omega) only [rq, simprocAttr]
structure J8 where
 bits : Int
 last : Int
 fl : JG
def QY (c : J8) : List AV := .int .i64 c.bits :: .int .i32 c.last :: Qj c.fl
def QxT (c : J8) : Prop := Jk c.bits ≠ 0 ∧ c.fl.sh = QaG c.bits ∧ Qbx c.fl ∧ (-2147483648 ≤ c.last ∧ c.last ≤ 2147483647)
def Qd2 : J8 := ⟨0, 0, Qjl⟩
theorem Zr {c : J8} (h : Qbx c.fl) : (QY c).length = 35 := by simp [QY, QK h]
theorem ZI (c : J8) : (QY c).all AV.one = true := by simp [QY, AV.one, QP]
theorem Qbj (c : J8) : isDL (QY c) = true := by simp [QY, isDL, isD, QX]
theorem Qr4 (b : Int) : QaG b = 9 ∨ QaG b = 10 := by unfold QaG; split <;> simp
theorem Qsi {b : Int} {t : List Int} (h1 : t.length = 16) (h2 : I32 t) : Qbx (Qgr b t) := ⟨h1, by simp [Qgr, z16], h2, fun x hx => by simp [Qgr, z16] at hx; omega⟩
theorem QbA : QY Qd2 = [.int .i64 0, .int .i32 0, .int .i64 0, .int .i32 0, .int .i32 0, .int .i32 0, .int .i32 0, .int .i32 0, .int .i32 0, .int .i32 0, .int .i32 0, .int .i32 0, .int .i32 0, .int .i32 0, .int .i32 0, .int .i32 0, .int .i32 0, .int .i32 0, .int .i32 0, .int .i32 0, .int .i32 0, .int .i32 0, .int .i32 0, .int .i32 0, .int .i32 0, .int .i32 0, .int .i32 0, .int .i32 0, .int .i32 0, .int .i32 0, .int .i32 0, .int .i32 0, .int .i32 0, .int .i32 0, .int .i32 0] := rfl
def Qam (b : Int) (t : List Int) : J8 := ⟨b, 0, Qgr b t⟩
def Ql1 (b : Int) (t : List Int) : AV := if Jk b = 0 then .tup [.agg (QY Qd2), .int .i64 2] else .tup [.agg (QY (Qam b t)), .int .i64 0]
def QkE (P : Prg) (f : Nat) : Prop := ∀ (b : Int) (t : List Int), t.length = 16 → I32 t → VC P f [.int .i64 b, .agg (ks .i32 t)] (Ql1 b t)
theorem QsE (b : Int) (t : List Int) : isD (Ql1 b t) = true := by unfold Ql1; split <;> simp [isD, isDL, Qbj]
theorem Qw2 {P : Prg} {f fT t0 t1 t2 : Nat} (b : Qf P f 21 [.cell 4 t1, .tmp 5] (QdD fT t0 t1 t2)) (ht : Q6 P t1 = some (some 35)) (hT : QiO P fT) : QkE P f := by
 intro x t hl hI
 have hk : (ks .i32 t).length = 16 := by simp [Qg, hl]
 have h1 := X6 .i32 t
 have tk16 : (ks .i32 t).take 16 = ks .i32 t := Qo (by omega)
 have hok : Qbx (Qgr x t) := Qsi hl hI
 have l1 := QK hok
 have t1' : (Qj (Qgr x t)).take 33 = Qj (Qgr x t) := Qo (by omega)
 have o1 := QP (Qgr x t)
 have lc := Zr (c := Qam x t) hok
 have tc : (QY (Qam x t)).take 35 = QY (Qam x t) := Qo (by omega)
 have oc := ZI (Qam x t)
 have mk : AV.int .i64 x :: .int .i32 0 :: Qj (Qgr x t) = QY (Qam x t) := rfl
 refine VC.of_acall (by simp [isDL, isD, QW]) (QsE _ _) (ACall.of_body b (by simp) ?_)
 simp (disch := omega) only [rq, simprocAttr, QdD, hk, h1, tk16]
 refine Qb.vc (hT x t hl) ?_
 by_cases h0 : Jk x = 0
 ·simp (disch := omega) only [rq, simprocAttr, Qd3, h0, Ql1, JQ, QbA, QD, ht]
 ·simp (disch := omega) only [rq, simprocAttr, Qd3, if_neg h0, Ql1, l1, t1', o1, lc, tc, oc, mk, QbA, QD, ht]
theorem Qw0 {c : J8} (h : Qbx c.fl) : ((QY c).drop 2).take 33 = Qj c.fl := by
 simp only [QY, List.drop_succ_cons, List.drop_zero]
 exact Qo (by rw [QK h]; omega)
theorem QwZ {c : J8} (h : Qbx c.fl) : ((QY c).drop 3).take 16 = ks .i32 c.fl.tp := QoH h
def Qm0 (P : Prg) (f : Nat) : Prop := ∀ c : J8, QxT c → VC P f [.agg (QY c)] (.int .i64 0)
theorem Qrb {P : Prg} {f fT t0 t1 : Nat} (b : Qf P f 24 [.tmp 2] (Qb7 fT t0 t1)) (hT : QiO P fT) : Qm0 P f := by
 intro c ⟨h1, h2, h3, h4⟩
 have lc := Zr h3
 have oc := ZI c
 have e0 : (QY c).drop 0 = .int .i64 c.bits :: .int .i32 c.last :: Qj c.fl := rfl
 have e2 : (QY c).drop 2 = .int .i64 c.fl.sh :: (ks .i32 c.fl.tp ++ ks .i32 c.fl.ps) := rfl
 have et := QwZ h3
 have hk : (ks .i32 c.fl.tp).length = 16 := by simp [Qg, h3.1]
 have hok : Qbx (Qgr c.bits c.fl.tp) := Qsi h3.1 h3.2.2.1
 have l1 := QK hok
 have t1' : (Qj (Qgr c.bits c.fl.tp)).take 33 = Qj (Qgr c.bits c.fl.tp) := Qo (by omega)
 have o1 := QP (Qgr c.bits c.fl.tp)
 have en : (Qj (Qgr c.bits c.fl.tp)).drop 0 = .int .i64 (QaG c.bits) :: (ks .i32 c.fl.tp ++ ks .i32 z16) := rfl
 have dn : (Qj (Qgr c.bits c.fl.tp)).drop 33 = [] := List.drop_eq_nil_of_le (by omega)
 refine VC.of_acall (by simp [isDL, isD, Qbj]) rfl (ACall.of_body b (by simp) ?_)
 simp (disch := omega) only [rq, simprocAttr, Qb7, lc, oc, ↓e0, et]
 refine Qb.vc (hT c.bits c.fl.tp h3.1) ?_
 simp (disch := omega) only [rq, simprocAttr, Qd3, if_neg h1, l1, t1', o1, ↓en, ↓e2, h2, dn]
def Qrc (c : J8) (x : Int) : Int := w32 (x - Xo c.bits c.last)
def Qiw (c : J8) (x : Int) : Int := Qpp c.fl (Qrc c x)
def JP (c : J8) (x : Int) : J8 := ⟨c.bits, x, QuF c.fl (Qrc c x)⟩
theorem QlB {c : J8} (h : QxT c) {x : Int} (hx : -2147483648 ≤ x ∧ x ≤ 2147483647) : QxT (JP c x) := ⟨h.1, h.2.1, QfJ h.2.2.1 (Jw _) _, hx⟩
def QgW (P : Prg) (f : Nat) : Prop := ∀ (c : J8) (x : Int), QxT c → -2147483648 ≤ x ∧ x ≤ 2147483647 → VC P f [.agg (QY c), .int .i32 x] (.tup [.int .i32 (Qiw c x), .agg (QY (JP c x)), .int .i64 0])
theorem Ql4 {P : Prg} {f fC fG fF t0 t1 : Nat} (b : Qf P f 44 [.tmp 4, .cell 5 t0, .tmp 6] (QaR fC fG fF t0 t1)) (ht : Q6 P t0 = some (some 35)) (hC : Qm0 P fC) (hG : QmV P fG) (hF : QgT P fF) : QgW P f := by
 intro c x hc hx
 obtain ⟨h1, h2, h3, h4⟩ := id hc
 have hs : c.fl.sh = 9 ∨ c.fl.sh = 10 := by rw [h2]; exact Qr4 _
 have lc := Zr h3
 have tc : (QY c).take 35 = QY c := Qo (by omega)
 have oc := ZI c
 have e0 : (QY c).drop 0 = .int .i64 c.bits :: .int .i32 c.last :: Qj c.fl := rfl
 have e1 : (QY c).drop 1 = .int .i32 c.last :: Qj c.fl := rfl
 have e2 := Qw0 h3
 have hzr := Jw (x - Xo c.bits c.last)
 have hok := QlB hc hx
 have l1 := QK hok.2.2.1
 have t1' : (Qj (JP c x).fl).take 33 = Qj (JP c x).fl := Qo (by omega)
 have o1 := QP (JP c x).fl
 have d1 : (Qj (JP c x).fl).drop 33 = [] := List.drop_eq_nil_of_le (by omega)
 have l2 := Zr hok.2.2.1
 have t2 : (QY (JP c x)).take 35 = QY (JP c x) := Qo (by omega)
 have o2 := ZI (JP c x)
 have mk : AV.int .i64 c.bits :: .int .i32 x :: Qj (JP c x).fl = QY (JP c x) := rfl
 have hfe : QuF c.fl (w32 (x - Xo c.bits c.last)) = (JP c x).fl := rfl
 have hye : Qpp c.fl (w32 (x - Xo c.bits c.last)) = Qiw c x := rfl
 refine VC.of_acall (by simp [isDL, isD, Qbj]) (by simp [isD, isDL, Qbj]) (ACall.of_body b (by simp) ?_)
 simp (disch := omega) only [rq, simprocAttr, QaR, lc, tc, oc]
 refine Qb.vc (hC c hc) ?_
 simp (disch := omega) only [rq, simprocAttr, lc, tc, oc, ↓e0, ↓e1]
 refine Qb.vc (hG c.bits c.last h1 h4) ?_
 simp (disch := omega) only [rq, simprocAttr, lc, tc, oc, e2, Qba]
 refine Qb.vc (hF c.fl _ h3 hs hzr) ?_
 rw [hfe, hye]
 simp (disch := omega) only [rq, simprocAttr, lc, tc, oc, ↓e0, l1, t1', o1, d1, l2, t2, o2, mk, QD, ht, QbA]
def QiN (P : Prg) (f : Nat) : Prop := ∀ x : Int, VC P f [.int .i64 x] (.int .i32 (w32 x))
theorem QtH {P : Prg} {f : Nat} (b : Qf P f 7 [.tmp 2] Jf) : QiN P f := by
 intro x
 have e : IntKind.i32.wrap (IntKind.u32.wrap (IntKind.u64.wrap x)) = w32 x := by
  rw [ZQ, Qat, Qba, Qnb, Qnb]; omega
 refine VC.of_acall rfl rfl (ACall.of_body b (by simp) ?_)
 simp (disch := omega) only [rq, simprocAttr, Jf, e]
theorem Qdf {x : Int} (h : x < 0) (n : Int) : x.tdiv n = -(-x / n) ∧ x.tmod n = -(-x % n) := by
 have e : x = -(-x) := by omega
 constructor
 ·rw [e, Int.neg_tdiv, Int.tdiv_eq_ediv_of_nonneg (by omega)]; simp
 ·rw [e, Int.neg_tmod, Int.tmod_eq_emod_of_nonneg (by omega)]; simp
def Qm1 (P : Prg) (f : Nat) : Prop := ∀ (b l : Int), -2147483648 ≤ l ∧ l ≤ 2147483647 → VC P f [.int .i64 (if b = 8 then 4 else 5), .int .i32 l] (.int .i32 (Xo b l))
theorem Qoe {P : Prg} {f : Nat} (b : Qf P f 26 [.tmp 4] QB) : Qm1 P f := by
 intro x l hl
 have hr := Qgx x hl
 refine VC.of_acall rfl rfl (ACall.of_body b (by simp) ?_)
 by_cases hn : l < 0
 ·have e1 := Qdf (x := 15 * l) (by omega) 16
  have e2 := Qdf (x := 31 * l) (by omega) 32
  by_cases h : x = 8
  ·by_cases hm : -(15 * l) % 16 = 0
   ·have e3 : -(-(15 * l) / 16) = Xo x l := by unfold Xo; rw [if_pos h]; omega
    rw [← e3] at hr
    simp (disch := omega) only [rq, simprocAttr, QB, h, e1.1, e1.2, hm]
    rw [h] at e3; rw [e3]
   ·have e3 : -(-(15 * l) / 16) - 1 = Xo x l := by unfold Xo; rw [if_pos h]; omega
    rw [← e3] at hr
    simp (disch := omega) only [rq, simprocAttr, QB, h, e1.1, e1.2, hm]
    rw [h] at e3; rw [e3]
  ·by_cases hm : -(31 * l) % 32 = 0
   ·have e3 : -(-(31 * l) / 32) = Xo x l := by unfold Xo; rw [if_neg h]; omega
    rw [← e3] at hr
    simp (disch := omega) only [rq, simprocAttr, QB, if_neg h, e2.1, e2.2, hm, e3]
   ·have e3 : -(-(31 * l) / 32) - 1 = Xo x l := by unfold Xo; rw [if_neg h]; omega
    rw [← e3] at hr
    simp (disch := omega) only [rq, simprocAttr, QB, if_neg h, e2.1, e2.2, hm, e3]
 ·by_cases h : x = 8
  ·simp (disch := omega) only [rq, simprocAttr, QB, h, Xo]
  ·simp (disch := omega) only [rq, simprocAttr, QB, if_neg h, Xo]
def QiT (P : Prg) (f : Nat) : Prop := ∀ x : Int, VC P f [.int .i64 x] (if Jk x = 0 then .tup [.int .i64 0, .int .i64 2] else .tup [.int .i64 (if x = 8 then 4 else 5), .int .i64 0])
theorem Qqv {P : Prg} {f : Nat} (b : Qf P f 12 [.tmp 2, .tmp 3] XV) : QiT P f := by
 intro x
 refine VC.of_acall rfl (by split <;> rfl) (ACall.of_body b (by simp) ?_)
 rcases Zb x with ⟨rfl, h⟩ | ⟨rfl, h⟩ | ⟨rfl, h⟩ | ⟨h2, h3, h4, h⟩ <;> simp (disch := omega) only [rq, simprocAttr, XV, h]
def Qi0 (P : Prg) (f : Nat) : Prop := QmD P f
theorem QtF {P : Prg} {f : Nat} (b : Qf P f 7 [.tmp 2] Zg) : Qi0 P f := by
 intro i
 refine VC.of_acall rfl rfl (ACall.of_body b (by simp) ?_)
 by_cases h0 : i = 0
 ·subst h0; simp (disch := omega) only [rq, simprocAttr, Zg, QcY, Int.natCast_zero]
 by_cases h1 : i < 4
 ·simp (disch := omega) only [rq, simprocAttr, Zg, QcY, h0]
 ·simp (disch := omega) only [rq, simprocAttr, Zg, QcY, h0]
def Qxw (P : Prg) (f : Nat) : Prop := ∀ x : Int, VC P f [.int .i32 x] (.int .i32 (sgn x))
theorem QtG {P : Prg} {f : Nat} (b : Qf P f 7 [.tmp 2] Zh) : Qxw P f := by
 intro x
 refine VC.of_acall rfl rfl (ACall.of_body b (by simp) ?_)
 by_cases h0 : x < 0
 ·simp (disch := omega) only [rq, simprocAttr, Zh, sgn]
 by_cases h1 : 0 < x
 ·simp (disch := omega) only [rq, simprocAttr, Zh, sgn]
 ·simp (disch := omega) only [rq, simprocAttr, Zh, sgn]
def Qxx (P : Prg) (f : Nat) : Prop := ∀ x : JG, Qbx x → VC P f [.agg (Qj x)] (.int .i32 (w32 (QhD x.tp x.ps 16)))
theorem QAa {a b : Int} (ha : -2147483648 ≤ a ∧ a ≤ 2147483647) (hb : -2147483648 ≤ b ∧ b ≤ 2147483647) : -4611686018427387904 ≤ a * b ∧ a * b ≤ 4611686018427387904 := by
 have h : (a * b).natAbs ≤ 2147483648 * 2147483648 := by rw [Int.natAbs_mul]; exact Nat.mul_le_mul (by omega) (by omega)
 omega
theorem QvG {P : Prg} {f fW t0 : Nat} (b : Qf P f 28 [.tmp 2] (JD fW t0)) (hW : QiN P fW) : Qxx P f := by
 intro x hx
 have l33 := QK hx
 have tk : (Qj x).take 33 = Qj x := Qo (by omega)
 have ho := QP x
 refine VC.of_acall (by simp [isDL, isD, QX]) rfl (ACall.of_body b (by simp) ?_)
 simp (disch := omega) only [rq, simprocAttr, JD, l33, tk, ho]
 have z : w32 (QhD x.tp x.ps 0) = 0 := rfl
 refine Qx.by (ι := Nat) (fun k => ⟨[(4, .int .i64 k), (3, .int .i64 (w32 (QhD x.tp x.ps k))), (1, .ref 0 1 0)], [⟨t0, 33, 1, Qj x, 0⟩]⟩) (fun k => k ≤ 16) (fun k => 16 - k) 0 (Le.slots (by rw [z]; simp [Am.look])) (by omega) ?_
 intro k hk
 have hr := Jw (QhD x.tp x.ps k)
 by_cases hlt : k < 16
 ·have e1 := QlM hx hlt
  have e2 := QfR hx hlt
  have h1 := Zq hx.2.2.1 k
  have h2 := Zq hx.2.2.2 k
  have h3 := QAa h1 h2
  have h4 := Jw (x.tp.getD k 0 * x.ps.getD k 0)
  have h5 := Jw (QhD x.tp x.ps (k + 1))
  have e4 : w32 (w32 (QhD x.tp x.ps k) + w32 (x.tp.getD k 0 * x.ps.getD k 0)) = w32 (QhD x.tp x.ps (k + 1)) := by rw [QuP]; rfl
  simp (disch := omega) only [rq, simprocAttr, l33, e1, e2]
  refine QU.vc (hW _) ?_
  simp (disch := omega) only [rq, simprocAttr]
  refine QU.vc (hW _) ?_
  rw [e4]
  simp (disch := omega) only [rq, simprocAttr]
  exact ⟨k + 1, by omega, by omega, Le.slots (by simp [Am.look])⟩
 ·have e : k = 16 := by omega
  subst e
  simp (disch := omega) only [rq, simprocAttr]
def QrG (P : Prg) (f : Nat) : Prop := ∀ x : JG, Qbx x → x.sh = 9 ∨ x.sh = 10 → VC P f [.agg (Qj x)] (.int .i32 (QeD x))
theorem QtE {P : Prg} {f fS fW t0 : Nat} (b : Qf P f 28 [.tmp 2] (ZL fS fW t0)) (hS : Qxx P fS) (hW : QiN P fW) : QrG P f := by
 intro x hx hs
 have l33 := QK hx
 have tk : (Qj x).take 33 = Qj x := Qo (by omega)
 have ho := QP x
 have e0 : (Qj x).drop 0 = .int .i64 x.sh :: (ks .i32 x.tp ++ ks .i32 x.ps) := rfl
 have hg := QoB x hs
 have q1 := hx.1
 have q2 := hx.2.1
 have tk32 : (ks .i32 (x.tp ++ x.ps)).take 32 = ks .i32 (x.tp ++ x.ps) := Qo (by simp [Qg]; omega)
 have hr := Jw (QhD x.tp x.ps 16)
 have hr2 := Jw (QbS x.sh / 2 + QhD x.tp x.ps 16)
 refine VC.of_acall (by simp [isDL, isD, QX]) rfl (ACall.of_body b (by simp) ?_)
 rcases hs with h | h
 ·have hp : QbS x.sh = 512 := by simp [QbS, h]
  have back : AV.int .i64 9 :: ks .i32 (x.tp ++ x.ps) = Qj x := by simp only [Qj, h, QfP]
  simp only [QeD, hp] at hg hr2 ⊢
  have e4 : w32 (w32 (QhD x.tp x.ps 16) + 256) = w32 (512 / 2 + QhD x.tp x.ps 16) := by rw [QrT]; congr 1; omega
  generalize hG : w32 (512 / 2 + QhD x.tp x.ps 16) = G at *
  simp (disch := omega) only [rq, simprocAttr, ZL, l33, tk, ho, ↓e0, h, tk32]
  simp only [back]
  refine Qb.vc (hS x hx) ?_
  simp (disch := omega) only [rq, simprocAttr]
  refine Qb.vc (hW _) ?_
  rw [e4]
  by_cases hn : G < 0
  ·have e5 := Qdf hn 512
   by_cases hm : -G % 512 = 0
   ·have e6 : -(-G / 512) = G / 512 := by omega
    simp (disch := omega) only [rq, simprocAttr, e5.1, e5.2, hm, e6]
   ·have e6 : -(-G / 512) - 1 = G / 512 := by omega
    simp (disch := omega) only [rq, simprocAttr, e5.1, e5.2, hm, e6]
  ·simp (disch := omega) only [rq, simprocAttr]
 ·have hp : QbS x.sh = 1024 := by simp [QbS, h]
  have back : AV.int .i64 10 :: ks .i32 (x.tp ++ x.ps) = Qj x := by simp only [Qj, h, QfP]
  simp only [QeD, hp] at hg hr2 ⊢
  have e4 : w32 (w32 (QhD x.tp x.ps 16) + 512) = w32 (1024 / 2 + QhD x.tp x.ps 16) := by rw [QrT]; congr 1; omega
  generalize hG : w32 (1024 / 2 + QhD x.tp x.ps 16) = G at *
  simp (disch := omega) only [rq, simprocAttr, ZL, l33, tk, ho, ↓e0, h, tk32]
  simp only [back]
  refine Qb.vc (hS x hx) ?_
  simp (disch := omega) only [rq, simprocAttr]
  refine Qb.vc (hW _) ?_
  rw [e4]
  by_cases hn : G < 0
  ·have e5 := Qdf hn 1024
   by_cases hm : -G % 1024 = 0
   ·have e6 : -(-G / 1024) = G / 1024 := by omega
    simp (disch := omega) only [rq, simprocAttr, e5.1, e5.2, hm, e6]
   ·have e6 : -(-G / 1024) - 1 = G / 1024 := by omega
    simp (disch := omega) only [rq, simprocAttr, e5.1, e5.2, hm, e6]
  ·simp (disch := omega) only [rq, simprocAttr]
theorem Qn0 (x : Int) : sgn x = -1 ∨ sgn x = 0 ∨ sgn x = 1 := by unfold sgn; split <;> (try split) <;> omega
theorem Qtf (i : Nat) : QcY i = 1 ∨ QcY i = 2 ∨ QcY i = 4 := by unfold QcY; split <;> (try split) <;> omega
theorem Qx9 (i : Nat) (a b : Int) : (-4 ≤ QcY i * sgn a ∧ QcY i * sgn a ≤ 4) ∧ (-4 ≤ QcY i * sgn a * sgn b ∧ QcY i * sgn a * sgn b ≤ 4) := by
 rcases Qtf i with h | h | h <;> rcases Qn0 a with g | g | g <;> rcases Qn0 b with k | k | k <;> rw [h, g, k] <;> decide
def QgR (P : Prg) (f : Nat) : Prop := ∀ (x : JG) (w : Int), Qbx x → VC P f [.agg (Qj x), .int .i32 w] (.agg (Qj (JM x w)))
theorem Qlw {P : Prg} {f fS fG t0 : Nat} (b : Qf P f 29 [.cell 4 t0] (Z1 fS fG t0)) (ht : Q6 P t0 = some (some 33)) (hS : Qi0 P fS) (hG : Qxw P fG) : QgR P f := by
 intro x w hx
 have l33 := QK hx
 have tk : (Qj x).take 33 = Qj x := Qo (by omega)
 have ho := QP x
 have lw := QK (QdJ hx w)
 have tkw : (Qj (JM x w)).take 33 = Qj (JM x w) := Qo (by omega)
 have how := QP (JM x w)
 refine VC.of_acall (by simp [isDL, isD, QX]) (by simp [isD, QX]) (ACall.of_body b (by simp) ?_)
 simp (disch := omega) only [rq, simprocAttr, Z1, l33, tk, ho]
 refine Qx.by (ι := Nat) (fun k => ⟨[(5, .int .i64 k), (4, .ref 1 1 0), (2, .ref 0 1 0), (1, .int .i32 w)], [⟨t0, 33, 1, Qj (lf x w k), 0⟩, ⟨t0, 33, 1, Qj Qjl, 0⟩]⟩) (fun k => k ≤ 16) (fun k => 16 - k) 0 (by rw [show lf x w 0 = x by simp [lf, Qgt hx]]; exact Le.slots (by simp [Am.look])) (by omega) ?_
 intro k hk
 by_cases hlt : k < 16
 ·have hok := Qh7 hx w k
  have e2 := QlM hok hlt
  have e2p := QfR hok hlt
  have e3 := fun v => Qil hok hlt v
  have e4 := Qkh x w hlt
  have e5 := QK hok
  have hu := Qou x w hlt
  have ef : ∀ v, ({ lf x w k with tp := (lf x w k).tp.set k v } : JG) = { x with tp := (JU x w k).set k v } := fun _ => rfl
  have e7 : (lf x w k).tp.getD k 0 = x.tp.getD k 0 := e4
  have e8 : (lf x w k).ps.getD k 0 = x.ps.getD k 0 := rfl
  have hr := Qx9 k (x.ps.getD k 0) w
  simp only [QxQ] at hu
  simp (disch := omega) only [rq, simprocAttr, e2, e7]
  refine QU.vc (hS k) ?_
  simp (disch := omega) only [rq, simprocAttr, e2p, e8, e5]
  refine QU.vc (hG _) ?_
  simp (disch := omega) only [rq, simprocAttr]
  refine QU.vc (hG _) ?_
  simp (disch := omega) only [rq, simprocAttr, e3, e5, Qba, ef, hu]
  exact ⟨k + 1, by omega, by omega, Le.slots (by simp [Am.look])⟩
 ·have e : k = 16 := by omega
  subst e
  have hF : lf x w 16 = JM x w := rfl
  rw [hF]
  simp (disch := omega) only [rq, simprocAttr, lw, tkw, how, QD, ht, JQ]
def QeL (x : JG) (k : Nat) : List Int := (List.range 16).map fun j => if k < j then x.ps.getD (j - 1) 0 else x.ps.getD j 0
def pf (x : JG) (k : Nat) : JG := { x with ps := QeL x k }
theorem Qz6 {x : JG} (h : Qbx x) : pf x 15 = x := by
 have := Qka h.2.1
 have e : QeL x 15 = x.ps := by
  refine Eq.trans ?_ this
  simp only [QeL]
  apply List.map_congr_left
  intro j hj
  rw [if_neg (by simp at hj; omega)]
 simp [pf, e]
theorem QBa {x : JG} (h : Qbx x) (v : Int) : (QeL x 0).set 0 v = v :: x.ps.take 15 := by
 apply List.ext_getElem (by simp [QeL, h.2.1])
 intro i h1 h2
 rw [List.getElem_set]
 simp only [QeL, List.getElem_map, List.getElem_range]
 cases i with
 | zero => simp
 | succ i =>
  have hi : i < x.ps.length := by simp [QeL] at h1; have := h.2.1; omega
  simp [List.getD_eq_getElem?_getD, List.getElem?_eq_getElem hi]
theorem QvS (x : JG) {k : Nat} (h0 : 0 < k) (hk : k < 16) : (QeL x k).set k (x.ps.getD (k - 1) 0) = QeL x (k - 1) := by
 apply List.ext_getElem (by simp [QeL])
 intro i h1 h2
 rw [List.getElem_set]
 simp only [QeL, List.getElem_map, List.getElem_range]
 by_cases e : k = i
 ·subst e; rw [if_pos rfl, if_pos (by omega)]
 ·rw [if_neg e]
  by_cases h : k < i
  ·rw [if_pos h, if_pos (by omega)]
  ·rw [if_neg h, if_neg (by omega)]
theorem QB4 {x : JG} (h : Qbx x) (k : Nat) : Qbx (pf x k) := by
 refine ⟨h.1, by simp [pf, QeL], h.2.2.1, fun v hv => ?_⟩
 simp only [pf, QeL, List.mem_map] at hv
 obtain ⟨i, _, rfl⟩ := hv
 split
 ·exact Zq h.2.2.2 _
 ·exact Zq h.2.2.2 _
theorem Qz7 (x : JG) {k j : Nat} (hj : j < 16) (h : j ≤ k) : (pf x k).ps.getD j 0 = x.ps.getD j 0 := by
 simp only [pf, QeL]
 rw [List.getD_eq_getElem?_getD]
 simp [hj]
 omega
def QiY (P : Prg) (f : Nat) : Prop := ∀ (x : JG) (v : Int), Qbx x → -2147483648 ≤ v ∧ v ≤ 2147483647 → VC P f [.agg (Qj x), .int .i32 v] (.agg (Qj (Qd6 x v)))
theorem Qod {P : Prg} {f t0 : Nat} (b : Qf P f 22 [.cell 4 t0] (Xi t0)) (ht : Q6 P t0 = some (some 33)) : QiY P f := by
 intro x v hx hv
 have l33 := QK hx
 have ho := QP x
 have lw := QK (Qqz hx hv)
 have tkw : (Qj (Qd6 x v)).take 33 = Qj (Qd6 x v) := Qo (by omega)
 have how := QP (Qd6 x v)
 refine VC.of_acall (by simp [isDL, isD, QX]) (by simp [isD, QX]) (ACall.of_body b (by simp) ?_)
 simp (disch := omega) only [rq, simprocAttr, Xi, l33, ho]
 refine Qx.by (ι := Nat) (fun k => ⟨[(5, .int .i64 k), (4, .ref 1 1 0), (2, .ref 0 1 0), (1, .int .i32 v)], [⟨t0, 33, 1, Qj (pf x k), 0⟩, ⟨t0, 33, 1, Qj Qjl, 0⟩]⟩) (fun k => k ≤ 15) (fun k => k) 15 (by rw [Qz6 hx]; exact Le.slots (by simp [Am.look])) (by omega) ?_
 intro k hk
 have hok := QB4 hx k
 have e5 := QK hok
 by_cases h0 : 0 < k
 ·have e2 := QfR hok (k := k - 1) (by omega)
  have e3 := fun v => Qdk hok (k := k) (by omega) v
  have e7 := Qz7 x (k := k) (j := k - 1) (by omega) (by omega)
  have hu := QvS x h0 (by omega)
  have ef : ∀ v, ({ pf x k with ps := (pf x k).ps.set k v } : JG) = { x with ps := (QeL x k).set k v } := fun _ => rfl
  simp (disch := omega) only [rq, simprocAttr, e2, e7, e3, e5, ef, hu]
  exact ⟨k - 1, by omega, by omega, by rw [show ((k - 1 : Nat) : Int) = (k : Int) - 1 by omega]; exact Le.slots (by simp [Am.look])⟩
 ·have e : k = 0 := by omega
  subst e
  have e3 : (Qj (pf x 0)).take 17 ++ [.int .i32 v] ++ (Qj (pf x 0)).drop 18 = Qj (Qd6 x v) := by
   have := Qdk hok (k := 0) (by omega) v
   simp only [Nat.add_zero, pf, QBa hx] at this
   exact this
  simp (disch := omega) only [rq, simprocAttr, Int.natCast_zero, e3, e5, lw, tkw, how, QD, ht, JQ]
def QiX (P : Prg) (f : Nat) : Prop := ∀ (x : JG) (v : Int), Qbx x → x.sh = 9 ∨ x.sh = 10 → -2147483648 ≤ v ∧ v ≤ 2147483647 → VC P f [.agg (Qj x), .int .i32 v] (.tup [.int .i32 (Qpp x v), .agg (Qj (QuF x v))])
theorem QtD {P : Prg} {f fT fW fL fP t0 : Nat} (b : Qf P f 20 [.tmp 4, .cell 5 t0] (Je fT fW fL fP t0)) (ht : Q6 P t0 = some (some 33)) (hT : QrG P fT) (hW : QiN P fW) (hL : QgR P fL) (hP : QiY P fP) : QiX P f := by
 intro x v hx hs hv
 have l1 := QK hx
 have t1 : (Qj x).take 33 = Qj x := Qo (by omega)
 have o1 := QP x
 have l3 := QK (QfJ hx hv (Qpp x v))
 have t3 : (Qj (QuF x v)).take 33 = Qj (QuF x v) := Qo (by unfold QuF; omega)
 have o3 := QP (QuF x v)
 have hg := QoB x hs
 have hw : w32 (v - QeD x) = Qpp x v := rfl
 have hf : Qd6 (JM x (Qpp x v)) v = QuF x v := rfl
 rw [← QuF] at l3
 refine VC.of_acall (by simp [isDL, isD, QX]) (by simp [isD, isDL, QX]) (ACall.of_body b (by simp) ?_)
 simp (disch := omega) only [rq, simprocAttr, Je, l1, t1, o1]
 refine Qb.vc (hT x hx hs) ?_
 simp (disch := omega) only [rq, simprocAttr]
 refine Qb.vc (hW _) ?_
 rw [hw]
 simp (disch := omega) only [rq, simprocAttr, l1, t1, o1]
 refine Qb.vc (hL x _ hx) ?_
 simp (disch := omega) only [rq, simprocAttr]
 refine Qb.vc (hP _ v (QdJ hx _) hv) ?_
 rw [hf]
 simp (disch := omega) only [rq, simprocAttr, l3, t3, o3, QD, ht, JQ]
def Qfm (P : Prg) (f : Nat) : Prop := ∀ c : J8, QxT c → VC P f [.agg (QY c)] (.int .i64 (Xo c.bits c.last))
theorem Qoc {P : Prg} {f fB t0 : Nat} (b : Qf P f 12 [.tmp 2] (Zt fB t0)) (hB : Qm1 P fB) : Qfm P f := by
 intro c ⟨h1, h2, h3, h4⟩
 have lc := Zr h3
 have oc := ZI c
 have e0 : (QY c).drop 0 = .int .i64 c.bits :: .int .i32 c.last :: Qj c.fl := rfl
 have e1 : (QY c).drop 1 = .int .i32 c.last :: Qj c.fl := rfl
 have hr := Qgx c.bits h4
 have hb := hB c.bits c.last h4
 refine VC.of_acall (by simp [isDL, isD, Qbj]) rfl (ACall.of_body b (by simp) ?_)
 by_cases h8 : c.bits = 8
 ·rw [if_pos h8] at hb
  simp (disch := omega) only [rq, simprocAttr, Zt, lc, oc, ↓e0, ↓e1]
  refine Qb.vc hb ?_
  simp (disch := omega) only [rq, simprocAttr]
 ·rw [if_neg h8] at hb
  simp (disch := omega) only [rq, simprocAttr, Zt, lc, oc, ↓e0, ↓e1, h8]
  refine Qb.vc hb ?_
  simp (disch := omega) only [rq, simprocAttr]
def QiW (P : Prg) (f : Nat) : Prop := ∀ (c : J8) (x : Int), QxT c → -2147483648 ≤ x ∧ x ≤ 2147483647 → VC P f [.agg (QY c), .int .i32 x] (.tup [.int .i32 (Qiw c x), .agg (QY (JP c x))])
theorem QtA {P : Prg} {f fB fW fS t0 t1 : Nat} (b : Qf P f 28 [.tmp 4, .cell 5 t0] (Jb fB fW fS t0 t1)) (ht : Q6 P t0 = some (some 35)) (hB : Qfm P fB) (hW : QiN P fW) (hS : QiX P fS) : QiW P f := by
 intro c x hc hx
 obtain ⟨h1, h2, h3, h4⟩ := id hc
 have hs : c.fl.sh = 9 ∨ c.fl.sh = 10 := by rw [h2]; exact Qr4 _
 have lc := Zr h3
 have tc : (QY c).take 35 = QY c := Qo (by omega)
 have oc := ZI c
 have e0 : (QY c).drop 0 = .int .i64 c.bits :: .int .i32 c.last :: Qj c.fl := rfl
 have e2 := Qw0 h3
 have hr := Qgx c.bits h4
 have hok := QlB hc hx
 have l1 := QK hok.2.2.1
 have t1' : (Qj (JP c x).fl).take 33 = Qj (JP c x).fl := Qo (by omega)
 have o1 := QP (JP c x).fl
 have d1 : (Qj (JP c x).fl).drop 33 = [] := List.drop_eq_nil_of_le (by omega)
 have l2 := Zr hok.2.2.1
 have t2 : (QY (JP c x)).take 35 = QY (JP c x) := Qo (by omega)
 have o2 := ZI (JP c x)
 have mk : AV.int .i64 c.bits :: .int .i32 x :: Qj (JP c x).fl = QY (JP c x) := rfl
 have hz : w32 (x - Xo c.bits c.last) = Qrc c x := rfl
 have hzr : -2147483648 ≤ Qrc c x ∧ Qrc c x ≤ 2147483647 := Jw _
 have hfe : QuF c.fl (Qrc c x) = (JP c x).fl := rfl
 have hye : Qpp c.fl (Qrc c x) = Qiw c x := rfl
 refine VC.of_acall (by simp [isDL, isD, Qbj]) (by simp [isD, isDL, Qbj]) (ACall.of_body b (by simp) ?_)
 simp (disch := omega) only [rq, simprocAttr, Jb, lc, tc, oc]
 refine Qb.vc (hB c hc) ?_
 simp (disch := omega) only [rq, simprocAttr]
 refine Qb.vc (hW _) ?_
 rw [hz]
 simp (disch := omega) only [rq, simprocAttr, lc, tc, oc, e2]
 refine Qb.vc (hS c.fl _ h3 hs hzr) ?_
 rw [hfe, hye]
 simp (disch := omega) only [rq, simprocAttr, lc, tc, oc, ↓e0, l1, t1', o1, d1, l2, t2, o2, mk, QD, ht, QbA]
theorem QvH {P : Prg} {f fS t0 t1 : Nat} (b : Qf P f 22 [.cell 4 t1, .tmp 5] (JE fS t0 t1)) (ht : Q6 P t1 = some (some 33)) (hS : QiT P fS) : QiO P f := by
 intro x t hl
 have hk : (ks .i32 t).length = 16 := by simp [Qg, hl]
 have h1 := X6 .i32 t
 have tk16 : (ks .i32 t).take 16 = ks .i32 t := Qo (by omega)
 have hs := hS x
 have fin : ∀ s : Int, .int .i64 s :: (ks .i32 t ++ [.int .i32 0, .int .i32 0, .int .i32 0, .int .i32 0, .int .i32 0, .int .i32 0, .int .i32 0, .int .i32 0, .int .i32 0, .int .i32 0, .int .i32 0, .int .i32 0, .int .i32 0, .int .i32 0, .int .i32 0, .int .i32 0]) = Qj ⟨s, t, z16⟩ := fun _ => rfl
 have hl33 : ∀ s : Int, (Qj ⟨s, t, z16⟩).length = 33 := fun s => by simp [Qj, Qg, hl, z16]
 have ho := fun s => QP ⟨s, t, z16⟩
 have tk : ∀ s : Int, (Qj ⟨s, t, z16⟩).take 33 = Qj ⟨s, t, z16⟩ := fun s => Qo (by rw [hl33]; omega)
 refine VC.of_acall (by simp [isDL, isD, QW]) (Qsx _ _) (ACall.of_body b (by simp) ?_)
 simp (disch := omega) only [rq, simprocAttr, JE, hk, h1, tk16]
 refine Qb.vc hs ?_
 rcases Zb x with ⟨rfl, h⟩ | ⟨rfl, h⟩ | ⟨rfl, h⟩ | ⟨h2, h3, h4, h⟩
 ·simp (disch := omega) only [rq, simprocAttr, Qd3, h, hk, h1, tk16, fin, hl33, ho, tk, QD, ht, Qgr, QaG]
 ·simp (disch := omega) only [rq, simprocAttr, Qd3, h, hk, h1, tk16, fin, hl33, ho, tk, QD, ht, Qgr, QaG]
 ·simp (disch := omega) only [rq, simprocAttr, Qd3, h, hk, h1, tk16, fin, hl33, ho, tk, QD, ht, Qgr, QaG]
 ·simp (disch := omega) only [rq, simprocAttr, Qd3, h, hk, h1, tk16, fin, hl33, ho, tk, QD, ht, JQ]
theorem QvE {P : Prg} {f fT t0 t1 t2 : Nat} (b : Qf P f 20 [.cell 4 t1, .tmp 5] (JB fT t0 t1 t2)) (ht : Q6 P t1 = some (some 35)) (hT : QiO P fT) : QkE P f := by
 intro x t hl hI
 have hk : (ks .i32 t).length = 16 := by simp [Qg, hl]
 have h1 := X6 .i32 t
 have tk16 : (ks .i32 t).take 16 = ks .i32 t := Qo (by omega)
 have hok : Qbx (Qgr x t) := Qsi hl hI
 have l1 := QK hok
 have t1' : (Qj (Qgr x t)).take 33 = Qj (Qgr x t) := Qo (by omega)
 have o1 := QP (Qgr x t)
 have lc := Zr (c := Qam x t) hok
 have tc : (QY (Qam x t)).take 35 = QY (Qam x t) := Qo (by omega)
 have oc := ZI (Qam x t)
 have mk : AV.int .i64 x :: .int .i32 0 :: Qj (Qgr x t) = QY (Qam x t) := rfl
 refine VC.of_acall (by simp [isDL, isD, QW]) (QsE _ _) (ACall.of_body b (by simp) ?_)
 simp (disch := omega) only [rq, simprocAttr, JB, hk, h1, tk16]
 refine Qb.vc (hT x t hl) ?_
 by_cases h0 : Jk x = 0
 ·simp (disch := omega) only [rq, simprocAttr, Qd3, h0, Ql1, JQ, QbA, QD, ht]
 ·simp (disch := omega) only [rq, simprocAttr, Qd3, if_neg h0, Ql1, l1, t1', o1, lc, tc, oc, mk, QbA, QD, ht]
def Qik (x : Int) : Int := if x < 0 then -2 * x - 1 else 2 * x
def QkC (P : Prg) (f : Nat) : Prop := ∀ x : Int, -2147483648 ≤ x ∧ x ≤ 2147483647 → VC P f [.int .i32 x] (.int .u32 (Qik x))
theorem Qwu {x : Int} (h : -2147483648 ≤ x ∧ x ≤ 2147483647) : 0 ≤ Qik x ∧ Qik x < 4294967296 := by unfold Qik; split <;> omega
theorem QxX {a : Nat} (h : a < 4294967296) : (BitVec.ofInt 32 (a : Int) ^^^ BitVec.ofInt 32 4294967295).toNat = 4294967295 - a := by
 have e : BitVec.ofInt 32 4294967295 = BitVec.allOnes 32 := by decide
 rw [e, BitVec.xor_allOnes, BitVec.toNat_not]
 have : (BitVec.ofInt 32 (a : Int)).toNat = a := by simp; omega
 rw [this]
theorem QuI {a : Nat} (h : a < 4294967296) : (BitVec.ofInt 32 (a : Int) ^^^ BitVec.ofInt 32 0).toNat = a := by
 have : (BitVec.ofInt 32 (a : Int)).toNat = a := by simp; omega
 rw [BitVec.toNat_xor, this]
 simp
theorem Qwt {P : Prg} {f : Nat} (b : Qf P f 10 [.tmp 2] QbJ) : QkC P f := by
 intro x hx
 refine VC.of_acall rfl rfl (ACall.of_body b (by simp) ?_)
 by_cases h : x < 0
 ·have a1 : IntKind.u32.wrap x = x + 4294967296 := by rw [Qat]; omega
  have a2 : Qn true .u32 (x + 4294967296) 1 = some (.int .u32 (2 * x + 4294967296)) := by
   show some (AV.int .u32 (IntKind.u32.wrap ((x + 4294967296) * 2))) = _
   rw [Qat]; congr 2; omega
  have a3 : Qn false .i32 x 31 = some (.int .i32 (-1)) := by
   show some (AV.int .i32 (x.fdiv 2147483648)) = _
   rw [Int.fdiv_eq_ediv_of_nonneg _ (by omega)]; congr 2; omega
  have a4 : IntKind.u32.wrap (-1) = 4294967295 := rfl
  have a5 : (BitVec.ofInt IntKind.u32.bits (2 * x + 4294967296) ^^^ BitVec.ofInt IntKind.u32.bits 4294967295).toNat = (-2 * x - 1).toNat := by
   show (BitVec.ofInt 32 (2 * x + 4294967296) ^^^ BitVec.ofInt 32 4294967295).toNat = (-2 * x - 1).toNat
   have := QxX (a := (2 * x + 4294967296).toNat) (by omega)
   rw [show (((2 * x + 4294967296).toNat : Nat) : Int) = 2 * x + 4294967296 by omega] at this
   rw [this]; omega
  have a6 : (((BitVec.ofInt IntKind.u32.bits (2 * x + 4294967296) ^^^ BitVec.ofInt IntKind.u32.bits 4294967295).toNat : Nat) : Int) = -2 * x - 1 := by rw [a5]; omega
  simp (disch := omega) only [rq, simprocAttr, QbJ, a1, a2, a3, a4, a6, Qik]
 ·have a2 : Qn true .u32 x 1 = some (.int .u32 (2 * x)) := by
   show some (AV.int .u32 (IntKind.u32.wrap (x * 2))) = _
   rw [Qat]; congr 2; omega
  have a3 : Qn false .i32 x 31 = some (.int .i32 0) := by
   show some (AV.int .i32 (x.fdiv 2147483648)) = _
   rw [Int.fdiv_eq_ediv_of_nonneg _ (by omega)]; congr 2; omega
  have a5 : (BitVec.ofInt IntKind.u32.bits (2 * x) ^^^ BitVec.ofInt IntKind.u32.bits 0).toNat = (2 * x).toNat := by
   show (BitVec.ofInt 32 (2 * x) ^^^ BitVec.ofInt 32 0).toNat = (2 * x).toNat
   have := QuI (a := (2 * x).toNat) (by omega)
   rwa [show (((2 * x).toNat : Nat) : Int) = 2 * x by omega] at this
  have a6 : (((BitVec.ofInt IntKind.u32.bits (2 * x) ^^^ BitVec.ofInt IntKind.u32.bits 0).toNat : Nat) : Int) = 2 * x := by rw [a5]; omega
  simp (disch := omega) only [rq, simprocAttr, QbJ, a2, a3, a6, Qik]
theorem QtL {P : Prg} {f : Nat} (b : Qf P f 13 [.tmp 2] ZM) : QkC P f := by
 intro x hx
 refine VC.of_acall rfl rfl (ACall.of_body b (by simp) ?_)
 by_cases h : x < 0
 ·simp (disch := omega) only [rq, simprocAttr, ZM, Qik]
 ·simp (disch := omega) only [rq, simprocAttr, ZM, Qik]
theorem Qwh {K : IntKind} {l : List Int} {i : Nat} (h : i < l.length) (v : Int) : (ks K l).take i ++ [.int K v] ++ (ks K l).drop (i + 1) = ks K (l.set i v) := by
 rw [List.set_eq_take_append_cons_drop, if_pos h]
 simp [ks]
theorem Qcf {K : IntKind} {l : List Int} {i : Nat} (h : i < l.length) : (ks K l).drop i = .int K (l.getD i 0) :: ks K (l.drop (i + 1)) := by
 rw [Qah h]; simp [List.getD_eq_getElem?_getD, List.getElem?_eq_getElem h]
theorem QAt {α : Type} (l : List α) (x : α) : (l ++ [x])[l.length]? = some x := by simp
theorem Qz0 {α : Type} (l : List α) (x y : α) : (l ++ [x]).set l.length y = l ++ [y] := by simp
def QmZ (t : Nat) (P : Prg) (f : Nat) : Prop := ∀ (l : List Int) (ob : List Ob) (K : AV → List Ob → Prop), 0 < l.length → l.length ≤ 1000000 → K (.own ob.length l.length) (ob ++ [⟨t, 1, l.length, ks .i32 l, 0⟩]) → ACall P f [il l] ob K
theorem QwW {P : Prg} {f t0 : Nat} (b : Qf P f 8 [.tmp 2] (Zn t0)) : QmZ t0 P f := by
 intro l ob K h0 h1 hK
 refine ACall.of_body b (by simp) ?_
 have g1 := fun x : Ob => QAt ob x
 have g2 := fun x y : Ob => Qz0 ob x y
 have n0 : l.length ≠ 0 := by omega
 simp (disch := omega) only [rq, simprocAttr, Zn, il, Qsk, n0, g1, g2, QBk]
 exact hK
def Qjh (L : List Int) (k i : Nat) : List Int := (List.range L.length).map fun j => if k ≤ j ∧ j < k + i then w32 (L.getD (j + 1) 0 - L.getD j 0) else L.getD j 0
def Qh9 (L : List Int) (k n : Nat) : List Int := if n = 1 then L else (Qjh L k (n - 1)).set (k + (n - 1)) (w32 (L.getD (k + (n - 1)) 0 - (w32 (L.getD (k + (n - 1)) 0 - L.getD (k + (n - 2)) 0)).tdiv 2))
theorem QdO {a b : List Int} (h : a.length = b.length) (h2 : ∀ j, j < a.length → a.getD j 0 = b.getD j 0) : a = b := by
 apply List.ext_getElem h
 intro i h1 h3
 have := h2 i h1
 simpa [List.getD_eq_getElem?_getD, List.getElem?_eq_getElem h1, List.getElem?_eq_getElem h3] using this
theorem Qcs (L : List Int) (k i : Nat) : (Qjh L k i).length = L.length := by simp [Qjh]
theorem ZG {g : Nat → Int} {n j : Nat} (h : j < n) : ((List.range n).map g).getD j 0 = g j := by
 simp [List.getD_eq_getElem?_getD, h]
theorem Qlq {l : List Int} {i j : Nat} {v : Int} (h : j < l.length) : (l.set i v).getD j 0 = if i = j then v else l.getD j 0 := by
 simp only [List.getD_eq_getElem?_getD, List.getElem?_set]
 split
 ·subst_vars; simp [h]
 ·rfl
theorem QA6 (L : List Int) (k : Nat) : Qjh L k 0 = L := QdO (Qcs _ _ _) fun j hj => by
 rw [Qcs] at hj
 rw [Qjh, ZG hj, if_neg (by omega)]
theorem Qvr {L : List Int} {k i j : Nat} (h : j < L.length) (h2 : k + i ≤ j) : (Qjh L k i).getD j 0 = L.getD j 0 := by
 rw [Qjh, ZG h, if_neg (by omega)]
theorem Qyl {L : List Int} {k i : Nat} (h : k + i < L.length) : (Qjh L k i).set (k + i) (w32 (L.getD (k + i + 1) 0 - L.getD (k + i) 0)) = Qjh L k (i + 1) := QdO (by simp [Qcs]) fun j hj => by
 have hj' : j < L.length := by simpa [Qcs] using hj
 rw [Qlq (by rw [Qcs]; exact hj'), Qjh, Qjh, ZG hj', ZG hj']
 by_cases e : k + i = j
 ·subst e; rw [if_pos rfl, if_pos (by omega)]
 ·rw [if_neg e]
  by_cases q : k ≤ j ∧ j < k + i
  ·rw [if_pos q, if_pos (by omega)]
  ·rw [if_neg q, if_neg (by omega)]
def QAP (P : Prg) (f : Nat) : Prop := ∀ (t : Nat) (L : List Int) (k n : Nat) (K : AV → List Ob → Prop), I32 L → 1 ≤ n → k + n ≤ L.length → L.length ≤ 1000000 →
 K (.tup []) [⟨t, 1, L.length, ks .i32 (Qh9 L k n), 0⟩] → ACall P f [.view 0 L.length k n] [⟨t, 1, L.length, ks .i32 L, 0⟩] K
theorem QnQ {x : Int} (h : -2147483648 ≤ x ∧ x ≤ 2147483647) : -2147483648 ≤ x.tdiv 2 ∧ x.tdiv 2 ≤ 2147483647 := by
 by_cases hx : x < 0
 ·rw [(Qdf hx 2).1]; omega
 ·rw [Int.tdiv_eq_ediv_of_nonneg (by omega)]; omega
theorem QAc {P : Prg} {f : Nat} (b : Qf P f 39 [] QgM) : QAP P f := by
 intro t L k n K hL h1 h2 h3 hK
 refine ACall.of_body b (by simp) ?_
 simp (disch := omega) only [rq, simprocAttr, QgM]
 refine Qx.by (ι := Nat) (fun i => ⟨[(8, .int .i64 i), (7, .int .i64 ((n : Int) - 1)), (2, .int .i64 ((n : Int) - 1)), (0, .view 0 L.length k n)], [⟨t, 1, L.length, ks .i32 (Qjh L k i), 0⟩]⟩) (fun i => i ≤ n - 1) (fun i => n - 1 - i) 0 (by rw [QA6]; exact Le.slots (by simp [Am.look])) (by omega) ?_
 intro i hi
 have ls := Qcs L k i
 by_cases hlt : i < n - 1
 ·have e1 := Qcf (K := .i32) (l := Qjh L k i) (i := k + i) (by omega)
  have e2 := Qcf (K := .i32) (l := Qjh L k i) (i := k + (i + 1)) (by omega)
  have e3 := fun v => Qwh (K := .i32) (l := Qjh L k i) (i := k + i) (by omega) v
  have a1 := Qvr (L := L) (k := k) (i := i) (j := k + i) (by omega) (by omega)
  have a2 := Qvr (L := L) (k := k) (i := i) (j := k + (i + 1)) (by omega) (by omega)
  have a3 := Qyl (L := L) (k := k) (i := i) (by omega)
  rw [show k + i + 1 = k + (i + 1) by omega] at a3
  rw [a1] at e1
  rw [a2] at e2
  simp (disch := omega) only [rq, simprocAttr, e1, e2, e3, Qba, a3, ls]
  exact ⟨i + 1, by omega, by omega, Le.slots (by simp [Am.look])⟩
 ·have e : i = n - 1 := by omega
  subst e
  by_cases hn : n = 1
  ·subst hn
   have e0 : Qh9 L k 1 = Qjh L k (1 - 1) := by simp [Qh9, QA6]
   rw [e0] at hK
   simp (disch := omega) only [rq, simprocAttr]
   exact hK
  ·have e1 := Qcf (K := .i32) (l := Qjh L k (n - 1)) (i := k + (n - 1)) (by omega)
   have e2 := Qcf (K := .i32) (l := Qjh L k (n - 1)) (i := k + (n - 2)) (by omega)
   have e3 := fun v => Qwh (K := .i32) (l := Qjh L k (n - 1)) (i := k + (n - 1)) (by omega) v
   have a1 := Qvr (L := L) (k := k) (i := n - 1) (j := k + (n - 1)) (by omega) (by omega)
   have a2 : (Qjh L k (n - 1)).getD (k + (n - 2)) 0 = w32 (L.getD (k + (n - 1)) 0 - L.getD (k + (n - 2)) 0) := by
    rw [Qjh, ZG (by omega), if_pos (by omega), show k + (n - 2) + 1 = k + (n - 1) by omega]
   rw [a1] at e1
   rw [a2] at e2
   have hr := QnQ (Jw (L.getD (k + (n - 1)) 0 - L.getD (k + (n - 2)) 0))
   simp only [Qh9, if_neg hn] at hK
   rw [show k + (n - 2) = k + (n - 1 - 1) by omega] at e2 hK hr
   simp (disch := omega) only [rq, simprocAttr, e1, e2, e3, Qba, ls]
   exact hK
def Qaf (c : Int) (n : Nat) : Int := if c < 1 ∨ 6 < c then 2 else if 4000 < n then 4 else if (n : Int) % c ≠ 0 then 2 else 0
def Qd1 (P : Prg) (f : Nat) : Prop := ∀ (c : Int) (l : List Int), VC P f [.int .i64 c, il l] (.int .i64 (Qaf c l.length))
theorem Qv8 {P : Prg} {f : Nat} (b : Qf P f 22 [.tmp 4] XC) : Qd1 P f := by
 intro c l
 refine VC.of_acall (by simp [isDL, isD, QZ]) rfl (ACall.of_body b (by simp) ?_)
 by_cases h1 : c < 1
 ·simp (disch := omega) only [rq, simprocAttr, XC, il, Qaf]
 by_cases h2 : 6 < c
 ·simp (disch := omega) only [rq, simprocAttr, XC, il, Qaf]
 by_cases h3 : 4000 < l.length
 ·simp (disch := omega) only [rq, simprocAttr, XC, il, Qaf]
 have hm := Qbi (n := l.length) (c := c) (by omega)
 by_cases h4 : (l.length : Int) % c = 0
 ·simp (disch := omega) only [rq, simprocAttr, XC, il, Qaf, h4]
 ·simp (disch := omega) only [rq, simprocAttr, XC, il, Qaf, h4]
theorem Qqu {P : Prg} {f : Nat} (b : Qf P f 19 [.tmp 4] QN) : Qd1 P f := by
 intro c l
 refine VC.of_acall (by simp [isDL, isD, QZ]) rfl (ACall.of_body b (by simp) ?_)
 by_cases h1 : c < 1
 ·simp (disch := omega) only [rq, simprocAttr, QN, il, Qaf]
 by_cases h2 : 6 < c
 ·simp (disch := omega) only [rq, simprocAttr, QN, il, Qaf]
 by_cases h3 : 4000 < l.length
 ·simp (disch := omega) only [rq, simprocAttr, QN, il, Qaf]
 have hm := Qbi (n := l.length) (c := c) (by omega)
 by_cases h4 : (l.length : Int) % c = 0
 ·simp (disch := omega) only [rq, simprocAttr, QN, il, Qaf, h4]
 ·have h5 : 0 < (l.length : Int) % c := by omega
  simp (disch := omega) only [rq, simprocAttr, QN, il, Qaf, h4]
def Qji (c : Nat) (l : List Int) (j : Nat) : Int :=
 if c = 1 then l.getD j 0
 else if j % c + 1 < c then w32 (l.getD (j + 1) 0 - l.getD j 0)
 else w32 (l.getD j 0 - (w32 (l.getD j 0 - l.getD (j - 1) 0)).tdiv 2)
def Qm3 (c : Nat) (l : List Int) (a : Nat) : List Int := (List.range l.length).map fun j => if j < a then Qji c l j else l.getD j 0
def Xm (c : Nat) (l : List Int) : List Int := (List.range l.length).map (Qji c l)
theorem QaW (c : Nat) (l : List Int) (a : Nat) : (Qm3 c l a).length = l.length := by simp [Qm3]
theorem QBg (c : Nat) (l : List Int) : Qm3 c l 0 = l := QdO (QaW _ _ _) fun j hj => by
 rw [QaW] at hj; rw [Qm3, ZG hj, if_neg (by omega)]
theorem Qsq (c : Nat) (l : List Int) : Qm3 c l l.length = Xm c l := by
 simp only [Qm3, Xm]
 apply List.map_congr_left
 intro j hj
 rw [if_pos (by simpa using hj)]
theorem Qsn {c : Nat} {l : List Int} (h : I32 l) (j : Nat) : -2147483648 ≤ Qji c l j ∧ Qji c l j ≤ 2147483647 := by
 unfold Qji
 split
 ·exact Zq h j
 ·split <;> exact Jw _
theorem QsY {c : Nat} {l : List Int} (h : I32 l) (a : Nat) : I32 (Qm3 c l a) := by
 intro v hv
 simp only [Qm3, List.mem_map] at hv
 obtain ⟨j, _, rfl⟩ := hv
 split
 ·exact Qsn h j
 ·exact Zq h j
theorem QkF {c : Nat} {l : List Int} (h : I32 l) : I32 (Xm c l) := by rw [← Qsq]; exact QsY h _
theorem Qa7 (c : Nat) (l : List Int) : (Xm c l).length = l.length := by simp [Xm]
theorem QAb {c : Nat} {l : List Int} {m : Nat} (hc : 1 ≤ c) (h : c * m + c ≤ l.length) : Qh9 (Qm3 c l (c * m)) (c * m) c = Qm3 c l (c * m + c) := by
 have mod : ∀ j, c * m ≤ j → j < c * m + c → j % c = j - c * m := fun j h1 h2 => by
  rw [show j = c * m + (j - c * m) by omega, Nat.mul_add_mod]
  rw [Nat.mod_eq_of_lt (by omega)]; omega
 have at' : ∀ j, j < l.length → c * m ≤ j → (Qm3 c l (c * m)).getD j 0 = l.getD j 0 := fun j h1 h2 => by rw [Qm3, ZG h1, if_neg (by omega)]
 by_cases h1 : c = 1
 ·subst h1
  simp only [Qh9, if_true]
  refine QdO (by simp [QaW]) fun j hj => ?_
  rw [QaW] at hj
  rw [Qm3, Qm3, ZG hj, ZG hj]
  by_cases q : j < 1 * m
  ·rw [if_pos q, if_pos (by omega)]
  ·rw [if_neg q]; split
   ·simp [Qji]
   ·rfl
 ·simp only [Qh9, if_neg h1]
  refine QdO (by simp [Qcs, QaW]) fun j hj => ?_
  have hj' : j < l.length := by simpa [Qcs, QaW] using hj
  rw [Qlq (by simpa [Qcs, QaW] using hj')]
  rw [Qjh, QaW, ZG hj']
  conv => rhs; rw [Qm3, ZG hj']
  by_cases e : c * m + (c - 1) = j
  ·rw [if_pos e, if_pos (by omega), at' _ (by omega) (by omega), at' _ (by omega) (by omega)]
   subst e
   have := mod (c * m + (c - 1)) (by omega) (by omega)
   unfold Qji
   rw [if_neg h1, if_neg (by rw [this]; omega), show c * m + (c - 1) - 1 = c * m + (c - 2) by omega]
  ·rw [if_neg e]
   by_cases q : c * m ≤ j ∧ j < c * m + (c - 1)
   ·rw [if_pos q, if_pos (by omega), at' _ (by omega) (by omega), at' _ (by omega) (by omega)]
    have := mod j (by omega) (by omega)
    unfold Qji
    rw [if_neg h1, if_pos (by rw [this]; omega)]
   ·rw [if_neg q, Qm3, ZG hj']
    by_cases r : j < c * m
    ·rw [if_pos r, if_pos (by omega)]
    ·rw [if_neg r, if_neg (by omega)]
def okM (c : Nat) (l : List Int) : Prop := 1 ≤ c ∧ c ≤ 6 ∧ 0 < l.length ∧ l.length ≤ 4000 ∧ l.length % c = 0 ∧ I32 l
theorem Qoq {c : Nat} {l : List Int} (h : okM c l) : Qaf c l.length = 0 := by
 obtain ⟨h1, h2, h3, h4, h5, _⟩ := h
 unfold Qaf
 rw [if_neg (by omega), if_neg (by omega), if_neg (by rw [← Int.natCast_emod, h5]; simp)]
def Qd0 (P : Prg) (f : Nat) : Prop := ∀ (c : Nat) (l : List Int), okM c l → VC P f [.int .i64 c, il l] (.tup [il (Xm c l), .int .i64 0])
theorem Qsm {c m q : Nat} (h : c * m < c * q) : c * m + c ≤ c * q := by
 have : m < q := Nat.lt_of_mul_lt_mul_left h
 have := Nat.mul_le_mul_left c (show m + 1 ≤ q by omega)
 rw [Nat.mul_add, Nat.mul_one] at this
 exact this
theorem QAd {P : Prg} {f fC fK fM t : Nat} (b : Qf P f 32 [.tmp 4, .tmp 5] (QgN fC fK fM)) (hC : Qd1 P fC) (hK : QmZ t P fK) (hM : QAP P fM) : Qd0 P f := by
 intro c l hok
 obtain ⟨h1, h2, h3, h4, h5, h6⟩ := id hok
 have hc := Qoq hok
 obtain ⟨q, hq⟩ : ∃ q, l.length = c * q := ⟨l.length / c, by have := Nat.div_add_mod l.length c; omega⟩
 refine VC.of_walk 1 (by simp [isDL, isD, QZ]) (by simp [isD, isDL, QZ]) (ACall.of_body b (by simp) ?_)
 simp (disch := omega) only [rq, simprocAttr, QgN]
 refine Qb.vc (hC c l) ?_
 have n0 : l.length ≠ 0 := by omega
 simp (disch := omega) only [rq, simprocAttr, hc, n0]
 refine hK l [] _ h3 (by omega) ?_
 simp (disch := omega) only [rq, simprocAttr, n0]
 refine Qx.by (ι := Nat) (fun m => ⟨[(8, .int .i64 (c * m : Nat)), (7, .own 0 l.length), (0, .int .i64 c)], [⟨t, 1, l.length, ks .i32 (Qm3 c l (c * m)), 0⟩]⟩) (fun m => m ≤ q) (fun m => q - m) 0 (by rw [Nat.mul_zero, QBg]; exact Le.slots (by simp [Am.look])) (by omega) ?_
 intro m hm
 by_cases hlt : c * m < l.length
 ·have hs := Qsm (c := c) (m := m) (q := q) (by rw [← hq]; exact hlt)
  rw [← hq] at hs
  have hmq : m < q := Nat.lt_of_mul_lt_mul_left (a := c) (b := m) (c := q) (by rw [← hq]; exact hlt)
  have e0 : c * m + c - c * m = c := by omega
  have hM' := hM t (Qm3 c l (c * m)) (c * m) c
  rw [QaW, QAb h1 hs] at hM'
  simp (disch := omega) only [rq, simprocAttr, e0, n0]
  refine hM' _ (QsY h6 _) h1 hs (by omega) ?_
  simp (disch := omega) only [rq, simprocAttr]
  exact ⟨m + 1, by omega, by omega, by rw [show c * (m + 1) = c * m + c by rw [Nat.mul_add, Nat.mul_one]]; exact Le.slots (by simp [Am.look])⟩
 ·have e : c * m = l.length := by
   have := Nat.mul_le_mul_left c hm
   omega
  rw [e, Qsq]
  have lm := Qa7 c l
  simp (disch := omega) only [rq, simprocAttr]
  simp [QF, Qu, frzL, Qs, isDL, isD, il, lm, frzL_T _ (Qm .i32 (Xm c l))]
def QjH (c : Nat) (l : List Int) (a : Nat) : List Int := (List.range a).map (Qji c l)
theorem Qso (c : Nat) (l : List Int) (a : Nat) : (QjH c l a).length = a := by simp [QjH]
theorem Qv9 (c : Nat) (l : List Int) (a : Nat) : QjH c l (a + 1) = QjH c l a ++ [Qji c l a] := by simp [QjH, List.range_succ]
theorem Qsp (c : Nat) (l : List Int) : QjH c l l.length = Xm c l := rfl
theorem Qwa {c : Nat} {l : List Int} {a j : Nat} (h : j < a) : (QjH c l a).getD j 0 = Qji c l j := ZG h
theorem Le.drop1 {o : Ob} {xs : List Ob} {fr fr' : List (Nat × AV)} (h : isTL o.cs = true)
  (hfr : ∀ p ∈ fr', p.2 = .any ∨ Qu (fun o => decide (o < 1)) (fun o => decide (1 ≤ o)) (o :: xs) 2 [look fr p.1] = some [p.2]) : Le 0 ⟨fr, o :: xs⟩ ⟨fr', [o]⟩ := by
 refine Le.drop 1 2 (by omega) rfl hfr ?_
 intro i y hy
 match i, hy with
 | 0, hy =>
  simp at hy
  subst hy
  exact ⟨o.cs, by simp, by simp only [Qu]; exact frzL_T _ h⟩
 | i + 1, hy => simp at hy
def QmJ (P : Prg) (f : Nat) : Prop := ∀ m : List Int, 0 < m.length → m.length ≤ 4000 → I32 m → VC P f [il m] (il (Xm m.length m))
theorem Qqt {P : Prg} {f fW t0 : Nat} (b : Qf P f 61 [.tmp 2] (XU fW t0)) (hW : QiN P fW) : QmJ P f := by
 intro m h0 h1 hI
 refine VC.of_walk 1 (by simp [isDL, isD, QZ]) (by simp [QZ]) (ACall.of_body b (by simp) ?_)
 have n0 : m.length ≠ 0 := by omega
 have n0' : ∀ v : AV, (if m.length = 0 then (none : Option AV) else some v) = some v := fun v => if_neg n0
 simp (disch := omega) only [rq, simprocAttr, XU, il]
 refine Qx.by (ι := Nat) (fun i => ⟨[(5, .int .i64 i), (4, .int .i64 m.length), (3, .own 0 i), (0, il m)], [⟨t0, 1, i, ks .i32 (QjH m.length m i), 0⟩]⟩) (fun i => i ≤ m.length) (fun i => m.length - i) 0 (Le.trans (Le.virt 3 t0 1 (by omega) rfl) (Le.slots (by simp [Am.look, il, QjH]))) (by omega) ?_
 intro i hi
 have lt := Qso m.length m i
 have tk : isTL (ks .i32 (QjH m.length m (i + 1))) = true := Qm _ _
 have tm : isTL (ks .i32 m) = true := Qm _ _
 have fin : ∀ v, v = Qji m.length m i → ks .i32 (QjH m.length m i) ++ [.int .i32 v] = ks .i32 (QjH m.length m (i + 1)) := by
  rintro _ rfl
  rw [JA, Qv9]
 by_cases hlt : i < m.length
 ·by_cases hn : m.length = 1
  ·have e1 := Qcf (K := .i32) (l := m) (i := 0) (by omega)
   have e2 := fin (m.getD 0 0) (by rw [Qji, if_pos hn, show i = 0 by omega])
   simp (disch := omega) only [rq, simprocAttr, e1, e2, il]
   exact ⟨i + 1, by omega, by omega, Le.drop1 tk (by simp [Am.look, Qu, frzL, Qs, il, frzL_T _ tm])⟩
  by_cases hi1 : i < m.length - 1
  ·have e1 := Qcf (K := .i32) (l := m) (i := i) (by omega)
   have e1' := Qcf (K := .i32) (l := m) (i := i + 1) (by omega)
   have e2 := fin (w32 (m.getD (i + 1) 0 - m.getD i 0)) (by rw [Qji, if_neg hn, if_pos (by rw [Nat.mod_eq_of_lt hlt]; omega)])
   have r1 := Zq hI i
   have r2 := Zq hI (i + 1)
   simp (disch := omega) only [rq, simprocAttr, e1, e1', il]
   refine QU.vc (hW _) ?_
   simp (disch := omega) only [rq, simprocAttr, e2]
   exact ⟨i + 1, by omega, by omega, Le.drop1 tk (by simp [Am.look, Qu, frzL, Qs, il, frzL_T _ tm])⟩
  ·have e1 := Qcf (K := .i32) (l := m) (i := i) (by omega)
   have e1' := Qcf (K := .i32) (l := QjH m.length m i) (i := i - 1) (by omega)
   rw [Qwa (by omega)] at e1'
   have a1 : Qji m.length m i = w32 (m.getD i 0 - (w32 (m.getD i 0 - m.getD (i - 1) 0)).tdiv 2) := by
    rw [Qji, if_neg hn, if_neg (by rw [Nat.mod_eq_of_lt hlt]; omega)]
   have a2 : Qji m.length m (i - 1) = w32 (m.getD i 0 - m.getD (i - 1) 0) := by
    rw [Qji, if_neg hn, if_pos (by rw [Nat.mod_eq_of_lt (by omega)]; omega), show i - 1 + 1 = i by omega]
   have e2 := fin (w32 (m.getD i 0 - (Qji m.length m (i - 1)).tdiv 2)) (by rw [a1, a2])
   have r1 := Zq hI i
   have r2 := Qsn (c := m.length) hI (i - 1)
   have r3 := QnQ r2
   simp (disch := omega) only [rq, simprocAttr, e1, e1', il]
   refine QU.vc (hW _) ?_
   simp (disch := omega) only [rq, simprocAttr, e2]
   exact ⟨i + 1, by omega, by omega, Le.drop1 tk (by simp [Am.look, Qu, frzL, Qs, il, frzL_T _ tm])⟩
 ·have e : i = m.length := by omega
  subst e
  simp (disch := omega) only [rq, simprocAttr, Qsp]
  simp [QF, Qu, frzL, Qs, il, frzL_T _ (Qm .i32 (Xm m.length m)), Qa7]
theorem QBj (K : IntKind) (l : List Int) (a c : Nat) : ((ks K l).drop a).take c = ks K ((l.drop a).take c) := by simp [ks, List.map_drop, List.map_take]
theorem QfH {l : List Int} {a c j : Nat} (h : j < c) : ((l.drop a).take c).getD j 0 = l.getD (a + j) 0 := by
 simp [List.getD_eq_getElem?_getD, List.getElem?_take, h, List.getElem?_drop]
theorem QAR {l : List Int} (h : I32 l) (a c : Nat) : I32 ((l.drop a).take c) := fun v hv => h v (List.mem_of_mem_drop (List.mem_of_mem_take hv))
theorem QyD {c : Nat} {l : List Int} {m j : Nat} (hj : j < c) : Qji c ((l.drop (c * m)).take c) j = Qji c l (c * m + j) := by
 have e : (c * m + j) % c = j := by rw [Nat.mul_add_mod, Nat.mod_eq_of_lt hj]
 unfold Qji
 rw [e, Nat.mod_eq_of_lt hj]
 by_cases h1 : c = 1
 ·rw [if_pos h1, if_pos h1, QfH hj]
 rw [if_neg h1, if_neg h1]
 by_cases h2 : j + 1 < c
 ·rw [if_pos h2, if_pos h2, QfH hj, QfH h2, Nat.add_assoc]
 ·rw [if_neg h2, if_neg h2, QfH hj, QfH (by omega), show c * m + (j - 1) = c * m + j - 1 by omega]
theorem QyE {c : Nat} {l : List Int} {m : Nat} (h : c * m + c ≤ l.length) : QjH c l (c * m) ++ Xm c ((l.drop (c * m)).take c) = QjH c l (c * m + c) := by
 have hl : ((l.drop (c * m)).take c).length = c := by simp; omega
 rw [QjH, QjH, Xm, hl, List.range_add, List.map_append, List.map_map]
 congr 1
 apply List.map_congr_left
 intro j hj
 exact QyD (by simpa using hj)
theorem QvF {P : Prg} {f fC fM t0 : Nat} (b : Qf P f 32 [.tmp 4, .tmp 5] (JC fC fM t0)) (hC : Qd1 P fC) (hM : QmJ P fM) : Qd0 P f := by
 intro c l hok
 obtain ⟨h1, h2, h3, h4, h5, h6⟩ := id hok
 have hc := Qoq hok
 obtain ⟨q, hq⟩ : ∃ q, l.length = c * q := ⟨l.length / c, by have := Nat.div_add_mod l.length c; omega⟩
 refine VC.of_walk 1 (by simp [isDL, isD, QZ]) (by simp [isD, isDL, QZ]) (ACall.of_body b (by simp) ?_)
 simp (disch := omega) only [rq, simprocAttr, JC]
 refine Qb.vc (hC c l) ?_
 have n0 : l.length ≠ 0 := by omega
 simp (disch := omega) only [rq, simprocAttr, hc, n0]
 refine Qx.by (ι := Nat) (fun m => ⟨[(7, .int .i64 (c * m : Nat)), (6, .own 0 (c * m)), (1, il l), (0, .int .i64 c)], [⟨t0, 1, c * m, ks .i32 (QjH c l (c * m)), 0⟩]⟩) (fun m => m ≤ q) (fun m => q - m) 0 (by rw [Nat.mul_zero]; exact Le.trans (Le.virt 6 t0 1 (by omega) rfl) (Le.slots (by simp [Am.look, QjH]))) (by omega) ?_
 intro m hm
 have tm : isTL (ks .i32 l) = true := Qm _ _
 have lt := Qso c l (c * m)
 by_cases hlt : c * m < l.length
 ·have hs := Qsm (c := c) (m := m) (q := q) (by rw [← hq]; exact hlt)
  rw [← hq] at hs
  have hmq : m < q := Nat.lt_of_mul_lt_mul_left (a := c) (b := m) (c := q) (by rw [← hq]; exact hlt)
  have e0 : c * m + c - c * m = c := by omega
  have hl : ((l.drop (c * m)).take c).length = c := by simp; omega
  have la := Qa7 c ((l.drop (c * m)).take c)
  have e1 := QBj .i32 l (c * m) c
  have hM' := hM ((l.drop (c * m)).take c) (by omega) (by omega) (QAR h6 _ _)
  rw [il, hl] at hM'
  have e2 : ks .i32 (QjH c l (c * m)) ++ ks .i32 (Xm c ((l.drop (c * m)).take c)) = ks .i32 (QjH c l (c * m + c)) := by rw [← QyE hs]; simp [ks]
  simp (disch := omega) only [rq, simprocAttr, e0, n0, il, e1]
  refine Qb.vc hM' ?_
  simp (disch := omega) only [rq, simprocAttr, il, la, hl, e2]
  exact ⟨m + 1, by omega, by omega, by rw [show c * (m + 1) = c * m + c by rw [Nat.mul_add, Nat.mul_one]]; exact Le.slots (by simp [Am.look, il])⟩
 ·have e : c * m = l.length := by
   have := Nat.mul_le_mul_left c hm
   omega
  rw [e, Qsp]
  have lm := Qa7 c l
  simp (disch := omega) only [rq, simprocAttr, il]
  simp [QF, Qu, frzL, Qs, isDL, isD, il, lm, frzL_T _ (Qm .i32 (Xm c l))]
def QdV (c x : Int) (l : List Int) : Int := if ZC c x ≠ 0 then 2 else if Q3 x l ≠ 0 then Q3 x l else if l.length = 0 ∨ (l.length : Int) % c ≠ 0 then 2 else 0
theorem Qmt {c x : Int} {l : List Int} (h : ZC c x = 2) : QdV c x l = 2 := by simp [QdV, h]
theorem Qmu {c x : Int} {l : List Int} (h : ZC c x = 0) (h2 : Q3 x l ≠ 0) : QdV c x l = Q3 x l := by simp [QdV, h, h2]
theorem QiK {c x : Int} {l : List Int} (h : ZC c x = 0) (h2 : Q3 x l = 0) (h3 : l.length = 0 ∨ (l.length : Int) % c ≠ 0) : QdV c x l = 2 := by simp only [QdV, h, h2, if_pos h3]; simp
theorem QzC {c x : Int} {l : List Int} (h : ZC c x = 0) (h2 : Q3 x l = 0) (h3 : ¬ (l.length = 0 ∨ (l.length : Int) % c ≠ 0)) : QdV c x l = 0 := by simp only [QdV, h, h2, if_neg h3]; simp
theorem ZB (c x : Int) : ZC c x = 2 ∨ (ZC c x = 0 ∧ Jk x ≠ 0 ∧ 1 ≤ c ∧ c ≤ 6) := by unfold ZC; split <;> omega
theorem QgC (x : Int) (l : List Int) : Q3 x l = 2 ∨ Q3 x l = 4 ∨ Q3 x l = 16 ∨ (Q3 x l = 0 ∧ Jk x ≠ 0 ∧ l.length ≤ 4000) := by
 unfold Q3
 by_cases h : Jk x = 0
 ·simp [h]
 by_cases h2 : 4000 < l.length
 ·simp [h, h2]
 by_cases h3 : l.all (inR x)
 ·simp [h, h2, h3]; omega
 ·simp [h, h2, h3]
theorem Qrw {c x : Int} {l : List Int} (hI : I32 l) (h : QdV c x l = 0) : ∃ k : Nat, c = k ∧ okM k l ∧ Jk x ≠ 0 := by
 rcases ZB c x with h1 | ⟨h1, h2, h3, h4⟩
 ·rw [Qmt h1] at h; omega
 by_cases h5 : Q3 x l = 0
 ·by_cases h6 : l.length = 0 ∨ (l.length : Int) % c ≠ 0
  ·rw [QiK h1 h5 h6] at h; omega
  ·obtain ⟨k, rfl⟩ : ∃ k : Nat, c = k := ⟨c.toNat, by omega⟩
   refine ⟨k, rfl, ⟨by omega, by omega, by omega, by rcases QgC x l with h | h | h | h <;> omega, by omega, hI⟩, h2⟩
 ·rw [Qmu h1 h5] at h; exact absurd h h5
def Qi9 (P : Prg) (f : Nat) : Prop := ∀ (c x : Int) (l : List Int), I32 l → VC P f [shA c x, il l] (.int .i64 (QdV c x l))
theorem QlN {P : Prg} {f fE fW t0 : Nat} (b : Qf P f 30 [.tmp 4] (QaO fE fW t0)) (hE : QbO P fE) (hW : QcT P fW) : Qi9 P f := by
 intro c x l hI
 refine VC.of_acall (by simp [isDL, isD, QZ, shA]) rfl (ACall.of_body b (by simp) ?_)
 have hE' := hE c x
 rw [shA] at hE'
 simp (disch := omega) only [rq, simprocAttr, QaO, shA]
 refine Qb.vc hE' ?_
 rcases ZB c x with h1 | ⟨h1, h2, h3, h4⟩
 ·simp (disch := omega) only [rq, simprocAttr, h1, Qmt h1]
 simp (disch := omega) only [rq, simprocAttr, h1]
 refine Qb.vc (hW x l hI) ?_
 by_cases h5 : Q3 x l = 0
 ·have h9 : l.length ≤ 4000 := by rcases QgC x l with h | h | h | h <;> omega
  by_cases h6 : l.length = 0
  ·simp (disch := omega) only [rq, simprocAttr, h5, il, h6, QiK h1 h5 (.inl h6)]
  ·by_cases h7 : (l.length : Int) % c = 0
   ·have hm := Qbi (n := l.length) (c := c) (by omega)
    simp (disch := omega) only [rq, simprocAttr, h5, il, h6, h7, QzC h1 h5 (by omega)]
   ·have hm := Qbi (n := l.length) (c := c) (by omega)
    simp (disch := omega) only [rq, simprocAttr, h5, il, h6, h7, QiK h1 h5 (.inr h7)]
 ·simp (disch := omega) only [rq, simprocAttr, h5, Qmu h1 h5]
theorem Qqr {P : Prg} {f fE fW t0 : Nat} (b : Qf P f 28 [.tmp 4] (XS fE fW t0)) (hE : QbO P fE) (hW : QcT P fW) : Qi9 P f := by
 intro c x l hI
 refine VC.of_acall (by simp [isDL, isD, QZ, shA]) rfl (ACall.of_body b (by simp) ?_)
 have hE' := hE c x
 rw [shA] at hE'
 simp (disch := omega) only [rq, simprocAttr, XS, shA]
 refine Qb.vc hE' ?_
 rcases ZB c x with h1 | ⟨h1, h2, h3, h4⟩
 ·simp (disch := omega) only [rq, simprocAttr, h1, Qmt h1]
 simp (disch := omega) only [rq, simprocAttr, h1]
 refine Qb.vc (hW x l hI) ?_
 by_cases h5 : Q3 x l = 0
 ·have h9 : l.length ≤ 4000 := by rcases QgC x l with h | h | h | h <;> omega
  by_cases h6 : l.length = 0
  ·simp (disch := omega) only [rq, simprocAttr, h5, il, h6, QiK h1 h5 (.inl h6)]
  ·by_cases h7 : (l.length : Int) % c = 0
   ·have hm := Qbi (n := l.length) (c := c) (by omega)
    simp (disch := omega) only [rq, simprocAttr, h5, il, h6, h7, QzC h1 h5 (by omega)]
   ·have hm := Qbi (n := l.length) (c := c) (by omega)
    have hp : 0 < (l.length : Int) % c := by omega
    simp (disch := omega) only [rq, simprocAttr, h5, il, h6, h7, QiK h1 h5 (.inr h7)]
 ·simp (disch := omega) only [rq, simprocAttr, h5]
  refine Qb.vc (hW x l hI) ?_
  simp (disch := omega) only [rq, simprocAttr, Qmu h1 h5]
def QuD (c : Nat) (l : List Int) (k n : Nat) : List Int := (List.range n).map fun i => l.getD (k + i * c) 0
theorem Qlz (c : Nat) (l : List Int) (k n : Nat) : (QuD c l k n).length = n := by simp [QuD]
theorem QvZ (c : Nat) (l : List Int) (k n : Nat) : QuD c l k n ++ [l.getD (k + n * c) 0] = QuD c l k (n + 1) := by simp [QuD, List.range_succ]
theorem Qv0 {c : Nat} {l : List Int} {k n i : Nat} (h : i < n) : (QuD c l k n).getD i 0 = l.getD (k + i * c) 0 := ZG h
def Qjc (P : Prg) (f : Nat) : Prop := ∀ (c k q : Nat) (l : List Int), 1 ≤ c → k < c → l.length = c * q → l.length ≤ 4000 → VC P f [il l, .int .i64 k, .int .i64 c] (il (QuD c l k q))
theorem QvY {c k q n : Nat} (hk : k < c) : k + n * c < c * q ↔ n < q := by
 constructor
 ·intro h
  refine Nat.lt_of_not_le fun h2 => ?_
  have := Nat.mul_le_mul_right c h2
  rw [Nat.mul_comm c q] at h
  omega
 ·intro h
  have := Nat.mul_le_mul_right c (show n + 1 ≤ q from h)
  rw [Nat.add_mul, Nat.one_mul] at this
  rw [Nat.mul_comm c q]
  omega
theorem Qlu {P : Prg} {f t0 : Nat} (b : Qf P f 25 [.tmp 6] (Z0 t0)) : Qjc P f := by
 intro c k q l hc hk hq h4
 have tm : isTL (ks .i32 l) = true := Qm _ _
 refine VC.of_walk 1 (by simp [isDL, isD, QZ]) (by simp [QZ]) (ACall.of_body b (by simp) ?_)
 simp (disch := omega) only [rq, simprocAttr, Z0, il]
 refine Qx.by (ι := Nat) (fun n => ⟨[(8, .int .i64 (k + n * c : Nat)), (7, .own 0 n), (2, .int .i64 c), (0, il l)], [⟨t0, 1, n, ks .i32 (QuD c l k n), 0⟩]⟩) (fun n => n ≤ q) (fun n => q - n) 0 (by rw [Nat.zero_mul]; exact Le.trans (Le.virt 7 t0 1 (by omega) rfl) (Le.slots (by simp [Am.look, il, QuD]))) (by omega) ?_
 intro n hn
 have ln := Qlz c l k n
 by_cases hlt : n < q
 ·have hin : k + n * c < l.length := by rw [hq]; exact (QvY hk).2 hlt
  have e1 := Qcf (K := .i32) (l := l) (i := k + n * c) hin
  have e2 := QvZ c l k n
  have en : k + n * c + c = k + (n + 1) * c := by rw [Nat.add_mul]; omega
  have hc2 : c ≤ 4000 := Nat.le_trans (Nat.le_mul_of_pos_right c (by omega)) (hq ▸ h4)
  have hq2 : n < 4000 := by
   have := Nat.mul_le_mul_left n hc
   omega
  simp (disch := omega) only [rq, simprocAttr, e1, il, JA, e2]
  exact ⟨n + 1, by omega, by omega, Le.drop1 (Qm _ _) (by simp [Am.look, Qu, frzL, Qs, il, frzL_T _ tm, Nat.add_mul, Int.add_mul, Int.add_assoc])⟩
 ·have e : n = q := by omega
  subst e
  have hin : l.length ≤ k + n * c := by rw [hq]; exact Nat.le_of_not_lt fun h => hlt ((QvY hk).1 h)
  simp (disch := omega) only [rq, simprocAttr, il]
  simp [QF, Qu, frzL, Qs, il, frzL_T _ (Qm .i32 _), Qlz]
def six (S : Nat → J8) : List AV := QY (S 0) ++ (QY (S 1) ++ (QY (S 2) ++ (QY (S 3) ++ (QY (S 4) ++ QY (S 5)))))
def okS (S : Nat → J8) : Prop := ∀ k, Qbx (S k).fl
theorem Qp1 {S : Nat → J8} (h : okS S) : (six S).length = 210 := by simp [six, Zr (h _)]
theorem QCi {k : Nat} (h : k < 6) : k = 0 ∨ k = 1 ∨ k = 2 ∨ k = 3 ∨ k = 4 ∨ k = 5 := by omega
theorem QA1 {S : Nat → J8} (h : okS S) {k : Nat} (hk : k < 6) : ((six S).drop (k * 35)).take 35 = QY (S k) := by
 have l := fun k => Zr (h k)
 rcases QCi hk with rfl | rfl | rfl | rfl | rfl | rfl <;> simp [six, List.drop_append, List.take_append, l, List.drop_eq_nil_of_le, Qo]
def upd (S : Nat → J8) (k : Nat) (c : J8) : Nat → J8 := fun j => if j = k then c else S j
theorem Qvk {S : Nat → J8} (h : okS S) {k : Nat} (hk : k < 6) (c : J8) : (six S).take (k * 35) ++ QY c ++ (six S).drop (k * 35 + 35) = six (upd S k c) := by
 have l := fun k => Zr (h k)
 rcases QCi hk with rfl | rfl | rfl | rfl | rfl | rfl <;> simp [six, upd, List.drop_append, List.take_append, l, List.drop_eq_nil_of_le, Qo]
theorem Qow (c : J8) : isTL (QY c) = true := by simp [QY, Qj, isTL, isT, Qcz, Qm]
theorem QyO (S : Nat → J8) : isTL (six S) = true := by simp [six, Qcz, Qow]
theorem QAL (S : Nat → J8) : (six S).all AV.one = true := by simp only [six, List.all_append, ZI, Bool.and_self]
def stC (c : Nat) (L : List Int) (z : J8) (k : Nat) : Nat → J8
 | 0 => z
 | n + 1 => JP (stC c L z k n) (L.getD (k + n * c) 0)
def Qzi (c : Nat) (L : List Int) (z : J8) (j : Nat) : Int := Qik (Qiw (stC c L z (j % c) (j / c)) (L.getD j 0))
def Qkc (c : Nat) (L : List Int) (z : J8) (a : Nat) : List Int := (List.range a).map (Qzi c L z)
theorem Qhx (c : Nat) (L : List Int) (z : J8) (a : Nat) : (Qkc c L z a).length = a := by simp [Qkc]
theorem Qv1 (c : Nat) (L : List Int) (z : J8) (a : Nat) : Qkc c L z a ++ [Qzi c L z a] = Qkc c L z (a + 1) := by simp [Qkc, List.range_succ]
theorem Qop {c : Nat} {L : List Int} {z : J8} (hL : I32 L) (hz : QxT z) (k : Nat) : ∀ n, QxT (stC c L z k n)
 | 0 => hz
 | n + 1 => QlB (Qop hL hz k n) (Zq hL _)
def cnt (c k i : Nat) : Nat := if k < i % c then i / c + 1 else i / c
theorem QCc (c k : Nat) : cnt c k 0 = 0 := by simp [cnt]
theorem Qy4 (c i : Nat) : cnt c (i % c) i = i / c := by simp [cnt]
theorem Qy3 {c k i : Nat} (hk : k < c) : cnt c k (i + 1) = if k = i % c then i / c + 1 else cnt c k i := by
 have hc : 0 < c := by omega
 have hr := Nat.mod_lt i hc
 have hi := Nat.div_add_mod i c
 unfold cnt
 by_cases h : i % c + 1 < c
 ·have e1 : (i + 1) % c = i % c + 1 := by
   rw [show i + 1 = c * (i / c) + (i % c + 1) by omega, Nat.mul_add_mod, Nat.mod_eq_of_lt h]
  have e2 : (i + 1) / c = i / c := by
   rw [show i + 1 = (i % c + 1) + c * (i / c) by omega, Nat.add_mul_div_left _ _ hc, Nat.div_eq_of_lt h, Nat.zero_add]
  rw [e1, e2]
  split <;> split <;> (try split) <;> omega
 ·have e0 : i + 1 = c * (i / c + 1) := by rw [Nat.mul_add]; omega
  have e1 : (i + 1) % c = 0 := by rw [e0, Nat.mul_mod_right]
  have e2 : (i + 1) / c = i / c + 1 := by rw [e0, Nat.mul_div_cancel_left _ hc]
  rw [e1, e2]
  split <;> split <;> (try split) <;> omega
def stA (c : Nat) (L : List Int) (z : J8) (i : Nat) : Nat → J8 := fun k => if k < c then stC c L z k (cnt c k i) else z
theorem QBW (c : Nat) (L : List Int) (z : J8) : stA c L z 0 = fun _ => z := by
 funext k; simp [stA, QCc, stC]
theorem QAZ {c : Nat} (hc : 1 ≤ c) (L : List Int) (z : J8) (i : Nat) : stA c L z i (i % c) = stC c L z (i % c) (i / c) := by
 rw [stA, if_pos (Nat.mod_lt _ (by omega)), Qy4]
theorem Qyb {c : Nat} (hc : 1 ≤ c) (L : List Int) (z : J8) (i : Nat) : upd (stA c L z i) (i % c) (JP (stC c L z (i % c) (i / c)) (L.getD i 0)) = stA c L z (i + 1) := by
 funext k
 have hr := Nat.mod_lt i (show 0 < c by omega)
 by_cases hk : k < c
 ·simp only [upd, stA, if_pos hk, Qy3 hk]
  by_cases e : k = i % c
  ·rw [if_pos e, if_pos e, e, stC]
   rw [show i % c + i / c * c = i by have := Nat.div_add_mod i c; rw [Nat.mul_comm]; omega]
  ·rw [if_neg e, if_neg e]
 ·simp only [upd, stA, if_neg hk]
  rw [if_neg (by omega)]
theorem QBc {c : Nat} {L : List Int} {z : J8} (hL : I32 L) (hz : QxT z) (i : Nat) : okS (stA c L z i) := fun k => by
 unfold stA; split
 ·exact (Qop hL hz k _).2.2.1
 ·exact hz.2.2.1
def QpW (l : List Int) : AV := .list l.length (ks .u32 l)
theorem Qsw (l : List Int) : isD (QpW l) = true := by simp [QpW, isD, QW]
theorem Le.dropT (os : List Ob) {xs : List Ob} {fr fr' : List (Nat × AV)} (h : ∀ o ∈ os, isTL o.cs = true)
  (hfr : ∀ p ∈ fr', p.2 = .any ∨ Qu (fun o => decide (o < os.length)) (fun o => decide (os.length ≤ o)) (os ++ xs) 2 [look fr p.1] = some [p.2]) : Le 0 ⟨fr, os ++ xs⟩ ⟨fr', os⟩ := by
 refine Le.drop os.length 2 (by omega) rfl hfr ?_
 intro i y hy
 have hi : i < os.length := by
  rcases Nat.lt_or_ge i os.length with h | h
  ·exact h
  ·rw [List.getElem?_eq_none h] at hy; cases hy
 refine ⟨y.cs, by rw [List.getElem?_append_left hi]; exact hy, ?_⟩
 simp only [Qu]
 exact frzL_T _ (h y (List.mem_of_getElem? hy))
def Qx3 (c x : Int) (t l : List Int) : AV := if QdV c x l ≠ 0 then .tup [.list 0 [], .int .i64 (QdV c x l)] else .tup [QpW (Qkc c.toNat (Xm c.toNat l) (Qam x t) l.length), .int .i64 0]
theorem QAi (c x : Int) (t l : List Int) : isD (Qx3 c x t l) = true := by unfold Qx3; split <;> simp [isD, isDL, Qsw]
def QrK (P : Prg) (f : Nat) : Prop := ∀ (c x : Int) (t l : List Int), t.length = 16 → I32 t → I32 l → VC P f [shA c x, .agg (ks .i32 t), il l] (Qx3 c x t l)
theorem Qhy : Qbx Qd2.fl := ⟨by simp [Qd2, Qjl, z16], by simp [Qd2, Qjl, z16], fun x hx => by simp [Qd2, Qjl, z16] at hx; omega, fun x hx => by simp [Qd2, Qjl, z16] at hx; omega⟩
def QxU (z : J8) (i : Nat) : Nat → J8 := fun k => if k < i then z else Qd2
theorem QBd (z : J8) : QxU z 0 = fun _ => Qd2 := by funext k; simp [QxU]
theorem Qv6 (z : J8) (i : Nat) : upd (QxU z i) i z = QxU z (i + 1) := by
 funext k
 simp only [upd, QxU]
 split <;> split <;> (try split) <;> first | rfl | omega
theorem Qz9 {z : J8} (h : Qbx z.fl) (i : Nat) : okS (QxU z i) := fun k => by
 unfold QxU; split
 ·exact h
 ·exact Qhy
theorem QBX (z : J8) : six (QxU z 6) = six (fun _ => z) := by simp [six, QxU]
theorem Qv2 {x : Int} (hx : Jk x ≠ 0) {t : List Int} (hl : t.length = 16) (hI : I32 t) : QxT (Qam x t) := ⟨hx, rfl, Qsi hl hI, by simp [Qam]⟩
set_option maxRecDepth 20000 in
theorem QjK {P : Prg} {f fA fM fN fF fO t0 t1 t2 t3 t4 : Nat} (b : Qf P f 83 [.tmp 6, .tmp 7] (Qal fA fM fN fF fO t0 t1 t2 t3 t4)) (hA : Qi9 P fA) (hM : Qd0 P fM) (hN : QkE P fN) (hF : QgW P fF) (hO : QkC P fO) : QrK P f := by
 intro c x t l hl hI hL
 have hk : (ks .i32 t).length = 16 := by simp [Qg, hl]
 have ot := X6 .i32 t
 have tt : (ks .i32 t).take 16 = ks .i32 t := Qo (by omega)
 refine VC.of_walk 1 (by simp [isDL, isD, QZ, QW, shA]) (QAi _ _ _ _) (ACall.of_body b (by simp) ?_)
 have hA' := hA c x l hL
 rw [shA] at hA'
 unfold Qal
 rw [show ([.int .i64 0, .int .i32 0, .int .i64 0, .int .i32 0, .int .i32 0, .int .i32 0, .int .i32 0, .int .i32 0, .int .i32 0, .int .i32 0, .int .i32 0, .int .i32 0, .int .i32 0, .int .i32 0, .int .i32 0, .int .i32 0, .int .i32 0, .int .i32 0, .int .i32 0, .int .i32 0, .int .i32 0, .int .i32 0, .int .i32 0, .int .i32 0, .int .i32 0, .int .i32 0, .int .i32 0, .int .i32 0, .int .i32 0, .int .i32 0, .int .i32 0, .int .i32 0, .int .i32 0, .int .i32 0, .int .i32 0, .int .i64 0, .int .i32 0, .int .i64 0, .int .i32 0, .int .i32 0, .int .i32 0, .int .i32 0, .int .i32 0, .int .i32 0, .int .i32 0, .int .i32 0, .int .i32 0, .int .i32 0, .int .i32 0, .int .i32 0, .int .i32 0, .int .i32 0, .int .i32 0, .int .i32 0, .int .i32 0, .int .i32 0, .int .i32 0, .int .i32 0, .int .i32 0, .int .i32 0, .int .i32 0, .int .i32 0, .int .i32 0, .int .i32 0, .int .i32 0, .int .i32 0, .int .i32 0, .int .i32 0, .int .i32 0, .int .i32 0, .int .i64 0, .int .i32 0, .int .i64 0, .int .i32 0, .int .i32 0, .int .i32 0, .int .i32 0, .int .i32 0, .int .i32 0, .int .i32 0, .int .i32 0, .int .i32 0, .int .i32 0, .int .i32 0, .int .i32 0, .int .i32 0, .int .i32 0, .int .i32 0, .int .i32 0, .int .i32 0, .int .i32 0, .int .i32 0, .int .i32 0, .int .i32 0, .int .i32 0, .int .i32 0, .int .i32 0, .int .i32 0, .int .i32 0, .int .i32 0, .int .i32 0, .int .i32 0, .int .i32 0, .int .i32 0, .int .i32 0, .int .i64 0, .int .i32 0, .int .i64 0, .int .i32 0, .int .i32 0, .int .i32 0, .int .i32 0, .int .i32 0, .int .i32 0, .int .i32 0, .int .i32 0, .int .i32 0, .int .i32 0, .int .i32 0, .int .i32 0, .int .i32 0, .int .i32 0, .int .i32 0, .int .i32 0, .int .i32 0, .int .i32 0, .int .i32 0, .int .i32 0, .int .i32 0, .int .i32 0, .int .i32 0, .int .i32 0, .int .i32 0, .int .i32 0, .int .i32 0, .int .i32 0, .int .i32 0, .int .i32 0, .int .i32 0, .int .i32 0, .int .i64 0, .int .i32 0, .int .i64 0, .int .i32 0, .int .i32 0, .int .i32 0, .int .i32 0, .int .i32 0, .int .i32 0, .int .i32 0, .int .i32 0, .int .i32 0, .int .i32 0, .int .i32 0, .int .i32 0, .int .i32 0, .int .i32 0, .int .i32 0, .int .i32 0, .int .i32 0, .int .i32 0, .int .i32 0, .int .i32 0, .int .i32 0, .int .i32 0, .int .i32 0, .int .i32 0, .int .i32 0, .int .i32 0, .int .i32 0, .int .i32 0, .int .i32 0, .int .i32 0, .int .i32 0, .int .i32 0, .int .i64 0, .int .i32 0, .int .i64 0, .int .i32 0, .int .i32 0, .int .i32 0, .int .i32 0, .int .i32 0, .int .i32 0, .int .i32 0, .int .i32 0, .int .i32 0, .int .i32 0, .int .i32 0, .int .i32 0, .int .i32 0, .int .i32 0, .int .i32 0, .int .i32 0, .int .i32 0, .int .i32 0, .int .i32 0, .int .i32 0, .int .i32 0, .int .i32 0, .int .i32 0, .int .i32 0, .int .i32 0, .int .i32 0, .int .i32 0, .int .i32 0, .int .i32 0, .int .i32 0, .int .i32 0, .int .i32 0] : List AV) = six (fun _ => Qd2) from rfl, ← QbA]
 simp (disch := omega) only [rq, simprocAttr, shA, hk, ot, tt]
 refine Qb.vc hA' ?_
 by_cases h0 : QdV c x l = 0
 ·obtain ⟨k, rfl, hok, hx⟩ := Qrw hL h0
  have hz := Qv2 hx hl hI
  have l0 := Qp1 (S := fun _ => Qd2) (fun _ => Qhy)
  have o0 := QAL (fun _ => Qd2)
  simp (disch := omega) only [rq, simprocAttr, h0]
  refine Qb.vc (hM k l hok) ?_
  obtain ⟨h1, h2, h3, h4, h5, h6⟩ := id hok
  have lm := Qa7 k l
  have hI2 := QkF (c := k) hL
  have tm : isTL (ks .i32 (Xm k l)) = true := Qm _ _
  generalize hm : Xm k l = m at lm hI2 tm
  simp (disch := omega) only [rq, simprocAttr, l0, o0]
  refine Qx.by (ι := Nat) (fun i => ⟨[(36, .int .i64 i), (11, .ref 2 1 0), (9, il m), (4, .ref 1 1 0), (3, .ref 0 1 0)], [⟨t0, 2, 1, [.int .i64 k, .int .i64 x], 0⟩, ⟨t1, 16, 1, ks .i32 t, 0⟩, ⟨t2, 210, 1, six (QxU (Qam x t) i), 0⟩]⟩) (fun i => i ≤ 6) (fun i => 6 - i) 0 (by rw [QBd]; exact Le.slots (by simp [Am.look])) (by omega) ?_
  intro i hi
  have oS := Qz9 hz.2.2.1 i
  have lS := Qp1 oS
  by_cases hlt : i < 6
  ·have e1 := Qvk oS hlt (Qam x t)
   rw [Qv6] at e1
   have lc := Zr hz.2.2.1
   have oc := ZI (Qam x t)
   simp (disch := omega) only [rq, simprocAttr, hk, tt]
   refine Qb.vc (hN x t hl hI) ?_
   simp (disch := omega) only [rq, simprocAttr, Ql1, if_neg hx, lS, lc, oc, e1]
   exact ⟨i + 1, by omega, by omega, Le.slots (by simp [Am.look])⟩
  ·have : i = 6 := by omega
   subst this
   simp (disch := omega) only [rq, simprocAttr, il]
   refine Qx.by (ι := Nat) (fun i => ⟨[(51, .int .i64 i), (50, .int .i64 m.length), (49, il m), (13, .own 3 i), (11, .ref 2 1 0), (3, .ref 0 1 0)], [⟨t0, 2, 1, [.int .i64 k, .int .i64 x], 0⟩, ⟨t1, 16, 1, ks .i32 t, 0⟩, ⟨t2, 210, 1, six (stA k m (Qam x t) i), 0⟩, ⟨t4, 1, i, ks .u32 (Qkc k m (Qam x t) i), 0⟩]⟩) (fun i => i ≤ m.length) (fun i => m.length - i) 0 (by rw [QBW, ← QBX]; exact Le.trans (Le.virt 13 t4 1 (by omega) rfl) (Le.slots (by simp [Am.look, Qkc, il]))) (by omega) ?_
   intro i hi
   have lo := Qhx k m (Qam x t) i
   by_cases hlt : i < m.length
   ·have oS := QBc hI2 hz (c := k) i
    have lS := Qp1 oS
    have hr := Nat.mod_lt i (show 0 < k by omega)
    have e0 := QA1 oS (k := i % k) (by omega)
    rw [QAZ h1] at e0
    have e1 := Qvk oS (k := i % k) (by omega) (JP (stC k m (Qam x t) (i % k) (i / k)) (m.getD i 0))
    rw [Qyb h1] at e1
    have hok2 := Qop (c := k) hI2 hz (i % k) (i / k)
    have hok3 := QlB hok2 (Zq hI2 i)
    have hF' := hF _ (m.getD i 0) hok2 (Zq hI2 i)
    have hO' := hO (Qiw (stC k m (Qam x t) (i % k) (i / k)) (m.getD i 0)) (Jw _)
    have e2 := Qcf (K := .i32) (l := m) (i := i) hlt
    have e3 : ks .u32 (Qkc k m (Qam x t) i) ++ [.int .u32 (Qik (Qiw (stC k m (Qam x t) (i % k) (i / k)) (m.getD i 0)))] = ks .u32 (Qkc k m (Qam x t) (i + 1)) := by rw [JA, ← Qv1]; rfl
    have lc := Zr hok3.2.2.1
    have oc := ZI (JP (stC k m (Qam x t) (i % k) (i / k)) (m.getD i 0))
    have tc : (QY (JP (stC k m (Qam x t) (i % k) (i / k)) (m.getD i 0))).take 35 = QY (JP (stC k m (Qam x t) (i % k) (i / k)) (m.getD i 0)) := Qo (by omega)
    have lz := Zr Qhy
    have oz := ZI Qd2
    have dz : (QY Qd2).drop 35 = [] := List.drop_eq_nil_of_le (by omega)
    have em : (i : Int) % k = (i % k : Nat) := by omega
    simp (disch := omega) only [rq, simprocAttr, il, e2, em, e0]
    refine Qb.vc hF' ?_
    simp (disch := omega) only [rq, simprocAttr, lz, oz, lc, oc, tc, e1, lS, dz, List.append_nil]
    refine Qb.vc hO' ?_
    simp (disch := omega) only [rq, simprocAttr, e3]
    exact ⟨i + 1, by omega, by omega, Le.dropT [_, _, _, _] (by simp [QyO, Qm, isTL, isT]) (by simp [Am.look, Qu, frzL, Qs, frzL_T _ tm])⟩
   ·have : i = m.length := by omega
    subst this
    have e9 : Qx3 k x t l = .tup [QpW (Qkc k m (Qam x t) m.length), .int .i64 0] := by simp [Qx3, h0, hm, lm]
    clear hi hlt
    have hq : ¬ (m.length : Int) < m.length := by omega
    simp (disch := omega) only [rq, simprocAttr, e9]
    simp [QF, Qu, frzL, Qs, isDL, isD, QpW, lo, frzL_T _ (Qm .u32 _)]
 ·have e9 : Qx3 c x t l = .tup [.list 0 [], .int .i64 (QdV c x l)] := by simp [Qx3, h0]
  simp (disch := omega) only [rq, simprocAttr, h0, e9]
  simp [QF, Qu, frzL, Qs, isDL, isD]
def Qm6 (c : Nat) (m : List Int) (z : J8) (k n : Nat) : List Int := (List.range m.length).map fun j => if j % c < k ∨ (j % c = k ∧ j / c < n) then Qzi c m z j else 0
theorem QhG (c : Nat) (m : List Int) (z : J8) (k n : Nat) : (Qm6 c m z k n).length = m.length := by simp [Qm6]
theorem QAE (c : Nat) (m : List Int) (z : J8) : Qm6 c m z 0 0 = List.replicate m.length 0 := by
 apply List.ext_getElem (by simp [Qm6])
 intro i h1 h2
 simp [Qm6]
theorem Qxk {c k : Nat} (n : Nat) (hk : k < c) : (k + n * c) % c = k ∧ (k + n * c) / c = n := by
 rw [Nat.mul_comm, Nat.add_mul_mod_self_left, Nat.mod_eq_of_lt hk, Nat.add_mul_div_left _ _ (by omega), Nat.div_eq_of_lt hk]
 omega
theorem QwS {c k n : Nat} {m : List Int} (hk : k < c) (h : k + n * c < m.length) (z : J8) : (Qm6 c m z k n).set (k + n * c) (Qzi c m z (k + n * c)) = Qm6 c m z k (n + 1) := QdO (by simp [QhG]) fun j hj => by
 have hj' : j < m.length := by simpa [QhG] using hj
 rw [Qlq (by rw [QhG]; exact hj'), Qm6, Qm6, ZG hj', ZG hj']
 have ha := Qxk n hk
 by_cases e : k + n * c = j
 ·subst e
  rw [if_pos rfl, ha.1, ha.2, if_pos (by omega)]
 ·rw [if_neg e]
  have hd := Nat.div_add_mod j c
  by_cases q : j % c < k ∨ (j % c = k ∧ j / c < n)
  ·rw [if_pos q, if_pos (by omega)]
  ·rw [if_neg q, if_neg]
   rintro (h1 | ⟨h1, h2⟩)
   ·omega
   ·have : j / c = n := by omega
    rw [this, h1, Nat.mul_comm] at hd
    omega
theorem QwT {c k q : Nat} {m : List Int} (hc : 1 ≤ c) (h : m.length = c * q) (z : J8) : Qm6 c m z k q = Qm6 c m z (k + 1) 0 := by
 simp only [Qm6]
 apply List.map_congr_left
 intro j hj
 have hj' : j < c * q := by rw [← h]; simpa using hj
 have hd : j / c < q := Nat.div_lt_of_lt_mul hj'
 generalize j / c = d at hd
 generalize Qzi c m z j = v
 by_cases e : j % c < k + 1
 ·rw [if_pos (by omega), if_pos (.inl e)]
 ·rw [if_neg (by omega), if_neg (by omega)]
theorem Qy2 {c : Nat} {m : List Int} (hc : 1 ≤ c) (z : J8) : Qm6 c m z c 0 = Qkc c m z m.length := by
 simp only [Qm6, Qkc]
 apply List.map_congr_left
 intro j hj
 rw [if_pos (.inl (Nat.mod_lt _ (by omega)))]
theorem Qz8 {c k : Nat} (n : Nat) (hk : k < c) (m : List Int) (z : J8) : Qzi c m z (k + n * c) = Qik (Qiw (stC c m z k n) (m.getD (k + n * c) 0)) := by
 rw [Qzi, (Qxk n hk).1, (Qxk n hk).2]
theorem Qr8 (K : IntKind) : ∀ n : Nat, Qe [.int K 0] n = ks K (List.replicate n 0)
 | 0 => rfl
 | n + 1 => by rw [Qe, Qr8 K n]; simp [ks, List.replicate_succ]
def QmL (P : Prg) (f : Nat) : Prop := ∀ (c : Nat) (x : Int) (t l : List Int), t.length = 16 → I32 t → okM c l → Jk x ≠ 0 → VC P f [shA c x, .agg (ks .i32 t), il l] (QpW (Qkc c (Xm c l) (Qam x t) l.length))
set_option maxRecDepth 20000 in
theorem Qqo {P : Prg} {f fM fN fC fS fO t0 t1 t2 t3 : Nat} (b : Qf P f 72 [.tmp 6] (XQ fM fN fC fS fO t0 t1 t2 t3)) (hM : Qd0 P fM) (hN : QkE P fN) (hC : Qjc P fC) (hS : QiW P fS) (hO : QkC P fO) : QmL P f := by
 intro c x t l hl hI hok hx
 have hk : (ks .i32 t).length = 16 := by simp [Qg, hl]
 have ot := X6 .i32 t
 have tt : (ks .i32 t).take 16 = ks .i32 t := Qo (by omega)
 refine VC.of_walk 1 (by simp [isDL, isD, QZ, QW, shA]) (by simp [Qsw]) (ACall.of_body b (by simp) ?_)
 have hz := Qv2 hx hl hI
 obtain ⟨h1, h2, h3, h4, h5, h6⟩ := id hok
 obtain ⟨q, hq⟩ : ∃ q, l.length = c * q := ⟨l.length / c, by have := Nat.div_add_mod l.length c; omega⟩
 have hq2 : q ≤ 4000 := Nat.le_trans (Nat.le_mul_of_pos_left q (by omega)) (hq ▸ h4)
 unfold XQ
 rw [← QbA]
 simp (disch := omega) only [rq, simprocAttr, shA, hk, ot, tt]
 refine Qb.vc (hM c l hok) ?_
 have lm := Qa7 c l
 have hI2 := QkF (c := c) h6
 have tm : isTL (ks .i32 (Xm c l)) = true := Qm _ _
 generalize hm : Xm c l = m at lm hI2 tm
 have e0 : Qe [.int .u32 0] l.length = ks .u32 (Qm6 c m (Qam x t) 0 0) := by rw [QAE, lm, Qr8]
 simp (disch := omega) only [rq, simprocAttr, il, e0]
 refine Qx.by (ι := Nat) (fun k => ⟨[(10, .int .i64 k), (9, .own 2 l.length), (7, il m), (4, .ref 1 1 0), (3, .ref 0 1 0)], [⟨t0, 2, 1, [.int .i64 c, .int .i64 x], 0⟩, ⟨t1, 16, 1, ks .i32 t, 0⟩, ⟨t2, 1, l.length, ks .u32 (Qm6 c m (Qam x t) k 0), 0⟩]⟩) (fun k => k ≤ c) (fun k => c - k) 0 (Le.slots (by simp [Am.look, il, lm])) (by omega) ?_
 intro k hkc
 by_cases hlt : k < c
 ·simp (disch := omega) only [rq, simprocAttr, hk, tt]
  refine Qb.vc (hN x t hl hI) ?_
  have hok0 := hz
  have lz := Zr Qhy
  have oz := ZI Qd2
  have dz : (QY Qd2).drop 35 = [] := List.drop_eq_nil_of_le (by omega)
  have ln := Zr hz.2.2.1
  have on := ZI (Qam x t)
  simp (disch := omega) only [rq, simprocAttr, Ql1, if_neg hx, lz, oz, dz, ln, on, List.append_nil, List.take_zero, List.nil_append]
  refine Qb.vc (hC c k q m h1 hlt (by omega) (by omega)) ?_
  have lw := Qlz c m k q
  have tw : isTL (ks .i32 (QuD c m k q)) = true := Qm _ _
  simp (disch := omega) only [rq, simprocAttr, il]
  refine Qx.by (ι := Nat) (fun n => ⟨[(14, .int .i64 n), (13, il (QuD c m k q)), (11, .ref 3 1 0), (10, .int .i64 k), (9, .own 2 l.length), (7, il m), (4, .ref 1 1 0), (3, .ref 0 1 0)], [⟨t0, 2, 1, [.int .i64 c, .int .i64 x], 0⟩, ⟨t1, 16, 1, ks .i32 t, 0⟩, ⟨t2, 1, l.length, ks .u32 (Qm6 c m (Qam x t) k n), 0⟩, ⟨t3, 35, 1, QY (stC c m (Qam x t) k n), 0⟩]⟩) (fun n => n ≤ q) (fun n => q - n) 0 (Le.slots (by simp [Am.look, il])) (by omega) ?_
  intro n hn
  have hst := Qop (c := c) hI2 hz k n
  have lst := Zr hst.2.2.1
  have ost := ZI (stC c m (Qam x t) k n)
  have tst : (QY (stC c m (Qam x t) k n)).take 35 = QY (stC c m (Qam x t) k n) := Qo (by omega)
  have dst : (QY (stC c m (Qam x t) k n)).drop 35 = [] := List.drop_eq_nil_of_le (by omega)
  have lcod := QhG c m (Qam x t) k n
  by_cases hnq : n < q
  ·have hin : k + n * c < m.length := by rw [lm, hq]; exact (QvY hlt).2 hnq
   have e1 := Qcf (K := .i32) (l := QuD c m k q) (i := n) (by omega)
   rw [Qv0 hnq] at e1
   have hx2 := Zq hI2 (k + n * c)
   have hS' := hS _ (m.getD (k + n * c) 0) hst hx2
   have hO' := hO (Qiw (stC c m (Qam x t) k n) (m.getD (k + n * c) 0)) (Jw _)
   rw [← Qz8 n hlt] at hO'
   have hst2 := Qop (c := c) hI2 hz k (n + 1)
   have eC : JP (stC c m (Qam x t) k n) (m.getD (k + n * c) 0) = stC c m (Qam x t) k (n + 1) := rfl
   rw [eC] at hS'
   have lst2 := Zr hst2.2.2.1
   have ost2 := ZI (stC c m (Qam x t) k (n + 1))
   have tst2 : (QY (stC c m (Qam x t) k (n + 1))).take 35 = QY (stC c m (Qam x t) k (n + 1)) := Qo (by omega)
   have e2 := Qwh (K := .u32) (l := Qm6 c m (Qam x t) k n) (i := k + n * c) (by omega) (Qzi c m (Qam x t) (k + n * c))
   rw [QwS hlt hin] at e2
   simp (disch := omega) only [rq, simprocAttr, il, tst, e1]
   refine QU.vc hS' ?_
   have en : (n : Int) * c = ((n * c : Nat) : Int) := by simp
   simp (disch := omega) only [rq, simprocAttr, lz, oz, dz, lst2, ost2, tst2, en, List.append_nil, List.take_zero, List.nil_append]
   refine QU.vc hO' ?_
   simp (disch := omega) only [rq, simprocAttr, lst, lst2, ost2, tst2, dst, e2, List.append_nil, List.take_zero, List.nil_append]
   exact ⟨n + 1, by omega, by omega, Le.dropT [_, _, _, _] (by simp [Qow, Qm, isTL, isT]) (by simp [Am.look, Qu, frzL, Qs, frzL_T _ tm, frzL_T _ tw])⟩
  ·have : n = q := by omega
   subst this
   have e9 := QwT (k := k) h1 (show m.length = c * n by omega) (Qam x t)
   rw [e9]
   simp (disch := omega) only [rq, simprocAttr, lw, il]
   exact ⟨k + 1, by omega, by omega, Le.dropT [_, _, _] (by simp [Qm, isTL, isT]) (by simp [Am.look, Qu, frzL, Qs, frzL_T _ tm])⟩
 ·have : k = c := by omega
  subst this
  rw [Qy2 h1]
  have lo := Qhx k m (Qam x t) m.length
  rw [lm] at lo ⊢
  simp (disch := omega) only [rq, simprocAttr]
  simp [QF, Qu, frzL, Qs, isDL, isD, QpW, lo, frzL_T _ (Qm .u32 _)]
def QAX : Sh := .tuple (List.replicate 16 (.int .i32))
theorem Qkn (K : IntKind) : ∀ (n : Nat) (cs0 : List AV), FitsL (List.replicate n (.int K)) cs0 → ∃ t : List Int, cs0 = ks K t ∧ t.length = n ∧ ∀ x ∈ t, K.min ≤ x ∧ x ≤ K.max
 | 0, cs0, h => by
  simp only [List.replicate, FitsL] at h
  exact ⟨[], by simpa [ks] using h, rfl, by simp⟩
 | n + 1, cs0, h => by
  simp only [List.replicate, FitsL, Qc6] at h
  obtain ⟨_, r, rfl, ⟨x, rfl, h1, h2⟩, h3⟩ := h
  obtain ⟨t, rfl, h4, h5⟩ := Qkn K n r h3
  exact ⟨x :: t, by simp [ks], by simp [h4], fun y hy => by
   rcases List.mem_cons.1 hy with rfl | hy
   ·exact ⟨h1, h2⟩
   ·exact h5 y hy⟩
theorem QBr {cs0 : List AV} (h : Qc6 QAX cs0) : ∃ t : List Int, cs0 = ks .i32 t ∧ t.length = 16 ∧ I32 t := by
 simp only [QAX, Qc6] at h
 obtain ⟨t, h1, h2, h3⟩ := Qkn .i32 16 cs0 h
 exact ⟨t, h1, h2, fun x hx => by have := h3 x hx; simpa [IntKind.min, IntKind.max, IntKind.signed, IntKind.bits] using this⟩
def U32 (l : List Int) : Prop := ∀ x ∈ l, 0 ≤ x ∧ x < 4294967296
def Qit (r n : Int) : AV := if r < 1 ∨ 1048576 < r then .tup [.int .i64 0, .int .i64 2] else if n < 1 ∨ 4000 < n then .tup [.int .i64 0, .int .i64 2] else if 1000 < (n + QL r - 1) / QL r then .tup [.int .i64 0, .int .i64 4] else .tup [.int .i64 ((n + QL r - 1) / QL r), .int .i64 0]
theorem Qwm (r n : Int) : isD (Qit r n) = true := by unfold Qit; split <;> (try split) <;> (try split) <;> rfl
def QaD (P : Prg) (f : Nat) : Prop := ∀ r n : Int, VC P f [.int .i64 r, .int .i64 n] (Qit r n)
theorem QlF {P : Prg} {f fL : Nat} (b : Qf P f 32 [.tmp 4, .tmp 5] (QaM fL)) (hL : QcU P fL) : QaD P f := by
 intro r n
 refine VC.of_acall rfl (Qwm _ _) (ACall.of_body b (by simp) ?_)
 have hL' := hL r
 simp (disch := omega) only [rq, simprocAttr, QaM]
 refine Qb.vc hL' ?_
 by_cases h1 : r < 1 ∨ 1048576 < r
 ·have e1 : QcZ r = .tup [.int .i64 0, .int .i64 2] := by rw [QcZ, if_pos h1]
  have e2 : Qit r n = .tup [.int .i64 0, .int .i64 2] := by rw [Qit, if_pos h1]
  simp (disch := omega) only [rq, simprocAttr, e1, e2]
 have e1 : QcZ r = .tup [.int .i64 (QL r), .int .i64 0] := by rw [QcZ, if_neg h1]
 have p1 := Xw r
 have p2 := QlE (r := r) (by omega)
 by_cases h2 : n < 1
 ·have e2 : Qit r n = .tup [.int .i64 0, .int .i64 2] := by rw [Qit, if_neg h1, if_pos (.inl h2)]
  simp (disch := omega) only [rq, simprocAttr, e1, e2]
 by_cases h3 : 4000 < n
 ·have e2 : Qit r n = .tup [.int .i64 0, .int .i64 2] := by rw [Qit, if_neg h1, if_pos (.inr h3)]
  simp (disch := omega) only [rq, simprocAttr, e1, e2]
 have e2 : Qit r n = if 1000 < (n + QL r - 1) / QL r then .tup [.int .i64 0, .int .i64 4] else .tup [.int .i64 ((n + QL r - 1) / QL r), .int .i64 0] := by
  rw [Qit, if_neg h1, if_neg (by omega)]
 generalize QL r = L at *
 have q0 : (n + L - 1).tdiv L = (n + L - 1) / L := Int.tdiv_eq_ediv_of_nonneg (by omega)
 have q1 : 0 ≤ (n + L - 1) / L := Int.ediv_nonneg (by omega) (by omega)
 have q2 : (n + L - 1) / L ≤ n + L - 1 := Int.ediv_le_self _ (by omega)
 generalize hq : (n + L - 1) / L = Q at *
 by_cases h4 : 1000 < Q
 ·rw [if_pos h4] at e2
  simp (disch := omega) only [rq, simprocAttr, e1, q0, hq, e2]
 ·rw [if_neg h4] at e2
  simp (disch := omega) only [rq, simprocAttr, e1, q0, hq, e2]
def QaC (P : Prg) (f : Nat) : Prop := ∀ (c x r : Int) (l : List Int), VC P f [.agg [.int .i64 c, .int .i64 x, .int .i64 r, il l]] (shA c x)
theorem Qug {P : Prg} {f t0 t1 : Nat} (b : Qf P f 8 [.cell 2 t1] (QcN t0 t1)) (ht : Q6 P t1 = some (some 2)) : QaC P f := by
 intro c x r l
 refine VC.of_acall (by simp [isDL, isD, QZ]) rfl (ACall.of_body b (by simp) ?_)
 simp (disch := omega) only [rq, simprocAttr, QcN, il, QD, ht, shA]
theorem Qqk {P : Prg} {f t0 t1 : Nat} (b : Qf P f 8 [.cell 2 t1] (XN t0 t1)) (ht : Q6 P t1 = some (some 2)) : QaC P f := by
 intro c x r l
 refine VC.of_acall (by simp [isDL, isD, QZ]) rfl (ACall.of_body b (by simp) ?_)
 simp (disch := omega) only [rq, simprocAttr, XN, il, QD, ht, shA]
def QjS (r n : Int) : Int := if r < 1 ∨ 1048576 < r then 2 else if n < 1 ∨ 4000 < n then 2 else if 1000 < (n + QL r - 1) / QL r then 4 else 0
theorem Ql0 (r n : Int) : ∃ k : Int, Qit r n = .tup [.int .i64 k, .int .i64 (QjS r n)] := by
 unfold Qit QjS
 split
 ·exact ⟨_, rfl⟩
 split
 ·exact ⟨_, rfl⟩
 split
 ·exact ⟨_, rfl⟩
 ·exact ⟨_, rfl⟩
def Xz (c x r n : Int) : Int := if ZC c x ≠ 0 then 8 else if n < 1 then 8 else if 4000 / c < n then 8 else if QjS r n ≠ 0 then 8 else 0
def QrN (P : Prg) (f : Nat) : Prop := ∀ (c x r n : Int) (l : List Int), VC P f [.agg [.int .i64 c, .int .i64 x, .int .i64 r, il l], .int .i64 n] (.int .i64 (Xz c x r n))
theorem QwX {P : Prg} {f fS fE fC t0 : Nat} (b : Qf P f 31 [.tmp 4] (QdC fS fE fC t0)) (hS : QaC P fS) (hE : QbO P fE) (hC : QaD P fC) : QrN P f := by
 intro c x r n l
 refine VC.of_acall (by simp [isDL, isD, QZ]) rfl (ACall.of_body b (by simp) ?_)
 have hS' := hS c x r l
 have hE' := hE c x
 rw [shA] at hS' hE'
 rw [il] at hS'
 obtain ⟨k, ek⟩ := Ql0 r n
 have hC' := hC r n
 rw [ek] at hC'
 simp (disch := omega) only [rq, simprocAttr, QdC, il]
 refine Qb.vc hS' ?_
 simp (disch := omega) only [rq, simprocAttr]
 refine Qb.vc hE' ?_
 rcases ZB c x with h1 | ⟨h1, h2, h3, h4⟩
 ·have e9 : Xz c x r n = 8 := by simp [Xz, h1]
  simp (disch := omega) only [rq, simprocAttr, h1, e9]
 have q0 : (4000 : Int).tdiv c = 4000 / c := Int.tdiv_eq_ediv_of_nonneg (by omega)
 have q1 : 0 ≤ (4000 : Int) / c := Int.ediv_nonneg (by omega) (by omega)
 have q2 : (4000 : Int) / c ≤ 4000 := Int.ediv_le_self _ (by omega)
 by_cases h5 : n < 1
 ·have e9 : Xz c x r n = 8 := by simp [Xz, h5]
  simp (disch := omega) only [rq, simprocAttr, h1, e9]
 by_cases h6 : 4000 / c < n
 ·have e9 : Xz c x r n = 8 := by simp [Xz, h6]
  simp (disch := omega) only [rq, simprocAttr, h1, e9, q0]
 simp (disch := omega) only [rq, simprocAttr, h1, q0]
 refine Qb.vc hC' ?_
 by_cases h7 : QjS r n = 0
 ·have e9 : Xz c x r n = 0 := by simp [Xz, h1, h5, h6, h7]
  simp (disch := omega) only [rq, simprocAttr, h7, e9]
 ·have e9 : Xz c x r n = 8 := by simp [Xz, h7]
  simp (disch := omega) only [rq, simprocAttr, h7, e9]
def Zc (c x r : Int) (l : List Int) : Int := if c < 1 then 8 else if (l.length : Int) % c ≠ 0 then 8 else if Xz c x r (l.length / c) ≠ 0 then 8 else if Q3 x l ≠ 0 then 8 else 0
theorem QtW (c x r n : Int) : Xz c x r n = 8 ∨ Xz c x r n = 0 := by
 unfold Xz; split <;> (try split) <;> (try split) <;> (try split) <;> simp
def Z4 (P : Prg) (f : Nat) : Prop := ∀ (c x r : Int) (l : List Int), I32 l → l.length ≤ 1000000 → VC P f [.agg [.int .i64 c, .int .i64 x, .int .i64 r, il l]] (.int .i64 (Zc c x r l))
theorem Quj {P : Prg} {f fH fW t0 : Nat} (b : Qf P f 33 [.tmp 2] (J3 fH fW t0)) (hH : QrN P fH) (hW : QcT P fW) : Z4 P f := by
 intro c x r l hI hl
 ·refine VC.of_acall (by simp [isDL, isD, QZ]) rfl (ACall.of_body b (by simp) ?_)
  by_cases h1 : c < 1
  ·have e9 : Zc c x r l = 8 := by simp [Zc, h1]
   simp (disch := omega) only [rq, simprocAttr, J3, il, e9]
  have hm := Qbi (n := l.length) (c := c) (by omega)
  have hd := QoO (n := l.length) (c := c) (by omega)
  have q0 : (l.length : Int).tdiv c = l.length / c := Int.tdiv_eq_ediv_of_nonneg (by omega)
  by_cases h2 : (l.length : Int) % c = 0
  ·have hH' := hH c x r (l.length / c) l
   have hW' := hW x l hI
   rw [il] at hH' hW'
   simp (disch := omega) only [rq, simprocAttr, J3, il, h2, q0]
   refine QU.vc hH' ?_
   rcases QtW c x r (l.length / c) with h3 | h3
   ·have e9 : Zc c x r l = 8 := by simp [Zc, h3]
    simp (disch := omega) only [rq, simprocAttr, h3, e9]
   ·simp (disch := omega) only [rq, simprocAttr, h3]
    refine Qb.vc hW' ?_
    by_cases h4 : Q3 x l = 0
    ·have e9 : Zc c x r l = 0 := by simp [Zc, h1, h2, h3, h4]
     simp (disch := omega) only [rq, simprocAttr, h4, e9]
    ·have e9 : Zc c x r l = 8 := by simp [Zc, h4]
     simp (disch := omega) only [rq, simprocAttr, h4, e9]
  ·have e9 : Zc c x r l = 8 := by simp [Zc, h2]
   simp (disch := omega) only [rq, simprocAttr, J3, il, h2, e9]
def QcG (c x n : Int) : Int := if ZC c x ≠ 0 then 2 else if n < 1 then 2 else if 4000 / c < n then 2 else 0
def QrP (P : Prg) (f : Nat) : Prop := ∀ c x n : Int, VC P f [shA c x, .int .i64 n] (.int .i64 (QcG c x n))
theorem Qqn {P : Prg} {f fE t0 : Nat} (b : Qf P f 19 [.tmp 4] (XP fE t0)) (hE : QbO P fE) : QrP P f := by
 intro c x n
 refine VC.of_acall (by simp [isDL, isD, shA]) rfl (ACall.of_body b (by simp) ?_)
 have hE' := hE c x
 rw [shA] at hE'
 simp (disch := omega) only [rq, simprocAttr, XP, shA]
 refine Qb.vc hE' ?_
 rcases ZB c x with h1 | ⟨h1, h2, h3, h4⟩
 ·have e9 : QcG c x n = 2 := by simp [QcG, h1]
  simp (disch := omega) only [rq, simprocAttr, h1, e9]
 have q0 : (4000 : Int).tdiv c = 4000 / c := Int.tdiv_eq_ediv_of_nonneg (by omega)
 have q1 : 0 ≤ (4000 : Int) / c := Int.ediv_nonneg (by omega) (by omega)
 have q2 : (4000 : Int) / c ≤ 4000 := Int.ediv_le_self _ (by omega)
 by_cases h5 : n < 1
 ·have e9 : QcG c x n = 2 := by simp [QcG, h5]
  simp (disch := omega) only [rq, simprocAttr, h1, e9]
 by_cases h6 : 4000 / c < n
 ·have e9 : QcG c x n = 2 := by simp [QcG, h6]
  simp (disch := omega) only [rq, simprocAttr, h1, e9, q0]
 ·have e9 : QcG c x n = 0 := by simp [QcG, h1, h5, h6]
  simp (disch := omega) only [rq, simprocAttr, h1, e9, q0]
def Q7 (L n : Nat) : List Int := List.replicate ((n - 1) / L) (L : Int) ++ [(n : Int) - ((n - 1) / L * L : Nat)]
theorem Xx (L n : Nat) : (Q7 L n).length = (n - 1) / L + 1 := by simp [Q7]
theorem Qr7 (k : Nat) (a : Int) : List.replicate k a ++ [a] = List.replicate (k + 1) a := by rw [List.replicate_succ']
def Qjj (l : List Int) : AV := .list l.length (ks .i64 l)
theorem QdN (l : List Int) : isD (Qjj l) = true := by simp [Qjj, isD, QW]
def Qpj (r n : Int) : AV := if r < 1 ∨ 1048576 < r ∨ n < 1 ∨ 4000 < n then .tup [.list 0 [], .int .i64 2] else if 1000 < (Q7 (QL r).toNat n.toNat).length then .tup [.list 0 [], .int .i64 4] else .tup [Qjj (Q7 (QL r).toNat n.toNat), .int .i64 0]
theorem QAp (r n : Int) : isD (Qpj r n) = true := by unfold Qpj; split <;> (try split) <;> simp [isD, isDL, QdN]
def QrQ (P : Prg) (f : Nat) : Prop := ∀ r n : Int, VC P f [.int .i64 r, .int .i64 n] (Qpj r n)
theorem QvD {P : Prg} {f fL t0 : Nat} (b : Qf P f 41 [.tmp 4, .tmp 5] (Q5 fL t0)) (hL : QcU P fL) : QrQ P f := by
 intro r n
 refine VC.of_walk 1 rfl (QAp _ _) (ACall.of_body b (by simp) ?_)
 have hL' := hL r
 by_cases h1 : r < 1 ∨ 1048576 < r
 ·have e1 : QcZ r = .tup [.int .i64 0, .int .i64 2] := by rw [QcZ, if_pos h1]
  have e2 : Qpj r n = .tup [.list 0 [], .int .i64 2] := by rw [Qpj, if_pos (by omega)]
  simp (disch := omega) only [rq, simprocAttr, Q5]
  refine Qb.vc hL' ?_
  simp (disch := omega) only [rq, simprocAttr, e1, e2]
  simp [QF, Qu, frzL, Qs, isDL, isD]
 have e1 : QcZ r = .tup [.int .i64 (QL r), .int .i64 0] := by rw [QcZ, if_neg h1]
 rw [e1] at hL'
 have p1 := Xw r
 have p2 := QlE (r := r) (by omega)
 by_cases h2 : n < 1
 ·have e2 : Qpj r n = .tup [.list 0 [], .int .i64 2] := by rw [Qpj, if_pos (by omega)]
  simp (disch := omega) only [rq, simprocAttr, Q5]
  refine Qb.vc hL' ?_
  simp (disch := omega) only [rq, simprocAttr, e2]
  simp [QF, Qu, frzL, Qs, isDL, isD]
 by_cases h3 : 4000 < n
 ·have e2 : Qpj r n = .tup [.list 0 [], .int .i64 2] := by rw [Qpj, if_pos (by omega)]
  simp (disch := omega) only [rq, simprocAttr, Q5]
  refine Qb.vc hL' ?_
  simp (disch := omega) only [rq, simprocAttr, e2]
  simp [QF, Qu, frzL, Qs, isDL, isD]
 have e2 : Qpj r n = if 1000 < (Q7 (QL r).toNat n.toNat).length then .tup [.list 0 [], .int .i64 4] else .tup [Qjj (Q7 (QL r).toNat n.toNat), .int .i64 0] := by rw [Qpj, if_neg (by omega)]
 generalize QL r = Li at *
 obtain ⟨L, rfl⟩ : ∃ L : Nat, Li = L := ⟨Li.toNat, by omega⟩
 obtain ⟨m, rfl⟩ : ∃ m : Nat, n = m := ⟨n.toNat, by omega⟩
 simp only [Int.toNat_natCast] at e2
 have g1 : (m - 1) / L * L ≤ m - 1 := Nat.div_mul_le_self _ _
 have g2 : m - 1 < ((m - 1) / L + 1) * L := by
  have := Nat.lt_div_mul_add (a := m - 1) (b := L) (by omega)
  rw [Nat.add_mul, Nat.one_mul]; omega
 rw [Nat.add_mul, Nat.one_mul] at g2
 have g3 : (m - 1) / L ≤ m - 1 := Nat.div_le_self _ _
 have ll := Xx L m
 have lf : Q7 L m = List.replicate ((m - 1) / L) (L : Int) ++ [(m : Int) - ((m - 1) / L * L : Nat)] := rfl
 generalize hq : (m - 1) / L = q at *
 simp (disch := omega) only [rq, simprocAttr, Q5]
 refine Qb.vc hL' ?_
 simp (disch := omega) only [rq, simprocAttr]
 refine Qx.by (ι := Option Nat) (fun i => match i with
   | some k => ⟨[(1, .int .i64 ((m : Int) - (k * L : Nat))), (8, .own 0 k), (6, .int .i64 L)], [⟨t0, 1, k, ks .i64 (List.replicate k (L : Int)), 0⟩]⟩
   | none => ⟨[(1, .int .i64 0), (8, .own 0 (q + 1)), (6, .int .i64 L)], [⟨t0, 1, q + 1, ks .i64 (Q7 L m), 0⟩]⟩)
  (fun i => match i with | some k => k ≤ q | none => True) (fun i => match i with | some k => q - k + 1 | none => 0) (some 0)
  (by simp only [Nat.zero_mul]; exact Le.trans (Le.virt 8 t0 1 (by omega) rfl) (Le.slots (by simp [Am.look]))) (by simp) ?_
 intro i hi
 cases i with
 | some k =>
  simp only at hi
  have g4 : k * L ≤ q * L := Nat.mul_le_mul_right L hi
  have lr : (List.replicate k (L : Int)).length = k := by simp
  by_cases hk : k < q
  ·have g5 : (k + 1) * L ≤ q * L := Nat.mul_le_mul_right L (by omega)
   rw [Nat.add_mul, Nat.one_mul] at g5
   simp (disch := omega) only [rq, simprocAttr, JA, Qr7, lr]
   refine ⟨some (k + 1), by simp only; omega, by simp only; omega, ?_⟩
   exact Le.drop1 (Qm _ _) (by simp [Am.look, Qu, frzL, Qs, Nat.add_mul]; omega)
  ·have : k = q := by omega
   subst this
   simp (disch := omega) only [rq, simprocAttr, JA, lr, ← lf]
   refine ⟨none, trivial, by simp only; omega, ?_⟩
   exact Le.drop1 (Qm _ _) (by simp [Am.look, Qu, frzL, Qs])
 | none =>
  by_cases h9 : 1000 < (Q7 L m).length
  ·rw [if_pos h9] at e2
   simp (disch := omega) only [rq, simprocAttr, e2]
   simp [QF, Qu, frzL, Qs, isDL, isD]
  ·rw [if_neg h9] at e2
   simp (disch := omega) only [rq, simprocAttr, e2]
   simp [QF, Qu, frzL, Qs, isDL, isD, Qjj, ll, frzL_T _ (Qm .i64 _)]
theorem QAM (r n : Int) : (∃ k : Int, Qpj r n = .tup [.list 0 [], .int .i64 k] ∧ Qit r n = .tup [.int .i64 0, .int .i64 k]) ∨
  (∃ l : List Int, Qpj r n = .tup [Qjj l, .int .i64 0] ∧ Qit r n = .tup [.int .i64 l.length, .int .i64 0]) := by
 by_cases h1 : r < 1 ∨ 1048576 < r
 ·exact .inl ⟨2, by rw [Qpj, if_pos (by omega)], by rw [Qit, if_pos h1]⟩
 by_cases h2 : n < 1 ∨ 4000 < n
 ·exact .inl ⟨2, by rw [Qpj, if_pos (by omega)], by rw [Qit, if_neg h1, if_pos h2]⟩
 have p1 := Xw r
 have e : (n + QL r - 1) / QL r = (Q7 (QL r).toNat n.toNat).length := by
  generalize QL r = Li at *
  obtain ⟨L, rfl⟩ : ∃ L : Nat, Li = L := ⟨Li.toNat, by omega⟩
  obtain ⟨m, rfl⟩ : ∃ m : Nat, n = m := ⟨n.toNat, by omega⟩
  rw [Int.toNat_natCast, Int.toNat_natCast, Xx]
  have : (m : Int) + L - 1 = ((m - 1 + L : Nat) : Int) := by omega
  rw [this, ← Int.natCast_ediv, Nat.add_div_right _ (by omega)]
 by_cases h3 : 1000 < (Q7 (QL r).toNat n.toNat).length
 ·exact .inl ⟨4, by rw [Qpj, if_neg (by omega), if_pos h3], by rw [Qit, if_neg h1, if_neg h2, e, if_pos (by omega)]⟩
 ·exact .inr ⟨_, by rw [Qpj, if_neg (by omega), if_neg h3], by rw [Qit, if_neg h1, if_neg h2, e, if_neg (by omega)]⟩
theorem Qqm {P : Prg} {f fA : Nat} (b : Qf P f 17 [.tmp 4, .tmp 5] (ZD fA)) (hA : QrQ P fA) : QaD P f := by
 intro r n
 refine VC.of_acall rfl (Qwm _ _) (ACall.of_body b (by simp) ?_)
 have hA' := hA r n
 rcases QAM r n with ⟨k, e1, e2⟩ | ⟨l, e1, e2⟩
 ·rw [e1] at hA'
  simp (disch := omega) only [rq, simprocAttr, ZD]
  refine Qb.vc hA' ?_
  simp (disch := omega) only [rq, simprocAttr, e2, List.length_nil]
  try simp
 ·rw [e1] at hA'
  simp (disch := omega) only [rq, simprocAttr, ZD]
  refine Qb.vc hA' ?_
  simp (disch := omega) only [rq, simprocAttr, Qjj, e2]
theorem Qie (c x r n : Int) : Xz c x r n = if QcG c x n = 0 ∧ QjS r n = 0 then 0 else 8 := by
 unfold Xz QcG
 by_cases h1 : ZC c x = 0 <;> by_cases h2 : n < 1 <;> by_cases h3 : 4000 / c < n <;> by_cases h4 : QjS r n = 0 <;> simp [h1, h2, h3, h4]
theorem QfU {c x r : Int} {l : List Int} : Zc c x r l = if QdV c x l = 0 ∧ Xz c x r (l.length / c) = 0 then 0 else 8 := by
 unfold Zc QdV
 by_cases h0 : Xz c x r (l.length / c) = 0
 ·have h0' := h0
  rw [Qie] at h0'
  have ha : QcG c x (l.length / c) = 0 := by
   by_cases h : QcG c x (l.length / c) = 0 ∧ QjS r (l.length / c) = 0
   ·exact h.1
   ·rw [if_neg h] at h0'; cases h0'
  have hE : ZC c x = 0 := by
   by_cases h : ZC c x = 0
   ·exact h
   ·simp [QcG, h] at ha
  have hn : ¬ (l.length : Int) / c < 1 := by
   intro h
   simp [QcG, h] at ha
  have hc : ¬ c < 1 := by
   rcases ZB c x with h | h <;> omega
  have hl : l.length ≠ 0 := by
   intro h
   rw [h] at hn
   simp at hn
  by_cases h2 : (l.length : Int) % c = 0 <;> by_cases h3 : Q3 x l = 0 <;> simp [hE, hc, hl, h0, h2, h3]
 ·simp [h0]
def QiZ (P : Prg) (f : Nat) : Prop := ∀ (c x r n : Int) (l : List Int), VC P f [.agg [.int .i64 c, .int .i64 x, .int .i64 r, il l], .int .i64 n] (.bool (decide (Xz c x r n = 0)))
theorem Qty {P : Prg} {f fS fA fC t0 : Nat} (b : Qf P f 21 [.tmp 4] (Ja fS fA fC t0)) (hS : QaC P fS) (hA : QrP P fA) (hC : QaD P fC) : QiZ P f := by
 intro c x r n l
 refine VC.of_acall (by simp [isDL, isD, QZ]) rfl (ACall.of_body b (by simp) ?_)
 have hS' := hS c x r l
 have hA' := hA c x n
 rw [shA] at hS' hA'
 rw [il] at hS'
 obtain ⟨k, ek⟩ := Ql0 r n
 have hC' := hC r n
 rw [ek] at hC'
 simp (disch := omega) only [rq, simprocAttr, Ja, il]
 refine Qb.vc hS' ?_
 simp (disch := omega) only [rq, simprocAttr]
 refine Qb.vc hA' ?_
 by_cases h1 : QcG c x n = 0
 ·simp (disch := omega) only [rq, simprocAttr, h1]
  refine Qb.vc hC' ?_
  by_cases h7 : QjS r n = 0
  ·have e9 : Xz c x r n = 0 := by rw [Qie, if_pos ⟨h1, h7⟩]
   simp (disch := omega) only [rq, simprocAttr, h7, e9]
   try simp
  ·have e9 : Xz c x r n = 8 := by rw [Qie, if_neg (by simp [h7])]
   simp (disch := omega) only [rq, simprocAttr, e9]
   try simp [h7]
 ·have e9 : Xz c x r n = 8 := by rw [Qie, if_neg (by simp [h1])]
  simp (disch := omega) only [rq, simprocAttr, h1, e9]
  try simp
theorem Qql {P : Prg} {f fS fA fH t0 : Nat} (b : Qf P f 20 [.tmp 2] (XO fS fA fH t0)) (hS : QaC P fS) (hA : Qi9 P fA) (hH : QiZ P fH) : Z4 P f := by
 intro c x r l hI hl
 refine VC.of_acall (by simp [isDL, isD, QZ]) rfl (ACall.of_body b (by simp) ?_)
 have hS' := hS c x r l
 have hA' := hA c x l hI
 have hH' := hH c x r (l.length / c) l
 rw [shA] at hS' hA'
 rw [il] at hS' hA' hH'
 simp (disch := omega) only [rq, simprocAttr, XO, il]
 refine QU.vc hS' ?_
 simp (disch := omega) only [rq, simprocAttr]
 refine QU.vc hA' ?_
 by_cases h1 : QdV c x l = 0
 ·have hc : 1 ≤ c := by
   obtain ⟨k, rfl, hk, _⟩ := Qrw hI h1
   have := hk.1
   omega
  have hd := QoO (n := l.length) hc
  have q0 : (l.length : Int).tdiv c = l.length / c := Int.tdiv_eq_ediv_of_nonneg (by omega)
  simp (disch := omega) only [rq, simprocAttr, h1, q0]
  refine QU.vc hH' ?_
  by_cases h2 : Xz c x r (l.length / c) = 0
  ·have e9 : Zc c x r l = 0 := by rw [QfU, if_pos ⟨h1, h2⟩]
   simp (disch := omega) only [rq, simprocAttr, h2, e9, decide_true, Bool.not_true]
  ·have e9 : Zc c x r l = 8 := by rw [QfU, if_neg (by simp [h2])]
   have e8 : decide (Xz c x r (l.length / c) = 0) = false := by simp [h2]
   simp (disch := omega) only [rq, simprocAttr, e8, e9, Bool.not_false]
 ·have e9 : Zc c x r l = 8 := by rw [QfU, if_neg (by simp [h1])]
  simp (disch := omega) only [rq, simprocAttr, h1, e9]
def clA (c x r : Int) (l : List Int) : AV := .agg [.int .i64 c, .int .i64 x, .int .i64 r, il l]
end Go.Am
