/- What the functions that the law reaches return, for every program that has their code; the conditions stand in each statement. -/
import Derived.Test.YtpipccfcpeemfacGreatDoorEncodeSameD1
set_option linter.unusedSectionVars false
set_option linter.unusedSimpArgs false
set_option linter.unusedVariables false
namespace Go.Am
open Go.RowKit
def leN : List UInt8 → Nat
 | [] => 0
 | b :: l => b.toNat + 256 * leN l
theorem Qev : ∀ l : List UInt8, leN l < 2 ^ (8 * l.length)
 | [] => by simp [leN]
 | b :: l => by
  have h1 := Qev l
  have h2 := b.toNat_lt
  have h3 : 2 ^ (8 * (b :: l).length) = 256 * 2 ^ (8 * l.length) := by
   rw [List.length_cons, Nat.mul_add, Nat.pow_add, Nat.mul_comm]
  rw [h3]
  simp only [leN]
  omega
theorem Qhk : ∀ (a b : List UInt8), leN (a ++ b) = leN a + 2 ^ (8 * a.length) * leN b
 | [], b => by simp [leN]
 | x :: a, b => by
  have h3 : 2 ^ (8 * (x :: a).length) = 256 * 2 ^ (8 * a.length) := by
   rw [List.length_cons, Nat.mul_add, Nat.pow_add, Nat.mul_comm]
  rw [h3]
  simp only [List.cons_append, leN, Qhk a b, Nat.mul_add, Nat.mul_assoc]
  omega
theorem Qua {l : List UInt8} (h : l.length ≤ 8) : leN l < 18446744073709551616 := by
 have h1 := Qev l
 have h2 : 2 ^ (8 * l.length) ≤ 2 ^ 64 := Nat.pow_le_pow_right (by omega) (by omega)
 omega
theorem Qt9 {l : List UInt8} {k : Nat} (h : k < l.length) : leN (l.take (k + 1)) = leN (l.take k) + l[k].toNat * 2 ^ (8 * k) := by
 rw [List.take_succ_eq_append_getElem h, Qhk]
 simp [leN, Nat.min_eq_left (Nat.le_of_lt h), Nat.mul_comm]
def Qed (P : Prg) (f : Nat) : Prop := ∀ l : List UInt8, 1 ≤ l.length → l.length ≤ 8 → VC P f [bs l] (.tup [.int .u64 (leN l), .int .i64 0])
set_option maxRecDepth 10000 in
theorem Qt7 {P : Prg} {f : Nat} (b : Body P f 31 [.tmp 2, .tmp 3] Qc4) : Qed P f := by
 intro l h1 h2
 refine VC.of_acall (by simp [isDL, QR]) rfl (ACall.of_body b (by simp) ?_)
 have d1 : ¬ ((l.length : Int) < 1) := by omega
 have d2 : ¬ ((8 : Int) < l.length) := by omega
 simp only [rv, okW, Qh, aop, cV, cV1, AV.one, Qe, QK, Qd, Qb, Qk, XG, app, decide_true, decide_false, if_true, if_false, beq_self_eq_true, simprocAttr, Qc4, bs, d1, d2]
 refine QL.by (ι := Nat) (fun k => ⟨[(17, .int .i64 k), (16, .int .i64 l.length), (15, .list l.length (u8 l)), (4, .int .u64 (leN (l.take k)))], []⟩) (fun k => k ≤ l.length) (fun k => l.length - k) 0 (Le.slots (by simp [Am.look, leN])) (by omega) ?_
 intro k hk
 by_cases hlt : k < l.length
 ·have e1 : (k : Int) < l.length := by omega
  have e2 : (0 : Int) ≤ k := by omega
  have e4 := Qa9 hlt
  have e5 : IntKind.u64.wrap ((l[k].toNat : Nat) : Int) = (l[k].toNat : Nat) := Jr (by omega) (by have := l[k].toNat_lt; omega)
  have e6 : IntKind.i64.wrap (8 * (k : Int)) = (8 * k : Nat) := by rw [wrap_i64] <;> omega
  have e7 : Qg true .u64 ((l[k].toNat : Nat) : Int) ((8 * k : Nat) : Int) = some (.int .u64 ((l[k].toNat * 2 ^ (8 * k) : Nat) : Int)) := QvE (by omega) (by
   have h1 := l[k].toNat_lt
   have h2 : 2 ^ (8 * k) ≤ 2 ^ 56 := Nat.pow_le_pow_right (by omega) (by omega)
   calc l[k].toNat * 2 ^ (8 * k) ≤ 255 * 2 ^ 56 := Nat.mul_le_mul (by omega) h2
    _ < _ := by omega)
  have e8 : leN (l.take (k + 1)) < 18446744073709551616 := Qua (by simp; omega)
  have e9 := Qt9 hlt
  have e10 : leN (l.take k) < 2 ^ (8 * k) := by have := Qev (l.take k); rwa [List.length_take, Nat.min_eq_left hk] at this
  have e11 : IntKind.u64.wrap (BitVec.ofInt IntKind.u64.bits (leN (l.take k) : Nat) ||| BitVec.ofInt IntKind.u64.bits (l[k].toNat * 2 ^ (8 * k) : Nat)).toNat = (leN (l.take (k + 1)) : Nat) := by
   rw [QwU _ _ (by omega) (by omega), Qoi e10, e9]
  have e12 : IntKind.i64.wrap ((k : Int) + 1) = ((k + 1 : Nat) : Int) := by rw [wrap_i64] <;> omega
  simp only [rv, okW, Qh, aop, cV, cV1, AV.one, Qe, QK, Qd, Qb, Qk, XG, app, decide_true, decide_false, if_true, if_false, beq_self_eq_true, simprocAttr, e1, e2, hlt, e4, e5, e6, e7, e11, e12]
  exact ⟨k + 1, by omega, by omega, Le.slots (by simp [Am.look])⟩
 ·have e1 : ¬ (k : Int) < l.length := by omega
  have e2 : k = l.length := by omega
  subst e2
  simp only [rv, okW, Qh, aop, cV, cV1, AV.one, Qe, QK, Qd, Qb, Qk, XG, app, decide_true, decide_false, if_true, if_false, beq_self_eq_true, simprocAttr, e1, List.take_length]
def Qf8 (P : Prg) (f : Nat) : Prop := ∀ (l : List UInt8) (a w : Nat), l.length < 4611686018427387904 → 1 ≤ w → w ≤ 8 → a < 4611686018427387904 →
 VC P f [bs l, .int .i64 a, .int .i64 w] (if a + w ≤ l.length then .tup [.int .u64 (leN ((l.drop a).take w)), .int .i64 0] else .tup [.int .u64 0, .int .i64 24])
set_option maxRecDepth 10000 in
theorem QxU {P : Prg} {f g : Nat} (b : Body P f 33 [.tmp 6, .tmp 7] (Qfa g)) (hg : Qed P g) : Qf8 P f := by
 intro l a w hl h1 h2 ha
 have d1 : ¬ ((w : Int) < 1) := by omega
 have d2 : ¬ ((8 : Int) < w) := by omega
 have d3 : ¬ ((a : Int) < 0) := by omega
 have d4 : IntKind.i64.wrap ((l.length : Int) - w) = (l.length : Int) - w := by rw [wrap_i64] <;> omega
 have d5 : IntKind.i64.wrap ((a : Int) + w) = (a : Int) + w := by rw [wrap_i64] <;> omega
 by_cases hle : a + w ≤ l.length
 ·rw [if_pos hle]
  refine VC.of_acall (by simp [isDL, QR, isD]) rfl (ACall.of_body b (by simp) ?_)
  have d6 : ¬ ((l.length : Int) - w < a) := by omega
  have d7 := QuW (ob := []) (l := l) (a := a) (b := (a : Int) + w) (i := a) (j := a + w) rfl (by omega) (by omega) hle
  simp only [rv, okW, Qh, aop, cV, cV1, AV.one, Qe, QK, Qd, Qb, Qk, XG, app, decide_true, decide_false, if_true, if_false, beq_self_eq_true, simprocAttr, Qfa, bs, d1, d2, d3, d4, d5, d6, d7]
  have hlen : ((l.drop a).take w).length = w := by simp; omega
  have e : a + w - a = w := by omega
  rw [e]
  have := hg ((l.drop a).take w) (by omega) (by omega)
  rw [bs, hlen] at this
  refine Qc.vc this ?_
  simp only [rv, okW, Qh, aop, cV, cV1, AV.one, Qe, QK, Qd, Qb, Qk, XG, app, decide_true, decide_false, if_true, if_false, beq_self_eq_true, simprocAttr]
 ·rw [if_neg hle]
  refine VC.of_acall (by simp [isDL, QR, isD]) rfl (ACall.of_body b (by simp) ?_)
  have d6 : ((l.length : Int) - w < a) := by omega
  simp only [rv, okW, Qh, aop, cV, cV1, AV.one, Qe, QK, Qd, Qb, Qk, XG, app, decide_true, decide_false, if_true, if_false, beq_self_eq_true, simprocAttr, Qfa, bs, d1, d2, d3, d4, d6]
def QmP (c : UInt8) : Bool := decide (32 ≤ c.toNat) && decide (c.toNat ≤ 126)
def ZG (s : List UInt8) : Bool := s.all QmP && s.length == 4
theorem Qjb {s : List UInt8} {k : Nat} (h : k < s.length) {p : UInt8 → Bool} : (s.take (k + 1)).all p = ((s.take k).all p && p s[k]) := by
 rw [List.take_succ_eq_append_getElem h, List.all_append]; simp
theorem Qrw {s : List UInt8} {k : Nat} (h : k < s.length) {p : UInt8 → Bool} (hp : p s[k] = false) : s.all p = false := by
 rw [List.all_eq_false]
 exact ⟨s[k], List.getElem_mem h, by simp [hp]⟩
def Qcq (P : Prg) (f : Nat) : Prop := ∀ s : List UInt8, s.length < 4611686018427387904 → VC P f [.str s] (.bool (ZG s))
set_option maxRecDepth 10000 in
theorem Qmi {P : Prg} {f : Nat} (b : Body P f 22 [.tmp 2] Qay) : Qcq P f := by
 intro s hs
 refine VC.of_acall rfl rfl (ACall.of_body b (by simp) ?_)
 simp only [rv, okW, Qh, aop, cV, cV1, AV.one, Qe, QK, Qd, Qb, Qk, XG, app, decide_true, decide_false, if_true, if_false, beq_self_eq_true, simprocAttr, Qay]
 refine QL.by (ι := Nat) (fun k => ⟨[(8, .int .i64 k), (7, .int .i64 s.length), (6, bs s), (0, .str s)], []⟩) (fun k => k ≤ s.length ∧ (s.take k).all QmP = true) (fun k => s.length - k) 0 (Le.slots (by simp [Am.look, bs])) ⟨by omega, by simp⟩ ?_
 intro k ⟨hk, hg⟩
 by_cases hlt : k < s.length
 ·have e1 : (k : Int) < s.length := by omega
  have e2 : (0 : Int) ≤ k := by omega
  have e4 := Qa9 hlt
  have e12 : IntKind.i64.wrap ((k : Int) + 1) = ((k + 1 : Nat) : Int) := by rw [wrap_i64] <;> omega
  by_cases h1 : s[k].toNat < 32
  ·have f1 : ((s[k].toNat : Nat) : Int) < 32 := by omega
   have f2 : ZG s = false := by simp [ZG, Qrw hlt (p := QmP) (by simp [QmP]; omega)]
   simp only [rv, okW, Qh, aop, cV, cV1, AV.one, Qe, QK, Qd, Qb, Qk, XG, app, decide_true, decide_false, if_true, if_false, beq_self_eq_true, simprocAttr, bs, e1, e2, hlt, e4, e12, f1, f2]
  ·have f1 : ¬ ((s[k].toNat : Nat) : Int) < 32 := by omega
   by_cases h2 : 126 < s[k].toNat
   ·have f3 : (126 : Int) < ((s[k].toNat : Nat) : Int) := by omega
    have f2 : ZG s = false := by simp [ZG, Qrw hlt (p := QmP) (by simp [QmP]; omega)]
    simp only [rv, okW, Qh, aop, cV, cV1, AV.one, Qe, QK, Qd, Qb, Qk, XG, app, decide_true, decide_false, if_true, if_false, beq_self_eq_true, simprocAttr, bs, e1, e2, hlt, e4, e12, f1, f2, f3]
   ·have f3 : ¬ (126 : Int) < ((s[k].toNat : Nat) : Int) := by omega
    simp only [rv, okW, Qh, aop, cV, cV1, AV.one, Qe, QK, Qd, Qb, Qk, XG, app, decide_true, decide_false, if_true, if_false, beq_self_eq_true, simprocAttr, bs, e1, e2, hlt, e4, e12, f1, f3]
    exact ⟨k + 1, ⟨by omega, by rw [Qjb hlt, hg]; simp [QmP]; omega⟩, by omega, Le.slots (by simp [Am.look, bs])⟩
 ·have e1 : ¬ (k : Int) < s.length := by omega
  have e2 : k = s.length := by omega
  subst e2
  rw [List.take_length] at hg
  have e3 : (((s.length : Nat) : Int) == 4) = ZG s := by
   simp only [ZG, hg, Bool.true_and]
   rw [Bool.eq_iff_iff]; simp; omega
  simp only [rv, okW, Qh, aop, cV, cV1, AV.one, Qe, QK, Qd, Qb, Qk, XG, app, decide_true, decide_false, if_true, if_false, beq_self_eq_true, simprocAttr, bs, e1, e3]
theorem QC (l : List UInt8) : isTL (u8 l) = true := by
 induction l with
 | nil => rfl
 | cons x l ih => simp [QcS, isTL, isT, ih]
theorem Qva (l : List UInt8) : isT (bs l) = true := by simp [bs, isT, QC]
theorem Qw3 {f : List AV → Option (List AV)} {kp ok : Nat → Bool} {ob : List Ob} (l : List UInt8) : Qv f kp ok ob (bs l) = some (bs l) := Qvf _ (Qva l)
def Qbr (P : Prg) (f : Nat) : Prop := ∀ l : List UInt8, l.length < 140737488355328 → VC P f [bs l] (bs l)
set_option maxRecDepth 10000 in
theorem Qnk {P : Prg} {f t0 : Nat} (b : Body P f 8 [.tmp 2] (X4 t0)) : Qbr P f := by
 intro l hl
 refine VC.of_walk 1 (by simp [isDL, QR]) (QR l) (ACall.of_body b (by simp) ?_)
 have fin : ∀ ob, ob = [⟨t0, 1, l.length, u8 l, 0⟩] → QO (fun _ => true) ob (1 + 1) [.own 0 l.length] = some [bs l] := by
  rintro ob rfl
  simp only [QO, Qz, frzL, Qv, Bool.false_eq_true, if_false, List.getElem?_cons_zero, and_self, if_true, frzL_T _ (QC l), Option.map_some]
  rfl
 have d1 : l.length * 1 ≤ 140737488355328 := by omega
 have d2 : l.length ≤ 9223372036854775807 := by omega
 by_cases h0 : l = []
 ·subst h0
  simp only [rv, okW, Qh, aop, cV, cV1, AV.one, Qe, QK, Qd, Qb, Qk, XG, app, decide_true, decide_false, if_true, if_false, beq_self_eq_true, simprocAttr, X4, bs, QlC, Qep]
  simp [QO, Qz, frzL, Qv, isDL]
 ·have h1 : l.length ≠ 0 := by simpa using h0
  have d3 : l.length ≤ 140737488355328 := by omega
  simp only [rv, okW, Qh, aop, cV, cV1, AV.one, Qe, QK, Qd, Qb, Qk, XG, app, decide_true, decide_false, if_true, if_false, beq_self_eq_true, simprocAttr, X4, bs, QlC, h1, d2, d3]
  exact fin _ rfl
theorem Qer {ob : List Ob} {l : List UInt8} {a b : Int} (i j n : Nat) (ha : a = i) (hb : b = j) (hn : j = i + n) (h2 : j ≤ l.length) : QeH ob 1 (.list l.length (u8 l)) a b = some (.list n (u8 ((l.drop i).take n))) := by
 have := QuW (ob := ob) ha hb (by omega) h2
 rwa [show j - i = n by omega] at this
theorem QbU {l : List UInt8} {i n : Nat} (h : i + n ≤ l.length) : ((l.drop i).take n).length = n := by simp; omega
abbrev Ck := List UInt8 × List UInt8
def ckA (c : Ck) : AV := .agg [.str c.1, bs c.2]
def JR (l : List UInt8) : Option (Ck × List UInt8) :=
 if l.length < 8 ∨ ZG (l.take 4) = false then none
 else
  let n := leN ((l.drop 4).take 4)
  if l.length - 8 < n then none
  else if n % 2 = 1 then
   (if l.length = 8 + n ∨ (l.getD (8 + n) 0) ≠ 0 then none else some ((l.take 4, (l.drop 8).take n), l.drop (9 + n)))
  else some ((l.take 4, (l.drop 8).take n), l.drop (8 + n))
def QgF : Option (Ck × List UInt8) → AV
 | none => .tup [ckA ([], []), bs [], .bool false]
 | some (c, r) => .tup [ckA c, bs r, .bool true]
def Qc5 (P : Prg) (f : Nat) : Prop := ∀ l : List UInt8, l.length < 140737488355328 → VC P f [bs l] (QgF (JR l))
theorem Quk (r : Option (Ck × List UInt8)) : isD (QgF r) = true := by
 cases r with
 | none => rfl
 | some p => obtain ⟨c, r⟩ := p; simp [QgF, ckA, isD, isDL, QR]
set_option maxRecDepth 20000 in
theorem Qq9 {P : Prg} {f fN fA fC t0 : Nat} (b : Body P f 62 [.cell 2 t0, .tmp 3, .tmp 4] (Qah fN fA fC t0)) (ht : Z6 P t0 = some (some 2)) (hN : Qcq P fN) (hA : Qf8 P fA) (hC : Qbr P fC) : Qc5 P f := by
 intro l hl
 refine VC.of_walk 1 (by simp [isDL, QR]) (Quk _) (ACall.of_body b (by simp) ?_)
 have fin0 : ∀ ob, QO (fun _ => true) ob 2 [.tup [.agg [.str [], .emp true], .emp true, .bool false]] = some [QgF none] := by
  intro ob
  simp [QO, Qz, frzL, Qv, QgF, ckA, bs, u8]
 have fin1 : ∀ ob (c : Ck) r, QO (fun _ => true) ob 2 [.tup [.agg [.str c.1, bs c.2], bs r, .bool true]] = some [QgF (some (c, r))] := by
  intro ob c r
  simp [QO, Qz, frzL, Qv, QgF, ckA, Qw3]
 have fin2 : ∀ ob (c : Ck) r n m, n = c.2.length → m = r.length → QO (fun _ => true) ob 2 [.tup [.agg [.str c.1, .list n (u8 c.2)], .list m (u8 r), .bool true]] = some [QgF (some (c, r))] := by
  rintro ob c r n m rfl rfl
  exact fin1 ob c r
 by_cases h8 : l.length < 8
 ·have e0 : JR l = none := by simp [JR, h8]
  have e1 : (l.length : Int) < 8 := by omega
  rw [e0]
  simp only [rv, okW, Qh, aop, cV, cV1, AV.one, Qe, QK, Qd, Qb, Qk, XG, app, decide_true, decide_false, if_true, if_false, beq_self_eq_true, simprocAttr, Qah, bs, e1, Q3, ht]
  exact fin0 _
 ·have e1 : ¬ (l.length : Int) < 8 := by omega
  have e2 := Qer (ob := [⟨t0, 2, 1, [.str [], .emp true], 0⟩]) (l := l) (a := 0) (b := 4) 0 4 4 rfl rfl rfl (by omega)
  have e3 := QbU (l := l) (i := 0) (n := 4) (by omega)
  simp only [List.drop_zero] at e2 e3
  simp only [rv, okW, Qh, aop, cV, cV1, AV.one, Qe, QK, Qd, Qb, Qk, XG, app, decide_true, decide_false, if_true, if_false, beq_self_eq_true, simprocAttr, Qah, bs, e1, e2, e3, Q3, ht]
  refine Qc.vc (hN (l.take 4) (by omega)) ?_
  by_cases hn : ZG (l.take 4) = false
  ·have e0 : JR l = none := by simp [JR, hn]
   rw [e0]
   simp only [rv, okW, Qh, aop, cV, cV1, AV.one, Qe, QK, Qd, Qb, Qk, XG, app, decide_true, decide_false, if_true, if_false, beq_self_eq_true, simprocAttr, hn, Q3, ht]
   exact fin0 _
  ·have hn' : ZG (l.take 4) = true := by simpa using hn
   simp only [rv, okW, Qh, aop, cV, cV1, AV.one, Qe, QK, Qd, Qb, Qk, XG, app, decide_true, decide_false, if_true, if_false, beq_self_eq_true, simprocAttr, hn']
   have hv := hA l 4 4 (by omega) (by omega) (by omega) (by omega)
   rw [if_pos (by omega : 4 + 4 ≤ l.length)] at hv
   refine Qc.vc hv ?_
   generalize hnn : leN ((l.drop 4).take 4) = n
   have hn4 : n < 4294967296 := by
    have := Qev ((l.drop 4).take 4)
    rw [hnn, QbU (by omega)] at this
    exact this
   have f1 := Qer (ob := [⟨t0, 2, 1, [.str [], .emp true], 0⟩]) (l := l) (a := 8) (b := l.length) 8 l.length (l.length - 8) rfl rfl (by omega) (by omega)
   have f2 := QbU (l := l) (i := 8) (n := l.length - 8) (by omega)
   have f3 : (l.drop 8).take (l.length - 8) = l.drop 8 := List.take_of_length_le (by simp)
   have f4 : (l.drop 8).length = l.length - 8 := by simp
   rw [f3] at f1 f2
   have f5 : IntKind.u64.wrap ((l.length - 8 : Nat) : Int) = (l.length - 8 : Nat) := Jr (by omega) (by omega)
   by_cases hlt : l.length - 8 < n
   ·have e0 : JR l = none := by simp [JR, hn', hnn, hlt]
    have e4 : ((l.length - 8 : Nat) : Int) < (n : Int) := by omega
    rw [e0]
    simp only [rv, okW, Qh, aop, cV, cV1, AV.one, Qe, QK, Qd, Qb, Qk, XG, app, decide_true, decide_false, if_true, if_false, beq_self_eq_true, simprocAttr, e1, e2, e3, f1, f5, e4, Q3, ht]
    exact fin0 _
   ·have e4 : ¬ ((l.length - 8 : Nat) : Int) < (n : Int) := by omega
    generalize hr : l.drop 8 = r at *
    have g1 := Qer (ob := [⟨t0, 2, 1, [.str [], .emp true], 0⟩]) (l := r) (a := 0) (b := n) 0 n n rfl rfl (by omega) (by omega)
    have g2 := QbU (l := r) (i := 0) (n := n) (by omega)
    simp only [List.drop_zero] at g1 g2
    rw [← f4] at f1 f5 e4
    simp only [rv, okW, Qh, aop, cV, cV1, AV.one, Qe, QK, Qd, Qb, Qk, XG, app, decide_true, decide_false, if_true, if_false, beq_self_eq_true, simprocAttr, e1, e2, e3, f1, f5, e4, g1]
    have hcl := hC (r.take n) (by omega)
    rw [bs, g2] at hcl
    refine Qc.vc hcl ?_
    have g3 := Qer (ob := [⟨t0, 2, 1, [.str [], .emp true], 0⟩, ⟨t0, 2, 1, [.str (l.take 4), .list n (u8 (r.take n))], 0⟩]) (l := r) (a := n) (b := r.length) n r.length (r.length - n) rfl rfl (by omega) (by omega)
    have g4 : (r.drop n).length = r.length - n := by simp
    have g5 : (r.drop n).take (r.length - n) = r.drop n := List.take_of_length_le (by omega)
    rw [g5, ← g4] at g3
    have g6 : ((n : Int).tmod 2) = ((n % 2 : Nat) : Int) := rfl
    have g7 : leN ((l.drop 4).take 4) = n := hnn
    by_cases hodd : n % 2 = 1
    ·have g8 : (((n % 2 : Nat) : Int) == 1) = true := by rw [hodd]; rfl
     by_cases hend : r.length = n
     ·have e0 : JR l = none := by
       simp only [JR, hn', g7]
       rw [if_neg (by simp; omega), if_neg (by omega), if_pos hodd, if_pos (.inl (by omega))]
      have g9 : (((r.drop n).length : Int) == 0) = true := by simp; omega
      rw [e0]
      simp only [rv, okW, Qh, aop, cV, cV1, AV.one, Qe, QK, Qd, Qb, Qk, XG, app, decide_true, decide_false, if_true, if_false, beq_self_eq_true, simprocAttr, g3, g6, g8, g9, Q3, ht]
      exact fin0 _
     ·have hlt2 : 0 < (r.drop n).length := by omega
      have g9 : (((r.drop n).length : Int) == 0) = false := by simp; omega
      have g10 : (0 : Int) < (r.drop n).length := by omega
      have g11 := Qa9 hlt2
      simp only [List.drop_zero] at g11
      have g12 : (r.drop n)[0] = l.getD (8 + n) 0 := by
       subst hr
       simp [List.getD_eq_getElem?_getD, List.getElem?_eq_getElem (show 8 + n < l.length by omega)]
      have g14 : 0 < ((r.drop n).drop 1).length + 1 := by omega
      by_cases hz : l.getD (8 + n) 0 = 0
      ·have e0 : JR l = some ((l.take 4, r.take n), (r.drop n).drop 1) := by
        simp only [JR, hn', g7]
        rw [if_neg (by simp; omega), if_neg (by omega), if_pos hodd, if_neg (by rintro (h | h); omega; exact h hz), ← hr, List.drop_drop, List.drop_drop]
        congr 3
        omega
       have g13 : (((r.drop n)[0].toNat : Int) != 0) = false := by rw [g12, hz]; rfl
       have h1 := Qer (ob := [⟨t0, 2, 1, [.str [], .emp true], 0⟩, ⟨t0, 2, 1, [.str (l.take 4), .list n (u8 (r.take n))], 0⟩]) (l := r.drop n) (a := 1) (b := (r.drop n).length) 1 (r.drop n).length ((r.drop n).length - 1) rfl rfl (by omega) (by omega)
       have h2 : ((r.drop n).drop 1).take ((r.drop n).length - 1) = (r.drop n).drop 1 := List.take_of_length_le (by rw [List.length_drop]; exact Nat.le_refl _)
       rw [h2, g11] at h1
       rw [e0]
       simp only [rv, okW, Qh, aop, cV, cV1, AV.one, Qe, QK, Qd, Qb, Qk, XG, app, decide_true, decide_false, if_true, if_false, beq_self_eq_true, simprocAttr, g3, g6, g8, g9, g10, g11, g13, g14, h1, hlt2, Q3, ht]
       exact fin2 _ (l.take 4, r.take n) ((r.drop n).drop 1) _ _ g2.symm (by rw [List.length_drop (i := 1)])
      ·have e0 : JR l = none := by
        simp only [JR, hn', g7]
        rw [if_neg (by simp; omega), if_neg (by omega), if_pos hodd, if_pos (.inr hz)]
       have g13 : (((r.drop n)[0].toNat : Int) != 0) = true := by
        rw [g12]
        have : (l.getD (8 + n) 0).toNat ≠ 0 := fun h => hz (UInt8.toNat_inj.1 h)
        exact bne_iff_ne.2 (by omega)
       rw [e0]
       simp only [rv, okW, Qh, aop, cV, cV1, AV.one, Qe, QK, Qd, Qb, Qk, XG, app, decide_true, decide_false, if_true, if_false, beq_self_eq_true, simprocAttr, g3, g6, g8, g9, g10, g11, g13, g14, hlt2, Q3, ht]
       exact fin0 _
    ·have g8 : (((n % 2 : Nat) : Int) == 1) = false := by simp; omega
     have e0 : JR l = some ((l.take 4, r.take n), r.drop n) := by
      simp only [JR, hn', g7, hr]
      rw [if_neg (by simp; omega), if_neg (by omega), if_neg hodd, ← hr, List.drop_drop]
     rw [e0]
     simp only [rv, okW, Qh, aop, cV, cV1, AV.one, Qe, QK, Qd, Qb, Qk, XG, app, decide_true, decide_false, if_true, if_false, beq_self_eq_true, simprocAttr, g3, g6, g8, Q3, ht]
     exact fin2 _ (l.take 4, r.take n) (r.drop n) _ _ g2.symm rfl
def Z3 : Nat → List Ck → List UInt8 → Nat ⊕ List Ck
 | 0, _, _ => .inl 0
 | k + 1, out, rest =>
  if rest = [] then .inr out
  else if out.length = 20 then .inl 4
  else match JR rest with
   | none => .inl 12
   | some (c, left) => Z3 k (out ++ [c]) left
def Je : List UInt8 := [82, 73, 70, 70]
def XN (l : List UInt8) : Nat ⊕ (List UInt8 × List Ck) :=
 if l.length < 12 then .inl 24
 else
  let n := leN ((l.drop 4).take 4)
  let form := (l.drop 8).take 4
  if l.take 4 ≠ Je ∨ ZG form = false ∨ n < 4 then .inl 12
  else if 100000 < n + 8 then .inl 4
  else if l.length < n + 8 then .inl 24
  else match Z3 (n + 1) [] ((l.drop 12).take (n - 4)) with
   | .inl e => .inl e
   | .inr out => if n + 8 < l.length then .inl 38 else .inr (form, out)
def ckL : List Ck → List AV
 | [] => []
 | c :: r => .str c.1 :: bs c.2 :: ckL r
theorem Xq : ∀ l : List Ck, (ckL l).length = l.length * 2
 | [] => rfl
 | c :: r => by simp [ckL, Xq r]; omega
theorem Qhs : ∀ a b : List Ck, ckL a ++ ckL b = ckL (a ++ b)
 | [], b => rfl
 | c :: a, b => by simp [ckL, Qhs a b]
theorem QbV : ∀ l : List Ck, isTL (ckL l) = true
 | [] => rfl
 | c :: r => by simp [ckL, isTL, isT, Qva, QbV r]
def Qid : Nat ⊕ (List UInt8 × List Ck) → AV
 | .inl e => .tup [.str [], .list 0 [], .int .i64 e]
 | .inr (form, out) => .tup [.str form, .list out.length (ckL out), .int .i64 0]
theorem Quj (r : Nat ⊕ (List UInt8 × List Ck)) : isD (Qid r) = true := by
 cases r with
 | inl e => rfl
 | inr p => obtain ⟨f, o⟩ := p; simp [Qid, isD, isDL, Qkz (QbV o)]
theorem Qol {l : List UInt8} {c : Ck} {r : List UInt8} (h : JR l = some (c, r)) : r.length < l.length ∧ c.1.length = 4 := by
 unfold JR at h
 split at h
 ·cases h
 rename_i h0
 simp only at h
 split at h
 ·cases h
 split at h
 ·split at h
  ·cases h
  ·cases h; simp; omega
 ·cases h; simp; omega
def QsR (P : Prg) (f : Nat) : Prop := ∀ l : List UInt8, l.length < 140737488355328 → VC P f [bs l] (Qid (XN l))
set_option maxRecDepth 20000 in
theorem Qra {P : Prg} {f fA fN fX t0 : Nat} (b : Body P f 80 [.tmp 2, .tmp 3, .tmp 4] (Qai fA fN fX t0)) (hA : Qf8 P fA) (hN : Qcq P fN) (hX : Qc5 P fX) : QsR P f := by
 intro l hl
 refine VC.of_walk 1 (by simp [isDL, QR]) (Quj _) (ACall.of_body b (by simp) ?_)
 have fin0 : ∀ ob (e : Int) (n : Nat), e = n → QO (fun _ => true) ob 2 [.tup [.str [], .emp true, .int .i64 e]] = some [Qid (.inl n)] := by
  rintro ob e n rfl
  simp [QO, Qz, frzL, Qv, Qid]
 by_cases h12 : l.length < 12
 ·have e0 : XN l = .inl 24 := by simp [XN, h12]
  have e1 : (l.length : Int) < 12 := by omega
  rw [e0]
  simp only [rv, okW, Qh, aop, cV, cV1, AV.one, Qe, QK, Qd, Qb, Qk, XG, app, decide_true, decide_false, if_true, if_false, beq_self_eq_true, simprocAttr, Qai, bs, e1, Q3]
  exact fin0 _ _ _ rfl
 ·have e1 : ¬ (l.length : Int) < 12 := by omega
  have hv := hA l 4 4 (by omega) (by omega) (by omega) (by omega)
  rw [if_pos (by omega : 4 + 4 ≤ l.length)] at hv
  generalize hnn : leN ((l.drop 4).take 4) = n at hv
  have hn4 : n < 4294967296 := by
   have := Qev ((l.drop 4).take 4)
   rw [hnn, QbU (by omega)] at this
   exact this
  have e2 := Qer (ob := []) (l := l) (a := 8) (b := 12) 8 12 4 rfl rfl rfl (by omega)
  have e3 := QbU (l := l) (i := 8) (n := 4) (by omega)
  have e4 := Qer (ob := []) (l := l) (a := 0) (b := 4) 0 4 4 rfl rfl rfl (by omega)
  have e5 := QbU (l := l) (i := 0) (n := 4) (by omega)
  simp only [List.drop_zero] at e4 e5
  simp only [rv, okW, Qh, aop, cV, cV1, AV.one, Qe, QK, Qd, Qb, Qk, XG, app, decide_true, decide_false, if_true, if_false, beq_self_eq_true, simprocAttr, Qai, bs, e1, Q3]
  refine Qc.vc hv ?_
  simp only [rv, okW, Qh, aop, cV, cV1, AV.one, Qe, QK, Qd, Qb, Qk, XG, app, decide_true, decide_false, if_true, if_false, beq_self_eq_true, simprocAttr, e2, e3, e4, e5, QjC]
  generalize hform : (l.drop 8).take 4 = form at *
  have hR : ([82, 73, 70, 70] : List UInt8) = Je := rfl
  have f1 : IntKind.u64.wrap ((n : Int) + 8) = (n : Int) + 8 := by rw [Jr] <;> omega
  have f2 : IntKind.u64.wrap (l.length : Int) = (l.length : Int) := by rw [Jr] <;> omega
  by_cases hr : l.take 4 = Je
  ·have g1 : (l.take 4 == Je) = true := by rw [hr]; rfl
   simp only [rv, okW, Qh, aop, cV, cV1, AV.one, Qe, QK, Qd, Qb, Qk, XG, app, decide_true, decide_false, if_true, if_false, beq_self_eq_true, simprocAttr, hR, g1]
   refine Qc.vc (hN form (by omega)) ?_
   by_cases hf : ZG form = true
   ·simp only [rv, okW, Qh, aop, cV, cV1, AV.one, Qe, QK, Qd, Qb, Qk, XG, app, decide_true, decide_false, if_true, if_false, beq_self_eq_true, simprocAttr, hf]
    by_cases h4 : n < 4
    ·have g2 : (n : Int) < 4 := by omega
     have e0 : XN l = .inl 12 := by simp [XN, h12, hnn, hform, hr, hf, h4]
     rw [e0]
     simp only [rv, okW, Qh, aop, cV, cV1, AV.one, Qe, QK, Qd, Qb, Qk, XG, app, decide_true, decide_false, if_true, if_false, beq_self_eq_true, simprocAttr, g2, Q3]
     exact fin0 _ _ _ rfl
    ·have g2 : ¬ (n : Int) < 4 := by omega
     by_cases hbig : 100000 < n + 8
     ·have g3 : (100000 : Int) < (n : Int) + 8 := by omega
      have e0 : XN l = .inl 4 := by simp [XN, h12, hnn, hform, hr, hf, h4, hbig]
      rw [e0]
      simp only [rv, okW, Qh, aop, cV, cV1, AV.one, Qe, QK, Qd, Qb, Qk, XG, app, decide_true, decide_false, if_true, if_false, beq_self_eq_true, simprocAttr, g2, f1, g3, Q3]
      exact fin0 _ _ _ rfl
     ·have g3 : ¬ (100000 : Int) < (n : Int) + 8 := by omega
      by_cases hsh : l.length < n + 8
      ·have g4 : (l.length : Int) < (n : Int) + 8 := by omega
       have e0 : XN l = .inl 24 := by simp [XN, h12, hnn, hform, hr, hf, h4, hbig, hsh]
       rw [e0]
       simp only [rv, okW, Qh, aop, cV, cV1, AV.one, Qe, QK, Qd, Qb, Qk, XG, app, decide_true, decide_false, if_true, if_false, beq_self_eq_true, simprocAttr, g2, f1, f2, g3, g4, Q3]
       exact fin0 _ _ _ rfl
      ·have g4 : ¬ (l.length : Int) < (n : Int) + 8 := by omega
       have g5 := Qer (ob := []) (l := l) (a := 12) (b := (n : Int) + 8) 12 (n + 8) (n - 4) rfl (by omega) (by omega) (by omega)
       have g6 := QbU (l := l) (i := 12) (n := n - 4) (by omega)
       simp only [rv, okW, Qh, aop, cV, cV1, AV.one, Qe, QK, Qd, Qb, Qk, XG, app, decide_true, decide_false, if_true, if_false, beq_self_eq_true, simprocAttr, g2, f1, f2, g3, g4, g5]
       generalize hrest : (l.drop 12).take (n - 4) = rest0 at *
       generalize hR0 : Z3 (n + 1) [] rest0 = R
       have e0 : XN l = match R with
         | .inl e => .inl e
         | .inr out => if n + 8 < l.length then .inl 38 else .inr (form, out) := by
        simp only [XN, hnn, hform, hrest, hR0]
        rw [if_neg h12, if_neg (by simp [hr, hf]; omega), if_neg hbig, if_neg hsh]
        cases R <;> rfl
       rw [e0]
       refine QL.by (ι := Nat × List Ck × List UInt8) (fun i => ⟨[(9, bs i.2.2), (8, .own 0 i.2.1.length), (7, .str form), (5, .int .u64 n), (0, bs l)], [⟨t0, 2, i.2.1.length, ckL i.2.1, 0⟩]⟩)
        (fun i => Z3 i.1 i.2.1 i.2.2 = R ∧ i.2.2.length < i.1 ∧ i.2.2.length ≤ n ∧ i.2.1.length ≤ 20) (fun i => i.2.2.length) (n + 1, [], rest0)
        (Le.trans (Le.virt 8 t0 2 (by omega) rfl) (Le.slots (by simp [Am.look, bs, g6]))) ⟨hR0, by simp only; omega, by simp only; omega, by simp⟩ ?_
       rintro ⟨k, out, rest⟩ ⟨i1, i2, i3, i4⟩
       simp only at i1 i2 i3 i4
       obtain ⟨k, rfl⟩ : ∃ k', k = k' + 1 := ⟨k - 1, by omega⟩
       simp only [Z3] at i1
       by_cases hemp : rest = []
       ·rw [if_pos hemp] at i1
        subst hemp
        subst i1
        by_cases hmore : n + 8 < l.length
        ·have h1 : (n : Int) + 8 < l.length := by omega
         simp only [rv, okW, Qh, aop, cV, cV1, AV.one, Qe, QK, Qd, Qb, Qk, XG, app, decide_true, decide_false, if_true, if_false, beq_self_eq_true, simprocAttr, bs, f1, f2, h1, hmore, Q3]
         exact fin0 _ _ _ rfl
        ·have h1 : ¬ (n : Int) + 8 < l.length := by omega
         simp only [rv, okW, Qh, aop, cV, cV1, AV.one, Qe, QK, Qd, Qb, Qk, XG, app, decide_true, decide_false, if_true, if_false, beq_self_eq_true, simprocAttr, bs, f1, f2, h1, hmore, Q3]
         simp [QO, Qz, frzL, Qv, Qid, frzL_T _ (QbV out)]
       ·rw [if_neg hemp] at i1
        have hpos : 0 < rest.length := List.length_pos_iff.2 hemp
        have h1 : (0 : Int) < rest.length := by omega
        by_cases h20 : out.length = 20
        ·rw [if_pos h20] at i1
         subst i1
         have h2 : ((out.length : Int) == 20) = true := by simp; omega
         simp only [rv, okW, Qh, aop, cV, cV1, AV.one, Qe, QK, Qd, Qb, Qk, XG, app, decide_true, decide_false, if_true, if_false, beq_self_eq_true, simprocAttr, bs, h1, h2, Q3]
         exact fin0 _ _ _ rfl
        ·rw [if_neg h20] at i1
         have h2 : ((out.length : Int) == 20) = false := by simp; omega
         simp only [rv, okW, Qh, aop, cV, cV1, AV.one, Qe, QK, Qd, Qb, Qk, XG, app, decide_true, decide_false, if_true, if_false, beq_self_eq_true, simprocAttr, bs, h1, h2, Q3]
         refine Qc.vc (hX rest (by omega)) ?_
         cases hnx : JR rest with
         | none =>
          rw [hnx] at i1
          subst i1
          simp only [rv, okW, Qh, aop, cV, cV1, AV.one, Qe, QK, Qd, Qb, Qk, XG, app, decide_true, decide_false, if_true, if_false, beq_self_eq_true, simprocAttr, QgF, ckA, bs, Qep, Q3]
          exact fin0 _ _ _ rfl
         | some p =>
          obtain ⟨c, left⟩ := p
          rw [hnx] at i1
          simp only at i1
          have hlt := (Qol hnx).1
          have h3 : (out.length + 1) * 40 ≤ 140737488355328 := by omega
          have h4' : out.length + 1 ≤ 9223372036854775807 := by omega
          have h5 := Xq out
          simp only [rv, okW, Qh, aop, cV, cV1, AV.one, Qe, QK, Qd, Qb, Qk, XG, app, decide_true, decide_false, if_true, if_false, beq_self_eq_true, simprocAttr, QgF, ckA, bs, h3, h4', h5]
          refine ⟨(k, out ++ [c], left), ⟨i1, by simp only; omega, by simp only; omega, by simp; omega⟩, hlt, ?_⟩
          have hck : ckL out ++ [.str c.1, .list c.2.length (u8 c.2)] = ckL (out ++ [c]) := by rw [← Qhs]; rfl
          rw [hck]
          refine Le.drop 1 2 (by omega) rfl ?_ ?_
          ·simp [Am.look, Qz, frzL, Qv, frzL_T _ (QC _)]
          ·intro i y hy
           match i, hy with
           | 0, hy =>
            simp at hy
            subst hy
            exact ⟨ckL (out ++ [c]), by simp, by simp only [Qz]; exact frzL_T _ (QbV _)⟩
           | i + 1, hy => simp at hy
   ·have e0 : XN l = .inl 12 := by simp [XN, h12, hnn, hform, hr, hf]
    have hf' : ZG form = false := by simpa using hf
    rw [e0]
    simp only [rv, okW, Qh, aop, cV, cV1, AV.one, Qe, QK, Qd, Qb, Qk, XG, app, decide_true, decide_false, if_true, if_false, beq_self_eq_true, simprocAttr, hf', Q3]
    exact fin0 _ _ _ rfl
  ·have g1 : (l.take 4 == Je) = false := by simpa using hr
   have e0 : XN l = .inl 12 := by simp [XN, h12, hnn, hform, hr]
   rw [e0]
   simp only [rv, okW, Qh, aop, cV, cV1, AV.one, Qe, QK, Qd, Qb, Qk, XG, app, decide_true, decide_false, if_true, if_false, beq_self_eq_true, simprocAttr, hR, g1, Q3]
   exact fin0 _ _ _ rfl
theorem Qco : ∀ {l : List Ck} {k : Nat} (h : k < l.length), (ckL l).drop (k * 2) = .str (l[k]).1 :: bs (l[k]).2 :: ckL (l.drop (k + 1))
 | c :: l, 0, _ => by simp [ckL]
 | c :: l, k + 1, h => by
  have := Qco (l := l) (k := k) (by simpa using h)
  rw [Nat.add_mul, Nat.one_mul]
  simpa [ckL] using this
theorem QuY : ∀ (k : Nat) (out : List Ck) (rest : List UInt8) (r : List Ck), Z3 k out rest = .inr r → out.length ≤ 20 → r.length ≤ 20
 | 0, _, _, _, h, _ => by simp [Z3] at h
 | k + 1, out, rest, r, h, hl => by
  simp only [Z3] at h
  split at h
  ·cases h; exact hl
  ·split at h
   ·cases h
   ·split at h
    ·cases h
    ·exact QuY k _ _ r h (by simp; omega)
theorem QtU {l form : List UInt8} {out : List Ck} (h : XN l = .inr (form, out)) : out.length ≤ 20 := by
 unfold XN at h
 split at h
 ·cases h
 simp only at h
 split at h
 ·cases h
 split at h
 ·cases h
 split at h
 ·cases h
 split at h
 ·cases h
 ·rename_i o ho
  split at h
  ·cases h
  ·cases h
   exact QuY _ _ _ _ ho (by simp)
def ZL (b : Int) : Int := if b = 8 then 128 else if b = 16 then 32768 else if b = 24 then 8388608 else 0
theorem Q1 (b : Int) : (b = 8 ∧ ZL b = 128) ∨ (b = 16 ∧ ZL b = 32768) ∨ (b = 24 ∧ ZL b = 8388608) ∨ (b ≠ 8 ∧ b ≠ 16 ∧ b ≠ 24 ∧ ZL b = 0) := by
 unfold ZL; split <;> (try split) <;> (try split) <;> omega
def X7 (b : Int) : AV := if ZL b = 0 then .tup [.int .i32 0, .int .i32 0, .int .i64 2] else .tup [.int .i32 (-ZL b), .int .i32 (ZL b - 1), .int .i64 0]
def Qge (P : Prg) (f : Nat) : Prop := ∀ b : Int, VC P f [.int .i64 b] (X7 b)
theorem QlH {P : Prg} {f : Nat} (b : Body P f 18 [.tmp 2, .tmp 3, .tmp 4] Zy) : Qge P f := by
 intro x
 refine VC.of_acall rfl (by unfold X7; split <;> rfl) (ACall.of_body b (by simp) ?_)
 rcases Q1 x with ⟨rfl, h⟩ | ⟨rfl, h⟩ | ⟨rfl, h⟩ | ⟨h1, h2, h3, h⟩
 ·simp (disch := omega) only [rq, simprocAttr, Zy, X7, h]
  rfl
 ·simp (disch := omega) only [rq, simprocAttr, Zy, X7, h]
  rfl
 ·simp (disch := omega) only [rq, simprocAttr, Zy, X7, h]
  rfl
 ·simp (disch := omega) only [rq, simprocAttr, Zy, X7, h]
def il (l : List Int) : AV := .list l.length (ks .i32 l)
theorem Q8 (l : List Int) : isD (il l) = true := by simp [il, isD, Zk]
def inR (b x : Int) : Bool := decide (-ZL b ≤ x) && decide (x < ZL b)
def QE (b : Int) (l : List Int) : Int := if ZL b = 0 then 2 else if 4000 < l.length then 4 else if l.all (inR b) then 0 else 16
def I32 (l : List Int) : Prop := ∀ x ∈ l, -2147483648 ≤ x ∧ x ≤ 2147483647
def Qao (P : Prg) (f : Nat) : Prop := ∀ (b : Int) (l : List Int), I32 l → VC P f [.int .i64 b, il l] (.int .i64 (QE b l))
theorem QdH {l : List Int} {k : Nat} (h : k < l.length) {p : Int → Bool} : (l.take (k + 1)).all p = ((l.take k).all p && p l[k]) := by
 rw [List.take_succ_eq_append_getElem h, List.all_append]; simp
theorem Qhg {l : List Int} {k : Nat} (h : k < l.length) {p : Int → Bool} (hp : p l[k] = false) : l.all p = false := by
 rw [List.all_eq_false]
 exact ⟨l[k], List.getElem_mem h, by simp [hp]⟩
set_option maxRecDepth 10000 in
theorem QlI {P : Prg} {f fR : Nat} (b : Body P f 37 [.tmp 4] (Qaw fR)) (hR : Qge P fR) : Qao P f := by
 intro x l hl
 refine VC.of_acall (by simp [isDL, isD, Q8]) rfl (ACall.of_body b (by simp) ?_)
 simp (disch := omega) only [rq, simprocAttr, Qaw]
 refine Qc.vc (hR x) ?_
 by_cases h0 : ZL x = 0
 ·simp (disch := omega) only [rq, simprocAttr, X7, QE, h0]
 have h3 : ZL x = 128 ∨ ZL x = 32768 ∨ ZL x = 8388608 := by rcases Q1 x with h | h | h | h <;> omega
 by_cases h1 : 4000 < l.length
 ·simp (disch := omega) only [rq, simprocAttr, X7, QE, h0, il, h1]
 simp (disch := omega) only [rq, simprocAttr, X7, il, if_neg h0]
 refine QL.by (ι := Nat) (fun k => ⟨[(24, .int .i64 k), (23, .int .i64 l.length), (22, il l), (6, .int .i32 (ZL x - 1)), (5, .int .i32 (-ZL x))], []⟩) (fun k => k ≤ l.length ∧ (l.take k).all (inR x) = true) (fun k => l.length - k) 0 (Le.slots (by simp [Am.look, il])) ⟨by omega, by simp⟩ ?_
 intro k ⟨hk, hg⟩
 by_cases hlt : k < l.length
 ·by_cases hp : -ZL x ≤ l[k] ∧ l[k] < ZL x
  ·have hs := QdH hlt (p := inR x)
   simp (disch := omega) only [rq, simprocAttr, il, Z2, hlt]
   exact ⟨k + 1, ⟨by omega, by rw [hs, hg]; simp [inR, hp]⟩, by omega, Le.slots (by simp [Am.look, il])⟩
  ·have e : QE x l = 16 := by simp [QE, h0, h1, Qhg hlt (p := inR x) (by simp [inR]; omega)]
   by_cases hq : l[k] < -ZL x
   ·simp (disch := omega) only [rq, simprocAttr, il, Z2, hlt, e]
   ·simp (disch := omega) only [rq, simprocAttr, il, Z2, hlt, e]
 ·have e2 : k = l.length := by omega
  subst e2
  rw [List.take_length] at hg
  simp (disch := omega) only [rq, simprocAttr, il, QE, h0, h1, hg]
def QoP (P : Prg) (f : Nat) : Prop := ∀ x : Int, VC P f [.int .i64 x] (.int .i64 (ZL x))
theorem Qpk {P : Prg} {f : Nat} (b : Body P f 10 [.tmp 2] Z5) : QoP P f := by
 intro x
 refine VC.of_acall rfl rfl (ACall.of_body b (by simp) ?_)
 rcases Q1 x with ⟨rfl, h⟩ | ⟨rfl, h⟩ | ⟨rfl, h⟩ | ⟨h1, h2, h3, h⟩ <;> simp (disch := omega) only [rq, simprocAttr, Z5, h]
set_option maxRecDepth 10000 in
theorem Qmu {P : Prg} {f fH : Nat} (b : Body P f 37 [.tmp 4] (ZV fH)) (hH : QoP P fH) : Qao P f := by
 intro x l hl
 refine VC.of_acall (by simp [isDL, isD, Q8]) rfl (ACall.of_body b (by simp) ?_)
 simp (disch := omega) only [rq, simprocAttr, ZV]
 refine Qc.vc (hH x) ?_
 by_cases h0 : ZL x = 0
 ·simp (disch := omega) only [rq, simprocAttr, QE, h0]
 have h3 : ZL x = 128 ∨ ZL x = 32768 ∨ ZL x = 8388608 := by rcases Q1 x with h | h | h | h <;> omega
 by_cases h1 : 4000 < l.length
 ·simp (disch := omega) only [rq, simprocAttr, QE, h0, il, h1]
 simp (disch := omega) only [rq, simprocAttr, il]
 refine QL.by (ι := Nat) (fun k => ⟨[(6, .int .i64 k), (1, il l), (5, .int .i64 (ZL x))], []⟩) (fun k => k ≤ l.length ∧ (l.take k).all (inR x) = true) (fun k => l.length - k) 0 (Le.slots (by simp [Am.look, il])) ⟨by omega, by simp⟩ ?_
 intro k ⟨hk, hg⟩
 by_cases hlt : k < l.length
 ·have hb := hl _ (List.getElem_mem hlt)
  by_cases hp : -ZL x ≤ l[k] ∧ l[k] < ZL x
  ·have hs := QdH hlt (p := inR x)
   simp (disch := omega) only [rq, simprocAttr, il, Z2, hlt]
   exact ⟨k + 1, ⟨by omega, by rw [hs, hg]; simp [inR, hp]⟩, by omega, Le.slots (by simp [Am.look, il])⟩
  ·have e : QE x l = 16 := by simp [QE, h0, h1, Qhg hlt (p := inR x) (by simp [inR]; omega)]
   by_cases hq : l[k] < -ZL x
   ·simp (disch := omega) only [rq, simprocAttr, il, Z2, hlt, e]
   ·simp (disch := omega) only [rq, simprocAttr, il, Z2, hlt, e]
 ·have e2 : k = l.length := by omega
  subst e2
  rw [List.take_length] at hg
  simp (disch := omega) only [rq, simprocAttr, il, QE, h0, h1, hg]
theorem QkX {n : Nat} {c : Int} (h : 1 ≤ c) : 0 ≤ (n : Int) / c ∧ (n : Int) / c ≤ n :=
 ⟨Int.ediv_nonneg (by omega) (by omega), Int.ediv_le_self _ (by omega)⟩
theorem QaM {n : Nat} {c : Int} (h : 1 ≤ c) : 0 ≤ (n : Int) % c ∧ (n : Int) % c < c := ⟨Int.emod_nonneg _ (by omega), Int.emod_lt_of_pos _ (by omega)⟩
def QJ (r : Int) : Int := if 256 * r / 245 < 1 then 1 else 256 * r / 245
theorem Xt (r : Int) : 1 ≤ QJ r := by unfold QJ; split <;> omega
theorem Qoq {r : Int} (h : r ≤ 1048576) : QJ r ≤ 1095654 := by unfold QJ; split <;> omega
def QbB (r : Int) : AV := if r < 1 ∨ 1048576 < r then .tup [.int .i64 0, .int .i64 2] else .tup [.int .i64 (QJ r), .int .i64 0]
def Qbs (P : Prg) (f : Nat) : Prop := ∀ r : Int, VC P f [.int .i64 r] (QbB r)
theorem Qos (r : Int) : isD (QbB r) = true := by unfold QbB; split <;> rfl
theorem Qkw {P : Prg} {f : Nat} (b : Body P f 14 [.tmp 2, .tmp 3] ZP) : Qbs P f := by
 intro r
 refine VC.of_acall rfl (Qos r) (ACall.of_body b (by simp) ?_)
 by_cases h1 : r < 1
 ·simp (disch := omega) only [rq, simprocAttr, ZP, QbB, true_or]
 by_cases h2 : 1048576 < r
 ·simp (disch := omega) only [rq, simprocAttr, ZP, QbB, or_true]
 have h3 : 1 ≤ 256 * r / 245 := by omega
 simp (disch := omega) only [rq, simprocAttr, ZP, QbB, or_self, QJ]
 rw [show (if (1 : Int) < 256 * r / 245 then 256 * r / 245 else 1) = 256 * r / 245 by split <;> omega]
theorem Qpj {P : Prg} {f : Nat} (b : Body P f 17 [.tmp 2, .tmp 3] QX) : Qbs P f := by
 intro r
 refine VC.of_acall rfl (Qos r) (ACall.of_body b (by simp) ?_)
 by_cases h1 : r < 1
 ·simp (disch := omega) only [rq, simprocAttr, QX, QbB, true_or]
 by_cases h2 : 1048576 < r
 ·simp (disch := omega) only [rq, simprocAttr, QX, QbB, or_true]
 have e : r * 256 / 245 = 256 * r / 245 := by rw [Int.mul_comm]
 have h3 : 1 ≤ 256 * r / 245 := by omega
 simp (disch := omega) only [rq, simprocAttr, QX, QbB, or_self, QJ, e]
def Zg (c b : Int) : Int := if ZL b = 0 ∨ c < 1 ∨ 6 < c then 2 else 0
def shA (c b : Int) : AV := .agg [.int .i64 c, .int .i64 b]
def Qap (P : Prg) (f : Nat) : Prop := ∀ c b : Int, VC P f [shA c b] (.int .i64 (Zg c b))
theorem Qiv {P : Prg} {f fR t0 : Nat} (b : Body P f 25 [.tmp 2] (Jm fR t0)) (hR : Qge P fR) : Qap P f := by
 intro c x
 refine VC.of_acall rfl rfl (ACall.of_body b (by simp) ?_)
 simp (disch := omega) only [rq, simprocAttr, Jm, shA]
 refine Qc.vc (hR x) ?_
 by_cases h0 : ZL x = 0
 ·simp (disch := omega) only [rq, simprocAttr, X7, h0, Zg, true_or]
 by_cases h1 : c < 1
 ·simp (disch := omega) only [rq, simprocAttr, X7, if_neg h0, Zg, h0, or_true, true_or]
 by_cases h2 : 6 < c
 ·simp (disch := omega) only [rq, simprocAttr, X7, if_neg h0, Zg, h0, or_true]
 ·simp (disch := omega) only [rq, simprocAttr, X7, if_neg h0, Zg, h0, or_self]
theorem Qms {P : Prg} {f fH t0 : Nat} (b : Body P f 17 [.tmp 2] (QV fH t0)) (hH : QoP P fH) : Qap P f := by
 intro c x
 refine VC.of_acall rfl rfl (ACall.of_body b (by simp) ?_)
 have hx := Q1 x
 by_cases h1 : c < 1
 ·simp (disch := omega) only [rq, simprocAttr, QV, shA, Zg, or_true, true_or]
 by_cases h2 : 6 < c
 ·simp (disch := omega) only [rq, simprocAttr, QV, shA, Zg, or_true]
 simp (disch := omega) only [rq, simprocAttr, QV, shA]
 refine Qc.vc (hH x) ?_
 by_cases h0 : ZL x = 0
 ·simp (disch := omega) only [rq, simprocAttr, h0, Zg, true_or]
 ·simp (disch := omega) only [rq, simprocAttr, h0, Zg, or_self]
structure Enc where
 ch : Int
 bits : Int
 rate : Int
 pw : List UInt8
 rest : List UInt8
 smp : List Int
 frs : List (List UInt8)
 out : List UInt8
 done : Bool
 err : Int
def bss (l : List (List UInt8)) : AV := .list l.length (l.map bs)
def Qya (e : Enc) : List AV := [.int .i64 e.ch, .int .i64 e.bits, .int .i64 e.rate, .str e.pw, bs e.rest, il e.smp, bss e.frs, bs e.out, .bool e.done, .int .i64 e.err]
theorem Qio : ∀ l : List (List UInt8), isDL (l.map bs) = true
 | [] => rfl
 | x :: l => by simp [isDL, QR, Qio l]
theorem QmJ (l : List (List UInt8)) : isD (bss l) = true := by simp [bss, isD, Qio]
def Quo {α : Type} (p : α → Bool) (l : List α) : Int := match l.findIdx? p with | some i => i | none => -1
theorem Qr5 {α : Type} {p : α → Bool} {l : List α} (h : l.all (fun x => !p x) = true) : l.findIdx? p = none := by
 rw [List.findIdx?_eq_none_iff]
 intro x hx
 have := List.all_eq_true.1 h x hx
 simpa using this
theorem Qwb {α : Type} {p : α → Bool} {l : List α} {k : Nat} (hk : k < l.length) (h : (l.take k).all (fun x => !p x) = true) (hp : p l[k] = true) : l.findIdx? p = some k := by
 rw [List.findIdx?_eq_some_iff_getElem]
 refine ⟨hk, hp, fun j hj => ?_⟩
 have := List.all_eq_true.1 h l[j] (by
  rw [List.mem_take_iff_getElem]
  exact ⟨j, by omega, rfl⟩)
 simpa using this
theorem QnF {α : Type} {l : List α} {k : Nat} (h : k < l.length) {p : α → Bool} : (l.take (k + 1)).all p = ((l.take k).all p && p l[k]) := by
 rw [List.take_succ_eq_append_getElem h, List.all_append]; simp
theorem Qv6 {α : Type} (p : α → Bool) (l : List α) : decide ((0 : Int) ≤ Quo p l) = l.any p := by
 unfold Quo
 cases h : l.findIdx? p with
 | none =>
  rw [List.findIdx?_eq_none_iff] at h
  have : l.any p = false := by rw [List.any_eq_false]; intro x hx; rw [h x hx]; simp
  rw [this]; rfl
 | some i =>
  rw [List.findIdx?_eq_some_iff_getElem] at h
  obtain ⟨h1, h2, _⟩ := h
  have : l.any p = true := by rw [List.any_eq_true]; exact ⟨_, List.getElem_mem h1, h2⟩
  rw [this]; simp
theorem Qe5 : ∀ l : List (List UInt8), isTL (l.map bs) = true
 | [] => rfl
 | x :: l => by
  have : isT (bs x) = true := by simp [bs, isT]; induction x with | nil => rfl | cons y x ih => simp [QcS, isTL, isT, ih]
  simp [isTL, this, Qe5 l]
theorem Qa8 {α : Type} (f : α → AV) : ∀ l : List α, (l.map fun x => [f x]).flatten = l.map f
 | [] => rfl
 | x :: l => by simp [Qa8 f l]
theorem Qis {L : List (List AV)} (h : ∀ c ∈ L, Qbt (.int .u8) c) : ∃ l : List UInt8, L.length = l.length ∧ AV.list L.length L.flatten = bs l := by
 obtain ⟨l, rfl, _⟩ := Qch (f := fun b : UInt8 => [AV.int .u8 b.toNat]) (q := fun _ => True) h (fun c hc => by
  simp only [Qbt] at hc
  obtain ⟨n, rfl, h1, h2⟩ := hc
  simp only [IntKind.min, IntKind.max, IntKind.signed, IntKind.bits] at h1 h2
  refine ⟨UInt8.ofNat n.toNat, ?_, trivial⟩
  simp at h1 h2
  simp; omega)
 exact ⟨l, by simp, by simp [bs, u8, Qa8]⟩
theorem Qr3 {K : IntKind} {L : List (List AV)} (h : ∀ c ∈ L, Qbt (.int K) c) : ∃ l : List Int, L.length = l.length ∧ AV.list L.length L.flatten = .list l.length (ks K l) ∧ ∀ x ∈ l, K.min ≤ x ∧ x ≤ K.max := by
 obtain ⟨l, rfl, h2⟩ := Qch (f := fun n : Int => [AV.int K n]) (q := fun x => K.min ≤ x ∧ x ≤ K.max) h (fun c hc => by
  simp only [Qbt] at hc
  obtain ⟨n, rfl, h1, h2⟩ := hc
  exact ⟨n, rfl, h1, h2⟩)
 exact ⟨l, by simp, by simp [ks, Qa8], h2⟩
def Qw1 (P : Program) (t : TypeId) : Bool := match P.underlying t with | some (.struct _) => true | _ => false
def Qw2 (P : Program) (t : TypeId) : Bool := match P.underlying t with | some (.array _ _) => true | _ => false
def Qx9 (P : Program) (t : TypeId) : Bool := match P.underlying t with | some (.slice _) => true | _ => false
theorem Que {P : Program} {t : TypeId} (h : Qw1 P t = true) : ∃ fs, P.underlying t = some (.struct fs) := by
 unfold Qw1 at h; split at h
 ·exact ⟨_, by assumption⟩
 ·cases h
theorem Qxz {P : Program} {t : TypeId} (h : Qw2 P t = true) : ∃ n e, P.underlying t = some (.array n e) := by
 unfold Qw2 at h; split at h
 ·exact ⟨_, _, by assumption⟩
 ·cases h
theorem QxV {P : Program} {t : TypeId} (h : Qx9 P t = true) : ∃ e, P.underlying t = some (.slice e) := by
 unfold Qx9 at h; split at h
 ·exact ⟨_, by assumption⟩
 ·cases h
theorem QkM {L : List (List AV)} (h : ∀ c ∈ L, Qbt (.int .i32) c) : ∃ l : List Int, L.length = l.length ∧ AV.list L.length L.flatten = il l ∧ I32 l := by
 obtain ⟨l, h1, h2, h3⟩ := Qr3 h
 exact ⟨l, h1, h2, fun x hx => by have := h3 x hx; simpa [IntKind.min, IntKind.max, IntKind.signed, IntKind.bits] using this⟩
theorem QuB {L : List (List AV)} (h : ∀ c ∈ L, Qbt (.slice (.int .u8)) c) : ∃ l : List (List UInt8), L.length = l.length ∧ AV.list L.length L.flatten = bss l ∧ ∀ x ∈ l, x.length ≤ maxLen := by
 obtain ⟨l, rfl, h2⟩ := Qch (f := fun b : List UInt8 => [bs b]) (q := fun x => x.length ≤ maxLen) h (fun c hc => by
  simp only [Qbt] at hc
  obtain ⟨L', rfl, h1, h2⟩ := hc
  obtain ⟨l, h3, h4⟩ := Qis h2
  exact ⟨l, by rw [h4], by omega⟩)
 exact ⟨l, by simp, by simp [bss, Qa8], h2⟩
def QxM : Sh := .tuple [.int .i64, .int .i64]
def Qxa : Sh := .tuple [QxM, .int .i64, .str, .slice (.int .u8), .slice (.int .i32), .slice (.slice (.int .u8)), .slice (.int .u8), .bool, .int .i64]
theorem QpB {cs0 : List AV} (h : Qbt QxM cs0) : ∃ c b : Int, cs0 = [.int .i64 c, .int .i64 b] := by
 simp only [QxM, Qbt, FitsL] at h
 obtain ⟨_, _, rfl, ⟨c, rfl, _⟩, _, _, rfl, ⟨b, rfl, _⟩, rfl⟩ := h
 exact ⟨c, b, rfl⟩
theorem QxC {cs0 : List AV} (h : Qbt Qxa cs0) : ∃ e : Enc, cs0 = Qya e ∧ I32 e.smp := by
 simp only [Qxa, Qbt, FitsL] at h
 obtain ⟨_, _, rfl, h1, _, _, rfl, ⟨r, rfl, _⟩, _, _, rfl, ⟨p, rfl, _⟩, _, _, rfl, ⟨L1, rfl, _, h2⟩, _, _, rfl, ⟨L2, rfl, _, h3⟩, _, _, rfl, ⟨L3, rfl, _, h4⟩, _, _, rfl, ⟨L4, rfl, _, h5⟩, _, _, rfl, ⟨d, rfl⟩, _, _, rfl, ⟨x, rfl, _⟩, rfl⟩ := h
 obtain ⟨c, b, rfl⟩ := QpB h1
 obtain ⟨l1, _, e1⟩ := Qis (L := L1) (fun c hc => by simp only [Qbt]; exact h2 c hc)
 obtain ⟨l2, _, e2, hi⟩ := QkM (L := L2) (fun c hc => by simp only [Qbt]; exact h3 c hc)
 obtain ⟨l3, _, e3, _⟩ := QuB (L := L3) (fun c hc => by simp only [Qbt]; exact h4 c hc)
 obtain ⟨l4, _, e4⟩ := Qis (L := L4) (fun c hc => by simp only [Qbt]; exact h5 c hc)
 exact ⟨⟨c, b, r, p, l1, l2, l3, l4, d, x⟩, by simp [Qya, e1, e2, e3, e4], hi⟩
def w32 (x : Int) : Int := IntKind.i32.wrap x
theorem QuU (x : Int) : w32 x = (x + 2147483648) % 4294967296 - 2147483648 := by
 simp [w32, IntKind.wrap, IntKind.bits, IntKind.signed]; split <;> omega
theorem Qvs (a b : Int) : w32 (w32 a + w32 b) = w32 (a + b) := by simp only [QuU]; omega
theorem Qqo {a : Int} (h1 : -2147483648 ≤ a) (h2 : a ≤ 2147483647) : w32 a = a := J5 h1 h2
theorem QcO (a : Int) : -2147483648 ≤ w32 a ∧ w32 a ≤ 2147483647 := by simp only [QuU]; omega
theorem QaX (x : Int) : IntKind.i32.wrap x = w32 x := rfl
theorem XV {l : List Int} (h : I32 l) (k : Nat) : -2147483648 ≤ l.getD k 0 ∧ l.getD k 0 ≤ 2147483647 := by
 rw [List.getD_eq_getElem?_getD]
 cases hk : l[k]? with
 | none => simp
 | some v => exact h v (List.mem_of_getElem? hk)
theorem Qu7 {K : IntKind} {l : List Int} {k : Nat} (h : k < l.length) : (ks K l)[k]? = some (.int K (l.getD k 0)) := by
 simp [ks, List.getD_eq_getElem?_getD, List.getElem?_eq_getElem h]
structure Jq where
 sh : Int
 tp : List Int
 ps : List Int
def Qn (f : Jq) : List AV := .int .i64 f.sh :: (ks .i32 f.tp ++ ks .i32 f.ps)
def QbS (f : Jq) : Prop := f.tp.length = 16 ∧ f.ps.length = 16 ∧ I32 f.tp ∧ I32 f.ps
theorem Ze {f : Jq} (h : QbS f) : (Qn f).length = 33 := by
 obtain ⟨h1, h2, _⟩ := h
 simp [Qn, Qi, h1, h2]
theorem Zj (f : Jq) : (Qn f).all AV.one = true := by
 simp only [Qn, List.all_cons, List.all_append, QaO]; rfl
theorem Zx (f : Jq) : isDL (Qn f) = true := by
 have : ∀ a b, isDL (ks .i32 a ++ ks .i32 b) = true := fun a b => by rw [Qky]; exact Zk _ _
 simp [Qn, isDL, isD, this]
theorem QkO {f : Jq} (h : QbS f) : ((Qn f).drop 1).take 16 = ks .i32 f.tp := by
 obtain ⟨h1, h2, _⟩ := h
 simp only [Qn, List.drop_succ_cons, List.drop_zero]
 rw [List.take_left' (by simp [Qi, h1])]
theorem Qho {f : Jq} (h : QbS f) : ((Qn f).drop 17).take 16 = ks .i32 f.ps := by
 obtain ⟨h1, h2, _⟩ := h
 simp only [Qn, List.drop_succ_cons]
 rw [List.drop_left' (by simp [Qi, h1]), List.take_of_length_le (by simp [Qi, h2])]
theorem QuC {f : Jq} (h : QbS f) {k : Nat} (hk : k < 16) : (Qn f).drop (1 + k) = .int .i32 (f.tp.getD k 0) :: ((ks .i32 f.tp).drop (k + 1) ++ ks .i32 f.ps) := by
 obtain ⟨h1, h2, _⟩ := h
 rw [Nat.add_comm]
 simp only [Qn, List.drop_succ_cons]
 rw [List.drop_append_of_le_length (by simp [Qi, h1]; omega), Z2 (by omega), ← Qa6]
 simp [List.getD_eq_getElem?_getD, List.getElem?_eq_getElem (show k < f.tp.length by omega)]
theorem Qr7 {f : Jq} (h : QbS f) {k : Nat} (hk : k < 16) : (Qn f).drop (17 + k) = .int .i32 (f.ps.getD k 0) :: (ks .i32 f.ps).drop (k + 1) := by
 obtain ⟨h1, h2, _⟩ := h
 rw [show 17 + k = (16 + k) + 1 by omega]
 simp only [Qn, List.drop_succ_cons]
 rw [← List.drop_drop, List.drop_left' (by simp [Qi, h1]), Z2 (by omega), ← Qa6]
 simp [List.getD_eq_getElem?_getD, List.getElem?_eq_getElem (show k < f.ps.length by omega)]
theorem QmU {f : Jq} (h : QbS f) {k : Nat} (hk : k < 16) (v : Int) : (Qn f).take (1 + k) ++ [.int .i32 v] ++ (Qn f).drop (1 + k + 1) = Qn { f with tp := f.tp.set k v } := by
 obtain ⟨h1, h2, _⟩ := h
 rw [Nat.add_comm 1 k]
 simp only [Qn, List.take_succ_cons, List.drop_succ_cons, List.cons_append]
 congr 1
 rw [List.take_append_of_le_length (by simp [Qi, h1]; omega), List.drop_append_of_le_length (by simp [Qi, h1]; omega), ← List.append_assoc]
 congr 1
 rw [List.set_eq_take_append_cons_drop, if_pos (by omega)]
 simp [ks]
theorem QkP {f : Jq} (h : QbS f) {k : Nat} (hk : k < 16) (v : Int) : (Qn f).take (17 + k) ++ [.int .i32 v] ++ (Qn f).drop (17 + k + 1) = Qn { f with ps := f.ps.set k v } := by
 obtain ⟨h1, h2, _⟩ := h
 rw [show 17 + k = (16 + k) + 1 by omega]
 simp only [Qn, List.take_succ_cons, List.drop_succ_cons, List.cons_append]
 congr 1
 have e : (ks .i32 f.tp).length = 16 := by simp [Qi, h1]
 rw [List.take_append, List.take_of_length_le (by omega), e, show 16 + k + 1 = 16 + (k + 1) by omega, ← List.drop_drop, List.drop_left' e, show 16 + k - 16 = k by omega, List.append_assoc, List.append_assoc]
 congr 1
 rw [List.set_eq_take_append_cons_drop, if_pos (by omega)]
 simp [ks]
theorem QF {α : Type} {l : List α} {n : Nat} (h : l.length ≤ n) : l.take n = l := List.take_of_length_le h
def Qa0 (b : Int) : Int := if b = 16 then 9 else 10
def z16 : List Int := List.replicate 16 0
def Qih (b : Int) (t : List Int) : Jq := ⟨Qa0 b, t, z16⟩
def QjJ : Jq := ⟨0, z16, z16⟩
def Qgy (b : Int) (t : List Int) : AV := if ZL b = 0 then .tup [.agg (Qn QjJ), .int .i64 2] else .tup [.agg (Qn (Qih b t)), .int .i64 0]
def QoN (P : Prg) (f : Nat) : Prop := ∀ (b : Int) (t : List Int), t.length = 16 → VC P f [.int .i64 b, .agg (ks .i32 t)] (Qgy b t)
theorem Quh (b : Int) (t : List Int) : isD (Qgy b t) = true := by
 unfold Qgy; split <;> simp [isD, isDL, Zx]
theorem Qca : Qn QjJ = [.int .i64 0, .int .i32 0, .int .i32 0, .int .i32 0, .int .i32 0, .int .i32 0, .int .i32 0, .int .i32 0, .int .i32 0, .int .i32 0, .int .i32 0, .int .i32 0, .int .i32 0, .int .i32 0, .int .i32 0, .int .i32 0, .int .i32 0, .int .i32 0, .int .i32 0, .int .i32 0, .int .i32 0, .int .i32 0, .int .i32 0, .int .i32 0, .int .i32 0, .int .i32 0, .int .i32 0, .int .i32 0, .int .i32 0, .int .i32 0, .int .i32 0, .int .i32 0, .int .i32 0] := rfl
theorem Qtt {P : Prg} {f t0 t1 : Nat} (b : Body P f 18 [.cell 4 t1, .tmp 5] (XR t0 t1)) (ht : Z6 P t1 = some (some 33)) : QoN P f := by
 intro x t hl
 have hk : (ks .i32 t).length = 16 := by simp [Qi, hl]
 have h1 := QaO .i32 t
 have tk16 : (ks .i32 t).take 16 = ks .i32 t := QF (by omega)
 refine VC.of_acall (by simp [isDL, isD, Zk]) (Quh _ _) (ACall.of_body b (by simp) ?_)
 have fin : ∀ s : Int, .int .i64 s :: (ks .i32 t ++ [.int .i32 0, .int .i32 0, .int .i32 0, .int .i32 0, .int .i32 0, .int .i32 0, .int .i32 0, .int .i32 0, .int .i32 0, .int .i32 0, .int .i32 0, .int .i32 0, .int .i32 0, .int .i32 0, .int .i32 0, .int .i32 0]) = Qn ⟨s, t, z16⟩ := fun _ => rfl
 have hl33 : ∀ s : Int, (Qn ⟨s, t, z16⟩).length = 33 := fun s => by simp [Qn, Qi, hl, z16]
 have ho := fun s => Zj ⟨s, t, z16⟩
 have tk : ∀ s : Int, (Qn ⟨s, t, z16⟩).take 33 = Qn ⟨s, t, z16⟩ := fun s => QF (by rw [hl33]; omega)
 have st9 : ([] : List AV) ++ [.int .i64 9] ++ (Qn ⟨10, t, z16⟩).drop 1 = Qn ⟨9, t, z16⟩ := rfl
 have d9 : AV.int .i64 9 :: (Qn ⟨10, t, z16⟩).drop 1 = Qn ⟨9, t, z16⟩ := rfl
 rcases Q1 x with ⟨rfl, h⟩ | ⟨rfl, h⟩ | ⟨rfl, h⟩ | ⟨h2, h3, h4, h⟩
 ·simp (disch := omega) only [rq, simprocAttr, XR, Qgy, h, hk, h1, tk16, fin, hl33, ho, tk, Q3, ht, Qih, Qa0]
 ·simp (disch := omega) only [rq, simprocAttr, XR, Qgy, h, hk, h1, tk16, fin, hl33, ho, tk, Q3, ht, Qih, Qa0, d9]
 ·simp (disch := omega) only [rq, simprocAttr, XR, Qgy, h, hk, h1, tk16, fin, hl33, ho, tk, Q3, ht, Qih, Qa0]
 ·simp (disch := omega) only [rq, simprocAttr, XR, Qgy, h, hk, h1, tk16, fin, hl33, ho, tk, Q3, ht, Qca]
def Qta (s : Int) : Int := if s = 9 ∨ s = 10 then 0 else 8
def QdJ (P : Prg) (f : Nat) : Prop := ∀ x : Jq, QbS x → VC P f [.agg (Qn x)] (.int .i64 (Qta x.sh))
theorem QxG : Qta 9 = 0 := rfl
theorem QwE : Qta 10 = 0 := rfl
def Qvi (a b : List Int) : Nat → Int
 | 0 => 0
 | k + 1 => Qvi a b k + a.getD k 0 * b.getD k 0
def Qdn (s : Int) : Int := if s = 9 then 512 else 1024
def QrO (f : Jq) : Int := w32 (Qdn f.sh / 2 + Qvi f.tp f.ps 16) / Qdn f.sh
def Qjj (P : Prg) (f : Nat) : Prop := ∀ x : Jq, QbS x → x.sh = 9 ∨ x.sh = 10 → VC P f [.agg (Qn x)] (.tup [.int .i32 (QrO x), .int .i64 0])
theorem QvJ : Qg true .i32 1 8 = some (.int .i32 256) := rfl
theorem QvI : Qg true .i32 1 9 = some (.int .i32 512) := rfl
theorem QvD (s : Int) : Qg false .i32 s 9 = some (.int .i32 (s / 512)) := by
 show some (AV.int .i32 (s.fdiv 512)) = _
 rw [Int.fdiv_eq_ediv_of_nonneg _ (by omega)]
theorem QtH (s : Int) : Qg false .i32 s 10 = some (.int .i32 (s / 1024)) := by
 show some (AV.int .i32 (s.fdiv 1024)) = _
 rw [Int.fdiv_eq_ediv_of_nonneg _ (by omega)]
theorem Qo3 {P : Prg} {f fC t0 : Nat} (b : Body P f 36 [.tmp 2, .tmp 3] (Qbh fC t0)) (hC : QdJ P fC) : Qjj P f := by
 intro x hx hs
 have l33 := Ze hx
 have tk : (Qn x).take 33 = Qn x := QF (by omega)
 have ho := Zj x
 have e1 := QkO hx
 have e0 : (Qn x).drop 0 = .int .i64 x.sh :: (ks .i32 x.tp ++ ks .i32 x.ps) := rfl
 have ht : Qta x.sh = 0 := by simp [Qta, hs]
 have hl := hx.1
 refine VC.of_acall (by simp [isDL, isD, Zx]) rfl (ACall.of_body b (by simp) ?_)
 simp (disch := omega) only [rq, simprocAttr, Qbh, l33, tk, ho]
 refine Qc.vc (hC x hx) ?_
 rcases hs with h | h
 all_goals
  have z0 : w32 (Qdn x.sh / 2 + Qvi x.tp x.ps 0) = Qdn x.sh / 2 := by simp only [Qvi, Int.add_zero]; exact Qqo (by simp [Qdn, h]) (by simp [Qdn, h])
  have z1 : Qdn x.sh = 512 ∧ x.sh = 9 ∨ Qdn x.sh = 1024 ∧ x.sh = 10 := by simp [Qdn, h]
  simp (disch := omega) only [rq, simprocAttr, l33, tk, ho, QxG, QwE, e1, ↓e0, h, QvJ, QvI]
  refine QL.by (ι := Nat) (fun k => ⟨[(19, .int .i64 k), (18, .agg (ks .i32 x.tp)), (5, .int .i32 (w32 (Qdn x.sh / 2 + Qvi x.tp x.ps k))), (1, .ref 0 1 0)], [⟨t0, 33, 1, Qn x, 0⟩]⟩) (fun k => k ≤ 16) (fun k => 16 - k) 0 (Le.slots (by rw [z0]; simp [Am.look, h, Qdn])) (by omega) ?_
  intro k hk
  by_cases hlt : k < 16
  ·have e2 := Qr7 hx hlt
   have e3 := Qu7 (K := .i32) (l := x.tp) (k := k) (by omega)
   have e4 : w32 (w32 (Qdn x.sh / 2 + Qvi x.tp x.ps k) + w32 (x.tp.getD k 0 * x.ps.getD k 0)) = w32 (Qdn x.sh / 2 + Qvi x.tp x.ps (k + 1)) := by
    rw [Qvs]; simp only [Qvi]; congr 1; omega
   simp (disch := omega) only [rq, simprocAttr, l33, e2, e3, QaX, e4]
   exact ⟨k + 1, by omega, by omega, Le.slots (by simp [Am.look])⟩
  ·have e : k = 16 := by omega
   subst e
   simp (disch := omega) only [rq, simprocAttr, ↓e0, h, QvD, QtH, QrO, Qdn]
theorem Qo4 {P : Prg} {f t0 : Nat} (b : Body P f 11 [.tmp 2] (Xw t0)) : QdJ P f := by
 intro x hx
 have l33 := Ze hx
 have ho := Zj x
 have e0 : (Qn x).drop 0 = .int .i64 x.sh :: (ks .i32 x.tp ++ ks .i32 x.ps) := rfl
 refine VC.of_acall (by simp [isDL, isD, Zx]) rfl (ACall.of_body b (by simp) ?_)
 by_cases h9 : x.sh = 9
 ·simp (disch := omega) only [rq, simprocAttr, Xw, l33, ho, ↓e0, h9, Qta]
 by_cases h10 : x.sh = 10
 ·simp (disch := omega) only [rq, simprocAttr, Xw, l33, ho, ↓e0, h10, Qta]
 ·simp (disch := omega) only [rq, simprocAttr, Xw, l33, ho, ↓e0, Qta]
def Ql6 (i : Nat) : Int := if i = 0 then 4 else if i < 4 then 2 else 1
def QnI (P : Prg) (f : Nat) : Prop := ∀ i : Nat, VC P f [.int .i64 i] (.int .i32 (Ql6 i))
theorem QqB {P : Prg} {f : Nat} (b : Body P f 9 [.tmp 2] X8) : QnI P f := by
 intro i
 refine VC.of_acall rfl rfl (ACall.of_body b (by simp) ?_)
 by_cases h0 : i = 0
 ·subst h0; simp (disch := omega) only [rq, simprocAttr, X8, Ql6, Int.natCast_zero]
 by_cases h1 : i < 4
 ·simp (disch := omega) only [rq, simprocAttr, X8, Ql6, h0]
 ·simp (disch := omega) only [rq, simprocAttr, X8, Ql6, h0]
def sgn (x : Int) : Int := if x < 0 then -1 else if 0 < x then 1 else 0
def Qts (x : Jq) (w : Int) (k : Nat) : Int := w32 (x.tp.getD k 0 + Ql6 k * sgn (x.ps.getD k 0) * sgn w)
def XI (x : Jq) (w : Int) (k : Nat) : List Int := (List.range 16).map fun i => if i < k then Qts x w i else x.tp.getD i 0
def lf (x : Jq) (w : Int) (k : Nat) : Jq := { x with tp := XI x w k }
def Qab (x : Jq) (w : Int) : Jq := lf x w 16
theorem Qpn {l : List Int} (h : l.length = 16) : (List.range 16).map (fun i => l.getD i 0) = l := by
 apply List.ext_getElem (by simp [h])
 intro i h1 h2
 simp [List.getD_eq_getElem?_getD, List.getElem?_eq_getElem h2]
theorem QrD (x : Jq) (w : Int) (k : Nat) : (XI x w k).length = 16 := by simp [XI]
theorem Qhi {x : Jq} (h : QbS x) (w : Int) : XI x w 0 = x.tp := by
 have := Qpn h.1
 simpa [XI] using this
theorem Qps (x : Jq) (w : Int) {k : Nat} (hk : k < 16) : (XI x w k).getD k 0 = x.tp.getD k 0 := by
 simp [XI, List.getD_eq_getElem?_getD, hk]
theorem QrC (x : Jq) (w : Int) {k : Nat} (hk : k < 16) : (XI x w k).set k (Qts x w k) = XI x w (k + 1) := by
 apply List.ext_getElem (by simp [XI])
 intro i h1 h2
 rw [List.getElem_set]
 simp only [XI, List.getElem_map, List.getElem_range]
 by_cases e : k = i
 ·subst e; simp
 ·rw [if_neg e]
  by_cases h : i < k
  ·rw [if_pos h, if_pos (by omega)]
  ·rw [if_neg h, if_neg (by omega)]
theorem Qhj (x : Jq) (w : Int) {k : Nat} (h : Qts x w k = x.tp.getD k 0) : XI x w (k + 1) = XI x w k := by
 simp only [XI]
 apply List.map_congr_left
 intro i _
 by_cases e : i = k
 ·subst e; simp [h]
 ·by_cases h : i < k
  ·rw [if_pos h, if_pos (by omega)]
  ·rw [if_neg h, if_neg (by omega)]
theorem Qs6 {x : Jq} (h : QbS x) (w : Int) (k : Nat) : I32 (XI x w k) := by
 intro v hv
 simp only [XI, List.mem_map] at hv
 obtain ⟨i, _, rfl⟩ := hv
 split
 ·exact QcO _
 ·exact XV h.2.2.1 i
theorem Qkt {x : Jq} (h : QbS x) (w : Int) (k : Nat) : QbS (lf x w k) := ⟨QrD x w k, h.2.1, Qs6 h w k, h.2.2.2⟩
theorem Qe2 {x : Jq} (h : QbS x) (w : Int) : QbS (Qab x w) := Qkt h w 16
theorem Qt5 {x : Jq} (h : QbS x) : Qab x 0 = x := by
 have key : ∀ k, XI x 0 k = x.tp := fun k => by
  induction k with
  | zero => exact Qhi h 0
  | succ k ih =>
   rw [Qhj x 0, ih]
   have := XV h.2.2.1 k
   simp only [Qts, sgn]
   simp
   exact Qqo (by simpa using this.1) (by simpa using this.2)
 simp [Qab, lf, key]
def Qji (P : Prg) (f : Nat) : Prop := ∀ (x : Jq) (w : Int), QbS x → x.sh = 9 ∨ x.sh = 10 → VC P f [.agg (Qn x), .int .i32 w] (.tup [.agg (Qn (Qab x w)), .int .i64 0])
theorem QqA {s : Int} (h : s = 9 ∨ s = 10) : Qta s = 0 := by simp [Qta, h]
theorem Qo2 {P : Prg} {f fC fS t0 : Nat} (b : Body P f 53 [.cell 4 t0, .tmp 5] (Qbg fC fS t0)) (ht : Z6 P t0 = some (some 33)) (hC : QdJ P fC) (hS : QnI P fS) : Qji P f := by
 intro x w hx hs
 have l33 := Ze hx
 have tk : (Qn x).take 33 = Qn x := QF (by omega)
 have ho := Zj x
 have hc := QqA hs
 have pp := Qho hx
 have lw := Ze (Qe2 hx w)
 have tkw : (Qn (Qab x w)).take 33 = Qn (Qab x w) := QF (by omega)
 have how := Zj (Qab x w)
 refine VC.of_acall (by simp [isDL, isD, Zx]) (by simp [isD, isDL, Zx]) (ACall.of_body b (by simp) ?_)
 simp (disch := omega) only [rq, simprocAttr, Qbg, l33, tk, ho]
 refine Qc.vc (hC x hx) ?_
 by_cases hw : w = 0
 ·subst hw
  have e := Qt5 hx
  simp (disch := omega) only [rq, simprocAttr, l33, tk, ho, hc, Q3, ht, e]
 simp (disch := omega) only [rq, simprocAttr, l33, tk, ho, hc, pp]
 refine QL.by (ι := Nat) (fun k => ⟨[(20, .int .i64 k), (19, .agg (ks .i32 x.ps)), (4, .ref 1 1 0), (2, .ref 0 1 0), (1, .int .i32 w), (5, .int .i64 0)], [⟨t0, 33, 1, Qn (lf x w k), 0⟩, ⟨t0, 33, 1, Qn QjJ, 0⟩]⟩) (fun k => k ≤ 16) (fun k => 16 - k) 0 (by rw [show lf x w 0 = x by simp [lf, Qhi hx]]; exact Le.slots (by simp [Am.look])) (by omega) ?_
 intro k hk
 by_cases hlt : k < 16
 ·have hok := Qkt hx w k
  have e1 := Qu7 (K := .i32) (l := x.ps) (k := k) (by have := hx.2.1; omega)
  have e2 := QuC hok hlt
  have e3 := fun v => QmU hok hlt v
  have e4 := Qps x w hlt
  have e5 := Ze hok
  have hu := QrC x w hlt
  have hp := XV hx.2.2.2 k
  have htp := XV hx.2.2.1 k
  have ef : ∀ v, ({ lf x w k with tp := (lf x w k).tp.set k v } : Jq) = { x with tp := (XI x w k).set k v } := fun _ => rfl
  have e7 : (lf x w k).tp.getD k 0 = x.tp.getD k 0 := e4
  by_cases p0 : x.ps.getD k 0 = 0
  ·have e6 := Qhj x w (k := k) (by simp only [Qts, p0, sgn]; simp; exact Qqo (by simpa using htp.1) (by simpa using htp.2))
   simp (disch := omega) only [rq, simprocAttr, e1, p0]
   exact ⟨k + 1, by omega, by omega, by rw [show lf x w (k + 1) = lf x w k by simp [lf, e6]]; exact Le.slots (by simp [Am.look])⟩
  ·by_cases hsame : (x.ps.getD k 0 < 0 ↔ w < 0)
   ·have e6 : Qts x w k = w32 (x.tp.getD k 0 + Ql6 k) := by
     simp only [Qts, sgn]; congr 1
     by_cases q : w < 0
     ·rw [if_pos q, if_pos (hsame.2 q)]; omega
     ·rw [if_neg q, if_neg (fun h => q (hsame.1 h)), if_pos (by omega), if_pos (by omega)]; omega
    rw [e6] at hu
    by_cases q : w < 0
    ·have q2 := hsame.2 q
     simp (disch := omega) only [rq, simprocAttr, e1, e2, e7]
     refine ZN.vc (hS k) ?_
     simp (disch := omega) only [rq, simprocAttr, e3, e5, QaX, ef, hu]
     exact ⟨k + 1, by omega, by omega, Le.slots (by simp [Am.look])⟩
    ·have q2 : ¬ x.ps.getD k 0 < 0 := fun h => q (hsame.1 h)
     simp (disch := omega) only [rq, simprocAttr, e1, e2, e7]
     refine ZN.vc (hS k) ?_
     simp (disch := omega) only [rq, simprocAttr, e3, e5, QaX, ef, hu]
     exact ⟨k + 1, by omega, by omega, Le.slots (by simp [Am.look])⟩
   ·have e6 : Qts x w k = w32 (x.tp.getD k 0 - Ql6 k) := by
     simp only [Qts, sgn]; congr 1
     by_cases q : w < 0
     ·rw [if_pos q, if_neg (fun h => hsame ⟨fun _ => q, fun _ => h⟩), if_pos (by omega)]; omega
     ·rw [if_neg q, if_pos (Classical.byContradiction fun h => hsame ⟨fun h' => absurd h' h, fun h' => absurd h' q⟩), if_pos (by omega)]; omega
    rw [e6] at hu
    by_cases q : w < 0
    ·have q2 : ¬ x.ps.getD k 0 < 0 := fun h => hsame ⟨fun _ => q, fun _ => h⟩
     simp (disch := omega) only [rq, simprocAttr, e1, e2, e7]
     refine ZN.vc (hS k) ?_
     simp (disch := omega) only [rq, simprocAttr, e3, e5, QaX, ef, hu]
     exact ⟨k + 1, by omega, by omega, Le.slots (by simp [Am.look])⟩
    ·have q2 : x.ps.getD k 0 < 0 := Classical.byContradiction fun h => hsame ⟨fun h' => absurd h' h, fun h' => absurd h' q⟩
     simp (disch := omega) only [rq, simprocAttr, e1, e2, e7]
     refine ZN.vc (hS k) ?_
     simp (disch := omega) only [rq, simprocAttr, e3, e5, QaX, ef, hu]
     exact ⟨k + 1, by omega, by omega, Le.slots (by simp [Am.look])⟩
 ·have e : k = 16 := by omega
  subst e
  have hF : lf x w 16 = Qab x w := rfl
  rw [hF]
  simp (disch := omega) only [rq, simprocAttr, lw, tkw, how, Q3, ht, Qca]
def QgD (x : Jq) (v : Int) : Jq := { x with ps := v :: x.ps.take 15 }
theorem Qrt {x : Jq} (h : QbS x) {v : Int} (hv : -2147483648 ≤ v ∧ v ≤ 2147483647) : QbS (QgD x v) := by
 obtain ⟨h1, h2, h3, h4⟩ := h
 refine ⟨h1, by simp [QgD, h2], h3, fun y hy => ?_⟩
 simp only [QgD, List.mem_cons] at hy
 rcases hy with rfl | hy
 ·exact hv
 ·exact h4 y (List.mem_of_mem_take hy)
def QnJ (P : Prg) (f : Nat) : Prop := ∀ (x : Jq) (v : Int), QbS x → x.sh = 9 ∨ x.sh = 10 → VC P f [.agg (Qn x), .int .i32 v] (.tup [.agg (Qn (QgD x v)), .int .i64 0])
theorem QqC {P : Prg} {f fC t0 : Nat} (b : Body P f 22 [.cell 4 t0, .tmp 5] (Qb3 fC t0)) (ht : Z6 P t0 = some (some 33)) (hC : QdJ P fC) : QnJ P f := by
 intro x v hx hs
 have l33 := Ze hx
 have tk : (Qn x).take 33 = Qn x := QF (by omega)
 have ho := Zj x
 have hc := QqA hs
 have pp := Qho hx
 have h16 : (ks .i32 x.ps).length = 16 := by simp [Qi, hx.2.1]
 have o16 := QaO .i32 x.ps
 refine VC.of_acall (by simp [isDL, isD, Zx]) (by simp [isD, isDL, Zx]) (ACall.of_body b (by simp) ?_)
 simp (disch := omega) only [rq, simprocAttr, Qb3, l33, tk, ho]
 refine Qc.vc (hC x hx) ?_
 have hm : Nat.min 16 15 = 15 := rfl
 let y : Jq := { x with ps := x.ps.getD 0 0 :: x.ps.take 15 }
 have hy : QbS y := Qrt hx (XV hx.2.2.2 0)
 have hcp : (Qn x).take 18 ++ (ks .i32 x.ps).take 15 ++ (Qn x).drop 33 = Qn y := by
  have e1 : (Qn x).drop 33 = [] := List.drop_eq_nil_of_le (by omega)
  have e2 : (ks .i32 x.tp).length = 16 := by simp [Qi, hx.1]
  have e3 : (ks .i32 x.ps).take 1 = [.int .i32 (x.ps.getD 0 0)] := by
   have h1 : 0 < x.ps.length := by have := hx.2.1; omega
   match hps : x.ps, h1 with
   | a :: l, _ => rfl
  rw [e1, List.append_nil]
  simp only [Qn, List.take_succ_cons, List.cons_append, y]
  congr 1
  rw [List.take_append, List.take_of_length_le (by omega), e2, e3, List.append_assoc, QrF]
  rfl
 have hset : (Qn y).take 17 ++ [.int .i32 v] ++ (Qn y).drop 18 = Qn (QgD x v) := QkP hy (k := 0) (by omega) v
 have ly := Ze hy
 have lp : (Qn (QgD x v)).length = 33 := by rw [← hset]; simp [ly]
 have tkp : (Qn (QgD x v)).take 33 = Qn (QgD x v) := QF (by omega)
 have op := Zj (QgD x v)
 simp (disch := omega) only [rq, simprocAttr, l33, tk, ho, hc, pp, h16, o16, hm, hcp, hset, ly, lp, tkp, op, Q3, ht, Qca]
def Qat (x : Jq) (v y : Int) : Jq := QgD (Qab x y) v
theorem QfD {x : Jq} (h : QbS x) {v : Int} (hv : -2147483648 ≤ v ∧ v ≤ 2147483647) (y : Int) : QbS (Qat x v y) := Qrt (Qe2 h y) hv
def Qgk (P : Prg) (f : Nat) : Prop := ∀ (x : Jq) (v y : Int), QbS x → x.sh = 9 ∨ x.sh = 10 → -2147483648 ≤ v ∧ v ≤ 2147483647 → VC P f [.agg (Qn x), .int .i32 v, .int .i32 y] (.agg (Qn (Qat x v y)))
theorem Qpr {P : Prg} {f fL fP t0 : Nat} (b : Body P f 20 [.cell 6 t0] (Qbj fL fP t0)) (ht : Z6 P t0 = some (some 33)) (hL : Qji P fL) (hP : QnJ P fP) : Qgk P f := by
 intro x v y hx hs hv
 have l1 := Ze hx
 have t1 : (Qn x).take 33 = Qn x := QF (by omega)
 have o1 := Zj x
 have l2 := Ze (Qe2 hx y)
 have t2 : (Qn (Qab x y)).take 33 = Qn (Qab x y) := QF (by omega)
 have o2 := Zj (Qab x y)
 have l3 := Ze (QfD hx hv y)
 have t3 : (Qn (Qat x v y)).take 33 = Qn (Qat x v y) := QF (by omega)
 have o3 := Zj (Qat x v y)
 have d1 : (Qn x).drop 33 = [] := List.drop_eq_nil_of_le (by omega)
 have d2 : (Qn (Qab x y)).drop 33 = [] := List.drop_eq_nil_of_le (by omega)
 refine VC.of_acall (by simp [isDL, isD, Zx]) (by simp [isD, Zx]) (ACall.of_body b (by simp) ?_)
 simp (disch := omega) only [rq, simprocAttr, Qbj, l1, t1, o1]
 refine Qc.vc (hL x y hx hs) ?_
 simp (disch := omega) only [rq, simprocAttr, l1, t1, o1, l2, t2, o2, d1]
 refine Qc.vc (hP (Qab x y) v (Qe2 hx y) hs) ?_
 rw [← Qat]
 simp (disch := omega) only [rq, simprocAttr, l1, t1, o1, l2, t2, o2, l3, t3, o3, d1, d2, Q3, ht, Qca]
def QrP (x : Jq) (v : Int) : Int := w32 (v - QrO x)
def QxB (x : Jq) (v : Int) : Jq := Qat x v (QrP x v)
def Qef (P : Prg) (f : Nat) : Prop := ∀ (x : Jq) (v : Int), QbS x → x.sh = 9 ∨ x.sh = 10 → -2147483648 ≤ v ∧ v ≤ 2147483647 → VC P f [.agg (Qn x), .int .i32 v] (.tup [.int .i32 (QrP x v), .agg (Qn (QxB x v)), .int .i64 0])
theorem QmC {P : Prg} {f fG fB t0 : Nat} (b : Body P f 27 [.tmp 4, .cell 5 t0, .tmp 6] (QaA fG fB t0)) (ht : Z6 P t0 = some (some 33)) (hG : Qjj P fG) (hB : Qgk P fB) : Qef P f := by
 intro x v hx hs hv
 have l1 := Ze hx
 have t1 : (Qn x).take 33 = Qn x := QF (by omega)
 have o1 := Zj x
 have l3 := Ze (QfD hx hv (QrP x v))
 have t3 : (Qn (Qat x v (QrP x v))).take 33 = Qn (Qat x v (QrP x v)) := QF (by omega)
 have o3 := Zj (Qat x v (QrP x v))
 refine VC.of_acall (by simp [isDL, isD, Zx]) (by simp [isD, isDL, Zx]) (ACall.of_body b (by simp) ?_)
 simp (disch := omega) only [rq, simprocAttr, QaA, l1, t1, o1]
 refine Qc.vc (hG x hx hs) ?_
 simp (disch := omega) only [rq, simprocAttr, l1, t1, o1, QaX]
 refine Qc.vc (hB x v (QrP x v) hx hs hv) ?_
 simp only [QrP] at l3 t3 o3
 simp (disch := omega) only [rq, simprocAttr, l1, t1, o1, l3, t3, o3, Q3, ht, Qca, QxB, QrP]
def Qex (b last : Int) : Int := if b = 8 then 15 * last / 16 else 31 * last / 32
def Qjs (P : Prg) (f : Nat) : Prop := ∀ b : Int, ZL b ≠ 0 → VC P f [.int .i64 b] (.tup [.int .i64 (if b = 8 then 4 else 5), .int .i64 0])
theorem QmS {P : Prg} {f : Nat} (b : Body P f 10 [.tmp 2, .tmp 3] Xc) : Qjs P f := by
 intro x hx
 refine VC.of_acall rfl rfl (ACall.of_body b (by simp) ?_)
 rcases Q1 x with ⟨rfl, h⟩ | ⟨rfl, h⟩ | ⟨rfl, h⟩ | ⟨h2, h3, h4, h⟩
 ·simp (disch := omega) only [rq, simprocAttr, Xc]
 ·simp (disch := omega) only [rq, simprocAttr, Xc]
 ·simp (disch := omega) only [rq, simprocAttr, Xc]
 ·exact absurd h hx
theorem QvH {x : Int} (h : -2147483648 ≤ x ∧ x ≤ 2147483647) : Qg true .i64 x 4 = some (.int .i64 (x * 16)) := by
 show some (AV.int .i64 (IntKind.i64.wrap (x * 16))) = _
 rw [wrap_i64 (by omega) (by omega)]
theorem QvG {x : Int} (h : -2147483648 ≤ x ∧ x ≤ 2147483647) : Qg true .i64 x 5 = some (.int .i64 (x * 32)) := by
 show some (AV.int .i64 (IntKind.i64.wrap (x * 32))) = _
 rw [wrap_i64 (by omega) (by omega)]
theorem QvC (x : Int) : Qg false .i64 x 4 = some (.int .i64 (x / 16)) := by
 show some (AV.int .i64 (x.fdiv 16)) = _
 rw [Int.fdiv_eq_ediv_of_nonneg _ (by omega)]
theorem QvB (x : Int) : Qg false .i64 x 5 = some (.int .i64 (x / 32)) := by
 show some (AV.int .i64 (x.fdiv 32)) = _
 rw [Int.fdiv_eq_ediv_of_nonneg _ (by omega)]
def Qjr (P : Prg) (f : Nat) : Prop := ∀ (b l : Int), -2147483648 ≤ l ∧ l ≤ 2147483647 → VC P f [.int .i64 (if b = 8 then 4 else 5), .int .i32 l] (.int .i32 (Qex b l))
theorem QmR {P : Prg} {f : Nat} (b : Body P f 16 [.tmp 4] X2) : Qjr P f := by
 intro x l hl
 refine VC.of_acall rfl rfl (ACall.of_body b (by simp) ?_)
 have e1 : l * 16 - l = 15 * l := by omega
 have e2 : l * 32 - l = 31 * l := by omega
 have a := QvH hl
 have c := QvG hl
 by_cases h : x = 8
 ·simp (disch := omega) only [rq, simprocAttr, X2, h, Qex, a, QvC, e1]
 ·simp (disch := omega) only [rq, simprocAttr, X2, if_neg h, Qex, c, QvB, e2]
def Qjt (P : Prg) (f : Nat) : Prop := ∀ (b l : Int), ZL b ≠ 0 → -2147483648 ≤ l ∧ l ≤ 2147483647 → VC P f [.int .i64 b, .int .i32 l] (.tup [.int .i32 (Qex b l), .int .i64 0])
theorem QmT {P : Prg} {f fS fg : Nat} (b : Body P f 19 [.tmp 4, .tmp 5] (QaC fS fg)) (hS : Qjs P fS) (hg : Qjr P fg) : Qjt P f := by
 intro x l hx hl
 refine VC.of_acall rfl rfl (ACall.of_body b (by simp) ?_)
 simp (disch := omega) only [rq, simprocAttr, QaC]
 refine Qc.vc (hS x hx) ?_
 simp (disch := omega) only [rq, simprocAttr]
 refine Qc.vc (hg x l hl) ?_
 simp (disch := omega) only [rq, simprocAttr]
structure JG where
 bits : Int
 last : Int
 fl : Jq
def Zo (c : JG) : List AV := .int .i64 c.bits :: .int .i32 c.last :: Qn c.fl
def Qu0 (c : JG) : Prop := ZL c.bits ≠ 0 ∧ c.fl.sh = Qa0 c.bits ∧ QbS c.fl ∧ (-2147483648 ≤ c.last ∧ c.last ≤ 2147483647)
def Qc7 : JG := ⟨0, 0, QjJ⟩
theorem XY {c : JG} (h : QbS c.fl) : (Zo c).length = 35 := by simp [Zo, Ze h]
theorem Qaf (c : JG) : (Zo c).all AV.one = true := by simp [Zo, AV.one, Zj]
theorem Qdt (c : JG) : isDL (Zo c) = true := by simp [Zo, isDL, isD, Zx]
theorem QtI (b : Int) : Qa0 b = 9 ∨ Qa0 b = 10 := by unfold Qa0; split <;> simp
theorem Qru {b : Int} {t : List Int} (h1 : t.length = 16) (h2 : I32 t) : QbS (Qih b t) := ⟨h1, by simp [Qih, z16], h2, fun x hx => by simp [Qih, z16] at hx; omega⟩
theorem QeV : Zo Qc7 = [.int .i64 0, .int .i32 0, .int .i64 0, .int .i32 0, .int .i32 0, .int .i32 0, .int .i32 0, .int .i32 0, .int .i32 0, .int .i32 0, .int .i32 0, .int .i32 0, .int .i32 0, .int .i32 0, .int .i32 0, .int .i32 0, .int .i32 0, .int .i32 0, .int .i32 0, .int .i32 0, .int .i32 0, .int .i32 0, .int .i32 0, .int .i32 0, .int .i32 0, .int .i32 0, .int .i32 0, .int .i32 0, .int .i32 0, .int .i32 0, .int .i32 0, .int .i32 0, .int .i32 0, .int .i32 0, .int .i32 0] := rfl
def Qd0 (b : Int) (t : List Int) : JG := ⟨b, 0, Qih b t⟩
def QpR (b : Int) (t : List Int) : AV := if ZL b = 0 then .tup [.agg (Zo Qc7), .int .i64 2] else .tup [.agg (Zo (Qd0 b t)), .int .i64 0]
def Qs1 (P : Prg) (f : Nat) : Prop := ∀ (b : Int) (t : List Int), t.length = 16 → I32 t → VC P f [.int .i64 b, .agg (ks .i32 t)] (QpR b t)
theorem Qun (b : Int) (t : List Int) : isD (QpR b t) = true := by unfold QpR; split <;> simp [isD, isDL, Qdt]
theorem Qss {P : Prg} {f fT t0 t1 t2 : Nat} (b : Body P f 21 [.cell 4 t1, .tmp 5] (Qb8 fT t0 t1 t2)) (ht : Z6 P t1 = some (some 35)) (hT : QoN P fT) : Qs1 P f := by
 intro x t hl hI
 have hk : (ks .i32 t).length = 16 := by simp [Qi, hl]
 have h1 := QaO .i32 t
 have tk16 : (ks .i32 t).take 16 = ks .i32 t := QF (by omega)
 have hok : QbS (Qih x t) := Qru hl hI
 have l1 := Ze hok
 have t1' : (Qn (Qih x t)).take 33 = Qn (Qih x t) := QF (by omega)
 have o1 := Zj (Qih x t)
 have lc := XY (c := Qd0 x t) hok
 have tc : (Zo (Qd0 x t)).take 35 = Zo (Qd0 x t) := QF (by omega)
 have oc := Qaf (Qd0 x t)
 have mk : AV.int .i64 x :: .int .i32 0 :: Qn (Qih x t) = Zo (Qd0 x t) := rfl
 refine VC.of_acall (by simp [isDL, isD, Zk]) (Qun _ _) (ACall.of_body b (by simp) ?_)
 simp (disch := omega) only [rq, simprocAttr, Qb8, hk, h1, tk16]
 refine Qc.vc (hT x t hl) ?_
 by_cases h0 : ZL x = 0
 ·simp (disch := omega) only [rq, simprocAttr, Qgy, h0, QpR, Qca, QeV, Q3, ht]
 ·simp (disch := omega) only [rq, simprocAttr, Qgy, if_neg h0, QpR, l1, t1', o1, lc, tc, oc, mk, QeV, Q3, ht]
theorem Qwm {c : JG} (h : QbS c.fl) : ((Zo c).drop 2).take 33 = Qn c.fl := by
 simp only [Zo, List.drop_succ_cons, List.drop_zero]
 exact QF (by rw [Ze h]; omega)
theorem Qsq {c : JG} (h : QbS c.fl) : ((Zo c).drop 3).take 16 = ks .i32 c.fl.tp := QkO h
def QjA (P : Prg) (f : Nat) : Prop := ∀ c : JG, Qu0 c → VC P f [.agg (Zo c)] (.int .i64 0)
theorem Qnf {P : Prg} {f fT t0 t1 : Nat} (b : Body P f 24 [.tmp 2] (QaI fT t0 t1)) (hT : QoN P fT) : QjA P f := by
 intro c ⟨h1, h2, h3, h4⟩
 have lc := XY h3
 have oc := Qaf c
 have e0 : (Zo c).drop 0 = .int .i64 c.bits :: .int .i32 c.last :: Qn c.fl := rfl
 have e2 : (Zo c).drop 2 = .int .i64 c.fl.sh :: (ks .i32 c.fl.tp ++ ks .i32 c.fl.ps) := rfl
 have et := Qsq h3
 have hk : (ks .i32 c.fl.tp).length = 16 := by simp [Qi, h3.1]
 have hok : QbS (Qih c.bits c.fl.tp) := Qru h3.1 h3.2.2.1
 have l1 := Ze hok
 have t1' : (Qn (Qih c.bits c.fl.tp)).take 33 = Qn (Qih c.bits c.fl.tp) := QF (by omega)
 have o1 := Zj (Qih c.bits c.fl.tp)
 have en : (Qn (Qih c.bits c.fl.tp)).drop 0 = .int .i64 (Qa0 c.bits) :: (ks .i32 c.fl.tp ++ ks .i32 z16) := rfl
 have dn : (Qn (Qih c.bits c.fl.tp)).drop 33 = [] := List.drop_eq_nil_of_le (by omega)
 refine VC.of_acall (by simp [isDL, isD, Qdt]) rfl (ACall.of_body b (by simp) ?_)
 simp (disch := omega) only [rq, simprocAttr, QaI, lc, oc, ↓e0, et]
 refine Qc.vc (hT c.bits c.fl.tp h3.1) ?_
 simp (disch := omega) only [rq, simprocAttr, Qgy, if_neg h1, l1, t1', o1, ↓en, ↓e2, h2, dn]
def Qxe (c : JG) (x : Int) : Int := w32 (x - Qex c.bits c.last)
def Qng (c : JG) (x : Int) : Int := QrP c.fl (Qxe c x)
def QbC (c : JG) (x : Int) : JG := ⟨c.bits, x, QxB c.fl (Qxe c x)⟩
theorem Qmz {c : JG} (h : Qu0 c) {x : Int} (hx : -2147483648 ≤ x ∧ x ≤ 2147483647) : Qu0 (QbC c x) := ⟨h.1, h.2.1, QfD h.2.2.1 (QcO _) _, hx⟩
def Qei (P : Prg) (f : Nat) : Prop := ∀ (c : JG) (x : Int), Qu0 c → -2147483648 ≤ x ∧ x ≤ 2147483647 → VC P f [.agg (Zo c), .int .i32 x] (.tup [.int .i32 (Qng c x), .agg (Zo (QbC c x)), .int .i64 0])
theorem QiH {P : Prg} {f fC fG fF t0 t1 : Nat} (b : Body P f 44 [.tmp 4, .cell 5 t0, .tmp 6] (Jo fC fG fF t0 t1)) (ht : Z6 P t0 = some (some 35)) (hC : QjA P fC) (hG : Qjt P fG) (hF : Qef P fF) : Qei P f := by
 intro c x hc hx
 obtain ⟨h1, h2, h3, h4⟩ := id hc
 have hs : c.fl.sh = 9 ∨ c.fl.sh = 10 := by rw [h2]; exact QtI _
 have lc := XY h3
 have tc : (Zo c).take 35 = Zo c := QF (by omega)
 have oc := Qaf c
 have e0 : (Zo c).drop 0 = .int .i64 c.bits :: .int .i32 c.last :: Qn c.fl := rfl
 have e1 : (Zo c).drop 1 = .int .i32 c.last :: Qn c.fl := rfl
 have e2 := Qwm h3
 have hzr := QcO (x - Qex c.bits c.last)
 have hok := Qmz hc hx
 have l1 := Ze hok.2.2.1
 have t1' : (Qn (QbC c x).fl).take 33 = Qn (QbC c x).fl := QF (by omega)
 have o1 := Zj (QbC c x).fl
 have d1 : (Qn (QbC c x).fl).drop 33 = [] := List.drop_eq_nil_of_le (by omega)
 have l2 := XY hok.2.2.1
 have t2 : (Zo (QbC c x)).take 35 = Zo (QbC c x) := QF (by omega)
 have o2 := Qaf (QbC c x)
 have mk : AV.int .i64 c.bits :: .int .i32 x :: Qn (QbC c x).fl = Zo (QbC c x) := rfl
 have hfe : QxB c.fl (w32 (x - Qex c.bits c.last)) = (QbC c x).fl := rfl
 have hye : QrP c.fl (w32 (x - Qex c.bits c.last)) = Qng c x := rfl
 refine VC.of_acall (by simp [isDL, isD, Qdt]) (by simp [isD, isDL, Qdt]) (ACall.of_body b (by simp) ?_)
 simp (disch := omega) only [rq, simprocAttr, Jo, lc, tc, oc]
 refine Qc.vc (hC c hc) ?_
 simp (disch := omega) only [rq, simprocAttr, lc, tc, oc, ↓e0, ↓e1]
 refine Qc.vc (hG c.bits c.last h1 h4) ?_
 simp (disch := omega) only [rq, simprocAttr, lc, tc, oc, e2, QaX]
 refine Qc.vc (hF c.fl _ h3 hs hzr) ?_
 rw [hfe, hye]
 simp (disch := omega) only [rq, simprocAttr, lc, tc, oc, ↓e0, l1, t1', o1, d1, l2, t2, o2, mk, Q3, ht, QeV]
theorem Qqy {x : Int} (h : x < 0) (n : Int) : x.tdiv n = -(-x / n) ∧ x.tmod n = -(-x % n) := by
 have e : x = -(-x) := by omega
 constructor
 ·rw [e, Int.neg_tdiv, Int.tdiv_eq_ediv_of_nonneg (by omega)]; simp
 ·rw [e, Int.neg_tmod, Int.tmod_eq_emod_of_nonneg (by omega)]; simp
def QxP (x : Jq) (k : Nat) : List Int := (List.range 16).map fun j => if k < j then x.ps.getD (j - 1) 0 else x.ps.getD j 0
def pf (x : Jq) (k : Nat) : Jq := { x with ps := QxP x k }
def QkK (x : Int) : Int := if x < 0 then -2 * x - 1 else 2 * x
def QsV (P : Prg) (f : Nat) : Prop := ∀ x : Int, -2147483648 ≤ x ∧ x ≤ 2147483647 → VC P f [.int .i32 x] (.int .u32 (QkK x))
theorem QrX {x : Int} (h : -2147483648 ≤ x ∧ x ≤ 2147483647) : 0 ≤ QkK x ∧ QkK x < 4294967296 := by unfold QkK; split <;> omega
theorem Qti {a : Nat} (h : a < 4294967296) : (BitVec.ofInt 32 (a : Int) ^^^ BitVec.ofInt 32 4294967295).toNat = 4294967295 - a := by
 have e : BitVec.ofInt 32 4294967295 = BitVec.allOnes 32 := by decide
 rw [e, BitVec.xor_allOnes, BitVec.toNat_not]
 have : (BitVec.ofInt 32 (a : Int)).toNat = a := by simp; omega
 rw [this]
theorem Qqh {a : Nat} (h : a < 4294967296) : (BitVec.ofInt 32 (a : Int) ^^^ BitVec.ofInt 32 0).toNat = a := by
 have : (BitVec.ofInt 32 (a : Int)).toNat = a := by simp; omega
 rw [BitVec.toNat_xor, this]
 simp
theorem QrW {P : Prg} {f : Nat} (b : Body P f 10 [.tmp 2] Qaj) : QsV P f := by
 intro x hx
 refine VC.of_acall rfl rfl (ACall.of_body b (by simp) ?_)
 by_cases h : x < 0
 ·have a1 : IntKind.u32.wrap x = x + 4294967296 := by rw [J4]; omega
  have a2 : Qg true .u32 (x + 4294967296) 1 = some (.int .u32 (2 * x + 4294967296)) := by
   show some (AV.int .u32 (IntKind.u32.wrap ((x + 4294967296) * 2))) = _
   rw [J4]; congr 2; omega
  have a3 : Qg false .i32 x 31 = some (.int .i32 (-1)) := by
   show some (AV.int .i32 (x.fdiv 2147483648)) = _
   rw [Int.fdiv_eq_ediv_of_nonneg _ (by omega)]; congr 2; omega
  have a4 : IntKind.u32.wrap (-1) = 4294967295 := rfl
  have a5 : (BitVec.ofInt IntKind.u32.bits (2 * x + 4294967296) ^^^ BitVec.ofInt IntKind.u32.bits 4294967295).toNat = (-2 * x - 1).toNat := by
   show (BitVec.ofInt 32 (2 * x + 4294967296) ^^^ BitVec.ofInt 32 4294967295).toNat = (-2 * x - 1).toNat
   have := Qti (a := (2 * x + 4294967296).toNat) (by omega)
   rw [show (((2 * x + 4294967296).toNat : Nat) : Int) = 2 * x + 4294967296 by omega] at this
   rw [this]; omega
  have a6 : (((BitVec.ofInt IntKind.u32.bits (2 * x + 4294967296) ^^^ BitVec.ofInt IntKind.u32.bits 4294967295).toNat : Nat) : Int) = -2 * x - 1 := by rw [a5]; omega
  simp (disch := omega) only [rq, simprocAttr, Qaj, a1, a2, a3, a4, a6, QkK]
 ·have a2 : Qg true .u32 x 1 = some (.int .u32 (2 * x)) := by
   show some (AV.int .u32 (IntKind.u32.wrap (x * 2))) = _
   rw [J4]; congr 2; omega
  have a3 : Qg false .i32 x 31 = some (.int .i32 0) := by
   show some (AV.int .i32 (x.fdiv 2147483648)) = _
   rw [Int.fdiv_eq_ediv_of_nonneg _ (by omega)]; congr 2; omega
  have a5 : (BitVec.ofInt IntKind.u32.bits (2 * x) ^^^ BitVec.ofInt IntKind.u32.bits 0).toNat = (2 * x).toNat := by
   show (BitVec.ofInt 32 (2 * x) ^^^ BitVec.ofInt 32 0).toNat = (2 * x).toNat
   have := Qqh (a := (2 * x).toNat) (by omega)
   rwa [show (((2 * x).toNat : Nat) : Int) = 2 * x by omega] at this
  have a6 : (((BitVec.ofInt IntKind.u32.bits (2 * x) ^^^ BitVec.ofInt IntKind.u32.bits 0).toNat : Nat) : Int) = 2 * x := by rw [a5]; omega
  simp (disch := omega) only [rq, simprocAttr, Qaj, a2, a3, a6, QkK]
theorem Qu6 {K : IntKind} {l : List Int} {i : Nat} (h : i < l.length) (v : Int) : (ks K l).take i ++ [.int K v] ++ (ks K l).drop (i + 1) = ks K (l.set i v) := by
 rw [List.set_eq_take_append_cons_drop, if_pos h]
 simp [ks]
theorem Qin {K : IntKind} {l : List Int} {i : Nat} (h : i < l.length) : (ks K l).drop i = .int K (l.getD i 0) :: ks K (l.drop (i + 1)) := by
 rw [Z2 h]; simp [List.getD_eq_getElem?_getD, List.getElem?_eq_getElem h]
theorem Qwa {α : Type} (l : List α) (x : α) : (l ++ [x])[l.length]? = some x := by simp
theorem QvK {α : Type} (l : List α) (x y : α) : (l ++ [x]).set l.length y = l ++ [y] := by simp
def Qjy (t : Nat) (P : Prg) (f : Nat) : Prop := ∀ (l : List Int) (ob : List Ob) (K : AV → List Ob → Prop), 0 < l.length → l.length ≤ 1000000 → K (.own ob.length l.length) (ob ++ [⟨t, 1, l.length, ks .i32 l, 0⟩]) → ACall P f [il l] ob K
theorem Qsn {P : Prg} {f t0 : Nat} (b : Body P f 8 [.tmp 2] (Q6 t0)) : Qjy t0 P f := by
 intro l ob K h0 h1 hK
 refine ACall.of_body b (by simp) ?_
 have g1 := fun x : Ob => Qwa ob x
 have g2 := fun x y : Ob => QvK ob x y
 have n0 : l.length ≠ 0 := by omega
 simp (disch := omega) only [rq, simprocAttr, Q6, il, QlC, n0, g1, g2, Qw0]
 exact hK
def Qgs (L : List Int) (k i : Nat) : List Int := (List.range L.length).map fun j => if k ≤ j ∧ j < k + i then w32 (L.getD (j + 1) 0 - L.getD j 0) else L.getD j 0
def QfF (L : List Int) (k n : Nat) : List Int := if n = 1 then L else (Qgs L k (n - 1)).set (k + (n - 1)) (w32 (L.getD (k + (n - 1)) 0 - (w32 (L.getD (k + (n - 1)) 0 - L.getD (k + (n - 2)) 0)).tdiv 2))
theorem Qdu {a b : List Int} (h : a.length = b.length) (h2 : ∀ j, j < a.length → a.getD j 0 = b.getD j 0) : a = b := by
 apply List.ext_getElem h
 intro i h1 h3
 have := h2 i h1
 simpa [List.getD_eq_getElem?_getD, List.getElem?_eq_getElem h1, List.getElem?_eq_getElem h3] using this
theorem Qa1 (L : List Int) (k i : Nat) : (Qgs L k i).length = L.length := by simp [Qgs]
theorem Xf {g : Nat → Int} {n j : Nat} (h : j < n) : ((List.range n).map g).getD j 0 = g j := by
 simp [List.getD_eq_getElem?_getD, h]
theorem Qob {l : List Int} {i j : Nat} {v : Int} (h : j < l.length) : (l.set i v).getD j 0 = if i = j then v else l.getD j 0 := by
 simp only [List.getD_eq_getElem?_getD, List.getElem?_set]
 split
 ·subst_vars; simp [h]
 ·rfl
theorem QwQ (L : List Int) (k : Nat) : Qgs L k 0 = L := Qdu (Qa1 _ _ _) fun j hj => by
 rw [Qa1] at hj
 rw [Qgs, Xf hj, if_neg (by omega)]
theorem Qq3 {L : List Int} {k i j : Nat} (h : j < L.length) (h2 : k + i ≤ j) : (Qgs L k i).getD j 0 = L.getD j 0 := by
 rw [Qgs, Xf h, if_neg (by omega)]
theorem QtJ {L : List Int} {k i : Nat} (h : k + i < L.length) : (Qgs L k i).set (k + i) (w32 (L.getD (k + i + 1) 0 - L.getD (k + i) 0)) = Qgs L k (i + 1) := Qdu (by simp [Qa1]) fun j hj => by
 have hj' : j < L.length := by simpa [Qa1] using hj
 rw [Qob (by rw [Qa1]; exact hj'), Qgs, Qgs, Xf hj', Xf hj']
 by_cases e : k + i = j
 ·subst e; rw [if_pos rfl, if_pos (by omega)]
 ·rw [if_neg e]
  by_cases q : k ≤ j ∧ j < k + i
  ·rw [if_pos q, if_pos (by omega)]
  ·rw [if_neg q, if_neg (by omega)]
def Qwv (P : Prg) (f : Nat) : Prop := ∀ (t : Nat) (L : List Int) (k n : Nat) (K : AV → List Ob → Prop), I32 L → 1 ≤ n → k + n ≤ L.length → L.length ≤ 1000000 →
 K (.tup []) [⟨t, 1, L.length, ks .i32 (QfF L k n), 0⟩] → ACall P f [.view 0 L.length k n] [⟨t, 1, L.length, ks .i32 L, 0⟩] K
theorem Qqz {x : Int} (h : -2147483648 ≤ x ∧ x ≤ 2147483647) : -2147483648 ≤ x.tdiv 2 ∧ x.tdiv 2 ≤ 2147483647 := by
 by_cases hx : x < 0
 ·rw [(Qqy hx 2).1]; omega
 ·rw [Int.tdiv_eq_ediv_of_nonneg (by omega)]; omega
theorem QvU {P : Prg} {f : Nat} (b : Body P f 39 [] Qeb) : Qwv P f := by
 intro t L k n K hL h1 h2 h3 hK
 refine ACall.of_body b (by simp) ?_
 simp (disch := omega) only [rq, simprocAttr, Qeb]
 refine QL.by (ι := Nat) (fun i => ⟨[(8, .int .i64 i), (7, .int .i64 ((n : Int) - 1)), (2, .int .i64 ((n : Int) - 1)), (0, .view 0 L.length k n)], [⟨t, 1, L.length, ks .i32 (Qgs L k i), 0⟩]⟩) (fun i => i ≤ n - 1) (fun i => n - 1 - i) 0 (by rw [QwQ]; exact Le.slots (by simp [Am.look])) (by omega) ?_
 intro i hi
 have ls := Qa1 L k i
 by_cases hlt : i < n - 1
 ·have e1 := Qin (K := .i32) (l := Qgs L k i) (i := k + i) (by omega)
  have e2 := Qin (K := .i32) (l := Qgs L k i) (i := k + (i + 1)) (by omega)
  have e3 := fun v => Qu6 (K := .i32) (l := Qgs L k i) (i := k + i) (by omega) v
  have a1 := Qq3 (L := L) (k := k) (i := i) (j := k + i) (by omega) (by omega)
  have a2 := Qq3 (L := L) (k := k) (i := i) (j := k + (i + 1)) (by omega) (by omega)
  have a3 := QtJ (L := L) (k := k) (i := i) (by omega)
  rw [show k + i + 1 = k + (i + 1) by omega] at a3
  rw [a1] at e1
  rw [a2] at e2
  simp (disch := omega) only [rq, simprocAttr, e1, e2, e3, QaX, a3, ls]
  exact ⟨i + 1, by omega, by omega, Le.slots (by simp [Am.look])⟩
 ·have e : i = n - 1 := by omega
  subst e
  by_cases hn : n = 1
  ·subst hn
   have e0 : QfF L k 1 = Qgs L k (1 - 1) := by simp [QfF, QwQ]
   rw [e0] at hK
   simp (disch := omega) only [rq, simprocAttr]
   exact hK
  ·have e1 := Qin (K := .i32) (l := Qgs L k (n - 1)) (i := k + (n - 1)) (by omega)
   have e2 := Qin (K := .i32) (l := Qgs L k (n - 1)) (i := k + (n - 2)) (by omega)
   have e3 := fun v => Qu6 (K := .i32) (l := Qgs L k (n - 1)) (i := k + (n - 1)) (by omega) v
   have a1 := Qq3 (L := L) (k := k) (i := n - 1) (j := k + (n - 1)) (by omega) (by omega)
   have a2 : (Qgs L k (n - 1)).getD (k + (n - 2)) 0 = w32 (L.getD (k + (n - 1)) 0 - L.getD (k + (n - 2)) 0) := by
    rw [Qgs, Xf (by omega), if_pos (by omega), show k + (n - 2) + 1 = k + (n - 1) by omega]
   rw [a1] at e1
   rw [a2] at e2
   have hr := Qqz (QcO (L.getD (k + (n - 1)) 0 - L.getD (k + (n - 2)) 0))
   simp only [QfF, if_neg hn] at hK
   rw [show k + (n - 2) = k + (n - 1 - 1) by omega] at e2 hK hr
   simp (disch := omega) only [rq, simprocAttr, e1, e2, e3, QaX, ls]
   exact hK
def QbT (c : Int) (n : Nat) : Int := if c < 1 ∨ 6 < c then 2 else if 4000 < n then 4 else if (n : Int) % c ≠ 0 then 2 else 0
def Qjo (P : Prg) (f : Nat) : Prop := ∀ (c : Int) (l : List Int), VC P f [.int .i64 c, il l] (.int .i64 (QbT c l.length))
theorem QrA {P : Prg} {f : Nat} (b : Body P f 22 [.tmp 4] ZO) : Qjo P f := by
 intro c l
 refine VC.of_acall (by simp [isDL, isD, Q8]) rfl (ACall.of_body b (by simp) ?_)
 by_cases h1 : c < 1
 ·simp (disch := omega) only [rq, simprocAttr, ZO, il, QbT]
 by_cases h2 : 6 < c
 ·simp (disch := omega) only [rq, simprocAttr, ZO, il, QbT]
 by_cases h3 : 4000 < l.length
 ·simp (disch := omega) only [rq, simprocAttr, ZO, il, QbT]
 have hm := QaM (n := l.length) (c := c) (by omega)
 by_cases h4 : (l.length : Int) % c = 0
 ·simp (disch := omega) only [rq, simprocAttr, ZO, il, QbT, h4]
 ·simp (disch := omega) only [rq, simprocAttr, ZO, il, QbT, h4]
def Qu1 (c : Nat) (l : List Int) (j : Nat) : Int :=
 if c = 1 then l.getD j 0
 else if j % c + 1 < c then w32 (l.getD (j + 1) 0 - l.getD j 0)
 else w32 (l.getD j 0 - (w32 (l.getD j 0 - l.getD (j - 1) 0)).tdiv 2)
def QjF (c : Nat) (l : List Int) (a : Nat) : List Int := (List.range l.length).map fun j => if j < a then Qu1 c l j else l.getD j 0
def QaN (c : Nat) (l : List Int) : List Int := (List.range l.length).map (Qu1 c l)
theorem Jv (c : Nat) (l : List Int) (a : Nat) : (QjF c l a).length = l.length := by simp [QjF]
theorem QwX (c : Nat) (l : List Int) : QjF c l 0 = l := Qdu (Jv _ _ _) fun j hj => by
 rw [Jv] at hj; rw [QjF, Xf hj, if_neg (by omega)]
theorem Qom (c : Nat) (l : List Int) : QjF c l l.length = QaN c l := by
 simp only [QjF, QaN]
 apply List.map_congr_left
 intro j hj
 rw [if_pos (by simpa using hj)]
theorem Qt2 {c : Nat} {l : List Int} (h : I32 l) (j : Nat) : -2147483648 ≤ Qu1 c l j ∧ Qu1 c l j ≤ 2147483647 := by
 unfold Qu1
 split
 ·exact XV h j
 ·split <;> exact QcO _
theorem QoR {c : Nat} {l : List Int} (h : I32 l) (a : Nat) : I32 (QjF c l a) := by
 intro v hv
 simp only [QjF, List.mem_map] at hv
 obtain ⟨j, _, rfl⟩ := hv
 split
 ·exact Qt2 h j
 ·exact XV h j
theorem Qqc {c : Nat} {l : List Int} (h : I32 l) : I32 (QaN c l) := by rw [← Qom]; exact QoR h _
theorem Qhh (c : Nat) (l : List Int) : (QaN c l).length = l.length := by simp [QaN]
theorem QvT {c : Nat} {l : List Int} {m : Nat} (hc : 1 ≤ c) (h : c * m + c ≤ l.length) : QfF (QjF c l (c * m)) (c * m) c = QjF c l (c * m + c) := by
 have mod : ∀ j, c * m ≤ j → j < c * m + c → j % c = j - c * m := fun j h1 h2 => by
  rw [show j = c * m + (j - c * m) by omega, Nat.mul_add_mod]
  rw [Nat.mod_eq_of_lt (by omega)]; omega
 have at' : ∀ j, j < l.length → c * m ≤ j → (QjF c l (c * m)).getD j 0 = l.getD j 0 := fun j h1 h2 => by rw [QjF, Xf h1, if_neg (by omega)]
 by_cases h1 : c = 1
 ·subst h1
  simp only [QfF, if_true]
  refine Qdu (by simp [Jv]) fun j hj => ?_
  rw [Jv] at hj
  rw [QjF, QjF, Xf hj, Xf hj]
  by_cases q : j < 1 * m
  ·rw [if_pos q, if_pos (by omega)]
  ·rw [if_neg q]; split
   ·simp [Qu1]
   ·rfl
 ·simp only [QfF, if_neg h1]
  refine Qdu (by simp [Qa1, Jv]) fun j hj => ?_
  have hj' : j < l.length := by simpa [Qa1, Jv] using hj
  rw [Qob (by simpa [Qa1, Jv] using hj')]
  rw [Qgs, Jv, Xf hj']
  conv => rhs; rw [QjF, Xf hj']
  by_cases e : c * m + (c - 1) = j
  ·rw [if_pos e, if_pos (by omega), at' _ (by omega) (by omega), at' _ (by omega) (by omega)]
   subst e
   have := mod (c * m + (c - 1)) (by omega) (by omega)
   unfold Qu1
   rw [if_neg h1, if_neg (by rw [this]; omega), show c * m + (c - 1) - 1 = c * m + (c - 2) by omega]
  ·rw [if_neg e]
   by_cases q : c * m ≤ j ∧ j < c * m + (c - 1)
   ·rw [if_pos q, if_pos (by omega), at' _ (by omega) (by omega), at' _ (by omega) (by omega)]
    have := mod j (by omega) (by omega)
    unfold Qu1
    rw [if_neg h1, if_pos (by rw [this]; omega)]
   ·rw [if_neg q, QjF, Xf hj']
    by_cases r : j < c * m
    ·rw [if_pos r, if_pos (by omega)]
    ·rw [if_neg r, if_neg (by omega)]
def okM (c : Nat) (l : List Int) : Prop := 1 ≤ c ∧ c ≤ 6 ∧ 0 < l.length ∧ l.length ≤ 4000 ∧ l.length % c = 0 ∧ I32 l
theorem Qrv {c : Nat} {l : List Int} (h : okM c l) : QbT c l.length = 0 := by
 obtain ⟨h1, h2, h3, h4, h5, _⟩ := h
 unfold QbT
 rw [if_neg (by omega), if_neg (by omega), if_neg (by rw [← Int.natCast_emod, h5]; simp)]
def Qjn (P : Prg) (f : Nat) : Prop := ∀ (c : Nat) (l : List Int), okM c l → VC P f [.int .i64 c, il l] (.tup [il (QaN c l), .int .i64 0])
theorem Qt1 {c m q : Nat} (h : c * m < c * q) : c * m + c ≤ c * q := by
 have : m < q := Nat.lt_of_mul_lt_mul_left h
 have := Nat.mul_le_mul_left c (show m + 1 ≤ q by omega)
 rw [Nat.mul_add, Nat.mul_one] at this
 exact this
theorem QvV {P : Prg} {f fC fK fM t : Nat} (b : Body P f 32 [.tmp 4, .tmp 5] (Qec fC fK fM)) (hC : Qjo P fC) (hK : Qjy t P fK) (hM : Qwv P fM) : Qjn P f := by
 intro c l hok
 obtain ⟨h1, h2, h3, h4, h5, h6⟩ := id hok
 have hc := Qrv hok
 obtain ⟨q, hq⟩ : ∃ q, l.length = c * q := ⟨l.length / c, by have := Nat.div_add_mod l.length c; omega⟩
 refine VC.of_walk 1 (by simp [isDL, isD, Q8]) (by simp [isD, isDL, Q8]) (ACall.of_body b (by simp) ?_)
 simp (disch := omega) only [rq, simprocAttr, Qec]
 refine Qc.vc (hC c l) ?_
 have n0 : l.length ≠ 0 := by omega
 simp (disch := omega) only [rq, simprocAttr, hc, n0]
 refine hK l [] _ h3 (by omega) ?_
 simp (disch := omega) only [rq, simprocAttr, n0]
 refine QL.by (ι := Nat) (fun m => ⟨[(8, .int .i64 (c * m : Nat)), (7, .own 0 l.length), (0, .int .i64 c)], [⟨t, 1, l.length, ks .i32 (QjF c l (c * m)), 0⟩]⟩) (fun m => m ≤ q) (fun m => q - m) 0 (by rw [Nat.mul_zero, QwX]; exact Le.slots (by simp [Am.look])) (by omega) ?_
 intro m hm
 by_cases hlt : c * m < l.length
 ·have hs := Qt1 (c := c) (m := m) (q := q) (by rw [← hq]; exact hlt)
  rw [← hq] at hs
  have hmq : m < q := Nat.lt_of_mul_lt_mul_left (a := c) (b := m) (c := q) (by rw [← hq]; exact hlt)
  have e0 : c * m + c - c * m = c := by omega
  have hM' := hM t (QjF c l (c * m)) (c * m) c
  rw [Jv, QvT h1 hs] at hM'
  simp (disch := omega) only [rq, simprocAttr, e0, n0]
  refine hM' _ (QoR h6 _) h1 hs (by omega) ?_
  simp (disch := omega) only [rq, simprocAttr]
  exact ⟨m + 1, by omega, by omega, by rw [show c * (m + 1) = c * m + c by rw [Nat.mul_add, Nat.mul_one]]; exact Le.slots (by simp [Am.look])⟩
 ·have e : c * m = l.length := by
   have := Nat.mul_le_mul_left c hm
   omega
  rw [e, Qom]
  have lm := Qhh c l
  simp (disch := omega) only [rq, simprocAttr]
  simp [QO, Qz, frzL, Qv, isDL, isD, il, lm, frzL_T _ (Qy .i32 (QaN c l))]
theorem Le.drop1 {o : Ob} {xs : List Ob} {fr fr' : List (Nat × AV)} (h : isTL o.cs = true)
  (hfr : ∀ p ∈ fr', p.2 = .any ∨ Qz (fun o => decide (o < 1)) (fun o => decide (1 ≤ o)) (o :: xs) 2 [look fr p.1] = some [p.2]) : Le 0 ⟨fr, o :: xs⟩ ⟨fr', [o]⟩ := by
 refine Le.drop 1 2 (by omega) rfl hfr ?_
 intro i y hy
 match i, hy with
 | 0, hy =>
  simp at hy
  subst hy
  exact ⟨o.cs, by simp, by simp only [Qz]; exact frzL_T _ h⟩
 | i + 1, hy => simp at hy
def QcN (c x : Int) (l : List Int) : Int := if Zg c x ≠ 0 then 2 else if QE x l ≠ 0 then QE x l else if l.length = 0 ∨ (l.length : Int) % c ≠ 0 then 2 else 0
theorem Qi8 {c x : Int} {l : List Int} (h : Zg c x = 2) : QcN c x l = 2 := by simp [QcN, h]
theorem Qi9 {c x : Int} {l : List Int} (h : Zg c x = 0) (h2 : QE x l ≠ 0) : QcN c x l = QE x l := by simp [QcN, h, h2]
theorem Qf7 {c x : Int} {l : List Int} (h : Zg c x = 0) (h2 : QE x l = 0) (h3 : l.length = 0 ∨ (l.length : Int) % c ≠ 0) : QcN c x l = 2 := by simp only [QcN, h, h2, if_pos h3]; simp
theorem Qvl {c x : Int} {l : List Int} (h : Zg c x = 0) (h2 : QE x l = 0) (h3 : ¬ (l.length = 0 ∨ (l.length : Int) % c ≠ 0)) : QcN c x l = 0 := by simp only [QcN, h, h2, if_neg h3]; simp
theorem Zf (c x : Int) : Zg c x = 2 ∨ (Zg c x = 0 ∧ ZL x ≠ 0 ∧ 1 ≤ c ∧ c ≤ 6) := by unfold Zg; split <;> omega
theorem Qd7 (x : Int) (l : List Int) : QE x l = 2 ∨ QE x l = 4 ∨ QE x l = 16 ∨ (QE x l = 0 ∧ ZL x ≠ 0 ∧ l.length ≤ 4000) := by
 unfold QE
 by_cases h : ZL x = 0
 ·simp [h]
 by_cases h2 : 4000 < l.length
 ·simp [h, h2]
 by_cases h3 : l.all (inR x)
 ·simp [h, h2, h3]; omega
 ·simp [h, h2, h3]
theorem QnC {c x : Int} {l : List Int} (hI : I32 l) (h : QcN c x l = 0) : ∃ k : Nat, c = k ∧ okM k l ∧ ZL x ≠ 0 := by
 rcases Zf c x with h1 | ⟨h1, h2, h3, h4⟩
 ·rw [Qi8 h1] at h; omega
 by_cases h5 : QE x l = 0
 ·by_cases h6 : l.length = 0 ∨ (l.length : Int) % c ≠ 0
  ·rw [Qf7 h1 h5 h6] at h; omega
  ·obtain ⟨k, rfl⟩ : ∃ k : Nat, c = k := ⟨c.toNat, by omega⟩
   refine ⟨k, rfl, ⟨by omega, by omega, by omega, by rcases Qd7 x l with h | h | h | h <;> omega, by omega, hI⟩, h2⟩
 ·rw [Qi9 h1 h5] at h; exact absurd h h5
def Qhy (P : Prg) (f : Nat) : Prop := ∀ (c x : Int) (l : List Int), I32 l → VC P f [shA c x, il l] (.int .i64 (QcN c x l))
theorem Qiu {P : Prg} {f fE fW t0 : Nat} (b : Body P f 30 [.tmp 4] (Jl fE fW t0)) (hE : Qap P fE) (hW : Qao P fW) : Qhy P f := by
 intro c x l hI
 refine VC.of_acall (by simp [isDL, isD, Q8, shA]) rfl (ACall.of_body b (by simp) ?_)
 have hE' := hE c x
 rw [shA] at hE'
 simp (disch := omega) only [rq, simprocAttr, Jl, shA]
 refine Qc.vc hE' ?_
 rcases Zf c x with h1 | ⟨h1, h2, h3, h4⟩
 ·simp (disch := omega) only [rq, simprocAttr, h1, Qi8 h1]
 simp (disch := omega) only [rq, simprocAttr, h1]
 refine Qc.vc (hW x l hI) ?_
 by_cases h5 : QE x l = 0
 ·have h9 : l.length ≤ 4000 := by rcases Qd7 x l with h | h | h | h <;> omega
  by_cases h6 : l.length = 0
  ·simp (disch := omega) only [rq, simprocAttr, h5, il, h6, Qf7 h1 h5 (.inl h6)]
  ·by_cases h7 : (l.length : Int) % c = 0
   ·have hm := QaM (n := l.length) (c := c) (by omega)
    simp (disch := omega) only [rq, simprocAttr, h5, il, h6, h7, Qvl h1 h5 (by omega)]
   ·have hm := QaM (n := l.length) (c := c) (by omega)
    simp (disch := omega) only [rq, simprocAttr, h5, il, h6, h7, Qf7 h1 h5 (.inr h7)]
 ·simp (disch := omega) only [rq, simprocAttr, h5, Qi9 h1 h5]
theorem Qmt {P : Prg} {f fE fW t0 : Nat} (b : Body P f 28 [.tmp 4] (ZU fE fW t0)) (hE : Qap P fE) (hW : Qao P fW) : Qhy P f := by
 intro c x l hI
 refine VC.of_acall (by simp [isDL, isD, Q8, shA]) rfl (ACall.of_body b (by simp) ?_)
 have hE' := hE c x
 rw [shA] at hE'
 simp (disch := omega) only [rq, simprocAttr, ZU, shA]
 refine Qc.vc hE' ?_
 rcases Zf c x with h1 | ⟨h1, h2, h3, h4⟩
 ·simp (disch := omega) only [rq, simprocAttr, h1, Qi8 h1]
 simp (disch := omega) only [rq, simprocAttr, h1]
 refine Qc.vc (hW x l hI) ?_
 by_cases h5 : QE x l = 0
 ·have h9 : l.length ≤ 4000 := by rcases Qd7 x l with h | h | h | h <;> omega
  by_cases h6 : l.length = 0
  ·simp (disch := omega) only [rq, simprocAttr, h5, il, h6, Qf7 h1 h5 (.inl h6)]
  ·by_cases h7 : (l.length : Int) % c = 0
   ·have hm := QaM (n := l.length) (c := c) (by omega)
    simp (disch := omega) only [rq, simprocAttr, h5, il, h6, h7, Qvl h1 h5 (by omega)]
   ·have hm := QaM (n := l.length) (c := c) (by omega)
    have hp : 0 < (l.length : Int) % c := by omega
    simp (disch := omega) only [rq, simprocAttr, h5, il, h6, h7, Qf7 h1 h5 (.inr h7)]
 ·simp (disch := omega) only [rq, simprocAttr, h5]
  refine Qc.vc (hW x l hI) ?_
  simp (disch := omega) only [rq, simprocAttr, Qi9 h1 h5]
def six (S : Nat → JG) : List AV := Zo (S 0) ++ (Zo (S 1) ++ (Zo (S 2) ++ (Zo (S 3) ++ (Zo (S 4) ++ Zo (S 5)))))
def okS (S : Nat → JG) : Prop := ∀ k, QbS (S k).fl
theorem Qmb {S : Nat → JG} (h : okS S) : (six S).length = 210 := by simp [six, XY (h _)]
theorem Qx5 {k : Nat} (h : k < 6) : k = 0 ∨ k = 1 ∨ k = 2 ∨ k = 3 ∨ k = 4 ∨ k = 5 := by omega
theorem QwL {S : Nat → JG} (h : okS S) {k : Nat} (hk : k < 6) : ((six S).drop (k * 35)).take 35 = Zo (S k) := by
 have l := fun k => XY (h k)
 rcases Qx5 hk with rfl | rfl | rfl | rfl | rfl | rfl <;> simp [six, List.drop_append, List.take_append, l, List.drop_eq_nil_of_le, QF]
def upd (S : Nat → JG) (k : Nat) (c : JG) : Nat → JG := fun j => if j = k then c else S j
theorem QqX {S : Nat → JG} (h : okS S) {k : Nat} (hk : k < 6) (c : JG) : (six S).take (k * 35) ++ Zo c ++ (six S).drop (k * 35 + 35) = six (upd S k c) := by
 have l := fun k => XY (h k)
 rcases Qx5 hk with rfl | rfl | rfl | rfl | rfl | rfl <;> simp [six, upd, List.drop_append, List.take_append, l, List.drop_eq_nil_of_le, QF]
theorem QrH (c : JG) : isTL (Zo c) = true := by simp [Zo, Qn, isTL, isT, ZK, Qy]
theorem Qud (S : Nat → JG) : isTL (six S) = true := by simp [six, ZK, QrH]
theorem Qwr (S : Nat → JG) : (six S).all AV.one = true := by simp only [six, List.all_append, Qaf, Bool.and_self]
def stC (c : Nat) (L : List Int) (z : JG) (k : Nat) : Nat → JG
 | 0 => z
 | n + 1 => QbC (stC c L z k n) (L.getD (k + n * c) 0)
def Qx8 (c : Nat) (L : List Int) (z : JG) (j : Nat) : Int := QkK (Qng (stC c L z (j % c) (j / c)) (L.getD j 0))
def QlB (c : Nat) (L : List Int) (z : JG) (a : Nat) : List Int := (List.range a).map (Qx8 c L z)
theorem Qie (c : Nat) (L : List Int) (z : JG) (a : Nat) : (QlB c L z a).length = a := by simp [QlB]
theorem Qrr (c : Nat) (L : List Int) (z : JG) (a : Nat) : QlB c L z a ++ [Qx8 c L z a] = QlB c L z (a + 1) := by simp [QlB, List.range_succ]
theorem Qrs {c : Nat} {L : List Int} {z : JG} (hL : I32 L) (hz : Qu0 z) (k : Nat) : ∀ n, Qu0 (stC c L z k n)
 | 0 => hz
 | n + 1 => Qmz (Qrs hL hz k n) (XV hL _)
def cnt (c k i : Nat) : Nat := if k < i % c then i / c + 1 else i / c
theorem QxY (c k : Nat) : cnt c k 0 = 0 := by simp [cnt]
theorem QuJ (c i : Nat) : cnt c (i % c) i = i / c := by simp [cnt]
theorem QuI {c k i : Nat} (hk : k < c) : cnt c k (i + 1) = if k = i % c then i / c + 1 else cnt c k i := by
 have hc : 0 < c := by omega
 have hr := Nat.mod_lt i hc
 have hi := Nat.div_add_mod i c
 unfold cnt
 by_cases h : i % c + 1 < c
 ·have e1 : (i + 1) % c = i % c + 1 := by
   rw [show i + 1 = c * (i / c) + (i % c + 1) by omega, Nat.mul_add_mod, Nat.mod_eq_of_lt h]
  have e2 : (i + 1) / c = i / c := by
   rw [show i + 1 = (i % c + 1) + c * (i / c) by omega, Nat.add_mul_div_left _ _ hc, Nat.div_eq_of_lt h, Nat.zero_add]
  rw [e1, e2]
  split <;> split <;> (try split) <;> omega
 ·have e0 : i + 1 = c * (i / c + 1) := by rw [Nat.mul_add]; omega
  have e1 : (i + 1) % c = 0 := by rw [e0, Nat.mul_mod_right]
  have e2 : (i + 1) / c = i / c + 1 := by rw [e0, Nat.mul_div_cancel_left _ hc]
  rw [e1, e2]
  split <;> split <;> (try split) <;> omega
def stA (c : Nat) (L : List Int) (z : JG) (i : Nat) : Nat → JG := fun k => if k < c then stC c L z k (cnt c k i) else z
theorem QxI (c : Nat) (L : List Int) (z : JG) : stA c L z 0 = fun _ => z := by
 funext k; simp [stA, QxY, stC]
theorem QwI {c : Nat} (hc : 1 ≤ c) (L : List Int) (z : JG) (i : Nat) : stA c L z i (i % c) = stC c L z (i % c) (i / c) := by
 rw [stA, if_pos (Nat.mod_lt _ (by omega)), QuJ]
theorem Qtz {c : Nat} (hc : 1 ≤ c) (L : List Int) (z : JG) (i : Nat) : upd (stA c L z i) (i % c) (QbC (stC c L z (i % c) (i / c)) (L.getD i 0)) = stA c L z (i + 1) := by
 funext k
 have hr := Nat.mod_lt i (show 0 < c by omega)
 by_cases hk : k < c
 ·simp only [upd, stA, if_pos hk, QuI hk]
  by_cases e : k = i % c
  ·rw [if_pos e, if_pos e, e, stC]
   rw [show i % c + i / c * c = i by have := Nat.div_add_mod i c; rw [Nat.mul_comm]; omega]
  ·rw [if_neg e, if_neg e]
 ·simp only [upd, stA, if_neg hk]
  rw [if_neg (by omega)]
theorem QwV {c : Nat} {L : List Int} {z : JG} (hL : I32 L) (hz : Qu0 z) (i : Nat) : okS (stA c L z i) := fun k => by
 unfold stA; split
 ·exact (Qrs hL hz k _).2.2.1
 ·exact hz.2.2.1
def Qvt (l : List Int) : AV := .list l.length (ks .u32 l)
theorem Qug (l : List Int) : isD (Qvt l) = true := by simp [Qvt, isD, Zk]
theorem Le.dropT (os : List Ob) {xs : List Ob} {fr fr' : List (Nat × AV)} (h : ∀ o ∈ os, isTL o.cs = true)
  (hfr : ∀ p ∈ fr', p.2 = .any ∨ Qz (fun o => decide (o < os.length)) (fun o => decide (os.length ≤ o)) (os ++ xs) 2 [look fr p.1] = some [p.2]) : Le 0 ⟨fr, os ++ xs⟩ ⟨fr', os⟩ := by
 refine Le.drop os.length 2 (by omega) rfl hfr ?_
 intro i y hy
 have hi : i < os.length := by
  rcases Nat.lt_or_ge i os.length with h | h
  ·exact h
  ·rw [List.getElem?_eq_none h] at hy; cases hy
 refine ⟨y.cs, by rw [List.getElem?_append_left hi]; exact hy, ?_⟩
 simp only [Qz]
 exact frzL_T _ (h y (List.mem_of_getElem? hy))
def Qtq (c x : Int) (t l : List Int) : AV := if QcN c x l ≠ 0 then .tup [.list 0 [], .int .i64 (QcN c x l)] else .tup [Qvt (QlB c.toNat (QaN c.toNat l) (Qd0 x t) l.length), .int .i64 0]
theorem QvZ (c x : Int) (t l : List Int) : isD (Qtq c x t l) = true := by unfold Qtq; split <;> simp [isD, isDL, Qug]
def QnP (P : Prg) (f : Nat) : Prop := ∀ (c x : Int) (t l : List Int), t.length = 16 → I32 t → I32 l → VC P f [shA c x, .agg (ks .i32 t), il l] (Qtq c x t l)
theorem Qig : QbS Qc7.fl := ⟨by simp [Qc7, QjJ, z16], by simp [Qc7, QjJ, z16], fun x hx => by simp [Qc7, QjJ, z16] at hx; omega, fun x hx => by simp [Qc7, QjJ, z16] at hx; omega⟩
def Qtd (z : JG) (i : Nat) : Nat → JG := fun k => if k < i then z else Qc7
theorem QwW (z : JG) : Qtd z 0 = fun _ => Qc7 := by funext k; simp [Qtd]
theorem Qrz (z : JG) (i : Nat) : upd (Qtd z i) i z = Qtd z (i + 1) := by
 funext k
 simp only [upd, Qtd]
 split <;> split <;> (try split) <;> first | rfl | omega
theorem QvQ {z : JG} (h : QbS z.fl) (i : Nat) : okS (Qtd z i) := fun k => by
 unfold Qtd; split
 ·exact h
 ·exact Qig
theorem QxK (z : JG) : six (Qtd z 6) = six (fun _ => z) := by simp [six, Qtd]
theorem QvR {x : Int} (hx : ZL x ≠ 0) {t : List Int} (hl : t.length = 16) (hI : I32 t) : Qu0 (Qd0 x t) := ⟨hx, rfl, Qru hl hI, by simp [Qd0]⟩
set_option maxRecDepth 20000 in
theorem QgK {P : Prg} {f fA fM fN fF fO t0 t1 t2 t3 t4 : Nat} (b : Body P f 83 [.tmp 6, .tmp 7] (XU fA fM fN fF fO t0 t1 t2 t3 t4)) (hA : Qhy P fA) (hM : Qjn P fM) (hN : Qs1 P fN) (hF : Qei P fF) (hO : QsV P fO) : QnP P f := by
 intro c x t l hl hI hL
 have hk : (ks .i32 t).length = 16 := by simp [Qi, hl]
 have ot := QaO .i32 t
 have tt : (ks .i32 t).take 16 = ks .i32 t := QF (by omega)
 refine VC.of_walk 1 (by simp [isDL, isD, Q8, Zk, shA]) (QvZ _ _ _ _) (ACall.of_body b (by simp) ?_)
 have hA' := hA c x l hL
 rw [shA] at hA'
 unfold XU
 rw [show ([.int .i64 0, .int .i32 0, .int .i64 0, .int .i32 0, .int .i32 0, .int .i32 0, .int .i32 0, .int .i32 0, .int .i32 0, .int .i32 0, .int .i32 0, .int .i32 0, .int .i32 0, .int .i32 0, .int .i32 0, .int .i32 0, .int .i32 0, .int .i32 0, .int .i32 0, .int .i32 0, .int .i32 0, .int .i32 0, .int .i32 0, .int .i32 0, .int .i32 0, .int .i32 0, .int .i32 0, .int .i32 0, .int .i32 0, .int .i32 0, .int .i32 0, .int .i32 0, .int .i32 0, .int .i32 0, .int .i32 0, .int .i64 0, .int .i32 0, .int .i64 0, .int .i32 0, .int .i32 0, .int .i32 0, .int .i32 0, .int .i32 0, .int .i32 0, .int .i32 0, .int .i32 0, .int .i32 0, .int .i32 0, .int .i32 0, .int .i32 0, .int .i32 0, .int .i32 0, .int .i32 0, .int .i32 0, .int .i32 0, .int .i32 0, .int .i32 0, .int .i32 0, .int .i32 0, .int .i32 0, .int .i32 0, .int .i32 0, .int .i32 0, .int .i32 0, .int .i32 0, .int .i32 0, .int .i32 0, .int .i32 0, .int .i32 0, .int .i32 0, .int .i64 0, .int .i32 0, .int .i64 0, .int .i32 0, .int .i32 0, .int .i32 0, .int .i32 0, .int .i32 0, .int .i32 0, .int .i32 0, .int .i32 0, .int .i32 0, .int .i32 0, .int .i32 0, .int .i32 0, .int .i32 0, .int .i32 0, .int .i32 0, .int .i32 0, .int .i32 0, .int .i32 0, .int .i32 0, .int .i32 0, .int .i32 0, .int .i32 0, .int .i32 0, .int .i32 0, .int .i32 0, .int .i32 0, .int .i32 0, .int .i32 0, .int .i32 0, .int .i32 0, .int .i32 0, .int .i32 0, .int .i64 0, .int .i32 0, .int .i64 0, .int .i32 0, .int .i32 0, .int .i32 0, .int .i32 0, .int .i32 0, .int .i32 0, .int .i32 0, .int .i32 0, .int .i32 0, .int .i32 0, .int .i32 0, .int .i32 0, .int .i32 0, .int .i32 0, .int .i32 0, .int .i32 0, .int .i32 0, .int .i32 0, .int .i32 0, .int .i32 0, .int .i32 0, .int .i32 0, .int .i32 0, .int .i32 0, .int .i32 0, .int .i32 0, .int .i32 0, .int .i32 0, .int .i32 0, .int .i32 0, .int .i32 0, .int .i32 0, .int .i64 0, .int .i32 0, .int .i64 0, .int .i32 0, .int .i32 0, .int .i32 0, .int .i32 0, .int .i32 0, .int .i32 0, .int .i32 0, .int .i32 0, .int .i32 0, .int .i32 0, .int .i32 0, .int .i32 0, .int .i32 0, .int .i32 0, .int .i32 0, .int .i32 0, .int .i32 0, .int .i32 0, .int .i32 0, .int .i32 0, .int .i32 0, .int .i32 0, .int .i32 0, .int .i32 0, .int .i32 0, .int .i32 0, .int .i32 0, .int .i32 0, .int .i32 0, .int .i32 0, .int .i32 0, .int .i32 0, .int .i64 0, .int .i32 0, .int .i64 0, .int .i32 0, .int .i32 0, .int .i32 0, .int .i32 0, .int .i32 0, .int .i32 0, .int .i32 0, .int .i32 0, .int .i32 0, .int .i32 0, .int .i32 0, .int .i32 0, .int .i32 0, .int .i32 0, .int .i32 0, .int .i32 0, .int .i32 0, .int .i32 0, .int .i32 0, .int .i32 0, .int .i32 0, .int .i32 0, .int .i32 0, .int .i32 0, .int .i32 0, .int .i32 0, .int .i32 0, .int .i32 0, .int .i32 0, .int .i32 0, .int .i32 0, .int .i32 0] : List AV) = six (fun _ => Qc7) from rfl, ← QeV]
 simp (disch := omega) only [rq, simprocAttr, shA, hk, ot, tt]
 refine Qc.vc hA' ?_
 by_cases h0 : QcN c x l = 0
 ·obtain ⟨k, rfl, hok, hx⟩ := QnC hL h0
  have hz := QvR hx hl hI
  have l0 := Qmb (S := fun _ => Qc7) (fun _ => Qig)
  have o0 := Qwr (fun _ => Qc7)
  simp (disch := omega) only [rq, simprocAttr, h0]
  refine Qc.vc (hM k l hok) ?_
  obtain ⟨h1, h2, h3, h4, h5, h6⟩ := id hok
  have lm := Qhh k l
  have hI2 := Qqc (c := k) hL
  have tm : isTL (ks .i32 (QaN k l)) = true := Qy _ _
  generalize hm : QaN k l = m at lm hI2 tm
  simp (disch := omega) only [rq, simprocAttr, l0, o0]
  refine QL.by (ι := Nat) (fun i => ⟨[(36, .int .i64 i), (11, .ref 2 1 0), (9, il m), (4, .ref 1 1 0), (3, .ref 0 1 0)], [⟨t0, 2, 1, [.int .i64 k, .int .i64 x], 0⟩, ⟨t1, 16, 1, ks .i32 t, 0⟩, ⟨t2, 210, 1, six (Qtd (Qd0 x t) i), 0⟩]⟩) (fun i => i ≤ 6) (fun i => 6 - i) 0 (by rw [QwW]; exact Le.slots (by simp [Am.look])) (by omega) ?_
  intro i hi
  have oS := QvQ hz.2.2.1 i
  have lS := Qmb oS
  by_cases hlt : i < 6
  ·have e1 := QqX oS hlt (Qd0 x t)
   rw [Qrz] at e1
   have lc := XY hz.2.2.1
   have oc := Qaf (Qd0 x t)
   simp (disch := omega) only [rq, simprocAttr, hk, tt]
   refine Qc.vc (hN x t hl hI) ?_
   simp (disch := omega) only [rq, simprocAttr, QpR, if_neg hx, lS, lc, oc, e1]
   exact ⟨i + 1, by omega, by omega, Le.slots (by simp [Am.look])⟩
  ·have : i = 6 := by omega
   subst this
   simp (disch := omega) only [rq, simprocAttr, il]
   refine QL.by (ι := Nat) (fun i => ⟨[(51, .int .i64 i), (50, .int .i64 m.length), (49, il m), (13, .own 3 i), (11, .ref 2 1 0), (3, .ref 0 1 0)], [⟨t0, 2, 1, [.int .i64 k, .int .i64 x], 0⟩, ⟨t1, 16, 1, ks .i32 t, 0⟩, ⟨t2, 210, 1, six (stA k m (Qd0 x t) i), 0⟩, ⟨t4, 1, i, ks .u32 (QlB k m (Qd0 x t) i), 0⟩]⟩) (fun i => i ≤ m.length) (fun i => m.length - i) 0 (by rw [QxI, ← QxK]; exact Le.trans (Le.virt 13 t4 1 (by omega) rfl) (Le.slots (by simp [Am.look, QlB, il]))) (by omega) ?_
   intro i hi
   have lo := Qie k m (Qd0 x t) i
   by_cases hlt : i < m.length
   ·have oS := QwV hI2 hz (c := k) i
    have lS := Qmb oS
    have hr := Nat.mod_lt i (show 0 < k by omega)
    have e0 := QwL oS (k := i % k) (by omega)
    rw [QwI h1] at e0
    have e1 := QqX oS (k := i % k) (by omega) (QbC (stC k m (Qd0 x t) (i % k) (i / k)) (m.getD i 0))
    rw [Qtz h1] at e1
    have hok2 := Qrs (c := k) hI2 hz (i % k) (i / k)
    have hok3 := Qmz hok2 (XV hI2 i)
    have hF' := hF _ (m.getD i 0) hok2 (XV hI2 i)
    have hO' := hO (Qng (stC k m (Qd0 x t) (i % k) (i / k)) (m.getD i 0)) (QcO _)
    have e2 := Qin (K := .i32) (l := m) (i := i) hlt
    have e3 : ks .u32 (QlB k m (Qd0 x t) i) ++ [.int .u32 (QkK (Qng (stC k m (Qd0 x t) (i % k) (i / k)) (m.getD i 0)))] = ks .u32 (QlB k m (Qd0 x t) (i + 1)) := by rw [Qd3, ← Qrr]; rfl
    have lc := XY hok3.2.2.1
    have oc := Qaf (QbC (stC k m (Qd0 x t) (i % k) (i / k)) (m.getD i 0))
    have tc : (Zo (QbC (stC k m (Qd0 x t) (i % k) (i / k)) (m.getD i 0))).take 35 = Zo (QbC (stC k m (Qd0 x t) (i % k) (i / k)) (m.getD i 0)) := QF (by omega)
    have lz := XY Qig
    have oz := Qaf Qc7
    have dz : (Zo Qc7).drop 35 = [] := List.drop_eq_nil_of_le (by omega)
    have em : (i : Int) % k = (i % k : Nat) := by omega
    simp (disch := omega) only [rq, simprocAttr, il, e2, em, e0]
    refine Qc.vc hF' ?_
    simp (disch := omega) only [rq, simprocAttr, lz, oz, lc, oc, tc, e1, lS, dz, List.append_nil]
    refine Qc.vc hO' ?_
    simp (disch := omega) only [rq, simprocAttr, e3]
    exact ⟨i + 1, by omega, by omega, Le.dropT [_, _, _, _] (by simp [Qud, Qy, isTL, isT]) (by simp [Am.look, Qz, frzL, Qv, frzL_T _ tm])⟩
   ·have : i = m.length := by omega
    subst this
    have e9 : Qtq k x t l = .tup [Qvt (QlB k m (Qd0 x t) m.length), .int .i64 0] := by simp [Qtq, h0, hm, lm]
    clear hi hlt
    have hq : ¬ (m.length : Int) < m.length := by omega
    simp (disch := omega) only [rq, simprocAttr, e9]
    simp [QO, Qz, frzL, Qv, isDL, isD, Qvt, lo, frzL_T _ (Qy .u32 _)]
 ·have e9 : Qtq c x t l = .tup [.list 0 [], .int .i64 (QcN c x l)] := by simp [Qtq, h0]
  simp (disch := omega) only [rq, simprocAttr, h0, e9]
  simp [QO, Qz, frzL, Qv, isDL, isD]
theorem Qre (K : IntKind) : ∀ n : Nat, Qe [.int K 0] n = ks K (List.replicate n 0)
 | 0 => rfl
 | n + 1 => by rw [Qe, Qre K n]; simp [ks, List.replicate_succ]
def QwF : Sh := .tuple (List.replicate 16 (.int .i32))
theorem Qhn (K : IntKind) : ∀ (n : Nat) (cs0 : List AV), FitsL (List.replicate n (.int K)) cs0 → ∃ t : List Int, cs0 = ks K t ∧ t.length = n ∧ ∀ x ∈ t, K.min ≤ x ∧ x ≤ K.max
 | 0, cs0, h => by
  simp only [List.replicate, FitsL] at h
  exact ⟨[], by simpa [ks] using h, rfl, by simp⟩
 | n + 1, cs0, h => by
  simp only [List.replicate, FitsL, Qbt] at h
  obtain ⟨_, r, rfl, ⟨x, rfl, h1, h2⟩, h3⟩ := h
  obtain ⟨t, rfl, h4, h5⟩ := Qhn K n r h3
  exact ⟨x :: t, by simp [ks], by simp [h4], fun y hy => by
   rcases List.mem_cons.1 hy with rfl | hy
   ·exact ⟨h1, h2⟩
   ·exact h5 y hy⟩
theorem Qw6 {cs0 : List AV} (h : Qbt QwF cs0) : ∃ t : List Int, cs0 = ks .i32 t ∧ t.length = 16 ∧ I32 t := by
 simp only [QwF, Qbt] at h
 obtain ⟨t, h1, h2, h3⟩ := Qhn .i32 16 cs0 h
 exact ⟨t, h1, h2, fun x hx => by have := h3 x hx; simpa [IntKind.min, IntKind.max, IntKind.signed, IntKind.bits] using this⟩
def U32 (l : List Int) : Prop := ∀ x ∈ l, 0 ≤ x ∧ x < 4294967296
def QfR (r n : Int) : AV := if r < 1 ∨ 1048576 < r then .tup [.int .i64 0, .int .i64 2] else if n < 1 ∨ 4000 < n then .tup [.int .i64 0, .int .i64 2] else if 1000 < (n + QJ r - 1) / QJ r then .tup [.int .i64 0, .int .i64 4] else .tup [.int .i64 ((n + QJ r - 1) / QJ r), .int .i64 0]
theorem QrL (r n : Int) : isD (QfR r n) = true := by unfold QfR; split <;> (try split) <;> (try split) <;> rfl
def Ja (P : Prg) (f : Nat) : Prop := ∀ r n : Int, VC P f [.int .i64 r, .int .i64 n] (QfR r n)
theorem Qij {P : Prg} {f fL : Nat} (b : Body P f 32 [.tmp 4, .tmp 5] (Ji fL)) (hL : Qbs P fL) : Ja P f := by
 intro r n
 refine VC.of_acall rfl (QrL _ _) (ACall.of_body b (by simp) ?_)
 have hL' := hL r
 simp (disch := omega) only [rq, simprocAttr, Ji]
 refine Qc.vc hL' ?_
 by_cases h1 : r < 1 ∨ 1048576 < r
 ·have e1 : QbB r = .tup [.int .i64 0, .int .i64 2] := by rw [QbB, if_pos h1]
  have e2 : QfR r n = .tup [.int .i64 0, .int .i64 2] := by rw [QfR, if_pos h1]
  simp (disch := omega) only [rq, simprocAttr, e1, e2]
 have e1 : QbB r = .tup [.int .i64 (QJ r), .int .i64 0] := by rw [QbB, if_neg h1]
 have p1 := Xt r
 have p2 := Qoq (r := r) (by omega)
 by_cases h2 : n < 1
 ·have e2 : QfR r n = .tup [.int .i64 0, .int .i64 2] := by rw [QfR, if_neg h1, if_pos (.inl h2)]
  simp (disch := omega) only [rq, simprocAttr, e1, e2]
 by_cases h3 : 4000 < n
 ·have e2 : QfR r n = .tup [.int .i64 0, .int .i64 2] := by rw [QfR, if_neg h1, if_pos (.inr h3)]
  simp (disch := omega) only [rq, simprocAttr, e1, e2]
 have e2 : QfR r n = if 1000 < (n + QJ r - 1) / QJ r then .tup [.int .i64 0, .int .i64 4] else .tup [.int .i64 ((n + QJ r - 1) / QJ r), .int .i64 0] := by
  rw [QfR, if_neg h1, if_neg (by omega)]
 generalize QJ r = L at *
 have q0 : (n + L - 1).tdiv L = (n + L - 1) / L := Int.tdiv_eq_ediv_of_nonneg (by omega)
 have q1 : 0 ≤ (n + L - 1) / L := Int.ediv_nonneg (by omega) (by omega)
 have q2 : (n + L - 1) / L ≤ n + L - 1 := Int.ediv_le_self _ (by omega)
 generalize hq : (n + L - 1) / L = Q at *
 by_cases h4 : 1000 < Q
 ·rw [if_pos h4] at e2
  simp (disch := omega) only [rq, simprocAttr, e1, q0, hq, e2]
 ·rw [if_neg h4] at e2
  simp (disch := omega) only [rq, simprocAttr, e1, q0, hq, e2]
def X9 (P : Prg) (f : Nat) : Prop := ∀ (c x r : Int) (l : List Int), VC P f [.agg [.int .i64 c, .int .i64 x, .int .i64 r, il l]] (shA c x)
theorem QpS {P : Prg} {f t0 t1 : Nat} (b : Body P f 8 [.cell 2 t1] (Qbn t0 t1)) (ht : Z6 P t1 = some (some 2)) : X9 P f := by
 intro c x r l
 refine VC.of_acall (by simp [isDL, isD, Q8]) rfl (ACall.of_body b (by simp) ?_)
 simp (disch := omega) only [rq, simprocAttr, Qbn, il, Q3, ht, shA]
theorem Qmo {P : Prg} {f t0 t1 : Nat} (b : Body P f 8 [.cell 2 t1] (ZR t0 t1)) (ht : Z6 P t1 = some (some 2)) : X9 P f := by
 intro c x r l
 refine VC.of_acall (by simp [isDL, isD, Q8]) rfl (ACall.of_body b (by simp) ?_)
 simp (disch := omega) only [rq, simprocAttr, ZR, il, Q3, ht, shA]
def QgS (r n : Int) : Int := if r < 1 ∨ 1048576 < r then 2 else if n < 1 ∨ 4000 < n then 2 else if 1000 < (n + QJ r - 1) / QJ r then 4 else 0
theorem QiG (r n : Int) : ∃ k : Int, QfR r n = .tup [.int .i64 k, .int .i64 (QgS r n)] := by
 unfold QfR QgS
 split
 ·exact ⟨_, rfl⟩
 split
 ·exact ⟨_, rfl⟩
 split
 ·exact ⟨_, rfl⟩
 ·exact ⟨_, rfl⟩
def ZH (c x r n : Int) : Int := if Zg c x ≠ 0 then 8 else if n < 1 then 8 else if 4000 / c < n then 8 else if QgS r n ≠ 0 then 8 else 0
def QnT (P : Prg) (f : Nat) : Prop := ∀ (c x r n : Int) (l : List Int), VC P f [.agg [.int .i64 c, .int .i64 x, .int .i64 r, il l], .int .i64 n] (.int .i64 (ZH c x r n))
theorem Qso {P : Prg} {f fS fE fC t0 : Nat} (b : Body P f 31 [.tmp 4] (Qb7 fS fE fC t0)) (hS : X9 P fS) (hE : Qap P fE) (hC : Ja P fC) : QnT P f := by
 intro c x r n l
 refine VC.of_acall (by simp [isDL, isD, Q8]) rfl (ACall.of_body b (by simp) ?_)
 have hS' := hS c x r l
 have hE' := hE c x
 rw [shA] at hS' hE'
 rw [il] at hS'
 obtain ⟨k, ek⟩ := QiG r n
 have hC' := hC r n
 rw [ek] at hC'
 simp (disch := omega) only [rq, simprocAttr, Qb7, il]
 refine Qc.vc hS' ?_
 simp (disch := omega) only [rq, simprocAttr]
 refine Qc.vc hE' ?_
 rcases Zf c x with h1 | ⟨h1, h2, h3, h4⟩
 ·have e9 : ZH c x r n = 8 := by simp [ZH, h1]
  simp (disch := omega) only [rq, simprocAttr, h1, e9]
 have q0 : (4000 : Int).tdiv c = 4000 / c := Int.tdiv_eq_ediv_of_nonneg (by omega)
 have q1 : 0 ≤ (4000 : Int) / c := Int.ediv_nonneg (by omega) (by omega)
 have q2 : (4000 : Int) / c ≤ 4000 := Int.ediv_le_self _ (by omega)
 by_cases h5 : n < 1
 ·have e9 : ZH c x r n = 8 := by simp [ZH, h5]
  simp (disch := omega) only [rq, simprocAttr, h1, e9]
 by_cases h6 : 4000 / c < n
 ·have e9 : ZH c x r n = 8 := by simp [ZH, h6]
  simp (disch := omega) only [rq, simprocAttr, h1, e9, q0]
 simp (disch := omega) only [rq, simprocAttr, h1, q0]
 refine Qc.vc hC' ?_
 by_cases h7 : QgS r n = 0
 ·have e9 : ZH c x r n = 0 := by simp [ZH, h1, h5, h6, h7]
  simp (disch := omega) only [rq, simprocAttr, h7, e9]
 ·have e9 : ZH c x r n = 8 := by simp [ZH, h7]
  simp (disch := omega) only [rq, simprocAttr, h7, e9]
def QN (c x r : Int) (l : List Int) : Int := if c < 1 then 8 else if (l.length : Int) % c ≠ 0 then 8 else if ZH c x r (l.length / c) ≠ 0 then 8 else if QE x l ≠ 0 then 8 else 0
theorem Qpv (c x r n : Int) : ZH c x r n = 8 ∨ ZH c x r n = 0 := by
 unfold ZH; split <;> (try split) <;> (try split) <;> (try split) <;> simp
def Zv (P : Prg) (f : Nat) : Prop := ∀ (c x r : Int) (l : List Int), I32 l → l.length ≤ 1000000 → VC P f [.agg [.int .i64 c, .int .i64 x, .int .i64 r, il l]] (.int .i64 (QN c x r l))
theorem QpV {P : Prg} {f fH fW t0 : Nat} (b : Body P f 33 [.tmp 2] (XD fH fW t0)) (hH : QnT P fH) (hW : Qao P fW) : Zv P f := by
 intro c x r l hI hl
 ·refine VC.of_acall (by simp [isDL, isD, Q8]) rfl (ACall.of_body b (by simp) ?_)
  by_cases h1 : c < 1
  ·have e9 : QN c x r l = 8 := by simp [QN, h1]
   simp (disch := omega) only [rq, simprocAttr, XD, il, e9]
  have hm := QaM (n := l.length) (c := c) (by omega)
  have hd := QkX (n := l.length) (c := c) (by omega)
  have q0 : (l.length : Int).tdiv c = l.length / c := Int.tdiv_eq_ediv_of_nonneg (by omega)
  by_cases h2 : (l.length : Int) % c = 0
  ·have hH' := hH c x r (l.length / c) l
   have hW' := hW x l hI
   rw [il] at hH' hW'
   simp (disch := omega) only [rq, simprocAttr, XD, il, h2, q0]
   refine ZN.vc hH' ?_
   rcases Qpv c x r (l.length / c) with h3 | h3
   ·have e9 : QN c x r l = 8 := by simp [QN, h3]
    simp (disch := omega) only [rq, simprocAttr, h3, e9]
   ·simp (disch := omega) only [rq, simprocAttr, h3]
    refine Qc.vc hW' ?_
    by_cases h4 : QE x l = 0
    ·have e9 : QN c x r l = 0 := by simp [QN, h1, h2, h3, h4]
     simp (disch := omega) only [rq, simprocAttr, h4, e9]
    ·have e9 : QN c x r l = 8 := by simp [QN, h4]
     simp (disch := omega) only [rq, simprocAttr, h4, e9]
  ·have e9 : QN c x r l = 8 := by simp [QN, h2]
   simp (disch := omega) only [rq, simprocAttr, XD, il, h2, e9]
def Qbf (c x n : Int) : Int := if Zg c x ≠ 0 then 2 else if n < 1 then 2 else if 4000 / c < n then 2 else 0
def QnU (P : Prg) (f : Nat) : Prop := ∀ c x n : Int, VC P f [shA c x, .int .i64 n] (.int .i64 (Qbf c x n))
theorem Qmr {P : Prg} {f fE t0 : Nat} (b : Body P f 19 [.tmp 4] (ZT fE t0)) (hE : Qap P fE) : QnU P f := by
 intro c x n
 refine VC.of_acall (by simp [isDL, isD, shA]) rfl (ACall.of_body b (by simp) ?_)
 have hE' := hE c x
 rw [shA] at hE'
 simp (disch := omega) only [rq, simprocAttr, ZT, shA]
 refine Qc.vc hE' ?_
 rcases Zf c x with h1 | ⟨h1, h2, h3, h4⟩
 ·have e9 : Qbf c x n = 2 := by simp [Qbf, h1]
  simp (disch := omega) only [rq, simprocAttr, h1, e9]
 have q0 : (4000 : Int).tdiv c = 4000 / c := Int.tdiv_eq_ediv_of_nonneg (by omega)
 have q1 : 0 ≤ (4000 : Int) / c := Int.ediv_nonneg (by omega) (by omega)
 have q2 : (4000 : Int) / c ≤ 4000 := Int.ediv_le_self _ (by omega)
 by_cases h5 : n < 1
 ·have e9 : Qbf c x n = 2 := by simp [Qbf, h5]
  simp (disch := omega) only [rq, simprocAttr, h1, e9]
 by_cases h6 : 4000 / c < n
 ·have e9 : Qbf c x n = 2 := by simp [Qbf, h6]
  simp (disch := omega) only [rq, simprocAttr, h1, e9, q0]
 ·have e9 : Qbf c x n = 0 := by simp [Qbf, h1, h5, h6]
  simp (disch := omega) only [rq, simprocAttr, h1, e9, q0]
def Q5 (L n : Nat) : List Int := List.replicate ((n - 1) / L) (L : Int) ++ [(n : Int) - ((n - 1) / L * L : Nat)]
theorem Z8 (L n : Nat) : (Q5 L n).length = (n - 1) / L + 1 := by simp [Q5]
theorem QtR (k : Nat) (a : Int) : List.replicate k a ++ [a] = List.replicate (k + 1) a := by rw [List.replicate_succ']
def QlD (l : List Int) : AV := .list l.length (ks .i64 l)
theorem Qe6 (l : List Int) : isD (QlD l) = true := by simp [QlD, isD, Zk]
def Qlw (r n : Int) : AV := if r < 1 ∨ 1048576 < r ∨ n < 1 ∨ 4000 < n then .tup [.list 0 [], .int .i64 2] else if 1000 < (Q5 (QJ r).toNat n.toNat).length then .tup [.list 0 [], .int .i64 4] else .tup [QlD (Q5 (QJ r).toNat n.toNat), .int .i64 0]
theorem Qv5 (r n : Int) : isD (Qlw r n) = true := by unfold Qlw; split <;> (try split) <;> simp [isD, isDL, Qe6]
def QnV (P : Prg) (f : Nat) : Prop := ∀ r n : Int, VC P f [.int .i64 r, .int .i64 n] (Qlw r n)
theorem Qrf {P : Prg} {f fL t0 : Nat} (b : Body P f 41 [.tmp 4, .tmp 5] (QQ fL t0)) (hL : Qbs P fL) : QnV P f := by
 intro r n
 refine VC.of_walk 1 rfl (Qv5 _ _) (ACall.of_body b (by simp) ?_)
 have hL' := hL r
 by_cases h1 : r < 1 ∨ 1048576 < r
 ·have e1 : QbB r = .tup [.int .i64 0, .int .i64 2] := by rw [QbB, if_pos h1]
  have e2 : Qlw r n = .tup [.list 0 [], .int .i64 2] := by rw [Qlw, if_pos (by omega)]
  simp (disch := omega) only [rq, simprocAttr, QQ]
  refine Qc.vc hL' ?_
  simp (disch := omega) only [rq, simprocAttr, e1, e2]
  simp [QO, Qz, frzL, Qv, isDL, isD]
 have e1 : QbB r = .tup [.int .i64 (QJ r), .int .i64 0] := by rw [QbB, if_neg h1]
 rw [e1] at hL'
 have p1 := Xt r
 have p2 := Qoq (r := r) (by omega)
 by_cases h2 : n < 1
 ·have e2 : Qlw r n = .tup [.list 0 [], .int .i64 2] := by rw [Qlw, if_pos (by omega)]
  simp (disch := omega) only [rq, simprocAttr, QQ]
  refine Qc.vc hL' ?_
  simp (disch := omega) only [rq, simprocAttr, e2]
  simp [QO, Qz, frzL, Qv, isDL, isD]
 by_cases h3 : 4000 < n
 ·have e2 : Qlw r n = .tup [.list 0 [], .int .i64 2] := by rw [Qlw, if_pos (by omega)]
  simp (disch := omega) only [rq, simprocAttr, QQ]
  refine Qc.vc hL' ?_
  simp (disch := omega) only [rq, simprocAttr, e2]
  simp [QO, Qz, frzL, Qv, isDL, isD]
 have e2 : Qlw r n = if 1000 < (Q5 (QJ r).toNat n.toNat).length then .tup [.list 0 [], .int .i64 4] else .tup [QlD (Q5 (QJ r).toNat n.toNat), .int .i64 0] := by rw [Qlw, if_neg (by omega)]
 generalize QJ r = Li at *
 obtain ⟨L, rfl⟩ : ∃ L : Nat, Li = L := ⟨Li.toNat, by omega⟩
 obtain ⟨m, rfl⟩ : ∃ m : Nat, n = m := ⟨n.toNat, by omega⟩
 simp only [Int.toNat_natCast] at e2
 have g1 : (m - 1) / L * L ≤ m - 1 := Nat.div_mul_le_self _ _
 have g2 : m - 1 < ((m - 1) / L + 1) * L := by
  have := Nat.lt_div_mul_add (a := m - 1) (b := L) (by omega)
  rw [Nat.add_mul, Nat.one_mul]; omega
 rw [Nat.add_mul, Nat.one_mul] at g2
 have g3 : (m - 1) / L ≤ m - 1 := Nat.div_le_self _ _
 have ll := Z8 L m
 have lf : Q5 L m = List.replicate ((m - 1) / L) (L : Int) ++ [(m : Int) - ((m - 1) / L * L : Nat)] := rfl
 generalize hq : (m - 1) / L = q at *
 simp (disch := omega) only [rq, simprocAttr, QQ]
 refine Qc.vc hL' ?_
 simp (disch := omega) only [rq, simprocAttr]
 refine QL.by (ι := Option Nat) (fun i => match i with
   | some k => ⟨[(1, .int .i64 ((m : Int) - (k * L : Nat))), (8, .own 0 k), (6, .int .i64 L)], [⟨t0, 1, k, ks .i64 (List.replicate k (L : Int)), 0⟩]⟩
   | none => ⟨[(1, .int .i64 0), (8, .own 0 (q + 1)), (6, .int .i64 L)], [⟨t0, 1, q + 1, ks .i64 (Q5 L m), 0⟩]⟩)
  (fun i => match i with | some k => k ≤ q | none => True) (fun i => match i with | some k => q - k + 1 | none => 0) (some 0)
  (by simp only [Nat.zero_mul]; exact Le.trans (Le.virt 8 t0 1 (by omega) rfl) (Le.slots (by simp [Am.look]))) (by simp) ?_
 intro i hi
 cases i with
 | some k =>
  simp only at hi
  have g4 : k * L ≤ q * L := Nat.mul_le_mul_right L hi
  have lr : (List.replicate k (L : Int)).length = k := by simp
  by_cases hk : k < q
  ·have g5 : (k + 1) * L ≤ q * L := Nat.mul_le_mul_right L (by omega)
   rw [Nat.add_mul, Nat.one_mul] at g5
   simp (disch := omega) only [rq, simprocAttr, Qd3, QtR, lr]
   refine ⟨some (k + 1), by simp only; omega, by simp only; omega, ?_⟩
   exact Le.drop1 (Qy _ _) (by simp [Am.look, Qz, frzL, Qv, Nat.add_mul]; omega)
  ·have : k = q := by omega
   subst this
   simp (disch := omega) only [rq, simprocAttr, Qd3, lr, ← lf]
   refine ⟨none, trivial, by simp only; omega, ?_⟩
   exact Le.drop1 (Qy _ _) (by simp [Am.look, Qz, frzL, Qv])
 | none =>
  by_cases h9 : 1000 < (Q5 L m).length
  ·rw [if_pos h9] at e2
   simp (disch := omega) only [rq, simprocAttr, e2]
   simp [QO, Qz, frzL, Qv, isDL, isD]
  ·rw [if_neg h9] at e2
   simp (disch := omega) only [rq, simprocAttr, e2]
   simp [QO, Qz, frzL, Qv, isDL, isD, QlD, ll, frzL_T _ (Qy .i64 _)]
theorem Qws (r n : Int) : (∃ k : Int, Qlw r n = .tup [.list 0 [], .int .i64 k] ∧ QfR r n = .tup [.int .i64 0, .int .i64 k]) ∨
  (∃ l : List Int, Qlw r n = .tup [QlD l, .int .i64 0] ∧ QfR r n = .tup [.int .i64 l.length, .int .i64 0]) := by
 by_cases h1 : r < 1 ∨ 1048576 < r
 ·exact .inl ⟨2, by rw [Qlw, if_pos (by omega)], by rw [QfR, if_pos h1]⟩
 by_cases h2 : n < 1 ∨ 4000 < n
 ·exact .inl ⟨2, by rw [Qlw, if_pos (by omega)], by rw [QfR, if_neg h1, if_pos h2]⟩
 have p1 := Xt r
 have e : (n + QJ r - 1) / QJ r = (Q5 (QJ r).toNat n.toNat).length := by
  generalize QJ r = Li at *
  obtain ⟨L, rfl⟩ : ∃ L : Nat, Li = L := ⟨Li.toNat, by omega⟩
  obtain ⟨m, rfl⟩ : ∃ m : Nat, n = m := ⟨n.toNat, by omega⟩
  rw [Int.toNat_natCast, Int.toNat_natCast, Z8]
  have : (m : Int) + L - 1 = ((m - 1 + L : Nat) : Int) := by omega
  rw [this, ← Int.natCast_ediv, Nat.add_div_right _ (by omega)]
 by_cases h3 : 1000 < (Q5 (QJ r).toNat n.toNat).length
 ·exact .inl ⟨4, by rw [Qlw, if_neg (by omega), if_pos h3], by rw [QfR, if_neg h1, if_neg h2, e, if_pos (by omega)]⟩
 ·exact .inr ⟨_, by rw [Qlw, if_neg (by omega), if_neg h3], by rw [QfR, if_neg h1, if_neg h2, e, if_neg (by omega)]⟩
theorem Qmq {P : Prg} {f fA : Nat} (b : Body P f 17 [.tmp 4, .tmp 5] (Zh fA)) (hA : QnV P fA) : Ja P f := by
 intro r n
 refine VC.of_acall rfl (QrL _ _) (ACall.of_body b (by simp) ?_)
 have hA' := hA r n
 rcases Qws r n with ⟨k, e1, e2⟩ | ⟨l, e1, e2⟩
 ·rw [e1] at hA'
  simp (disch := omega) only [rq, simprocAttr, Zh]
  refine Qc.vc hA' ?_
  simp (disch := omega) only [rq, simprocAttr, e2, List.length_nil]
  try simp
 ·rw [e1] at hA'
  simp (disch := omega) only [rq, simprocAttr, Zh]
  refine Qc.vc hA' ?_
  simp (disch := omega) only [rq, simprocAttr, QlD, e2]
theorem QfL (c x r n : Int) : ZH c x r n = if Qbf c x n = 0 ∧ QgS r n = 0 then 0 else 8 := by
 unfold ZH Qbf
 by_cases h1 : Zg c x = 0 <;> by_cases h2 : n < 1 <;> by_cases h3 : 4000 / c < n <;> by_cases h4 : QgS r n = 0 <;> simp [h1, h2, h3, h4]
theorem Qdy {c x r : Int} {l : List Int} : QN c x r l = if QcN c x l = 0 ∧ ZH c x r (l.length / c) = 0 then 0 else 8 := by
 unfold QN QcN
 by_cases h0 : ZH c x r (l.length / c) = 0
 ·have h0' := h0
  rw [QfL] at h0'
  have ha : Qbf c x (l.length / c) = 0 := by
   by_cases h : Qbf c x (l.length / c) = 0 ∧ QgS r (l.length / c) = 0
   ·exact h.1
   ·rw [if_neg h] at h0'; cases h0'
  have hE : Zg c x = 0 := by
   by_cases h : Zg c x = 0
   ·exact h
   ·simp [Qbf, h] at ha
  have hn : ¬ (l.length : Int) / c < 1 := by
   intro h
   simp [Qbf, h] at ha
  have hc : ¬ c < 1 := by
   rcases Zf c x with h | h <;> omega
  have hl : l.length ≠ 0 := by
   intro h
   rw [h] at hn
   simp at hn
  by_cases h2 : (l.length : Int) % c = 0 <;> by_cases h3 : QE x l = 0 <;> simp [hE, hc, hl, h0, h2, h3]
 ·simp [h0]
def Qgf (P : Prg) (f : Nat) : Prop := ∀ (c x r n : Int) (l : List Int), VC P f [.agg [.int .i64 c, .int .i64 x, .int .i64 r, il l], .int .i64 n] (.bool (decide (ZH c x r n = 0)))
theorem Qpi {P : Prg} {f fS fA fC t0 : Nat} (b : Body P f 21 [.tmp 4] (Z4 fS fA fC t0)) (hS : X9 P fS) (hA : QnU P fA) (hC : Ja P fC) : Qgf P f := by
 intro c x r n l
 refine VC.of_acall (by simp [isDL, isD, Q8]) rfl (ACall.of_body b (by simp) ?_)
 have hS' := hS c x r l
 have hA' := hA c x n
 rw [shA] at hS' hA'
 rw [il] at hS'
 obtain ⟨k, ek⟩ := QiG r n
 have hC' := hC r n
 rw [ek] at hC'
 simp (disch := omega) only [rq, simprocAttr, Z4, il]
 refine Qc.vc hS' ?_
 simp (disch := omega) only [rq, simprocAttr]
 refine Qc.vc hA' ?_
 by_cases h1 : Qbf c x n = 0
 ·simp (disch := omega) only [rq, simprocAttr, h1]
  refine Qc.vc hC' ?_
  by_cases h7 : QgS r n = 0
  ·have e9 : ZH c x r n = 0 := by rw [QfL, if_pos ⟨h1, h7⟩]
   simp (disch := omega) only [rq, simprocAttr, h7, e9]
   try simp
  ·have e9 : ZH c x r n = 8 := by rw [QfL, if_neg (by simp [h7])]
   simp (disch := omega) only [rq, simprocAttr, e9]
   try simp [h7]
 ·have e9 : ZH c x r n = 8 := by rw [QfL, if_neg (by simp [h1])]
  simp (disch := omega) only [rq, simprocAttr, h1, e9]
  try simp
theorem Qmp {P : Prg} {f fS fA fH t0 : Nat} (b : Body P f 20 [.tmp 2] (ZS fS fA fH t0)) (hS : X9 P fS) (hA : Qhy P fA) (hH : Qgf P fH) : Zv P f := by
 intro c x r l hI hl
 refine VC.of_acall (by simp [isDL, isD, Q8]) rfl (ACall.of_body b (by simp) ?_)
 have hS' := hS c x r l
 have hA' := hA c x l hI
 have hH' := hH c x r (l.length / c) l
 rw [shA] at hS' hA'
 rw [il] at hS' hA' hH'
 simp (disch := omega) only [rq, simprocAttr, ZS, il]
 refine ZN.vc hS' ?_
 simp (disch := omega) only [rq, simprocAttr]
 refine ZN.vc hA' ?_
 by_cases h1 : QcN c x l = 0
 ·have hc : 1 ≤ c := by
   obtain ⟨k, rfl, hk, _⟩ := QnC hI h1
   have := hk.1
   omega
  have hd := QkX (n := l.length) hc
  have q0 : (l.length : Int).tdiv c = l.length / c := Int.tdiv_eq_ediv_of_nonneg (by omega)
  simp (disch := omega) only [rq, simprocAttr, h1, q0]
  refine ZN.vc hH' ?_
  by_cases h2 : ZH c x r (l.length / c) = 0
  ·have e9 : QN c x r l = 0 := by rw [Qdy, if_pos ⟨h1, h2⟩]
   simp (disch := omega) only [rq, simprocAttr, h2, e9, decide_true, Bool.not_true]
  ·have e9 : QN c x r l = 8 := by rw [Qdy, if_neg (by simp [h2])]
   have e8 : decide (ZH c x r (l.length / c) = 0) = false := by simp [h2]
   simp (disch := omega) only [rq, simprocAttr, e8, e9, Bool.not_false]
 ·have e9 : QN c x r l = 8 := by rw [Qdy, if_neg (by simp [h1])]
  simp (disch := omega) only [rq, simprocAttr, h1, e9]
def clA (c x r : Int) (l : List Int) : AV := .agg [.int .i64 c, .int .i64 x, .int .i64 r, il l]
open Go.RowKit Go.Shelf Go.Proofs
def ZI (tB : Nat) (c : AV) (lr : Int) : Ob := ⟨tB, 3, 1, [c, .int .i64 0, .int .i8 lr], 0⟩
theorem QbN {P : Prg} {f : Nat} (b : Body P f 33 [.tmp 4, .tmp 5] Qf) {ob : List Ob} {p o n c m tB t5 : Nat} {lr : Int} {cs : List AV} (hp : ob[p]? = some (ZI tB (.ownc o n c) lr)) (ho : ob[o]? = some ⟨t5, 1, n, cs, 0⟩)
  (hpo : p ≠ o) (hm : n + m ≤ c) (hc : c ≤ maxLen) {K : AV → List Ob → Prop}
  (hK : K (.tup [.int .i64 n, .bool true]) ((ob.set o ⟨t5, 1, n + m, cs ++ List.replicate m .any, 0⟩).set p (ZI tB (.ownc o (n + m) c) lr))) : ACall P f [.ref p 1 0, .int .i64 m] ob K := by
 refine ACall.of_body b (by simp) ?_
 have hol : o < ob.length := (List.getElem?_eq_some_iff.1 ho).1
 have hpl : p < ob.length := (List.getElem?_eq_some_iff.1 hp).1
 simp only [maxLen] at hc
 simp only [ZI] at hp hK
 have e1 : ∀ x, (ob.set o x)[p]? = some ⟨tB, 3, 1, [.ownc o n c, .int .i64 0, .int .i8 lr], 0⟩ := fun x => by rw [List.getElem?_set_ne (fun h => hpo h.symm)]; exact hp
 have e2 : ((n : Int) + m).toNat = n + m := by omega
 have e3 : n + m - n = m := by omega
 rcases Nat.eq_zero_or_pos m with hm | hm
 ·subst hm
  have e5 : ob.set o ⟨t5, 1, n, cs, 0⟩ = ob := Qcd ho
  simp only [List.replicate_zero, List.append_nil, Nat.add_zero, e5] at hK
  have e6 : ((n : Int) + 0).toNat = n := by omega
  simp (disch := omega) only [rq, simprocAttr, Qf, hp, ho, e1, QgC, e6, List.length_set]
  exact hK
 ·have e4 : (n + m = n) = False := eq_false (by omega)
  simp (disch := omega) only [rq, simprocAttr, Qf, hp, ho, e1, QgC, e2, e3, e4, List.length_set]
  exact hK
theorem QbO {P : Prg} {f : Nat} (b : Body P f 33 [.tmp 4, .tmp 5] Qf) {ob : List Ob} {p o n c m tB t5 : Nat} {lr : Int} {cs : List AV} (hp : ob[p]? = some (ZI tB (.ownc o n c) lr)) (ho : ob[o]? = some ⟨t5, 1, n, cs, 0⟩)
  (hn : n ≤ c) (hm : c < n + m) (hc : c ≤ maxLen) (hm2 : m < 4611686018427387904) {K : AV → List Ob → Prop} (hK : K (.tup [.int .i64 0, .bool false]) ob) : ACall P f [.ref p 1 0, .int .i64 m] ob K := by
 refine ACall.of_body b (by simp) ?_
 simp only [maxLen] at hc
 simp only [ZI] at hp
 simp (disch := omega) only [rq, simprocAttr, Qf, hp, ho]
 exact hK
theorem Qfr {P : Prg} {f : Nat} (b : Body P f 33 [.tmp 4, .tmp 5] Qf) {ob : List Ob} {p m tB : Nat} {lr : Int} (hp : ob[p]? = some (ZI tB (.emp true) lr)) (hm : 0 < m)
  {K : AV → List Ob → Prop} (hK : K (.tup [.int .i64 0, .bool false]) ob) : ACall P f [.ref p 1 0, .int .i64 m] ob K := by
 refine ACall.of_body b (by simp) ?_
 simp only [ZI] at hp
 simp (disch := omega) only [rq, simprocAttr, Qf, hp]
 exact hK
theorem Qnl {P : Prg} {f : Nat} (b : Body P f 13 [.tmp 2] Q7) {ob : List Ob} {p tB : Nat} {lr : Int} (hp : ob[p]? = some (ZI tB (.emp true) lr)) {K : AV → List Ob → Prop} (hK : K (.int .i64 0) ob) : ACall P f [.ref p 1 0] ob K := by
 refine ACall.of_body b (by simp) ?_
 simp only [ZI] at hp
 simp (disch := omega) only [rq, simprocAttr, Q7, hp]
 exact hK
theorem Qut {P : Prg} {f fL fR fT fG t5 g0 : Nat} (b : Body P f 110 [.tmp 4] (QD fL fR fT fG t5 g0)) (bL : Body P fL 13 [.tmp 2] Q7) (bT : Body P fT 33 [.tmp 4, .tmp 5] Qf)
  {ob : List Ob} {p m tB : Nat} {lr : Int} (hp : ob[p]? = some (ZI tB (.emp true) lr)) (hm : 0 < m) (hm2 : m ≤ 64) {K : AV → List Ob → Prop}
  (hK : K (.int .i64 0) ((ob ++ ([⟨t5, 1, m, Qe [.int .u8 0] m, 0⟩] : List Ob)).set p (ZI tB (.own ob.length m) lr))) : ACall P f [.ref p 1 0, .int .i64 m] ob K := by
 refine ACall.of_body b (by simp) ?_
 have hpl : p < ob.length := (List.getElem?_eq_some_iff.1 hp).1
 have hp' := hp
 simp only [ZI] at hp hK
 have e1 : ∀ x : Ob, (ob ++ [x])[p]? = some ⟨tB, 3, 1, [.emp true, .int .i64 0, .int .i8 lr], 0⟩ := fun x => by rw [List.getElem?_append_left hpl]; exact hp
 simp (disch := omega) only [rq, simprocAttr, QD]
 refine Qnl bL hp' ?_
 simp (disch := omega) only [rq, simprocAttr, QD, hp]
 refine Qfr bT hp' hm ?_
 by_cases h64 : m = 64
 ·simp (disch := omega) only [rq, simprocAttr, QD, hp, QlC, e1, List.length_append, List.length_set]
  exact hK
 ·simp (disch := omega) only [rq, simprocAttr, QD, hp, QlC, e1, List.length_append, List.length_set]
  exact hK
structure Qxu (P : Prg) (fT fG fL fR fS : Nat) (t5 g0 : Nat) : Prop where
 T : Body P fT 33 [.tmp 4, .tmp 5] Qf
 G : Body P fG 110 [.tmp 4] (QD fL fR fT fS t5 g0)
 L : Body P fL 13 [.tmp 2] Q7
theorem Body.enters {P : Prg} {f N : Nat} {rl : List ResultVar} {ac : AC} (b : Body P f N rl ac) : Enters P f := by
 obtain ⟨fn, hf, hn, _, _, hc⟩ := b
 obtain ⟨c, hb, _⟩ := Option.bind_eq_some_iff.1 hc
 exact ⟨fn, hf, hn, by rw [hb]; rfl⟩
set_option maxHeartbeats 1000000 in
theorem QbG {P : Prg} {ρ : Ren} {f fT fL fR fS g0 : Nat} (L : LaysM.n252 P.prog ρ) (B : Qxu P fT (ρ.f 252) fL fR fS (ρ.t 5) g0) (b : Body P f 32 [.tmp 4, .tmp 5] (Qp fT (ρ.f 252)))
  {ob : List Ob} {p o n tB : Nat} {lr : Int} {cs : List AV} {s : List UInt8} (hp : ob[p]? = some (ZI tB (.own o n) lr)) (ho : ob[o]? = some ⟨ρ.t 5, 1, n, cs, 0⟩) (hl : cs.length = n) (hpo : p ≠ o) (hn : 0 < n) (hlim : n + s.length ≤ 140737488355328)
  {K : AV → List Ob → Prop} (hK : K (.tup [.int .i64 s.length, .lit .nilIface]) (QZ ob o p ⟨ρ.t 5, 1, n + s.length, cs ++ u8 s, 0⟩ (ZI tB (.own o (n + s.length)) 0))) : ACall P f [.ref p 1 0, .str s] ob K := by
 refine ACall.cap hp rfl ho rfl b.enters fun c hc1 hc2 => ?_
 have hol : o < ob.length := (List.getElem?_eq_some_iff.1 ho).1
 have hpl : p < ob.length := (List.getElem?_eq_some_iff.1 hp).1
 refine ACall.uncap (ACall.of_body b (by simp) ?_)
 have e0 : ob.set p { ZI tB (.own o n) lr with cs := .ownc o n c :: [.int .i64 0, .int .i8 lr] } = QZ ob o p ⟨ρ.t 5, 1, n, cs, 0⟩ (ZI tB (.ownc o n c) lr) := by
  conv => lhs; rw [← QbM ho hp hpo]
  rw [QcF]
  rfl
 rw [e0]
 simp only [maxLen] at hc2
 have gp : ∀ x y, (QZ ob o p x y)[p]? = some y := fun x y => QcQ hpl
 have go : ∀ x y, (QZ ob o p x y)[o]? = some x := fun x y => QcR hol hpo
 have sp : ∀ x y y', (QZ ob o p x y).set p y' = QZ ob o p x y' := fun x y y' => QcF
 have so : ∀ x y x', (QZ ob o p x y).set o x' = QZ ob o p x' y := fun x y x' => Qfp hpo
 have ln : ∀ x y, (QZ ob o p x y).length = ob.length := fun x y => QW
 have m1 : ∀ a : Nat, Nat.min a a = a := fun a => Nat.min_self a
 have tk : (cs ++ List.replicate s.length AV.any).take n = cs := by rw [List.take_left' hl]
 have tk2 : (u8 s).take s.length = u8 s := by rw [List.take_of_length_le (by simp [Qr])]
 have tk3 : (cs ++ List.replicate s.length AV.any).drop (n + s.length) = [] := by rw [List.drop_of_length_le (by simp; omega)]
 have nz : (n + s.length = 0) = False := eq_false (by omega)
 have z1 : n + s.length - n = s.length := by omega
 have z2 : ((n : Int) + s.length - n).toNat = s.length := by omega
 simp (disch := omega) only [rq, simprocAttr, Qp, ZI, gp, go, sp, so, ln]
 by_cases hr : n + s.length ≤ c
 ·refine QbN B.T (gp _ _) (go _ _) hpo hr (by simpa [maxLen] using hc2) ?_
  rw [so, sp]
  simp (disch := omega) only [rq, simprocAttr, ZI, gp, go, sp, so, ln, m1, z1, z2, QgC, nz, tk, tk2, tk3, hl, Qfq]
  refine .inr ⟨p, _, o, n + s.length, c, _, gp _ _, rfl, ?_⟩
  rw [sp]
  exact hK
 ·refine QbO B.T (gp _ _) (go _ _) hc1 (by omega) (by simpa [maxLen] using hc2) (by omega) ?_
  simp (disch := omega) only [rq, simprocAttr, ZI, gp, go, sp, so, ln]
  refine ACall.grow_row L B.G.enters (gp _ _) (go _ _) hpo hn (by omega) hlim ?_
  rw [so, sp]
  simp (disch := omega) only [rq, simprocAttr, ZI, gp, go, sp, so, ln, m1, z1, z2, nz, tk, tk2, tk3, hl, Qfq]
  exact .inl hK
set_option maxHeartbeats 1000000 in
theorem QdM {P : Prg} {ρ : Ren} {f fT fL fR fS g0 : Nat} (L : LaysM.n252 P.prog ρ) (B : Qxu P fT (ρ.f 252) fL fR fS (ρ.t 5) g0) (b : Body P f 32 [.tmp 4, .tmp 5] (QI fT (ρ.f 252)))
  {ob : List Ob} {p o n tB : Nat} {lr : Int} {cs : List AV} {s : List UInt8} (hp : ob[p]? = some (ZI tB (.own o n) lr)) (ho : ob[o]? = some ⟨ρ.t 5, 1, n, cs, 0⟩) (hl : cs.length = n) (hpo : p ≠ o) (hn : 0 < n) (hlim : n + s.length ≤ 140737488355328)
  {K : AV → List Ob → Prop} (hK : K (.tup [.int .i64 s.length, .lit .nilIface]) (QZ ob o p ⟨ρ.t 5, 1, n + s.length, cs ++ u8 s, 0⟩ (ZI tB (.own o (n + s.length)) 0))) : ACall P f [.ref p 1 0, .list s.length (u8 s)] ob K := by
 refine ACall.cap hp rfl ho rfl b.enters fun c hc1 hc2 => ?_
 have hol : o < ob.length := (List.getElem?_eq_some_iff.1 ho).1
 have hpl : p < ob.length := (List.getElem?_eq_some_iff.1 hp).1
 refine ACall.uncap (ACall.of_body b (by simp) ?_)
 have e0 : ob.set p { ZI tB (.own o n) lr with cs := .ownc o n c :: [.int .i64 0, .int .i8 lr] } = QZ ob o p ⟨ρ.t 5, 1, n, cs, 0⟩ (ZI tB (.ownc o n c) lr) := by
  conv => lhs; rw [← QbM ho hp hpo]
  rw [QcF]
  rfl
 rw [e0]
 simp only [maxLen] at hc2
 have gp : ∀ x y, (QZ ob o p x y)[p]? = some y := fun x y => QcQ hpl
 have go : ∀ x y, (QZ ob o p x y)[o]? = some x := fun x y => QcR hol hpo
 have sp : ∀ x y y', (QZ ob o p x y).set p y' = QZ ob o p x y' := fun x y y' => QcF
 have so : ∀ x y x', (QZ ob o p x y).set o x' = QZ ob o p x' y := fun x y x' => Qfp hpo
 have ln : ∀ x y, (QZ ob o p x y).length = ob.length := fun x y => QW
 have m1 : ∀ a : Nat, Nat.min a a = a := fun a => Nat.min_self a
 have tk : (cs ++ List.replicate s.length AV.any).take n = cs := by rw [List.take_left' hl]
 have tk2 : (u8 s).take s.length = u8 s := by rw [List.take_of_length_le (by simp [Qr])]
 have tk3 : (cs ++ List.replicate s.length AV.any).drop (n + s.length) = [] := by rw [List.drop_of_length_le (by simp; omega)]
 have nz : (n + s.length = 0) = False := eq_false (by omega)
 have z1 : n + s.length - n = s.length := by omega
 have z2 : ((n : Int) + s.length - n).toNat = s.length := by omega
 simp (disch := omega) only [rq, simprocAttr, QI, ZI, gp, go, sp, so, ln]
 by_cases hr : n + s.length ≤ c
 ·refine QbN B.T (gp _ _) (go _ _) hpo hr (by simpa [maxLen] using hc2) ?_
  rw [so, sp]
  simp (disch := omega) only [rq, simprocAttr, ZI, gp, go, sp, so, ln, m1, z1, z2, QgC, nz, tk, tk2, tk3, hl, Qfq]
  refine .inr ⟨p, _, o, n + s.length, c, _, gp _ _, rfl, ?_⟩
  rw [sp]
  exact hK
 ·refine QbO B.T (gp _ _) (go _ _) hc1 (by omega) (by simpa [maxLen] using hc2) (by omega) ?_
  simp (disch := omega) only [rq, simprocAttr, ZI, gp, go, sp, so, ln]
  refine ACall.grow_row L B.G.enters (gp _ _) (go _ _) hpo hn (by omega) hlim ?_
  rw [so, sp]
  simp (disch := omega) only [rq, simprocAttr, ZI, gp, go, sp, so, ln, m1, z1, z2, nz, tk, tk2, tk3, hl, Qfq]
  exact .inl hK
set_option maxHeartbeats 1000000 in
theorem Qqi {P : Prg} {ρ : Ren} {f fT fL fR fS g0 : Nat} (L : LaysM.n252 P.prog ρ) (B : Qxu P fT (ρ.f 252) fL fR fS (ρ.t 5) g0) (b : Body P f 32 [.tmp 4, .tmp 5] (QI fT (ρ.f 252)))
  {ob : List Ob} {p o n tB : Nat} {lr : Int} {cs : List AV} {s : List UInt8} (hp : ob[p]? = some (ZI tB (.own o n) lr)) (ho : ob[o]? = some ⟨ρ.t 5, 1, n, cs, 0⟩) (hl : cs.length = n) (hpo : p ≠ o) (hn : 0 < n) {q t : Nat} (hq : ob[q]? = some ⟨t, 1, s.length, u8 s, 0⟩) (hqp : q ≠ p) (hqo : q ≠ o) (hlim : n + s.length ≤ 140737488355328)
  {K : AV → List Ob → Prop} (hK : K (.tup [.int .i64 s.length, .lit .nilIface]) (QZ ob o p ⟨ρ.t 5, 1, n + s.length, cs ++ u8 s, 0⟩ (ZI tB (.own o (n + s.length)) 0))) : ACall P f [.ref p 1 0, .own q s.length] ob K := by
 refine ACall.cap hp rfl ho rfl b.enters fun c hc1 hc2 => ?_
 have hol : o < ob.length := (List.getElem?_eq_some_iff.1 ho).1
 have hpl : p < ob.length := (List.getElem?_eq_some_iff.1 hp).1
 refine ACall.uncap (ACall.of_body b (by simp) ?_)
 have e0 : ob.set p { ZI tB (.own o n) lr with cs := .ownc o n c :: [.int .i64 0, .int .i8 lr] } = QZ ob o p ⟨ρ.t 5, 1, n, cs, 0⟩ (ZI tB (.ownc o n c) lr) := by
  conv => lhs; rw [← QbM ho hp hpo]
  rw [QcF]
  rfl
 rw [e0]
 simp only [maxLen] at hc2
 have gp : ∀ x y, (QZ ob o p x y)[p]? = some y := fun x y => QcQ hpl
 have go : ∀ x y, (QZ ob o p x y)[o]? = some x := fun x y => QcR hol hpo
 have sp : ∀ x y y', (QZ ob o p x y).set p y' = QZ ob o p x y' := fun x y y' => QcF
 have so : ∀ x y x', (QZ ob o p x y).set o x' = QZ ob o p x' y := fun x y x' => Qfp hpo
 have ln : ∀ x y, (QZ ob o p x y).length = ob.length := fun x y => QW
 have gq : ∀ x y, (QZ ob o p x y)[q]? = some ⟨t, 1, s.length, u8 s, 0⟩ := fun x y => by
  unfold QZ
  rw [List.getElem?_set_ne hqp.symm, List.getElem?_set_ne hqo.symm]
  exact hq
 have m1 : ∀ a : Nat, Nat.min a a = a := fun a => Nat.min_self a
 have tk : (cs ++ List.replicate s.length AV.any).take n = cs := by rw [List.take_left' hl]
 have tk2 : (u8 s).take s.length = u8 s := by rw [List.take_of_length_le (by simp [Qr])]
 have tk3 : (cs ++ List.replicate s.length AV.any).drop (n + s.length) = [] := by rw [List.drop_of_length_le (by simp; omega)]
 have nz : (n + s.length = 0) = False := eq_false (by omega)
 have z1 : n + s.length - n = s.length := by omega
 have z2 : ((n : Int) + s.length - n).toNat = s.length := by omega
 simp (disch := omega) only [rq, simprocAttr, gq, QI, ZI, gp, go, sp, so, ln]
 by_cases hr : n + s.length ≤ c
 ·refine QbN B.T (gp _ _) (go _ _) hpo hr (by simpa [maxLen] using hc2) ?_
  rw [so, sp]
  simp (disch := omega) only [rq, simprocAttr, gq, ZI, gp, go, sp, so, ln, m1, z1, z2, QgC, nz, tk, tk2, tk3, hl, Qfq]
  refine .inr ⟨p, _, o, n + s.length, c, _, gp _ _, rfl, ?_⟩
  rw [sp]
  exact hK
 ·refine QbO B.T (gp _ _) (go _ _) hc1 (by omega) (by simpa [maxLen] using hc2) (by omega) ?_
  simp (disch := omega) only [rq, simprocAttr, gq, ZI, gp, go, sp, so, ln]
  refine ACall.grow_row L B.G.enters (gp _ _) (go _ _) hpo hn (by omega) hlim ?_
  rw [so, sp]
  simp (disch := omega) only [rq, simprocAttr, gq, ZI, gp, go, sp, so, ln, m1, z1, z2, nz, tk, tk2, tk3, hl, Qfq]
  exact .inl hK
theorem Qfd {P : Prg} {f fT fG fL fR fS t5 g0 : Nat} (B : Qxu P fT fG fL fR fS t5 g0) (b : Body P f 32 [.tmp 4, .tmp 5] (Qp fT fG))
  {ob : List Ob} {p tB : Nat} {lr : Int} {s : List UInt8} (hp : ob[p]? = some (ZI tB (.emp true) lr)) (h0 : 0 < s.length) (h64 : s.length ≤ 64)
  {K : AV → List Ob → Prop} (hK : K (.tup [.int .i64 s.length, .lit .nilIface]) ((ob ++ ([⟨t5, 1, s.length, u8 s, 0⟩] : List Ob)).set p (ZI tB (.own ob.length s.length) 0))) : ACall P f [.ref p 1 0, .str s] ob K := by
 refine ACall.of_body b (by simp) ?_
 have hpl : p < ob.length := (List.getElem?_eq_some_iff.1 hp).1
 have hpn : p ≠ ob.length := by omega
 simp only [ZI] at hp hK
 have g1 : ∀ x, (ob.set p x)[p]? = some x := fun x => by simp [hpl]
 have s1 : ∀ x y : Ob, (ob.set p x).set p y = ob.set p y := fun x y => List.set_set _
 have l1 : ∀ x, (ob.set p x).length = ob.length := fun x => List.length_set
 have g2 : ∀ x y : Ob, ((ob.set p x ++ [y]).set p (ZI tB (.own ob.length s.length) 0))[p]? = some (ZI tB (.own ob.length s.length) 0) := fun x y => by rw [List.getElem?_set_self (by simp; omega)]
 have g3 : ∀ x y : Ob, ((ob.set p x ++ [y]).set p (ZI tB (.own ob.length s.length) 0))[ob.length]? = some y := fun x y => by
  rw [List.getElem?_set_ne hpn, List.getElem?_append_right (by rw [List.length_set]; exact Nat.le_refl _)]; simp
 have l2 : ∀ x y : Ob, ((ob.set p x ++ [y]).set p (ZI tB (.own ob.length s.length) 0)).length = ob.length + 1 := fun x y => by simp
 have f1 : ∀ x y z : Ob, ((ob.set p x ++ [y]).set p (ZI tB (.own ob.length s.length) 0)).set ob.length z = (ob ++ ([z] : List Ob)).set p (ZI tB (.own ob.length s.length) 0) := fun x y z => by
  apply List.ext_getElem?
  intro j
  simp only [List.getElem?_set, List.getElem?_append, List.length_set, List.length_append]
  by_cases h1 : j = p
  ·subst h1; simp [hpn.symm, hpl]
  ·by_cases h2 : j = ob.length
   ·subst h2; simp [hpn]
   ·have h3 : ¬ ob.length = j := fun h => h2 h.symm
    have h4 : ¬ p = j := fun h => h1 h.symm
    simp only [h3, h4, if_false]
    by_cases h5 : j < ob.length
    ·simp [h5]
    ·have : j - ob.length ≠ 0 := by omega
     simp [h5, this]
 have m1 : ∀ a : Nat, Nat.min a a = a := fun a => Nat.min_self a
 have tk2 : (u8 s).take s.length = u8 s := by rw [List.take_of_length_le (by simp [Qr])]
 have rl : (Qe [AV.int .u8 0] s.length).length = s.length := by rw [QM]; simp
 have tk3 : (Qe [AV.int .u8 0] s.length).drop s.length = [] := by rw [List.drop_of_length_le (by omega)]
 have nz : (s.length = 0) = False := eq_false (by omega)
 have z3 : ((s.length : Int) - 0).toNat = s.length := by omega
 simp only [ZI] at g2 g3 l2 f1
 simp (disch := omega) only [rq, simprocAttr, Qp, hp, g1, s1, l1]
 refine Qfr B.T (g1 _) h0 ?_
 simp (disch := omega) only [rq, simprocAttr, g1, s1, l1]
 refine Qut B.G B.L B.T (g1 _) h0 h64 ?_
 simp (disch := omega) only [rq, simprocAttr, ZI, l1, g2, g3, l2, f1, m1, tk2, tk3, nz, rl, z3, Qfq]
 exact hK
def leB (n : Nat) : Nat → List UInt8
 | 0 => []
 | k + 1 => UInt8.ofNat (n % 256) :: leB (n / 256) k
theorem Qa : ∀ (k n : Nat), (leB n k).length = k
 | 0, _ => rfl
 | k + 1, n => by simp [leB, Qa k]
theorem QmF : ∀ (k n i : Nat) (h : i < k), (leB n k)[i]? = some (UInt8.ofNat (n / 256 ^ i % 256))
 | k + 1, n, 0, _ => by simp [leB]
 | k + 1, n, i + 1, h => by
  simp only [leB, List.getElem?_cons_succ]
  rw [QmF k (n / 256) i (by omega), Nat.div_div_eq_div_mul, Nat.pow_succ, Nat.mul_comm]
theorem Qdr {n k i : Nat} (h : i < k) : (leB n k).take (i + 1) = (leB n k).take i ++ [UInt8.ofNat (n / 256 ^ i % 256)] := by
 rw [List.take_add_one, QmF k n i h]
 rfl
theorem Qx6 {K : IntKind} {n k : Nat} (hk : k ≤ K.bits) : Qg false K (n : Int) (k : Int) = some (.int K ((n / 2 ^ k : Nat) : Int)) := by
 have h3 : ¬ ((k : Int) < 0) := by omega
 have h5 : min k K.bits = k := by omega
 have h6 : (n : Int).fdiv (2 ^ k) = ((n / 2 ^ k : Nat) : Int) := by
  rw [Int.fdiv_eq_ediv_of_nonneg _ (Int.pow_nonneg (by decide))]
  simp [Int.natCast_ediv, Int.natCast_pow]
 simp only [Qg, if_neg h3, Bool.false_eq_true, if_false, Int.toNat_natCast, h5, h6]
def QsP (P : Prg) (f : Nat) : Prop := ∀ n w : Nat, 1 ≤ w → w ≤ 8 → VC P f [.int .u64 n, .int .i64 w] (.bool (decide (w = 8) || decide (n / 2 ^ (8 * w) = 0)))
theorem QvX {P : Prg} {f : Nat} (b : Body P f 14 [.tmp 4] QaS) : QsP P f := by
 intro n w h1 h2
 refine VC.of_acall rfl rfl (ACall.of_body b (by simp) ?_)
 by_cases h8 : w = 8
 ·subst h8
  simp (disch := omega) only [rq, simprocAttr, QaS]
 ·have e1 : (decide (w = 8)) = false := by simpa using h8
  have e2 : Qg false .u64 (n : Int) (8 * (w : Int)) = some (.int .u64 ((n / 2 ^ (8 * w) : Nat) : Int)) := by
   have := Qx6 (K := .u64) (n := n) (k := 8 * w) (by simp [IntKind.bits]; omega)
   rwa [Int.natCast_mul] at this
  have e3 : (((n / 2 ^ (8 * w) : Nat) : Int) == 0) = decide (n / 2 ^ (8 * w) = 0) := by rw [Bool.eq_iff_iff]; simp only [beq_iff_eq, decide_eq_true_eq]; omega
  have e4 : ((w : Int) = 8) = False := eq_false (by omega)
  by_cases h9 : n / 2 ^ (8 * w) = 0
  ·have e5 : (decide (n / 2 ^ (8 * w) = 0)) = true := by simpa using h9
   have e6 : (((n / 2 ^ (8 * w) : Nat) : Int) = 0) = True := eq_true (by omega)
   rw [e5]
   simp (disch := omega) only [rq, simprocAttr, QaS, e1, e2, e4, e6]
  ·have e5 : (decide (n / 2 ^ (8 * w) = 0)) = false := by simpa using h9
   have e6 : (((n / 2 ^ (8 * w) : Nat) : Int) = 0) = False := eq_false (by omega)
   rw [e5]
   simp (disch := omega) only [rq, simprocAttr, QaS, e1, e2, e4, e6]
def Xd (P : Prg) (f : Nat) : Prop := ∀ n w : Nat, 1 ≤ w → w ≤ 8 → n < 256 ^ w → VC P f [.int .u64 n, .int .i64 w] (.tup [bs (leB n w), .int .i64 0])
theorem Quw {t n : Nat} {l : List UInt8} (h : n = l.length) {e : Int} : QO (fun _ => true) [⟨t, 1, n, u8 l, 0⟩] 2 [.tup [.own 0 n, .int .i64 e]] = some [.tup [bs l, .int .i64 e]] := by
 subst h
 simp only [QO, Qz, frzL, Qv, Bool.false_eq_true, if_false, List.getElem?_cons_zero, and_self, if_true, frzL_T _ (QC l), Option.map_some, bs]
theorem Qt8 {P : Prg} {f fF t0 : Nat} (b : Body P f 35 [.tmp 4, .tmp 5] (Qbk fF t0)) (hF : QsP P fF) : Xd P f := by
 intro n w h1 h2 hn
 refine VC.of_walk 1 (by simp [isDL, isD]) (by simp [isD, isDL, QR]) (ACall.of_body b (by simp) ?_)
 have hn8 : n < 18446744073709551616 := Nat.lt_of_lt_of_le hn (Nat.le_trans (Nat.pow_le_pow_right (by omega) h2) (by decide))
 simp (disch := omega) only [rq, simprocAttr, Qbk]
 refine Qc.vc (hF n w h1 h2) ?_
 have e0 : (decide (w = 8) || decide (n / 2 ^ (8 * w) = 0)) = true := by
  have : n / 2 ^ (8 * w) = 0 := Nat.div_eq_of_lt (by rw [Nat.pow_mul]; exact hn)
  simp [this]
 rw [e0]
 have r0 : Qe [.int .u8 0] w = u8 ([] : List UInt8) ++ List.replicate w (.int .u8 0) := by
  have : ∀ k, Qe [AV.int .u8 0] k = List.replicate k (.int .u8 0) := fun k => by
   induction k with
   | zero => rfl
   | succ k ih => simp [Qe, ih, List.replicate_succ]
  rw [this]; rfl
 simp (disch := omega) only [rq, simprocAttr, Qbk]
 rw [r0]
 refine QL.by (ι := Nat) (fun k => ⟨[(22, .int .i64 k), (21, .int .i64 w), (6, .own 0 w), (0, .int .u64 n)], [⟨t0, 1, w, u8 ((leB n w).take k) ++ List.replicate (w - k) (.int .u8 0), 0⟩]⟩) (fun k => k ≤ w) (fun k => w - k) 0 (Le.slots (by simp [Am.look])) (by omega) ?_
 intro k hk
 by_cases hlt : k < w
 ·have e2 : Qg false .u64 (n : Int) (8 * (k : Int)) = some (.int .u64 ((n / 256 ^ k : Nat) : Int)) := by
   have := Qx6 (K := .u64) (n := n) (k := 8 * k) (by simp [IntKind.bits]; omega)
   rwa [Int.natCast_mul, Nat.pow_mul] at this
  have e3 : IntKind.u8.wrap ((n / 256 ^ k : Nat) : Int) = ((UInt8.ofNat (n / 256 ^ k % 256)).toNat : Int) := by
   simp [IntKind.wrap, IntKind.signed, IntKind.bits]
  have hl : (u8 ((leB n w).take k)).length = k := by simp [Qr, Qa]; omega
  have e4 : (u8 ((leB n w).take k) ++ List.replicate (w - k) (AV.int .u8 0)).take k = u8 ((leB n w).take k) := by rw [List.take_left' hl]
  have e5 : (u8 ((leB n w).take k) ++ List.replicate (w - k) (AV.int .u8 0)).drop (k + 1) = List.replicate (w - (k + 1)) (.int .u8 0) := by
   rw [List.drop_append, List.drop_of_length_le (by omega), hl]
   simp
   omega
  have e6 : u8 ((leB n w).take k) ++ [AV.int .u8 ((UInt8.ofNat (n / 256 ^ k % 256)).toNat : Int)] = u8 ((leB n w).take (k + 1)) := by
   rw [Qdr hlt, ← QT]; rfl
  simp (disch := omega) only [rq, simprocAttr, e2, e3, hl, e4, e5, e6]
  refine ⟨k + 1, by omega, by omega, ?_⟩
  refine Le.slots ?_
  simp [Am.look]
 ·have ek : k = w := by omega
  subst ek
  have e7 : (leB n k).take k = leB n k := List.take_of_length_le (by rw [Qa]; exact Nat.le_refl _)
  have e8 : u8 (leB n k) ++ List.replicate (k - k) (AV.int .u8 0) = u8 (leB n k) := by simp
  simp (disch := omega) only [rq, simprocAttr, e7]
  rw [e8, Quw (Qa k n).symm]
def okL (l : List Ck) : Prop := l.length ≤ 25 ∧ ∀ c ∈ l, c.1.length ≤ 20 ∧ c.2.length ≤ 100200
def szC (c : Ck) : Nat := 8 + c.2.length + c.2.length % 2
def szL (l : List Ck) : Nat := (l.map szC).sum
theorem Qoj {l : List Ck} (h : okL l) {k : Nat} (hk : k < l.length) : (l[k]).1.length ≤ 20 ∧ (l[k]).2.length ≤ 100200 := h.2 _ (List.getElem_mem hk)
theorem Qn1 {l : List Ck} {k : Nat} (h : k < l.length) : szL (l.take (k + 1)) = szL (l.take k) + szC l[k] := by
 simp only [szL]
 rw [List.take_succ_eq_append_getElem h, List.map_append, List.sum_append]
 simp
theorem QqF {l : List Ck} (h : okL l) : ∀ k, k ≤ l.length → szL (l.take k) ≤ k * 100209
 | 0, _ => by simp [szL]
 | k + 1, hk => by
  have h1 := QqF h k (by omega)
  have h2 := Qoj h (k := k) (by omega)
  rw [Qn1 (by omega)]
  simp only [szC]
  omega
theorem QuZ {l : List Ck} (h : okL l) : szL l ≤ 2505225 := by
 have := QqF h l.length (Nat.le_refl _)
 rw [List.take_length] at this
 have := h.1
 omega
theorem QoL {n : Nat} (h : n < 9223372036854775808) : IntKind.i64.wrap (BitVec.ofInt IntKind.i64.bits (n : Int) &&& BitVec.ofInt IntKind.i64.bits 1).toNat = ((n % 2 : Nat) : Int) := by
 have e1 : (BitVec.ofInt 64 (n : Int)).toNat = n := by
  rw [BitVec.toNat_ofInt]
  show ((n : Int) % 18446744073709551616).toNat = n
  omega
 have e2 : (BitVec.ofInt 64 1).toNat = 1 := by decide
 have : (BitVec.ofInt 64 (n : Int) &&& BitVec.ofInt 64 1).toNat = n % 2 := by
  rw [BitVec.toNat_and, e1, e2, Nat.and_one_is_mod]
 show IntKind.i64.wrap ((BitVec.ofInt 64 (n : Int) &&& BitVec.ofInt 64 1).toNat : Int) = _
 rw [this, wrap_i64] <;> omega
def QoM (P : Prg) (f a : Nat) : Prop := ∀ l : List Ck, okL l → VC P f [.list l.length (ckL l)] (.int .i64 ((a + szL l : Nat) : Int))
theorem Qa7 (l : List Ck) : isDL (ckL l) = true := Qkz (QbV l)
theorem Qq8 {P : Prg} {f t0 : Nat} (b : Body P f 25 [.tmp 2] (Qb5 t0)) : QoM P f 4 := by
 intro l hl
 refine VC.of_acall (by simp [isDL, isD, Qa7]) rfl (ACall.of_body b (by simp) ?_)
 have h25 := hl.1
 simp (disch := omega) only [rq, simprocAttr, Qb5]
 refine QL.by (ι := Nat) (fun k => ⟨[(8, .int .i64 k), (7, .int .i64 l.length), (6, .list l.length (ckL l)), (3, .int .i64 ((4 + szL (l.take k) : Nat) : Int))], []⟩) (fun k => k ≤ l.length) (fun k => l.length - k) 0 (Le.slots (by simp [Am.look, szL])) (by omega) ?_
 intro k hk
 have hs := QqF hl k hk
 by_cases hlt : k < l.length
 ·obtain ⟨o1, o2⟩ := Qoj hl hlt
  have e1 := Qco hlt
  have e2 := Xq l
  have e3 := QoL (n := (l[k]).2.length) (by omega)
  have e4 := Qn1 hlt
  simp only [szC] at e4
  simp (disch := omega) only [rq, simprocAttr, e1, e2, bs, e3]
  refine ⟨k + 1, by omega, by omega, Le.drop 0 1 (by omega) rfl ?_ ?_⟩
  ·have e5 : (4 : Int) + szL (l.take k) + (8 + (l[k]).2.length + ((l[k]).2.length % 2 : Nat)) = ((4 + szL (l.take (k + 1)) : Nat) : Int) := by omega
   simp [Am.look, Qz, frzL, Qv, frzL_T _ (QbV l)]
   omega
  ·intro i y hy; simp at hy
 ·have ek : k = l.length := by omega
  subst ek
  rw [List.take_length]
  simp (disch := omega) only [rq, simprocAttr]
def QdK (P : Prg) (f : Nat) : Prop := ∀ (l : List Ck) (p : Ck → Bool) (g : Nat) (cs : List AV), isDL cs = true → l.length ≤ 4611686018427387904 →
 (∀ x ∈ l, VC P g ([ckA x] ++ cs) (.bool (p x))) → VC P f [.list l.length (ckL l), .fn (.func g) [] cs] (.int .i64 (Quo p l))
theorem QmL {P : Prg} {f : Nat} (b : Body P f 19 [.tmp 4] QA) : QdK P f := by
 intro l p g cs h2 hlen hp
 refine VC.of_acall (by simp [isDL, isD, h2, Qa7]) rfl (ACall.of_body b (by simp) ?_)
 simp (disch := omega) only [rq, simprocAttr, QA]
 refine QL.by (ι := Nat) (fun k => ⟨[(8, .int .i64 k), (7, .int .i64 l.length), (1, .fn (.func g) [] cs), (0, .list l.length (ckL l))], []⟩) (fun k => k ≤ l.length ∧ (l.take k).all (fun x => !p x) = true) (fun k => l.length - k) 0 (Le.slots (by simp [Am.look])) ⟨by omega, by simp⟩ ?_
 intro k ⟨hk, hg⟩
 by_cases hlt : k < l.length
 ·have e1 := Qco hlt
  have e2 := Xq l
  simp (disch := omega) only [rq, simprocAttr, e1, e2]
  refine Qc.vc (hp _ (List.getElem_mem hlt)) ?_
  cases hpk : p l[k] with
  | true => simp (disch := omega) only [rq, simprocAttr, hpk, Quo, Qwb hlt hg hpk]
  | false =>
   simp (disch := omega) only [rq, simprocAttr, hpk]
   exact ⟨k + 1, ⟨by omega, by rw [QnF hlt, hg, hpk]; rfl⟩, by omega, Le.slots (by simp [Am.look])⟩
 ·have e2 : k = l.length := by omega
  subst e2
  rw [List.take_length] at hg
  simp (disch := omega) only [rq, simprocAttr, Quo, Qr5 hg]
def Qb9 (P : Prg) (f : Nat) : Prop := ∀ (l : List Ck) (p : Ck → Bool) (g : Nat) (cs : List AV), isDL cs = true → l.length ≤ 4611686018427387904 →
 (∀ x ∈ l, VC P g ([ckA x] ++ cs) (.bool (p x))) → VC P f [.list l.length (ckL l), .fn (.func g) [] cs] (.bool (l.any p))
theorem QgR {P : Prg} {f fI : Nat} (b : Body P f 9 [.tmp 4] (Qt fI)) (hI : QdK P fI) : Qb9 P f := by
 intro l p g cs h2 hlen hp
 refine VC.of_acall (by simp [isDL, isD, h2, Qa7]) rfl (ACall.of_body b (by simp) ?_)
 have hi := hI l p g cs h2 hlen hp
 simp (disch := omega) only [rq, simprocAttr, Qt]
 refine Qc.vc hi ?_
 simp (disch := omega) only [rq, simprocAttr, Qv6]
def Qjz (P : Prg) (f : Nat) : Prop := ∀ c : Ck, c.1.length < 4611686018427387904 → VC P f [ckA c] (.bool (!ZG c.1))
theorem Qmj {P : Prg} {f fN t0 : Nat} (b : Body P f 7 [.tmp 2] (JX fN t0)) (hN : Qcq P fN) : Qjz P f := by
 intro c hc
 refine VC.of_acall (by simp [isDL, isD, ckA, QR]) rfl (ACall.of_body b (by simp) ?_)
 simp (disch := omega) only [rq, simprocAttr, JX, ckA, bs]
 refine Qc.vc (hN c.1 hc) ?_
 simp (disch := omega) only [rq, simprocAttr]
def ZE (form : List UInt8) (l : List Ck) : Nat :=
 if 20 < l.length then 4 else if ZG form = false ∨ 100000 < 12 + szL l ∨ l.any (fun c => !ZG c.1) = true then 8 else 0
def QnR (P : Prg) (f : Nat) : Prop := ∀ (form : List UInt8) (l : List Ck), form.length ≤ 20 → okL l → VC P f [.str form, .list l.length (ckL l)] (.int .i64 (ZE form l))
theorem Qpg {P : Prg} {f fN fS fC f1 : Nat} (b : Body P f 21 [.tmp 4] (Jy fN fS fC f1)) (hN : Qcq P fN) (hS : QoM P fS 4) (hC : Qb9 P fC) (h1 : Qjz P f1) : QnR P f := by
 intro form l hf hl
 refine VC.of_acall (by simp [isDL, isD, Qa7]) rfl (ACall.of_body b (by simp) ?_)
 have h25 := hl.1
 have hsz := QuZ hl
 by_cases h20 : 20 < l.length
 ·have e0 : ZE form l = 4 := by simp [ZE, h20]
  rw [e0]
  simp (disch := omega) only [rq, simprocAttr, Jy]
 ·simp (disch := omega) only [rq, simprocAttr, Jy]
  refine Qc.vc (hN form (by omega)) ?_
  cases hn : ZG form with
  | false =>
   have e0 : ZE form l = 8 := by simp [ZE, h20, hn]
   rw [e0]
   simp (disch := omega) only [rq, simprocAttr, hn]
  | true =>
   simp (disch := omega) only [rq, simprocAttr, hn]
   refine Qc.vc (hS l hl) ?_
   by_cases hbig : 100000 < 12 + szL l
   ·have e0 : ZE form l = 8 := by simp [ZE, h20, hbig]
    rw [e0]
    simp (disch := omega) only [rq, simprocAttr]
   ·simp (disch := omega) only [rq, simprocAttr]
    refine Qc.vc (hC l (fun c => !ZG c.1) f1 [] rfl (by omega) (fun x hx => h1 x (by have := (hl.2 x hx).1; omega))) ?_
    cases ha : l.any (fun c => !ZG c.1) with
    | true =>
     have e0 : ZE form l = 8 := by simp only [ZE, ha]; simp [h20]
     rw [e0]
     simp (disch := omega) only [rq, simprocAttr]
    | false =>
     have e0 : ZE form l = 0 := by simp only [ZE, ha, hn]; simp [h20, hbig]
     rw [e0]
     simp (disch := omega) only [rq, simprocAttr]
def QgI (l : List Ck) (id : List UInt8) : Option Nat := l.findIdx? (fun c => c.1 == id)
def QkN : Option Nat → AV
 | none => .tup [.int .i64 0, .int .i64 6]
 | some i => .tup [.int .i64 i, .int .i64 0]
theorem Qul (r : Option Nat) : isD (QkN r) = true := by cases r <;> rfl
def QnO (P : Prg) (f : Nat) : Prop := ∀ (c : Ck) (id : List UInt8), VC P f [ckA c, .cell [.str id]] (.bool (c.1 == id))
theorem Qpf {P : Prg} {f t0 : Nat} (b : Body P f 8 [.tmp 3] (Qaz t0)) : QnO P f := by
 intro c id
 refine VC.of_acall (by simp [isDL, isD, ckA, QR]) rfl (ACall.of_body b (by simp) ?_)
 simp (disch := omega) only [rq, simprocAttr, Qaz, ckA, bs, QjC]
def QsX (P : Prg) (f : Nat) : Prop := ∀ (l : List Ck) (id : List UInt8), l.length ≤ 4611686018427387904 → VC P f [.list l.length (ckL l), .str id] (QkN (QgI l id))
theorem Qit {l : List Ck} {id : List UInt8} {i : Nat} (h : QgI l id = some i) : i < l.length := by
 have := List.findIdx?_eq_some_iff_getElem.1 h
 exact this.1
theorem Qrb {P : Prg} {f f1 fI t0 : Nat} (b : Body P f 13 [.tmp 4, .tmp 5] (Qb6 f1 fI t0)) (h1 : QnO P f1) (hI : QdK P fI) : QsX P f := by
 intro l id hl
 refine VC.of_walk 1 (by simp [isDL, isD, Qa7]) (Qul _) (ACall.of_body b (by simp) ?_)
 simp (disch := omega) only [rq, simprocAttr, Qb6]
 have hv := hI l (fun c => c.1 == id) f1 [.cell [.str id]] rfl hl (fun x _ => h1 x id)
 refine Qc.flat 1 hv rfl ?_ ?_
 ·simp [QO, Qz, frzL, Qv, frzL_T _ (QbV l), isDL, isD]
 ·cases hf : QgI l id with
  | none =>
   have e1 : Quo (fun c : Ck => c.1 == id) l = -1 := by simp only [Quo]; rw [show List.findIdx? (fun c : Ck => c.1 == id) l = none from hf]
   rw [e1]
   simp (disch := omega) only [rq, simprocAttr]
   simp [QO, Qz, frzL, Qv, QkN]
  | some i =>
   have e1 : Quo (fun c : Ck => c.1 == id) l = i := by simp only [Quo]; rw [show List.findIdx? (fun c : Ck => c.1 == id) l = some i from hf]
   have hi := Qit hf
   rw [e1]
   simp (disch := omega) only [rq, simprocAttr]
   simp [QO, Qz, frzL, Qv, QkN]
open Go.RowKit Go.Shelf Go.Proofs
def ckB (c : Ck) : List UInt8 := c.1 ++ leB c.2.length 4 ++ c.2 ++ List.replicate (c.2.length % 2) 0
def Xv (form : List UInt8) (l : List Ck) : List UInt8 := Je ++ leB (4 + szL l) 4 ++ form ++ l.flatMap ckB
structure Qxt (P : Prg) (ρ : Ren) (fT fL fR fS g0 fW fX fB : Nat) : Prop where
 L : LaysM.n252 P.prog ρ
 B : Qxu P fT (ρ.f 252) fL fR fS (ρ.t 5) g0
 W : Body P fW 32 [.tmp 4, .tmp 5] (Qp fT (ρ.f 252))
 X : Body P fX 32 [.tmp 4, .tmp 5] (QI fT (ρ.f 252))
 Y : Body P fB 12 [.tmp 2] ZX
section
variable {P : Prg} {ρ : Ren} {fT fL fR fS g0 fW fX fB : Nat}
theorem QsD (A : Qxt P ρ fT fL fR fS g0 fW fX fB) {ob : List Ob} {p o n tB t5 : Nat} {lr : Int} {cs : List AV} (hp : ob[p]? = some (ZI tB (.own o n) lr)) (ho : ob[o]? = some ⟨t5, 1, n, cs, 0⟩) (hn : 0 < n) {K : AV → List Ob → Prop} (hK : K (.view o n 0 n) ob) :
  ACall P fB [.ref p 1 0] ob K := by
 refine ACall.of_body A.Y (by simp) ?_
 simp only [ZI] at hp
 have nz : (n = 0) = False := eq_false (by omega)
 have z : ((n : Int) - 0).toNat = n := by omega
 simp (disch := omega) only [rq, simprocAttr, ZX, hp, ho, nz, z, not_false_eq_true, and_true]
 exact hK
theorem Qur {f fLe : Nat} (A : Qxt P ρ fT fL fR fS g0 fW fX fB) (b : Body P f 17 [] (Zn fLe fW fX)) (hLe : Xd P fLe)
  {ob : List Ob} {p tB n : Nat} {lr : Int} {s : List UInt8} (hp : ob[p]? = some (ZI tB (.emp true) lr)) (h0 : 0 < s.length) (h64 : s.length ≤ 64) (hn : n < 4294967296)
  {K : AV → List Ob → Prop} (hK : K (.tup []) ((ob ++ ([⟨ρ.t 5, 1, s.length + 4, u8 (s ++ leB n 4), 0⟩] : List Ob)).set p (ZI tB (.own ob.length (s.length + 4)) 0))) : ACall P f [.str s, .int .i64 n, .ref p 1 0] ob K := by
 refine ACall.of_body b (by simp) ?_
 have hpl : p < ob.length := (List.getElem?_eq_some_iff.1 hp).1
 simp (disch := omega) only [rq, simprocAttr, Zn]
 refine Qc.vc (hLe n 4 (by omega) (by omega) (by omega)) ?_
 simp (disch := omega) only [rq, simprocAttr, bs]
 refine Qfd A.B A.W hp h0 h64 ?_
 simp (disch := omega) only [rq, simprocAttr, Qa]
 have g1 : ((ob ++ ([⟨ρ.t 5, 1, s.length, u8 s, 0⟩] : List Ob)).set p (ZI tB (.own ob.length s.length) 0))[p]? = some (ZI tB (.own ob.length s.length) 0) := by rw [List.getElem?_set_self (by simp; omega)]
 have g2 : ((ob ++ ([⟨ρ.t 5, 1, s.length, u8 s, 0⟩] : List Ob)).set p (ZI tB (.own ob.length s.length) 0))[ob.length]? = some ⟨ρ.t 5, 1, s.length, u8 s, 0⟩ := by
  rw [List.getElem?_set_ne (by omega), List.getElem?_append_right (by omega)]; simp
 have hw := QdM (K := fun r ob' => wpQ P [] (QjI P [] K) ⟨Zr ([(15, .list 4 (u8 (leB n 4))), (14, .tup [.int .i64 s.length, .lit .nilIface]), (13, .str s), (6, .int .i64 0), (5, .list 4 (u8 (leB n 4))), (12, .int .i64 0), (11, .list 4 (u8 (leB n 4))), (7, .tup [.list 4 (u8 (leB n 4)), .int .i64 0]), (10, .tup [.list 4 (u8 (leB n 4)), .int .i64 0]), (9, .int .u64 n), (8, .int .i64 n), (0, .str s), (1, .int .i64 n), (2, .ref p 1 0)]) (some 16) r, ob'⟩)
  A.L A.B A.X (s := leB n 4) g1 g2 (by rw [Qr]) (by omega) h0 (by rw [Qa]; omega)
 rw [Qa] at hw
 refine hw ?_
 simp (disch := omega) only [rq, simprocAttr]
 have e1 : QZ ((ob ++ ([⟨ρ.t 5, 1, s.length, u8 s, 0⟩] : List Ob)).set p (ZI tB (.own ob.length s.length) 0)) ob.length p ⟨ρ.t 5, 1, s.length + 4, u8 s ++ u8 (leB n 4), 0⟩ (ZI tB (.own ob.length (s.length + 4)) 0) = (ob ++ ([⟨ρ.t 5, 1, s.length + 4, u8 (s ++ leB n 4), 0⟩] : List Ob)).set p (ZI tB (.own ob.length (s.length + 4)) 0) := by
  unfold QZ
  rw [List.set_comm _ _ (by omega : p ≠ ob.length), List.set_set, QT]
  congr 1
  rw [List.set_append_right _ _ (by omega)]
  simp
 simp only [QT] at e1 ⊢
 rw [e1]
 exact hK
theorem Quq {f fLe : Nat} (A : Qxt P ρ fT fL fR fS g0 fW fX fB) (b : Body P f 17 [] (Zn fLe fW fX)) (hLe : Xd P fLe)
  {ob : List Ob} {p o tB n : Nat} {lr : Int} {s pre : List UInt8} (hp : ob[p]? = some (ZI tB (.own o pre.length) lr)) (ho : ob[o]? = some ⟨ρ.t 5, 1, pre.length, u8 pre, 0⟩) (hpo : p ≠ o) (h0 : 0 < pre.length) (hl : pre.length + s.length ≤ 140737488355320) (hn : n < 4294967296)
  {K : AV → List Ob → Prop} (hK : K (.tup []) (QZ ob o p ⟨ρ.t 5, 1, (pre ++ s ++ leB n 4).length, u8 (pre ++ s ++ leB n 4), 0⟩ (ZI tB (.own o (pre ++ s ++ leB n 4).length) 0))) : ACall P f [.str s, .int .i64 n, .ref p 1 0] ob K := by
 refine ACall.of_body b (by simp) ?_
 have hpl : p < ob.length := (List.getElem?_eq_some_iff.1 hp).1
 have hol : o < ob.length := (List.getElem?_eq_some_iff.1 ho).1
 simp (disch := omega) only [rq, simprocAttr, Zn]
 refine Qc.vc (hLe n 4 (by omega) (by omega) (by omega)) ?_
 simp (disch := omega) only [rq, simprocAttr, bs]
 refine QbG A.L A.B A.W hp ho (by rw [Qr]) hpo h0 (by omega) ?_
 simp (disch := omega) only [rq, simprocAttr, Qa]
 have hw := QdM (K := fun r ob' => wpQ P [] (QjI P [] K) ⟨Zr ([(15, .list 4 (u8 (leB n 4))), (14, .tup [.int .i64 s.length, .lit .nilIface]), (13, .str s), (6, .int .i64 0), (5, .list 4 (u8 (leB n 4))), (12, .int .i64 0), (11, .list 4 (u8 (leB n 4))), (7, .tup [.list 4 (u8 (leB n 4)), .int .i64 0]), (10, .tup [.list 4 (u8 (leB n 4)), .int .i64 0]), (9, .int .u64 n), (8, .int .i64 n), (0, .str s), (1, .int .i64 n), (2, .ref p 1 0)]) (some 16) r, ob'⟩)
  (ob := QZ ob o p ⟨ρ.t 5, 1, pre.length + s.length, u8 (pre ++ s), 0⟩ (ZI tB (.own o (pre.length + s.length)) 0)) (cs := u8 (pre ++ s)) (n := pre.length + s.length) A.L A.B A.X (s := leB n 4) (QcQ hpl) (QcR hol hpo) (by rw [Qr, List.length_append]) hpo (by omega) (by rw [Qa]; omega)
 rw [Qa] at hw
 simp only [QT] at hw ⊢
 refine hw ?_
 simp (disch := omega) only [rq, simprocAttr]
 have e1 : QZ (QZ ob o p ⟨ρ.t 5, 1, pre.length + s.length, u8 (pre ++ s), 0⟩ (ZI tB (.own o (pre.length + s.length)) 0)) o p ⟨ρ.t 5, 1, pre.length + s.length + 4, u8 (pre ++ s) ++ u8 (leB n 4), 0⟩ (ZI tB (.own o (pre.length + s.length + 4)) 0)
   = QZ ob o p ⟨ρ.t 5, 1, (pre ++ s ++ leB n 4).length, u8 (pre ++ s ++ leB n 4), 0⟩ (ZI tB (.own o (pre ++ s ++ leB n 4).length) 0) := by
  rw [show QZ (QZ ob o p ⟨ρ.t 5, 1, pre.length + s.length, u8 (pre ++ s), 0⟩ (ZI tB (.own o (pre.length + s.length)) 0)) o p ⟨ρ.t 5, 1, pre.length + s.length + 4, u8 (pre ++ s) ++ u8 (leB n 4), 0⟩ (ZI tB (.own o (pre.length + s.length + 4)) 0) = ((QZ ob o p ⟨ρ.t 5, 1, pre.length + s.length, u8 (pre ++ s), 0⟩ (ZI tB (.own o (pre.length + s.length)) 0)).set o ⟨ρ.t 5, 1, pre.length + s.length + 4, u8 (pre ++ s) ++ u8 (leB n 4), 0⟩).set p (ZI tB (.own o (pre.length + s.length + 4)) 0) from rfl, Qfp hpo, QcF, QT]
  simp only [List.length_append, Qa]
 simp only [QT] at e1
 rw [e1]
 exact hK
end
open Go.RowKit Go.Shelf Go.Proofs
theorem Qd6 (c : Ck) : (ckB c).length = c.1.length + c.2.length + c.2.length % 2 + 4 := by
 simp only [ckB, List.length_append, Qa, List.length_replicate]; omega
theorem QcK {l : List Ck} {k : Nat} (h : k < l.length) : (l.take (k + 1)).flatMap ckB = (l.take k).flatMap ckB ++ ckB l[k] := by
 rw [List.take_succ_eq_append_getElem h, List.flatMap_append]; simp
theorem Qoy {l : List Ck} (h : okL l) : ∀ k, k ≤ l.length → ((l.take k).flatMap ckB).length ≤ k * 100300
 | 0, _ => by simp
 | k + 1, hk => by
  have h1 := Qoy h k (by omega)
  obtain ⟨h2, h3⟩ := Qoj h (k := k) (by omega)
  rw [QcK (by omega), List.length_append, Qd6]
  omega
def QjE (form : List UInt8) (l : List Ck) (k : Nat) : List UInt8 := Je ++ leB (4 + szL l) 4 ++ form ++ (l.take k).flatMap ckB
theorem QtX {form : List UInt8} {l : List Ck} (k : Nat) : (QjE form l k).length = 8 + form.length + ((l.take k).flatMap ckB).length := by
 simp only [QjE, List.length_append, Qa, Je, List.length_cons, List.length_nil]
def Qg4 (form : List UInt8) (l : List Ck) : AV := if ZE form l = 0 then .tup [bs (Xv form l), .int .i64 0] else .tup [bs [], .int .i64 (ZE form l)]
theorem QrI (form : List UInt8) (l : List Ck) : isD (Qg4 form l) = true := by
 unfold Qg4; split <;> simp [isD, isDL, QR]
def QnH (P : Prg) (f : Nat) : Prop := ∀ (form : List UInt8) (l : List Ck), form.length ≤ 20 → okL l → VC P f [.str form, .list l.length (ckL l)] (Qg4 form l)
theorem Qye (k : Nat) : Qe [AV.int .u8 0] k = u8 (List.replicate k 0) := by
 induction k with
 | zero => rfl
 | succ k ih => simp [Qe, ih, List.replicate_succ, u8]
set_option maxHeartbeats 1000000 in
theorem Qpe {P : Prg} {ρ : Ren} {fT fL fR fS g0 fW fX fB f fC f1 fZ fLe t0 t1 t2 : Nat} (A : Qxt P ρ fT fL fR fS g0 fW fX fB) (b : Body P f 48 [.tmp 4, .tmp 5] (Qbi fC f1 fZ fW fX fB t0 t1 t2))
  (hC : QnR P fC) (b1 : Body P f1 17 [] (Zn fLe fW fX)) (hLe : Xd P fLe) (hZ : QoM P fZ 4) : QnH P f := by
 intro form l hf hl
 refine VC.of_walk 1 (by simp [isDL, isD, Qa7]) (QrI _ _) (ACall.of_body b (by simp) ?_)
 have h25 := hl.1
 have hsz := QuZ hl
 simp (disch := omega) only [rq, simprocAttr, Qbi]
 refine Qc.vc (hC form l hf hl) ?_
 by_cases h0 : ZE form l = 0
 ·simp only [Qg4, if_pos h0]
  rw [h0]
  simp (disch := omega) only [rq, simprocAttr]
  refine Qc.vc (hZ l hl) ?_
  simp (disch := omega) only [rq, simprocAttr]
  have e0 : ([82, 73, 70, 70] : List UInt8) = Je := rfl
  rw [e0]
  refine Qur A b1 hLe (ob := [ZI t0 (.emp true) 0]) rfl (by decide) (by decide) (n := 4 + szL l) (by omega) ?_
  simp (disch := omega) only [rq, simprocAttr, ZI]
  have e1 : Je.length + 4 = (Je ++ leB (4 + szL l) 4).length := by rw [List.length_append, Qa]
  rw [e1]
  refine QbG (cs := u8 (Je ++ leB (4 + szL l) 4)) (o := 1) A.L A.B A.W rfl rfl (Qr _) (by decide) (by rw [List.length_append, Qa]; omega) (by rw [List.length_append, Qa]; simp [Je]; omega) ?_
  simp only [QZ, ZI, List.set_cons_succ, List.set_cons_zero, QT]
  rw [← List.length_append]
  simp (disch := omega) only [rq, simprocAttr]
  have p0 : Je ++ leB (4 + szL l) 4 ++ form = QjE form l 0 := by simp [QjE]
  have p1 : Je.length + (leB (4 + szL l) 4).length + form.length = (QjE form l 0).length := by rw [← p0]; simp only [List.length_append]
  rw [p0, p1]
  refine QL.by (ι := Nat) (fun k => ⟨[(26, .int .i64 k), (25, .int .i64 l.length), (24, .list l.length (ckL l)), (8, .fn (.func f1) [] [.ref 0 1 0]), (7, .ref 0 1 0)],
    [⟨t0, 3, 1, [.own 1 (QjE form l k).length, .int .i64 0, .int .i8 0], 0⟩, ⟨ρ.t 5, 1, (QjE form l k).length, u8 (QjE form l k), 0⟩]⟩) (fun k => k ≤ l.length) (fun k => l.length - k) 0
    (Le.slots (by simp [Am.look])) (by omega) ?_
  intro k hk
  have hpl := QtX (form := form) (l := l) k
  have hfl := Qoy hl k hk
  by_cases hlt : k < l.length
  ·obtain ⟨o1, o2⟩ := Qoj hl hlt
   have d1 := Qco hlt
   have d2 := Xq l
   have d3 := QoL (n := (l[k]).2.length) (by omega)
   simp (disch := omega) only [rq, simprocAttr, d1, d2, bs]
   refine Quq A b1 hLe (ob := _) (p := 0) (o := 1) (tB := t0) (lr := 0) (n := (l[k]).2.length) (s := (l[k]).1) (pre := QjE form l k) rfl rfl (by decide) (by omega) (by omega) (by omega) ?_
   simp only [QZ, ZI, List.set_cons_succ, List.set_cons_zero]
   generalize hq1 : QjE form l k ++ (l[k]).1 ++ leB (l[k]).2.length 4 = q1
   have hl1 : q1.length = (QjE form l k).length + (l[k]).1.length + 4 := by rw [← hq1]; simp only [List.length_append, Qa]
   simp (disch := omega) only [rq, simprocAttr]
   refine QdM (o := 1) (cs := u8 q1) A.L A.B A.X rfl rfl (Qr _) (by decide) (by omega) (by omega) ?_
   simp only [QZ, ZI, List.set_cons_succ, List.set_cons_zero, QT]
   rw [← List.length_append]
   generalize hq2 : q1 ++ (l[k]).2 = q2
   have hl2 : q2.length = q1.length + (l[k]).2.length := by rw [← hq2, List.length_append]
   have hm : (l[k]).2.length % 2 < 2 := Nat.mod_lt _ (by decide)
   simp (disch := omega) only [rq, simprocAttr, d3, Qye]
   have hw := fun (K : AV → List Ob → Prop) (hK : K _ _) => Qqi (K := K) (q := 3) (t := t2) (o := 1) (p := 0) (s := List.replicate ((l[k]).2.length % 2) 0) (cs := u8 q2) A.L A.B A.X
    (ob := [⟨t0, 3, 1, [.own 1 q2.length, .int .i64 0, .int .i8 0], 0⟩, ⟨ρ.t 5, 1, q2.length, u8 q2, 0⟩, ⟨t1, 2, 1, [.str (l[k]).1, .list (l[k]).2.length (u8 (l[k]).2)], 0⟩, ⟨t2, 1, (l[k]).2.length % 2, u8 (List.replicate ((l[k]).2.length % 2) 0), 0⟩])
    (n := q2.length) (tB := t0) (lr := 0) rfl rfl (Qr _) (by decide) (by omega) (by simp) (by decide) (by decide) (by rw [List.length_replicate]; omega) hK
   rw [List.length_replicate] at hw
   refine hw _ ?_
   simp only [QZ, ZI, List.set_cons_succ, List.set_cons_zero, QT]
   have e9 : q2 ++ List.replicate ((l[k]).2.length % 2) 0 = QjE form l (k + 1) := by
    rw [← hq2, ← hq1]
    simp only [QjE, QcK hlt, ckB, List.append_assoc]
   have e10 : q2.length + (l[k]).2.length % 2 = (QjE form l (k + 1)).length := by
    rw [← e9, List.length_append, List.length_replicate]
   rw [e9, e10]
   simp (disch := omega) only [rq, simprocAttr]
   refine ⟨k + 1, by omega, by omega, Le.drop 2 2 (by omega) rfl ?_ ?_⟩
   ·simp [Am.look, Qz, frzL, Qv, frzL_T _ (QbV l)]
   ·intro i y hy
    match i, hy with
    | 0, hy =>
     simp at hy
     subst hy
     exact ⟨[.own 1 (QjE form l (k + 1)).length, .int .i64 0, .int .i8 0], by simp, by simp [Qz, frzL, Qv]⟩
    | 1, hy =>
     simp at hy
     subst hy
     exact ⟨u8 (QjE form l (k + 1)), by simp, by simp only [Qz]; exact frzL_T _ (QC _)⟩
    | i + 2, hy => simp at hy
  ·have ek : k = l.length := by omega
   subst ek
   have e2 : QjE form l l.length = Xv form l := by simp only [QjE, Xv, List.take_length]
   rw [e2] at hpl ⊢
   simp (disch := omega) only [rq, simprocAttr]
   refine QsD A (o := 1) (n := (Xv form l).length) (cs := u8 (Xv form l)) rfl rfl (by omega) ?_
   simp (disch := omega) only [rq, simprocAttr]
   have n0 : (Xv form l).length ≠ 0 := by omega
   have n1 : (Xv form l).length ≠ 1 := by omega
   have e3 : (u8 (Xv form l)).take (Xv form l).length = u8 (Xv form l) := List.take_of_length_le (by rw [Qr]; exact Nat.le_refl _)
   simp [QO, Qz, frzL, Qv, n0, n1, e3, frzL_T _ (QC _), bs]
 ·simp only [Qg4, if_neg h0]
  simp (disch := omega) only [rq, simprocAttr]
  simp [QO, Qz, frzL, Qv, bs, Qep]
theorem Qik : ∀ (k n : Nat), n < 256 ^ k → leN (leB n k) = n
 | 0, n, h => by simp at h; subst h; rfl
 | k + 1, n, h => by
  have h1 : n / 256 < 256 ^ k := by rw [Nat.pow_succ] at h; exact Nat.div_lt_of_lt_mul (by omega)
  have h2 : (UInt8.ofNat (n % 256)).toNat = n % 256 := by simp
  simp only [leB, leN, Qik k _ h1, h2]
  omega
theorem QmE : ∀ l : List UInt8, leB (leN l) l.length = l
 | [] => rfl
 | b :: l => by
  have h1 := b.toNat_lt
  have e1 : (b.toNat + 256 * leN l) % 256 = b.toNat := by omega
  have e2 : (b.toNat + 256 * leN l) / 256 = leN l := by omega
  simp only [leN, List.length_cons, leB, e1, e2, QmE l]
  simp
theorem Qkv {s : List UInt8} (h : ZG s = true) : s.length = 4 := by
 simp only [ZG, Bool.and_eq_true, beq_iff_eq] at h; exact h.2
theorem QtZ {c : Ck} (hn : ZG c.1 = true) (hl : c.2.length < 4294967296) (r : List UInt8) : JR (ckB c ++ r) = some (c, r) := by
 have h4 := Qkv hn
 obtain ⟨s, d⟩ := c
 simp only at hn hl h4
 generalize hm : d.length = m at hl
 have hB := Qa 4 m
 have e0 : ckB (s, d) ++ r = s ++ (leB m 4 ++ (d ++ (List.replicate (m % 2) 0 ++ r))) := by simp [ckB, List.append_assoc, hm]
 rw [e0]
 have t1 : (s ++ (leB m 4 ++ (d ++ (List.replicate (m % 2) 0 ++ r)))).take 4 = s := List.take_left' h4
 have t2 : (s ++ (leB m 4 ++ (d ++ (List.replicate (m % 2) 0 ++ r)))).drop 4 = leB m 4 ++ (d ++ (List.replicate (m % 2) 0 ++ r)) := List.drop_left' h4
 have t3 : (leB m 4 ++ (d ++ (List.replicate (m % 2) 0 ++ r))).take 4 = leB m 4 := List.take_left' hB
 have t4 : (s ++ (leB m 4 ++ (d ++ (List.replicate (m % 2) 0 ++ r)))).drop 8 = d ++ (List.replicate (m % 2) 0 ++ r) := by
  rw [show 8 = 4 + 4 by rfl, ← List.drop_drop, t2, List.drop_left' hB]
 have t5 : ∀ j, (s ++ (leB m 4 ++ (d ++ (List.replicate (m % 2) 0 ++ r)))).drop (8 + m + j) = (List.replicate (m % 2) 0 ++ r).drop j := fun j => by
  rw [show 8 + m + j = 8 + (m + j) by omega, ← List.drop_drop, t4, ← List.drop_drop, List.drop_left' hm]
 have tl : (s ++ (leB m 4 ++ (d ++ (List.replicate (m % 2) 0 ++ r)))).length = 8 + m + (m % 2 + r.length) := by simp [hB, hm, h4]; omega
 unfold JR
 rw [t1, t2, t3, Qik 4 m (by omega), tl, t4]
 rw [if_neg (by rintro (h | h); omega; rw [hn] at h; cases h)]
 simp only
 rw [if_neg (by omega), List.take_left' hm]
 by_cases hodd : m % 2 = 1
 ·have g0 : (s ++ (leB m 4 ++ (d ++ (List.replicate (m % 2) 0 ++ r)))).getD (8 + m) 0 = 0 := by
   have := congrArg (·[0]?) (t5 0)
   simp only [List.getElem?_drop, Nat.add_zero, List.drop_zero] at this
   rw [List.getD_eq_getElem?_getD, this, hodd]
   rfl
  rw [if_pos hodd, if_neg (by rintro (h | h); omega; exact h g0), show 9 + m = 8 + m + 1 by omega, t5 1, hodd]
  rfl
 ·have h0 : m % 2 = 0 := by omega
  have := t5 0
  rw [Nat.add_zero] at this
  rw [if_neg hodd, this, h0]
  rfl
theorem Qry {l r : List UInt8} {c : Ck} (h : JR l = some (c, r)) : l = ckB c ++ r ∧ ZG c.1 = true ∧ c.2.length < 4294967296 := by
 unfold JR at h
 split at h
 ·cases h
 rename_i h0
 have h8 : 8 ≤ l.length := by
  rcases Nat.lt_or_ge l.length 8 with h' | h'
  ·exact absurd (.inl h') h0
  ·exact h'
 have hn : ZG (l.take 4) = true := by
  cases hb : ZG (l.take 4) with
  | true => rfl
  | false => exact absurd (.inr hb) h0
 simp only at h
 generalize hm : leN ((l.drop 4).take 4) = m at h
 have hB : (l.drop 4).take 4 = leB m 4 := by
  have := QmE ((l.drop 4).take 4)
  rw [hm, QbU (by omega)] at this
  exact this.symm
 have hm4 : m < 4294967296 := by
  have := Qev ((l.drop 4).take 4)
  rw [hm, QbU (by omega)] at this
  exact this
 split at h
 ·cases h
 rename_i hs
 have d1 : ((l.drop 8).take m).length = m := by simp; omega
 have key : l = l.take 4 ++ ((l.drop 4).take 4 ++ ((l.drop 8).take m ++ l.drop (8 + m))) := by
  conv => lhs; rw [← List.take_append_drop 4 l]
  congr 1
  conv => lhs; rw [← List.take_append_drop 4 (l.drop 4)]
  congr 1
  rw [List.drop_drop]
  conv => lhs; rw [← List.take_append_drop m (l.drop 8)]
  congr 1
  rw [List.drop_drop]
 split at h
 ·rename_i hodd
  split at h
  ·cases h
  rename_i hz
  cases h
  refine ⟨?_, hn, by simp only [d1]; exact hm4⟩
  have hlen : 8 + m < l.length := by
   rcases Nat.lt_or_ge (8 + m) l.length with h' | h'
   ·exact h'
   ·exact absurd (.inl (by omega)) hz
  have hz0 : l[8 + m] = 0 := by
   by_cases h' : l.getD (8 + m) 0 = 0
   ·rwa [List.getD_eq_getElem?_getD, List.getElem?_eq_getElem hlen] at h'
   ·exact absurd (.inr h') hz
  have e : l.drop (8 + m) = 0 :: l.drop (9 + m) := by
   rw [List.drop_eq_getElem_cons hlen, hz0, show 8 + m + 1 = 9 + m by omega]
  simp only [ckB, d1, hodd]
  rw [e, hB] at key
  simpa [List.append_assoc] using key
 ·rename_i hodd
  cases h
  refine ⟨?_, hn, by simp only [d1]; exact hm4⟩
  have h0 : m % 2 = 0 := by omega
  simp only [ckB, d1, h0]
  rw [hB] at key
  simpa [List.append_assoc] using key
def Quu (l : List Ck) : Prop := ∀ c ∈ l, ZG c.1 = true ∧ c.2.length < 4294967296
theorem Qez : ∀ (l : List Ck) (k : Nat) (out : List Ck), Quu l → out.length + l.length ≤ 20 → l.length < k → Z3 k out (l.flatMap ckB) = .inr (out ++ l)
 | [], k + 1, out, _, _, _ => by simp [Z3]
 | c :: l, k + 1, out, hg, h20, hk => by
  obtain ⟨h1, h2⟩ := hg c (by simp)
  have h4 := Qkv h1
  have hne : ckB c ++ l.flatMap ckB ≠ [] := by
   intro h
   have := congrArg List.length h
   rw [List.length_append, Qd6] at this
   simp at this
   try omega
  simp only [List.flatMap_cons, Z3, if_neg hne]
  simp only [List.length_cons] at h20
  rw [if_neg (by omega), QtZ h1 h2]
  simp only
  rw [Qez l k (out ++ [c]) (fun x hx => hg x (by simp [hx])) (by simp; omega) (by simp at hk; omega)]
  simp
theorem QfS : ∀ (k : Nat) (out : List Ck) (rest : List UInt8) (r : List Ck), Z3 k out rest = .inr r → out.length ≤ 20 → ∃ l, r = out ++ l ∧ rest = l.flatMap ckB ∧ Quu l ∧ r.length ≤ 20
 | 0, _, _, _, h, _ => by simp [Z3] at h
 | k + 1, out, rest, r, h, hl => by
  simp only [Z3] at h
  split at h
  ·rename_i he
   cases h
   exact ⟨[], by simp, by simp [he], (fun x hx => by cases hx), hl⟩
  ·split at h
   ·cases h
   rename_i h20
   split at h
   ·cases h
   ·rename_i c left hnx
    obtain ⟨e1, e2, e3⟩ := Qry hnx
    obtain ⟨l, q1, q2, q3, q4⟩ := QfS k _ _ _ h (by simp; omega)
    refine ⟨c :: l, by rw [q1]; simp, by rw [e1, q2]; simp, fun x hx => ?_, q4⟩
    rcases List.mem_cons.1 hx with rfl | hx
    ·exact ⟨e2, e3⟩
    ·exact q3 x hx
theorem Qir : ∀ {l : List Ck}, (∀ c ∈ l, c.1.length = 4) → (l.flatMap ckB).length = szL l
 | [], _ => rfl
 | c :: l, h => by
  have h1 := h c (by simp)
  have h2 := Qir (l := l) fun x hx => h x (by simp [hx])
  have h3 : szL (c :: l) = szC c + szL l := by simp [szL]
  simp only [List.flatMap_cons, List.length_append, Qd6, h2, h3, szC]
  omega
theorem QqE : ∀ {l : List Ck} {c : Ck}, c ∈ l → szC c ≤ szL l
 | x :: l, c, h => by
  have e : szL (x :: l) = szC x + szL l := by simp [szL]
  rcases List.mem_cons.1 h with rfl | h
  ·omega
  ·have := QqE h; omega
theorem Qu3 : ∀ l : List Ck, l.length * 8 ≤ szL l
 | [] => by simp [szL]
 | x :: l => by
  have e : szL (x :: l) = szC x + szL l := by simp [szL]
  have := Qu3 l
  simp only [List.length_cons, e, szC]
  omega
theorem QdB {form : List UInt8} {l : List Ck} (hf : form.length = 4) (hl : ∀ c ∈ l, c.1.length = 4) : (Xv form l).length = 12 + szL l := by
 simp only [Xv, List.length_append, Qa, Qir hl, Je, List.length_cons, List.length_nil, hf]
theorem Qic {form : List UInt8} {l : List Ck} (h0 : ZE form l = 0) (x : List UInt8) (hsz : 12 + szL l ≤ 100000) :
  XN (Xv form l ++ x) = if x = [] then .inr (form, l) else .inl 38 := by
 have hc : l.length ≤ 20 ∧ ZG form = true ∧ ∀ c ∈ l, ZG c.1 = true := by
  unfold ZE at h0
  split at h0
  ·cases h0
  ·rename_i h20
   split at h0
   ·cases h0
   ·rename_i hn
    refine ⟨by omega, ?_, fun c hc => ?_⟩
    ·cases hb : ZG form with
     | true => rfl
     | false => exact absurd (.inl hb) hn
    ·cases hb : ZG c.1 with
     | true => rfl
     | false => exact absurd (.inr (.inr (List.any_eq_true.2 ⟨c, hc, by simp [hb]⟩))) hn
 obtain ⟨h20, hf, hns⟩ := hc
 have hf4 := Qkv hf
 have hg : Quu l := fun c hc => ⟨hns c hc, by
  have : szC c ≤ szL l := by
   exact QqE hc
  simp only [szC] at this
  omega⟩
 have hbl := QdB hf4 fun c hc => Qkv (hns c hc)
 have hfl := Qir (l := l) fun c hc => Qkv (hns c hc)
 have hm4 : 4 + szL l < 256 ^ 4 := by omega
 generalize hm : 4 + szL l = m at hm4
 have e0 : Xv form l ++ x = Je ++ (leB m 4 ++ (form ++ (l.flatMap ckB ++ x))) := by simp [Xv, List.append_assoc, hm]
 have hB := Qa 4 m
 have r4 : Je.length = 4 := rfl
 have t1 : (Je ++ (leB m 4 ++ (form ++ (l.flatMap ckB ++ x)))).take 4 = Je := List.take_left' r4
 have t2 : (Je ++ (leB m 4 ++ (form ++ (l.flatMap ckB ++ x)))).drop 4 = leB m 4 ++ (form ++ (l.flatMap ckB ++ x)) := List.drop_left' r4
 have t3 : (leB m 4 ++ (form ++ (l.flatMap ckB ++ x))).take 4 = leB m 4 := List.take_left' hB
 have t4 : (Je ++ (leB m 4 ++ (form ++ (l.flatMap ckB ++ x)))).drop 8 = form ++ (l.flatMap ckB ++ x) := by
  rw [show 8 = 4 + 4 by rfl, ← List.drop_drop, t2, List.drop_left' hB]
 have t5 : (Je ++ (leB m 4 ++ (form ++ (l.flatMap ckB ++ x)))).drop 12 = l.flatMap ckB ++ x := by
  rw [show 12 = 8 + 4 by rfl, ← List.drop_drop, t4, List.drop_left' hf4]
 have t6 : (form ++ (l.flatMap ckB ++ x)).take 4 = form := List.take_left' hf4
 have t7 : (l.flatMap ckB ++ x).take (m - 4) = l.flatMap ckB := List.take_left' (by omega)
 have tl : (Je ++ (leB m 4 ++ (form ++ (l.flatMap ckB ++ x)))).length = m + 8 + x.length := by simp [hB, r4, hf4, hfl]; omega
 rw [e0]
 unfold XN
 rw [tl, t1, t2, t3, t4, t5, t6, Qik 4 m hm4]
 rw [if_neg (by omega)]
 simp only
 rw [if_neg (by rintro (h | h | h); exact h rfl; rw [hf] at h; cases h; omega), if_neg (by omega), if_neg (by omega)]
 rw [t7, Qez l (m + 1) [] hg (by simp; omega) (by have := Qu3 l; omega)]
 simp only [List.nil_append]
 by_cases hx : x = []
 ·subst hx; simp
 ·have : 0 < x.length := List.length_pos_iff.2 hx
  rw [if_pos (by omega), if_neg hx]
theorem Qpm {b form : List UInt8} {l : List Ck} (h : XN b = .inr (form, l)) : Xv form l = b ∧ ZE form l = 0 ∧ l.length ≤ 20 ∧ Quu l ∧ 12 + szL l = b.length ∧ b.length ≤ 100000 ∧ form.length = 4 ∧ 12 ≤ b.length ∧ leN ((b.drop 4).take 4) + 8 = b.length := by
 unfold XN at h
 split at h
 ·cases h
 rename_i h12
 simp only at h
 generalize hm : leN ((b.drop 4).take 4) = m at h
 generalize hfm : (b.drop 8).take 4 = fm at h
 split at h
 ·cases h
 rename_i hc
 split at h
 ·cases h
 rename_i hbig
 split at h
 ·cases h
 rename_i hsh
 have hr : b.take 4 = Je := Classical.not_not.1 fun h' => hc (.inl h')
 have hf : ZG fm = true := by
  cases hb : ZG fm with
  | true => rfl
  | false => exact absurd (.inr (.inl hb)) hc
 have hm4 : ¬ m < 4 := fun h' => hc (.inr (.inr h'))
 split at h
 ·cases h
 rename_i out hout
 split at h
 ·cases h
 rename_i hmore
 cases h
 obtain ⟨l', q1, q2, q3, q4⟩ := QfS _ _ _ _ hout (by simp)
 simp only [List.nil_append] at q1
 subst q1
 have hlen : b.length = m + 8 := by omega
 have hf4 := Qkv hf
 have q5 : (b.drop 12).take (m - 4) = b.drop 12 := List.take_of_length_le (by simp; omega)
 rw [q5] at q2
 have hns : ∀ c ∈ l, c.1.length = 4 := fun c hc => Qkv (q3 c hc).1
 have hfl := Qir hns
 have hsz : 4 + szL l = m := by
  have := congrArg List.length q2
  rw [hfl, List.length_drop] at this
  omega
 have hB : (b.drop 4).take 4 = leB m 4 := by
  have := QmE ((b.drop 4).take 4)
  rw [hm, QbU (by omega)] at this
  exact this.symm
 have key : b = b.take 4 ++ ((b.drop 4).take 4 ++ ((b.drop 8).take 4 ++ b.drop 12)) := by
  conv => lhs; rw [← List.take_append_drop 4 b]
  congr 1
  conv => lhs; rw [← List.take_append_drop 4 (b.drop 4)]
  congr 1
  rw [List.drop_drop]
  conv => lhs; rw [← List.take_append_drop 4 (b.drop 8)]
  congr 1
  rw [List.drop_drop]
 refine ⟨?_, ?_, q4, q3, by omega, by omega, hf4, by omega, by omega⟩
 ·rw [hr, hB, hfm, q2] at key
  rw [key, Xv, hsz]
  simp [List.append_assoc]
 ·unfold ZE
  rw [if_neg (by omega), if_neg]
  rintro (h' | h' | h')
  ·rw [hf] at h'; cases h'
  ·omega
  ·obtain ⟨c, hc, hcn⟩ := List.any_eq_true.1 h'
   rw [(q3 c hc).1] at hcn
   cases hcn
theorem Qht : ∀ (k : Nat) (out : List Ck) (rest : List UInt8), rest.length < k → Z3 k out rest ≠ .inl 0
 | 0, _, _, h => by omega
 | k + 1, out, rest, hk => by
  simp only [Z3]
  split
  ·intro h; cases h
  ·split
   ·intro h; cases h
   ·split
    ·intro h; cases h
    ·rename_i c left hnx
     have := (Qol hnx).1
     exact Qht k _ _ (by omega)
theorem Qkm {b : List UInt8} {e : Nat} (h : XN b = .inl e) : e ≠ 0 := by
 unfold XN at h
 split at h
 ·cases h; omega
 simp only at h
 split at h
 ·cases h; omega
 split at h
 ·cases h; omega
 split at h
 ·cases h; omega
 split at h
 ·rename_i e' he
  cases h
  intro h0
  subst h0
  exact Qht _ _ _ (by simp; omega) he
 ·split at h
  ·cases h; omega
  ·cases h
theorem Qk2 {form : List UInt8} {l : List Ck} (h : ZE form l = 0) : 12 + szL l ≤ 100000 ∧ l.length ≤ 20 := by
 unfold ZE at h
 split at h
 ·cases h
 ·split at h
  ·cases h
  ·rename_i h2
   generalize szL l = s at *
   exact ⟨by
    rcases Nat.lt_or_ge 100000 (12 + s) with h' | h'
    ·exact absurd (.inr (.inl h')) h2
    ·exact h', by omega⟩
theorem Qk3 {form : List UInt8} {l : List Ck} (h0 : ZE form l = 0) : ZG form = true ∧ ∀ c ∈ l, ZG c.1 = true := by
 unfold ZE at h0
 split at h0
 ·cases h0
 ·split at h0
  ·cases h0
  ·rename_i hn
   refine ⟨?_, fun c hc => ?_⟩
   ·cases hb : ZG form with
    | true => rfl
    | false => exact absurd (.inl hb) hn
   ·cases hb : ZG c.1 with
    | true => rfl
    | false => exact absurd (.inr (.inr (List.any_eq_true.2 ⟨c, hc, by simp [hb]⟩))) hn
def JN (c b r : Int) : Prop := 1 ≤ c ∧ c ≤ 6 ∧ ZL b ≠ 0 ∧ 1 ≤ r ∧ r ≤ 1048576
instance (c b r : Int) : Decidable (JN c b r) := by unfold JN; exact inferInstance
def QuK (c b r : Int) : Int := if JN c b r then 0 else 8
def QbQ (c b r : Int) : AV := .agg [.int .i64 c, .int .i64 b, .int .i64 r]
def QeK : List UInt8 := [1, 0, 0, 0, 0, 0, 16, 0, 128, 0, 0, 170, 0, 56, 155, 113]
def J0 : List Nat := [2, 2, 4, 4, 2, 2, 2, 2, 4]
def QnZ (c b r tag m : Nat) : List Nat := [tag, c, r, r * (c * b / 8), c * b / 8, b, 22, b, m]
def QgE (l : List (Nat × Nat)) : List UInt8 := l.flatMap fun p => leB p.1 p.2
def Qad (c b r tag : Nat) : List UInt8 := leB tag 2 ++ leB c 2 ++ leB r 4 ++ leB (r * (c * b / 8)) 4 ++ leB (c * b / 8) 2 ++ leB b 2
def Qpq (c b r m : Nat) : List UInt8 := Qad c b r 65534 ++ leB 22 2 ++ leB b 2 ++ leB m 4 ++ QeK
def ZM (c b r : Nat) (wide : Bool) (m : Nat) : List UInt8 := if wide then Qpq c b r m else Qad c b r 1
theorem Qrn (c b r : Nat) (wide : Bool) (m : Nat) : ZM c b r wide m = QgE (((QnZ c b r (if wide then 65534 else 1) m).zip J0).take (if wide then 9 else 6)) ++ (if wide then QeK else []) := by
 cases wide <;> simp [ZM, Qpq, Qad, QgE, QnZ, J0]
def XF : List AV := [.int .i64 2, .int .i64 2, .int .i64 4, .int .i64 4, .int .i64 2, .int .i64 2, .int .i64 2, .int .i64 2, .int .i64 4]
def QmO : List AV := [.int .u8 1, .int .u8 0, .int .u8 0, .int .u8 0, .int .u8 0, .int .u8 0, .int .u8 16, .int .u8 0, .int .u8 128, .int .u8 0, .int .u8 0, .int .u8 170, .int .u8 0, .int .u8 56, .int .u8 155, .int .u8 113]
theorem Qqm : XF = ks .i64 (J0.map fun n : Nat => (n : Int)) := by simp [XF, J0, ks]
theorem Qus : QmO = u8 QeK := by simp [QmO, QeK, u8]
def Qfb (P : Prg) (f : Nat) : Prop := ∀ c b r : Int, VC P f [QbQ c b r] (.int .i64 (QuK c b r))
theorem Qas (b : Int) : ZL b ≠ 0 ↔ b = 8 ∨ b = 16 ∨ b = 24 := by
 rcases Q1 b with ⟨rfl, h⟩ | ⟨rfl, h⟩ | ⟨rfl, h⟩ | ⟨h1, h2, h3, h⟩ <;> simp [h] <;> omega
theorem QrZ {P : Prg} {f t0 : Nat} (b : Body P f 27 [.tmp 2] (Qu t0)) : Qfb P f := by
 intro c x r
 refine VC.of_acall rfl rfl (ACall.of_body b (by simp) ?_)
 by_cases h : JN c x r
 ·obtain ⟨h1, h2, h3, h4, h5⟩ := h
  have e : QuK c x r = 0 := by simp [QuK, JN, h1, h2, h3, h4, h5]
  rw [e]
  rcases (Qas x).1 h3 with rfl | rfl | rfl
  ·simp (disch := omega) only [rq, simprocAttr, Qu, QbQ]
  ·simp (disch := omega) only [rq, simprocAttr, Qu, QbQ]
  ·simp (disch := omega) only [rq, simprocAttr, Qu, QbQ]
 ·have e : QuK c x r = 8 := by simp [QuK, h]
  rw [e]
  by_cases h1 : c < 1
  ·simp (disch := omega) only [rq, simprocAttr, Qu, QbQ]
  by_cases h2 : 6 < c
  ·simp (disch := omega) only [rq, simprocAttr, Qu, QbQ]
  by_cases h3 : r < 1
  ·simp (disch := omega) only [rq, simprocAttr, Qu, QbQ]
  by_cases h4 : 1048576 < r
  ·simp (disch := omega) only [rq, simprocAttr, Qu, QbQ]
  have h5 : ¬ ZL x ≠ 0 := fun h5 => h ⟨by omega, by omega, h5, by omega, by omega⟩
  rw [Qas] at h5
  by_cases h6 : x = 8
  ·omega
  by_cases h7 : x = 16
  ·omega
  by_cases h8 : x = 24
  ·omega
  simp (disch := omega) only [rq, simprocAttr, Qu, QbQ]
def QdC (c b : Int) : Bool := decide (2 < c) || decide (16 < b)
def QnK (P : Prg) (f : Nat) : Prop := ∀ c b r : Int, VC P f [QbQ c b r] (if JN c b r then .tup [.bool (QdC c b), .int .i64 0] else .tup [.bool false, .int .i64 8])
theorem Quz {P : Prg} {f fC t0 : Nat} (b : Body P f 18 [.tmp 2, .tmp 3] (Jj fC t0)) (hC : Qfb P fC) : QnK P f := by
 intro c x r
 refine VC.of_acall rfl (by split <;> rfl) (ACall.of_body b (by simp) ?_)
 have hC' := hC c x r
 rw [QbQ] at hC'
 simp (disch := omega) only [rq, simprocAttr, Jj, QbQ]
 refine Qc.vc hC' ?_
 by_cases h : JN c x r
 ·simp only [QuK, if_pos h]
  by_cases h2 : 2 < c
  ·have e : QdC c x = true := by simp [QdC, h2]
   simp (disch := omega) only [rq, simprocAttr, e]
  ·by_cases h3 : 16 < x
   ·have e : QdC c x = true := by simp [QdC, h3]
    simp (disch := omega) only [rq, simprocAttr, e]
   ·have e : QdC c x = false := by simp [QdC, h2, h3]
    simp (disch := omega) only [rq, simprocAttr, e]
 ·simp only [QuK, if_neg h]
  simp (disch := omega) only [rq, simprocAttr]
end Go.Am
