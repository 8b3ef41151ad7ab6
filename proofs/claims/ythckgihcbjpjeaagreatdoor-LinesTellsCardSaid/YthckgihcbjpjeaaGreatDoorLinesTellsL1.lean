/- What the functions that the law reaches return, for every program that has their code; the conditions stand in each statement. -/
import Derived.Lib.ItoaLen
import Derived.Test.YthckgihcbjpjeaaGreatDoorLinesTellsD1
set_option linter.unusedSectionVars false
set_option linter.unusedSimpArgs false
set_option linter.unusedVariables false
namespace Go.Am
open Go.RowKit
def leN : List UInt8 → Nat
 | [] => 0
 | b :: l => b.toNat + 256 * leN l
theorem Qhu : ∀ l : List UInt8, leN l < 2 ^ (8 * l.length)
 | [] => by simp [leN]
 | b :: l => by
  have h1 := Qhu l
  have h2 := b.toNat_lt
  have h3 : 2 ^ (8 * (b :: l).length) = 256 * 2 ^ (8 * l.length) := by
   rw [qV, jB, qZ, qE]
  rw [h3]
  simp only [leN]
  omega
theorem QkK : ∀ (a b : List UInt8), leN (a ++ b) = leN a + 2 ^ (8 * a.length) * leN b
 | [], b => by simp [leN]
 | x :: a, b => by
  have h3 : 2 ^ (8 * (x :: a).length) = 256 * 2 ^ (8 * a.length) := by
   rw [qV, jB, qZ, qE]
  rw [h3]
  simp only [yk, leN, QkK a b, jB, jw]
  omega
theorem QsV {l : List UInt8} (h : l.length ≤ 8) : leN l < 18446744073709551616 := by
 have h1 := Qhu l
 have h2 : 2 ^ (8 * l.length) ≤ 2 ^ 64 := qq (by omega) (by omega)
 omega
theorem Qzb {l : List UInt8} {k : Nat} (h : k < l.length) : leN (l.take (k + 1)) = leN (l.take k) + l[k].toNat * 2 ^ (8 * k) := by
 rw [qm h, QkK]
 simp [leN, qA (Nat.le_of_lt h), qE]
def Qd9 (P : Prg) (f : Nat) : Prop := ∀ l : List UInt8, 1 ≤ l.length → l.length ≤ 8 → VC P f [bs l] (.tup [.int .u64 (leN l), .int .i64 0])
set_option maxRecDepth 10000 in
theorem Qy9 {P : Prg} {f : Nat} (b : Qf P f 31 [.tmp 2, .tmp 3] QfG) : Qd9 P f := by
 intro l h1 h2
 refine Qn (by simp [isDL, Qr]) rfl b ?_
 have d1 : ¬ ((l.length : Int) < 1) := by omega
 have d2 : ¬ ((8 : Int) < l.length) := by omega
 simp only [rv, okW, QK, aop, cV, cV1, AV.one, Qs, JM, Qo, Qj, ZB, QfY, app, jm, y7, yf, yl, yM, simprocAttr, QfG, bs, d1, d2]
 refine Qg (ι := Nat) (fun k => ⟨[(17, .int .i64 k), (16, .int .i64 l.length), (15, .list l.length (u8 l)), (4, .int .u64 (leN (l.take k)))], []⟩) (fun k => k ≤ l.length) (fun k => l.length - k) 0 (Qk (by simp [Am.look, leN])) (by omega) ?_
 intro k hk
 by_cases hlt : k < l.length
 ·have e1 : (k : Int) < l.length := by omega
  have e2 : (0 : Int) ≤ k := by omega
  have e4 := Qxi hlt
  have e5 : IntKind.u64.wrap ((l[k].toNat : Nat) : Int) = (l[k].toNat : Nat) := Qa5 (by omega) (by have := l[k].toNat_lt; omega)
  have e6 : IntKind.i64.wrap (8 * (k : Int)) = (8 * k : Nat) := by rw [ZT] <;> omega
  have e7 : Qu true .u64 ((l[k].toNat : Nat) : Int) ((8 * k : Nat) : Int) = some (.int .u64 ((l[k].toNat * 2 ^ (8 * k) : Nat) : Int)) := Qv3 (by omega) (by
   have h1 := l[k].toNat_lt
   have h2 : 2 ^ (8 * k) ≤ 2 ^ 56 := qq (by omega) (by omega)
   calc l[k].toNat * 2 ^ (8 * k) ≤ 255 * 2 ^ 56 := jM (by omega) h2
    _ < _ := by omega)
  have e8 : leN (l.take (k + 1)) < 18446744073709551616 := QsV (by simp; omega)
  have e9 := Qzb hlt
  have e10 : leN (l.take k) < 2 ^ (8 * k) := by have := Qhu (l.take k); rwa [qh, qA hk] at this
  have e11 : IntKind.u64.wrap (BitVec.ofInt IntKind.u64.bits (leN (l.take k) : Nat) ||| BitVec.ofInt IntKind.u64.bits (l[k].toNat * 2 ^ (8 * k) : Nat)).toNat = (leN (l.take (k + 1)) : Nat) := by
   rw [QzV _ _ (by omega) (by omega), QoW e10, e9]
  have e12 : IntKind.i64.wrap ((k : Int) + 1) = ((k + 1 : Nat) : Int) := by rw [ZT] <;> omega
  simp only [rv, okW, QK, aop, cV, cV1, AV.one, Qs, JM, Qo, Qj, ZB, QfY, app, jm, y7, yf, yl, yM, simprocAttr, e1, e2, hlt, e4, e5, e6, e7, e11, e12]
  exact ⟨k + 1, by omega, by omega, Qh⟩
 ·have e1 : ¬ (k : Int) < l.length := by omega
  have e2 : k = l.length := by omega
  subst e2
  simp only [rv, okW, QK, aop, cV, cV1, AV.one, Qs, JM, Qo, Qj, ZB, QfY, app, jm, y7, yf, yl, yM, simprocAttr, e1, qW]
def Qja (P : Prg) (f : Nat) : Prop := ∀ (l : List UInt8) (a w : Nat), l.length < 4611686018427387904 → 1 ≤ w → w ≤ 8 → a < 4611686018427387904 →
 VC P f [bs l, .int .i64 a, .int .i64 w] (if a + w ≤ l.length then .tup [.int .u64 (leN ((l.drop a).take w)), .int .i64 0] else .tup [.int .u64 0, .int .i64 24])
set_option maxRecDepth 10000 in
theorem QDn {P : Prg} {f g : Nat} (b : Qf P f 33 [.tmp 6, .tmp 7] (Qh9 g)) (hg : Qd9 P g) : Qja P f := by
 intro l a w hl h1 h2 ha
 have d1 : ¬ ((w : Int) < 1) := by omega
 have d2 : ¬ ((8 : Int) < w) := by omega
 have d3 : ¬ ((a : Int) < 0) := by omega
 have d4 : IntKind.i64.wrap ((l.length : Int) - w) = (l.length : Int) - w := by rw [ZT] <;> omega
 have d5 : IntKind.i64.wrap ((a : Int) + w) = (a : Int) + w := by rw [ZT] <;> omega
 by_cases hle : a + w ≤ l.length
 ·rw [qc hle]
  refine Qn (by simp [isDL, Qr, isD]) rfl b ?_
  have d6 : ¬ ((l.length : Int) - w < a) := by omega
  have d7 := QBZ (ob := []) (l := l) (a := a) (b := (a : Int) + w) (i := a) (j := a + w) rfl (by omega) (by omega) hle
  simp only [rv, okW, QK, aop, cV, cV1, AV.one, Qs, JM, Qo, Qj, ZB, QfY, app, jm, y7, yf, yl, yM, simprocAttr, Qh9, bs, d1, d2, d3, d4, d5, d6, d7]
  have hlen : ((l.drop a).take w).length = w := by simp; omega
  have e : a + w - a = w := by omega
  rw [e]
  have := hg ((l.drop a).take w) (by omega) (by omega)
  rw [bs, hlen] at this
  refine Qa this ?_
  simp only [rv, okW, QK, aop, cV, cV1, AV.one, Qs, JM, Qo, Qj, ZB, QfY, app, jm, y7, yf, yl, yM, simprocAttr]
 ·rw [qa hle]
  refine Qn (by simp [isDL, Qr, isD]) rfl b ?_
  have d6 : ((l.length : Int) - w < a) := by omega
  simp only [rv, okW, QK, aop, cV, cV1, AV.one, Qs, JM, Qo, Qj, ZB, QfY, app, jm, y7, yf, yl, yM, simprocAttr, Qh9, bs, d1, d2, d3, d4, d6]
def Qcn (P : Prg) (f : Nat) : Prop := ∀ l : List UInt8, l.length ≤ 8 → VC P f [bs l] (.int .u64 (leN l))
theorem Qzc {l : List UInt8} {k : Nat} (h : k < l.length) : leN (l.drop k) = l[k].toNat + 256 * leN (l.drop (k + 1)) := by
 rw [qF h]; rfl
set_option maxRecDepth 10000 in
theorem Qy1 {P : Prg} {f : Nat} (b : Qf P f 21 [.tmp 2] Qam) : Qcn P f := by
 intro l hl
 refine Qn (by simp [isDL, Qr]) rfl b ?_
 have d1 : IntKind.i64.wrap ((l.length : Int) - 1) = (l.length : Int) - 1 := by rw [ZT] <;> omega
 simp only [rv, okW, QK, aop, cV, cV1, AV.one, Qs, JM, Qo, Qj, ZB, QfY, app, jm, y7, yf, yl, yM, simprocAttr, Qam, bs, d1]
 refine Qg (ι := Nat) (fun k => ⟨[(4, .int .i64 ((k : Int) - 1)), (3, .int .u64 (leN (l.drop k))), (0, .list l.length (u8 l))], []⟩) (fun k => k ≤ l.length) (fun k => k) l.length (Qk (by simp [Am.look, leN])) (by omega) ?_
 intro k hk
 cases k with
 | zero =>
  have e1 : ¬ ((0 : Int) ≤ -1) := by omega
  simp only [rv, okW, QK, aop, cV, cV1, AV.one, Qs, JM, Qo, Qj, ZB, QfY, app, jm, y7, yf, yl, yM, simprocAttr, Yu, Int.zero_sub, e1]
 | succ k =>
  have hlt : k < l.length := by omega
  have e0 : (((k + 1 : Nat) : Int) - 1) = k := by omega
  have e1 : (0 : Int) ≤ k := by omega
  have e2 : (k : Int) < l.length := by omega
  have e3 := Qxi hlt
  have hb := l[k].toNat_lt
  have hd := Qzc hlt
  have hd2 : leN (l.drop k) < 18446744073709551616 := QsV (by simp; omega)
  have hd3 : leN (l.drop (k + 1)) < 18446744073709551616 := by omega
  have e4 : IntKind.u64.wrap ((l[k].toNat : Nat) : Int) = (l[k].toNat : Nat) := Qa5 (by omega) (by omega)
  have e5 : IntKind.u64.wrap (256 * ((leN (l.drop (k + 1)) : Nat) : Int)) = (256 * leN (l.drop (k + 1)) : Nat) := by rw [Qa5] <;> omega
  have e6 : IntKind.u64.wrap (((256 * leN (l.drop (k + 1)) : Nat) : Int) + (l[k].toNat : Nat)) = (leN (l.drop k) : Nat) := by rw [Qa5] <;> omega
  have e7 : IntKind.i64.wrap ((k : Int) - 1) = (k : Int) - 1 := by rw [ZT] <;> omega
  simp only [e0]
  simp only [rv, okW, QK, aop, cV, cV1, AV.one, Qs, JM, Qo, Qj, ZB, QfY, app, jm, y7, yf, yl, yM, simprocAttr, e1, e2, hlt, e3, e4, e5, e6, e7]
  exact ⟨k, by omega, by omega, Qh⟩
theorem Q9 (l : List UInt8) : isTL (u8 l) = true := by
 induction l with
 | nil => rfl
 | cons x l ih => simp [QgF, isTL, isT, ih]
def Qbe (P : Prg) (f : Nat) : Prop := ∀ l : List UInt8, l.length < 140737488355328 → VC P f [bs l] (bs l)
set_option maxRecDepth 10000 in
theorem QrE {P : Prg} {f t0 : Nat} (b : Qf P f 8 [.tmp 2] (Qb8 t0)) : Qbe P f := by
 intro l hl
 refine Qi 1 (by simp [isDL, Qr]) (Qr l) (Qb b (by simp) ?_)
 have fin : ∀ ob, ob = [⟨t0, 1, l.length, u8 l, 0⟩] → QI (fun _ => true) ob (1 + 1) [.own 0 l.length] = some [bs l] := by
  rintro ob rfl
  simp only [QI, Qz, frzL, Qv, qS, yl, Yl, and_self, yf, frzL_T _ (Q9 l), yo]
  rfl
 have d1 : l.length * 1 ≤ 140737488355328 := by omega
 have d2 : l.length ≤ 9223372036854775807 := by omega
 by_cases h0 : l = []
 ·subst h0
  simp only [rv, okW, QK, aop, cV, cV1, AV.one, Qs, JM, Qo, Qj, ZB, QfY, app, jm, y7, yf, yl, yM, simprocAttr, Qb8, bs, Qvd, Qoh]
  simp [QI, Qz, frzL, Qv, isDL]
 ·have h1 : l.length ≠ 0 := by simpa using h0
  have d3 : l.length ≤ 140737488355328 := by omega
  simp only [rv, okW, QK, aop, cV, cV1, AV.one, Qs, JM, Qo, Qj, ZB, QfY, app, jm, y7, yf, yl, yM, simprocAttr, Qb8, bs, Qvd, h1, d2, d3]
  exact fin _ rfl
def J0 (b : Int) : Int := if b = 8 then 128 else if b = 16 then 32768 else if b = 24 then 8388608 else 0
theorem ZF (b : Int) : (b = 8 ∧ J0 b = 128) ∨ (b = 16 ∧ J0 b = 32768) ∨ (b = 24 ∧ J0 b = 8388608) ∨ (b ≠ 8 ∧ b ≠ 16 ∧ b ≠ 24 ∧ J0 b = 0) := by
 unfold J0; split <;> (try split) <;> (try split) <;> omega
def Qcf (b : Int) : AV := if J0 b = 0 then .tup [.int .i32 0, .int .i32 0, .int .i64 2] else .tup [.int .i32 (-J0 b), .int .i32 (J0 b - 1), .int .i64 0]
def Qm3 (P : Prg) (f : Nat) : Prop := ∀ b : Int, VC P f [.int .i64 b] (Qcf b)
theorem QpZ {P : Prg} {f : Nat} (b : Qf P f 18 [.tmp 2, .tmp 3, .tmp 4] Xz) : Qm3 P f := by
 intro x
 refine Qn rfl (by unfold Qcf; split <;> rfl) b ?_
 rcases ZF x with ⟨rfl, h⟩ | ⟨rfl, h⟩ | ⟨rfl, h⟩ | ⟨h1, h2, h3, h⟩
 ·simp (disch := omega) only [rq, simprocAttr, Xz, Qcf, h]
  rfl
 ·simp (disch := omega) only [rq, simprocAttr, Xz, Qcf, h]
  rfl
 ·simp (disch := omega) only [rq, simprocAttr, Xz, Qcf, h]
  rfl
 ·simp (disch := omega) only [rq, simprocAttr, Xz, Qcf, h]
def il (l : List Int) : AV := .list l.length (ks .i32 l)
theorem QaQ (l : List Int) : isD (il l) = true := by simp [il, isD, ZA]
def inR (b x : Int) : Bool := decide (-J0 b ≤ x) && decide (x < J0 b)
def Zo (b : Int) (l : List Int) : Int := if J0 b = 0 then 2 else if 4000 < l.length then 4 else if l.all (inR b) then 0 else 16
def I32 (l : List Int) : Prop := ∀ x ∈ l, -2147483648 ≤ x ∧ x ≤ 2147483647
def QbQ (P : Prg) (f : Nat) : Prop := ∀ (b : Int) (l : List Int), I32 l → VC P f [.int .i64 b, il l] (.int .i64 (Zo b l))
theorem Qgu {l : List Int} {k : Nat} (h : k < l.length) {p : Int → Bool} : (l.take (k + 1)).all p = ((l.take k).all p && p l[k]) := by
 rw [qm h, YA]; simp
theorem QkG {l : List Int} {k : Nat} (h : k < l.length) {p : Int → Bool} (hp : p l[k] = false) : l.all p = false := by
 rw [List.all_eq_false]
 exact ⟨l[k], yb h, by simp [hp]⟩
set_option maxRecDepth 10000 in
theorem Qp0 {P : Prg} {f fR : Nat} (b : Qf P f 37 [.tmp 4] (Qb0 fR)) (hR : Qm3 P fR) : QbQ P f := by
 intro x l hl
 refine Qn (by simp [isDL, isD, QaQ]) rfl b ?_
 simp (disch := omega) only [rq, simprocAttr, Qb0]
 refine Qa (hR x) ?_
 by_cases h0 : J0 x = 0
 ·simp (disch := omega) only [rq, simprocAttr, Qcf, Zo, h0]
 have h3 : J0 x = 128 ∨ J0 x = 32768 ∨ J0 x = 8388608 := by rcases ZF x with h | h | h | h <;> omega
 by_cases h1 : 4000 < l.length
 ·simp (disch := omega) only [rq, simprocAttr, Qcf, Zo, h0, il, h1]
 simp (disch := omega) only [rq, simprocAttr, Qcf, il, qa h0]
 refine Qg (ι := Nat) (fun k => ⟨[(24, .int .i64 k), (23, .int .i64 l.length), (22, il l), (6, .int .i32 (J0 x - 1)), (5, .int .i32 (-J0 x))], []⟩) (fun k => k ≤ l.length ∧ (l.take k).all (inR x) = true) (fun k => l.length - k) 0 (Qk (by simp [Am.look, il])) ⟨by omega, by simp⟩ ?_
 intro k ⟨hk, hg⟩
 by_cases hlt : k < l.length
 ·by_cases hp : -J0 x ≤ l[k] ∧ l[k] < J0 x
  ·have hs := Qgu hlt (p := inR x)
   simp (disch := omega) only [rq, simprocAttr, il, QaD, hlt]
   exact ⟨k + 1, ⟨by omega, by rw [hs, hg]; simp [inR, hp]⟩, by omega, Qk (by simp [Am.look, il])⟩
  ·have e : Zo x l = 16 := by simp [Zo, h0, h1, QkG hlt (p := inR x) (by simp [inR]; omega)]
   by_cases hq : l[k] < -J0 x
   ·simp (disch := omega) only [rq, simprocAttr, il, QaD, hlt, e]
   ·simp (disch := omega) only [rq, simprocAttr, il, QaD, hlt, e]
 ·have e2 : k = l.length := by omega
  subst e2
  rw [qW] at hg
  simp (disch := omega) only [rq, simprocAttr, il, Zo, h0, h1, hg]
def QpQ (P : Prg) (f : Nat) : Prop := ∀ x : Int, VC P f [.int .i64 x] (.int .i64 (J0 x))
theorem Que {P : Prg} {f : Nat} (b : Qf P f 10 [.tmp 2] Jq) : QpQ P f := by
 intro x
 refine Qn rfl rfl b ?_
 rcases ZF x with ⟨rfl, h⟩ | ⟨rfl, h⟩ | ⟨rfl, h⟩ | ⟨h1, h2, h3, h⟩ <;> simp (disch := omega) only [rq, simprocAttr, Jq, h]
set_option maxRecDepth 10000 in
theorem QqW {P : Prg} {f fH : Nat} (b : Qf P f 37 [.tmp 4] (X9 fH)) (hH : QpQ P fH) : QbQ P f := by
 intro x l hl
 refine Qn (by simp [isDL, isD, QaQ]) rfl b ?_
 simp (disch := omega) only [rq, simprocAttr, X9]
 refine Qa (hH x) ?_
 by_cases h0 : J0 x = 0
 ·simp (disch := omega) only [rq, simprocAttr, Zo, h0]
 have h3 : J0 x = 128 ∨ J0 x = 32768 ∨ J0 x = 8388608 := by rcases ZF x with h | h | h | h <;> omega
 by_cases h1 : 4000 < l.length
 ·simp (disch := omega) only [rq, simprocAttr, Zo, h0, il, h1]
 simp (disch := omega) only [rq, simprocAttr, il]
 refine Qg (ι := Nat) (fun k => ⟨[(6, .int .i64 k), (1, il l), (5, .int .i64 (J0 x))], []⟩) (fun k => k ≤ l.length ∧ (l.take k).all (inR x) = true) (fun k => l.length - k) 0 (Qk (by simp [Am.look, il])) ⟨by omega, by simp⟩ ?_
 intro k ⟨hk, hg⟩
 by_cases hlt : k < l.length
 ·have hb := hl _ (yb hlt)
  by_cases hp : -J0 x ≤ l[k] ∧ l[k] < J0 x
  ·have hs := Qgu hlt (p := inR x)
   simp (disch := omega) only [rq, simprocAttr, il, QaD, hlt]
   exact ⟨k + 1, ⟨by omega, by rw [hs, hg]; simp [inR, hp]⟩, by omega, Qk (by simp [Am.look, il])⟩
  ·have e : Zo x l = 16 := by simp [Zo, h0, h1, QkG hlt (p := inR x) (by simp [inR]; omega)]
   by_cases hq : l[k] < -J0 x
   ·simp (disch := omega) only [rq, simprocAttr, il, QaD, hlt, e]
   ·simp (disch := omega) only [rq, simprocAttr, il, QaD, hlt, e]
 ·have e2 : k = l.length := by omega
  subst e2
  rw [qW] at hg
  simp (disch := omega) only [rq, simprocAttr, il, Zo, h0, h1, hg]
theorem Qo1 {n : Nat} {c : Int} (h : 1 ≤ c) : 0 ≤ (n : Int) % c ∧ (n : Int) % c < c := ⟨Int.emod_nonneg _ (by omega), Int.emod_lt_of_pos _ (by omega)⟩
def ZI (r : Int) : Int := if 256 * r / 245 < 1 then 1 else 256 * r / 245
theorem Qdq (r : Int) : 1 ≤ ZI r := by unfold ZI; split <;> omega
theorem QsT {r : Int} (h : r ≤ 1048576) : ZI r ≤ 1095654 := by unfold ZI; split <;> omega
def QiP (r : Int) : AV := if r < 1 ∨ 1048576 < r then .tup [.int .i64 0, .int .i64 2] else .tup [.int .i64 (ZI r), .int .i64 0]
def Qid (P : Prg) (f : Nat) : Prop := ∀ r : Int, VC P f [.int .i64 r] (QiP r)
theorem Qzi (r : Int) : isD (QiP r) = true := by unfold QiP; split <;> rfl
theorem Qo2 {P : Prg} {f : Nat} (b : Qf P f 14 [.tmp 2, .tmp 3] XY) : Qid P f := by
 intro r
 refine Qn rfl (Qzi r) b ?_
 by_cases h1 : r < 1
 ·simp (disch := omega) only [rq, simprocAttr, XY, QiP, true_or]
 by_cases h2 : 1048576 < r
 ·simp (disch := omega) only [rq, simprocAttr, XY, QiP, or_true]
 have h3 : 1 ≤ 256 * r / 245 := by omega
 simp (disch := omega) only [rq, simprocAttr, XY, QiP, or_self, ZI]
 rw [show (if (1 : Int) < 256 * r / 245 then 256 * r / 245 else 1) = 256 * r / 245 by split <;> omega]
def QbI (c b : Int) : Int := if J0 b = 0 ∨ c < 1 ∨ 6 < c then 2 else 0
def shA (c b : Int) : AV := .agg [.int .i64 c, .int .i64 b]
def Qeg (P : Prg) (f : Nat) : Prop := ∀ c b : Int, VC P f [shA c b] (.int .i64 (QbI c b))
theorem Qma {P : Prg} {f fR t0 : Nat} (b : Qf P f 25 [.tmp 2] (Qa1 fR t0)) (hR : Qm3 P fR) : Qeg P f := by
 intro c x
 refine Qn rfl rfl b ?_
 simp (disch := omega) only [rq, simprocAttr, Qa1, shA]
 refine Qa (hR x) ?_
 by_cases h0 : J0 x = 0
 ·simp (disch := omega) only [rq, simprocAttr, Qcf, h0, QbI, true_or]
 by_cases h1 : c < 1
 ·simp (disch := omega) only [rq, simprocAttr, Qcf, qa h0, QbI, h0, or_true, true_or]
 by_cases h2 : 6 < c
 ·simp (disch := omega) only [rq, simprocAttr, Qcf, qa h0, QbI, h0, or_true]
 ·simp (disch := omega) only [rq, simprocAttr, Qcf, qa h0, QbI, h0, or_self]
theorem QqV {P : Prg} {f fH t0 : Nat} (b : Qf P f 17 [.tmp 2] (Zr fH t0)) (hH : QpQ P fH) : Qeg P f := by
 intro c x
 refine Qn rfl rfl b ?_
 have hx := ZF x
 by_cases h1 : c < 1
 ·simp (disch := omega) only [rq, simprocAttr, Zr, shA, QbI, or_true, true_or]
 by_cases h2 : 6 < c
 ·simp (disch := omega) only [rq, simprocAttr, Zr, shA, QbI, or_true]
 simp (disch := omega) only [rq, simprocAttr, Zr, shA]
 refine Qa (hH x) ?_
 by_cases h0 : J0 x = 0
 ·simp (disch := omega) only [rq, simprocAttr, h0, QbI, true_or]
 ·simp (disch := omega) only [rq, simprocAttr, h0, QbI, or_self]
def Qm6 (P : Prg) (f : Nat) : Prop := ∀ c b : Int, 1 ≤ c → c ≤ 6 → J0 b ≠ 0 → VC P f [shA c b] (.int .i64 (c * b / 8))
theorem QwO {c b : Int} (h1 : 1 ≤ c) (h2 : c ≤ 6) (h : J0 b ≠ 0) : 8 ≤ c * b ∧ c * b ≤ 144 ∧ (b = 8 ∨ b = 16 ∨ b = 24) := by
 have hb : b = 8 ∨ b = 16 ∨ b = 24 := by rcases ZF b with h' | h' | h' | h' <;> omega
 rcases hb with rfl | rfl | rfl <;> omega
theorem QoF {P : Prg} {f t0 : Nat} (b : Qf P f 9 [.tmp 2] (XD t0)) : Qm6 P f := by
 intro c x h1 h2 h
 have hm := QwO h1 h2 h
 refine Qn rfl rfl b ?_
 simp (disch := omega) only [rq, simprocAttr, XD, shA]
def w32 (x : Int) : Int := IntKind.i32.wrap x
theorem Qkq (x : Int) : w32 x = (x + 2147483648) % 4294967296 - 2147483648 := by
 simp [w32, IntKind.wrap, IntKind.bits, IntKind.signed]; split <;> omega
theorem Qvo (a b : Int) : w32 (w32 a + w32 b) = w32 (a + b) := by simp only [Qkq]; omega
theorem Qss (a b : Int) : w32 (w32 a + b) = w32 (a + b) := by simp only [Qkq]; omega
theorem Qvn {a : Int} (h1 : -2147483648 ≤ a) (h2 : a ≤ 2147483647) : w32 a = a := Qsr h1 h2
theorem JJ (a : Int) : -2147483648 ≤ w32 a ∧ w32 a ≤ 2147483647 := by simp only [Qkq]; omega
theorem Qaw (x : Int) : IntKind.i32.wrap x = w32 x := rfl
theorem Xn {l : List Int} (h : I32 l) (k : Nat) : -2147483648 ≤ l.getD k 0 ∧ l.getD k 0 ≤ 2147483647 := by
 rw [qe]
 cases hk : l[k]? with
 | none => simp
 | some v => exact h v (yt hk)
theorem Qz2 {K : IntKind} {l : List Int} {k : Nat} (h : k < l.length) : (ks K l)[k]? = some (.int K (l.getD k 0)) := by
 simp [ks, qe, qg h]
structure JU where
 sh : Int
 tp : List Int
 ps : List Int
def Ql (f : JU) : List AV := .int .i64 f.sh :: (ks .i32 f.tp ++ ks .i32 f.ps)
def Qbx (f : JU) : Prop := f.tp.length = 16 ∧ f.ps.length = 16 ∧ I32 f.tp ∧ I32 f.ps
theorem QX {f : JU} (h : Qbx f) : (Ql f).length = 33 := by
 obtain ⟨h1, h2, _⟩ := h
 simp [Ql, Qd, h1, h2]
theorem Q3 (f : JU) : (Ql f).all AV.one = true := by
 simp only [Ql, List.all_cons, YA, Z4]; rfl
theorem Za (f : JU) : isDL (Ql f) = true := by
 have : ∀ a b, isDL (ks .i32 a ++ ks .i32 b) = true := fun a b => by rw [Qci]; exact ZA _ _
 simp [Ql, isDL, isD, this]
theorem Qpc {f : JU} (h : Qbx f) : ((Ql f).drop 1).take 16 = ks .i32 f.tp := by
 obtain ⟨h1, h2, _⟩ := h
 simp only [Ql, yY, List.drop_zero]
 rw [jF (by simp [Qd, h1])]
theorem QkN {f : JU} (h : Qbx f) : ((Ql f).drop 17).take 16 = ks .i32 f.ps := by
 obtain ⟨h1, h2, _⟩ := h
 simp only [Ql, yY]
 rw [Yk (by simp [Qd, h1]), qf (by simp [Qd, h2])]
theorem Ql8 {f : JU} (h : Qbx f) {k : Nat} (hk : k < 16) : (Ql f).drop (1 + k) = .int .i32 (f.tp.getD k 0) :: ((ks .i32 f.tp).drop (k + 1) ++ ks .i32 f.ps) := by
 obtain ⟨h1, h2, _⟩ := h
 rw [Ys]
 simp only [Ql, yY]
 rw [List.drop_append_of_le_length (by simp [Qd, h1]; omega), QaD (by omega), ← QaW]
 simp [qe, qg (show k < f.tp.length by omega)]
theorem Qgb {f : JU} (h : Qbx f) {k : Nat} (hk : k < 16) : (Ql f).drop (17 + k) = .int .i32 (f.ps.getD k 0) :: (ks .i32 f.ps).drop (k + 1) := by
 obtain ⟨h1, h2, _⟩ := h
 rw [show 17 + k = (16 + k) + 1 by omega]
 simp only [Ql, yY]
 rw [← jN, Yk (by simp [Qd, h1]), QaD (by omega), ← QaW]
 simp [qe, qg (show k < f.ps.length by omega)]
theorem QiR {f : JU} (h : Qbx f) {k : Nat} (hk : k < 16) (v : Int) : (Ql f).take (1 + k) ++ [.int .i32 v] ++ (Ql f).drop (1 + k + 1) = Ql { f with tp := f.tp.set k v } := by
 obtain ⟨h1, h2, _⟩ := h
 rw [Ys 1 k]
 simp only [Ql, j9, yY, yk]
 congr 1
 rw [List.take_append_of_le_length (by simp [Qd, h1]; omega), List.drop_append_of_le_length (by simp [Qd, h1]; omega), ← qy]
 congr 1
 rw [ye, qc (by omega)]
 simp [ks]
theorem Qdt {f : JU} (h : Qbx f) {k : Nat} (hk : k < 16) (v : Int) : (Ql f).take (17 + k) ++ [.int .i32 v] ++ (Ql f).drop (17 + k + 1) = Ql { f with ps := f.ps.set k v } := by
 obtain ⟨h1, h2, _⟩ := h
 rw [show 17 + k = (16 + k) + 1 by omega]
 simp only [Ql, j9, yY, yk]
 congr 1
 have e : (ks .i32 f.tp).length = 16 := by simp [Qd, h1]
 rw [jd, qf (by omega), e, show 16 + k + 1 = 16 + (k + 1) by omega, ← jN, Yk e, show 16 + k - 16 = k by omega, qy, qy]
 congr 1
 rw [ye, qc (by omega)]
 simp [ks]
theorem Qw {α : Type} {l : List α} {n : Nat} (h : l.length ≤ n) : l.take n = l := qf h
def QaV (b : Int) : Int := if b = 16 then 9 else 10
def z16 : List Int := List.replicate 16 0
def QgK (b : Int) (t : List Int) : JU := ⟨QaV b, t, z16⟩
def Qjz : JU := ⟨0, z16, z16⟩
def Qei (b : Int) (t : List Int) : AV := if J0 b = 0 then .tup [.agg (Ql Qjz), .int .i64 2] else .tup [.agg (Ql (QgK b t)), .int .i64 0]
def Qjd (P : Prg) (f : Nat) : Prop := ∀ (b : Int) (t : List Int), t.length = 16 → VC P f [.int .i64 b, .agg (ks .i32 t)] (Qei b t)
theorem QsZ (b : Int) (t : List Int) : isD (Qei b t) = true := by
 unfold Qei; split <;> simp [isD, isDL, Za]
theorem J5 : Ql Qjz = z1L := rfl
theorem Qys {P : Prg} {f t0 t1 : Nat} (b : Qf P f 18 [.cell 4 t1, .tmp 5] (QaE t0 t1)) (ht : ZE P t1 = some (some 33)) : Qjd P f := by
 intro x t hl
 have hk : (ks .i32 t).length = 16 := by simp [Qd, hl]
 have h1 := Z4 .i32 t
 have tk16 : (ks .i32 t).take 16 = ks .i32 t := Qw (by omega)
 refine Qn (by simp [isDL, isD, ZA]) (QsZ _ _) b ?_
 have fin : ∀ s : Int, .int .i64 s :: (ks .i32 t ++ [.int .i32 0, .int .i32 0, .int .i32 0, .int .i32 0, .int .i32 0, .int .i32 0, .int .i32 0, .int .i32 0, .int .i32 0, .int .i32 0, .int .i32 0, .int .i32 0, .int .i32 0, .int .i32 0, .int .i32 0, .int .i32 0]) = Ql ⟨s, t, z16⟩ := fun _ => rfl
 have hl33 : ∀ s : Int, (Ql ⟨s, t, z16⟩).length = 33 := fun s => by simp [Ql, Qd, hl, z16]
 have ho := fun s => Q3 ⟨s, t, z16⟩
 have tk : ∀ s : Int, (Ql ⟨s, t, z16⟩).take 33 = Ql ⟨s, t, z16⟩ := fun s => Qw (by rw [hl33]; omega)
 have st9 : ([] : List AV) ++ [.int .i64 9] ++ (Ql ⟨10, t, z16⟩).drop 1 = Ql ⟨9, t, z16⟩ := rfl
 have d9 : AV.int .i64 9 :: (Ql ⟨10, t, z16⟩).drop 1 = Ql ⟨9, t, z16⟩ := rfl
 rcases ZF x with ⟨rfl, h⟩ | ⟨rfl, h⟩ | ⟨rfl, h⟩ | ⟨h2, h3, h4, h⟩
 ·simp (disch := omega) only [rq, simprocAttr, QaE, Qei, h, hk, h1, tk16, fin, hl33, ho, tk, QL, ht, QgK, QaV]
 ·simp (disch := omega) only [rq, simprocAttr, QaE, Qei, h, hk, h1, tk16, fin, hl33, ho, tk, QL, ht, QgK, QaV, d9]
 ·simp (disch := omega) only [rq, simprocAttr, QaE, Qei, h, hk, h1, tk16, fin, hl33, ho, tk, QL, ht, QgK, QaV]
 ·simp (disch := omega) only [rq, simprocAttr, QaE, Qei, h, hk, h1, tk16, fin, hl33, ho, tk, QL, ht, J5]
def Qyb (s : Int) : Int := if s = 9 ∨ s = 10 then 0 else 8
def Qgx (P : Prg) (f : Nat) : Prop := ∀ x : JU, Qbx x → VC P f [.agg (Ql x)] (.int .i64 (Qyb x.sh))
theorem QDa : Qyb 9 = 0 := rfl
theorem QBX : Qyb 10 = 0 := rfl
def Qh5 (a b : List Int) : Nat → Int
 | 0 => 0
 | k + 1 => Qh5 a b k + a.getD k 0 * b.getD k 0
def QbX (s : Int) : Int := if s = 9 then 512 else 1024
def Qds (f : JU) : Int := w32 (QbX f.sh / 2 + Qh5 f.tp f.ps 16) / QbX f.sh
def QmX (P : Prg) (f : Nat) : Prop := ∀ x : JU, Qbx x → x.sh = 9 ∨ x.sh = 10 → VC P f [.agg (Ql x)] (.tup [.int .i32 (Qds x), .int .i64 0])
theorem Qpb (f : JU) (h : f.sh = 9 ∨ f.sh = 10) : -2147483648 ≤ Qds f ∧ Qds f ≤ 2147483647 := by
 have := JJ (QbX f.sh / 2 + Qh5 f.tp f.ps 16)
 unfold Qds QbX at *
 rcases h with h | h <;> simp [h] at * <;> omega
theorem QAM : Qu true .i32 1 8 = some (.int .i32 256) := rfl
theorem QAL : Qu true .i32 1 9 = some (.int .i32 512) := rfl
theorem QAG (s : Int) : Qu false .i32 s 9 = some (.int .i32 (s / 512)) := by
 show some (AV.int .i32 (s.fdiv 512)) = _
 rw [qO _ (by omega)]
theorem QyI (s : Int) : Qu false .i32 s 10 = some (.int .i32 (s / 1024)) := by
 show some (AV.int .i32 (s.fdiv 1024)) = _
 rw [qO _ (by omega)]
theorem QtJ {P : Prg} {f fC t0 : Nat} (b : Qf P f 36 [.tmp 2, .tmp 3] (QcN fC t0)) (hC : Qgx P fC) : QmX P f := by
 intro x hx hs
 have l33 := QX hx
 have tk : (Ql x).take 33 = Ql x := Qw (by omega)
 have ho := Q3 x
 have e1 := Qpc hx
 have e0 : (Ql x).drop 0 = .int .i64 x.sh :: (ks .i32 x.tp ++ ks .i32 x.ps) := rfl
 have ht : Qyb x.sh = 0 := by simp [Qyb, hs]
 have hl := hx.1
 refine Qn (by simp [isDL, isD, Za]) rfl b ?_
 simp (disch := omega) only [rq, simprocAttr, QcN, l33, tk, ho]
 refine Qa (hC x hx) ?_
 rcases hs with h | h
 all_goals
  have z0 : w32 (QbX x.sh / 2 + Qh5 x.tp x.ps 0) = QbX x.sh / 2 := by simp only [Qh5, Yf]; exact Qvn (by simp [QbX, h]) (by simp [QbX, h])
  have z1 : QbX x.sh = 512 ∧ x.sh = 9 ∨ QbX x.sh = 1024 ∧ x.sh = 10 := by simp [QbX, h]
  simp (disch := omega) only [rq, simprocAttr, l33, tk, ho, QDa, QBX, e1, ↓e0, h, QAM, QAL]
  refine Qg (ι := Nat) (fun k => ⟨[(19, .int .i64 k), (18, .agg (ks .i32 x.tp)), (5, .int .i32 (w32 (QbX x.sh / 2 + Qh5 x.tp x.ps k))), (1, .ref 0 1 0)], [⟨t0, 33, 1, Ql x, 0⟩]⟩) (fun k => k ≤ 16) (fun k => 16 - k) 0 (Qk (by rw [z0]; simp [Am.look, h, QbX])) (by omega) ?_
  intro k hk
  by_cases hlt : k < 16
  ·have e2 := Qgb hx hlt
   have e3 := Qz2 (K := .i32) (l := x.tp) (k := k) (by omega)
   have e4 : w32 (w32 (QbX x.sh / 2 + Qh5 x.tp x.ps k) + w32 (x.tp.getD k 0 * x.ps.getD k 0)) = w32 (QbX x.sh / 2 + Qh5 x.tp x.ps (k + 1)) := by
    rw [Qvo]; simp only [Qh5]; congr 1; omega
   simp (disch := omega) only [rq, simprocAttr, l33, e2, e3, Qaw, e4]
   exact ⟨k + 1, by omega, by omega, Qh⟩
  ·have e : k = 16 := by omega
   subst e
   simp (disch := omega) only [rq, simprocAttr, ↓e0, h, QAG, QyI, Qds, QbX]
theorem QtK {P : Prg} {f t0 : Nat} (b : Qf P f 11 [.tmp 2] (J9 t0)) : Qgx P f := by
 intro x hx
 have l33 := QX hx
 have ho := Q3 x
 have e0 : (Ql x).drop 0 = .int .i64 x.sh :: (ks .i32 x.tp ++ ks .i32 x.ps) := rfl
 refine Qn (by simp [isDL, isD, Za]) rfl b ?_
 by_cases h9 : x.sh = 9
 ·simp (disch := omega) only [rq, simprocAttr, J9, l33, ho, ↓e0, h9, Qyb]
 by_cases h10 : x.sh = 10
 ·simp (disch := omega) only [rq, simprocAttr, J9, l33, ho, ↓e0, h10, Qyb]
 ·simp (disch := omega) only [rq, simprocAttr, J9, l33, ho, ↓e0, Qyb]
def Qc3 (i : Nat) : Int := if i = 0 then 4 else if i < 4 then 2 else 1
def QmV (P : Prg) (f : Nat) : Prop := ∀ i : Nat, VC P f [.int .i64 i] (.int .i32 (Qc3 i))
theorem QvJ {P : Prg} {f : Nat} (b : Qf P f 9 [.tmp 2] QaS) : QmV P f := by
 intro i
 refine Qn rfl rfl b ?_
 by_cases h0 : i = 0
 ·subst h0; simp (disch := omega) only [rq, simprocAttr, QaS, Qc3, Yu]
 by_cases h1 : i < 4
 ·simp (disch := omega) only [rq, simprocAttr, QaS, Qc3, h0]
 ·simp (disch := omega) only [rq, simprocAttr, QaS, Qc3, h0]
def sgn (x : Int) : Int := if x < 0 then -1 else if 0 < x then 1 else 0
def Qya (x : JU) (w : Int) (k : Nat) : Int := w32 (x.tp.getD k 0 + Qc3 k * sgn (x.ps.getD k 0) * sgn w)
def J7 (x : JU) (w : Int) (k : Nat) : List Int := (List.range 16).map fun i => if i < k then Qya x w i else x.tp.getD i 0
def lf (x : JU) (w : Int) (k : Nat) : JU := { x with tp := J7 x w k }
def JZ (x : JU) (w : Int) : JU := lf x w 16
theorem QkB {l : List Int} (h : l.length = 16) : (List.range 16).map (fun i => l.getD i 0) = l := by
 apply yL (by simp [h])
 intro i h1 h2
 simp [qe, qg h2]
theorem QwS (x : JU) (w : Int) (k : Nat) : (J7 x w k).length = 16 := by simp [J7]
theorem QgN {x : JU} (h : Qbx x) (w : Int) : J7 x w 0 = x.tp := by
 have := QkB h.1
 simpa [J7] using this
theorem QkJ (x : JU) (w : Int) {k : Nat} (hk : k < 16) : (J7 x w k).getD k 0 = x.tp.getD k 0 := by
 simp [J7, qe, hk]
theorem Qo3 (x : JU) (w : Int) {k : Nat} (hk : k < 16) : (J7 x w k).set k (Qya x w k) = J7 x w (k + 1) := by
 apply yL (by simp [J7])
 intro i h1 h2
 rw [jI]
 simp only [J7, jJ, Ym]
 by_cases e : k = i
 ·subst e; simp
 ·rw [qa e]
  by_cases h : i < k
  ·rw [qc h, qc (by omega)]
  ·rw [qa h, qa (by omega)]
theorem QkI (x : JU) (w : Int) {k : Nat} (h : Qya x w k = x.tp.getD k 0) : J7 x w (k + 1) = J7 x w k := by
 simp only [J7]
 apply qU
 intro i _
 by_cases e : i = k
 ·subst e; simp [h]
 ·by_cases h : i < k
  ·rw [qc h, qc (by omega)]
  ·rw [qa h, qa (by omega)]
theorem Qx9 {x : JU} (h : Qbx x) (w : Int) (k : Nat) : I32 (J7 x w k) := by
 intro v hv
 simp only [J7, qY] at hv
 obtain ⟨i, _, rfl⟩ := hv
 split
 ·exact JJ _
 ·exact Xn h.2.2.1 i
theorem QiJ {x : JU} (h : Qbx x) (w : Int) (k : Nat) : Qbx (lf x w k) := ⟨QwS x w k, h.2.1, Qx9 h w k, h.2.2.2⟩
theorem Qd1 {x : JU} (h : Qbx x) (w : Int) : Qbx (JZ x w) := QiJ h w 16
theorem Qy8 {x : JU} (h : Qbx x) : JZ x 0 = x := by
 have key : ∀ k, J7 x 0 k = x.tp := fun k => by
  induction k with
  | zero => exact QgN h 0
  | succ k ih =>
   rw [QkI x 0, ih]
   have := Xn h.2.2.1 k
   simp only [Qya, sgn]
   simp
   exact Qvn (by simpa using this.1) (by simpa using this.2)
 simp [JZ, lf, key]
def QmW (P : Prg) (f : Nat) : Prop := ∀ (x : JU) (w : Int), Qbx x → x.sh = 9 ∨ x.sh = 10 → VC P f [.agg (Ql x), .int .i32 w] (.tup [.agg (Ql (JZ x w)), .int .i64 0])
theorem QvI {s : Int} (h : s = 9 ∨ s = 10) : Qyb s = 0 := by simp [Qyb, h]
theorem QtI {P : Prg} {f fC fS t0 : Nat} (b : Qf P f 53 [.cell 4 t0, .tmp 5] (QcM fC fS t0)) (ht : ZE P t0 = some (some 33)) (hC : Qgx P fC) (hS : QmV P fS) : QmW P f := by
 intro x w hx hs
 have l33 := QX hx
 have tk : (Ql x).take 33 = Ql x := Qw (by omega)
 have ho := Q3 x
 have hc := QvI hs
 have pp := QkN hx
 have lw := QX (Qd1 hx w)
 have tkw : (Ql (JZ x w)).take 33 = Ql (JZ x w) := Qw (by omega)
 have how := Q3 (JZ x w)
 refine Qn (by simp [isDL, isD, Za]) (by simp [isD, isDL, Za]) b ?_
 simp (disch := omega) only [rq, simprocAttr, QcM, l33, tk, ho]
 refine Qa (hC x hx) ?_
 by_cases hw : w = 0
 ·subst hw
  have e := Qy8 hx
  simp (disch := omega) only [rq, simprocAttr, l33, tk, ho, hc, QL, ht, e]
 simp (disch := omega) only [rq, simprocAttr, l33, tk, ho, hc, pp]
 refine Qg (ι := Nat) (fun k => ⟨[(20, .int .i64 k), (19, .agg (ks .i32 x.ps)), (4, .ref 1 1 0), (2, .ref 0 1 0), (1, .int .i32 w), (5, .int .i64 0)], [⟨t0, 33, 1, Ql (lf x w k), 0⟩, ⟨t0, 33, 1, Ql Qjz, 0⟩]⟩) (fun k => k ≤ 16) (fun k => 16 - k) 0 (by rw [show lf x w 0 = x by simp [lf, QgN hx]]; exact Qh) (by omega) ?_
 intro k hk
 by_cases hlt : k < 16
 ·have hok := QiJ hx w k
  have e1 := Qz2 (K := .i32) (l := x.ps) (k := k) (by have := hx.2.1; omega)
  have e2 := Ql8 hok hlt
  have e3 := fun v => QiR hok hlt v
  have e4 := QkJ x w hlt
  have e5 := QX hok
  have hu := Qo3 x w hlt
  have hp := Xn hx.2.2.2 k
  have htp := Xn hx.2.2.1 k
  have ef : ∀ v, ({ lf x w k with tp := (lf x w k).tp.set k v } : JU) = { x with tp := (J7 x w k).set k v } := fun _ => rfl
  have e7 : (lf x w k).tp.getD k 0 = x.tp.getD k 0 := e4
  by_cases p0 : x.ps.getD k 0 = 0
  ·have e6 := QkI x w (k := k) (by simp only [Qya, p0, sgn]; simp; exact Qvn (by simpa using htp.1) (by simpa using htp.2))
   simp (disch := omega) only [rq, simprocAttr, e1, p0]
   exact ⟨k + 1, by omega, by omega, by rw [show lf x w (k + 1) = lf x w k by simp [lf, e6]]; exact Qh⟩
  ·by_cases hsame : (x.ps.getD k 0 < 0 ↔ w < 0)
   ·have e6 : Qya x w k = w32 (x.tp.getD k 0 + Qc3 k) := by
     simp only [Qya, sgn]; congr 1
     by_cases q : w < 0
     ·rw [qc q, qc (hsame.2 q)]; omega
     ·rw [qa q, qa (fun h => q (hsame.1 h)), qc (by omega), qc (by omega)]; omega
    rw [e6] at hu
    by_cases q : w < 0
    ·have q2 := hsame.2 q
     simp (disch := omega) only [rq, simprocAttr, e1, e2, e7]
     refine Qc (hS k) ?_
     simp (disch := omega) only [rq, simprocAttr, e3, e5, Qaw, ef, hu]
     exact ⟨k + 1, by omega, by omega, Qh⟩
    ·have q2 : ¬ x.ps.getD k 0 < 0 := fun h => q (hsame.1 h)
     simp (disch := omega) only [rq, simprocAttr, e1, e2, e7]
     refine Qc (hS k) ?_
     simp (disch := omega) only [rq, simprocAttr, e3, e5, Qaw, ef, hu]
     exact ⟨k + 1, by omega, by omega, Qh⟩
   ·have e6 : Qya x w k = w32 (x.tp.getD k 0 - Qc3 k) := by
     simp only [Qya, sgn]; congr 1
     by_cases q : w < 0
     ·rw [qc q, qa (fun h => hsame ⟨fun _ => q, fun _ => h⟩), qc (by omega)]; omega
     ·rw [qa q, qc (Classical.byContradiction fun h => hsame ⟨fun h' => absurd h' h, fun h' => absurd h' q⟩), qc (by omega)]; omega
    rw [e6] at hu
    by_cases q : w < 0
    ·have q2 : ¬ x.ps.getD k 0 < 0 := fun h => hsame ⟨fun _ => q, fun _ => h⟩
     simp (disch := omega) only [rq, simprocAttr, e1, e2, e7]
     refine Qc (hS k) ?_
     simp (disch := omega) only [rq, simprocAttr, e3, e5, Qaw, ef, hu]
     exact ⟨k + 1, by omega, by omega, Qh⟩
    ·have q2 : x.ps.getD k 0 < 0 := Classical.byContradiction fun h => hsame ⟨fun h' => absurd h' h, fun h' => absurd h' q⟩
     simp (disch := omega) only [rq, simprocAttr, e1, e2, e7]
     refine Qc (hS k) ?_
     simp (disch := omega) only [rq, simprocAttr, e3, e5, Qaw, ef, hu]
     exact ⟨k + 1, by omega, by omega, Qh⟩
 ·have e : k = 16 := by omega
  subst e
  have hF : lf x w 16 = JZ x w := rfl
  rw [hF]
  simp (disch := omega) only [rq, simprocAttr, lw, tkw, how, QL, ht, J5]
def Qej (x : JU) (v : Int) : JU := { x with ps := v :: x.ps.take 15 }
theorem Qq6 {x : JU} (h : Qbx x) {v : Int} (hv : -2147483648 ≤ v ∧ v ≤ 2147483647) : Qbx (Qej x v) := by
 obtain ⟨h1, h2, h3, h4⟩ := h
 refine ⟨h1, by simp [Qej, h2], h3, fun y hy => ?_⟩
 simp only [Qej, ym] at hy
 rcases hy with rfl | hy
 ·exact hv
 ·exact h4 y (qM hy)
def Qr5 (P : Prg) (f : Nat) : Prop := ∀ (x : JU) (v : Int), Qbx x → x.sh = 9 ∨ x.sh = 10 → VC P f [.agg (Ql x), .int .i32 v] (.tup [.agg (Ql (Qej x v)), .int .i64 0])
theorem QvK {P : Prg} {f fC t0 : Nat} (b : Qf P f 22 [.cell 4 t0, .tmp 5] (QdP fC t0)) (ht : ZE P t0 = some (some 33)) (hC : Qgx P fC) : Qr5 P f := by
 intro x v hx hs
 have l33 := QX hx
 have tk : (Ql x).take 33 = Ql x := Qw (by omega)
 have ho := Q3 x
 have hc := QvI hs
 have pp := QkN hx
 have h16 : (ks .i32 x.ps).length = 16 := by simp [Qd, hx.2.1]
 have o16 := Z4 .i32 x.ps
 refine Qn (by simp [isDL, isD, Za]) (by simp [isD, isDL, Za]) b ?_
 simp (disch := omega) only [rq, simprocAttr, QdP, l33, tk, ho]
 refine Qa (hC x hx) ?_
 have hm : Nat.min 16 15 = 15 := rfl
 let y : JU := { x with ps := x.ps.getD 0 0 :: x.ps.take 15 }
 have hy : Qbx y := Qq6 hx (Xn hx.2.2.2 0)
 have hcp : (Ql x).take 18 ++ (ks .i32 x.ps).take 15 ++ (Ql x).drop 33 = Ql y := by
  have e1 : (Ql x).drop 33 = [] := qP (by omega)
  have e2 : (ks .i32 x.tp).length = 16 := by simp [Qd, hx.1]
  have e3 : (ks .i32 x.ps).take 1 = [.int .i32 (x.ps.getD 0 0)] := by
   have h1 : 0 < x.ps.length := by have := hx.2.1; omega
   match hps : x.ps, h1 with
   | a :: l, _ => rfl
  rw [e1, qX]
  simp only [Ql, j9, yk, y]
  congr 1
  rw [jd, qf (by omega), e2, e3, qy, QwW]
  rfl
 have hset : (Ql y).take 17 ++ [.int .i32 v] ++ (Ql y).drop 18 = Ql (Qej x v) := Qdt hy (k := 0) (by omega) v
 have ly := QX hy
 have lp : (Ql (Qej x v)).length = 33 := by rw [← hset]; simp [ly]
 have tkp : (Ql (Qej x v)).take 33 = Ql (Qej x v) := Qw (by omega)
 have op := Q3 (Qej x v)
 simp (disch := omega) only [rq, simprocAttr, l33, tk, ho, hc, pp, h16, o16, hm, hcp, hset, ly, lp, tkp, op, QL, ht, J5]
def QbY (x : JU) (v y : Int) : JU := Qej (JZ x y) v
theorem Qf5 {x : JU} (h : Qbx x) {v : Int} (hv : -2147483648 ≤ v ∧ v ≤ 2147483647) (y : Int) : Qbx (QbY x v y) := Qq6 (Qd1 h y) hv
def Qjm (P : Prg) (f : Nat) : Prop := ∀ (x : JU) (v y : Int), Qbx x → x.sh = 9 ∨ x.sh = 10 → -2147483648 ≤ v ∧ v ≤ 2147483647 → VC P f [.agg (Ql x), .int .i32 v, .int .i32 y] (.agg (Ql (QbY x v y)))
theorem Quz {P : Prg} {f fL fP t0 : Nat} (b : Qf P f 20 [.cell 6 t0] (QcP fL fP t0)) (ht : ZE P t0 = some (some 33)) (hL : QmW P fL) (hP : Qr5 P fP) : Qjm P f := by
 intro x v y hx hs hv
 have l1 := QX hx
 have t1 : (Ql x).take 33 = Ql x := Qw (by omega)
 have o1 := Q3 x
 have l2 := QX (Qd1 hx y)
 have t2 : (Ql (JZ x y)).take 33 = Ql (JZ x y) := Qw (by omega)
 have o2 := Q3 (JZ x y)
 have l3 := QX (Qf5 hx hv y)
 have t3 : (Ql (QbY x v y)).take 33 = Ql (QbY x v y) := Qw (by omega)
 have o3 := Q3 (QbY x v y)
 have d1 : (Ql x).drop 33 = [] := qP (by omega)
 have d2 : (Ql (JZ x y)).drop 33 = [] := qP (by omega)
 refine Qn (by simp [isDL, isD, Za]) (by simp [isD, Za]) b ?_
 simp (disch := omega) only [rq, simprocAttr, QcP, l1, t1, o1]
 refine Qa (hL x y hx hs) ?_
 simp (disch := omega) only [rq, simprocAttr, l1, t1, o1, l2, t2, o2, d1]
 refine Qa (hP (JZ x y) v (Qd1 hx y) hs) ?_
 rw [← QbY]
 simp (disch := omega) only [rq, simprocAttr, l1, t1, o1, l2, t2, o2, l3, t3, o3, d1, d2, QL, ht, J5]
def Qmo (x : JU) (y : Int) : Int := w32 (y + Qds x)
def Qvg (x : JU) (y : Int) : JU := QbY x (Qmo x y) y
def Qse (P : Prg) (f : Nat) : Prop := ∀ (x : JU) (y : Int), Qbx x → x.sh = 9 ∨ x.sh = 10 → VC P f [.agg (Ql x), .int .i32 y] (.tup [.int .i32 (Qmo x y), .agg (Ql (Qvg x y)), .int .i64 0])
theorem Qy6 {P : Prg} {f fG fB t0 : Nat} (b : Qf P f 27 [.tmp 4, .cell 5 t0, .tmp 6] (QfF fG fB t0)) (ht : ZE P t0 = some (some 33)) (hG : QmX P fG) (hB : Qjm P fB) : Qse P f := by
 intro x y hx hs
 have hv := JJ (y + Qds x)
 have l1 := QX hx
 have t1 : (Ql x).take 33 = Ql x := Qw (by omega)
 have o1 := Q3 x
 have l3 := QX (Qf5 hx hv y)
 have t3 : (Ql (QbY x (Qmo x y) y)).take 33 = Ql (QbY x (Qmo x y) y) := Qw (by unfold Qmo; omega)
 have o3 := Q3 (QbY x (Qmo x y) y)
 refine Qn (by simp [isDL, isD, Za]) (by simp [isD, isDL, Za]) b ?_
 simp (disch := omega) only [rq, simprocAttr, QfF, l1, t1, o1]
 refine Qa (hG x hx hs) ?_
 simp (disch := omega) only [rq, simprocAttr, l1, t1, o1, Qaw]
 refine Qa (hB x (Qmo x y) y hx hs hv) ?_
 simp only [Qmo] at l3 t3 o3
 simp (disch := omega) only [rq, simprocAttr, l1, t1, o1, l3, t3, o3, QL, ht, J5, Qvg, Qmo]
def Jj (b last : Int) : Int := if b = 8 then 15 * last / 16 else 31 * last / 32
theorem QgS (b : Int) {l : Int} (h : -2147483648 ≤ l ∧ l ≤ 2147483647) : -2147483648 ≤ Jj b l ∧ Jj b l ≤ 2147483647 := by unfold Jj; split <;> omega
def Qne (P : Prg) (f : Nat) : Prop := ∀ b : Int, J0 b ≠ 0 → VC P f [.int .i64 b] (.tup [.int .i64 (if b = 8 then 4 else 5), .int .i64 0])
theorem Qrl {P : Prg} {f : Nat} (b : Qf P f 10 [.tmp 2, .tmp 3] JE) : Qne P f := by
 intro x hx
 refine Qn rfl rfl b ?_
 rcases ZF x with ⟨rfl, h⟩ | ⟨rfl, h⟩ | ⟨rfl, h⟩ | ⟨h2, h3, h4, h⟩
 ·simp (disch := omega) only [rq, simprocAttr, JE]
 ·simp (disch := omega) only [rq, simprocAttr, JE]
 ·simp (disch := omega) only [rq, simprocAttr, JE]
 ·exact absurd h hx
theorem QAK {x : Int} (h : -2147483648 ≤ x ∧ x ≤ 2147483647) : Qu true .i64 x 4 = some (.int .i64 (x * 16)) := by
 show some (AV.int .i64 (IntKind.i64.wrap (x * 16))) = _
 rw [ZT (by omega) (by omega)]
theorem QAJ {x : Int} (h : -2147483648 ≤ x ∧ x ≤ 2147483647) : Qu true .i64 x 5 = some (.int .i64 (x * 32)) := by
 show some (AV.int .i64 (IntKind.i64.wrap (x * 32))) = _
 rw [ZT (by omega) (by omega)]
theorem QAF (x : Int) : Qu false .i64 x 4 = some (.int .i64 (x / 16)) := by
 show some (AV.int .i64 (x.fdiv 16)) = _
 rw [qO _ (by omega)]
theorem QAE (x : Int) : Qu false .i64 x 5 = some (.int .i64 (x / 32)) := by
 show some (AV.int .i64 (x.fdiv 32)) = _
 rw [qO _ (by omega)]
def Qnd (P : Prg) (f : Nat) : Prop := ∀ (b l : Int), -2147483648 ≤ l ∧ l ≤ 2147483647 → VC P f [.int .i64 (if b = 8 then 4 else 5), .int .i32 l] (.int .i32 (Jj b l))
theorem Qrk {P : Prg} {f : Nat} (b : Qf P f 16 [.tmp 4] QaJ) : Qnd P f := by
 intro x l hl
 refine Qn rfl rfl b ?_
 have e1 : l * 16 - l = 15 * l := by omega
 have e2 : l * 32 - l = 31 * l := by omega
 have a := QAK hl
 have c := QAJ hl
 by_cases h : x = 8
 ·simp (disch := omega) only [rq, simprocAttr, QaJ, h, Jj, a, QAF, e1]
 ·simp (disch := omega) only [rq, simprocAttr, QaJ, qa h, Jj, c, QAE, e2]
def Qnf (P : Prg) (f : Nat) : Prop := ∀ (b l : Int), J0 b ≠ 0 → -2147483648 ≤ l ∧ l ≤ 2147483647 → VC P f [.int .i64 b, .int .i32 l] (.tup [.int .i32 (Jj b l), .int .i64 0])
theorem Qrm {P : Prg} {f fS fg : Nat} (b : Qf P f 19 [.tmp 4, .tmp 5] (Qb2 fS fg)) (hS : Qne P fS) (hg : Qnd P fg) : Qnf P f := by
 intro x l hx hl
 refine Qn rfl rfl b ?_
 simp (disch := omega) only [rq, simprocAttr, Qb2]
 refine Qa (hS x hx) ?_
 simp (disch := omega) only [rq, simprocAttr]
 refine Qa (hg x l hl) ?_
 simp (disch := omega) only [rq, simprocAttr]
structure Qa4 where
 bits : Int
 last : Int
 fl : JU
def Zd (c : Qa4) : List AV := .int .i64 c.bits :: .int .i32 c.last :: Ql c.fl
def Qyd (c : Qa4) : Prop := J0 c.bits ≠ 0 ∧ c.fl.sh = QaV c.bits ∧ Qbx c.fl ∧ (-2147483648 ≤ c.last ∧ c.last ≤ 2147483647)
def Qeh : Qa4 := ⟨0, 0, Qjz⟩
theorem ZN {c : Qa4} (h : Qbx c.fl) : (Zd c).length = 35 := by simp [Zd, QX h]
theorem Z6 (c : Qa4) : (Zd c).all AV.one = true := by simp [Zd, AV.one, Q3]
theorem Qbm (c : Qa4) : isDL (Zd c) = true := by simp [Zd, isDL, isD, Za]
theorem QsE (b : Int) : QaV b = 9 ∨ QaV b = 10 := by unfold QaV; split <;> simp
theorem QsN {b : Int} {t : List Int} (h1 : t.length = 16) (h2 : I32 t) : Qbx (QgK b t) := ⟨h1, by simp [QgK, z16], h2, fun x hx => by simp [QgK, z16] at hx; omega⟩
theorem QbB : Zd Qeh = z2L := rfl
def QaU (b : Int) (t : List Int) : Qa4 := ⟨b, 0, QgK b t⟩
def Qmk (b : Int) (t : List Int) : AV := if J0 b = 0 then .tup [.agg (Zd Qeh), .int .i64 2] else .tup [.agg (Zd (QaU b t)), .int .i64 0]
def Qk0 (P : Prg) (f : Nat) : Prop := ∀ (b : Int) (t : List Int), t.length = 16 → I32 t → VC P f [.int .i64 b, .agg (ks .i32 t)] (Qmk b t)
theorem Qs4 (b : Int) (t : List Int) : isD (Qmk b t) = true := by unfold Qmk; split <;> simp [isD, isDL, Qbm]
theorem Qxx {P : Prg} {f fT t0 t1 t2 : Nat} (b : Qf P f 21 [.cell 4 t1, .tmp 5] (QdR fT t0 t1 t2)) (ht : ZE P t1 = some (some 35)) (hT : Qjd P fT) : Qk0 P f := by
 intro x t hl hI
 have hk : (ks .i32 t).length = 16 := by simp [Qd, hl]
 have h1 := Z4 .i32 t
 have tk16 : (ks .i32 t).take 16 = ks .i32 t := Qw (by omega)
 have hok : Qbx (QgK x t) := QsN hl hI
 have l1 := QX hok
 have t1' : (Ql (QgK x t)).take 33 = Ql (QgK x t) := Qw (by omega)
 have o1 := Q3 (QgK x t)
 have lc := ZN (c := QaU x t) hok
 have tc : (Zd (QaU x t)).take 35 = Zd (QaU x t) := Qw (by omega)
 have oc := Z6 (QaU x t)
 have mk : AV.int .i64 x :: .int .i32 0 :: Ql (QgK x t) = Zd (QaU x t) := rfl
 refine Qn (by simp [isDL, isD, ZA]) (Qs4 _ _) b ?_
 simp (disch := omega) only [rq, simprocAttr, QdR, hk, h1, tk16]
 refine Qa (hT x t hl) ?_
 by_cases h0 : J0 x = 0
 ·simp (disch := omega) only [rq, simprocAttr, Qei, h0, Qmk, J5, QbB, QL, ht]
 ·simp (disch := omega) only [rq, simprocAttr, Qei, qa h0, Qmk, l1, t1', o1, lc, tc, oc, mk, QbB, QL, ht]
theorem Qxw {c : Qa4} (h : Qbx c.fl) : ((Zd c).drop 2).take 33 = Ql c.fl := by
 simp only [Zd, yY, List.drop_zero]
 exact Qw (by rw [QX h]; omega)
theorem Qxv {c : Qa4} (h : Qbx c.fl) : ((Zd c).drop 3).take 16 = ks .i32 c.fl.tp := Qpc h
def Qnj (P : Prg) (f : Nat) : Prop := ∀ c : Qa4, Qyd c → VC P f [.agg (Zd c)] (.int .i64 0)
theorem QrA {P : Prg} {f fT t0 t1 : Nat} (b : Qf P f 24 [.tmp 2] (Qb6 fT t0 t1)) (hT : Qjd P fT) : Qnj P f := by
 intro c ⟨h1, h2, h3, h4⟩
 have lc := ZN h3
 have oc := Z6 c
 have e0 : (Zd c).drop 0 = .int .i64 c.bits :: .int .i32 c.last :: Ql c.fl := rfl
 have e2 : (Zd c).drop 2 = .int .i64 c.fl.sh :: (ks .i32 c.fl.tp ++ ks .i32 c.fl.ps) := rfl
 have et := Qxv h3
 have hk : (ks .i32 c.fl.tp).length = 16 := by simp [Qd, h3.1]
 have hok : Qbx (QgK c.bits c.fl.tp) := QsN h3.1 h3.2.2.1
 have l1 := QX hok
 have t1' : (Ql (QgK c.bits c.fl.tp)).take 33 = Ql (QgK c.bits c.fl.tp) := Qw (by omega)
 have o1 := Q3 (QgK c.bits c.fl.tp)
 have en : (Ql (QgK c.bits c.fl.tp)).drop 0 = .int .i64 (QaV c.bits) :: (ks .i32 c.fl.tp ++ ks .i32 z16) := rfl
 have dn : (Ql (QgK c.bits c.fl.tp)).drop 33 = [] := qP (by omega)
 refine Qn (by simp [isDL, isD, Qbm]) rfl b ?_
 simp (disch := omega) only [rq, simprocAttr, Qb6, lc, oc, ↓e0, et]
 refine Qa (hT c.bits c.fl.tp h3.1) ?_
 simp (disch := omega) only [rq, simprocAttr, Qei, qa h1, l1, t1', o1, ↓en, ↓e2, h2, dn]
def Qka (c : Qa4) (y : Int) : Int := w32 (Qmo c.fl y + Jj c.bits c.last)
def J4 (c : Qa4) (y : Int) : Qa4 := ⟨c.bits, Qka c y, Qvg c.fl y⟩
theorem QlT {c : Qa4} (h : Qyd c) (y : Int) : Qyd (J4 c y) := ⟨h.1, h.2.1, Qf5 h.2.2.1 (JJ _) _, JJ _⟩
def Qsj (P : Prg) (f : Nat) : Prop := ∀ (c : Qa4) (y : Int), Qyd c → VC P f [.agg (Zd c), .int .i32 y] (.tup [.int .i32 (Qka c y), .agg (Zd (J4 c y)), .int .i64 0])
theorem QuR {P : Prg} {f fC fG fF t0 t1 : Nat} (b : Qf P f 46 [.tmp 4, .cell 5 t0, .tmp 6] (QcU fC fG fF t0 t1)) (ht : ZE P t0 = some (some 35)) (hC : Qnj P fC) (hG : Qnf P fG) (hF : Qse P fF) : Qsj P f := by
 intro c x hc
 obtain ⟨h1, h2, h3, h4⟩ := id hc
 have hs : c.fl.sh = 9 ∨ c.fl.sh = 10 := by rw [h2]; exact QsE _
 have lc := ZN h3
 have tc : (Zd c).take 35 = Zd c := Qw (by omega)
 have oc := Z6 c
 have e0 : (Zd c).drop 0 = .int .i64 c.bits :: .int .i32 c.last :: Ql c.fl := rfl
 have e1 : (Zd c).drop 1 = .int .i32 c.last :: Ql c.fl := rfl
 have e2 := Qxw h3
 have hok := QlT hc x
 have l1 := QX hok.2.2.1
 have t1' : (Ql (J4 c x).fl).take 33 = Ql (J4 c x).fl := Qw (by omega)
 have o1 := Q3 (J4 c x).fl
 have d1 : (Ql (J4 c x).fl).drop 33 = [] := qP (by omega)
 have l2 := ZN hok.2.2.1
 have t2 : (Zd (J4 c x)).take 35 = Zd (J4 c x) := Qw (by omega)
 have o2 := Z6 (J4 c x)
 have mk : AV.int .i64 c.bits :: .int .i32 (Qka c x) :: Ql (J4 c x).fl = Zd (J4 c x) := rfl
 have hfe : Qvg c.fl x = (J4 c x).fl := rfl
 have hye : w32 (Qmo c.fl x + Jj c.bits c.last) = Qka c x := rfl
 refine Qn (by simp [isDL, isD, Qbm]) (by simp [isD, isDL, Qbm]) b ?_
 simp (disch := omega) only [rq, simprocAttr, QcU, lc, tc, oc]
 refine Qa (hC c hc) ?_
 simp (disch := omega) only [rq, simprocAttr, lc, tc, oc, ↓e0, ↓e1]
 refine Qa (hG c.bits c.last h1 h4) ?_
 simp (disch := omega) only [rq, simprocAttr, lc, tc, oc, e2, Qaw]
 refine Qa (hF c.fl x h3 hs) ?_
 rw [hfe]
 simp (disch := omega) only [rq, simprocAttr, lc, tc, oc, ↓e0, l1, t1', o1, d1, l2, t2, o2, mk, QL, ht, QbB, Qaw, hye]
def Qjb (P : Prg) (f : Nat) : Prop := ∀ x : Int, VC P f [.int .i64 x] (.int .i32 (w32 x))
theorem Quk {P : Prg} {f : Nat} (b : Qf P f 7 [.tmp 2] Jt) : Qjb P f := by
 intro x
 have e : IntKind.i32.wrap (IntKind.u32.wrap (IntKind.u64.wrap x)) = w32 x := by
  rw [ZS, Qhi, Qaw, Qkq, Qkq]; omega
 refine Qn rfl rfl b ?_
 simp (disch := omega) only [rq, simprocAttr, Jt, e]
theorem Qce {x : Int} (h : x < 0) (n : Int) : x.tdiv n = -(-x / n) ∧ x.tmod n = -(-x % n) := by
 have e : x = -(-x) := by omega
 constructor
 ·rw [e, Int.neg_tdiv, qJ (by omega)]; simp
 ·rw [e, Int.neg_tmod, jn (by omega)]; simp
def Qnk (P : Prg) (f : Nat) : Prop := ∀ (b l : Int), -2147483648 ≤ l ∧ l ≤ 2147483647 → VC P f [.int .i64 (if b = 8 then 4 else 5), .int .i32 l] (.int .i32 (Jj b l))
theorem QoR {P : Prg} {f : Nat} (b : Qf P f 26 [.tmp 4] QN) : Qnk P f := by
 intro x l hl
 have hr := QgS x hl
 refine Qn rfl rfl b ?_
 by_cases hn : l < 0
 ·have e1 := Qce (x := 15 * l) (by omega) 16
  have e2 := Qce (x := 31 * l) (by omega) 32
  by_cases h : x = 8
  ·by_cases hm : -(15 * l) % 16 = 0
   ·have e3 : -(-(15 * l) / 16) = Jj x l := by unfold Jj; rw [qc h]; omega
    rw [← e3] at hr
    simp (disch := omega) only [rq, simprocAttr, QN, h, e1.1, e1.2, hm]
    rw [h] at e3; rw [e3]
   ·have e3 : -(-(15 * l) / 16) - 1 = Jj x l := by unfold Jj; rw [qc h]; omega
    rw [← e3] at hr
    simp (disch := omega) only [rq, simprocAttr, QN, h, e1.1, e1.2, hm]
    rw [h] at e3; rw [e3]
  ·by_cases hm : -(31 * l) % 32 = 0
   ·have e3 : -(-(31 * l) / 32) = Jj x l := by unfold Jj; rw [qa h]; omega
    rw [← e3] at hr
    simp (disch := omega) only [rq, simprocAttr, QN, qa h, e2.1, e2.2, hm, e3]
   ·have e3 : -(-(31 * l) / 32) - 1 = Jj x l := by unfold Jj; rw [qa h]; omega
    rw [← e3] at hr
    simp (disch := omega) only [rq, simprocAttr, QN, qa h, e2.1, e2.2, hm, e3]
 ·by_cases h : x = 8
  ·simp (disch := omega) only [rq, simprocAttr, QN, h, Jj]
  ·simp (disch := omega) only [rq, simprocAttr, QN, qa h, Jj]
def Qjg (P : Prg) (f : Nat) : Prop := ∀ x : Int, VC P f [.int .i64 x] (if J0 x = 0 then .tup [.int .i64 0, .int .i64 2] else .tup [.int .i64 (if x = 8 then 4 else 5), .int .i64 0])
theorem QqZ {P : Prg} {f : Nat} (b : Qf P f 12 [.tmp 2, .tmp 3] Ja) : Qjg P f := by
 intro x
 refine Qn rfl (by split <;> rfl) b ?_
 rcases ZF x with ⟨rfl, h⟩ | ⟨rfl, h⟩ | ⟨rfl, h⟩ | ⟨h2, h3, h4, h⟩ <;> simp (disch := omega) only [rq, simprocAttr, Ja, h]
def Qjk (P : Prg) (f : Nat) : Prop := QmV P f
theorem Qui {P : Prg} {f : Nat} (b : Qf P f 7 [.tmp 2] Zx) : Qjk P f := by
 intro i
 refine Qn rfl rfl b ?_
 by_cases h0 : i = 0
 ·subst h0; simp (disch := omega) only [rq, simprocAttr, Zx, Qc3, Yu]
 by_cases h1 : i < 4
 ·simp (disch := omega) only [rq, simprocAttr, Zx, Qc3, h0]
 ·simp (disch := omega) only [rq, simprocAttr, Zx, Qc3, h0]
def QxW (P : Prg) (f : Nat) : Prop := ∀ x : Int, VC P f [.int .i32 x] (.int .i32 (sgn x))
theorem Quj {P : Prg} {f : Nat} (b : Qf P f 7 [.tmp 2] Zy) : QxW P f := by
 intro x
 refine Qn rfl rfl b ?_
 by_cases h0 : x < 0
 ·simp (disch := omega) only [rq, simprocAttr, Zy, sgn]
 by_cases h1 : 0 < x
 ·simp (disch := omega) only [rq, simprocAttr, Zy, sgn]
 ·simp (disch := omega) only [rq, simprocAttr, Zy, sgn]
def QxX (P : Prg) (f : Nat) : Prop := ∀ x : JU, Qbx x → VC P f [.agg (Ql x)] (.int .i32 (w32 (Qh5 x.tp x.ps 16)))
theorem QAY {a b : Int} (ha : -2147483648 ≤ a ∧ a ≤ 2147483647) (hb : -2147483648 ≤ b ∧ b ≤ 2147483647) : -4611686018427387904 ≤ a * b ∧ a * b ≤ 4611686018427387904 := by
 have h : (a * b).natAbs ≤ 2147483648 * 2147483648 := by rw [Int.natAbs_mul]; exact jM (by omega) (by omega)
 omega
theorem Qwp {P : Prg} {f fW t0 : Nat} (b : Qf P f 28 [.tmp 2] (JQ fW t0)) (hW : Qjb P fW) : QxX P f := by
 intro x hx
 have l33 := QX hx
 have tk : (Ql x).take 33 = Ql x := Qw (by omega)
 have ho := Q3 x
 refine Qn (by simp [isDL, isD, Za]) rfl b ?_
 simp (disch := omega) only [rq, simprocAttr, JQ, l33, tk, ho]
 have z : w32 (Qh5 x.tp x.ps 0) = 0 := rfl
 refine Qg (ι := Nat) (fun k => ⟨[(4, .int .i64 k), (3, .int .i64 (w32 (Qh5 x.tp x.ps k))), (1, .ref 0 1 0)], [⟨t0, 33, 1, Ql x, 0⟩]⟩) (fun k => k ≤ 16) (fun k => 16 - k) 0 (Qk (by rw [z]; simp [Am.look])) (by omega) ?_
 intro k hk
 have hr := JJ (Qh5 x.tp x.ps k)
 by_cases hlt : k < 16
 ·have e1 := Ql8 hx hlt
  have e2 := Qgb hx hlt
  have h1 := Xn hx.2.2.1 k
  have h2 := Xn hx.2.2.2 k
  have h3 := QAY h1 h2
  have h4 := JJ (x.tp.getD k 0 * x.ps.getD k 0)
  have h5 := JJ (Qh5 x.tp x.ps (k + 1))
  have e4 : w32 (w32 (Qh5 x.tp x.ps k) + w32 (x.tp.getD k 0 * x.ps.getD k 0)) = w32 (Qh5 x.tp x.ps (k + 1)) := by rw [Qvo]; rfl
  simp (disch := omega) only [rq, simprocAttr, l33, e1, e2]
  refine Qc (hW _) ?_
  simp (disch := omega) only [rq, simprocAttr]
  refine Qc (hW _) ?_
  rw [e4]
  simp (disch := omega) only [rq, simprocAttr]
  exact ⟨k + 1, by omega, by omega, Qh⟩
 ·have e : k = 16 := by omega
  subst e
  simp (disch := omega) only [rq, simprocAttr]
def Qr9 (P : Prg) (f : Nat) : Prop := ∀ x : JU, Qbx x → x.sh = 9 ∨ x.sh = 10 → VC P f [.agg (Ql x)] (.int .i32 (Qds x))
theorem Quh {P : Prg} {f fS fW t0 : Nat} (b : Qf P f 28 [.tmp 2] (Xb fS fW t0)) (hS : QxX P fS) (hW : Qjb P fW) : Qr9 P f := by
 intro x hx hs
 have l33 := QX hx
 have tk : (Ql x).take 33 = Ql x := Qw (by omega)
 have ho := Q3 x
 have e0 : (Ql x).drop 0 = .int .i64 x.sh :: (ks .i32 x.tp ++ ks .i32 x.ps) := rfl
 have hg := Qpb x hs
 have q1 := hx.1
 have q2 := hx.2.1
 have tk32 : (ks .i32 (x.tp ++ x.ps)).take 32 = ks .i32 (x.tp ++ x.ps) := Qw (by simp [Qd]; omega)
 have hr := JJ (Qh5 x.tp x.ps 16)
 have hr2 := JJ (QbX x.sh / 2 + Qh5 x.tp x.ps 16)
 refine Qn (by simp [isDL, isD, Za]) rfl b ?_
 rcases hs with h | h
 ·have hp : QbX x.sh = 512 := by simp [QbX, h]
  have back : AV.int .i64 9 :: ks .i32 (x.tp ++ x.ps) = Ql x := by simp only [Ql, h, Qci]
  simp only [Qds, hp] at hg hr2 ⊢
  have e4 : w32 (w32 (Qh5 x.tp x.ps 16) + 256) = w32 (512 / 2 + Qh5 x.tp x.ps 16) := by rw [Qss]; congr 1; omega
  generalize hG : w32 (512 / 2 + Qh5 x.tp x.ps 16) = G at *
  simp (disch := omega) only [rq, simprocAttr, Xb, l33, tk, ho, ↓e0, h, tk32]
  simp only [back]
  refine Qa (hS x hx) ?_
  simp (disch := omega) only [rq, simprocAttr]
  refine Qa (hW _) ?_
  rw [e4]
  by_cases hn : G < 0
  ·have e5 := Qce hn 512
   by_cases hm : -G % 512 = 0
   ·have e6 : -(-G / 512) = G / 512 := by omega
    simp (disch := omega) only [rq, simprocAttr, e5.1, e5.2, hm, e6]
   ·have e6 : -(-G / 512) - 1 = G / 512 := by omega
    simp (disch := omega) only [rq, simprocAttr, e5.1, e5.2, hm, e6]
  ·simp (disch := omega) only [rq, simprocAttr]
 ·have hp : QbX x.sh = 1024 := by simp [QbX, h]
  have back : AV.int .i64 10 :: ks .i32 (x.tp ++ x.ps) = Ql x := by simp only [Ql, h, Qci]
  simp only [Qds, hp] at hg hr2 ⊢
  have e4 : w32 (w32 (Qh5 x.tp x.ps 16) + 512) = w32 (1024 / 2 + Qh5 x.tp x.ps 16) := by rw [Qss]; congr 1; omega
  generalize hG : w32 (1024 / 2 + Qh5 x.tp x.ps 16) = G at *
  simp (disch := omega) only [rq, simprocAttr, Xb, l33, tk, ho, ↓e0, h, tk32]
  simp only [back]
  refine Qa (hS x hx) ?_
  simp (disch := omega) only [rq, simprocAttr]
  refine Qa (hW _) ?_
  rw [e4]
  by_cases hn : G < 0
  ·have e5 := Qce hn 1024
   by_cases hm : -G % 1024 = 0
   ·have e6 : -(-G / 1024) = G / 1024 := by omega
    simp (disch := omega) only [rq, simprocAttr, e5.1, e5.2, hm, e6]
   ·have e6 : -(-G / 1024) - 1 = G / 1024 := by omega
    simp (disch := omega) only [rq, simprocAttr, e5.1, e5.2, hm, e6]
  ·simp (disch := omega) only [rq, simprocAttr]
theorem Qow (x : Int) : sgn x = -1 ∨ sgn x = 0 ∨ sgn x = 1 := by unfold sgn; split <;> (try split) <;> omega
theorem QtM (i : Nat) : Qc3 i = 1 ∨ Qc3 i = 2 ∨ Qc3 i = 4 := by unfold Qc3; split <;> (try split) <;> omega
theorem Qyx (i : Nat) (a b : Int) : (-4 ≤ Qc3 i * sgn a ∧ Qc3 i * sgn a ≤ 4) ∧ (-4 ≤ Qc3 i * sgn a * sgn b ∧ Qc3 i * sgn a * sgn b ≤ 4) := by
 rcases QtM i with h | h | h <;> rcases Qow a with g | g | g <;> rcases Qow b with k | k | k <;> rw [h, g, k] <;> decide
def Qhd (P : Prg) (f : Nat) : Prop := ∀ (x : JU) (w : Int), Qbx x → VC P f [.agg (Ql x), .int .i32 w] (.agg (Ql (JZ x w)))
theorem QlM {P : Prg} {f fS fG t0 : Nat} (b : Qf P f 29 [.cell 4 t0] (Xs fS fG t0)) (ht : ZE P t0 = some (some 33)) (hS : Qjk P fS) (hG : QxW P fG) : Qhd P f := by
 intro x w hx
 have l33 := QX hx
 have tk : (Ql x).take 33 = Ql x := Qw (by omega)
 have ho := Q3 x
 have lw := QX (Qd1 hx w)
 have tkw : (Ql (JZ x w)).take 33 = Ql (JZ x w) := Qw (by omega)
 have how := Q3 (JZ x w)
 refine Qn (by simp [isDL, isD, Za]) (by simp [isD, Za]) b ?_
 simp (disch := omega) only [rq, simprocAttr, Xs, l33, tk, ho]
 refine Qg (ι := Nat) (fun k => ⟨[(5, .int .i64 k), (4, .ref 1 1 0), (2, .ref 0 1 0), (1, .int .i32 w)], [⟨t0, 33, 1, Ql (lf x w k), 0⟩, ⟨t0, 33, 1, Ql Qjz, 0⟩]⟩) (fun k => k ≤ 16) (fun k => 16 - k) 0 (by rw [show lf x w 0 = x by simp [lf, QgN hx]]; exact Qh) (by omega) ?_
 intro k hk
 by_cases hlt : k < 16
 ·have hok := QiJ hx w k
  have e2 := Ql8 hok hlt
  have e2p := Qgb hok hlt
  have e3 := fun v => QiR hok hlt v
  have e4 := QkJ x w hlt
  have e5 := QX hok
  have hu := Qo3 x w hlt
  have ef : ∀ v, ({ lf x w k with tp := (lf x w k).tp.set k v } : JU) = { x with tp := (J7 x w k).set k v } := fun _ => rfl
  have e7 : (lf x w k).tp.getD k 0 = x.tp.getD k 0 := e4
  have e8 : (lf x w k).ps.getD k 0 = x.ps.getD k 0 := rfl
  have hr := Qyx k (x.ps.getD k 0) w
  simp only [Qya] at hu
  simp (disch := omega) only [rq, simprocAttr, e2, e7]
  refine Qc (hS k) ?_
  simp (disch := omega) only [rq, simprocAttr, e2p, e8, e5]
  refine Qc (hG _) ?_
  simp (disch := omega) only [rq, simprocAttr]
  refine Qc (hG _) ?_
  simp (disch := omega) only [rq, simprocAttr, e3, e5, Qaw, ef, hu]
  exact ⟨k + 1, by omega, by omega, Qh⟩
 ·have e : k = 16 := by omega
  subst e
  have hF : lf x w 16 = JZ x w := rfl
  rw [hF]
  simp (disch := omega) only [rq, simprocAttr, lw, tkw, how, QL, ht, J5]
def QeW (x : JU) (k : Nat) : List Int := (List.range 16).map fun j => if k < j then x.ps.getD (j - 1) 0 else x.ps.getD j 0
def pf (x : JU) (k : Nat) : JU := { x with ps := QeW x k }
theorem QAS {x : JU} (h : Qbx x) : pf x 15 = x := by
 have := QkB h.2.1
 have e : QeW x 15 = x.ps := by
  refine Eq.trans ?_ this
  simp only [QeW]
  apply qU
  intro j hj
  rw [qa (by simp at hj; omega)]
 simp [pf, e]
theorem QCb {x : JU} (h : Qbx x) (v : Int) : (QeW x 0).set 0 v = v :: x.ps.take 15 := by
 apply yL (by simp [QeW, h.2.1])
 intro i h1 h2
 rw [jI]
 simp only [QeW, jJ, Ym]
 cases i with
 | zero => simp
 | succ i =>
  have hi : i < x.ps.length := by simp [QeW] at h1; have := h.2.1; omega
  simp [qe, qg hi]
theorem QwA (x : JU) {k : Nat} (h0 : 0 < k) (hk : k < 16) : (QeW x k).set k (x.ps.getD (k - 1) 0) = QeW x (k - 1) := by
 apply yL (by simp [QeW])
 intro i h1 h2
 rw [jI]
 simp only [QeW, jJ, Ym]
 by_cases e : k = i
 ·subst e; rw [qc rfl, qc (by omega)]
 ·rw [qa e]
  by_cases h : k < i
  ·rw [qc h, qc (by omega)]
  ·rw [qa h, qa (by omega)]
theorem QDh {x : JU} (h : Qbx x) (k : Nat) : Qbx (pf x k) := by
 refine ⟨h.1, by simp [pf, QeW], h.2.2.1, fun v hv => ?_⟩
 simp only [pf, QeW, qY] at hv
 obtain ⟨i, _, rfl⟩ := hv
 split
 ·exact Xn h.2.2.2 _
 ·exact Xn h.2.2.2 _
theorem QAU (x : JU) {k j : Nat} (hj : j < 16) (h : j ≤ k) : (pf x k).ps.getD j 0 = x.ps.getD j 0 := by
 simp only [pf, QeW]
 rw [qe]
 simp [hj]
 omega
def Qjj (P : Prg) (f : Nat) : Prop := ∀ (x : JU) (v : Int), Qbx x → -2147483648 ≤ v ∧ v ≤ 2147483647 → VC P f [.agg (Ql x), .int .i32 v] (.agg (Ql (Qej x v)))
theorem QoQ {P : Prg} {f t0 : Nat} (b : Qf P f 22 [.cell 4 t0] (XI t0)) (ht : ZE P t0 = some (some 33)) : Qjj P f := by
 intro x v hx hv
 have l33 := QX hx
 have ho := Q3 x
 have lw := QX (Qq6 hx hv)
 have tkw : (Ql (Qej x v)).take 33 = Ql (Qej x v) := Qw (by omega)
 have how := Q3 (Qej x v)
 refine Qn (by simp [isDL, isD, Za]) (by simp [isD, Za]) b ?_
 simp (disch := omega) only [rq, simprocAttr, XI, l33, ho]
 refine Qg (ι := Nat) (fun k => ⟨[(5, .int .i64 k), (4, .ref 1 1 0), (2, .ref 0 1 0), (1, .int .i32 v)], [⟨t0, 33, 1, Ql (pf x k), 0⟩, ⟨t0, 33, 1, Ql Qjz, 0⟩]⟩) (fun k => k ≤ 15) (fun k => k) 15 (by rw [QAS hx]; exact Qh) (by omega) ?_
 intro k hk
 have hok := QDh hx k
 have e5 := QX hok
 by_cases h0 : 0 < k
 ·have e2 := Qgb hok (k := k - 1) (by omega)
  have e3 := fun v => Qdt hok (k := k) (by omega) v
  have e7 := QAU x (k := k) (j := k - 1) (by omega) (by omega)
  have hu := QwA x h0 (by omega)
  have ef : ∀ v, ({ pf x k with ps := (pf x k).ps.set k v } : JU) = { x with ps := (QeW x k).set k v } := fun _ => rfl
  simp (disch := omega) only [rq, simprocAttr, e2, e7, e3, e5, ef, hu]
  exact ⟨k - 1, by omega, by omega, by rw [show ((k - 1 : Nat) : Int) = (k : Int) - 1 by omega]; exact Qh⟩
 ·have e : k = 0 := by omega
  subst e
  have e3 : (Ql (pf x 0)).take 17 ++ [.int .i32 v] ++ (Ql (pf x 0)).drop 18 = Ql (Qej x v) := by
   have := Qdt hok (k := 0) (by omega) v
   simp only [yP, pf, QCb hx] at this
   exact this
  simp (disch := omega) only [rq, simprocAttr, Yu, e3, e5, lw, tkw, how, QL, ht, J5]
def QdT (P : Prg) (f : Nat) : Prop := ∀ (x : JU) (y : Int), Qbx x → x.sh = 9 ∨ x.sh = 10 → -2147483648 ≤ y ∧ y ≤ 2147483647 → VC P f [.agg (Ql x), .int .i32 y] (.tup [.int .i32 (Qmo x y), .agg (Ql (Qvg x y))])
theorem QlL {P : Prg} {f fT fW fL fP t0 : Nat} (b : Qf P f 20 [.tmp 4, .cell 5 t0] (Xr fT fW fL fP t0)) (ht : ZE P t0 = some (some 33)) (hT : Qr9 P fT) (hW : Qjb P fW) (hL : Qhd P fL) (hP : Qjj P fP) : QdT P f := by
 intro x y hx hs hy
 have l1 := QX hx
 have t1 : (Ql x).take 33 = Ql x := Qw (by omega)
 have o1 := Q3 x
 have hv : -2147483648 ≤ Qmo x y ∧ Qmo x y ≤ 2147483647 := JJ _
 have l3 := QX (Qf5 hx hv y)
 have t3 : (Ql (Qvg x y)).take 33 = Ql (Qvg x y) := Qw (by unfold Qvg; omega)
 have o3 := Q3 (Qvg x y)
 have hg := Qpb x hs
 have hw : w32 (y + Qds x) = Qmo x y := rfl
 have hf : Qej (JZ x y) (Qmo x y) = Qvg x y := rfl
 rw [← Qvg] at l3
 refine Qn (by simp [isDL, isD, Za]) (by simp [isD, isDL, Za]) b ?_
 simp (disch := omega) only [rq, simprocAttr, Xr, l1, t1, o1]
 refine Qa (hT x hx hs) ?_
 simp (disch := omega) only [rq, simprocAttr]
 refine Qa (hW _) ?_
 rw [hw]
 simp (disch := omega) only [rq, simprocAttr, l1, t1, o1]
 refine Qa (hL x _ hx) ?_
 simp (disch := omega) only [rq, simprocAttr]
 refine Qa (hP _ _ (Qd1 hx _) hv) ?_
 rw [hf]
 simp (disch := omega) only [rq, simprocAttr, l3, t3, o3, QL, ht, J5]
def QfJ (P : Prg) (f : Nat) : Prop := ∀ c : Qa4, Qyd c → VC P f [.agg (Zd c)] (.int .i64 (Jj c.bits c.last))
theorem QoP {P : Prg} {f fB t0 : Nat} (b : Qf P f 12 [.tmp 2] (ZP fB t0)) (hB : Qnk P fB) : QfJ P f := by
 intro c ⟨h1, h2, h3, h4⟩
 have lc := ZN h3
 have oc := Z6 c
 have e0 : (Zd c).drop 0 = .int .i64 c.bits :: .int .i32 c.last :: Ql c.fl := rfl
 have e1 : (Zd c).drop 1 = .int .i32 c.last :: Ql c.fl := rfl
 have hr := QgS c.bits h4
 have hb := hB c.bits c.last h4
 refine Qn (by simp [isDL, isD, Qbm]) rfl b ?_
 by_cases h8 : c.bits = 8
 ·rw [qc h8] at hb
  simp (disch := omega) only [rq, simprocAttr, ZP, lc, oc, ↓e0, ↓e1]
  refine Qa hb ?_
  simp (disch := omega) only [rq, simprocAttr]
 ·rw [qa h8] at hb
  simp (disch := omega) only [rq, simprocAttr, ZP, lc, oc, ↓e0, ↓e1, h8]
  refine Qa hb ?_
  simp (disch := omega) only [rq, simprocAttr]
def QdS (P : Prg) (f : Nat) : Prop := ∀ (c : Qa4) (y : Int), Qyd c → -2147483648 ≤ y ∧ y ≤ 2147483647 → VC P f [.agg (Zd c), .int .i32 y] (.tup [.int .i32 (Qka c y), .agg (Zd (J4 c y))])
theorem QlJ {P : Prg} {f fS fB fW t0 t1 : Nat} (b : Qf P f 28 [.tmp 4, .cell 5 t0] (Xq fS fB fW t0 t1)) (ht : ZE P t0 = some (some 35)) (hS : QdT P fS) (hB : QfJ P fB) (hW : Qjb P fW) : QdS P f := by
 intro c y hc hy
 obtain ⟨h1, h2, h3, h4⟩ := id hc
 have hs : c.fl.sh = 9 ∨ c.fl.sh = 10 := by rw [h2]; exact QsE _
 have lc := ZN h3
 have tc : (Zd c).take 35 = Zd c := Qw (by omega)
 have oc := Z6 c
 have e0 : (Zd c).drop 0 = .int .i64 c.bits :: .int .i32 c.last :: Ql c.fl := rfl
 have e2 := Qxw h3
 have hr := QgS c.bits h4
 have hbr : -2147483648 ≤ Qmo c.fl y ∧ Qmo c.fl y ≤ 2147483647 := JJ _
 have hok := QlT hc y
 have l1 := QX hok.2.2.1
 have t1' : (Ql (J4 c y).fl).take 33 = Ql (J4 c y).fl := Qw (by omega)
 have o1 := Q3 (J4 c y).fl
 have d1 : (Ql (J4 c y).fl).drop 33 = [] := qP (by omega)
 have l2 := ZN hok.2.2.1
 have t2 : (Zd (J4 c y)).take 35 = Zd (J4 c y) := Qw (by omega)
 have o2 := Z6 (J4 c y)
 have mk : AV.int .i64 c.bits :: .int .i32 (Qka c y) :: Ql (J4 c y).fl = Zd (J4 c y) := rfl
 have hz : w32 (Qmo c.fl y + Jj c.bits c.last) = Qka c y := rfl
 have hfe : Qvg c.fl y = (J4 c y).fl := rfl
 refine Qn (by simp [isDL, isD, Qbm]) (by simp [isD, isDL, Qbm]) b ?_
 simp (disch := omega) only [rq, simprocAttr, Xq, lc, tc, oc, e2]
 refine Qa (hS c.fl _ h3 hs hy) ?_
 rw [hfe]
 simp (disch := omega) only [rq, simprocAttr, lc, tc, oc, l1, t1', o1, d1]
 refine Qa (hB c hc) ?_
 simp (disch := omega) only [rq, simprocAttr]
 refine Qa (hW _) ?_
 rw [hz]
 simp (disch := omega) only [rq, simprocAttr, lc, tc, oc, ↓e0, l1, t1', o1, d1, l2, t2, o2, mk, QL, ht, QbB]
theorem Qwq {P : Prg} {f fS t0 t1 : Nat} (b : Qf P f 22 [.cell 4 t1, .tmp 5] (JR fS t0 t1)) (ht : ZE P t1 = some (some 33)) (hS : Qjg P fS) : Qjd P f := by
 intro x t hl
 have hk : (ks .i32 t).length = 16 := by simp [Qd, hl]
 have h1 := Z4 .i32 t
 have tk16 : (ks .i32 t).take 16 = ks .i32 t := Qw (by omega)
 have hs := hS x
 have fin : ∀ s : Int, .int .i64 s :: (ks .i32 t ++ [.int .i32 0, .int .i32 0, .int .i32 0, .int .i32 0, .int .i32 0, .int .i32 0, .int .i32 0, .int .i32 0, .int .i32 0, .int .i32 0, .int .i32 0, .int .i32 0, .int .i32 0, .int .i32 0, .int .i32 0, .int .i32 0]) = Ql ⟨s, t, z16⟩ := fun _ => rfl
 have hl33 : ∀ s : Int, (Ql ⟨s, t, z16⟩).length = 33 := fun s => by simp [Ql, Qd, hl, z16]
 have ho := fun s => Q3 ⟨s, t, z16⟩
 have tk : ∀ s : Int, (Ql ⟨s, t, z16⟩).take 33 = Ql ⟨s, t, z16⟩ := fun s => Qw (by rw [hl33]; omega)
 refine Qn (by simp [isDL, isD, ZA]) (QsZ _ _) b ?_
 simp (disch := omega) only [rq, simprocAttr, JR, hk, h1, tk16]
 refine Qa hs ?_
 rcases ZF x with ⟨rfl, h⟩ | ⟨rfl, h⟩ | ⟨rfl, h⟩ | ⟨h2, h3, h4, h⟩
 ·simp (disch := omega) only [rq, simprocAttr, Qei, h, hk, h1, tk16, fin, hl33, ho, tk, QL, ht, QgK, QaV]
 ·simp (disch := omega) only [rq, simprocAttr, Qei, h, hk, h1, tk16, fin, hl33, ho, tk, QL, ht, QgK, QaV]
 ·simp (disch := omega) only [rq, simprocAttr, Qei, h, hk, h1, tk16, fin, hl33, ho, tk, QL, ht, QgK, QaV]
 ·simp (disch := omega) only [rq, simprocAttr, Qei, h, hk, h1, tk16, fin, hl33, ho, tk, QL, ht, J5]
theorem Qwn {P : Prg} {f fT t0 t1 t2 : Nat} (b : Qf P f 20 [.cell 4 t1, .tmp 5] (JP fT t0 t1 t2)) (ht : ZE P t1 = some (some 35)) (hT : Qjd P fT) : Qk0 P f := by
 intro x t hl hI
 have hk : (ks .i32 t).length = 16 := by simp [Qd, hl]
 have h1 := Z4 .i32 t
 have tk16 : (ks .i32 t).take 16 = ks .i32 t := Qw (by omega)
 have hok : Qbx (QgK x t) := QsN hl hI
 have l1 := QX hok
 have t1' : (Ql (QgK x t)).take 33 = Ql (QgK x t) := Qw (by omega)
 have o1 := Q3 (QgK x t)
 have lc := ZN (c := QaU x t) hok
 have tc : (Zd (QaU x t)).take 35 = Zd (QaU x t) := Qw (by omega)
 have oc := Z6 (QaU x t)
 have mk : AV.int .i64 x :: .int .i32 0 :: Ql (QgK x t) = Zd (QaU x t) := rfl
 refine Qn (by simp [isDL, isD, ZA]) (Qs4 _ _) b ?_
 simp (disch := omega) only [rq, simprocAttr, JP, hk, h1, tk16]
 refine Qa (hT x t hl) ?_
 by_cases h0 : J0 x = 0
 ·simp (disch := omega) only [rq, simprocAttr, Qei, h0, Qmk, J5, QbB, QL, ht]
 ·simp (disch := omega) only [rq, simprocAttr, Qei, qa h0, Qmk, l1, t1', o1, lc, tc, oc, mk, QbB, QL, ht]
theorem Qyl {a : Nat} (h : a < 4294967296) : (BitVec.ofInt 32 (a : Int) ^^^ BitVec.ofInt 32 4294967295).toNat = 4294967295 - a := by
 have e : BitVec.ofInt 32 4294967295 = BitVec.allOnes 32 := by decide
 rw [e, BitVec.xor_allOnes, BitVec.toNat_not]
 have : (BitVec.ofInt 32 (a : Int)).toNat = a := by simp; omega
 rw [this]
theorem Qvi {a : Nat} (h : a < 4294967296) : (BitVec.ofInt 32 (a : Int) ^^^ BitVec.ofInt 32 0).toNat = a := by
 have : (BitVec.ofInt 32 (a : Int)).toNat = a := by simp; omega
 rw [Yv, this]
 simp
def Zm (n : Int) : Int := if n % 2 = 0 then n / 2 else -(n / 2) - 1
def Qha (P : Prg) (f : Nat) : Prop := ∀ n : Int, 0 ≤ n ∧ n < 4294967296 → VC P f [.int .u32 n] (.int .i32 (Zm n))
theorem QBy {a : Nat} (h : a < 4294967296) : (BitVec.ofInt 32 (a : Int) &&& BitVec.ofInt 32 1).toNat = a % 2 := by
 have : (BitVec.ofInt 32 (a : Int)).toNat = a := by simp; omega
 rw [Yw, this]
 exact Nat.and_one_is_mod a
theorem Qw9 {P : Prg} {f : Nat} (b : Qf P f 11 [.tmp 2] QbL) : Qha P f := by
 intro n hn
 refine Qn rfl rfl b ?_
 have a1 : Qu false .u32 n 1 = some (.int .u32 (n / 2)) := by
  show some (AV.int .u32 (n.fdiv 2)) = _
  rw [qO _ (by omega)]
 have a2 : (((BitVec.ofInt IntKind.u32.bits n &&& BitVec.ofInt IntKind.u32.bits 1).toNat : Nat) : Int) = n % 2 := by
  show (((BitVec.ofInt 32 n &&& BitVec.ofInt 32 1).toNat : Nat) : Int) = n % 2
  have := QBy (a := n.toNat) (by omega)
  rw [show ((n.toNat : Nat) : Int) = n by omega] at this
  rw [this]; omega
 by_cases h : n % 2 = 0
 ·have a3 : (((BitVec.ofInt IntKind.i32.bits (n / 2) ^^^ BitVec.ofInt IntKind.i32.bits 0).toNat : Nat) : Int) = n / 2 := by
   show (((BitVec.ofInt 32 (n / 2) ^^^ BitVec.ofInt 32 0).toNat : Nat) : Int) = n / 2
   have := Qvi (a := (n / 2).toNat) (by omega)
   rw [show (((n / 2).toNat : Nat) : Int) = n / 2 by omega] at this
   rw [this]; omega
  simp (disch := omega) only [rq, simprocAttr, QbL, a1, a2, h, a3, Zm]
 ·have h1 : n % 2 = 1 := by omega
  have a3 : (((BitVec.ofInt IntKind.i32.bits (n / 2) ^^^ BitVec.ofInt IntKind.i32.bits (-1)).toNat : Nat) : Int) = 4294967295 - n / 2 := by
   show (((BitVec.ofInt 32 (n / 2) ^^^ BitVec.ofInt 32 (-1)).toNat : Nat) : Int) = 4294967295 - n / 2
   have := Qyl (a := (n / 2).toNat) (by omega)
   rw [show (((n / 2).toNat : Nat) : Int) = n / 2 by omega] at this
   rw [show BitVec.ofInt 32 (-1) = BitVec.ofInt 32 4294967295 by decide, this]; omega
  have a4 : IntKind.i32.wrap (4294967295 - n / 2) = -(n / 2) - 1 := by rw [Qaw, Qkq]; omega
  simp (disch := omega) only [rq, simprocAttr, QbL, a1, a2, h1, a3, a4, Zm]
theorem Quo {P : Prg} {f : Nat} (b : Qf P f 15 [.tmp 2] Xc) : Qha P f := by
 intro n hn
 refine Qn rfl rfl b ?_
 by_cases h : n % 2 = 0
 ·simp (disch := omega) only [rq, simprocAttr, Xc, h, Zm]
 ·have e := (Qce (x := 0 - (n + 1)) (by omega) 2).1
  have e2 : -(-(0 - (n + 1)) / 2) = -(n / 2) - 1 := by omega
  simp (disch := omega) only [rq, simprocAttr, Xc, h, Zm, e, e2]
theorem QkL {K : IntKind} {l : List Int} {i : Nat} (h : i < l.length) (v : Int) : (ks K l).take i ++ [.int K v] ++ (ks K l).drop (i + 1) = ks K (l.set i v) := by
 rw [ye, qc h]
 simp [ks]
theorem J8 {K : IntKind} {l : List Int} {i : Nat} (h : i < l.length) : (ks K l).drop i = .int K (l.getD i 0) :: ks K (l.drop (i + 1)) := by
 rw [QaD h]; simp [qe, qg h]
theorem QBd {α : Type} (l : List α) (x : α) : (l ++ [x])[l.length]? = some x := by simp
theorem QAN {α : Type} (l : List α) (x y : α) : (l ++ [x]).set l.length y = l ++ [y] := by simp
def Qni (t : Nat) (P : Prg) (f : Nat) : Prop := ∀ (l : List Int) (ob : List Ob) (K : AV → List Ob → Prop), 0 < l.length → l.length ≤ 1000000 → K (.own ob.length l.length) (ob ++ [⟨t, 1, l.length, ks .i32 l, 0⟩]) → ACall P f [il l] ob K
theorem Qxr {P : Prg} {f t0 : Nat} (b : Qf P f 8 [.tmp 2] (ZK t0)) : Qni t0 P f := by
 intro l ob K h0 h1 hK
 refine Qb b (by simp) ?_
 have g1 := fun x : Ob => QBd ob x
 have g2 := fun x y : Ob => QAN ob x y
 have n0 : l.length ≠ 0 := by omega
 simp (disch := omega) only [rq, simprocAttr, ZK, il, Qvd, n0, g1, g2, QwY]
 exact hK
theorem QbH {a b : List Int} (h : a.length = b.length) (h2 : ∀ j, j < a.length → a.getD j 0 = b.getD j 0) : a = b := by
 apply yL h
 intro i h1 h3
 have := h2 i h1
 simpa [qe, qg h1, qg h3] using this
theorem ZW {g : Nat → Int} {n j : Nat} (h : j < n) : ((List.range n).map g).getD j 0 = g j := by
 simp [qe, h]
theorem Qf2 {l : List Int} {i j : Nat} {v : Int} (h : j < l.length) : (l.set i v).getD j 0 = if i = j then v else l.getD j 0 := by
 simp only [qe, yw]
 split
 ·subst_vars; simp [h]
 ·rfl
theorem Qoj {x : Int} (h : -2147483648 ≤ x ∧ x ≤ 2147483647) : -2147483648 ≤ x.tdiv 2 ∧ x.tdiv 2 ≤ 2147483647 := by
 by_cases hx : x < 0
 ·rw [(Qce hx 2).1]; omega
 ·rw [qJ (by omega)]; omega
def QaB (c : Int) (n : Nat) : Int := if c < 1 ∨ 6 < c then 2 else if 4000 < n then 4 else if (n : Int) % c ≠ 0 then 2 else 0
def Qee (P : Prg) (f : Nat) : Prop := ∀ (c : Int) (l : List Int), VC P f [.int .i64 c, il l] (.int .i64 (QaB c l.length))
theorem QwQ {P : Prg} {f : Nat} (b : Qf P f 22 [.tmp 4] XX) : Qee P f := by
 intro c l
 refine Qn (by simp [isDL, isD, QaQ]) rfl b ?_
 by_cases h1 : c < 1
 ·simp (disch := omega) only [rq, simprocAttr, XX, il, QaB]
 by_cases h2 : 6 < c
 ·simp (disch := omega) only [rq, simprocAttr, XX, il, QaB]
 by_cases h3 : 4000 < l.length
 ·simp (disch := omega) only [rq, simprocAttr, XX, il, QaB]
 have hm := Qo1 (n := l.length) (c := c) (by omega)
 by_cases h4 : (l.length : Int) % c = 0
 ·simp (disch := omega) only [rq, simprocAttr, XX, il, QaB, h4]
 ·simp (disch := omega) only [rq, simprocAttr, XX, il, QaB, h4]
theorem QqY {P : Prg} {f : Nat} (b : Qf P f 19 [.tmp 4] Q0) : Qee P f := by
 intro c l
 refine Qn (by simp [isDL, isD, QaQ]) rfl b ?_
 by_cases h1 : c < 1
 ·simp (disch := omega) only [rq, simprocAttr, Q0, il, QaB]
 by_cases h2 : 6 < c
 ·simp (disch := omega) only [rq, simprocAttr, Q0, il, QaB]
 by_cases h3 : 4000 < l.length
 ·simp (disch := omega) only [rq, simprocAttr, Q0, il, QaB]
 have hm := Qo1 (n := l.length) (c := c) (by omega)
 by_cases h4 : (l.length : Int) % c = 0
 ·simp (disch := omega) only [rq, simprocAttr, Q0, il, QaB, h4]
 ·have h5 : 0 < (l.length : Int) % c := by omega
  simp (disch := omega) only [rq, simprocAttr, Q0, il, QaB, h4]
def okM (c : Nat) (l : List Int) : Prop := 1 ≤ c ∧ c ≤ 6 ∧ 0 < l.length ∧ l.length ≤ 4000 ∧ l.length % c = 0 ∧ I32 l
theorem QoZ {c : Nat} {l : List Int} (h : okM c l) : QaB c l.length = 0 := by
 obtain ⟨h1, h2, h3, h4, h5, _⟩ := h
 unfold QaB
 rw [qa (by omega), qa (by omega), qa (by rw [← Int.natCast_emod, h5]; simp)]
theorem QsR {c m q : Nat} (h : c * m < c * q) : c * m + c ≤ c * q := by
 have : m < q := jD h
 have := yA c (show m + 1 ≤ q by omega)
 rw [jB, jz] at this
 exact this
theorem QCo (K : IntKind) (l : List Int) (a c : Nat) : ((ks K l).drop a).take c = ks K ((l.drop a).take c) := by simp [ks, ji, yW]
theorem QyM {l : List Int} {a c j : Nat} (h : j < c) : ((l.drop a).take c).getD j 0 = l.getD (a + j) 0 := by
 simp [qe, yO, h, jt]
theorem QBH {l : List Int} (h : I32 l) (a c : Nat) : I32 ((l.drop a).take c) := fun v hv => h v (je (qM hv))
theorem Qdu (c x : Int) : QbI c x = 2 ∨ (QbI c x = 0 ∧ J0 x ≠ 0 ∧ 1 ≤ c ∧ c ≤ 6) := by unfold QbI; split <;> omega
theorem QzU {c k q n : Nat} (hk : k < c) : k + n * c < c * q ↔ n < q := by
 constructor
 ·intro h
  refine Nat.lt_of_not_le fun h2 => ?_
  have := qN c h2
  rw [qE c q] at h
  omega
 ·intro h
  have := qN c (show n + 1 ≤ q from h)
  rw [yH, yS] at this
  rw [qE c q]
  omega
def six (S : Nat → Qa4) : List AV := Zd (S 0) ++ (Zd (S 1) ++ (Zd (S 2) ++ (Zd (S 3) ++ (Zd (S 4) ++ Zd (S 5)))))
def okS (S : Nat → Qa4) : Prop := ∀ k, Qbx (S k).fl
theorem QqA {S : Nat → Qa4} (h : okS S) : (six S).length = 210 := by simp [six, ZN (h _)]
theorem QDx {k : Nat} (h : k < 6) : k = 0 ∨ k = 1 ∨ k = 2 ∨ k = 3 ∨ k = 4 ∨ k = 5 := by omega
theorem QB4 {S : Nat → Qa4} (h : okS S) {k : Nat} (hk : k < 6) : ((six S).drop (k * 35)).take 35 = Zd (S k) := by
 have l := fun k => ZN (h k)
 rcases QDx hk with rfl | rfl | rfl | rfl | rfl | rfl <;> simp [six, j7, jd, l, qP, Qw]
def upd (S : Nat → Qa4) (k : Nat) (c : Qa4) : Nat → Qa4 := fun j => if j = k then c else S j
theorem Qv0 {S : Nat → Qa4} (h : okS S) {k : Nat} (hk : k < 6) (c : Qa4) : (six S).take (k * 35) ++ Zd c ++ (six S).drop (k * 35 + 35) = six (upd S k c) := by
 have l := fun k => ZN (h k)
 rcases QDx hk with rfl | rfl | rfl | rfl | rfl | rfl <;> simp [six, upd, j7, jd, l, qP, Qw]
theorem Qo6 (c : Qa4) : isTL (Zd c) = true := by simp [Zd, Ql, isTL, isT, Xm, Qq]
theorem Qze (S : Nat → Qa4) : isTL (six S) = true := by simp [six, Xm, Qo6]
theorem QBA (S : Nat → Qa4) : (six S).all AV.one = true := by simp only [six, YA, Z6, Yy]
def cnt (c k i : Nat) : Nat := if k < i % c then i / c + 1 else i / c
theorem QDr (c k : Nat) : cnt c k 0 = 0 := by simp [cnt]
theorem Qzv (c i : Nat) : cnt c (i % c) i = i / c := by simp [cnt]
theorem Qzu {c k i : Nat} (hk : k < c) : cnt c k (i + 1) = if k = i % c then i / c + 1 else cnt c k i := by
 have hc : 0 < c := by omega
 have hr := qz i hc
 have hi := jT i c
 unfold cnt
 by_cases h : i % c + 1 < c
 ·have e1 : (i + 1) % c = i % c + 1 := by
   rw [show i + 1 = c * (i / c) + (i % c + 1) by omega, Nat.mul_add_mod, qv h]
  have e2 : (i + 1) / c = i / c := by
   rw [show i + 1 = (i % c + 1) + c * (i / c) by omega, Nat.add_mul_div_left _ _ hc, yK h, yj]
  rw [e1, e2]
  split <;> split <;> (try split) <;> omega
 ·have e0 : i + 1 = c * (i / c + 1) := by rw [jB]; omega
  have e1 : (i + 1) % c = 0 := by rw [e0, Nat.mul_mod_right]
  have e2 : (i + 1) / c = i / c + 1 := by rw [e0, Nat.mul_div_cancel_left _ hc]
  rw [e1, e2]
  split <;> split <;> (try split) <;> omega
def Qdd (l : List Int) : AV := .list l.length (ks .u32 l)
theorem QsY (l : List Int) : isD (Qdd l) = true := by simp [Qdd, isD, ZA]
theorem Zt (os : List Ob) {xs : List Ob} {fr fr' : List (Nat × AV)} (h : ∀ o ∈ os, isTL o.cs = true)
  (hfr : ∀ p ∈ fr', p.2 = .any ∨ Qz (fun o => decide (o < os.length)) (fun o => decide (os.length ≤ o)) (os ++ xs) 2 [look fr p.1] = some [p.2]) : Le 0 ⟨fr, os ++ xs⟩ ⟨fr', os⟩ := by
 refine Le.drop os.length 2 (by omega) rfl hfr ?_
 intro i y hy
 have hi : i < os.length := by
  rcases Ye i os.length with h | h
  ·exact h
  ·rw [yi h] at hy; cases hy
 refine ⟨y.cs, by rw [qp hi]; exact hy, ?_⟩
 simp only [Qz]
 exact frzL_T _ (h y (yt hy))
theorem Qh0 : Qbx Qeh.fl := ⟨by simp [Qeh, Qjz, z16], by simp [Qeh, Qjz, z16], fun x hx => by simp [Qeh, Qjz, z16] at hx; omega, fun x hx => by simp [Qeh, Qjz, z16] at hx; omega⟩
def Qye (z : Qa4) (i : Nat) : Nat → Qa4 := fun k => if k < i then z else Qeh
theorem QCi (z : Qa4) : Qye z 0 = fun _ => Qeh := by funext k; simp [Qye]
theorem QwN (z : Qa4) (i : Nat) : upd (Qye z i) i z = Qye z (i + 1) := by
 funext k
 simp only [upd, Qye]
 split <;> split <;> (try split) <;> first | rfl | omega
theorem QAW {z : Qa4} (h : Qbx z.fl) (i : Nat) : okS (Qye z i) := fun k => by
 unfold Qye; split
 ·exact h
 ·exact Qh0
theorem QDc (z : Qa4) : six (Qye z 6) = six (fun _ => z) := by simp [six, Qye]
theorem QwE {x : Int} (hx : J0 x ≠ 0) {t : List Int} (hl : t.length = 16) (hI : I32 t) : Qyd (QaU x t) := ⟨hx, rfl, QsN hl hI, by simp [QaU]⟩
theorem QxM {c k : Nat} (n : Nat) (hk : k < c) : (k + n * c) % c = k ∧ (k + n * c) / c = n := by
 rw [qE, Nat.add_mul_mod_self_left, qv hk, Nat.add_mul_div_left _ _ (by omega), yK hk]
 omega
theorem QkA (K : IntKind) : ∀ n : Nat, Qs [.int K 0] n = ks K (List.replicate n 0)
 | 0 => rfl
 | n + 1 => by rw [Qs, QkA K n]; simp [ks, jl]
def ud (l : List Int) (b c : Nat) : Nat → Int
 | 0 => if c = 1 then l.getD b 0 else w32 (l.getD (b + (c - 1)) 0 + (l.getD (b + (c - 2)) 0).tdiv 2)
 | d + 1 => w32 (ud l b c d - l.getD (b + (c - 2 - d)) 0)
theorem Qlv {l l' : List Int} {b b' c : Nat} (hc : 1 ≤ c) (h : ∀ j, j < c → l.getD (b + j) 0 = l'.getD (b' + j) 0) : ∀ d, ud l b c d = ud l' b' c d
 | 0 => by
  unfold ud
  have h0 := h 0 (by omega)
  simp only [yP] at h0
  rw [h0, h (c - 1) (by omega), h (c - 2) (by omega)]
 | d + 1 => by
  unfold ud
  rw [Qlv hc h d, h (c - 2 - d) (by omega)]
theorem QzN {l : List Int} (h : I32 l) (b c : Nat) : ∀ d, -2147483648 ≤ ud l b c d ∧ ud l b c d ≤ 2147483647
 | 0 => by
  unfold ud; split
  ·exact Xn h b
  ·exact JJ _
 | d + 1 => by unfold ud; exact JJ _
def Qjy (L : List Int) (k n d : Nat) : List Int := (List.range L.length).map fun j => if k + (n - 1 - d) ≤ j ∧ j < k + n then ud L k n (k + n - 1 - j) else L.getD j 0
theorem Qa8 (L : List Int) (k n d : Nat) : (Qjy L k n d).length = L.length := by simp [Qjy]
theorem QAO {L : List Int} {k n d j : Nat} (h : j < L.length) (h1 : k + (n - 1 - d) ≤ j) (h2 : j < k + n) : (Qjy L k n d).getD j 0 = ud L k n (k + n - 1 - j) := by
 rw [Qjy, ZW h, qc ⟨h1, h2⟩]
theorem QyN {L : List Int} {k n d j : Nat} (h : j < L.length) (h1 : j < k + (n - 1 - d)) : (Qjy L k n d).getD j 0 = L.getD j 0 := by
 rw [Qjy, ZW h, qa (by omega)]
theorem QB7 {L : List Int} {k n : Nat} (h1 : 1 ≤ n) (h : k + n ≤ L.length) : L.set (k + (n - 1)) (ud L k n 0) = Qjy L k n 0 := QbH (by simp [Qa8]) fun j hj => by
 have hj' : j < L.length := by simpa using hj
 rw [Qf2 hj', Qjy, ZW hj']
 by_cases e : k + (n - 1) = j
 ·subst e
  rw [qc rfl, qc (by omega), show k + n - 1 - (k + (n - 1)) = 0 by omega]
 ·rw [qa e, qa (by omega)]
theorem QB6 {L : List Int} {k : Nat} : Qjy L k 1 0 = L := QbH (by simp [Qa8]) fun j hj => by
 rw [Qa8] at hj
 rw [Qjy, ZW hj]
 split
 ·rw [show j = k by omega, show k + 1 - 1 - k = 0 by omega]; simp [ud]
 ·rfl
theorem Qv7 {L : List Int} {k n d : Nat} (hd : d + 1 < n) (h : k + n ≤ L.length) : (Qjy L k n d).set (k + (n - 2 - d)) (w32 (ud L k n d - L.getD (k + (n - 2 - d)) 0)) = Qjy L k n (d + 1) := QbH (by simp [Qa8]) fun j hj => by
 have hj' : j < L.length := by simpa [Qa8] using hj
 rw [Qf2 (by rw [Qa8]; exact hj'), Qjy, Qjy, ZW hj', ZW hj']
 by_cases e : k + (n - 2 - d) = j
 ·subst e
  rw [qc rfl, qc (by omega), show k + n - 1 - (k + (n - 2 - d)) = d + 1 by omega]
  rfl
 ·rw [qa e]
  by_cases q : k + (n - 1 - d) ≤ j ∧ j < k + n
  ·rw [qc q, qc (by omega)]
  ·rw [qa q, qa (by omega)]
def Qr3 (P : Prg) (f : Nat) : Prop := ∀ (t : Nat) (L : List Int) (k n : Nat) (K : AV → List Ob → Prop), I32 L → 1 ≤ n → k + n ≤ L.length → L.length ≤ 1000000 →
 K (.tup []) [⟨t, 1, L.length, ks .i32 (Qjy L k n (n - 1)), 0⟩] → ACall P f [.view 0 L.length k n] [⟨t, 1, L.length, ks .i32 L, 0⟩] K
theorem QwP {P : Prg} {f : Nat} (b : Qf P f 40 [] QbK) : Qr3 P f := by
 intro t L k n K hL h1 h2 h3 hK
 refine Qb b (by simp) ?_
 by_cases hn : n = 1
 ·subst hn
  simp (disch := omega) only [rq, simprocAttr, QbK]
  refine Qg (ι := Nat) (fun d => ⟨[(3, .int .i64 (-1)), (0, .view 0 L.length k 1)], [⟨t, 1, L.length, ks .i32 (Qjy L k 1 0), 0⟩]⟩) (fun _ => True) (fun d => d) 0 (by rw [QB6]; exact Qh) trivial ?_
  intro d _
  simp (disch := omega) only [rq, simprocAttr]
  exact hK
 ·have e1 := J8 (K := .i32) (l := L) (i := k + (n - 1)) (by omega)
  have e2 := J8 (K := .i32) (l := L) (i := k + (n - 1 - 1)) (by omega)
  have e3 := fun v => QkL (K := .i32) (l := L) (i := k + (n - 1)) (by omega) v
  have hr := Qoj (Xn hL (k + (n - 2)))
  have a0 := QB7 (L := L) (k := k) h1 h2
  have u0 : ud L k n 0 = w32 (L.getD (k + (n - 1)) 0 + (L.getD (k + (n - 2)) 0).tdiv 2) := by rw [ud, qa hn]
  rw [u0] at a0
  rw [show n - 1 - 1 = n - 2 by omega] at e2
  have en : n - 1 - 1 = n - 2 := by omega
  simp (disch := omega) only [rq, simprocAttr, QbK, e1, en, e2, e3, Qaw, a0]
  refine Qg (ι := Nat) (fun d => ⟨[(3, .int .i64 ((n : Int) - 2 - d)), (0, .view 0 L.length k n)], [⟨t, 1, L.length, ks .i32 (Qjy L k n d), 0⟩]⟩) (fun d => d ≤ n - 1) (fun d => n - 1 - d) 0 (Qk (by simp [Am.look]; omega)) (by omega) ?_
  intro d hd
  have ls := Qa8 L k n d
  by_cases hlt : d < n - 1
  ·have f1 := J8 (K := .i32) (l := Qjy L k n d) (i := k + (n - 1 - d)) (by omega)
   have f2 := J8 (K := .i32) (l := Qjy L k n d) (i := k + (n - 2 - d)) (by omega)
   have f3 := fun v => QkL (K := .i32) (l := Qjy L k n d) (i := k + (n - 2 - d)) (by omega) v
   rw [QAO (by omega) (by omega) (by omega), show k + n - 1 - (k + (n - 1 - d)) = d by omega, show n - 1 - d = n - 2 - d + 1 by omega] at f1
   rw [QyN (by omega) (by omega)] at f2
   have a3 := Qv7 (L := L) (k := k) (n := n) (d := d) (by omega) h2
   simp (disch := omega) only [rq, simprocAttr, f1, f2, f3, Qaw, a3, ls]
   exact ⟨d + 1, by omega, by omega, Qk (by simp [Am.look]; omega)⟩
  ·have e : d = n - 1 := by omega
   subst e
   simp (disch := omega) only [rq, simprocAttr]
   exact hK
def QAv (c : Nat) (l : List Int) (j : Nat) : Int := ud l (c * (j / c)) c (c - 1 - j % c)
def QpS (c : Nat) (l : List Int) (a : Nat) : List Int := (List.range a).map (QAv c l)
def Qqr (c : Nat) (l : List Int) (a : Nat) : List Int := (List.range l.length).map fun j => if j < a then QAv c l j else l.getD j 0
def Qas (c : Nat) (l : List Int) : List Int := QpS c l l.length
theorem Qyq (c : Nat) (l : List Int) (a : Nat) : (QpS c l a).length = a := by simp [QpS]
theorem QdW (c : Nat) (l : List Int) (a : Nat) : (Qqr c l a).length = l.length := by simp [Qqr]
theorem QBP (c : Nat) (l : List Int) : Qqr c l 0 = l := QbH (QdW _ _ _) fun j hj => by
 rw [QdW] at hj; rw [Qqr, ZW hj, qa (by omega)]
theorem Qst (c : Nat) (l : List Int) : Qqr c l l.length = Qas c l := by
 simp only [Qqr, Qas, QpS]
 apply qU
 intro j hj
 rw [qc (by simpa using hj)]
theorem Qyo {c : Nat} {l : List Int} (h : I32 l) (j : Nat) : -2147483648 ≤ QAv c l j ∧ QAv c l j ≤ 2147483647 := QzN h _ _ _
theorem Qtu {c : Nat} {l : List Int} (h : I32 l) (a : Nat) : I32 (Qqr c l a) := by
 intro v hv
 simp only [Qqr, qY] at hv
 obtain ⟨j, _, rfl⟩ := hv
 split
 ·exact Qyo h j
 ·exact Xn h j
theorem Qk1 {c : Nat} {l : List Int} (h : I32 l) : I32 (Qas c l) := by rw [← Qst]; exact Qtu h _
theorem Qbg (c : Nat) (l : List Int) : (Qas c l).length = l.length := by simp [Qas, QpS]
theorem QkR {c m r : Nat} (h : r < c) : (c * m + r) / c = m ∧ (c * m + r) % c = r := by
 rw [Nat.mul_add_mod, qv h, Nat.mul_add_div (by omega), yK h]; simp
theorem QAu {c : Nat} {l : List Int} {m : Nat} (hc : 1 ≤ c) (h : c * m + c ≤ l.length) : Qjy (Qqr c l (c * m)) (c * m) c (c - 1) = Qqr c l (c * m + c) := QbH (by simp [Qa8, QdW]) fun j hj => by
 have hj' : j < l.length := by simpa [Qa8, QdW] using hj
 rw [Qjy, QdW, ZW hj']
 conv => rhs; rw [Qqr, ZW hj']
 by_cases q : c * m ≤ j ∧ j < c * m + c
 ·rw [qc (by omega), qc q.2]
  have e := QkR (c := c) (m := m) (r := j - c * m) (by omega)
  rw [show c * m + (j - c * m) = j by omega] at e
  rw [QAv, e.1, e.2, show c * m + c - 1 - j = c - 1 - (j - c * m) by omega]
  refine Qlv hc (fun i hi => ?_) _
  rw [Qqr, ZW (by omega), qa (by omega)]
 ·rw [qa (by omega), Qqr, ZW hj']
  by_cases r : j < c * m
  ·rw [qc r, qc (by omega)]
  ·rw [qa r, qa (by omega)]
def Qcp (P : Prg) (f : Nat) : Prop := ∀ (c : Nat) (l : List Int), okM c l → VC P f [.int .i64 c, il l] (.tup [il (Qas c l), .int .i64 0])
theorem Qy3 {P : Prg} {f fC fK fM t : Nat} (b : Qf P f 32 [.tmp 4, .tmp 5] (QfE fC fK fM)) (hC : Qee P fC) (hK : Qni t P fK) (hM : Qr3 P fM) : Qcp P f := by
 intro c l hok
 obtain ⟨h1, h2, h3, h4, h5, h6⟩ := id hok
 have hc := QoZ hok
 obtain ⟨q, hq⟩ : ∃ q, l.length = c * q := ⟨l.length / c, by have := jT l.length c; omega⟩
 refine Qi 1 (by simp [isDL, isD, QaQ]) (by simp [isD, isDL, QaQ]) (Qb b (by simp) ?_)
 simp (disch := omega) only [rq, simprocAttr, QfE]
 refine Qa (hC c l) ?_
 have n0 : l.length ≠ 0 := by omega
 simp (disch := omega) only [rq, simprocAttr, hc, n0]
 refine hK l [] _ h3 (by omega) ?_
 simp (disch := omega) only [rq, simprocAttr, n0]
 refine Qg (ι := Nat) (fun m => ⟨[(8, .int .i64 (c * m : Nat)), (7, .own 0 l.length), (0, .int .i64 c)], [⟨t, 1, l.length, ks .i32 (Qqr c l (c * m)), 0⟩]⟩) (fun m => m ≤ q) (fun m => q - m) 0 (by rw [Yq, QBP]; exact Qh) (by omega) ?_
 intro m hm
 by_cases hlt : c * m < l.length
 ·have hs := QsR (c := c) (m := m) (q := q) (by rw [← hq]; exact hlt)
  rw [← hq] at hs
  have hmq : m < q := jD (a := c) (b := m) (c := q) (by rw [← hq]; exact hlt)
  have e0 : c * m + c - c * m = c := by omega
  have hM' := hM t (Qqr c l (c * m)) (c * m) c
  rw [QdW, QAu h1 hs] at hM'
  simp (disch := omega) only [rq, simprocAttr, e0, n0]
  refine hM' _ (Qtu h6 _) h1 hs (by omega) ?_
  simp (disch := omega) only [rq, simprocAttr]
  exact ⟨m + 1, by omega, by omega, by rw [show c * (m + 1) = c * m + c by rw [jB, jz]]; exact Qh⟩
 ·have e : c * m = l.length := by
   have := yA c hm
   omega
  rw [e, Qst]
  have lm := Qbg c l
  simp (disch := omega) only [rq, simprocAttr]
  simp [QI, Qz, frzL, Qv, isDL, isD, il, lm, frzL_T _ (Qq .i32 (Qas c l))]
def unO (m : List Int) (d : Nat) : List Int := (List.range m.length).map fun j => if m.length - 1 - d ≤ j then ud m 0 m.length (m.length - 1 - j) else 0
theorem Qiw (m : List Int) (d : Nat) : (unO m d).length = m.length := by simp [unO]
theorem QBR {m : List Int} (h : 0 < m.length) : (List.replicate m.length (0 : Int)).set (m.length - 1) (ud m 0 m.length 0) = unO m 0 := QbH (by simp [Qiw]) fun j hj => by
 have hj' : j < m.length := by simpa using hj
 rw [Qf2 (by simpa using hj'), unO, ZW hj']
 by_cases e : m.length - 1 = j
 ·rw [qc e, qc (by omega), show m.length - 1 - j = 0 by omega]
 ·rw [qa e, qa (by omega)]
  simp [qe, hj']
theorem QyL (l : List Int) (i : Nat) (a b : Int) : (l.set i a).set i b = l.set i b := by simp
theorem QBQ {m : List Int} {d : Nat} (h : d < m.length) : (unO m d).getD (m.length - 1 - d) 0 = ud m 0 m.length d := by
 rw [unO, ZW (by omega), qc (by omega), show m.length - 1 - (m.length - 1 - d) = d by omega]
theorem Qyr {m : List Int} {d : Nat} (hd : d + 1 < m.length) : (unO m d).set (m.length - 2 - d) (w32 (ud m 0 m.length d - m.getD (m.length - 2 - d) 0)) = unO m (d + 1) := QbH (by simp [Qiw]) fun j hj => by
 have hj' : j < m.length := by simpa [Qiw] using hj
 rw [Qf2 (by rw [Qiw]; exact hj'), unO, unO, ZW hj', ZW hj']
 by_cases e : m.length - 2 - d = j
 ·subst e
  rw [qc rfl, qc (by omega), show m.length - 1 - (m.length - 2 - d) = d + 1 by omega, ud, yj]
 ·rw [qa e]
  by_cases q : m.length - 1 - d ≤ j
  ·rw [qc q, qc (by omega)]
  ·rw [qa q, qa (by omega)]
theorem Qvx {m : List Int} (h : 0 < m.length) : unO m (m.length - 1) = Qas m.length m := by
 simp only [unO, Qas, QpS]
 apply qU
 intro j hj
 have hj' : j < m.length := by simpa using hj
 rw [qc (by omega), QAv, yK hj', qv hj', Yq]
def Qhc (P : Prg) (f : Nat) : Prop := ∀ m : List Int, 0 < m.length → m.length ≤ 4000 → I32 m → VC P f [il m] (il (Qas m.length m))
theorem QlK {P : Prg} {f fW t0 : Nat} (b : Qf P f 63 [.tmp 2] (ZD fW t0)) (hW : Qjb P fW) : Qhc P f := by
 intro m h0 h1 hI
 have QkA : ∀ n : Nat, Qs [.int .i32 0] n = ks .i32 (List.replicate n 0) := fun n => by
  induction n with
  | zero => rfl
  | succ n ih => rw [Qs, ih]; simp [ks, jl]
 have tm : isTL (ks .i32 m) = true := Qq _ _
 have lr : (List.replicate m.length (0 : Int)).length = m.length := by simp
 refine Qi 1 (by simp [isDL, isD, QaQ]) (by simp [QaQ]) (Qb b (by simp) ?_)
 have e1 := J8 (K := .i32) (l := m) (i := m.length - 1) (by omega)
 have e3 := fun v => QkL (K := .i32) (l := List.replicate m.length (0 : Int)) (i := m.length - 1) (by simp; omega) v
 have r0 := QkA m.length
 by_cases hn : m.length = 1
 ·have u0 : ud m 0 m.length 0 = m.getD (m.length - 1) 0 := by rw [ud, qc hn, hn]
  have a0 := QBR h0
  rw [u0] at a0
  have hn' : m.length - 1 = 0 := by omega
  simp (disch := omega) only [rq, simprocAttr, ZD, il, r0, e1, e3, lr, a0]
  refine Qg (ι := Nat) (fun d => ⟨[(5, .int .i64 (-1)), (4, .own 0 m.length), (0, il m)], [⟨t0, 1, m.length, ks .i32 (unO m 0), 0⟩]⟩) (fun _ => True) (fun d => d) 0 (Qk (by simp [Am.look, il]; omega)) trivial ?_
  intro d _
  have u1 := Qvx h0
  rw [hn'] at u1
  rw [u1]
  simp (disch := omega) only [rq, simprocAttr]
  simp [QI, Qz, frzL, Qv, il, frzL_T _ (Qq .i32 (Qas m.length m)), Qbg]
 ·have e2 := J8 (K := .i32) (l := m) (i := m.length - 2) (by omega)
  have u0 : ud m 0 m.length 0 = w32 (m.getD (m.length - 1) 0 + (m.getD (m.length - 2) 0).tdiv 2) := by rw [ud, qa hn, yj, yj]
  have a0 := QBR h0
  rw [u0] at a0
  have e4 := fun v => QkL (K := .i32) (l := (List.replicate m.length (0 : Int)).set (m.length - 1) (m.getD (m.length - 1) 0)) (i := m.length - 1) (by simp; omega) v
  have r1 := Xn hI (m.length - 1)
  have r2 := Xn hI (m.length - 2)
  have r3 := Qoj r2
  simp (disch := omega) only [rq, simprocAttr, ZD, il, r0, e1, e2, e3, lr, y8]
  refine Qc (hW _) ?_
  simp (disch := omega) only [rq, simprocAttr, e4, QyL, a0, lr, y8]
  refine Qg (ι := Nat) (fun d => ⟨[(5, .int .i64 ((m.length : Int) - 2 - d)), (4, .own 0 m.length), (0, il m)], [⟨t0, 1, m.length, ks .i32 (unO m d), 0⟩]⟩) (fun d => d ≤ m.length - 1) (fun d => m.length - 1 - d) 0 (Qk (by simp [Am.look, il])) (by omega) ?_
  intro d hd
  have ls := Qiw m d
  by_cases hlt : d < m.length - 1
  ·have f1 := J8 (K := .i32) (l := unO m d) (i := m.length - 1 - d) (by omega)
   rw [QBQ (by omega), show m.length - 1 - d = m.length - 2 - d + 1 by omega] at f1
   have f2 := J8 (K := .i32) (l := m) (i := m.length - 2 - d) (by omega)
   have f3 := fun v => QkL (K := .i32) (l := unO m d) (i := m.length - 2 - d) (by omega) v
   have a3 := Qyr (m := m) (d := d) (by omega)
   have q1 := QzN hI 0 m.length d
   have q2 := Xn hI (m.length - 2 - d)
   simp (disch := omega) only [rq, simprocAttr, il, f1, f2, ls]
   refine Qc (hW _) ?_
   simp (disch := omega) only [rq, simprocAttr, f3, a3, ls]
   exact ⟨d + 1, by omega, by omega, Qk (by simp [Am.look, il]; omega)⟩
  ·have e : d = m.length - 1 := by omega
   subst e
   rw [Qvx h0]
   simp (disch := omega) only [rq, simprocAttr, il]
   simp [QI, Qz, frzL, Qv, il, frzL_T _ (Qq .i32 (Qas m.length m)), Qbg]
theorem Qyp {c : Nat} {l : List Int} {m : Nat} (hc : 1 ≤ c) (h : c * m + c ≤ l.length) : QpS c l (c * m) ++ Qas c ((l.drop (c * m)).take c) = QpS c l (c * m + c) := by
 have hl : ((l.drop (c * m)).take c).length = c := by simp; omega
 rw [Qas, QpS, QpS, QpS, hl, List.range_add, yp, Yr]
 congr 1
 apply qU
 intro j hj
 have hj' : j < c := by simpa using hj
 have e := QkR (c := c) (m := m) hj'
 simp only [Function.comp, QAv]
 rw [e.1, e.2, yK hj', qv hj', Yq]
 refine Qlv hc (fun i hi => ?_) _
 rw [yj, QyM hi]
theorem Quf {P : Prg} {f fC fM t0 : Nat} (b : Qf P f 32 [.tmp 4, .tmp 5] (Jr fC fM t0)) (hC : Qee P fC) (hM : Qhc P fM) : Qcp P f := by
 intro c l hok
 obtain ⟨h1, h2, h3, h4, h5, h6⟩ := id hok
 have hc := QoZ hok
 obtain ⟨q, hq⟩ : ∃ q, l.length = c * q := ⟨l.length / c, by have := jT l.length c; omega⟩
 refine Qi 1 (by simp [isDL, isD, QaQ]) (by simp [isD, isDL, QaQ]) (Qb b (by simp) ?_)
 simp (disch := omega) only [rq, simprocAttr, Jr]
 refine Qa (hC c l) ?_
 have n0 : l.length ≠ 0 := by omega
 simp (disch := omega) only [rq, simprocAttr, hc, n0]
 refine Qg (ι := Nat) (fun m => ⟨[(7, .int .i64 (c * m : Nat)), (6, .own 0 (c * m)), (1, il l), (0, .int .i64 c)], [⟨t0, 1, c * m, ks .i32 (QpS c l (c * m)), 0⟩]⟩) (fun m => m ≤ q) (fun m => q - m) 0 (by rw [Yq]; exact Le.trans (Qa2 6 t0 1 (by omega) rfl) (Qk (by simp [Am.look, QpS]))) (by omega) ?_
 intro m hm
 have tm : isTL (ks .i32 l) = true := Qq _ _
 have lt := Qyq c l (c * m)
 by_cases hlt : c * m < l.length
 ·have hs := QsR (c := c) (m := m) (q := q) (by rw [← hq]; exact hlt)
  rw [← hq] at hs
  have hmq : m < q := jD (a := c) (b := m) (c := q) (by rw [← hq]; exact hlt)
  have e0 : c * m + c - c * m = c := by omega
  have hl : ((l.drop (c * m)).take c).length = c := by simp; omega
  have la := Qbg c ((l.drop (c * m)).take c)
  have e1 := QCo .i32 l (c * m) c
  have hM' := hM ((l.drop (c * m)).take c) (by omega) (by omega) (QBH h6 _ _)
  rw [il, hl] at hM'
  have e2 : ks .i32 (QpS c l (c * m)) ++ ks .i32 (Qas c ((l.drop (c * m)).take c)) = ks .i32 (QpS c l (c * m + c)) := by rw [← Qyp h1 hs]; simp [ks]
  simp (disch := omega) only [rq, simprocAttr, e0, n0, il, e1]
  refine Qa hM' ?_
  simp (disch := omega) only [rq, simprocAttr, il, la, hl, e2]
  exact ⟨m + 1, by omega, by omega, by rw [show c * (m + 1) = c * m + c by rw [jB, jz]]; exact Qk (by simp [Am.look, il])⟩
 ·have e : c * m = l.length := by
   have := yA c hm
   omega
  rw [e]
  have e9 : QpS c l l.length = Qas c l := rfl
  rw [e9]
  have lm := Qbg c l
  simp (disch := omega) only [rq, simprocAttr, il]
  simp [QI, Qz, frzL, Qv, isDL, isD, il, lm, frzL_T _ (Qq .i32 (Qas c l))]
def stB (c : Nat) (L : List Int) (z : Qa4) (k : Nat) : Nat → Qa4
 | 0 => z
 | n + 1 => J4 (stB c L z k n) (L.getD (k + n * c) 0)
def QxF (c : Nat) (L : List Int) (z : Qa4) (j : Nat) : Int := Qka (stB c L z (j % c) (j / c)) (L.getD j 0)
def Qns (c : Nat) (L : List Int) (z : Qa4) (a : Nat) : List Int := (List.range a).map (QxF c L z)
theorem Qd7 (c : Nat) (L : List Int) (z : Qa4) (a : Nat) : (Qns c L z a).length = a := by simp [Qns]
theorem QxG (c : Nat) (L : List Int) (z : Qa4) (a : Nat) : Qns c L z a ++ [QxF c L z a] = Qns c L z (a + 1) := by simp [Qns, List.range_succ]
theorem Qnm (c : Nat) (L : List Int) (z : Qa4) (a : Nat) : I32 (Qns c L z a) := by
 intro v hv
 simp only [Qns, qY] at hv
 obtain ⟨j, _, rfl⟩ := hv
 exact JJ _
theorem QoY {c : Nat} {L : List Int} {z : Qa4} (hz : Qyd z) (k : Nat) : ∀ n, Qyd (stB c L z k n)
 | 0 => hz
 | n + 1 => QlT (QoY hz k n) _
def QvO (c : Nat) (L : List Int) (z : Qa4) (i : Nat) : Nat → Qa4 := fun k => if k < c then stB c L z k (cnt c k i) else z
theorem QB1 (c : Nat) (L : List Int) (z : Qa4) : QvO c L z 0 = fun _ => z := by
 funext k; simp [QvO, QDr, stB]
theorem QAz {c : Nat} (hc : 1 ≤ c) (L : List Int) (z : Qa4) (i : Nat) : QvO c L z i (i % c) = stB c L z (i % c) (i / c) := by
 rw [QvO, qc (qz _ (by omega)), Qzv]
theorem QvN {c : Nat} (hc : 1 ≤ c) (L : List Int) (z : Qa4) (i : Nat) : upd (QvO c L z i) (i % c) (J4 (stB c L z (i % c) (i / c)) (L.getD i 0)) = QvO c L z (i + 1) := by
 funext k
 have hr := qz i (show 0 < c by omega)
 by_cases hk : k < c
 ·simp only [upd, QvO, qc hk, Qzu hk]
  by_cases e : k = i % c
  ·rw [qc e, qc e, e, stB]
   rw [show i % c + i / c * c = i by have := jT i c; rw [qE]; omega]
  ·rw [qa e, qa e]
 ·simp only [upd, QvO, qa hk]
  rw [qa (by omega)]
theorem QAV {c : Nat} {L : List Int} {z : Qa4} (hz : Qyd z) (i : Nat) : okS (QvO c L z i) := fun k => by
 unfold QvO; split
 ·exact (QoY hz k _).2.2.1
 ·exact hz.2.2.1
def U32 (l : List Int) : Prop := ∀ x ∈ l, 0 ≤ x ∧ x < 4294967296
theorem QmN {l : List Int} (h : U32 l) (j : Nat) : 0 ≤ l.getD j 0 ∧ l.getD j 0 < 4294967296 := by
 by_cases hj : j < l.length
 ·rw [qe, qg hj]
  exact h _ (yb hj)
 ·rw [qe, yi (by omega)]; simp
theorem QkU {v : List Int} {j : Nat} (h : j < v.length) : (v.map Zm).getD j 0 = Zm (v.getD j 0) := by
 simp [qe, qK, qg h]
def unB (c : Nat) (x : Int) (t v : List Int) : List Int := Qas c (Qns c (v.map Zm) (QaU x t) v.length)
theorem Qvy (c : Nat) (x : Int) (t v : List Int) : (unB c x t v).length = v.length := by simp [unB, Qbg, Qd7]
def okV (c : Nat) (v : List Int) : Prop := 1 ≤ c ∧ c ≤ 6 ∧ 0 < v.length ∧ v.length ≤ 4000 ∧ v.length % c = 0 ∧ U32 v
theorem QCe {c : Nat} {v : List Int} (h : okV c v) (x : Int) (t : List Int) : okM c (Qns c (v.map Zm) (QaU x t) v.length) := by
 obtain ⟨h1, h2, h3, h4, h5, _⟩ := h
 exact ⟨h1, h2, by rw [Qd7]; omega, by rw [Qd7]; omega, by rw [Qd7]; exact h5, Qnm _ _ _ _⟩
def QoB (x : Int) (l : List Int) : AV := if Zo x l ≠ 0 then .tup [.list 0 [], .int .i64 (Zo x l)] else .tup [il l, .int .i64 0]
theorem Qrb (x : Int) (l : List Int) : isD (QoB x l) = true := by unfold QoB; split <;> simp [isD, isDL, QaQ]
def Qx3 (P : Prg) (f : Nat) : Prop := ∀ (c : Nat) (x : Int) (t v : List Int), t.length = 16 → I32 t → okV c v → J0 x ≠ 0 → VC P f [shA c x, .agg (ks .i32 t), Qdd v] (QoB x (unB c x t v))
set_option maxRecDepth 20000 in
theorem QiW {P : Prg} {f fN fO fB fU fW t0 t1 t2 t3 t4 : Nat} (b : Qf P f 84 [.tmp 6, .tmp 7] (Qai fN fO fB fU fW t0 t1 t2 t3 t4)) (hN : Qk0 P fN) (hO : Qha P fO) (hB : Qsj P fB) (hU : Qcp P fU) (hW : QbQ P fW) : Qx3 P f := by
 intro k x t v hl hI hok hx
 have hk : (ks .i32 t).length = 16 := by simp [Qd, hl]
 have ot := Z4 .i32 t
 have tt : (ks .i32 t).take 16 = ks .i32 t := Qw (by omega)
 refine Qi 1 (by simp [isDL, isD, QsY, ZA, shA]) (Qrb _ _) (ACall.of_cut 5 b (by simp) ?_)
 have hz := QwE hx hl hI
 have l0 := QqA (S := fun _ => Qeh) (fun _ => Qh0)
 have o0 := QBA (fun _ => Qeh)
 obtain ⟨h1, h2, h3, h4, h5, h6⟩ := id hok
 unfold Qai
 rw [show (z6L : List AV) = six (fun _ => Qeh) from rfl, ← QbB]
 simp (disch := omega) only [rq, simprocAttr, Qvf, shA, Qdd, hk, ot, tt, l0, o0]
 refine Qg (ι := Nat) (fun i => ⟨[(20, .int .i64 i), (8, .ref 2 1 0), (4, .ref 1 1 0), (3, .ref 0 1 0), (2, Qdd v)], [⟨t0, 2, 1, [.int .i64 k, .int .i64 x], 0⟩, ⟨t1, 16, 1, ks .i32 t, 0⟩, ⟨t2, 210, 1, six (Qye (QaU x t) i), 0⟩]⟩) (fun i => i ≤ 6) (fun i => 6 - i) 0 (by rw [QCi]; exact Qk (by simp [Am.look, Qdd])) (by omega) ?_
 intro i hi
 have oS := QAW hz.2.2.1 i
 have lS := QqA oS
 by_cases hlt : i < 6
 ·have e1 := Qv0 oS hlt (QaU x t)
  rw [QwN] at e1
  have lc := ZN hz.2.2.1
  have oc := Z6 (QaU x t)
  simp (disch := omega) only [rq, simprocAttr, hk, tt]
  refine Qa (hN x t hl hI) ?_
  simp (disch := omega) only [rq, simprocAttr, Qmk, qa hx, lS, lc, oc, e1]
  exact ⟨i + 1, by omega, by omega, Qh⟩
 ·have : i = 6 := by omega
  subst this
  simp (disch := omega) only [rq, simprocAttr, Qvf, Qdd]
  have tv : isTL (ks .u32 v) = true := Qq _ _
  refine Qg (ι := Nat) (fun i => ⟨[(35, .int .i64 i), (34, .int .i64 v.length), (33, Qdd v), (10, .own 3 i), (8, .ref 2 1 0), (3, .ref 0 1 0)], [⟨t0, 2, 1, [.int .i64 k, .int .i64 x], 0⟩, ⟨t1, 16, 1, ks .i32 t, 0⟩, ⟨t2, 210, 1, six (QvO k (v.map Zm) (QaU x t) i), 0⟩, ⟨t4, 1, i, ks .i32 (Qns k (v.map Zm) (QaU x t) i), 0⟩]⟩) (fun i => i ≤ v.length) (fun i => v.length - i) 0 (by rw [QB1, ← QDc]; exact Le.trans (Qa2 10 t4 1 (by omega) rfl) (Qk (by simp [Am.look, Qns, Qdd]))) (by omega) ?_
  intro i hi
  have lo := Qd7 k (v.map Zm) (QaU x t) i
  have to : isTL (ks .i32 (Qns k (v.map Zm) (QaU x t) i)) = true := Qq _ _
  by_cases hlt : i < v.length
  ·have oS := QAV hz (c := k) (L := v.map Zm) i
   have lS := QqA oS
   have hr := qz i (show 0 < k by omega)
   have e0 := QB4 oS (k := i % k) (by omega)
   rw [QAz h1] at e0
   have e1 := Qv0 oS (k := i % k) (by omega) (J4 (stB k (v.map Zm) (QaU x t) (i % k) (i / k)) ((v.map Zm).getD i 0))
   rw [QvN h1] at e1
   have hok2 := QoY (c := k) (L := v.map Zm) hz (i % k) (i / k)
   have eb := QkU hlt
   have hO' := hO (v.getD i 0) (QmN h6 i)
   rw [← eb] at hO'
   have hB' := hB _ ((v.map Zm).getD i 0) hok2
   have hok3 := QlT hok2 ((v.map Zm).getD i 0)
   have e2 := J8 (K := .u32) (l := v) (i := i) hlt
   have e3 : ks .i32 (Qns k (v.map Zm) (QaU x t) i) ++ [.int .i32 (Qka (stB k (v.map Zm) (QaU x t) (i % k) (i / k)) ((v.map Zm).getD i 0))] = ks .i32 (Qns k (v.map Zm) (QaU x t) (i + 1)) := by rw [QwX, ← QxG]; rfl
   have lc := ZN hok3.2.2.1
   have oc := Z6 (J4 (stB k (v.map Zm) (QaU x t) (i % k) (i / k)) ((v.map Zm).getD i 0))
   have tc : (Zd (J4 (stB k (v.map Zm) (QaU x t) (i % k) (i / k)) ((v.map Zm).getD i 0))).take 35 = Zd (J4 (stB k (v.map Zm) (QaU x t) (i % k) (i / k)) ((v.map Zm).getD i 0)) := Qw (by omega)
   have lz := ZN Qh0
   have oz := Z6 Qeh
   have dz : (Zd Qeh).drop 35 = [] := qP (by omega)
   have em : (i : Int) % k = (i % k : Nat) := by omega
   simp (disch := omega) only [rq, simprocAttr, Qdd, e2, em, e0]
   refine Qc hO' ?_
   simp (disch := omega) only [rq, simprocAttr]
   refine Qc hB' ?_
   simp (disch := omega) only [rq, simprocAttr, lz, oz, lc, oc, tc, e1, lS, dz, e3, qX, yV, yR]
   exact ⟨i + 1, by omega, by omega, Zt [_, _, _, _] (by simp [Qze, Qq, isTL, isT]) (by simp [Am.look, Qz, frzL, Qv, frzL_T _ tv])⟩
  ·have e : i = v.length := by omega
   subst e
   simp (disch := omega) only [rq, simprocAttr, Qvf]
   refine ⟨⟨[(10, il (Qns k (v.map Zm) (QaU x t) v.length)), (3, .ref 0 1 0)], [⟨t0, 2, 1, [.int .i64 k, .int .i64 x], 0⟩]⟩, Zt [_] (by simp [isTL, isT]) (by simp [Am.look, Qz, frzL, Qv, il, lo, frzL_T _ to]), ?_⟩
   simp (disch := omega) only [rq, simprocAttr]
   refine Qa (hU k _ (QCe hok x t)) ?_
   simp (disch := omega) only [rq, simprocAttr]
   refine Qa (hW x (unB k x t v) (Qk1 (Qnm _ _ _ _))) ?_
   have lu := Qvy k x t v
   by_cases h9 : Zo x (unB k x t v) = 0
   ·have e9 : QoB x (unB k x t v) = .tup [il (unB k x t v), .int .i64 0] := by simp [QoB, h9]
    simp (disch := omega) only [rq, simprocAttr, h9, e9]
    simp only [unB] at *
    simp [QI, Qz, frzL, Qv, isDL, isD, il, frzL_T _ (Qq .i32 _)]
   ·have e9 : QoB x (unB k x t v) = .tup [.list 0 [], .int .i64 (Zo x (unB k x t v))] := by simp [QoB, h9]
    simp (disch := omega) only [rq, simprocAttr, h9, e9]
    simp [QI, Qz, frzL, Qv, isDL, isD]
def Qmj (g : Nat → Int) (c len k n : Nat) : List Int := (List.range len).map fun j => if j % c < k ∨ (j % c = k ∧ j / c < n) then g j else 0
theorem Qh7 (g : Nat → Int) (c len k n : Nat) : (Qmj g c len k n).length = len := by simp [Qmj]
theorem QBl (g : Nat → Int) (c len : Nat) : Qmj g c len 0 0 = List.replicate len 0 := by
 apply yL (by simp [Qmj])
 intro i h1 h2
 simp [Qmj]
theorem Qxo {c k n len : Nat} (hk : k < c) (h : k + n * c < len) (g : Nat → Int) : (Qmj g c len k n).set (k + n * c) (g (k + n * c)) = Qmj g c len k (n + 1) := QbH (by simp [Qh7]) fun j hj => by
 have hj' : j < len := by simpa [Qh7] using hj
 rw [Qf2 (by rw [Qh7]; exact hj'), Qmj, Qmj, ZW hj', ZW hj']
 have ha := QxM n hk
 by_cases e : k + n * c = j
 ·subst e
  rw [qc rfl, ha.1, ha.2, qc (by omega)]
 ·rw [qa e]
  have hd := jT j c
  by_cases q : j % c < k ∨ (j % c = k ∧ j / c < n)
  ·rw [qc q, qc (by omega)]
  ·rw [qa q, qa]
   rintro (h1 | ⟨h1, h2⟩)
   ·omega
   ·have : j / c = n := by omega
    rw [this, h1, qE] at hd
    omega
theorem Qxp {c k q len : Nat} (h : len = c * q) (g : Nat → Int) : Qmj g c len k q = Qmj g c len (k + 1) 0 := by
 simp only [Qmj]
 apply qU
 intro j hj
 have hj' : j < c * q := by rw [← h]; simpa using hj
 have hd : j / c < q := j0 hj'
 generalize j / c = d at hd
 generalize g j = v
 by_cases e : j % c < k + 1
 ·rw [qc (by omega), qc (.inl e)]
 ·rw [qa (by omega), qa (by omega)]
theorem Qzt {c len : Nat} (hc : 1 ≤ c) (g : Nat → Int) : Qmj g c len c 0 = (List.range len).map g := by
 simp only [Qmj]
 apply qU
 intro j hj
 rw [qc (.inl (qz _ (by omega)))]
theorem QBq {c k : Nat} (n : Nat) (hk : k < c) (m : List Int) (z : Qa4) : QxF c m z (k + n * c) = Qka (stB c m z k n) (m.getD (k + n * c) 0) := by
 rw [QxF, (QxM n hk).1, (QxM n hk).2]
def Qji (P : Prg) (f : Nat) : Prop := ∀ (c : Nat) (x : Int) (t v : List Int), t.length = 16 → I32 t → okV c v → J0 x ≠ 0 → VC P f [shA c x, .agg (ks .i32 t), Qdd v] (il (unB c x t v))
set_option maxRecDepth 20000 in
theorem QoK {P : Prg} {f fN fO fS fU t0 t1 t2 t3 : Nat} (b : Qf P f 64 [.tmp 6] (XF fN fO fS fU t0 t1 t2 t3)) (hN : Qk0 P fN) (hO : Qha P fO) (hS : QdS P fS) (hU : Qcp P fU) : Qji P f := by
 intro c x t v hl hI hok hx
 have hk : (ks .i32 t).length = 16 := by simp [Qd, hl]
 have ot := Z4 .i32 t
 have tt : (ks .i32 t).take 16 = ks .i32 t := Qw (by omega)
 refine Qi 1 (by simp [isDL, isD, QsY, ZA, shA]) (by simp [QaQ]) (ACall.of_cut 3 b (by simp) ?_)
 have hz := QwE hx hl hI
 obtain ⟨h1, h2, h3, h4, h5, h6⟩ := id hok
 obtain ⟨q, hq⟩ : ∃ q, v.length = c * q := ⟨v.length / c, by have := jT v.length c; omega⟩
 have hq2 : q ≤ 4000 := jb (Nat.le_mul_of_pos_left q (by omega)) (hq ▸ h4)
 have tv : isTL (ks .u32 v) = true := Qq _ _
 unfold XF
 rw [← QbB]
 have e0 : Qs [.int .i32 0] v.length = ks .i32 (Qmj (QxF c (v.map Zm) (QaU x t)) c v.length 0 0) := by rw [QBl, QkA]
 simp (disch := omega) only [rq, simprocAttr, Qvf, shA, hk, ot, tt, Qdd, e0]
 refine Qg (ι := Nat) (fun k => ⟨[(8, .int .i64 k), (7, .own 2 v.length), (4, .ref 1 1 0), (3, .ref 0 1 0), (2, Qdd v)], [⟨t0, 2, 1, [.int .i64 c, .int .i64 x], 0⟩, ⟨t1, 16, 1, ks .i32 t, 0⟩, ⟨t2, 1, v.length, ks .i32 (Qmj (QxF c (v.map Zm) (QaU x t)) c v.length k 0), 0⟩]⟩) (fun k => k ≤ c) (fun k => c - k) 0 (Qk (by simp [Am.look, Qdd])) (by omega) ?_
 intro k hkc
 by_cases hlt : k < c
 ·simp (disch := omega) only [rq, simprocAttr, hk, tt]
  refine Qa (hN x t hl hI) ?_
  have lz := ZN Qh0
  have oz := Z6 Qeh
  have dz : (Zd Qeh).drop 35 = [] := qP (by omega)
  have ln := ZN hz.2.2.1
  have on := Z6 (QaU x t)
  simp (disch := omega) only [rq, simprocAttr, Qmk, qa hx, lz, oz, dz, ln, on, qX, yV, yR]
  refine Qg (ι := Nat) (fun n => ⟨[(11, .int .i64 (k + n * c : Nat)), (9, .ref 3 1 0), (8, .int .i64 k), (7, .own 2 v.length), (4, .ref 1 1 0), (3, .ref 0 1 0), (2, Qdd v)], [⟨t0, 2, 1, [.int .i64 c, .int .i64 x], 0⟩, ⟨t1, 16, 1, ks .i32 t, 0⟩, ⟨t2, 1, v.length, ks .i32 (Qmj (QxF c (v.map Zm) (QaU x t)) c v.length k n), 0⟩, ⟨t3, 35, 1, Zd (stB c (v.map Zm) (QaU x t) k n), 0⟩]⟩) (fun n => n ≤ q) (fun n => q - n) 0 (by rw [Yt]; exact Qk (by simp [Am.look, Qdd])) (by omega) ?_
  intro n hn
  have hst := QoY (c := c) (L := v.map Zm) hz k n
  have lst := ZN hst.2.2.1
  have ost := Z6 (stB c (v.map Zm) (QaU x t) k n)
  have tst : (Zd (stB c (v.map Zm) (QaU x t) k n)).take 35 = Zd (stB c (v.map Zm) (QaU x t) k n) := Qw (by omega)
  have dst : (Zd (stB c (v.map Zm) (QaU x t) k n)).drop 35 = [] := qP (by omega)
  have lcod := Qh7 (QxF c (v.map Zm) (QaU x t)) c v.length k n
  by_cases hnq : n < q
  ·have hin : k + n * c < v.length := by rw [hq]; exact (QzU hlt).2 hnq
   have e1 := J8 (K := .u32) (l := v) (i := k + n * c) hin
   have eb := QkU hin
   have hO' := hO (v.getD (k + n * c) 0) (QmN h6 _)
   rw [← eb] at hO'
   have hr : -2147483648 ≤ (v.map Zm).getD (k + n * c) 0 ∧ (v.map Zm).getD (k + n * c) 0 ≤ 2147483647 := by
    rw [eb]
    have := QmN h6 (k + n * c)
    unfold Zm; split <;> omega
   have hS' := hS _ ((v.map Zm).getD (k + n * c) 0) hst hr
   rw [← QBq n hlt] at hS'
   have hst2 := QoY (c := c) (L := v.map Zm) hz k (n + 1)
   have eC : J4 (stB c (v.map Zm) (QaU x t) k n) ((v.map Zm).getD (k + n * c) 0) = stB c (v.map Zm) (QaU x t) k (n + 1) := rfl
   rw [eC] at hS'
   have lst2 := ZN hst2.2.2.1
   have ost2 := Z6 (stB c (v.map Zm) (QaU x t) k (n + 1))
   have tst2 : (Zd (stB c (v.map Zm) (QaU x t) k (n + 1))).take 35 = Zd (stB c (v.map Zm) (QaU x t) k (n + 1)) := Qw (by omega)
   have e2 := QkL (K := .i32) (l := Qmj (QxF c (v.map Zm) (QaU x t)) c v.length k n) (i := k + n * c) (by omega) (QxF c (v.map Zm) (QaU x t) (k + n * c))
   rw [Qxo hlt hin] at e2
   have hc2 : c ≤ 4000 := by omega
   simp (disch := omega) only [rq, simprocAttr, Qdd, tst, e1]
   refine Qc hO' ?_
   simp (disch := omega) only [rq, simprocAttr]
   refine Qc hS' ?_
   simp (disch := omega) only [rq, simprocAttr, lz, oz, dz, lst2, ost2, tst2, qX, yV, yR, lst, dst, e2]
   exact ⟨n + 1, by omega, by omega, Zt [_, _, _, _] (by simp [Qo6, Qq, isTL, isT]) (by simp [Am.look, Qz, frzL, Qv, frzL_T _ tv, yH, Int.add_mul, Int.add_assoc])⟩
  ·have : n = q := by omega
   subst this
   have hin : v.length ≤ k + n * c := by rw [hq]; exact Nat.le_of_not_lt fun h => hnq ((QzU hlt).1 h)
   rw [Qxp hq]
   simp (disch := omega) only [rq, simprocAttr, Qdd]
   exact ⟨k + 1, by omega, by omega, Zt [_, _, _] (by simp [Qq, isTL, isT]) (by simp [Am.look, Qz, frzL, Qv, frzL_T _ tv])⟩
 ·have : k = c := by omega
  subst this
  have e9 : Qmj (QxF k (v.map Zm) (QaU x t)) k v.length k 0 = Qns k (v.map Zm) (QaU x t) v.length := Qzt h1 _
  rw [e9]
  have lo := Qd7 k (v.map Zm) (QaU x t) v.length
  have to : isTL (ks .i32 (Qns k (v.map Zm) (QaU x t) v.length)) = true := Qq _ _
  simp (disch := omega) only [rq, simprocAttr, Qvf]
  refine ⟨⟨[(7, il (Qns k (v.map Zm) (QaU x t) v.length)), (3, .ref 0 1 0)], [⟨t0, 2, 1, [.int .i64 k, .int .i64 x], 0⟩]⟩, Zt [_] (by simp [isTL, isT]) (by simp [Am.look, Qz, frzL, Qv, il, lo, frzL_T _ to]), ?_⟩
  simp (disch := omega) only [rq, simprocAttr]
  refine Qa (hU k _ (QCe hok x t)) ?_
  simp (disch := omega) only [rq, simprocAttr]
  have lu := Qvy k x t v
  simp only [unB] at *
  simp [QI, Qz, frzL, Qv, isDL, isD, il, frzL_T _ (Qq .i32 _)]
def Qm2 (P : Prg) (f : Nat) : Prop := ∀ (c x : Int) (l : List Int), I32 l → VC P f [shA c x, il l] (QoB x l)
theorem QoJ {P : Prg} {f fW t0 : Nat} (b : Qf P f 15 [.tmp 4, .tmp 5] (XE fW t0)) (hW : QbQ P fW) : Qm2 P f := by
 intro c x l hI
 refine Qi 1 (by simp [isDL, isD, QaQ, shA]) (Qrb _ _) (Qb b (by simp) ?_)
 simp (disch := omega) only [rq, simprocAttr, XE, shA]
 refine Qa (hW x l hI) ?_
 by_cases h9 : Zo x l = 0
 ·have e9 : QoB x l = .tup [il l, .int .i64 0] := by simp [QoB, h9]
  simp (disch := omega) only [rq, simprocAttr, h9, e9]
  simp [QI, Qz, frzL, Qv, isDL, isD, il, frzL_T _ (Qq .i32 _)]
 ·have e9 : QoB x l = .tup [.list 0 [], .int .i64 (Zo x l)] := by simp [QoB, h9]
  simp (disch := omega) only [rq, simprocAttr, h9, e9]
  simp [QI, Qz, frzL, Qv, isDL, isD]
def erA (e : Int) : AV := .tup [.list 0 [], .int .i64 e]
def Qpq (r n : Int) : AV := if r < 1 ∨ 1048576 < r then .tup [.int .i64 0, .int .i64 2] else if n < 1 ∨ 4000 < n then .tup [.int .i64 0, .int .i64 2] else if 1000 < (n + ZI r - 1) / ZI r then .tup [.int .i64 0, .int .i64 4] else .tup [.int .i64 ((n + ZI r - 1) / ZI r), .int .i64 0]
theorem QBa (r n : Int) : isD (Qpq r n) = true := by unfold Qpq; split <;> (try split) <;> (try split) <;> rfl
def Qgz (P : Prg) (f : Nat) : Prop := ∀ r n : Int, VC P f [.int .i64 r, .int .i64 n] (Qpq r n)
theorem QlW {P : Prg} {f fL : Nat} (b : Qf P f 32 [.tmp 4, .tmp 5] (Qa0 fL)) (hL : Qid P fL) : Qgz P f := by
 intro r n
 refine Qn rfl (QBa _ _) b ?_
 have hL' := hL r
 simp (disch := omega) only [rq, simprocAttr, Qa0]
 refine Qa hL' ?_
 by_cases h1 : r < 1 ∨ 1048576 < r
 ·have e1 : QiP r = .tup [.int .i64 0, .int .i64 2] := by rw [QiP, qc h1]
  have e2 : Qpq r n = .tup [.int .i64 0, .int .i64 2] := by rw [Qpq, qc h1]
  simp (disch := omega) only [rq, simprocAttr, e1, e2]
 have e1 : QiP r = .tup [.int .i64 (ZI r), .int .i64 0] := by rw [QiP, qa h1]
 have p1 := Qdq r
 have p2 := QsT (r := r) (by omega)
 by_cases h2 : n < 1
 ·have e2 : Qpq r n = .tup [.int .i64 0, .int .i64 2] := by rw [Qpq, qa h1, qc (.inl h2)]
  simp (disch := omega) only [rq, simprocAttr, e1, e2]
 by_cases h3 : 4000 < n
 ·have e2 : Qpq r n = .tup [.int .i64 0, .int .i64 2] := by rw [Qpq, qa h1, qc (.inr h3)]
  simp (disch := omega) only [rq, simprocAttr, e1, e2]
 have e2 : Qpq r n = if 1000 < (n + ZI r - 1) / ZI r then .tup [.int .i64 0, .int .i64 4] else .tup [.int .i64 ((n + ZI r - 1) / ZI r), .int .i64 0] := by
  rw [Qpq, qa h1, qa (by omega)]
 generalize ZI r = L at *
 have q0 : (n + L - 1).tdiv L = (n + L - 1) / L := qJ (by omega)
 have q1 : 0 ≤ (n + L - 1) / L := jS (by omega) (by omega)
 have q2 : (n + L - 1) / L ≤ n + L - 1 := jK _ (by omega)
 generalize hq : (n + L - 1) / L = Q at *
 by_cases h4 : 1000 < Q
 ·rw [qc h4] at e2
  simp (disch := omega) only [rq, simprocAttr, e1, q0, hq, e2]
 ·rw [qa h4] at e2
  simp (disch := omega) only [rq, simprocAttr, e1, q0, hq, e2]
def Qyj (r n : Int) : Int := if r < 1 ∨ 1048576 < r then 2 else if n < 1 ∨ 4000 < n then 2 else if 1000 < (n + ZI r - 1) / ZI r then 4 else 0
theorem Qzx (r n : Int) : ∃ k : Int, Qpq r n = .tup [.int .i64 k, .int .i64 (Qyj r n)] := by
 unfold Qpq Qyj
 split
 ·exact ⟨_, rfl⟩
 split
 ·exact ⟨_, rfl⟩
 split
 ·exact ⟨_, rfl⟩
 ·exact ⟨_, rfl⟩
def QcJ (c x n : Int) : Int := if QbI c x ≠ 0 then 2 else if n < 1 then 2 else if 4000 / c < n then 2 else 0
def Qsm (P : Prg) (f : Nat) : Prop := ∀ c x n : Int, VC P f [shA c x, .int .i64 n] (.int .i64 (QcJ c x n))
theorem QqU {P : Prg} {f fE t0 : Nat} (b : Qf P f 19 [.tmp 4] (X8 fE t0)) (hE : Qeg P fE) : Qsm P f := by
 intro c x n
 refine Qn (by simp [isDL, isD, shA]) rfl b ?_
 have hE' := hE c x
 rw [shA] at hE'
 simp (disch := omega) only [rq, simprocAttr, X8, shA]
 refine Qa hE' ?_
 rcases Qdu c x with h1 | ⟨h1, h2, h3, h4⟩
 ·have e9 : QcJ c x n = 2 := by simp [QcJ, h1]
  simp (disch := omega) only [rq, simprocAttr, h1, e9]
 have q0 : (4000 : Int).tdiv c = 4000 / c := qJ (by omega)
 have q1 : 0 ≤ (4000 : Int) / c := jS (by omega) (by omega)
 have q2 : (4000 : Int) / c ≤ 4000 := jK _ (by omega)
 by_cases h5 : n < 1
 ·have e9 : QcJ c x n = 2 := by simp [QcJ, h5]
  simp (disch := omega) only [rq, simprocAttr, h1, e9]
 by_cases h6 : 4000 / c < n
 ·have e9 : QcJ c x n = 2 := by simp [QcJ, h6]
  simp (disch := omega) only [rq, simprocAttr, h1, e9, q0]
 ·have e9 : QcJ c x n = 0 := by simp [QcJ, h1, h5, h6]
  simp (disch := omega) only [rq, simprocAttr, h1, e9, q0]
def QaC (L n : Nat) : List Int := List.replicate ((n - 1) / L) (L : Int) ++ [(n : Int) - ((n - 1) / L * L : Nat)]
theorem Qch (L n : Nat) : (QaC L n).length = (n - 1) / L + 1 := by simp [QaC]
theorem QyU (k : Nat) (a : Int) : List.replicate k a ++ [a] = List.replicate (k + 1) a := by rw [List.replicate_succ']
def Xh (l : List Int) : AV := .list l.length (ks .i64 l)
theorem XM (l : List Int) : isD (Xh l) = true := by simp [Xh, isD, ZA]
def clA (c x r : Int) (l : List Int) : AV := .agg [.int .i64 c, .int .i64 x, .int .i64 r, il l]
def leB (n : Nat) : Nat → List UInt8
 | 0 => []
 | k + 1 => UInt8.ofNat (n % 256) :: leB (n / 256) k
theorem Qy : ∀ (k n : Nat), (leB n k).length = k
 | 0, _ => rfl
 | k + 1, n => by simp [leB, Qy k]
theorem Qra : ∀ (k n i : Nat) (h : i < k), (leB n k)[i]? = some (UInt8.ofNat (n / 256 ^ i % 256))
 | k + 1, n, 0, _ => by simp [leB]
 | k + 1, n, i + 1, h => by
  simp only [leB, List.getElem?_cons_succ]
  rw [Qra k (n / 256) i (by omega), qw, yc, qE]
theorem QcD {n k i : Nat} (h : i < k) : (leB n k).take (i + 1) = (leB n k).take i ++ [UInt8.ofNat (n / 256 ^ i % 256)] := by
 rw [List.take_add_one, Qra k n i h]
 rfl
theorem QDy {K : IntKind} {n k : Nat} (hk : k ≤ K.bits) : Qu false K (n : Int) (k : Int) = some (.int K ((n / 2 ^ k : Nat) : Int)) := by
 have h3 : ¬ ((k : Int) < 0) := by omega
 have h5 : min k K.bits = k := by omega
 have h6 : (n : Int).fdiv (2 ^ k) = ((n / 2 ^ k : Nat) : Int) := by
  rw [qO _ (Int.pow_nonneg (by decide))]
  simp [jp, Int.natCast_pow]
 simp only [Qu, qa h3, qS, yl, qu, h5, h6]
def QxT (P : Prg) (f : Nat) : Prop := ∀ n w : Nat, 1 ≤ w → w ≤ 8 → VC P f [.int .u64 n, .int .i64 w] (.bool (decide (w = 8) || decide (n / 2 ^ (8 * w) = 0)))
theorem QA2 {P : Prg} {f : Nat} (b : Qf P f 14 [.tmp 4] Qcm) : QxT P f := by
 intro n w h1 h2
 refine Qn rfl rfl b ?_
 by_cases h8 : w = 8
 ·subst h8
  simp (disch := omega) only [rq, simprocAttr, Qcm]
 ·have e1 : (decide (w = 8)) = false := by simpa using h8
  have e2 : Qu false .u64 (n : Int) (8 * (w : Int)) = some (.int .u64 ((n / 2 ^ (8 * w) : Nat) : Int)) := by
   have := QDy (K := .u64) (n := n) (k := 8 * w) (by simp [IntKind.bits]; omega)
   rwa [Int.natCast_mul] at this
  have e3 : (((n / 2 ^ (8 * w) : Nat) : Int) == 0) = decide (n / 2 ^ (8 * w) = 0) := by rw [Yj]; simp only [beq_iff_eq, qr]; omega
  have e4 : ((w : Int) = 8) = False := eq_false (by omega)
  by_cases h9 : n / 2 ^ (8 * w) = 0
  ·have e5 : (decide (n / 2 ^ (8 * w) = 0)) = true := by simpa using h9
   have e6 : (((n / 2 ^ (8 * w) : Nat) : Int) = 0) = True := eq_true (by omega)
   rw [e5]
   simp (disch := omega) only [rq, simprocAttr, Qcm, e1, e2, e4, e6]
  ·have e5 : (decide (n / 2 ^ (8 * w) = 0)) = false := by simpa using h9
   have e6 : (((n / 2 ^ (8 * w) : Nat) : Int) = 0) = False := eq_false (by omega)
   rw [e5]
   simp (disch := omega) only [rq, simprocAttr, Qcm, e1, e2, e4, e6]
def Qgv (P : Prg) (f : Nat) : Prop := ∀ n w : Nat, 1 ≤ w → w ≤ 8 → n < 256 ^ w → VC P f [.int .u64 n, .int .i64 w] (.tup [bs (leB n w), .int .i64 0])
theorem Qzm {t n : Nat} {l : List UInt8} (h : n = l.length) {e : Int} : QI (fun _ => true) [⟨t, 1, n, u8 l, 0⟩] 2 [.tup [.own 0 n, .int .i64 e]] = some [.tup [bs l, .int .i64 e]] := by
 subst h
 simp only [QI, Qz, frzL, Qv, qS, yl, Yl, and_self, yf, frzL_T _ (Q9 l), yo, bs]
theorem Qza {P : Prg} {f fF t0 : Nat} (b : Qf P f 35 [.tmp 4, .tmp 5] (QcR fF t0)) (hF : QxT P fF) : Qgv P f := by
 intro n w h1 h2 hn
 refine Qi 1 (by simp [isDL, isD]) (by simp [isD, isDL, Qr]) (Qb b (by simp) ?_)
 have hn8 : n < 18446744073709551616 := yy hn (jb (qq (by omega) h2) (by decide))
 simp (disch := omega) only [rq, simprocAttr, QcR]
 refine Qa (hF n w h1 h2) ?_
 have e0 : (decide (w = 8) || decide (n / 2 ^ (8 * w) = 0)) = true := by
  have : n / 2 ^ (8 * w) = 0 := yK (by rw [Nat.pow_mul]; exact hn)
  simp [this]
 rw [e0]
 have r0 : Qs [.int .u8 0] w = u8 ([] : List UInt8) ++ List.replicate w (.int .u8 0) := by
  have : ∀ k, Qs [AV.int .u8 0] k = List.replicate k (.int .u8 0) := fun k => by
   induction k with
   | zero => rfl
   | succ k ih => simp [Qs, ih, jl]
  rw [this]; rfl
 simp (disch := omega) only [rq, simprocAttr, QcR]
 rw [r0]
 refine Qg (ι := Nat) (fun k => ⟨[(22, .int .i64 k), (21, .int .i64 w), (6, .own 0 w), (0, .int .u64 n)], [⟨t0, 1, w, u8 ((leB n w).take k) ++ List.replicate (w - k) (.int .u8 0), 0⟩]⟩) (fun k => k ≤ w) (fun k => w - k) 0 (Qh) (by omega) ?_
 intro k hk
 by_cases hlt : k < w
 ·have e2 : Qu false .u64 (n : Int) (8 * (k : Int)) = some (.int .u64 ((n / 256 ^ k : Nat) : Int)) := by
   have := QDy (K := .u64) (n := n) (k := 8 * k) (by simp [IntKind.bits]; omega)
   rwa [Int.natCast_mul, Nat.pow_mul] at this
  have e3 : IntKind.u8.wrap ((n / 256 ^ k : Nat) : Int) = ((UInt8.ofNat (n / 256 ^ k % 256)).toNat : Int) := by
   simp [IntKind.wrap, IntKind.signed, IntKind.bits]
  have hl : (u8 ((leB n w).take k)).length = k := by simp [Qe, Qy]; omega
  have e4 : (u8 ((leB n w).take k) ++ List.replicate (w - k) (AV.int .u8 0)).take k = u8 ((leB n w).take k) := by rw [jF hl]
  have e5 : (u8 ((leB n w).take k) ++ List.replicate (w - k) (AV.int .u8 0)).drop (k + 1) = List.replicate (w - (k + 1)) (.int .u8 0) := by
   rw [j7, jO (by omega), hl]
   simp
   omega
  have e6 : u8 ((leB n w).take k) ++ [AV.int .u8 ((UInt8.ofNat (n / 256 ^ k % 256)).toNat : Int)] = u8 ((leB n w).take (k + 1)) := by
   rw [QcD hlt, ← Qcd]; rfl
  simp (disch := omega) only [rq, simprocAttr, e2, e3, hl, e4, e5, e6]
  refine ⟨k + 1, by omega, by omega, ?_⟩
  refine Qk ?_
  simp [Am.look]
 ·have ek : k = w := by omega
  subst ek
  have e7 : (leB n k).take k = leB n k := qf (by rw [Qy]; exact qj _)
  have e8 : u8 (leB n k) ++ List.replicate (k - k) (AV.int .u8 0) = u8 (leB n k) := by simp
  simp (disch := omega) only [rq, simprocAttr, e7]
  rw [e8, Qzm (Qy k n).symm]
def Qgw (P : Prg) (f : Nat) : Prop := ∀ n w : Nat, w ≤ 8 → n < 18446744073709551616 → VC P f [.int .u64 n, .int .i64 w] (bs (leB n w))
theorem QlO {P : Prg} {f t0 : Nat} (b : Qf P f 21 [.tmp 4] (Xv t0)) : Qgw P f := by
 intro n w hw hn
 refine Qi 1 rfl (Qr _) (Qb b (by simp) ?_)
 simp (disch := omega) only [rq, simprocAttr, Xv]
 refine Qg (ι := Nat) (fun k => ⟨[(6, .int .i64 k), (5, .own 0 k), (1, .int .i64 w), (0, .int .u64 ((n / 256 ^ k : Nat) : Int))], [⟨t0, 1, k, u8 ((leB n w).take k), 0⟩]⟩) (fun k => k ≤ w) (fun k => w - k) 0
  (Le.trans (Qa2 5 t0 1 (by omega) rfl) (Qh)) (by omega) ?_
 intro k hk
 have hdiv : n / 256 ^ k ≤ n := yJ _ _
 by_cases hlt : k < w
 ·have hl : (u8 ((leB n w).take k)).length = k := by simp [Qe, Qy]; omega
  have e6 := QcD (n := n) hlt
  have e2 : n / 256 ^ (k + 1) = n / 256 ^ k / 256 := by rw [yc, ← qw]
  generalize hm : n / 256 ^ k = m at *
  have e3 : (UInt8.ofNat (m % 256)).toNat = m % 256 := by simp
  have e5 : ((m : Int) % 256) = ((m % 256 : Nat) : Int) := by omega
  have e7 : u8 ((leB n w).take k) ++ [AV.int .u8 ((m : Int) % 256)] = u8 ((leB n w).take (k + 1)) := by
   rw [e6, ← Qcd, QgF, Qoh, e3, e5]
  simp (disch := omega) only [rq, simprocAttr, hl]
  rw [e7]
  refine ⟨k + 1, by omega, by omega, Le.drop 1 2 (by omega) rfl ?_ ?_⟩
  ·rw [e2]; simp [Am.look, Qz, frzL, Qv]
  ·intro i y hy
   match i, hy with
   | 0, hy =>
    simp at hy
    subst hy
    exact ⟨u8 ((leB n w).take (k + 1)), by simp, by simp only [Qz]; exact frzL_T _ (Q9 _)⟩
   | i + 1, hy => simp at hy
 ·have ek : k = w := by omega
  subst ek
  have e7 : (leB n k).take k = leB n k := qf (by rw [Qy]; exact qj _)
  simp (disch := omega) only [rq, simprocAttr, e7]
  have e9 : k = (leB n k).length := (Qy k n).symm
  simp only [QI, Qz, frzL, Qv, qS, yl, Yl, and_self, yf, frzL_T _ (Q9 _), yo, bs, Qy]
theorem Qq9 : ∀ l : List UInt8, leB (leN l) l.length = l
 | [] => rfl
 | b :: l => by
  have h1 := b.toNat_lt
  have e1 : (b.toNat + 256 * leN l) % 256 = b.toNat := by omega
  have e2 : (b.toNat + 256 * leN l) / 256 = leN l := by omega
  simp only [leN, qV, leB, e1, e2, Qq9 l]
  simp
def QB2 (c b r : Int) : Prop := 1 ≤ c ∧ c ≤ 6 ∧ J0 b ≠ 0 ∧ 1 ≤ r ∧ r ≤ 1048576
instance (c b r : Int) : Decidable (QB2 c b r) := by unfold QB2; exact inferInstance
theorem QsW : ∀ (k n : Nat), n < 256 ^ k → leN (leB n k) = n
 | 0, n, h => by simp at h; subst h; rfl
 | k + 1, n, h => by
  have h1 : n / 256 < 256 ^ k := by rw [yc] at h; exact j0 (by omega)
  have h2 : (UInt8.ofNat (n % 256)).toNat = n % 256 := by simp
  simp only [leB, leN, QsW k _ h1, h2]
  omega
def QbP (P : Prg) (f : Nat) : Prop := ∀ a b : List UInt8, VC P f [bs a, bs b] (.bool (a == b))
theorem QrD {P : Prg} {f : Nat} (bd : Qf P f 10 [.tmp 4] Qb7) : QbP P f := by
 intro a b
 refine Qn (by simp [isDL, Qr]) rfl bd ?_
 simp (disch := omega) only [rq, simprocAttr, Qb7, bs, Qbh]
def QCT (b x : Int) : Nat := (if b = 8 then x + 128 else if x < 0 then x + 2 * J0 b else x).toNat
def Qqy (b x : Int) : List UInt8 := leB (QCT b x) (b / 8).toNat
def QbU (b : Int) (l : List Int) : List UInt8 := l.flatMap (Qqy b)
def Qea (P : Prg) (f : Nat) : Prop := ∀ (b : Int) (l : List Int), I32 l → VC P f [.int .i64 b, il l] (if Zo b l ≠ 0 then .tup [.list 0 [], .int .i64 (Zo b l)] else .tup [bs (QbU b l), .int .i64 0])
theorem Qcw (b x : Int) : (Qqy b x).length = (b / 8).toNat := Qy _ _
theorem Qcx (b : Int) : ∀ l : List Int, (QbU b l).length = l.length * (b / 8).toNat
 | [] => by simp [QbU]
 | x :: l => by
  have := Qcx b l
  simp only [QbU, List.flatMap_cons, qx, Qcw, qV] at this ⊢
  rw [this, yH]; omega
theorem Qop {b : Int} {l : List Int} {k : Nat} (h : k < l.length) : QbU b (l.take (k + 1)) = QbU b (l.take k) ++ Qqy b l[k] := by
 simp only [QbU]
 rw [qm h, List.flatMap_append]; simp
theorem Qz9 {b : Int} {l : List Int} (h : Zo b l = 0) {k : Nat} (hk : k < l.length) : -J0 b ≤ l[k] ∧ l[k] < J0 b := by
 unfold Zo at h
 split at h
 ·omega
 split at h
 ·omega
 split at h
 ·rename_i h2
  have := ya.1 h2 _ (yb hk)
  simp [inR] at this
  exact this
 ·omega
theorem Qxu {b : Int} {l : List Int} (h : Zo b l = 0) : l.length ≤ 4000 ∧ J0 b ≠ 0 := by
 unfold Zo at h
 split at h
 ·omega
 rename_i h0
 split at h
 ·omega
 ·exact ⟨by omega, h0⟩
theorem QdX {n : Nat} (h : n < 256) : (UInt8.ofNat n).toNat = n := by simp; omega
theorem QB3 {x : Int} (h1 : -128 ≤ x) (h2 : x < 128) : u8 (Qqy 8 x) = [.int .u8 (x + 128)] := by
 have e : (8 : Int) / 8 = 1 := rfl
 simp only [Qqy, QCT, yf, e, Int.toNat_one, leB, QgF, Qoh]
 rw [QdX (by omega)]
 have : (((x + 128).toNat % 256 : Nat) : Int) = x + 128 := by omega
 rw [this]
theorem QzQ {x : Int} (h1 : -32768 ≤ x) (h2 : x < 32768) : u8 (Qqy 16 x) = [.int .u8 (x % 256), .int .u8 (x / 256 % 256)] := by
 have e : ((16 : Int) / 8).toNat = 2 := rfl
 have e2 : J0 16 = 32768 := rfl
 simp only [Qqy, QCT, e, e2, leB, QgF, Qoh]
 rw [QdX (by omega), QdX (by omega), qa (by decide)]
 generalize hq : (if x < 0 then x + 2 * 32768 else x).toNat = n
 have h3 : (n : Int) = if x < 0 then x + 65536 else x := by rw [← hq]; split <;> omega
 have a1 : ((n % 256 : Nat) : Int) = x % 256 := by split at h3 <;> omega
 have a2 : ((n / 256 % 256 : Nat) : Int) = x / 256 % 256 := by split at h3 <;> omega
 rw [a1, a2]
theorem QzP {x : Int} (h1 : -8388608 ≤ x) (h2 : x < 8388608) : u8 (Qqy 24 x) = [.int .u8 (x % 256), .int .u8 (x / 256 % 256), .int .u8 (x / 65536 % 256)] := by
 have e : ((24 : Int) / 8).toNat = 3 := rfl
 have e2 : J0 24 = 8388608 := rfl
 simp only [Qqy, QCT, e, e2, leB, QgF, Qoh]
 rw [QdX (by omega), QdX (by omega), QdX (by omega), qa (by decide)]
 generalize hq : (if x < 0 then x + 2 * 8388608 else x).toNat = n
 have h3 : (n : Int) = if x < 0 then x + 16777216 else x := by rw [← hq]; split <;> omega
 have a1 : ((n % 256 : Nat) : Int) = x % 256 := by split at h3 <;> omega
 have a2 : ((n / 256 % 256 : Nat) : Int) = x / 256 % 256 := by split at h3 <;> omega
 have a3 : ((n / 256 / 256 % 256 : Nat) : Int) = x / 65536 % 256 := by split at h3 <;> omega
 rw [a1, a2, a3]
set_option maxRecDepth 20000 in
set_option maxHeartbeats 2000000 in
theorem Qp1 {P : Prg} {f fC t0 : Nat} (bd : Qf P f 43 [.tmp 4, .tmp 5] (XA fC t0)) (hC : QbQ P fC) : Qea P f := by
 intro b l hI
 have hC' := hC b l hI
 refine Qi 1 (by simp [isDL, isD, QaQ]) (by split <;> simp [isD, isDL, Qr]) (Qb bd (by simp) ?_)
 by_cases h0 : Zo b l ≠ 0
 ·rw [qc h0]
  rw [il] at hC'
  simp (disch := omega) only [rq, simprocAttr, XA, il]
  refine Qa hC' ?_
  simp (disch := omega) only [rq, simprocAttr]
  simp [QI, Qz, frzL, Qv]
 rw [qa h0]
 have h0' : Zo b l = 0 := by omega
 rw [h0', il] at hC'
 obtain ⟨h4, hh⟩ := Qxu h0'
 have hin := fun k hk => @Qz9 b l h0' k hk
 have hS := fun k => @Qop b l k
 have hB := fun k => Qcx b (l.take k)
 have hB0 := Qcx b l
 have hk0 := Qd .i32 l
 rcases ZF b with ⟨rfl, h⟩ | ⟨rfl, h⟩ | ⟨rfl, h⟩ | ⟨h1, h2, h3, h⟩
 case inr.inr.inr => omega
 ·have hw : ((8 : Int) / 8).toNat = 1 := rfl
  simp only [hw] at hB hB0
  rw [h] at hin
  simp (disch := omega) only [rq, simprocAttr, XA, il]
  refine Qa hC' ?_
  simp (disch := omega) only [rq, simprocAttr]
  refine Qg (ι := Nat) (fun k => ⟨[(19, .int .i64 k), (18, .int .i64 l.length), (17, .list l.length (ks .i32 l)), (7, .own 0 (QbU 8 (l.take k)).length), (0, .int .i64 8), (1, .list l.length (ks .i32 l))], [⟨t0, 1, (QbU 8 (l.take k)).length, u8 (QbU 8 (l.take k)), 0⟩]⟩) (fun k => k ≤ l.length) (fun k => l.length - k) 0 (Le.trans (Qa2 7 t0 1 (by omega) rfl) (Qk (by simp [Am.look, QbU]))) (by omega) ?_
  intro k hk
  have hBk := hB k
  rw [qh, qA hk] at hBk
  by_cases hlt : k < l.length
  ·have e1 := QaD (K := .i32) hlt
   obtain ⟨i1, i2⟩ := hin k hlt
   have eT := hS k hlt
   have eE := QB3 (x := l[k]) (by omega) (by omega)
   have eL := hB (k + 1)
   rw [qh, qA (by omega : k + 1 ≤ l.length)] at eL
   generalize l[k] = x at *
   generalize hp : QbU 8 (l.take k) = pre at *
   generalize hp2 : QbU 8 (l.take (k + 1)) = pre2 at *
   have eU : u8 pre2 = u8 pre ++ [.int .u8 (x + 128)] := by rw [eT, ← Qcd, eE]
   have lp := Qe pre
   simp (disch := omega) only [rq, simprocAttr, e1, hk0]
   refine Qg (ι := Nat) (fun j => ⟨[(29, .int .i64 j), (28, .int .i64 1), (9, .int .i32 (x + 128)), (7, .own 0 (pre.length + j)), (19, .int .i64 k), (18, .int .i64 l.length), (17, .list l.length (ks .i32 l)), (0, .int .i64 8), (1, .list l.length (ks .i32 l))], [⟨t0, 1, pre.length + j, (match j with | 0 => u8 pre | _ => u8 pre ++ [.int .u8 (x + 128)]), 0⟩]⟩) (fun j => j ≤ 1) (fun j => 1 - j) 0 (Qh) (by omega) ?_
   intro j hj
   have s0 : Qu false .i32 (x + 128) 0 = some (.int .i32 (x + 128)) := by simp [Qu, Int.fdiv_one]
   have hj3 : j = 0 ∨ j = 1 := by omega
   rcases hj3 with rfl | rfl
   ·simp (disch := omega) only [rq, simprocAttr, s0, lp, qy]
    exact ⟨1, by omega, by omega, Zt [_] (by simp [Xm, Q9, isTL, isT]) (by simp [Am.look, Qz, frzL, Qv, frzL_T _ (Qq _ _)])⟩
   ·simp (disch := omega) only [rq, simprocAttr]
    rw [← eU, show pre.length + 1 = pre2.length by omega]
    refine ⟨k + 1, by omega, by omega, ?_⟩
    rw [hp2]
    exact Qh
  ·have ek : k = l.length := by omega
   subst ek
   rw [qW]
   simp (disch := omega) only [rq, simprocAttr, hk0]
   simp [QI, Qz, frzL, Qv, frzL_T _ (Q9 _), bs]
 ·have hw : ((16 : Int) / 8).toNat = 2 := rfl
  simp only [hw] at hB hB0
  rw [h] at hin
  simp (disch := omega) only [rq, simprocAttr, XA, il]
  refine Qa hC' ?_
  simp (disch := omega) only [rq, simprocAttr]
  refine Qg (ι := Nat) (fun k => ⟨[(19, .int .i64 k), (18, .int .i64 l.length), (17, .list l.length (ks .i32 l)), (7, .own 0 (QbU 16 (l.take k)).length), (0, .int .i64 16), (1, .list l.length (ks .i32 l))], [⟨t0, 1, (QbU 16 (l.take k)).length, u8 (QbU 16 (l.take k)), 0⟩]⟩) (fun k => k ≤ l.length) (fun k => l.length - k) 0 (Le.trans (Qa2 7 t0 1 (by omega) rfl) (Qk (by simp [Am.look, QbU]))) (by omega) ?_
  intro k hk
  have hBk := hB k
  rw [qh, qA hk] at hBk
  by_cases hlt : k < l.length
  ·have e1 := QaD (K := .i32) hlt
   obtain ⟨i1, i2⟩ := hin k hlt
   have eT := hS k hlt
   have eE := QzQ (x := l[k]) (by omega) (by omega)
   have eL := hB (k + 1)
   rw [qh, qA (by omega : k + 1 ≤ l.length)] at eL
   generalize l[k] = x at *
   generalize hp : QbU 16 (l.take k) = pre at *
   generalize hp2 : QbU 16 (l.take (k + 1)) = pre2 at *
   have eU : u8 pre2 = u8 pre ++ [.int .u8 (x % 256), .int .u8 (x / 256 % 256)] := by rw [eT, ← Qcd, eE]
   have lp := Qe pre
   simp (disch := omega) only [rq, simprocAttr, e1, hk0]
   refine Qg (ι := Nat) (fun j => ⟨[(29, .int .i64 j), (28, .int .i64 2), (9, .int .i32 (x)), (7, .own 0 (pre.length + j)), (19, .int .i64 k), (18, .int .i64 l.length), (17, .list l.length (ks .i32 l)), (0, .int .i64 16), (1, .list l.length (ks .i32 l))], [⟨t0, 1, pre.length + j, (match j with | 0 => u8 pre | 1 => u8 pre ++ [.int .u8 (x % 256)] | _ => u8 pre ++ [.int .u8 (x % 256), .int .u8 (x / 256 % 256)]), 0⟩]⟩) (fun j => j ≤ 2) (fun j => 2 - j) 0 (Qh) (by omega) ?_
   intro j hj
   have s0 : Qu false .i32 x 0 = some (.int .i32 x) := by simp [Qu, Int.fdiv_one]
   have s1 : Qu false .i32 x 8 = some (.int .i32 (x / 256)) := by simp [Qu, IntKind.bits, qO]
   have s2 : Qu false .i32 x 16 = some (.int .i32 (x / 65536)) := by simp [Qu, IntKind.bits, qO]
   have w0 := Zn x
   have w1 := Zn (x / 256)
   have w2 := Zn (x / 65536)
   have hj3 : j = 0 ∨ j = 1 ∨ j = 2 := by omega
   rcases hj3 with rfl | rfl | rfl
   ·simp (disch := omega) only [rq, simprocAttr, s0, s1, s2, w0, w1, w2, lp, qy]
    exact ⟨1, by omega, by omega, Zt [_] (by simp [Xm, Q9, isTL, isT]) (by simp [Am.look, Qz, frzL, Qv, frzL_T _ (Qq _ _)])⟩
   ·simp (disch := omega) only [rq, simprocAttr, s0, s1, s2, w0, w1, w2, lp, qy]
    exact ⟨2, by omega, by omega, Zt [_] (by simp [Xm, Q9, isTL, isT]) (by simp [Am.look, Qz, frzL, Qv, frzL_T _ (Qq _ _)])⟩
   ·simp (disch := omega) only [rq, simprocAttr]
    rw [← eU, show pre.length + 2 = pre2.length by omega]
    refine ⟨k + 1, by omega, by omega, ?_⟩
    rw [hp2]
    exact Qh
  ·have ek : k = l.length := by omega
   subst ek
   rw [qW]
   simp (disch := omega) only [rq, simprocAttr, hk0]
   simp [QI, Qz, frzL, Qv, frzL_T _ (Q9 _), bs]
 ·have hw : ((24 : Int) / 8).toNat = 3 := rfl
  simp only [hw] at hB hB0
  rw [h] at hin
  simp (disch := omega) only [rq, simprocAttr, XA, il]
  refine Qa hC' ?_
  simp (disch := omega) only [rq, simprocAttr]
  refine Qg (ι := Nat) (fun k => ⟨[(19, .int .i64 k), (18, .int .i64 l.length), (17, .list l.length (ks .i32 l)), (7, .own 0 (QbU 24 (l.take k)).length), (0, .int .i64 24), (1, .list l.length (ks .i32 l))], [⟨t0, 1, (QbU 24 (l.take k)).length, u8 (QbU 24 (l.take k)), 0⟩]⟩) (fun k => k ≤ l.length) (fun k => l.length - k) 0 (Le.trans (Qa2 7 t0 1 (by omega) rfl) (Qk (by simp [Am.look, QbU]))) (by omega) ?_
  intro k hk
  have hBk := hB k
  rw [qh, qA hk] at hBk
  by_cases hlt : k < l.length
  ·have e1 := QaD (K := .i32) hlt
   obtain ⟨i1, i2⟩ := hin k hlt
   have eT := hS k hlt
   have eE := QzP (x := l[k]) (by omega) (by omega)
   have eL := hB (k + 1)
   rw [qh, qA (by omega : k + 1 ≤ l.length)] at eL
   generalize l[k] = x at *
   generalize hp : QbU 24 (l.take k) = pre at *
   generalize hp2 : QbU 24 (l.take (k + 1)) = pre2 at *
   have eU : u8 pre2 = u8 pre ++ [.int .u8 (x % 256), .int .u8 (x / 256 % 256), .int .u8 (x / 65536 % 256)] := by rw [eT, ← Qcd, eE]
   have lp := Qe pre
   simp (disch := omega) only [rq, simprocAttr, e1, hk0]
   refine Qg (ι := Nat) (fun j => ⟨[(29, .int .i64 j), (28, .int .i64 3), (9, .int .i32 (x)), (7, .own 0 (pre.length + j)), (19, .int .i64 k), (18, .int .i64 l.length), (17, .list l.length (ks .i32 l)), (0, .int .i64 24), (1, .list l.length (ks .i32 l))], [⟨t0, 1, pre.length + j, (match j with | 0 => u8 pre | 1 => u8 pre ++ [.int .u8 (x % 256)] | 2 => u8 pre ++ [.int .u8 (x % 256), .int .u8 (x / 256 % 256)] | _ => u8 pre ++ [.int .u8 (x % 256), .int .u8 (x / 256 % 256), .int .u8 (x / 65536 % 256)]), 0⟩]⟩) (fun j => j ≤ 3) (fun j => 3 - j) 0 (Qh) (by omega) ?_
   intro j hj
   have s0 : Qu false .i32 x 0 = some (.int .i32 x) := by simp [Qu, Int.fdiv_one]
   have s1 : Qu false .i32 x 8 = some (.int .i32 (x / 256)) := by simp [Qu, IntKind.bits, qO]
   have s2 : Qu false .i32 x 16 = some (.int .i32 (x / 65536)) := by simp [Qu, IntKind.bits, qO]
   have w0 := Zn x
   have w1 := Zn (x / 256)
   have w2 := Zn (x / 65536)
   have hj3 : j = 0 ∨ j = 1 ∨ j = 2 ∨ j = 3 := by omega
   rcases hj3 with rfl | rfl | rfl | rfl
   ·simp (disch := omega) only [rq, simprocAttr, s0, s1, s2, w0, w1, w2, lp, qy]
    exact ⟨1, by omega, by omega, Zt [_] (by simp [Xm, Q9, isTL, isT]) (by simp [Am.look, Qz, frzL, Qv, frzL_T _ (Qq _ _)])⟩
   ·simp (disch := omega) only [rq, simprocAttr, s0, s1, s2, w0, w1, w2, lp, qy]
    exact ⟨2, by omega, by omega, Zt [_] (by simp [Xm, Q9, isTL, isT]) (by simp [Am.look, Qz, frzL, Qv, frzL_T _ (Qq _ _)])⟩
   ·simp (disch := omega) only [rq, simprocAttr, s0, s1, s2, w0, w1, w2, lp, qy]
    exact ⟨3, by omega, by omega, Zt [_] (by simp [Xm, Q9, isTL, isT]) (by simp [Am.look, Qz, frzL, Qv, frzL_T _ (Qq _ _)])⟩
   ·simp (disch := omega) only [rq, simprocAttr]
    rw [← eU, show pre.length + 3 = pre2.length by omega]
    refine ⟨k + 1, by omega, by omega, ?_⟩
    rw [hp2]
    exact Qh
  ·have ek : k = l.length := by omega
   subst ek
   rw [qW]
   simp (disch := omega) only [rq, simprocAttr, hk0]
   simp [QI, Qz, frzL, Qv, frzL_T _ (Q9 _), bs]
def Qsc (P : Prg) (f : Nat) : Prop := ∀ b x : Int, J0 b ≠ 0 → -J0 b ≤ x → x < J0 b → VC P f [.int .i64 b, .int .i32 x] (bs (Qqy b x))
theorem Qq7 {n : Nat} {b : List UInt8} {cs : List AV} (h : u8 b = cs) (hn : b.length = n) : bs b = .list n cs := by rw [← h, ← hn]; rfl
set_option maxRecDepth 20000 in
theorem Qwo {P : Prg} {f fH t0 : Nat} (bd : Qf P f 39 [.tmp 4] (Q8 fH t0)) (hH : QpQ P fH) : Qsc P f := by
 intro b x hb h1 h2
 refine Qi 1 rfl (Qr _) (Qb bd (by simp) ?_)
 have hH' := hH b
 rcases ZF b with ⟨rfl, h⟩ | ⟨rfl, h⟩ | ⟨rfl, h⟩ | ⟨_, _, _, h⟩
 case inr.inr.inr => exact absurd h hb
 ·rw [h] at h1 h2
  rw [Qq7 (QB3 h1 h2) (Qcw 8 x)]
  simp (disch := omega) only [rq, simprocAttr, Q8]
  simp [QI, Qz, frzL, Qv, isDL, isD]
 ·rw [h] at h1 h2 hH'
  have hl := Qq7 (QzQ h1 h2) (Qcw 16 x)
  rw [hl]
  by_cases hx : x < 0
  ·simp (disch := omega) only [rq, simprocAttr, Q8]
   refine Qa hH' ?_
   have q1 : (x + 65536) % 256 = x % 256 := by omega
   have q2 : (x + 65536) / 256 % 256 = x / 256 % 256 := by omega
   simp (disch := omega) only [rq, simprocAttr, q1, q2]
   simp [QI, Qz, frzL, Qv, isDL, isD]
  ·simp (disch := omega) only [rq, simprocAttr, Q8]
   simp [QI, Qz, frzL, Qv, isDL, isD]
 ·rw [h] at h1 h2 hH'
  have hl := Qq7 (QzP h1 h2) (Qcw 24 x)
  rw [hl]
  by_cases hx : x < 0
  ·simp (disch := omega) only [rq, simprocAttr, Q8]
   refine Qa hH' ?_
   have q1 : (x + 16777216) % 256 = x % 256 := by omega
   have q2 : (x + 16777216) / 256 % 256 = x / 256 % 256 := by omega
   have q3 : (x + 16777216) / 65536 = x / 65536 % 256 := by omega
   simp (disch := omega) only [rq, simprocAttr, q1, q2, q3]
   simp [QI, Qz, frzL, Qv, isDL, isD]
  ·have q3 : x / 65536 % 256 = x / 65536 := by omega
   simp (disch := omega) only [rq, simprocAttr, Q8, q3]
   simp [QI, Qz, frzL, Qv, isDL, isD]
theorem Qd6 {w n : Nat} (h : n < 2 ^ w) : BitVec.ofInt w (n : Int) = BitVec.ofNat w n := by
 apply BitVec.eq_of_toNat_eq
 rw [BitVec.toNat_ofInt, yx]
 omega
theorem QhU {K : IntKind} (hs : K.signed = false) {n : Nat} (h : n < 2 ^ K.bits) : K.wrap (n : Int) = n := by
 have h1 : (n : Int) % 2 ^ K.bits = n := by
  rw [Int.emod_eq_of_lt (by omega)]
  exact_mod_cast h
 unfold IntKind.wrap
 simp [hs, h1]
theorem Qvc {K : IntKind} (hs : K.signed = false) {a b : Nat} (ha : a < 2 ^ K.bits) (hb : b < 2 ^ K.bits) : K.wrap (BitVec.ofInt K.bits (a : Int) ^^^ BitVec.ofInt K.bits (b : Int)).toNat = ((a ^^^ b : Nat) : Int) := by
 rw [Qd6 ha, Qd6 hb, Yv, yx, yx, qv ha, qv hb]
 exact QhU hs (yr ha hb)
theorem QDD {K : IntKind} (hs : K.signed = false) {a b : Nat} (ha : a < 2 ^ K.bits) (hb : b < 2 ^ K.bits) : K.wrap (BitVec.ofInt K.bits (a : Int) &&& BitVec.ofInt K.bits (b : Int)).toNat = ((a &&& b : Nat) : Int) := by
 rw [Qd6 ha, Qd6 hb, Yw, yx, yx, qv ha, qv hb]
 exact QhU hs (Nat.and_lt_two_pow _ hb)
theorem orK {K : IntKind} (hs : K.signed = false) {a b : Nat} (ha : a < 2 ^ K.bits) (hb : b < 2 ^ K.bits) : K.wrap (BitVec.ofInt K.bits (a : Int) ||| BitVec.ofInt K.bits (b : Int)).toNat = ((a ||| b : Nat) : Int) := by
 rw [Qd6 ha, Qd6 hb, BitVec.toNat_or, yx, yx, qv ha, qv hb]
 exact QhU hs (Nat.or_lt_two_pow ha hb)
theorem Qnp {K : IntKind} {n k : Nat} (hk : k ≤ K.bits) : Qu false K (n : Int) (k : Int) = some (.int K ((n / 2 ^ k : Nat) : Int)) := by
 have h3 : ¬ ((k : Int) < 0) := by omega
 have h5 : min k K.bits = k := by omega
 have h6 : (n : Int).fdiv (2 ^ k) = ((n / 2 ^ k : Nat) : Int) := by
  rw [qO _ (Int.pow_nonneg (by decide))]
  simp [jp, Int.natCast_pow]
 simp only [Qu, qa h3, qS, yl, qu, h5, h6]
theorem QyK {K : IntKind} (hs : K.signed = false) {c s : Nat} (h : s ≤ K.bits) (h2 : c * 2 ^ s < 2 ^ K.bits) : Qu true K (c : Int) (s : Int) = some (.int K ((c * 2 ^ s : Nat) : Int)) := by
 have h3 : ¬ ((s : Int) < 0) := by omega
 have h5 : min s K.bits = s := by omega
 have h6 : (c : Int) * 2 ^ s = ((c * 2 ^ s : Nat) : Int) := by simp
 simp only [Qu, qa h3, yf, qu, h5, h6]
 rw [QhU hs h2]
def QpV (c : Nat) : Nat := (c / 2) ^^^ (if c % 2 = 1 then 3988292384 else 0)
def QgU : Nat → Nat → Nat
 | 0, c => c
 | k + 1, c => QgU k (QpV c)
theorem Qxl {c : Nat} (h : c < 4294967296) : QpV c < 4294967296 := by
 unfold QpV
 have : (if c % 2 = 1 then 3988292384 else 0) < 2 ^ 32 := by split <;> decide
 exact yr (n := 32) (by omega) this
theorem Qmi : ∀ (k : Nat) {c : Nat}, c < 4294967296 → QgU k c < 4294967296
 | 0, _, h => h
 | k + 1, _, h => Qmi k (Qxl h)
theorem Qpn : ∀ (k c : Nat), QgU (k + 1) c = QpV (QgU k c)
 | 0, _ => rfl
 | k + 1, c => by rw [QgU, Qpn k, QgU]
theorem Qte (x h : Nat) : QpV (x ^^^ 2 * h) = QpV x ^^^ h := by
 have e1 : (x ^^^ 2 * h) % 2 = x % 2 := by
  have := Nat.xor_mod_two_pow (a := x) (b := 2 * h) (n := 1)
  simpa using this
 have e2 : (x ^^^ 2 * h) / 2 = x / 2 ^^^ h := by rw [Nat.xor_div_two, Nat.mul_div_cancel_left _ (by omega)]
 unfold QpV
 rw [e1, e2, y3, y3, jG h]
theorem Qtf : ∀ (k x h : Nat), QgU k (x ^^^ 2 ^ k * h) = QgU k x ^^^ h
 | 0, x, h => by simp [QgU]
 | k + 1, x, h => by
  rw [QgU, yc, qE (2 ^ k) 2, jw, Qte, Qtf k, QgU]
theorem Qie (b k : Nat) : b = b % 2 ^ k ^^^ 2 ^ k * (b / 2 ^ k) := by
 apply jf
 intro i
 rw [y9, yC, qH, Nat.testBit_div_two_pow]
 by_cases h : i < k
 ·have : ¬ k ≤ i := by omega
  simp [h, this]
 ·have h' : k ≤ i := by omega
  simp [h, h', show i - k + k = i by omega]
theorem Qzs (s b : Nat) : QpV (s ^^^ b) = QpV (s ^^^ b % 2) ^^^ (b / 2) := by
 have h : s ^^^ b = (s ^^^ b % 2) ^^^ 2 * (b / 2) := by
  have := Qie b 1
  rw [Nat.pow_one] at this
  rw [y3, ← this]
 rw [h, Qte]
def QAf (s b : Nat) : Nat := QgU 8 (s ^^^ b)
theorem QuL (s b : Nat) : QAf s b = s / 256 ^^^ QgU 8 (s % 256 ^^^ b) := by
 have h : s ^^^ b = (s % 256 ^^^ b) ^^^ 2 ^ 8 * (s / 256) := by
  have := Qie s 8
  rw [show (2 : Nat) ^ 8 = 256 from rfl] at this ⊢
  rw [y3, jG b, ← y3, ← this]
 rw [QAf, h, Qtf, jG]
theorem QBk {s b : Nat} (hs : s < 4294967296) (hb : b < 256) : QAf s b < 4294967296 := Qmi 8 (yr (n := 32) (by omega) (by omega))
def Qnr (s : Nat) (l : List UInt8) : Nat := l.foldl (fun s b => QAf s b.toNat) s
theorem Qpo {s : Nat} {l : List UInt8} {k : Nat} (h : k < l.length) : Qnr s (l.take (k + 1)) = QAf (Qnr s (l.take k)) (l[k]).toNat := by
 rw [qm h, Qnr, jX]; rfl
theorem QiX : ∀ {l : List UInt8} {s : Nat}, s < 4294967296 → Qnr s l < 4294967296
 | [], _, h => h
 | b :: l, s, h => QiX (l := l) (QBk h (UInt8.toNat_lt b))
def Qok (i : Nat) : List Int := (List.range 256).map fun j => if j < i then ((QgU 8 j : Nat) : Int) else 0
theorem JK (i : Nat) : (Qok i).length = 256 := by simp [Qok]
theorem QhW {i j : Nat} (h : j < 256) : (Qok i)[j]'(by rw [JK]; exact h) = if j < i then ((QgU 8 j : Nat) : Int) else 0 := by simp [Qok]
theorem Qyt {i : Nat} (h : i < 256) : (Qok i).set i ((QgU 8 i : Nat) : Int) = Qok (i + 1) := by
 refine yL (by simp [JK]) fun j h1 h2 => ?_
 have hj : j < 256 := by simpa [JK] using h2
 rw [jI, QhW hj]
 split
 ·rename_i e; subst e; rw [QhW hj, qc (by omega)]
 ·rename_i e; rw [QhW hj]
  by_cases h3 : j < i
  ·rw [qc h3, qc (by omega)]
  ·rw [qa h3, qa (by omega)]
def QrY (P : Prg) (f : Nat) : Prop := VC P f [] (.cell (ks .u32 (Qok 256)))
theorem QbD {l : List UInt8} {k : Nat} (h : k < l.length) : (u8 l).drop k = .int .u8 (l[k]).toNat :: u8 (l.drop (k + 1)) := by
 rw [QE, qF h]; rfl
set_option maxRecDepth 40000 in
theorem Qrx {P : Prg} {f t0 : Nat} (bd : Qf P f 24 [.tmp 0] (Qb5 t0)) : QrY P f := by
 refine Qi 1 rfl (by simp [isD, Qz4 (Qq _ _)]) (Qb bd (by simp) ?_)
 unfold Qb5
 have z0 : ([.int .u32 0, .int .u32 0] : List AV) = [.int .u32 0, .int .u32 0] := rfl
 simp (disch := omega) only [rq, simprocAttr]
 refine Qg (ι := Nat) (fun i => ⟨[(5, .int .i64 i), (1, .ref 0 1 0)], [⟨t0, 256, 1, ks .u32 (Qok i), 0⟩]⟩) (fun i => i ≤ 256) (fun i => 256 - i) 0 (Qh) (by omega) ?_
 intro i hi
 by_cases hlt : i < 256
 ·simp (disch := omega) only [rq, simprocAttr]
  refine Qg (ι := Nat) (fun j => ⟨[(10, .int .i64 j), (3, .int .u32 (QgU j i)), (5, .int .i64 i), (2, .int .i64 i), (1, .ref 0 1 0)], [⟨t0, 256, 1, ks .u32 (Qok i), 0⟩]⟩) (fun j => j ≤ 8) (fun j => 8 - j) 0 (Qk (by simp [Am.look, QgU])) (by omega) ?_
  intro j hj
  by_cases hjl : j < 8
  ·have hc := Qmi j (c := i) (by omega)
   have hn := Qpn j i
   generalize QgU j i = c at *
   have a1 : IntKind.u32.wrap (BitVec.ofInt IntKind.u32.bits (c : Int) &&& BitVec.ofInt IntKind.u32.bits 1).toNat = ((c % 2 : Nat) : Int) := by
    have h := QDD (K := .u32) rfl (a := c) (b := 1) (by exact hc) (by decide)
    rw [Nat.and_one_is_mod] at h
    exact h
   have a2 : Qu false .u32 (c : Int) 1 = some (.int .u32 ((c / 2 : Nat) : Int)) := Qnp (K := .u32) (n := c) (k := 1) (by decide)
   rcases jZ c with h2 | h2
   ·have a3 : IntKind.u32.wrap (BitVec.ofInt IntKind.u32.bits ((c / 2 : Nat) : Int) ^^^ BitVec.ofInt IntKind.u32.bits 0).toNat = ((QgU (j + 1) i : Nat) : Int) := by
     rw [hn, QpV, h2, qa (by decide)]
     exact Qvc (K := .u32) rfl (a := c / 2) (b := 0) (by show c / 2 < 4294967296; omega) (by decide)
    have a1' : IntKind.u32.wrap (BitVec.ofInt IntKind.u32.bits (c : Int) &&& BitVec.ofInt IntKind.u32.bits 1).toNat = 0 := by rw [a1, h2]; rfl
    simp (disch := omega) only [rq, simprocAttr, a1', a2, a3]
    exact ⟨j + 1, by omega, by omega, Qh⟩
   ·have a3 : IntKind.u32.wrap (BitVec.ofInt IntKind.u32.bits ((c / 2 : Nat) : Int) ^^^ BitVec.ofInt IntKind.u32.bits 3988292384).toNat = ((QgU (j + 1) i : Nat) : Int) := by
     rw [hn, QpV, h2, qc rfl]
     exact Qvc (K := .u32) rfl (a := c / 2) (b := 3988292384) (by show c / 2 < 4294967296; omega) (by decide)
    have a1' : IntKind.u32.wrap (BitVec.ofInt IntKind.u32.bits (c : Int) &&& BitVec.ofInt IntKind.u32.bits 1).toNat = 1 := by rw [a1, h2]; rfl
    simp (disch := omega) only [rq, simprocAttr, a1', a2, a3]
    exact ⟨j + 1, by omega, by omega, Qh⟩
  ·obtain rfl : j = 8 := by omega
   have e1 := JK i
   have e2 := Qd .u32 (Qok i)
   have e3 : (ks .u32 (Qok i)).take i ++ [.int .u32 (QgU 8 i)] ++ (ks .u32 (Qok i)).drop (i + 1) = ks .u32 (Qok (i + 1)) := by
    rw [← Qyt hlt, ye, qc (by rw [JK]; exact hlt)]; simp [ks, yW, ji]
   simp (disch := omega) only [rq, simprocAttr, e1, e2, e3]
   exact ⟨i + 1, by omega, by omega, Qh⟩
 ·obtain rfl : i = 256 := by omega
  simp (disch := omega) only [rq, simprocAttr]
  simp [QI, Qz, frzL, Qv, frzL_T _ (Qq _ _)]
def Qsi (P : Prg) (f : Nat) : Prop := ∀ (s : Nat) (l : List UInt8), s < 4294967296 → VC P f [.int .u32 s, bs l] (if 100000 < l.length then .tup [.int .u32 0, .int .i64 4] else .tup [.int .u32 (Qnr s l), .int .i64 0])
set_option maxRecDepth 40000 in
theorem QuN {P : Prg} {f fT : Nat} (bd : Qf P f 32 [.tmp 4, .tmp 5] (Qbc fT)) (hT : QrY P fT) : Qsi P f := by
 intro s l hs
 refine Qn (by simp [isDL, isD, Qr]) (by split <;> rfl) bd ?_
 by_cases hl : 100000 < l.length
 ·rw [qc hl]
  simp (disch := omega) only [rq, simprocAttr, Qbc, bs]
 ·rw [qa hl]
  have hT' := hT
  have t0 := Qd .u32 (Qok 256)
  rw [JK] at t0
  simp (disch := omega) only [rq, simprocAttr, Qbc, bs]
  refine Qa hT' ?_
  simp (disch := omega) only [rq, simprocAttr]
  refine Qg (ι := Nat) (fun k => ⟨[(15, .int .i64 k), (14, .int .i64 l.length), (13, .list l.length (u8 l)), (6, .cell (ks .u32 (Qok 256))), (0, .int .u32 (Qnr s (l.take k)))], []⟩) (fun k => k ≤ l.length) (fun k => l.length - k) 0 (Qk (by simp [Am.look, Qnr])) (by omega) ?_
  intro k hk
  have hc := QiX (l := l.take k) hs
  by_cases hlt : k < l.length
  ·have e1 := QbD hlt
   have hn := Qpo (s := s) hlt
   generalize Qnr s (l.take k) = c at *
   rw [QuL] at hn
   have hb := (l[k]).toNat_lt
   have h0 : (c % 256 ^^^ (l[k]).toNat) < 256 := yr (n := 8) (qz _ (by decide)) hb
   have h1 := Qmi 8 (c := c % 256 ^^^ (l[k]).toNat) (by omega)
   have a1 : Qu false .u32 (c : Int) 8 = some (.int .u32 ((c / 256 : Nat) : Int)) := Qnp (K := .u32) (n := c) (k := 8) (by decide)
   have a2 : IntKind.u8.wrap (c : Int) = ((c % 256 : Nat) : Int) := by rw [Zn]; omega
   have a3 : IntKind.u8.wrap (BitVec.ofInt IntKind.u8.bits ((c % 256 : Nat) : Int) ^^^ BitVec.ofInt IntKind.u8.bits ((l[k]).toNat : Int)).toNat = ((c % 256 ^^^ (l[k]).toNat : Nat) : Int) :=
    Qvc (K := .u8) rfl (a := c % 256) (b := (l[k]).toNat) (qz _ (by decide)) hb
   have a4 : IntKind.u32.wrap (BitVec.ofInt IntKind.u32.bits ((c / 256 : Nat) : Int) ^^^ BitVec.ofInt IntKind.u32.bits ((QgU 8 (c % 256 ^^^ (l[k]).toNat) : Nat) : Int)).toNat = ((Qnr s (l.take (k + 1)) : Nat) : Int) := by
    rw [hn]; exact Qvc (K := .u32) rfl (by show c / 256 < 4294967296; omega) h1
   generalize c % 256 ^^^ (l[k]).toNat = x at *
   have e2 : (ks .u32 (Qok 256)).drop x = .int .u32 ((QgU 8 x : Nat) : Int) :: ks .u32 ((Qok 256).drop (x + 1)) := by
    rw [QaW, qF (by rw [JK]; exact h0), Qdr, QhW h0, qc h0]
   simp (disch := omega) only [rq, simprocAttr, e1, a1, a2, a3, a4, e2, t0]
   exact ⟨k + 1, by omega, by omega, Qh⟩
  ·have ek : k = l.length := by omega
   subst ek
   rw [qW]
   simp (disch := omega) only [rq, simprocAttr]
def QpR (P : Prg) (f : Nat) : Prop := ∀ (l : List UInt8), VC P f [bs l] (if 100000 < l.length then .tup [.int .u32 0, .int .i64 4] else .tup [.int .u32 ((4294967295 - Qnr 4294967295 l : Nat) : Int), .int .i64 0])
theorem QAp {c : Nat} (h : c < 4294967296) : 4294967295 ^^^ c = 4294967295 - c := by
 have h1 : BitVec.allOnes 32 ^^^ BitVec.ofNat 32 c = ~~~ BitVec.ofNat 32 c := by
  apply BitVec.eq_of_getElem_eq
  intro i hi
  rw [BitVec.getElem_xor, BitVec.getElem_allOnes, BitVec.getElem_not, Bool.true_xor]
 have h2 := congrArg BitVec.toNat h1
 rw [Yv, BitVec.toNat_not, BitVec.toNat_allOnes, yx, qv h] at h2
 exact h2
theorem Qxn {P : Prg} {f fN : Nat} (bd : Qf P f 16 [.tmp 2, .tmp 3] (QbO fN)) (hN : Qsi P fN) : QpR P f := by
 intro l
 refine Qn (by simp [isDL, isD, Qr]) (by split <;> rfl) bd ?_
 have hN' := hN 4294967295 l (by decide)
 have hc := QiX (l := l) (s := 4294967295) (by decide)
 generalize Qnr 4294967295 l = c at *
 simp only [bs] at hN'
 by_cases hl : 100000 < l.length
 ·rw [qc hl] at hN' ⊢
  simp (disch := omega) only [rq, simprocAttr, QbO, bs]
  refine Qa hN' ?_
  simp (disch := omega) only [rq, simprocAttr]
 ·rw [qa hl] at hN' ⊢
  have a1 : IntKind.u32.wrap (BitVec.ofInt IntKind.u32.bits IntKind.u32.max ^^^ BitVec.ofInt IntKind.u32.bits (c : Int)).toNat = ((4294967295 - c : Nat) : Int) := by
   rw [← QAp hc]
   exact Qvc (K := .u32) rfl (a := 4294967295) (b := c) (by decide) hc
  have a2 : IntKind.u32.signed = false := rfl
  simp (disch := omega) only [rq, simprocAttr, QbO, bs]
  refine Qa hN' ?_
  simp (disch := omega) only [rq, simprocAttr, a1, a2]
def QxV (P : Prg) (f : Nat) : Prop := ∀ s b : Nat, s < 4294967296 → b < 2 → VC P f [.int .u32 s, .int .i64 b] (.int .u32 (QpV (s ^^^ b) : Nat))
theorem QAx {s b : Nat} (hb : b < 2) : QpV (s ^^^ b) = s / 2 ^^^ (if (s + b) % 2 = 1 then 3988292384 else 0) := by
 have e1 : (s ^^^ b) / 2 = s / 2 := by rw [Nat.xor_div_two, show b / 2 = 0 by omega, Yc]
 have e2 : (s ^^^ b) % 2 = (s + b) % 2 := by
  have := Nat.xor_mod_two_pow (a := s) (b := b) (n := 1)
  rw [Nat.pow_one] at this
  rw [this]
  rcases (by omega : b = 0 ∨ b = 1) with rfl | rfl <;> rcases jZ s with h | h <;> rw [h] <;> (try simp) <;> omega
 rw [QpV, e1, e2]
theorem Qus {P : Prg} {f : Nat} (bd : Qf P f 19 [.tmp 4] Zl) : QxV P f := by
 intro s b hs hb
 refine Qn rfl rfl bd ?_
 rw [QAx hb]
 have e1 : IntKind.u32.wrap (BitVec.ofInt IntKind.u32.bits ((s / 2 : Nat) : Int) ^^^ BitVec.ofInt IntKind.u32.bits 3988292384).toNat = ((s / 2 ^^^ 3988292384 : Nat) : Int) :=
  Qvc (K := .u32) rfl (a := s / 2) (b := 3988292384) (by show s / 2 < 4294967296; omega) (by decide)
 have e2 : ((s : Int)).tdiv 2 = ((s / 2 : Nat) : Int) := rfl
 have e3 : ((s : Int)).tmod 2 = ((s % 2 : Nat) : Int) := rfl
 have e5 : (s : Int) / 2 = ((s / 2 : Nat) : Int) := by omega
 rcases jZ s with h | h <;> rcases (by omega : b = 0 ∨ b = 1) with rfl | rfl
 ·rw [qa (by omega), Yc]
  rw [h] at e3
  simp (disch := omega) only [rq, simprocAttr, Zl, e1, e2, e3, e5]
 ·rw [qc (by omega)]
  rw [h] at e3
  simp (disch := omega) only [rq, simprocAttr, Zl, e1, e2, e3, e5]
 ·rw [qc (by omega)]
  rw [h] at e3
  simp (disch := omega) only [rq, simprocAttr, Zl, e1, e2, e3, e5]
 ·rw [qa (by omega), Yc]
  rw [h] at e3
  simp (disch := omega) only [rq, simprocAttr, Zl, e1, e2, e3, e5]
def Qx5 (P : Prg) (f : Nat) : Prop := ∀ s b : Nat, s < 4294967296 → b < 256 → VC P f [.int .u32 s, .int .u8 b] (.int .u32 (QAf s b : Nat))
def byK (s b : Nat) : Nat → Nat
 | 0 => s
 | k + 1 => QpV (byK s b k ^^^ b / 2 ^ k % 2)
theorem QAj {s b : Nat} (hs : s < 4294967296) : ∀ k, byK s b k < 4294967296
 | 0 => hs
 | k + 1 => Qxl (yr (n := 32) (QAj hs k) (by have := qz (b / 2 ^ k) (show 0 < 2 by decide); omega))
theorem QxE (s b : Nat) : ∀ k, k ≤ 8 → QgU (8 - k) (byK s b k ^^^ b / 2 ^ k) = QAf s b
 | 0, _ => by simp [byK, QAf]
 | k + 1, h => by
  have := QxE s b k (by omega)
  rw [show 8 - k = (8 - (k + 1)) + 1 by omega, QgU, Qzs] at this
  rw [byK, yc, ← qw]
  exact this
theorem Qut {P : Prg} {f fS : Nat} (bd : Qf P f 18 [.tmp 4] (Jy fS)) (hS : QxV P fS) : Qx5 P f := by
 intro s b hs hb
 refine Qn rfl rfl bd ?_
 simp (disch := omega) only [rq, simprocAttr, Jy]
 refine Qg (ι := Nat) (fun k => ⟨[(5, .int .i64 k), (0, .int .u32 (byK s b k)), (1, .int .u8 (b / 2 ^ k : Nat))], []⟩) (fun k => k ≤ 8) (fun k => 8 - k) 0 (Qk (by simp [Am.look, byK])) (by omega) ?_
 intro k hk
 have hc := QAj (b := b) hs k
 by_cases hlt : k < 8
 ·have hn : byK s b (k + 1) = QpV (byK s b k ^^^ b / 2 ^ k % 2) := rfl
  have hd : b / 2 ^ (k + 1) = b / 2 ^ k / 2 := by rw [yc, qw]
  have hd2 : b / 2 ^ k ≤ b := yJ _ _
  generalize byK s b k = c at *
  generalize b / 2 ^ k = x at *
  have h2 := hS c (x % 2) hc (qz _ (by decide))
  rw [← hn] at h2
  have e2 : ((x : Int)).tdiv 2 = ((x / 2 : Nat) : Int) := rfl
  have e3 : ((x : Int)).tmod 2 = ((x % 2 : Nat) : Int) := rfl
  have e4 : x % 2 < 2 := qz _ (by decide)
  simp (disch := omega) only [rq, simprocAttr, e2, e3]
  refine Qa h2 ?_
  simp (disch := omega) only [rq, simprocAttr, e2]
  exact ⟨k + 1, by omega, by omega, Qk (by simp [Am.look, hd])⟩
 ·obtain rfl : k = 8 := by omega
  have h8 := QxE s b 8 (by omega)
  have h9 : b / 2 ^ 8 = 0 := yK hb
  rw [h9, Yc, jy, QgU] at h8
  rw [h8]
  simp (disch := omega) only [rq, simprocAttr]
def Qju (P : Prg) (f : Nat) : Prop := ∀ (s : Nat) (l : List UInt8), s < 4294967296 → l.length ≤ 1000000 → VC P f [.int .u32 s, bs l] (.int .u32 (Qnr s l : Nat))
theorem QoU {P : Prg} {f fB : Nat} (bd : Qf P f 19 [.tmp 4] (XL fB)) (hB : Qx5 P fB) : Qju P f := by
 intro s l hs hl
 refine Qn (by simp [isDL, isD, Qr]) rfl bd ?_
 simp (disch := omega) only [rq, simprocAttr, XL, bs]
 refine Qg (ι := Nat) (fun k => ⟨[(5, .int .i64 k), (1, .list l.length (u8 l)), (0, .int .u32 (Qnr s (l.take k)))], []⟩) (fun k => k ≤ l.length) (fun k => l.length - k) 0 (Qk (by simp [Am.look, Qnr])) (by omega) ?_
 intro k hk
 have hc := QiX (l := l.take k) hs
 by_cases hlt : k < l.length
 ·have e1 := QbD hlt
  have hn := Qpo (s := s) hlt
  have h2 := hB (Qnr s (l.take k)) (l[k]).toNat hc (l[k]).toNat_lt
  rw [← hn] at h2
  simp (disch := omega) only [rq, simprocAttr, e1]
  refine Qa h2 ?_
  simp (disch := omega) only [rq, simprocAttr]
  exact ⟨k + 1, by omega, by omega, Qh⟩
 ·have ek : k = l.length := by omega
  subst ek
  rw [qW]
  simp (disch := omega) only [rq, simprocAttr]
def Qx4 (P : Prg) (f : Nat) : Prop := ∀ (l : List UInt8), l.length ≤ 1000000 → VC P f [bs l] (.int .u32 ((4294967295 - Qnr 4294967295 l : Nat) : Int))
theorem QyZ {P : Prg} {f fB : Nat} (bd : Qf P f 6 [.tmp 2] (Qak fB)) (hB : Qju P fB) : Qx4 P f := by
 intro l hl
 refine Qn (by simp [isDL, isD, Qr]) rfl bd ?_
 have h := hB 4294967295 l (by decide) hl
 have hc := QiX (l := l) (s := 4294967295) (by decide)
 simp only [bs] at h
 generalize Qnr 4294967295 l = c at *
 have e1 : ((4294967295 - c : Nat) : Int) = 4294967295 - c := by omega
 simp (disch := omega) only [rq, simprocAttr, Qak, bs]
 refine Qa h ?_
 simp (disch := omega) only [rq, simprocAttr, e1]
def nB (N : Nat) : Nat := (N + 7) / 8
theorem Qzd (V i : Nat) : leB V (i + 1) = leB V i ++ [UInt8.ofNat (V / 256 ^ i % 256)] := by
 have h1 : (leB V (i + 1)).take (i + 1) = (leB V (i + 1)).take i ++ [UInt8.ofNat (V / 256 ^ i % 256)] := QcD (by omega)
 have h2 : ∀ k j n : Nat, k ≤ j → (leB n j).take k = leB n k := by
  intro k
  induction k with
  | zero => intro j n _; simp [leB]
  | succ k ih =>
   intro j n h
   obtain ⟨j, rfl⟩ : ∃ j', j = j' + 1 := ⟨j - 1, by omega⟩
   simp [leB, ih j (n / 256) (by omega)]
 rw [h2 (i + 1) (i + 1) V (by omega), h2 i (i + 1) V (by omega)] at h1
 exact h1
theorem QwU : ∀ (i V u : Nat), leB (V + 256 ^ i * u) i = leB V i
 | 0, _, _ => rfl
 | i + 1, V, u => by
  have e : 256 ^ (i + 1) * u = 256 * (256 ^ i * u) := by rw [yc, qE (256 ^ i) 256, jw]
  have e1 : (V + 256 ^ (i + 1) * u) % 256 = V % 256 := by rw [e]; omega
  have e2 : (V + 256 ^ (i + 1) * u) / 256 = V / 256 + 256 ^ i * u := by rw [e]; omega
  simp only [leB, e1, e2, QwU i]
theorem QsJ (i : Nat) : (256 : Nat) ^ i = 2 ^ (8 * i) := by rw [Nat.pow_mul]
theorem Qdw {V i at_ : Nat} (h : V < 2 ^ (8 * i + at_)) (ha : at_ ≤ 8) : leB V (i + 1) = leB V i ++ [UInt8.ofNat (V / 256 ^ i)] ∧ V / 256 ^ i < 2 ^ at_ := by
 have h1 : V / 256 ^ i < 2 ^ at_ := j0 (by rw [QsJ, ← qZ]; exact h)
 have h2 : 2 ^ at_ ≤ 2 ^ 8 := qq (by omega) ha
 exact ⟨by rw [Qzd, qv (by omega)], h1⟩
theorem QeN {V i at_ w r : Nat} (h : V < 2 ^ (8 * i + at_)) (hw : w < 2 ^ r) (hr : at_ + r ≤ 8) :
  leB (V + 2 ^ (8 * i + at_) * w) (i + 1) = leB V i ++ [UInt8.ofNat (V / 256 ^ i + 2 ^ at_ * w)] ∧ V / 256 ^ i + 2 ^ at_ * w < 2 ^ (at_ + r) ∧ V + 2 ^ (8 * i + at_) * w < 2 ^ (8 * i + (at_ + r)) := by
 obtain ⟨_, h1⟩ := Qdw h (by omega)
 have e : 2 ^ (8 * i + at_) * w = 256 ^ i * (2 ^ at_ * w) := by rw [QsJ, qZ, jw]
 have h2 : V / 256 ^ i + 2 ^ at_ * w < 2 ^ (at_ + r) := by
  have : 2 ^ at_ * (w + 1) ≤ 2 ^ at_ * 2 ^ r := yA _ hw
  rw [qZ]; rw [jB, jz] at this; omega
 have h3 : V + 2 ^ (8 * i + at_) * w < 2 ^ (8 * i + (at_ + r)) := by
  have : 2 ^ (8 * i + at_) * (w + 1) ≤ 2 ^ (8 * i + at_) * 2 ^ r := yA _ hw
  rw [← js, qZ 2 (8 * i + at_)]; rw [jB, jz] at this; omega
 refine ⟨?_, h2, h3⟩
 have h4 := (Qdw (V := V + 2 ^ (8 * i + at_) * w) (i := i) (at_ := at_ + r) h3 hr).1
 rw [h4, e, QwU, Nat.add_mul_div_left _ _ (qR (by omega))]
theorem QCG (V q r : Nat) (hr : r < 8) : V / 256 ^ q % 256 / 2 ^ r % 2 = V / 2 ^ (8 * q + r) % 2 := by
 rw [QsJ, show (256 : Nat) = 2 ^ r * 2 ^ (8 - r) by rw [← qZ, show r + (8 - r) = 8 by omega], Nat.mod_mul_right_div_self, qw, ← qZ]
 rw [Nat.mod_mod_of_dvd]
 exact ⟨2 ^ (8 - r - 1), by rw [← Nat.pow_succ']; congr 1; omega⟩
theorem QBn {V q r n : Nat} (hr : r + n ≤ 8) : V / 256 ^ q % 256 / 2 ^ r % 2 ^ n = V / 2 ^ (8 * q + r) % 2 ^ n := by
 rw [QsJ, show (256 : Nat) = 2 ^ r * 2 ^ (8 - r) by rw [← qZ, show r + (8 - r) = 8 by omega], Nat.mod_mul_right_div_self, qw, ← qZ]
 rw [Nat.mod_mod_of_dvd]
 exact ⟨2 ^ (8 - r - n), by rw [← qZ]; congr 1; omega⟩
def bA (N V : Nat) : AV := .agg [.list (nB N) (u8 (leB V (nB N))), .int .i64 N]
theorem QaR (N V : Nat) : isD (bA N V) = true := by simp [bA, isD, isDL, QiQ]
theorem QmM {n : Nat} (h : n < 9223372036854775808) : IntKind.i64.wrap (BitVec.ofInt IntKind.i64.bits (n : Int) &&& BitVec.ofInt IntKind.i64.bits 7).toNat = ((n % 8 : Nat) : Int) := by
 have e1 : (BitVec.ofInt 64 (n : Int)).toNat = n := by
  rw [BitVec.toNat_ofInt]
  show ((n : Int) % 18446744073709551616).toNat = n
  omega
 have e2 : (BitVec.ofInt 64 7).toNat = 7 := by decide
 have : (BitVec.ofInt 64 (n : Int) &&& BitVec.ofInt 64 7).toNat = n % 8 := by
  rw [Yw, e1, e2]
  exact ja n 3
 show IntKind.i64.wrap ((BitVec.ofInt 64 (n : Int) &&& BitVec.ofInt 64 7).toNat : Int) = _
 rw [this, ZT] <;> omega
theorem QBT {l : List UInt8} {k : Nat} (h : k < l.length) : (u8 l).drop k = .int .u8 (l[k]).toNat :: u8 (l.drop (k + 1)) := by
 rw [QE, qF h]; rfl
theorem QwV {V k i : Nat} (h : i < k) : (u8 (leB V k)).drop i = .int .u8 ((V / 256 ^ i % 256 : Nat) : Int) :: u8 ((leB V k).drop (i + 1)) := by
 rw [QBT (by rw [Qy]; exact h)]
 have := Qra k V i h
 rw [qg (by rw [Qy]; exact h)] at this
 rw [Option.some.inj this]
 have : (UInt8.ofNat (V / 256 ^ i % 256)).toNat = V / 256 ^ i % 256 := by simp
 rw [this]
def QcX (P : Prg) (f : Nat) : Prop := ∀ N V : Nat, V < 2 ^ N → N ≤ 330000 → VC P f [bA N V] (.int .i64 0)
theorem QuV {P : Prg} {f t0 : Nat} (bd : Qf P f 40 [.tmp 2] (Qbd t0)) : QcX P f := by
 intro N V hV hN
 refine Qn (by simp [isDL, QaR]) rfl bd ?_
 have e1 : Qu false .i64 ((N : Int) + 7) 3 = some (.int .i64 ((nB N : Nat) : Int)) := by
  rw [show (N : Int) + 7 = ((N + 7 : Nat) : Int) by omega]
  exact Qnp (K := .i64) (n := N + 7) (k := 3) (by decide)
 have e2 := QmM (n := N) (by omega)
 have e3 : (u8 (leB V (nB N))).length = nB N := by simp [u8, Qy]
 by_cases h0 : N % 8 = 0
 ·rw [h0] at e2
  have e2' : IntKind.i64.wrap (BitVec.ofInt IntKind.i64.bits (N : Int) &&& BitVec.ofInt IntKind.i64.bits 7).toNat = 0 := e2
  simp (disch := omega) only [rq, simprocAttr, Qbd, bA, e1, e2', e3]
 ·have hn : nB N = N / 8 + 1 := by unfold nB; omega
  have h8 : N = 8 * (N / 8) + N % 8 := by omega
  obtain ⟨l1, l2⟩ := Qdw (V := V) (i := N / 8) (at_ := N % 8) (by rw [← h8]; exact hV) (by omega)
  have e4 := QwV (V := V) (k := nB N) (i := N / 8) (by omega)
  have h256 : V / 256 ^ (N / 8) % 256 = V / 256 ^ (N / 8) := qv (by
   have : 2 ^ (N % 8) ≤ 2 ^ 8 := qq (by omega) (by omega)
   omega)
  rw [h256] at e4
  have e5 : Qu false .u8 ((V / 256 ^ (N / 8) : Nat) : Int) ((N % 8 : Nat) : Int) = some (.int .u8 0) := by
   have := Qnp (K := .u8) (n := V / 256 ^ (N / 8)) (k := N % 8) (by show N % 8 ≤ 8; omega)
   rw [this, yK l2]; rfl
  have e6 : nB N - 1 = N / 8 := by omega
  have hq : ((N % 8 : Nat) : Int) = (N : Int) % 8 := by omega
  generalize V / 256 ^ (N / 8) = y at *
  obtain ⟨a, ha⟩ : ∃ a, a = N % 8 := ⟨_, rfl⟩
  rw [← ha] at e2 e5 hq
  simp (disch := omega) only [rq, simprocAttr, Qbd, bA, e1, e2, e3, e4, e5, e6]
theorem QA0 {t : Nat} (h : t ≤ 8) : Qu true .u8 1 (t : Int) = some (.int .u8 ((2 ^ t % 256 : Nat) : Int)) ∧ IntKind.u8.wrap (((2 ^ t % 256 : Nat) : Int) - 1) = ((2 ^ t - 1 : Nat) : Int) := by
 rcases (by omega : t = 0 ∨ t = 1 ∨ t = 2 ∨ t = 3 ∨ t = 4 ∨ t = 5 ∨ t = 6 ∨ t = 7 ∨ t = 8) with rfl | rfl | rfl | rfl | rfl | rfl | rfl | rfl | rfl <;> exact ⟨rfl, by decide⟩
theorem QyJ {c s : Nat} (hs : s ≤ 64) (h : c * 2 ^ s < 18446744073709551616) : Qu true .u64 (c : Int) (s : Int) = some (.int .u64 ((c * 2 ^ s : Nat) : Int)) := Qv3 hs h
theorem Ql5 {X h t : Nat} : X % 2 ^ (h + t) = X % 2 ^ h + X / 2 ^ h % 2 ^ t * 2 ^ h := by
 rw [qZ, Nat.mod_mul, qE]
def Qtq (P : Prg) (f : Nat) : Prop := ∀ N V a n : Nat, V < 2 ^ N → N ≤ 400000 → a + n ≤ N → n ≤ 64 → VC P f [bA N V, .int .i64 a, .int .i64 n] (.int .u64 ((V / 2 ^ a % 2 ^ n : Nat) : Int))
theorem QzE {P : Prg} {f t0 : Nat} (bd : Qf P f 47 [.tmp 6] (QfH t0)) : Qtq P f := by
 intro N V a n hV hN han hn
 refine Qn (by simp [isDL, QaR, isD]) rfl bd ?_
 simp (disch := omega) only [rq, simprocAttr, QfH, bA]
 refine Qg (ι := Nat) (fun h => ⟨[(8, .int .i64 h), (7, .int .u64 ((V / 2 ^ a % 2 ^ h : Nat) : Int)), (1, .int .i64 a), (2, .int .i64 n), (3, .ref 0 1 0)], [⟨t0, 2, 1, [.list (nB N) (u8 (leB V (nB N))), .int .i64 N], 0⟩]⟩) (fun h => h ≤ n) (fun h => n - h) 0 (Qk (by simp [Am.look, Yb])) (by omega) ?_
 intro h hh
 by_cases hlt : h < n
 ·obtain ⟨q, hq⟩ : ∃ q, q = (a + h) / 8 := ⟨_, rfl⟩
  obtain ⟨o, ho⟩ : ∃ o, o = (a + h) % 8 := ⟨_, rfl⟩
  obtain ⟨t, ht⟩ : ∃ t, t = min (n - h) (8 - o) := ⟨_, rfl⟩
  have e1 : IntKind.i64.wrap (BitVec.ofInt IntKind.i64.bits ((a : Int) + h) &&& BitVec.ofInt IntKind.i64.bits 7).toNat = (o : Int) := by
   rw [show (a : Int) + h = ((a + h : Nat) : Int) by omega, QmM (by omega), ho]
  have e2 : Qu false .i64 ((a : Int) + h) 3 = some (.int .i64 (q : Int)) := by
   rw [show (a : Int) + h = ((a + h : Nat) : Int) by omega, hq]
   exact Qnp (K := .i64) (n := a + h) (k := 3) (by decide)
  have hqn : q < nB N := by unfold nB; omega
  have e3 := QwV (V := V) (k := nB N) (i := q) hqn
  have e4 : (u8 (leB V (nB N))).length = nB N := by simp [u8, Qy]
  have hy : V / 256 ^ q % 256 < 256 := qz _ (by decide)
  have e5 : Qu false .u8 ((V / 256 ^ q % 256 : Nat) : Int) (o : Int) = some (.int .u8 ((V / 256 ^ q % 256 / 2 ^ o : Nat) : Int)) := Qnp (K := .u8) (k := o) (by show o ≤ 8; omega)
  obtain ⟨e6, e7⟩ := QA0 (t := t) (by omega)
  have hz : V / 256 ^ q % 256 / 2 ^ o < 256 := Yh (yJ _ _) hy
  have h2t : 2 ^ t - 1 < 256 := by
   have : 2 ^ t ≤ 2 ^ 8 := qq (by omega) (by omega)
   omega
  have e8 : IntKind.u8.wrap (BitVec.ofInt IntKind.u8.bits ((V / 256 ^ q % 256 / 2 ^ o : Nat) : Int) &&& BitVec.ofInt IntKind.u8.bits ((2 ^ t - 1 : Nat) : Int)).toNat = ((V / 2 ^ a / 2 ^ h % 2 ^ t : Nat) : Int) := by
   rw [QDD (K := .u8) rfl hz h2t, ja, QBn (by omega), show 8 * q + o = a + h by omega, qZ, qw]
  have hc : V / 2 ^ a / 2 ^ h % 2 ^ t < 2 ^ t := qz _ (qR (by omega))
  have hmul : V / 2 ^ a / 2 ^ h % 2 ^ t * 2 ^ h < 2 ^ (h + t) := by
   rw [qZ, qE]; exact Nat.mul_lt_mul_of_pos_left hc (qR (by omega))
  have h64 : 2 ^ (h + t) ≤ 2 ^ 64 := qq (by omega) (by omega)
  have hv0 : V / 2 ^ a % 2 ^ h < 2 ^ h := qz _ (qR (by omega))
  have h65 : 2 ^ h ≤ 2 ^ 64 := qq (by omega) (by omega)
  have e9 := Ql5 (X := V / 2 ^ a) (h := h) (t := t)
  generalize hcc : V / 2 ^ a / 2 ^ h % 2 ^ t = c at *
  have e10 : Qu true .u64 (c : Int) (h : Int) = some (.int .u64 ((c * 2 ^ h : Nat) : Int)) := QyJ (by omega) (by omega)
  have e11 : IntKind.u64.wrap (BitVec.ofInt IntKind.u64.bits ((V / 2 ^ a % 2 ^ h : Nat) : Int) ||| BitVec.ofInt IntKind.u64.bits ((c * 2 ^ h : Nat) : Int)).toNat = ((V / 2 ^ a % 2 ^ (h + t) : Nat) : Int) := by
   rw [QzV _ _ (by omega) (by omega), QoW hv0, e9]
  generalize V / 2 ^ a % 2 ^ h = v0 at *
  generalize V / 256 ^ q % 256 / 2 ^ o = z at *
  generalize V / 256 ^ q % 256 = y at *
  have hc8 : c < 256 := by
   have : 2 ^ t ≤ 2 ^ 8 := qq (by omega) (by omega)
   omega
  have e12 : (if (8 : Int) - o < n - h then (8 : Int) - o else n - h) = (t : Int) := by split <;> omega
  simp (disch := omega) only [rq, simprocAttr, e1, e2, e3, e4, e5, e6, e7, e8, e10, e11, e12]
  exact ⟨h + t, by omega, by omega, Qh⟩
 ·obtain rfl : h = n := by omega
  simp (disch := omega) only [rq, simprocAttr]
def QkV (P : Prg) (f : Nat) : Prop := ∀ N V a n : Nat, V < 2 ^ N → N ≤ 330000 → n ≤ 64 → a ≤ 400000 → VC P f [bA N V, .int .i64 a, .int .i64 n] (if N < a + n then .tup [.int .u64 0, .int .i64 24] else .tup [.int .u64 ((V / 2 ^ a % 2 ^ n : Nat) : Int), .int .i64 0])
theorem QzF {P : Prg} {f fC fG t0 : Nat} (bd : Qf P f 34 [.tmp 6, .tmp 7] (QcW fC fG t0)) (hC : QcX P fC) (hG : Qtq P fG) : QkV P f := by
 intro N V a n hV hN hn ha
 refine Qn (by simp [isDL, QaR, isD]) (by split <;> rfl) bd ?_
 have hC' := hC N V hV hN
 rw [bA] at hC'
 by_cases hlt : N < a + n
 ·rw [qc hlt]
  simp (disch := omega) only [rq, simprocAttr, QcW, bA]
  refine Qa hC' ?_
  simp (disch := omega) only [rq, simprocAttr]
 ·rw [qa hlt]
  have hG' := hG N V a n hV (by omega) (by omega) hn
  rw [bA] at hG'
  generalize V / 2 ^ a % 2 ^ n = v at *
  simp (disch := omega) only [rq, simprocAttr, QcW, bA]
  iterate 2 (refine Qa (by assumption) ?_; simp (disch := omega) only [rq, simprocAttr])
def Qsl (P : Prg) (f : Nat) : Prop := ∀ N V i : Nat, N ≤ 400000 → i < N → VC P f [bA N V, .int .i64 i] (.int .i64 ((V / 2 ^ i % 2 : Nat) : Int))
theorem Qy0 {P : Prg} {f t0 : Nat} (bd : Qf P f 24 [.tmp 4] (Qal t0)) : Qsl P f := by
 intro N V i hN hi
 refine Qn (by simp [isDL, QaR, isD]) rfl bd ?_
 have hq : i / 8 < nB N := by unfold nB; omega
 have e3 := QwV (V := V) (k := nB N) (i := i / 8) hq
 have e4 : (u8 (leB V (nB N))).length = nB N := by simp [u8, Qy]
 have hy : V / 256 ^ (i / 8) % 256 < 256 := qz _ (by decide)
 have hb := QCG V (i / 8) (i % 8) (by omega)
 rw [show 8 * (i / 8) + i % 8 = i by omega] at hb
 rw [← hb]
 generalize V / 256 ^ (i / 8) % 256 = y at *
 obtain ⟨q, hq'⟩ : ∃ q, q = i / 8 := ⟨_, rfl⟩
 rw [← hq'] at hq e3
 have e1 : (i : Int) / 8 = (q : Int) := by omega
 have e2 : (i : Int) % 8 = ((i % 8 : Nat) : Int) := by omega
 simp (disch := omega) only [rq, simprocAttr, Qal, bA, e1, e3, e4]
 refine Qg (ι := Nat) (fun k => ⟨[(6, .int .i64 k), (5, .int .i64 ((y / 2 ^ k : Nat) : Int)), (1, .int .i64 i), (2, .ref 0 1 0)], [⟨t0, 2, 1, [.list (nB N) (u8 (leB V (nB N))), .int .i64 N], 0⟩]⟩) (fun k => k ≤ i % 8) (fun k => i % 8 - k) 0 (Qh) (by omega) ?_
 intro k hk
 by_cases hlt : k < i % 8
 ·have e5 : ((y / 2 ^ k : Nat) : Int) / 2 = ((y / 2 ^ (k + 1) : Nat) : Int) := by rw [yc, ← qw]; omega
  have hz : y / 2 ^ k ≤ y := yJ _ _
  generalize y / 2 ^ k = z0 at *
  simp (disch := omega) only [rq, simprocAttr, e2, e5]
  exact ⟨k + 1, by omega, by omega, Qh⟩
 ·obtain rfl : k = i % 8 := by omega
  have e6 : ((y / 2 ^ (i % 8) : Nat) : Int) % 2 = ((y / 2 ^ (i % 8) % 2 : Nat) : Int) := by omega
  have hz : y / 2 ^ (i % 8) ≤ y := yJ _ _
  generalize y / 2 ^ (i % 8) = z at *
  obtain ⟨r, hr⟩ : ∃ r, r = i % 8 := ⟨_, rfl⟩
  rw [← hr] at e2
  rw [← hr]
  simp (disch := omega) only [rq, simprocAttr, e2, e6]
theorem Qkr {X n : Nat} : X % 2 ^ (n + 1) = 2 * (X / 2 % 2 ^ n) + X % 2 := by
 rw [yc, qE, Nat.mod_mul]; omega
def Qia (P : Prg) (f : Nat) : Prop := ∀ N V a n : Nat, N ≤ 400000 → a + n ≤ N → n ≤ 63 → VC P f [bA N V, .int .i64 a, .int .i64 n] (.int .u64 ((V / 2 ^ a % 2 ^ n : Nat) : Int))
theorem Qq2 {P : Prg} {f fA t0 : Nat} (bd : Qf P f 25 [.tmp 6] (Jd fA t0)) (hA : Qsl P fA) : Qia P f := by
 intro N V a n hN han hn
 refine Qn (by simp [isDL, QaR, isD]) rfl bd ?_
 simp (disch := omega) only [rq, simprocAttr, Jd, bA]
 refine Qg (ι := Nat) (fun k => ⟨[(8, .int .i64 ((n : Int) - 1 - k)), (7, .int .u64 ((V / 2 ^ (a + n - k) % 2 ^ k : Nat) : Int)), (1, .int .i64 a), (3, .ref 0 1 0)], [⟨t0, 2, 1, [.list (nB N) (u8 (leB V (nB N))), .int .i64 N], 0⟩]⟩) (fun k => k ≤ n) (fun k => n - k) 0 (Qk (by simp [Am.look, Yb])) (by omega) ?_
 intro k hk
 by_cases hlt : k < n
 ·obtain ⟨j, hj⟩ : ∃ j, j = a + n - (k + 1) := ⟨_, rfl⟩
  have hA' := hA N V j hN (by omega)
  rw [bA] at hA'
  have hs := Qkr (X := V / 2 ^ j) (n := k)
  rw [qw, ← yc, show j.succ = a + n - k by omega] at hs
  have hv : V / 2 ^ (a + n - k) % 2 ^ k < 2 ^ k := qz _ (qR (by omega))
  have h63 : 2 ^ k ≤ 2 ^ 62 := qq (by omega) (by omega)
  have e1 : ((a : Int) + (n - 1 - k)) = (j : Int) := by omega
  have hb : V / 2 ^ j % 2 < 2 := qz _ (by decide)
  rw [hj] at hs
  rw [← hj] at hs
  generalize V / 2 ^ (a + n - k) % 2 ^ k = v at *
  generalize V / 2 ^ j % 2 = b at *
  simp (disch := omega) only [rq, simprocAttr, e1]
  refine Qa hA' ?_
  simp (disch := omega) only [rq, simprocAttr]
  refine ⟨k + 1, by omega, by omega, Qk ?_⟩
  rw [← hj, hs]
  simp [Am.look]
  omega
 ·obtain rfl : k = n := by omega
  rw [jx]
  simp (disch := omega) only [rq, simprocAttr]
def dbT : List Nat := [0, 1, 56, 2, 57, 49, 28, 3, 61, 58, 42, 50, 38, 29, 17, 4, 62, 47, 59, 36, 45, 43, 51, 22, 53, 39, 33, 30, 24, 18, 12, 5,
 63, 55, 48, 27, 60, 41, 37, 16, 46, 35, 44, 21, 52, 32, 23, 11, 54, 26, 40, 15, 34, 20, 31, 10, 25, 14, 19, 9, 13, 8, 7, 6]
def dbG : List AV := ks .u8 (dbT.map fun n : Nat => (n : Int))
theorem QDq {i : Nat} (h : i < 64) : 2 ^ i * 285870213051353865 % 18446744073709551616 / 288230376151711744 < 64 ∧ dbT[2 ^ i * 285870213051353865 % 18446744073709551616 / 288230376151711744]? = some i := by
 revert i; decide
theorem QBz {i m : Nat} (h : 2 ^ i * (2 * m + 1) < 18446744073709551616) : (2 ^ i * (2 * m + 1)) &&& (18446744073709551616 - 2 ^ i * (2 * m + 1)) = 2 ^ i := by
 have hi : i < 64 := by
  rcases Ye i 64 with h' | h'
  ·exact h'
  ·have : 2 ^ 64 ≤ 2 ^ i := qq (by omega) h'
   have : 2 ^ i * 1 ≤ 2 ^ i * (2 * m + 1) := yA _ (by omega)
   omega
 have hm : 2 * m + 1 < 2 ^ (64 - i) := by
  have e : 2 ^ i * 2 ^ (64 - i) = 18446744073709551616 := by rw [← qZ, show i + (64 - i) = 64 by omega]
  rw [← e] at h
  exact jD h
 have e : 18446744073709551616 - 2 ^ i * (2 * m + 1) = 2 ^ i * (2 ^ (64 - i) - (2 * m + 1)) := by
  rw [Nat.mul_sub, ← qZ, show i + (64 - i) = 64 by omega]
 rw [e]
 apply jf
 intro j
 rw [Nat.testBit_and, qH, qH, Nat.testBit_two_pow]
 by_cases hj : i ≤ j
 ·rw [show 2 * m + 1 = 2 * m + 1 from rfl]
  have h0 : 2 * m < 2 ^ (64 - i) := by omega
  rw [Nat.testBit_two_pow_sub_succ h0]
  by_cases hj0 : j = i
  ·subst hj0
   simp
   omega
  ·obtain ⟨k, hk⟩ : ∃ k, j - i = k + 1 := ⟨j - i - 1, by omega⟩
   have e1 : (2 * m + 1).testBit (k + 1) = m.testBit k := by rw [Nat.testBit_succ]; congr 1; omega
   have e2 : (2 * m).testBit (k + 1) = m.testBit k := by rw [Nat.testBit_succ]; congr 1; omega
   rw [hk, e1, e2]
   have : ¬ i = j := fun e => hj0 e.symm
   simp [this]
   intro _ h1 _ _
   exact h1
 ·have : ¬ i = j := by omega
  simp [hj, this]
def QDu (P : Prg) (f : Nat) : Prop := ∀ i m : Nat, 2 ^ i * (2 * m + 1) < 18446744073709551616 → VC P f [.int .u64 ((2 ^ i * (2 * m + 1) : Nat) : Int)] (.int .i64 i)
theorem QBo {P : Prg} {f g0 : Nat} (bd : Qf P f 14 [.tmp 2] (ZC g0)) (h0 : P.G.lookup g0 = some dbG) : QDu P f := by
 intro i m h
 refine Qn rfl rfl bd ?_
 have ha := QBz h
 have hp : 0 < 2 ^ i * (2 * m + 1) := Yo (qR (by omega)) (by omega)
 have hi : i < 64 := by
  rcases Ye i 64 with h' | h'
  ·exact h'
  ·have : 2 ^ 64 ≤ 2 ^ i := qq (by omega) h'
   have : 2 ^ i * 1 ≤ 2 ^ i * (2 * m + 1) := yA _ (by omega)
   omega
 obtain ⟨d1, d2⟩ := QDq hi
 generalize 2 ^ i * (2 * m + 1) = x at *
 have e1 : IntKind.u64.wrap (0 - (x : Int)) = ((18446744073709551616 - x : Nat) : Int) := by rw [ZS]; omega
 have e2 : IntKind.u64.wrap (BitVec.ofInt IntKind.u64.bits (x : Int) &&& BitVec.ofInt IntKind.u64.bits ((18446744073709551616 - x : Nat) : Int)).toNat = ((2 ^ i : Nat) : Int) := by
  rw [QrW _ _ h (by omega), ha]
 have e3 : IntKind.u64.wrap (((2 ^ i : Nat) : Int) * 285870213051353865) = ((2 ^ i * 285870213051353865 % 18446744073709551616 : Nat) : Int) := by
  rw [ZS]; omega
 have e4 : Qu false .u64 ((2 ^ i * 285870213051353865 % 18446744073709551616 : Nat) : Int) 58 = some (.int .u64 ((2 ^ i * 285870213051353865 % 18446744073709551616 / 288230376151711744 : Nat) : Int)) :=
  Qnp (K := .u64) (k := 58) (by decide)
 generalize 2 ^ i * 285870213051353865 % 18446744073709551616 / 288230376151711744 = k at *
 generalize 2 ^ i * 285870213051353865 % 18446744073709551616 = y at *
 generalize 2 ^ i = p at *
 have e5 : dbG.drop k = .int .u8 (i : Int) :: dbG.drop (k + 1) := by
  have hl : k < dbT.length := d1
  have : dbT[k] = i := by rw [qg hl] at d2; exact Option.some.inj d2
  unfold dbG
  rw [QaW, QaW, qF (by rw [yq]; exact hl), Qdr, jJ, this]
 have e6 : dbG.length = 64 := rfl
 have g0' : QBc P.G g0 = .cell dbG := by simp [QBc, h0]
 simp (disch := omega) only [rq, simprocAttr, ZC, e1, e2, e3, e4, e5, e6, g0']
def Qcg : Nat → Nat → Nat
 | 0, _ => 0
 | m + 1, X => if X % 2 = 1 then Qcg m (X / 2) + 1 else 0
theorem QlS : ∀ (m X : Nat), Qcg m X ≤ m
 | 0, _ => qj _
 | m + 1, X => by
  unfold Qcg
  have := QlS m (X / 2)
  split <;> omega
theorem QsM : ∀ (m X j : Nat), j < Qcg m X → X / 2 ^ j % 2 = 1
 | 0, _, _, h => by simp [Qcg] at h
 | m + 1, X, j, h => by
  unfold Qcg at h
  split at h
  ·rename_i hx
   cases j with
   | zero => simpa using hx
   | succ j =>
    have := QsM m (X / 2) j (by omega)
    rw [yc, qE, ← qw]
    exact this
  ·omega
theorem QsL : ∀ (m X : Nat), Qcg m X < m → X / 2 ^ Qcg m X % 2 = 0
 | 0, _, h => by simp [Qcg] at h
 | m + 1, X, h => by
  unfold Qcg at h ⊢
  split at h
  ·rename_i hx
   rw [qc hx]
   have := QsL m (X / 2) (by omega)
   rw [yc, qE, ← qw]
   exact this
  ·rename_i hx
   rw [qa hx]
   simp
   omega
theorem QsK : ∀ (m K X : Nat), m < K → ∃ t, 2 ^ K - 1 - X % 2 ^ m = 2 ^ Qcg m X * (2 * t + 1)
 | 0, K, X, h => by
  obtain ⟨k, rfl⟩ : ∃ k, K = k + 1 := ⟨K - 1, by omega⟩
  refine ⟨2 ^ k - 1, ?_⟩
  have : 0 < 2 ^ k := qR (by omega)
  simp only [Qcg, jR, Yb, yS, yc]
  omega
 | m + 1, K, X, h => by
  obtain ⟨k, rfl⟩ : ∃ k, K = k + 1 := ⟨K - 1, by omega⟩
  obtain ⟨t, ht⟩ := QsK m k (X / 2) (by omega)
  have hs := Qkr (X := X) (n := m)
  have hp : 0 < 2 ^ k := qR (by omega)
  have hy : X / 2 % 2 ^ m < 2 ^ m := qz _ (qR (by omega))
  have hm : 2 ^ m ≤ 2 ^ k := qq (by omega) (by omega)
  rw [hs]
  unfold Qcg
  split
  ·rename_i hx
   refine ⟨t, ?_⟩
   rw [hx, yc 2 k, yc 2 (Qcg m (X / 2)), jw, Nat.mul_left_comm, ← ht]
   generalize X / 2 % 2 ^ m = y at *
   omega
  ·rename_i hx
   refine ⟨2 ^ k - 1 - X / 2 % 2 ^ m, ?_⟩
   rw [show X % 2 = 0 by omega, yc]
   generalize X / 2 % 2 ^ m = y at *
   simp
   omega
def QmO (P : Prg) (f : Nat) : Prop := ∀ (N a n : Nat) (cs : List AV), isDL cs = true → a < N → N ≤ 400000 → VC P f [.cell [.list n cs, .int .i64 N], .cell [.int .i64 a]] (.int .i64 (min 48 (N - a) : Nat))
theorem QtG {P : Prg} {f : Nat} (bd : Qf P f 8 [.tmp 2] Qbq) : QmO P f := by
 intro N a n cs hcs ha hN
 refine Qn (by simp [isDL, isD, hcs]) rfl bd ?_
 obtain ⟨m, hm⟩ : ∃ m, m = min 48 (N - a) := ⟨_, rfl⟩
 have e1 : (if (N : Int) - a < 48 then (N : Int) - a else 48) = (m : Int) := by split <;> omega
 rw [← hm]
 simp (disch := omega) only [rq, simprocAttr, Qbq, e1]
def QbW (V N a : Nat) : Nat ⊕ (Nat × Nat) :=
 if N ≤ a then .inl 24
 else if Qcg (min 48 (N - a)) (V / 2 ^ a) < min 48 (N - a) then .inr (Qcg (min 48 (N - a)) (V / 2 ^ a), a + Qcg (min 48 (N - a)) (V / 2 ^ a) + 1)
 else if min 48 (N - a) = 48 then .inr (48, a + 48) else .inl 24
def Qvw : Nat ⊕ (Nat × Nat) → AV
 | .inl e => .tup [.int .i64 0, .int .i64 0, .int .i64 e]
 | .inr (q, n) => .tup [.int .i64 q, .int .i64 n, .int .i64 0]
def QrX (P : Prg) (f : Nat) : Prop := ∀ N V a : Nat, V < 2 ^ N → N ≤ 330000 → a ≤ 400000 → VC P f [bA N V, .int .i64 a] (Qvw (QbW V N a))
theorem Qvj {c : Nat} (h : c < 18446744073709551616) : 18446744073709551615 ^^^ c = 18446744073709551615 - c := by
 have h1 : BitVec.allOnes 64 ^^^ BitVec.ofNat 64 c = ~~~ BitVec.ofNat 64 c := by
  apply BitVec.eq_of_getElem_eq
  intro i hi
  rw [BitVec.getElem_xor, BitVec.getElem_allOnes, BitVec.getElem_not, Bool.true_xor]
 have h2 := congrArg BitVec.toNat h1
 rw [Yv, BitVec.toNat_not, BitVec.toNat_allOnes, yx, qv h] at h2
 exact h2
theorem QtH {P : Prg} {f fC fT fG fZ t0 t1 : Nat} (bd : Qf P f 53 [.tmp 4, .tmp 5, .tmp 6] (QcL fC fT fG fZ t0 t1)) (hC : QcX P fC) (hT : QmO P fT) (hG : QkV P fG) (hZ : QDu P fZ) : QrX P f := by
 intro N V a hV hN ha
 refine Qbs (by simp [isDL, QaR, isD]) (by cases QbW V N a <;> rfl) (ACall.of_cut 1 bd (by simp) ?_)
 have hC' := hC N V hV hN
 rw [bA] at hC'
 have td : isTL (u8 (leB V (nB N))) = true := Q9 _
 simp (disch := omega) only [rq, simprocAttr, QcL, Qvf, bA]
 refine ⟨⟨[(6, .int .i64 0), (5, .int .i64 0), (4, .int .i64 0), (3, .cell [.int .i64 a]), (2, .cell [.list (nB N) (u8 (leB V (nB N))), .int .i64 N])], []⟩, Zt [] (by simp) (by simp [Am.look, Qz, frzL, Qv, frzL_T _ td]), ?_⟩
 simp (disch := omega) only [rq, simprocAttr]
 refine Qa hC' ?_
 simp (disch := omega) only [rq, simprocAttr]
 by_cases hlt : N ≤ a
 ·have e0 : QbW V N a = .inl 24 := by simp [QbW, hlt]
  rw [e0, Qvw]
  simp (disch := omega) only [rq, simprocAttr]
 ·have hT' := hT N a (nB N) (u8 (leB V (nB N))) (QiQ _) (by omega) (by omega)
  obtain ⟨m, hm⟩ : ∃ m, m = min 48 (N - a) := ⟨_, rfl⟩
  have hG' := hG N V a m hV hN (by omega) ha
  rw [qa (by omega), bA] at hG'
  obtain ⟨q, hq⟩ : ∃ q, q = Qcg m (V / 2 ^ a) := ⟨_, rfl⟩
  have hqm := QlS m (V / 2 ^ a)
  obtain ⟨t, ht⟩ := QsK m 64 (V / 2 ^ a) (by omega)
  have hv : V / 2 ^ a % 2 ^ m < 2 ^ m := qz _ (qR (by omega))
  have h48 : 2 ^ m ≤ 2 ^ 48 := qq (by omega) (by omega)
  have hZ' := hZ (Qcg m (V / 2 ^ a)) t (by rw [← ht]; omega)
  rw [← ht] at hZ'
  rw [← hm] at hT'
  have e1 : QbW V N a = if q < m then .inr (q, a + q + 1) else if m = 48 then .inr (48, a + 48) else .inl 24 := by
   rw [QbW, qa hlt, ← hm, ← hq]
  rw [e1]
  rw [← hq] at hZ' hqm
  generalize V / 2 ^ a % 2 ^ m = v at *
  have e2 : IntKind.u64.wrap (BitVec.ofInt IntKind.u64.bits IntKind.u64.max ^^^ BitVec.ofInt IntKind.u64.bits (v : Int)).toNat = ((2 ^ 64 - 1 - v : Nat) : Int) := by
   have h1 := Qvj (c := v) (by omega)
   rw [show 2 ^ 64 - 1 - v = 18446744073709551615 - v by omega, ← h1]
   exact Qvc (K := .u64) rfl (a := 18446744073709551615) (b := v) (by decide) (by show v < 18446744073709551616; omega)
  have e3 : IntKind.u64.signed = false := rfl
  generalize 2 ^ 64 - 1 - v = w at *
  simp (disch := omega) only [rq, simprocAttr]
  refine Qc hT' ?_
  simp (disch := omega) only [rq, simprocAttr]
  refine Qc hG' ?_
  simp (disch := omega) only [rq, simprocAttr, e2, e3]
  refine Qa hZ' ?_
  simp (disch := omega) only [rq, simprocAttr]
  refine Qa hT' ?_
  by_cases hqlt : q < m
  ·rw [qc hqlt, Qvw]
   have e9 : (1 : Int) + (a + q) = a + q + 1 := by omega
   simp (disch := omega) only [rq, simprocAttr, e9]
  ·obtain rfl : q = m := by omega
   rw [qa hqlt]
   by_cases h4 : q = 48
   ·subst h4
    rw [qc rfl, Qvw]
    simp (disch := omega) only [rq, simprocAttr, Int.zero_add]
   ·rw [qa h4, Qvw]
    simp (disch := omega) only [rq, simprocAttr]
def Qx2 (P : Prg) (f : Nat) : Prop := ∀ N V a : Nat, N ≤ 330000 → a < N → VC P f [bA N V, .int .i64 a] (match QbW V N a with | .inl _ => .tup [.int .i64 (-1), .int .i64 0] | .inr (q, n) => .tup [.int .i64 q, .int .i64 n])
theorem Qwu {P : Prg} {f fA t0 : Nat} (bd : Qf P f 44 [.tmp 4, .tmp 5] (JT fA t0)) (hA : Qsl P fA) : Qx2 P f := by
 intro N V a hN ha
 refine Qn (by simp [isDL, QaR, isD]) (by cases QbW V N a <;> rfl) bd ?_
 obtain ⟨m, hm⟩ : ∃ m, m = min 48 (N - a) := ⟨_, rfl⟩
 obtain ⟨q, hq⟩ : ∃ q, q = Qcg m (V / 2 ^ a) := ⟨_, rfl⟩
 have hqm := QlS m (V / 2 ^ a)
 have e1 : QbW V N a = if q < m then .inr (q, a + q + 1) else if m = 48 then .inr (48, a + 48) else .inl 24 := by
  rw [QbW, qa (by omega), ← hm, ← hq]
 rw [e1]
 simp (disch := omega) only [rq, simprocAttr, JT, bA]
 refine Qg (ι := Nat) (fun k => ⟨[(6, .int .i64 k), (1, .int .i64 a), (2, .ref 0 1 0)], [⟨t0, 2, 1, [.list (nB N) (u8 (leB V (nB N))), .int .i64 N], 0⟩]⟩) (fun k => k ≤ q) (fun k => q - k) 0 (Qh) (by omega) ?_
 intro k hk
 have hd : ∀ j, V / 2 ^ a / 2 ^ j = V / 2 ^ (a + j) := fun j => by rw [qw, ← qZ]
 by_cases hlt : k < q
 ·have hA' := hA N V (a + k) (by omega) (by omega)
  have hb := QsM m (V / 2 ^ a) k (by omega)
  rw [hd] at hb
  rw [hb, bA, yI] at hA'
  simp (disch := omega) only [rq, simprocAttr]
  refine Qa hA' ?_
  simp (disch := omega) only [rq, simprocAttr]
  exact ⟨k + 1, by omega, by omega, Qh⟩
 ·obtain rfl : k = q := by omega
  by_cases hqlt : k < m
  ·rw [qc hqlt]
   have hA' := hA N V (a + k) (by omega) (by omega)
   have hb := QsL m (V / 2 ^ a) (by omega)
   rw [← hq, hd] at hb
   rw [hb, bA, yI] at hA'
   simp (disch := omega) only [rq, simprocAttr]
   refine Qa hA' ?_
   simp (disch := omega) only [rq, simprocAttr]
  ·obtain rfl : k = m := by omega
   rw [qa hqlt]
   by_cases h4 : k = 48
   ·rw [qc h4]
    subst h4
    by_cases h5 : a + 48 < N
    ·simp (disch := omega) only [rq, simprocAttr]
    ·simp (disch := omega) only [rq, simprocAttr]
   ·rw [qa h4]
    simp (disch := omega) only [rq, simprocAttr]
end Go.Am
