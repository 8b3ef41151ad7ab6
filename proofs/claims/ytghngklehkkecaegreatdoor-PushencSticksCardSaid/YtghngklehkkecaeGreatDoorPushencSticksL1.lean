/- What the functions that the law reaches return, for every program that has their code; the conditions stand in each statement. -/
import Derived.Test.YtghngklehkkecaeGreatDoorPushencSticksD1
set_option linter.unusedSectionVars false
set_option linter.unusedSimpArgs false
set_option linter.unusedVariables false
namespace Go.Am
open Go.RowKit
def leN : List UInt8 → Nat
 | [] => 0
 | b :: l => b.toNat + 256 * leN l
theorem QtA : ∀ l : List UInt8, leN l < 2 ^ (8 * l.length)
 | [] => by simp [leN]
 | b :: l => by
  have h1 := QtA l
  have h2 := b.toNat_lt
  have h3 : 2 ^ (8 * (b :: l).length) = 256 * 2 ^ (8 * l.length) := by
   rw [List.length_cons, Nat.mul_add, Nat.pow_add, Nat.mul_comm]
  rw [h3]
  simp only [leN]
  omega
theorem Qz (l : List UInt8) : isTL (u8 l) = true := by
 induction l with
 | nil => rfl
 | cons x l ih => simp [QlE, isTL, isT, ih]
def ZN (b : Int) : Int := if b = 8 then 128 else if b = 16 then 32768 else if b = 24 then 8388608 else 0
theorem Q3 (b : Int) : (b = 8 ∧ ZN b = 128) ∨ (b = 16 ∧ ZN b = 32768) ∨ (b = 24 ∧ ZN b = 8388608) ∨ (b ≠ 8 ∧ b ≠ 16 ∧ b ≠ 24 ∧ ZN b = 0) := by
 unfold ZN; split <;> (try split) <;> (try split) <;> omega
def Jm (b : Int) : AV := if ZN b = 0 then .tup [.int .i32 0, .int .i32 0, .int .i64 2] else .tup [.int .i32 (-ZN b), .int .i32 (ZN b - 1), .int .i64 0]
def Qgf (P : Prg) (f : Nat) : Prop := ∀ b : Int, VC P f [.int .i64 b] (Jm b)
theorem Qlq {P : Prg} {f : Nat} (b : Qd P f 18 [.tmp 2, .tmp 3, .tmp 4] ZH) : Qgf P f := by
 intro x
 refine VC.of_acall rfl (by unfold Jm; split <;> rfl) (ACall.of_body b (by simp) ?_)
 rcases Q3 x with ⟨rfl, h⟩ | ⟨rfl, h⟩ | ⟨rfl, h⟩ | ⟨h1, h2, h3, h⟩
 ·simp (maxSteps := 4000000) (disch := omega) only [rq, simprocAttr, ZH, Jm, h]
  rfl
 ·simp (maxSteps := 4000000) (disch := omega) only [rq, simprocAttr, ZH, Jm, h]
  rfl
 ·simp (maxSteps := 4000000) (disch := omega) only [rq, simprocAttr, ZH, Jm, h]
  rfl
 ·simp (maxSteps := 4000000) (disch := omega) only [rq, simprocAttr, ZH, Jm, h]
def il (l : List Int) : AV := .list l.length (ks .i32 l)
theorem Zx (l : List Int) : isD (il l) = true := by simp [il, isD, QD]
def inR (b x : Int) : Bool := decide (-ZN b ≤ x) && decide (x < ZN b)
def QG (b : Int) (l : List Int) : Int := if ZN b = 0 then 2 else if 4000 < l.length then 4 else if l.all (inR b) then 0 else 16
def I32 (l : List Int) : Prop := ∀ x ∈ l, -2147483648 ≤ x ∧ x ≤ 2147483647
def Ji (P : Prg) (f : Nat) : Prop := ∀ (b : Int) (l : List Int), I32 l → VC P f [.int .i64 b, il l] (.int .i64 (QG b l))
theorem QdV {l : List Int} {k : Nat} (h : k < l.length) {p : Int → Bool} : (l.take (k + 1)).all p = ((l.take k).all p && p l[k]) := by
 rw [List.take_succ_eq_append_getElem h, List.all_append]; simp
theorem Qhc {l : List Int} {k : Nat} (h : k < l.length) {p : Int → Bool} (hp : p l[k] = false) : l.all p = false := by
 rw [List.all_eq_false]
 exact ⟨l[k], List.getElem_mem h, by simp [hp]⟩
set_option maxRecDepth 10000 in
theorem Qlr {P : Prg} {f fR : Nat} (b : Qd P f 37 [.tmp 4] (QaI fR)) (hR : Qgf P fR) : Ji P f := by
 intro x l hl
 refine VC.of_acall (by simp [isDL, isD, Zx]) rfl (ACall.of_body b (by simp) ?_)
 simp (maxSteps := 4000000) (disch := omega) only [rq, simprocAttr, QaI]
 refine Qa.vc (hR x) ?_
 by_cases h0 : ZN x = 0
 ·simp (maxSteps := 4000000) (disch := omega) only [rq, simprocAttr, Jm, QG, h0]
 have h3 : ZN x = 128 ∨ ZN x = 32768 ∨ ZN x = 8388608 := by rcases Q3 x with h | h | h | h <;> omega
 by_cases h1 : 4000 < l.length
 ·simp (maxSteps := 4000000) (disch := omega) only [rq, simprocAttr, Jm, QG, h0, il, h1]
 simp (maxSteps := 4000000) (disch := omega) only [rq, simprocAttr, Jm, il, if_neg h0]
 refine QU.by (ι := Nat) (fun k => ⟨[(24, .int .i64 k), (23, .int .i64 l.length), (22, il l), (6, .int .i32 (ZN x - 1)), (5, .int .i32 (-ZN x))], []⟩) (fun k => k ≤ l.length ∧ (l.take k).all (inR x) = true) (fun k => l.length - k) 0 (Le.slots (by simp [Am.look, il])) ⟨by omega, by simp⟩ ?_
 intro k ⟨hk, hg⟩
 by_cases hlt : k < l.length
 ·by_cases hp : -ZN x ≤ l[k] ∧ l[k] < ZN x
  ·have hs := QdV hlt (p := inR x)
   simp (maxSteps := 4000000) (disch := omega) only [rq, simprocAttr, il, Qbo, hlt]
   exact ⟨k + 1, ⟨by omega, by rw [hs, hg]; simp [inR, hp]⟩, by omega, Le.slots (by simp [Am.look, il])⟩
  ·have e : QG x l = 16 := by simp [QG, h0, h1, Qhc hlt (p := inR x) (by simp [inR]; omega)]
   by_cases hq : l[k] < -ZN x
   ·simp (maxSteps := 4000000) (disch := omega) only [rq, simprocAttr, il, Qbo, hlt, e]
   ·simp (maxSteps := 4000000) (disch := omega) only [rq, simprocAttr, il, Qbo, hlt, e]
 ·have e2 : k = l.length := by omega
  subst e2
  rw [List.take_length] at hg
  simp (maxSteps := 4000000) (disch := omega) only [rq, simprocAttr, il, QG, h0, h1, hg]
def QnZ (P : Prg) (f : Nat) : Prop := ∀ x : Int, VC P f [.int .i64 x] (.int .i64 (ZN x))
theorem Qor {P : Prg} {f : Nat} (b : Qd P f 10 [.tmp 2] Xa) : QnZ P f := by
 intro x
 refine VC.of_acall rfl rfl (ACall.of_body b (by simp) ?_)
 rcases Q3 x with ⟨rfl, h⟩ | ⟨rfl, h⟩ | ⟨rfl, h⟩ | ⟨h1, h2, h3, h⟩ <;> simp (maxSteps := 4000000) (disch := omega) only [rq, simprocAttr, Xa, h]
set_option maxRecDepth 10000 in
theorem Ql0 {P : Prg} {f fH : Nat} (b : Qd P f 37 [.tmp 4] (ZY fH)) (hH : QnZ P fH) : Ji P f := by
 intro x l hl
 refine VC.of_acall (by simp [isDL, isD, Zx]) rfl (ACall.of_body b (by simp) ?_)
 simp (maxSteps := 4000000) (disch := omega) only [rq, simprocAttr, ZY]
 refine Qa.vc (hH x) ?_
 by_cases h0 : ZN x = 0
 ·simp (maxSteps := 4000000) (disch := omega) only [rq, simprocAttr, QG, h0]
 have h3 : ZN x = 128 ∨ ZN x = 32768 ∨ ZN x = 8388608 := by rcases Q3 x with h | h | h | h <;> omega
 by_cases h1 : 4000 < l.length
 ·simp (maxSteps := 4000000) (disch := omega) only [rq, simprocAttr, QG, h0, il, h1]
 simp (maxSteps := 4000000) (disch := omega) only [rq, simprocAttr, il]
 refine QU.by (ι := Nat) (fun k => ⟨[(6, .int .i64 k), (1, il l), (5, .int .i64 (ZN x))], []⟩) (fun k => k ≤ l.length ∧ (l.take k).all (inR x) = true) (fun k => l.length - k) 0 (Le.slots (by simp [Am.look, il])) ⟨by omega, by simp⟩ ?_
 intro k ⟨hk, hg⟩
 by_cases hlt : k < l.length
 ·have hb := hl _ (List.getElem_mem hlt)
  by_cases hp : -ZN x ≤ l[k] ∧ l[k] < ZN x
  ·have hs := QdV hlt (p := inR x)
   simp (maxSteps := 4000000) (disch := omega) only [rq, simprocAttr, il, Qbo, hlt]
   exact ⟨k + 1, ⟨by omega, by rw [hs, hg]; simp [inR, hp]⟩, by omega, Le.slots (by simp [Am.look, il])⟩
  ·have e : QG x l = 16 := by simp [QG, h0, h1, Qhc hlt (p := inR x) (by simp [inR]; omega)]
   by_cases hq : l[k] < -ZN x
   ·simp (maxSteps := 4000000) (disch := omega) only [rq, simprocAttr, il, Qbo, hlt, e]
   ·simp (maxSteps := 4000000) (disch := omega) only [rq, simprocAttr, il, Qbo, hlt, e]
 ·have e2 : k = l.length := by omega
  subst e2
  rw [List.take_length] at hg
  simp (maxSteps := 4000000) (disch := omega) only [rq, simprocAttr, il, QG, h0, h1, hg]
theorem Qa4 {n : Nat} {c : Int} (h : 1 ≤ c) : 0 ≤ (n : Int) / c ∧ (n : Int) / c ≤ n :=
 ⟨Int.ediv_nonneg (by omega) (by omega), Int.ediv_le_self _ (by omega)⟩
theorem QaX {n : Nat} {c : Int} (h : 1 ≤ c) : 0 ≤ (n : Int) % c ∧ (n : Int) % c < c := ⟨Int.emod_nonneg _ (by omega), Int.emod_lt_of_pos _ (by omega)⟩
def Qc (r : Int) : Int := if 256 * r / 245 < 1 then 1 else 256 * r / 245
theorem Zo (r : Int) : 1 ≤ Qc r := by unfold Qc; split <;> omega
theorem Qcq {r : Int} (h : r ≤ 1048576) : Qc r ≤ 1095654 := by unfold Qc; split <;> omega
def J7 (r : Int) : AV := if r < 1 ∨ 1048576 < r then .tup [.int .i64 0, .int .i64 2] else .tup [.int .i64 (Qc r), .int .i64 0]
def ZP (P : Prg) (f : Nat) : Prop := ∀ r : Int, VC P f [.int .i64 r] (J7 r)
theorem QnB (r : Int) : isD (J7 r) = true := by unfold J7; split <;> rfl
theorem Qkk {P : Prg} {f : Nat} (b : Qd P f 14 [.tmp 2, .tmp 3] ZU) : ZP P f := by
 intro r
 refine VC.of_acall rfl (QnB r) (ACall.of_body b (by simp) ?_)
 by_cases h1 : r < 1
 ·simp (maxSteps := 4000000) (disch := omega) only [rq, simprocAttr, ZU, J7, true_or]
 by_cases h2 : 1048576 < r
 ·simp (maxSteps := 4000000) (disch := omega) only [rq, simprocAttr, ZU, J7, or_true]
 have h3 : 1 ≤ 256 * r / 245 := by omega
 simp (maxSteps := 4000000) (disch := omega) only [rq, simprocAttr, ZU, J7, or_self, Qc]
 rw [show (if (1 : Int) < 256 * r / 245 then 256 * r / 245 else 1) = 256 * r / 245 by split <;> omega]
theorem Qoq {P : Prg} {f : Nat} (b : Qd P f 17 [.tmp 2, .tmp 3] QZ) : ZP P f := by
 intro r
 refine VC.of_acall rfl (QnB r) (ACall.of_body b (by simp) ?_)
 by_cases h1 : r < 1
 ·simp (maxSteps := 4000000) (disch := omega) only [rq, simprocAttr, QZ, J7, true_or]
 by_cases h2 : 1048576 < r
 ·simp (maxSteps := 4000000) (disch := omega) only [rq, simprocAttr, QZ, J7, or_true]
 have e : r * 256 / 245 = 256 * r / 245 := by rw [Int.mul_comm]
 have h3 : 1 ≤ 256 * r / 245 := by omega
 simp (maxSteps := 4000000) (disch := omega) only [rq, simprocAttr, QZ, J7, or_self, Qc, e]
def QF (c b : Int) : Int := if ZN b = 0 ∨ c < 1 ∨ 6 < c then 2 else 0
def shA (c b : Int) : AV := .agg [.int .i64 c, .int .i64 b]
def Jj (P : Prg) (f : Nat) : Prop := ∀ c b : Int, VC P f [shA c b] (.int .i64 (QF c b))
theorem Qiv {P : Prg} {f fR t0 : Nat} (b : Qd P f 25 [.tmp 2] (JC fR t0)) (hR : Qgf P fR) : Jj P f := by
 intro c x
 refine VC.of_acall rfl rfl (ACall.of_body b (by simp) ?_)
 simp (maxSteps := 4000000) (disch := omega) only [rq, simprocAttr, JC, shA]
 refine Qa.vc (hR x) ?_
 by_cases h0 : ZN x = 0
 ·simp (maxSteps := 4000000) (disch := omega) only [rq, simprocAttr, Jm, h0, QF, true_or]
 by_cases h1 : c < 1
 ·simp (maxSteps := 4000000) (disch := omega) only [rq, simprocAttr, Jm, if_neg h0, QF, h0, or_true, true_or]
 by_cases h2 : 6 < c
 ·simp (maxSteps := 4000000) (disch := omega) only [rq, simprocAttr, Jm, if_neg h0, QF, h0, or_true]
 ·simp (maxSteps := 4000000) (disch := omega) only [rq, simprocAttr, Jm, if_neg h0, QF, h0, or_self]
theorem QlZ {P : Prg} {f fH t0 : Nat} (b : Qd P f 17 [.tmp 2] (QV fH t0)) (hH : QnZ P fH) : Jj P f := by
 intro c x
 refine VC.of_acall rfl rfl (ACall.of_body b (by simp) ?_)
 have hx := Q3 x
 by_cases h1 : c < 1
 ·simp (maxSteps := 4000000) (disch := omega) only [rq, simprocAttr, QV, shA, QF, or_true, true_or]
 by_cases h2 : 6 < c
 ·simp (maxSteps := 4000000) (disch := omega) only [rq, simprocAttr, QV, shA, QF, or_true]
 simp (maxSteps := 4000000) (disch := omega) only [rq, simprocAttr, QV, shA]
 refine Qa.vc (hH x) ?_
 by_cases h0 : ZN x = 0
 ·simp (maxSteps := 4000000) (disch := omega) only [rq, simprocAttr, h0, QF, true_or]
 ·simp (maxSteps := 4000000) (disch := omega) only [rq, simprocAttr, h0, QF, or_self]
structure Enc where
 ch : Int
 bits : Int
 rate : Int
 pw : List UInt8
 rest : List UInt8
 smp : List Int
 frs : List (List UInt8)
 out : List UInt8
 done : Bool
 err : Int
def bss (l : List (List UInt8)) : AV := .list l.length (l.map bs)
def XC (e : Enc) : List AV := [.int .i64 e.ch, .int .i64 e.bits, .int .i64 e.rate, .str e.pw, bs e.rest, il e.smp, bss e.frs, bs e.out, .bool e.done, .int .i64 e.err]
def Xd (e : Enc) : AV := .agg (XC e)
theorem Zk : ∀ l : List (List UInt8), isDL (l.map bs) = true
 | [] => rfl
 | x :: l => by simp [isDL, QQ, Zk l]
theorem Qc5 (l : List (List UInt8)) : isD (bss l) = true := by simp [bss, isD, Zk]
theorem Zq (e : Enc) : isD (Xd e) = true := by simp [Xd, XC, isD, isDL, QQ, Zx, Qc5]
def Qp (c b r : Int) (pw : List UInt8) : Bool := decide (QF c b = 0) && decide (1 ≤ r ∧ r ≤ 1048576) && decide (pw.length ≤ 64)
def Qb0 (r : Int) : Int := if r < 1 ∨ 1048576 < r then 0 else Qc r
theorem Qu {c b r : Int} {pw : List UInt8} : Qp c b r pw = true ↔ (ZN b ≠ 0 ∧ 1 ≤ c ∧ c ≤ 6) ∧ (1 ≤ r ∧ r ≤ 1048576) ∧ pw.length ≤ 64 := by
 have e : QF c b = 0 ↔ (ZN b ≠ 0 ∧ 1 ≤ c ∧ c ≤ 6) := by unfold QF; split <;> omega
 simp only [Qp, Bool.and_eq_true, decide_eq_true_eq, e, and_assoc]
def Qjf (P : Prg) (f : Nat) : Prop := ∀ (c b r : Int) (pw : List UInt8), pw.length ≤ 4611686018427387904 → VC P f [shA c b, .int .i64 r, .str pw] (.tup [.int .i64 (Qb0 r), .bool (Qp c b r pw)])
def Qnf (P : Prg) (f : Nat) : Prop := ∀ (c b r : Int) (pw : List UInt8), pw.length ≤ 4611686018427387904 → VC P f [shA c b, .int .i64 r, .str pw] (.int .i64 (if Qp c b r pw = true then 0 else 2))
theorem Qh9 {P : Prg} {f fL fE t0 : Nat} (b : Qd P f 28 [.tmp 6, .tmp 7] (Jv fL fE t0)) (hL : ZP P fL) (hE : Jj P fE) : Qjf P f := by
 intro c x r pw hpw
 refine VC.of_acall rfl rfl (ACall.of_body b (by simp) ?_)
 simp (maxSteps := 4000000) (disch := omega) only [rq, simprocAttr, Jv, shA]
 refine Qa.vc (hL r) ?_
 have he : QF c x = 0 ∨ QF c x = 2 := by unfold QF; split <;> omega
 by_cases h1 : r < 1 ∨ 1048576 < r
 ·simp (maxSteps := 4000000) (disch := omega) only [rq, simprocAttr, J7, h1]
  refine Qa.vc (by have := hE c x; rw [shA] at this; exact this) ?_
  have h2 : Qp c x r pw = false := by simp only [Qp]; rw [show decide (1 ≤ r ∧ r ≤ 1048576) = false by rw [decide_eq_false_iff_not]; omega]; simp
  rcases he with he | he
  ·simp (maxSteps := 4000000) (disch := omega) only [rq, simprocAttr, he, Qb0, h2, h1]
  ·simp (maxSteps := 4000000) (disch := omega) only [rq, simprocAttr, he, Qb0, h2, h1]
 ·simp (maxSteps := 4000000) (disch := omega) only [rq, simprocAttr, J7, h1]
  refine Qa.vc (by have := hE c x; rw [shA] at this; exact this) ?_
  rcases he with he | he
  ·by_cases hp : pw.length ≤ 64
   ·have h2 : Qp c x r pw = true := by simp only [Qp, he]; rw [show decide (1 ≤ r ∧ r ≤ 1048576) = true by rw [decide_eq_true_eq]; omega]; simp [hp]
    simp (maxSteps := 4000000) (disch := omega) only [rq, simprocAttr, he, Qb0, h2, h1]
   ·have h2 : Qp c x r pw = false := by simp [Qp, hp]
    simp (maxSteps := 4000000) (disch := omega) only [rq, simprocAttr, he, Qb0, h2, h1]
  ·have h2 : Qp c x r pw = false := by simp [Qp, he]
   simp (maxSteps := 4000000) (disch := omega) only [rq, simprocAttr, he, Qb0, h2, h1]
theorem QlY {P : Prg} {f fL fE t0 : Nat} (b : Qd P f 26 [.tmp 6] (QL fL fE t0)) (hL : ZP P fL) (hE : Jj P fE) : Qnf P f := by
 intro c x r pw hpw
 refine VC.of_acall rfl rfl (ACall.of_body b (by simp) ?_)
 simp (maxSteps := 4000000) (disch := omega) only [rq, simprocAttr, QL, shA]
 refine Qa.vc (hL r) ?_
 have he : QF c x = 0 ∨ QF c x = 2 := by unfold QF; split <;> omega
 by_cases h1 : r < 1 ∨ 1048576 < r
 ·simp (maxSteps := 4000000) (disch := omega) only [rq, simprocAttr, J7, h1]
  refine Qa.vc (by have := hE c x; rw [shA] at this; exact this) ?_
  have h2 : Qp c x r pw = false := by simp only [Qp]; rw [show decide (1 ≤ r ∧ r ≤ 1048576) = false by rw [decide_eq_false_iff_not]; omega]; simp
  rcases he with he | he
  ·simp (maxSteps := 4000000) (disch := omega) only [rq, simprocAttr, he, h2]
  ·simp (maxSteps := 4000000) (disch := omega) only [rq, simprocAttr, he, h2]
 ·simp (maxSteps := 4000000) (disch := omega) only [rq, simprocAttr, J7, h1]
  refine Qa.vc (by have := hE c x; rw [shA] at this; exact this) ?_
  rcases he with he | he
  ·by_cases hp : pw.length ≤ 64
   ·have h2 : Qp c x r pw = true := by simp only [Qp, he]; rw [show decide (1 ≤ r ∧ r ≤ 1048576) = true by rw [decide_eq_true_eq]; omega]; simp [hp]
    simp (maxSteps := 4000000) (disch := omega) only [rq, simprocAttr, he, h2]
   ·have h2 : Qp c x r pw = false := by simp [Qp, hp]
    simp (maxSteps := 4000000) (disch := omega) only [rq, simprocAttr, he, h2]
  ·have h2 : Qp c x r pw = false := by simp [Qp, he]
   simp (maxSteps := 4000000) (disch := omega) only [rq, simprocAttr, he, h2]
def JV (P : Prg) (f : Nat) : Prop := ∀ c b : Int, 1 ≤ c → c ≤ 6 → ZN b ≠ 0 → VC P f [shA c b] (.int .i64 (c * b / 8))
theorem Xg {c b : Int} (h1 : 1 ≤ c) (h2 : c ≤ 6) (h : ZN b ≠ 0) : 8 ≤ c * b ∧ c * b ≤ 144 ∧ (b = 8 ∨ b = 16 ∨ b = 24) := by
 have hb : b = 8 ∨ b = 16 ∨ b = 24 := by rcases Q3 b with h' | h' | h' | h' <;> omega
 rcases hb with rfl | rfl | rfl <;> omega
theorem QgE {P : Prg} {f t0 : Nat} (b : Qd P f 9 [.tmp 2] (X7 t0)) : JV P f := by
 intro c x h1 h2 h
 have hm := Xg h1 h2 h
 refine VC.of_acall rfl rfl (ACall.of_body b (by simp) ?_)
 simp (maxSteps := 4000000) (disch := omega) only [rq, simprocAttr, X7, shA]
theorem Qj7 {P : Prg} {f t0 : Nat} (b : Qd P f 9 [.tmp 2] (ZL t0)) : JV P f := by
 intro c x h1 h2 h
 have hm := Xg h1 h2 h
 refine VC.of_acall rfl rfl (ACall.of_body b (by simp) ?_)
 simp (maxSteps := 4000000) (disch := omega) only [rq, simprocAttr, ZL, shA]
def Qr (e : Enc) (L : Int) : Int := e.frs.length * L + e.smp.length / e.ch
def okE (e : Enc) : Prop := 1 ≤ e.ch ∧ e.ch ≤ 6 ∧ e.frs.length ≤ 1000 ∧ e.smp.length ≤ 400000 ∧ I32 e.smp
theorem Qis {n : Nat} {L : Int} (h : n ≤ 1000) (h1 : 0 ≤ L) (h2 : L ≤ 1095654) : 0 ≤ (n : Int) * L ∧ (n : Int) * L ≤ 1095654000 :=
 ⟨Int.mul_nonneg (by omega) h1, by
  have : (n : Int) * L ≤ 1000 * 1095654 := Int.mul_le_mul (by omega) h2 h1 (by omega)
  omega⟩
def Qer (P : Prg) (f : Nat) : Prop := ∀ (e : Enc) (L : Int), okE e → 0 ≤ L → L ≤ 1095654 → VC P f [Xd e, .int .i64 L] (.int .i64 (Qr e L))
theorem Qia {P : Prg} {f t0 : Nat} (b : Qd P f 18 [.tmp 4] (Jw t0)) : Qer P f := by
 intro e L ⟨h1, h2, h3, h4, _⟩ h5 h6
 have hm := Qis h3 h5 h6
 have hd := Qa4 (n := e.smp.length) h1
 refine VC.of_acall (by simp [isDL, Zq, isD]) rfl (ACall.of_body b (by simp) ?_)
 simp (maxSteps := 4000000) (disch := omega) only [rq, simprocAttr, Jw, Xd, XC, il, bss, bs, Qr]
def Qjg (P : Prg) (f : Nat) : Prop := ∀ e : Enc, VC P f [Xd e] (.int .i64 (Qb0 e.rate))
theorem Qon {P : Prg} {f fL t0 : Nat} (b : Qd P f 12 [.tmp 2] (Z8 fL t0)) (hL : ZP P fL) : Qjg P f := by
 intro e
 refine VC.of_acall (by simp [isDL, Zq, isD]) rfl (ACall.of_body b (by simp) ?_)
 simp (maxSteps := 4000000) (disch := omega) only [rq, simprocAttr, Z8, Xd, XC, il, bss, bs]
 refine Qa.vc (hL _) ?_
 by_cases h1 : e.rate < 1 ∨ 1048576 < e.rate
 ·simp (maxSteps := 4000000) (disch := omega) only [rq, simprocAttr, J7, Qb0, h1]
 ·simp (maxSteps := 4000000) (disch := omega) only [rq, simprocAttr, J7, Qb0, h1]
theorem QsI (r : Int) : 0 ≤ Qb0 r ∧ Qb0 r ≤ 1095654 := by
 unfold Qb0
 split
 ·omega
 ·rename_i h
  have h1 := Zo r
  have h2 := Qcq (r := r) (by omega)
  omega
def Qjh (P : Prg) (f : Nat) : Prop := ∀ e : Enc, okE e → VC P f [Xd e] (.int .i64 (Qr e (Qb0 e.rate)))
theorem QlW {P : Prg} {f fL t0 : Nat} (b : Qd P f 17 [.tmp 2] (ZW fL t0)) (hL : Qjg P fL) : Qjh P f := by
 intro e ⟨h1, h2, h3, h4, _⟩
 have hz := QsI e.rate
 have hm := Qis h3 hz.1 hz.2
 have hd := Qa4 (n := e.smp.length) h1
 refine VC.of_acall (by simp [isDL, Zq, isD]) rfl (ACall.of_body b (by simp) ?_)
 simp (maxSteps := 4000000) (disch := omega) only [rq, simprocAttr, ZW, Xd, XC, il, bss, bs, Qr]
 refine QP.vc (by have := hL e; simp only [Xd, XC, il, bss, bs] at this; exact this) ?_
 simp (maxSteps := 4000000) (disch := omega) only [rq, simprocAttr]
def Qak (c n m : Int) : Bool := decide (n ≤ 1000) && decide (m * c ≤ 4000)
def QeK (P : Prg) (f : Nat) : Prop := ∀ (e : Enc) (n m : Int), 1 ≤ e.ch → e.ch ≤ 6 → 0 ≤ m → m ≤ 2000000000 → VC P f [Xd e, .int .i64 n, .int .i64 m] (.bool (Qak e.ch n m))
theorem Qnx {c m : Int} (h1 : 1 ≤ c) (h2 : c ≤ 6) (h3 : 0 ≤ m) (h4 : m ≤ 2000000000) : 0 ≤ m * c ∧ m * c ≤ 12000000000 ∧ (m ≤ 4000 / c ↔ m * c ≤ 4000) := by
 have : c = 1 ∨ c = 2 ∨ c = 3 ∨ c = 4 ∨ c = 5 ∨ c = 6 := by omega
 rcases this with rfl | rfl | rfl | rfl | rfl | rfl <;> omega
theorem Qj9 {P : Prg} {f t0 : Nat} (b : Qd P f 17 [.tmp 6] (XL t0)) : QeK P f := by
 intro e n m h1 h2 h3 h4
 have hm := Qnx h1 h2 h3 h4
 refine VC.of_acall (by simp [isDL, Zq, isD]) rfl (ACall.of_body b (by simp) ?_)
 by_cases hn : n ≤ 1000
 ·simp (maxSteps := 4000000) (disch := omega) only [rq, simprocAttr, XL, Xd, XC, il, bss, bs, Qak]
 ·simp (maxSteps := 4000000) (disch := omega) only [rq, simprocAttr, XL, Xd, XC, il, bss, bs, Qak]
theorem Qoo {P : Prg} {f t0 : Nat} (b : Qd P f 17 [.tmp 6] (Zn t0)) : QeK P f := by
 intro e n m h1 h2 h3 h4
 have hm := Qnx h1 h2 h3 h4
 have hd : 0 ≤ 4000 / e.ch ∧ 4000 / e.ch ≤ 4000 := Qa4 (n := 4000) h1
 have e1 : decide (m ≤ 4000 / e.ch) = decide (m * e.ch ≤ 4000) := by rw [Bool.eq_iff_iff]; simp only [decide_eq_true_eq]; exact hm.2.2
 refine VC.of_acall (by simp [isDL, Zq, isD]) rfl (ACall.of_body b (by simp) ?_)
 by_cases hn : n ≤ 1000
 ·simp (maxSteps := 4000000) (disch := omega) only [rq, simprocAttr, Zn, Xd, XC, il, bss, bs, Qak, e1]
 ·simp (maxSteps := 4000000) (disch := omega) only [rq, simprocAttr, Zn, Xd, XC, il, bss, bs, Qak]
def Qvt {α : Type} (p : α → Bool) (l : List α) : Int := match l.findIdx? p with | some i => i | none => -1
def Qgl (P : Prg) (f : Nat) : Prop := ∀ (α : Type) (l : List α) (c : α → AV) (p : α → Bool) (g : Nat) (fs cs : List AV), isDL fs = true → isDL cs = true → (∀ x, isD (c x) = true) → l.length ≤ 4611686018427387904 →
 (∀ x ∈ l, VC P g (fs ++ [c x] ++ cs) (.bool (p x))) → VC P f [.list l.length (l.map c), .fn (.func g) fs cs] (.int .i64 (Qvt p l))
theorem Qio {α : Type} {c : α → AV} (h : ∀ x, isD (c x) = true) : ∀ l : List α, isDL (l.map c) = true
 | [] => rfl
 | x :: l => by simp [isDL, h x, Qio h l]
theorem QdP {α : Type} {l : List α} {c : α → AV} {k : Nat} (h : k < l.length) : (l.map c).drop k = c l[k] :: (l.map c).drop (k + 1) := by
 rw [List.drop_eq_getElem_cons (by simpa using h)]; simp
theorem QqO {α : Type} {p : α → Bool} {l : List α} (h : l.all (fun x => !p x) = true) : l.findIdx? p = none := by
 rw [List.findIdx?_eq_none_iff]
 intro x hx
 have := List.all_eq_true.1 h x hx
 simpa using this
theorem QuG {α : Type} {p : α → Bool} {l : List α} {k : Nat} (hk : k < l.length) (h : (l.take k).all (fun x => !p x) = true) (hp : p l[k] = true) : l.findIdx? p = some k := by
 rw [List.findIdx?_eq_some_iff_getElem]
 refine ⟨hk, hp, fun j hj => ?_⟩
 have := List.all_eq_true.1 h l[j] (by
  rw [List.mem_take_iff_getElem]
  exact ⟨j, by omega, rfl⟩)
 simpa using this
theorem Qgb {α : Type} {l : List α} {k : Nat} (h : k < l.length) {p : α → Bool} : (l.take (k + 1)).all p = ((l.take k).all p && p l[k]) := by
 rw [List.take_succ_eq_append_getElem h, List.all_append]; simp
theorem Qmc {P : Prg} {f : Nat} (b : Qd P f 19 [.tmp 4] QY) : Qgl P f := by
 intro α l c p g fs cs h1 h2 h3 hlen hp
 refine VC.of_acall (by simp [isDL, isD, h1, h2, Qio h3]) rfl (ACall.of_body b (by simp) ?_)
 simp (maxSteps := 4000000) (disch := omega) only [rq, simprocAttr, QY]
 refine QU.by (ι := Nat) (fun k => ⟨[(8, .int .i64 k), (7, .int .i64 l.length), (1, .fn (.func g) fs cs), (0, .list l.length (l.map c))], []⟩) (fun k => k ≤ l.length ∧ (l.take k).all (fun x => !p x) = true) (fun k => l.length - k) 0 (Le.slots (by simp [Am.look])) ⟨by omega, by simp⟩ ?_
 intro k ⟨hk, hg⟩
 by_cases hlt : k < l.length
 ·simp (maxSteps := 4000000) (disch := omega) only [rq, simprocAttr, QdP, hlt]
  refine Qa.vc (hp _ (List.getElem_mem hlt)) ?_
  cases hpk : p l[k] with
  | true => simp (maxSteps := 4000000) (disch := omega) only [rq, simprocAttr, hpk, Qvt, QuG hlt hg hpk]
  | false =>
   simp (maxSteps := 4000000) (disch := omega) only [rq, simprocAttr, hpk]
   exact ⟨k + 1, ⟨by omega, by rw [Qgb hlt, hg, hpk]; rfl⟩, by omega, Le.slots (by simp [Am.look])⟩
 ·have e2 : k = l.length := by omega
  subst e2
  rw [List.take_length] at hg
  simp (maxSteps := 4000000) (disch := omega) only [rq, simprocAttr, Qvt, QqO hg]
def Qcf (P : Prg) (f : Nat) : Prop := ∀ (α : Type) (l : List α) (c : α → AV) (p : α → Bool) (g : Nat) (fs cs : List AV), isDL fs = true → isDL cs = true → (∀ x, isD (c x) = true) → l.length ≤ 4611686018427387904 →
 (∀ x ∈ l, VC P g (fs ++ [c x] ++ cs) (.bool (p x))) → VC P f [.list l.length (l.map c), .fn (.func g) fs cs] (.bool (l.any p))
theorem Quz {α : Type} (p : α → Bool) (l : List α) : decide ((0 : Int) ≤ Qvt p l) = l.any p := by
 unfold Qvt
 cases h : l.findIdx? p with
 | none =>
  rw [List.findIdx?_eq_none_iff] at h
  have : l.any p = false := by rw [List.any_eq_false]; intro x hx; rw [h x hx]; simp
  rw [this]; rfl
 | some i =>
  rw [List.findIdx?_eq_some_iff_getElem] at h
  obtain ⟨h1, h2, _⟩ := h
  have : l.any p = true := by rw [List.any_eq_true]; exact ⟨_, List.getElem_mem h1, h2⟩
  rw [this]; simp
theorem QgR {P : Prg} {f fI : Nat} (b : Qd P f 9 [.tmp 4] (QR fI)) (hI : Qgl P fI) : Qcf P f := by
 intro α l c p g fs cs h1 h2 h3 hlen hp
 refine VC.of_acall (by simp [isDL, isD, h1, h2, Qio h3]) rfl (ACall.of_body b (by simp) ?_)
 have hi := hI α l c p g fs cs h1 h2 h3 hlen hp
 simp (maxSteps := 4000000) (disch := omega) only [rq, simprocAttr, QR]
 refine Qa.vc hi ?_
 simp (maxSteps := 4000000) (disch := omega) only [rq, simprocAttr, Quz]
theorem ZM : ∀ l : List (List UInt8), isTL (l.map bs) = true
 | [] => rfl
 | x :: l => by
  have : isT (bs x) = true := by simp [bs, isT]; induction x with | nil => rfl | cons y x ih => simp [QlE, isTL, isT, ih]
  simp [isTL, this, ZM l]
def Jn (m : Int) (b : List UInt8) : Bool := decide ((b.length : Int) < 5) || decide (m < b.length)
def Qju (P : Prg) (f : Nat) : Prop := ∀ (b : List UInt8) (m : Int), VC P f [bs b, .cell [.int .i64 m]] (.bool (Jn m b))
theorem QqT {P : Prg} {f : Nat} (b : Qd P f 13 [.tmp 3] Zm) : Qju P f := by
 intro l m
 refine VC.of_acall (by simp [isDL, isD, QQ]) rfl (ACall.of_body b (by simp) ?_)
 by_cases h : (l.length : Int) < 5
 ·simp (maxSteps := 4000000) (disch := omega) only [rq, simprocAttr, Zm, bs, Jn]
 ·simp (maxSteps := 4000000) (disch := omega) only [rq, simprocAttr, Zm, bs, Jn]
def Qbn (e : Enc) : Bool :=
 let L := Qc e.rate
 if 0 < e.out.length ∨ e.ch * e.bits / 8 ≤ e.rest.length ∨ (e.smp.length : Int) % e.ch ≠ 0 ∨ L ≤ (e.smp.length : Int) / e.ch ∨ 1000 < e.frs.length then false
 else if QG e.bits e.smp ≠ 0 then false
 else if Qak e.ch (e.frs.length + if 0 < e.smp.length then 1 else 0) (Qr e L) = false then false
 else !e.frs.any (Jn ((81 * L * e.ch + 7) / 8 + 4))
def okF (e : Enc) : Prop := Qp e.ch e.bits e.rate e.pw = true ∧ e.frs.length ≤ 4611686018427387904 ∧ e.smp.length ≤ 400000 ∧ I32 e.smp ∧ e.rest.length ≤ 4611686018427387904 ∧ e.out.length ≤ 4611686018427387904
theorem Qwt {L c : Int} (h1 : 1 ≤ L) (h2 : L ≤ 1095654) (h3 : 1 ≤ c) (h4 : c ≤ 6) : 0 ≤ 81 * L * c ∧ 81 * L * c ≤ 600000000 := by
 have : c = 1 ∨ c = 2 ∨ c = 3 ∨ c = 4 ∨ c = 5 ∨ c = 6 := by omega
 rcases this with rfl | rfl | rfl | rfl | rfl | rfl <;> omega
def Qgo (P : Prg) (f : Nat) : Prop := ∀ e : Enc, okF e → VC P f [Xd e, .int .i64 (Qc e.rate)] (.bool (Qbn e))
set_option maxHeartbeats 4000000 in
set_option maxRecDepth 20000 in
theorem QfE {P : Prg} {f fM fW fC fR fB fS t0 t1 : Nat} (b : Qd P f 82 [.tmp 4] (XM fM fW fC fR fB fS t0 t1)) (hM : JV P fM) (hW : Ji P fW) (hC : Qer P fC) (hR : QeK P fR) (hB : Qju P fB) (hS : Qcf P fS) : Qgo P f := by
 intro e ⟨hr, o1, o2, o3, o4, o5⟩
 obtain ⟨⟨r1, r2, r3⟩, ⟨r4, r5⟩, r6⟩ := Qu.1 hr
 have hd := Qa4 (n := e.smp.length) r2
 have hm := QaX (n := e.smp.length) r2
 have hL := Zo e.rate
 have hL2 := Qcq r5
 have hmul := Xg r2 r3 r1
 have hmul3 := Qwt hL hL2 r2 r3
 have hMo := hM e.ch e.bits r2 r3 r1
 have hWo := hW e.bits e.smp o3
 refine VC.of_acall (by simp [isDL, Zq, isD]) rfl (ACall.of_body b (by simp) ?_)
 simp only [Xd, XC, il, bss, bs, shA] at hMo hWo ⊢
 unfold Qbn
 have hok : e.frs.length ≤ 1000 → okE e := fun h => ⟨r2, r3, h, o2, o3⟩
 simp (maxSteps := 4000000) (disch := omega) only [rq, simprocAttr, XM]
 refine Z5.ndec (fun c1 => ?_) (fun c1 => ?_)
 case refine_2 => simp (maxSteps := 4000000) (disch := omega) only [rq, simprocAttr, Qbn]
 simp (maxSteps := 4000000) (disch := omega) only [rq, simprocAttr]
 refine QP.vc hMo ?_
 simp (maxSteps := 4000000) (disch := omega) only [rq, simprocAttr]
 refine Z5.ndec (fun c2 => ?_) (fun c2 => ?_)
 case refine_2 => simp (maxSteps := 4000000) (disch := omega) only [rq, simprocAttr, Qbn]
 simp (maxSteps := 4000000) (disch := omega) only [rq, simprocAttr]
 refine Z5.dec (fun c3 => ?_) (fun c3 => ?_)
 case refine_2 => simp (maxSteps := 4000000) (disch := omega) only [rq, simprocAttr, Qbn, c3]
 simp (maxSteps := 4000000) (disch := omega) only [rq, simprocAttr, c3]
 refine Z5.ndec (fun c4 => ?_) (fun c4 => ?_)
 case refine_2 => simp (maxSteps := 4000000) (disch := omega) only [rq, simprocAttr, Qbn]
 simp (maxSteps := 4000000) (disch := omega) only [rq, simprocAttr]
 refine JL.dec (fun c5 => ?_) (fun c5 => ?_)
 case refine_1 => simp (maxSteps := 4000000) (disch := omega) only [rq, simprocAttr, Qbn]
 simp (maxSteps := 4000000) (disch := omega) only [rq, simprocAttr]
 refine Qa.vc hWo ?_
 simp (maxSteps := 4000000) (disch := omega) only [rq, simprocAttr]
 refine JL.ndec (fun c6 => ?_) (fun c6 => ?_)
 case refine_1 => simp (maxSteps := 4000000) (disch := omega) only [rq, simprocAttr, Qbn, c6]
 simp (maxSteps := 4000000) (disch := omega) only [rq, simprocAttr]
 have hok : okE e := ⟨r2, r3, by omega, o2, o3⟩
 have hCo := hC e (Qc e.rate) hok (by omega) hL2
 have hfm := Qis (n := e.frs.length) (L := Qc e.rate) (by omega) (by omega) hL2
 have hcn : 0 ≤ Qr e (Qc e.rate) ∧ Qr e (Qc e.rate) ≤ 2000000000 := by unfold Qr; omega
 have hRo := fun n => hR e n (Qr e (Qc e.rate)) r2 r3 hcn.1 hcn.2
 have hS1 := fun m => hS (List UInt8) e.frs bs (Jn m) fB [] [.cell [.int .i64 m]] rfl rfl QQ (by omega) (fun x _ => hB x m)
 simp only [Xd, XC, il, bss, bs, shA] at hCo hRo hS1
 refine JL.dec (fun c7 => ?_) (fun c7 => ?_)
 ·simp (maxSteps := 4000000) (disch := omega) only [rq, simprocAttr]
  refine QP.vc hCo ?_
  simp (maxSteps := 4000000) (disch := omega) only [rq, simprocAttr]
  refine QP.vc (hRo _) ?_
  cases hv : Qak e.ch ((e.frs.length : Int) + 1) (Qr e (Qc e.rate)) with
  | false => simp (maxSteps := 4000000) (disch := omega) only [rq, simprocAttr, hv]
  | true =>
   simp (maxSteps := 4000000) (disch := omega) only [rq, simprocAttr]
   refine Qa.flat 1 (hS1 ((81 * Qc e.rate * e.ch + 7) / 8 + 4)) rfl (by simp [QW, QJ, frzL, QH, isDL, isD, frzL_T _ (ZM e.frs)]) ?_
   simp (maxSteps := 4000000) (disch := omega) only [rq, simprocAttr, hv]
 ·simp (maxSteps := 4000000) (disch := omega) only [rq, simprocAttr]
  refine QP.vc hCo ?_
  simp (maxSteps := 4000000) (disch := omega) only [rq, simprocAttr]
  refine QP.vc (hRo _) ?_
  cases hv : Qak e.ch (e.frs.length : Int) (Qr e (Qc e.rate)) with
  | false => simp (maxSteps := 4000000) (disch := omega) only [rq, simprocAttr, Int.add_zero, hv]
  | true =>
   simp (maxSteps := 4000000) (disch := omega) only [rq, simprocAttr]
   refine Qa.flat 1 (hS1 ((81 * Qc e.rate * e.ch + 7) / 8 + 4)) rfl (by simp [QW, QJ, frzL, QH, isDL, isD, frzL_T _ (ZM e.frs)]) ?_
   simp (maxSteps := 4000000) (disch := omega) only [rq, simprocAttr, Int.add_zero, hv]
def Qeo (P : Prg) (f : Nat) : Prop := ∀ e : Enc, okF e → VC P f [Xd e] (.bool (Qbn e))
theorem QwA {L c : Int} (h1 : 1 ≤ L) (h2 : L ≤ 1095654) (h3 : 1 ≤ c) (h4 : c ≤ 6) : 0 ≤ L * c ∧ L * c ≤ 6573924 := by
 have : c = 1 ∨ c = 2 ∨ c = 3 ∨ c = 4 ∨ c = 5 ∨ c = 6 := by omega
 rcases this with rfl | rfl | rfl | rfl | rfl | rfl <;> omega
set_option maxHeartbeats 4000000 in
set_option maxRecDepth 20000 in
theorem Qh7 {P : Prg} {f fL fM fW fC fR t0 : Nat} (b : Qd P f 104 [.tmp 2] (ZC fL fM fW fC fR t0)) (hLo : Qjg P fL) (hM : JV P fM) (hW : Ji P fW) (hC : Qjh P fC) (hR : QeK P fR) : Qeo P f := by
 intro e ⟨hr, o1, o2, o3, o4, o5⟩
 obtain ⟨⟨r1, r2, r3⟩, ⟨r4, r5⟩, r6⟩ := Qu.1 hr
 have hz : Qb0 e.rate = Qc e.rate := by unfold Qb0; rw [if_neg (by omega)]
 have hd := Qa4 (n := e.smp.length) r2
 have hm := QaX (n := e.smp.length) r2
 have hL := Zo e.rate
 have hL2 := Qcq r5
 have hmul := Xg r2 r3 r1
 have hmul3 := Qwt hL hL2 r2 r3
 have hmulL := QwA hL hL2 r2 r3
 have hMo := hM e.ch e.bits r2 r3 r1
 have hWo := hW e.bits e.smp o3
 have hle := hLo e
 have hle2 : Qc e.rate ≤ (e.smp.length : Int) / e.ch ↔ Qc e.rate * e.ch ≤ e.smp.length := Int.le_ediv_iff_mul_le (by omega)
 rw [hz] at hle
 refine VC.of_acall (by simp [isDL, Zq, isD]) rfl (ACall.of_body b (by simp) ?_)
 simp only [Xd, XC, il, bss, bs, shA] at hMo hWo hle ⊢
 unfold Qbn
 simp (maxSteps := 4000000) (disch := omega) only [rq, simprocAttr, ZC]
 refine Qa.vc hle ?_
 simp (maxSteps := 4000000) (disch := omega) only [rq, simprocAttr]
 refine Z5.ndec (fun c1 => ?_) (fun c1 => ?_)
 case refine_2 => simp (maxSteps := 4000000) (disch := omega) only [rq, simprocAttr]
 simp (maxSteps := 4000000) (disch := omega) only [rq, simprocAttr]
 refine QP.vc hMo ?_
 simp (maxSteps := 4000000) (disch := omega) only [rq, simprocAttr]
 refine Z5.ndec (fun c2 => ?_) (fun c2 => ?_)
 case refine_2 => simp (maxSteps := 4000000) (disch := omega) only [rq, simprocAttr]
 simp (maxSteps := 4000000) (disch := omega) only [rq, simprocAttr]
 refine Z5.dec (fun c3 => ?_) (fun c3 => ?_)
 case refine_2 => simp (maxSteps := 4000000) (disch := omega) only [rq, simprocAttr, c3]
 simp (maxSteps := 4000000) (disch := omega) only [rq, simprocAttr, c3]
 refine Z5.ndec (fun c4 => ?_) (fun c4 => ?_)
 case refine_2 => simp (maxSteps := 4000000) (disch := omega) only [rq, simprocAttr, hle2]
 have c4' : (e.smp.length : Int) / e.ch < Qc e.rate := by omega
 simp (maxSteps := 4000000) (disch := omega) only [rq, simprocAttr]
 refine QP.vc hWo ?_
 simp (maxSteps := 4000000) (disch := omega) only [rq, simprocAttr]
 refine Z5.dec (fun c6 => ?_) (fun c6 => ?_)
 case refine_2 =>
  by_cases c5 : 1000 < e.frs.length
  ·simp (maxSteps := 4000000) (disch := omega) only [rq, simprocAttr, c6]
  ·simp (maxSteps := 4000000) (disch := omega) only [rq, simprocAttr, c6]
 simp (maxSteps := 4000000) (disch := omega) only [rq, simprocAttr, c6]
 refine JL.dec (fun c5 => ?_) (fun c5 => ?_)
 case refine_1 => simp (maxSteps := 4000000) (disch := omega) only [rq, simprocAttr]
 simp (maxSteps := 4000000) (disch := omega) only [rq, simprocAttr]
 have hok : okE e := ⟨r2, r3, by omega, o2, o3⟩
 have hCo := hC e hok
 rw [hz] at hCo
 have hfm := Qis (n := e.frs.length) (L := Qc e.rate) (by omega) (by omega) hL2
 have hcn : 0 ≤ Qr e (Qc e.rate) ∧ Qr e (Qc e.rate) ≤ 2000000000 := by unfold Qr; omega
 have hRo := fun n => hR e n (Qr e (Qc e.rate)) r2 r3 hcn.1 hcn.2
 simp only [Xd, XC, il, bss, bs, shA] at hCo hRo
 refine JL.dec (fun c7 => ?_) (fun c7 => ?_)
 all_goals
  simp (maxSteps := 4000000) (disch := omega) only [rq, simprocAttr, Int.add_zero]
  refine QP.vc hCo ?_
  simp (maxSteps := 4000000) (disch := omega) only [rq, simprocAttr, Int.add_zero]
  refine QP.vc (hRo _) ?_
  generalize hv : Qak e.ch _ (Qr e (Qc e.rate)) = r
  cases r
  case false => simp (maxSteps := 4000000) (disch := omega) only [rq, simprocAttr, Int.add_zero]
  simp (maxSteps := 4000000) (disch := omega) only [rq, simprocAttr, Int.add_zero]
  refine QU.by (ι := Nat) (fun k => ⟨[(5, .int .i64 k), (3, .int .i64 (Qc e.rate)), (1, .ref 0 1 0)], [⟨t0, 10, 1, [.int .i64 e.ch, .int .i64 e.bits, .int .i64 e.rate, .str e.pw, .list e.rest.length (u8 e.rest), .list e.smp.length (ks .i32 e.smp), .list e.frs.length (e.frs.map bs), .list e.out.length (u8 e.out), .bool e.done, .int .i64 e.err], 0⟩]⟩)
   (fun k => k ≤ e.frs.length ∧ (e.frs.take k).all (fun x => !Jn ((81 * Qc e.rate * e.ch + 7) / 8 + 4) x) = true) (fun k => e.frs.length - k) 0 (Le.slots (by simp [Am.look])) ⟨by omega, by simp⟩ ?_
  intro k ⟨hk, hg⟩
  by_cases hlt : k < e.frs.length
  ·have hany : Jn ((81 * Qc e.rate * e.ch + 7) / 8 + 4) e.frs[k] = true → e.frs.any (Jn ((81 * Qc e.rate * e.ch + 7) / 8 + 4)) = true := fun h => by
    rw [List.any_eq_true]; exact ⟨_, List.getElem_mem hlt, h⟩
   by_cases b1 : ((e.frs[k].length : Nat) : Int) < 5
   ·simp (maxSteps := 4000000) (disch := omega) only [rq, simprocAttr, QdP, hlt, bs, hany (by simp [Jn, b1])]
   ·by_cases b2 : (81 * Qc e.rate * e.ch + 7) / 8 + 4 < ((e.frs[k].length : Nat) : Int)
    ·simp (maxSteps := 4000000) (disch := omega) only [rq, simprocAttr, QdP, hlt, bs, hany (by simp [Jn, b2])]
    ·simp (maxSteps := 4000000) (disch := omega) only [rq, simprocAttr, QdP, hlt, bs]
     exact ⟨k + 1, ⟨by omega, by rw [Qgb hlt, hg]; simp [Jn, b1, b2]⟩, by omega, Le.slots (by simp [Am.look])⟩
  ·have e2 : k = e.frs.length := by omega
   subst e2
   rw [List.take_length] at hg
   have hany : e.frs.any (Jn ((81 * Qc e.rate * e.ch + 7) / 8 + 4)) = false := by
    rw [List.any_eq_false]; intro x hx
    have := List.all_eq_true.1 hg x hx
    simpa using this
   simp (maxSteps := 4000000) (disch := omega) only [rq, simprocAttr, hany]
def QA (e : Enc) : Bool :=
 if e.err ≠ 0 then decide ((e.err = 18 ∨ e.err = 24) ∧ e.done = false ∧ (e.rest.length = 0 ∧ e.smp.length = 0 ∧ e.frs.length = 0) ∧ e.out.length = 0)
 else if e.done = true then decide ((e.rest.length = 0 ∧ e.smp.length = 0 ∧ e.frs.length = 0) ∧ e.out.length ≤ 100000)
 else Qbn e
def QM (e : Enc) : Int := if Qp e.ch e.bits e.rate e.pw = false ∨ QA e = false then 8 else 0
def okC (e : Enc) : Prop := e.pw.length ≤ 100000 ∧ e.frs.length ≤ 100000 ∧ e.smp.length ≤ 400000 ∧ I32 e.smp ∧ e.rest.length ≤ 100000 ∧ e.out.length ≤ 1000000
def Xq (P : Prg) (f : Nat) : Prop := ∀ e : Enc, okC e → VC P f [Xd e] (.int .i64 (QM e))
set_option maxHeartbeats 4000000 in
set_option maxRecDepth 20000 in
theorem Qic {P : Prg} {f fR fF t0 : Nat} (b : Qd P f 71 [.tmp 2] (Jy fR fF t0)) (hR : Qjf P fR) (hF : Qgo P fF) : Xq P f := by
 intro e ⟨o0, o1, o2, o3, o4, o5⟩
 have hRo := hR e.ch e.bits e.rate e.pw (by omega)
 refine VC.of_acall (by simp [isDL, Zq, isD]) rfl (ACall.of_body b (by simp) ?_)
 simp only [Xd, XC, il, bss, bs, shA] at hRo ⊢
 simp (maxSteps := 4000000) (disch := omega) only [rq, simprocAttr, Jy]
 refine Qa.vc hRo ?_
 cases hr : Qp e.ch e.bits e.rate e.pw with
 | false => simp (maxSteps := 4000000) (disch := omega) only [rq, simprocAttr, QM, hr]
 | true =>
  have hz : Qb0 e.rate = Qc e.rate := by
   obtain ⟨_, h, _⟩ := Qu.1 hr
   unfold Qb0; rw [if_neg (by omega)]
  have hFo := hF e ⟨hr, by omega, o2, o3, by omega, by omega⟩
  simp only [Xd, XC, il, bss, bs, shA] at hFo
  have e2 : QM e = if QA e = false then 8 else 0 := by simp [QM, hr]
  by_cases h1 : e.err = 0
  ·cases hd : e.done with
   | false =>
    have e3 : QA e = Qbn e := by simp [QA, h1, hd]
    simp (maxSteps := 4000000) (disch := omega) only [rq, simprocAttr, h1, hd, hz]
    simp only [hd] at hFo
    rw [h1] at hFo
    refine Qa.vc hFo ?_
    cases hf : Qbn e <;> simp (maxSteps := 4000000) (disch := omega) only [rq, simprocAttr, e2, e3, hf]
   | true =>
    by_cases hE : e.rest.length = 0 ∧ e.smp.length = 0 ∧ e.frs.length = 0
    ·obtain ⟨q1, q2, q3⟩ := hE
     by_cases h3 : e.out.length ≤ 100000
     ·have e3 : QA e = true := by simp [QA, h1, hd, q1, q2, q3, h3]
      simp (maxSteps := 4000000) (disch := omega) only [rq, simprocAttr, h1, hd, e2, e3]
     ·have e3 : QA e = false := by simp [QA, h1, hd, q1, q2, q3, h3]
      simp (maxSteps := 4000000) (disch := omega) only [rq, simprocAttr, h1, hd, e2, e3]
    ·have e3 : QA e = false := by
      unfold QA
      rw [if_neg (by simp [h1]), if_pos hd, decide_eq_false_iff_not]
      exact fun h => hE h.1
     simp (maxSteps := 4000000) (disch := omega) only [rq, simprocAttr, h1, hd, e2, e3]
  ·by_cases hX : (e.err = 18 ∨ e.err = 24)
   case neg =>
    have e3 : QA e = false := by simp only [QA]; rw [if_pos h1, decide_eq_false_iff_not]; exact fun h => hX h.1
    simp (maxSteps := 4000000) (disch := omega) only [rq, simprocAttr, h1, e2, e3]
   have hlast : ∀ b : Bool, QA e = b → (b = true ↔ (e.done = false ∧ (e.rest.length = 0 ∧ e.smp.length = 0 ∧ e.frs.length = 0) ∧ e.out.length = 0)) := by
    rintro b rfl; simp only [QA]; rw [if_pos h1, decide_eq_true_eq]; exact ⟨fun h => h.2, fun h => ⟨hX, h⟩⟩
   cases hb : QA e with
   | true =>
    obtain ⟨d1, ⟨q1, q2, q3⟩, q4⟩ := (hlast true hb).1 rfl
    rcases hX with h | h <;> simp (maxSteps := 4000000) (disch := omega) only [rq, simprocAttr, h1, h, d1, e2, hb]
   | false =>
    have hn : ¬ (e.done = false ∧ (e.rest.length = 0 ∧ e.smp.length = 0 ∧ e.frs.length = 0) ∧ e.out.length = 0) := fun h => by have := (hlast false hb).2 h; cases this
    cases hd : e.done with
    | true => rcases hX with h | h <;> simp (maxSteps := 4000000) (disch := omega) only [rq, simprocAttr, h1, h, hd, e2, hb]
    | false =>
     rw [hd] at hn
     by_cases hE : e.rest.length = 0 ∧ e.smp.length = 0 ∧ e.frs.length = 0
     ·have h4 : e.out.length ≠ 0 := fun h => hn ⟨rfl, hE, h⟩
      obtain ⟨q1, q2, q3⟩ := hE
      rcases hX with h | h <;> simp (maxSteps := 4000000) (disch := omega) only [rq, simprocAttr, h1, h, hd, e2, hb]
     ·rcases hX with h | h <;> simp (maxSteps := 4000000) (disch := omega) only [rq, simprocAttr, h1, h, hd, e2, hb]
set_option maxHeartbeats 4000000 in
set_option maxRecDepth 20000 in
theorem QlX {P : Prg} {f fA fF t0 : Nat} (b : Qd P f 69 [.tmp 2] (ZX fA fF t0)) (hA : Qnf P fA) (hF : Qeo P fF) : Xq P f := by
 intro e ⟨o0, o1, o2, o3, o4, o5⟩
 have hAo := hA e.ch e.bits e.rate e.pw (by omega)
 refine VC.of_acall (by simp [isDL, Zq, isD]) rfl (ACall.of_body b (by simp) ?_)
 simp only [Xd, XC, il, bss, bs, shA] at hAo ⊢
 simp (maxSteps := 4000000) (disch := omega) only [rq, simprocAttr, ZX]
 refine Qa.vc hAo ?_
 cases hr : Qp e.ch e.bits e.rate e.pw with
 | false => simp (maxSteps := 4000000) (disch := omega) only [rq, simprocAttr, QM, hr]
 | true =>
  have hFo := hF e ⟨hr, by omega, o2, o3, by omega, by omega⟩
  simp only [Xd, XC, il, bss, bs, shA] at hFo
  have e2 : QM e = if QA e = false then 8 else 0 := by simp [QM, hr]
  have hEmp : ∀ p : Prop, (¬ (e.rest.length = 0 ∧ e.smp.length = 0 ∧ e.frs.length = 0) → (0 < e.rest.length → p) → (e.rest.length = 0 → 0 < e.smp.length → p) → (e.rest.length = 0 → e.smp.length = 0 → 0 < e.frs.length → p) → p) := fun p h a b c => by
   by_cases x1 : e.rest.length = 0
   ·by_cases x2 : e.smp.length = 0
    ·exact c x1 x2 (by omega)
    ·exact b x1 (by omega)
   ·exact a (by omega)
  by_cases h1 : e.err = 0
  ·cases hd : e.done with
   | false =>
    have e3 : QA e = Qbn e := by simp [QA, h1, hd]
    simp only [hd] at hFo
    rw [h1] at hFo
    by_cases hE : e.rest.length = 0 ∧ e.smp.length = 0 ∧ e.frs.length = 0
    ·obtain ⟨q1, q2, q3⟩ := hE
     simp (maxSteps := 4000000) (disch := omega) only [rq, simprocAttr, h1, hd]
     refine Qa.vc hFo ?_
     cases hf : Qbn e <;> simp (maxSteps := 4000000) (disch := omega) only [rq, simprocAttr, e2, e3, hf]
    ·refine hEmp _ hE (fun x1 => ?_) (fun x1 x2 => ?_) (fun x1 x2 x3 => ?_)
     all_goals
      simp (maxSteps := 4000000) (disch := omega) only [rq, simprocAttr, h1, hd]
      refine Qa.vc hFo ?_
      cases hf : Qbn e <;> simp (maxSteps := 4000000) (disch := omega) only [rq, simprocAttr, e2, e3, hf]
   | true =>
    by_cases hE : e.rest.length = 0 ∧ e.smp.length = 0 ∧ e.frs.length = 0
    ·obtain ⟨q1, q2, q3⟩ := hE
     by_cases h3 : e.out.length ≤ 100000
     ·have e3 : QA e = true := by simp [QA, h1, hd, q1, q2, q3, h3]
      simp (maxSteps := 4000000) (disch := omega) only [rq, simprocAttr, h1, hd, e2, e3]
     ·have e3 : QA e = false := by simp [QA, h1, hd, q1, q2, q3, h3]
      simp (maxSteps := 4000000) (disch := omega) only [rq, simprocAttr, h1, hd, e2, e3]
    ·have e3 : QA e = false := by
      unfold QA
      rw [if_neg (by simp [h1]), if_pos hd, decide_eq_false_iff_not]
      exact fun h => hE h.1
     refine hEmp _ hE (fun x1 => ?_) (fun x1 x2 => ?_) (fun x1 x2 x3 => ?_) <;> simp (maxSteps := 4000000) (disch := omega) only [rq, simprocAttr, h1, hd, e2, e3]
  ·by_cases hX : (e.err = 18 ∨ e.err = 24)
   case neg =>
    have e3 : QA e = false := by simp only [QA]; rw [if_pos h1, decide_eq_false_iff_not]; exact fun h => hX h.1
    by_cases hE : e.rest.length = 0 ∧ e.smp.length = 0 ∧ e.frs.length = 0
    ·obtain ⟨q1, q2, q3⟩ := hE
     simp (maxSteps := 4000000) (disch := omega) only [rq, simprocAttr, h1, e2, e3]
    ·refine hEmp _ hE (fun x1 => ?_) (fun x1 x2 => ?_) (fun x1 x2 x3 => ?_) <;> simp (maxSteps := 4000000) (disch := omega) only [rq, simprocAttr, h1, e2, e3]
   have hlast : ∀ b : Bool, QA e = b → (b = true ↔ (e.done = false ∧ (e.rest.length = 0 ∧ e.smp.length = 0 ∧ e.frs.length = 0) ∧ e.out.length = 0)) := by
    rintro b rfl; simp only [QA]; rw [if_pos h1, decide_eq_true_eq]; exact ⟨fun h => h.2, fun h => ⟨hX, h⟩⟩
   cases hb : QA e with
   | true =>
    obtain ⟨d1, ⟨q1, q2, q3⟩, q4⟩ := (hlast true hb).1 rfl
    rcases hX with h | h <;> simp (maxSteps := 4000000) (disch := omega) only [rq, simprocAttr, h1, h, d1, e2, hb]
   | false =>
    have hn : ¬ (e.done = false ∧ (e.rest.length = 0 ∧ e.smp.length = 0 ∧ e.frs.length = 0) ∧ e.out.length = 0) := fun h => by have := (hlast false hb).2 h; cases this
    by_cases hE : e.rest.length = 0 ∧ e.smp.length = 0 ∧ e.frs.length = 0
    ·obtain ⟨q1, q2, q3⟩ := hE
     cases hd : e.done with
     | true => rcases hX with h | h <;> simp (maxSteps := 4000000) (disch := omega) only [rq, simprocAttr, h1, h, hd, e2, hb]
     | false =>
      have h4 : e.out.length ≠ 0 := fun h => hn ⟨hd, ⟨q1, q2, q3⟩, h⟩
      rcases hX with h | h <;> simp (maxSteps := 4000000) (disch := omega) only [rq, simprocAttr, h1, h, hd, e2, hb]
    ·cases hd : e.done with
     | true => refine hEmp _ hE (fun x1 => ?_) (fun x1 x2 => ?_) (fun x1 x2 x3 => ?_) <;> rcases hX with h | h <;> simp (maxSteps := 4000000) (disch := omega) only [rq, simprocAttr, h1, h, hd, e2, hb]
     | false => refine hEmp _ hE (fun x1 => ?_) (fun x1 x2 => ?_) (fun x1 x2 x3 => ?_) <;> rcases hX with h | h <;> simp (maxSteps := 4000000) (disch := omega) only [rq, simprocAttr, h1, h, hd, e2, hb]
def Qot (c b r : Int) (pw : List UInt8) : List AV := [.int .i64 c, .int .i64 b, .int .i64 r, .str pw, .emp true, .emp true, .emp true, .emp true, .bool false, .int .i64 0]
def Qtx (c b r : Int) (pw : List UInt8) : AV := if Qp c b r pw = true then .tup [.agg (Qot c b r pw), .int .i64 0] else .tup [.agg (Qot 0 0 0 []), .int .i64 2]
def Qpa (P : Prg) (f : Nat) : Prop := ∀ (c b r : Int) (pw : List UInt8), pw.length ≤ 100000 → VC P f [shA c b, .int .i64 r, .str pw] (Qtx c b r pw)
theorem Quu (c b r : Int) (pw : List UInt8) : isD (Qtx c b r pw) = true := by unfold Qtx; split <;> rfl
theorem Ql1 {P : Prg} {f fR t0 t1 : Nat} (b : Qd P f 24 [.cell 6 t1, .tmp 7] (QaK fR t0 t1)) (ht : ZQ P t1 = some (some 10)) (hR : Qjf P fR) : Qpa P f := by
 intro c x r pw hp
 have hRo := hR c x r pw (by omega)
 refine VC.of_acall (by simp [isDL, isD, shA]) (Quu _ _ _ _) (ACall.of_body b (by simp) ?_)
 simp (maxSteps := 4000000) (disch := omega) only [rq, simprocAttr, QaK, shA]
 refine Qa.vc hRo ?_
 cases hr : Qp c x r pw with
 | true => simp (maxSteps := 4000000) (disch := omega) only [rq, simprocAttr, Qtx, Qot, hr, ZR, ht]
 | false => simp (maxSteps := 4000000) (disch := omega) only [rq, simprocAttr, Qtx, Qot, hr, ZR, ht]
theorem Qbm {α : Type} (f : α → AV) : ∀ l : List α, (l.map fun x => [f x]).flatten = l.map f
 | [] => rfl
 | x :: l => by simp [Qbm f l]
theorem QdL {L : List (List AV)} (h : ∀ c ∈ L, Qcg (.int .u8) c) : ∃ l : List UInt8, L.length = l.length ∧ AV.list L.length L.flatten = bs l := by
 obtain ⟨l, rfl, _⟩ := Qcp (f := fun b : UInt8 => [AV.int .u8 b.toNat]) (q := fun _ => True) h (fun c hc => by
  simp only [Qcg] at hc
  obtain ⟨n, rfl, h1, h2⟩ := hc
  simp only [IntKind.min, IntKind.max, IntKind.signed, IntKind.bits] at h1 h2
  refine ⟨UInt8.ofNat n.toNat, ?_, trivial⟩
  simp at h1 h2
  simp; omega)
 exact ⟨l, by simp, by simp [bs, u8, Qbm]⟩
theorem QqM {K : IntKind} {L : List (List AV)} (h : ∀ c ∈ L, Qcg (.int K) c) : ∃ l : List Int, L.length = l.length ∧ AV.list L.length L.flatten = .list l.length (ks K l) ∧ ∀ x ∈ l, K.min ≤ x ∧ x ≤ K.max := by
 obtain ⟨l, rfl, h2⟩ := Qcp (f := fun n : Int => [AV.int K n]) (q := fun x => K.min ≤ x ∧ x ≤ K.max) h (fun c hc => by
  simp only [Qcg] at hc
  obtain ⟨n, rfl, h1, h2⟩ := hc
  exact ⟨n, rfl, h1, h2⟩)
 exact ⟨l, by simp, by simp [ks, Qbm], h2⟩
def Qvr (P : Program) (t : TypeId) : Bool := match P.underlying t with | some (.struct _) => true | _ => false
def Qvs (P : Program) (t : TypeId) : Bool := match P.underlying t with | some (.array _ _) => true | _ => false
def Qwu (P : Program) (t : TypeId) : Bool := match P.underlying t with | some (.slice _) => true | _ => false
theorem QsP {P : Program} {t : TypeId} (h : Qvr P t = true) : ∃ fs, P.underlying t = some (.struct fs) := by
 unfold Qvr at h; split at h
 ·exact ⟨_, by assumption⟩
 ·cases h
theorem QvX {P : Program} {t : TypeId} (h : Qvs P t = true) : ∃ n e, P.underlying t = some (.array n e) := by
 unfold Qvs at h; split at h
 ·exact ⟨_, _, by assumption⟩
 ·cases h
theorem Qqw {P : Program} {t : TypeId} (h : Qwu P t = true) : ∃ e, P.underlying t = some (.slice e) := by
 unfold Qwu at h; split at h
 ·exact ⟨_, by assumption⟩
 ·cases h
theorem QqN {L : List (List AV)} (h : ∀ c ∈ L, Qcg (.int .i32) c) : ∃ l : List Int, L.length = l.length ∧ AV.list L.length L.flatten = il l ∧ I32 l := by
 obtain ⟨l, h1, h2, h3⟩ := QqM h
 exact ⟨l, h1, h2, fun x hx => by have := h3 x hx; simpa [IntKind.min, IntKind.max, IntKind.signed, IntKind.bits] using this⟩
theorem Qs0 {L : List (List AV)} (h : ∀ c ∈ L, Qcg (.slice (.int .u8)) c) : ∃ l : List (List UInt8), L.length = l.length ∧ AV.list L.length L.flatten = bss l ∧ ∀ x ∈ l, x.length ≤ maxLen := by
 obtain ⟨l, rfl, h2⟩ := Qcp (f := fun b : List UInt8 => [bs b]) (q := fun x => x.length ≤ maxLen) h (fun c hc => by
  simp only [Qcg] at hc
  obtain ⟨L', rfl, h1, h2⟩ := hc
  obtain ⟨l, h3, h4⟩ := QdL h2
  exact ⟨l, by rw [h4], by omega⟩)
 exact ⟨l, by simp, by simp [bss, Qbm], h2⟩
def QvQ : Sh := .tuple [.int .i64, .int .i64]
def Qvx : Sh := .tuple [QvQ, .int .i64, .str, .slice (.int .u8), .slice (.int .i32), .slice (.slice (.int .u8)), .slice (.int .u8), .bool, .int .i64]
theorem Qhj {cs0 : List AV} (h : Qcg QvQ cs0) : ∃ c b : Int, cs0 = [.int .i64 c, .int .i64 b] := by
 simp only [QvQ, Qcg, FitsL] at h
 obtain ⟨_, _, rfl, ⟨c, rfl, _⟩, _, _, rfl, ⟨b, rfl, _⟩, rfl⟩ := h
 exact ⟨c, b, rfl⟩
theorem Qv0 {cs0 : List AV} (h : Qcg Qvx cs0) : ∃ e : Enc, cs0 = XC e ∧ I32 e.smp := by
 simp only [Qvx, Qcg, FitsL] at h
 obtain ⟨_, _, rfl, h1, _, _, rfl, ⟨r, rfl, _⟩, _, _, rfl, ⟨p, rfl, _⟩, _, _, rfl, ⟨L1, rfl, _, h2⟩, _, _, rfl, ⟨L2, rfl, _, h3⟩, _, _, rfl, ⟨L3, rfl, _, h4⟩, _, _, rfl, ⟨L4, rfl, _, h5⟩, _, _, rfl, ⟨d, rfl⟩, _, _, rfl, ⟨x, rfl, _⟩, rfl⟩ := h
 obtain ⟨c, b, rfl⟩ := Qhj h1
 obtain ⟨l1, _, e1⟩ := QdL (L := L1) (fun c hc => by simp only [Qcg]; exact h2 c hc)
 obtain ⟨l2, _, e2, hi⟩ := QqN (L := L2) (fun c hc => by simp only [Qcg]; exact h3 c hc)
 obtain ⟨l3, _, e3, _⟩ := Qs0 (L := L3) (fun c hc => by simp only [Qcg]; exact h4 c hc)
 obtain ⟨l4, _, e4⟩ := QdL (L := L4) (fun c hc => by simp only [Qcg]; exact h5 c hc)
 exact ⟨⟨c, b, r, p, l1, l2, l3, l4, d, x⟩, by simp [XC, e1, e2, e3, e4], hi⟩
def w32 (x : Int) : Int := IntKind.i32.wrap x
theorem Qtq (x : Int) : w32 x = (x + 2147483648) % 4294967296 - 2147483648 := by
 simp [w32, IntKind.wrap, IntKind.bits, IntKind.signed]; split <;> omega
theorem QtW (a b : Int) : w32 (w32 a + w32 b) = w32 (a + b) := by simp only [Qtq]; omega
theorem Qpm {a : Int} (h1 : -2147483648 ≤ a) (h2 : a ≤ 2147483647) : w32 a = a := Qan h1 h2
theorem QcX (a : Int) : -2147483648 ≤ w32 a ∧ w32 a ≤ 2147483647 := by simp only [Qtq]; omega
theorem Qba (x : Int) : IntKind.i32.wrap x = w32 x := rfl
theorem Jd {l : List Int} (h : I32 l) (k : Nat) : -2147483648 ≤ l.getD k 0 ∧ l.getD k 0 ≤ 2147483647 := by
 rw [List.getD_eq_getElem?_getD]
 cases hk : l[k]? with
 | none => simp
 | some v => exact h v (List.mem_of_getElem? hk)
theorem QtD {K : IntKind} {l : List Int} {k : Nat} (h : k < l.length) : (ks K l)[k]? = some (.int K (l.getD k 0)) := by
 simp [ks, List.getD_eq_getElem?_getD, List.getElem?_eq_getElem h]
structure JH where
 sh : Int
 tp : List Int
 ps : List Int
def Qn (f : JH) : List AV := .int .i64 f.sh :: (ks .i32 f.tp ++ ks .i32 f.ps)
def QbX (f : JH) : Prop := f.tp.length = 16 ∧ f.ps.length = 16 ∧ I32 f.tp ∧ I32 f.ps
theorem Zg {f : JH} (h : QbX f) : (Qn f).length = 33 := by
 obtain ⟨h1, h2, _⟩ := h
 simp [Qn, Qe, h1, h2]
theorem Zl (f : JH) : (Qn f).all AV.one = true := by
 simp only [Qn, List.all_cons, List.all_append, J8]; rfl
theorem ZE (f : JH) : isDL (Qn f) = true := by
 have : ∀ a b, isDL (ks .i32 a ++ ks .i32 b) = true := fun a b => by rw [QfN]; exact QD _ _
 simp [Qn, isDL, isD, this]
theorem QkA {f : JH} (h : QbX f) : ((Qn f).drop 1).take 16 = ks .i32 f.tp := by
 obtain ⟨h1, h2, _⟩ := h
 simp only [Qn, List.drop_succ_cons, List.drop_zero]
 rw [List.take_left' (by simp [Qe, h1])]
theorem Qhk {f : JH} (h : QbX f) : ((Qn f).drop 17).take 16 = ks .i32 f.ps := by
 obtain ⟨h1, h2, _⟩ := h
 simp only [Qn, List.drop_succ_cons]
 rw [List.drop_left' (by simp [Qe, h1]), List.take_of_length_le (by simp [Qe, h2])]
theorem Qs3 {f : JH} (h : QbX f) {k : Nat} (hk : k < 16) : (Qn f).drop (1 + k) = .int .i32 (f.tp.getD k 0) :: ((ks .i32 f.tp).drop (k + 1) ++ ks .i32 f.ps) := by
 obtain ⟨h1, h2, _⟩ := h
 rw [Nat.add_comm]
 simp only [Qn, List.drop_succ_cons]
 rw [List.drop_append_of_le_length (by simp [Qe, h1]; omega), Qbo (by omega), ← Qbl]
 simp [List.getD_eq_getElem?_getD, List.getElem?_eq_getElem (show k < f.tp.length by omega)]
theorem QqR {f : JH} (h : QbX f) {k : Nat} (hk : k < 16) : (Qn f).drop (17 + k) = .int .i32 (f.ps.getD k 0) :: (ks .i32 f.ps).drop (k + 1) := by
 obtain ⟨h1, h2, _⟩ := h
 rw [show 17 + k = (16 + k) + 1 by omega]
 simp only [Qn, List.drop_succ_cons]
 rw [← List.drop_drop, List.drop_left' (by simp [Qe, h1]), Qbo (by omega), ← Qbl]
 simp [List.getD_eq_getElem?_getD, List.getElem?_eq_getElem (show k < f.ps.length by omega)]
theorem Qmm {f : JH} (h : QbX f) {k : Nat} (hk : k < 16) (v : Int) : (Qn f).take (1 + k) ++ [.int .i32 v] ++ (Qn f).drop (1 + k + 1) = Qn { f with tp := f.tp.set k v } := by
 obtain ⟨h1, h2, _⟩ := h
 rw [Nat.add_comm 1 k]
 simp only [Qn, List.take_succ_cons, List.drop_succ_cons, List.cons_append]
 congr 1
 rw [List.take_append_of_le_length (by simp [Qe, h1]; omega), List.drop_append_of_le_length (by simp [Qe, h1]; omega), ← List.append_assoc]
 congr 1
 rw [List.set_eq_take_append_cons_drop, if_pos (by omega)]
 simp [ks]
theorem QkB {f : JH} (h : QbX f) {k : Nat} (hk : k < 16) (v : Int) : (Qn f).take (17 + k) ++ [.int .i32 v] ++ (Qn f).drop (17 + k + 1) = Qn { f with ps := f.ps.set k v } := by
 obtain ⟨h1, h2, _⟩ := h
 rw [show 17 + k = (16 + k) + 1 by omega]
 simp only [Qn, List.take_succ_cons, List.drop_succ_cons, List.cons_append]
 congr 1
 have e : (ks .i32 f.tp).length = 16 := by simp [Qe, h1]
 rw [List.take_append, List.take_of_length_le (by omega), e, show 16 + k + 1 = 16 + (k + 1) by omega, ← List.drop_drop, List.drop_left' e, show 16 + k - 16 = k by omega, List.append_assoc, List.append_assoc]
 congr 1
 rw [List.set_eq_take_append_cons_drop, if_pos (by omega)]
 simp [ks]
theorem QI {α : Type} {l : List α} {n : Nat} (h : l.length ≤ n) : l.take n = l := List.take_of_length_le h
def Qbf (b : Int) : Int := if b = 16 then 9 else 10
def z16 : List Int := List.replicate 16 0
def Qih (b : Int) (t : List Int) : JH := ⟨Qbf b, t, z16⟩
def Qjz : JH := ⟨0, z16, z16⟩
def QgA (b : Int) (t : List Int) : AV := if ZN b = 0 then .tup [.agg (Qn Qjz), .int .i64 2] else .tup [.agg (Qn (Qih b t)), .int .i64 0]
def QnX (P : Prg) (f : Nat) : Prop := ∀ (b : Int) (t : List Int), t.length = 16 → VC P f [.int .i64 b, .agg (ks .i32 t)] (QgA b t)
theorem QsR (b : Int) (t : List Int) : isD (QgA b t) = true := by
 unfold QgA; split <;> simp [isD, isDL, ZE]
theorem Qci : Qn Qjz = [.int .i64 0, .int .i32 0, .int .i32 0, .int .i32 0, .int .i32 0, .int .i32 0, .int .i32 0, .int .i32 0, .int .i32 0, .int .i32 0, .int .i32 0, .int .i32 0, .int .i32 0, .int .i32 0, .int .i32 0, .int .i32 0, .int .i32 0, .int .i32 0, .int .i32 0, .int .i32 0, .int .i32 0, .int .i32 0, .int .i32 0, .int .i32 0, .int .i32 0, .int .i32 0, .int .i32 0, .int .i32 0, .int .i32 0, .int .i32 0, .int .i32 0, .int .i32 0, .int .i32 0] := rfl
theorem Qsd {P : Prg} {f t0 t1 : Nat} (b : Qd P f 18 [.cell 4 t1, .tmp 5] (X6 t0 t1)) (ht : ZQ P t1 = some (some 33)) : QnX P f := by
 intro x t hl
 have hk : (ks .i32 t).length = 16 := by simp [Qe, hl]
 have h1 := J8 .i32 t
 have tk16 : (ks .i32 t).take 16 = ks .i32 t := QI (by omega)
 refine VC.of_acall (by simp [isDL, isD, QD]) (QsR _ _) (ACall.of_body b (by simp) ?_)
 have fin : ∀ s : Int, .int .i64 s :: (ks .i32 t ++ [.int .i32 0, .int .i32 0, .int .i32 0, .int .i32 0, .int .i32 0, .int .i32 0, .int .i32 0, .int .i32 0, .int .i32 0, .int .i32 0, .int .i32 0, .int .i32 0, .int .i32 0, .int .i32 0, .int .i32 0, .int .i32 0]) = Qn ⟨s, t, z16⟩ := fun _ => rfl
 have hl33 : ∀ s : Int, (Qn ⟨s, t, z16⟩).length = 33 := fun s => by simp [Qn, Qe, hl, z16]
 have ho := fun s => Zl ⟨s, t, z16⟩
 have tk : ∀ s : Int, (Qn ⟨s, t, z16⟩).take 33 = Qn ⟨s, t, z16⟩ := fun s => QI (by rw [hl33]; omega)
 have st9 : ([] : List AV) ++ [.int .i64 9] ++ (Qn ⟨10, t, z16⟩).drop 1 = Qn ⟨9, t, z16⟩ := rfl
 have d9 : AV.int .i64 9 :: (Qn ⟨10, t, z16⟩).drop 1 = Qn ⟨9, t, z16⟩ := rfl
 rcases Q3 x with ⟨rfl, h⟩ | ⟨rfl, h⟩ | ⟨rfl, h⟩ | ⟨h2, h3, h4, h⟩
 ·simp (maxSteps := 4000000) (disch := omega) only [rq, simprocAttr, X6, QgA, h, hk, h1, tk16, fin, hl33, ho, tk, ZR, ht, Qih, Qbf]
 ·simp (maxSteps := 4000000) (disch := omega) only [rq, simprocAttr, X6, QgA, h, hk, h1, tk16, fin, hl33, ho, tk, ZR, ht, Qih, Qbf, d9]
 ·simp (maxSteps := 4000000) (disch := omega) only [rq, simprocAttr, X6, QgA, h, hk, h1, tk16, fin, hl33, ho, tk, ZR, ht, Qih, Qbf]
 ·simp (maxSteps := 4000000) (disch := omega) only [rq, simprocAttr, X6, QgA, h, hk, h1, tk16, fin, hl33, ho, tk, ZR, ht, Qci]
def QrZ (s : Int) : Int := if s = 9 ∨ s = 10 then 0 else 8
def QdX (P : Prg) (f : Nat) : Prop := ∀ x : JH, QbX x → VC P f [.agg (Qn x)] (.int .i64 (QrZ x.sh))
theorem Qv5 : QrZ 9 = 0 := rfl
theorem Qu8 : QrZ 10 = 0 := rfl
def QtM (a b : List Int) : Nat → Int
 | 0 => 0
 | k + 1 => QtM a b k + a.getD k 0 * b.getD k 0
def QdC (s : Int) : Int := if s = 9 then 512 else 1024
def QqB (f : JH) : Int := w32 (QdC f.sh / 2 + QtM f.tp f.ps 16) / QdC f.sh
def Qjb (P : Prg) (f : Nat) : Prop := ∀ x : JH, QbX x → x.sh = 9 ∨ x.sh = 10 → VC P f [.agg (Qn x)] (.tup [.int .i32 (QqB x), .int .i64 0])
theorem Qud : Qi true .i32 1 8 = some (.int .i32 256) := rfl
theorem Quc : Qi true .i32 1 9 = some (.int .i32 512) := rfl
theorem Qt8 (s : Int) : Qi false .i32 s 9 = some (.int .i32 (s / 512)) := by
 show some (AV.int .i32 (s.fdiv 512)) = _
 rw [Int.fdiv_eq_ediv_of_nonneg _ (by omega)]
theorem Qsr (s : Int) : Qi false .i32 s 10 = some (.int .i32 (s / 1024)) := by
 show some (AV.int .i32 (s.fdiv 1024)) = _
 rw [Int.fdiv_eq_ediv_of_nonneg _ (by omega)]
theorem Qn9 {P : Prg} {f fC t0 : Nat} (b : Qd P f 36 [.tmp 2, .tmp 3] (Qbu fC t0)) (hC : QdX P fC) : Qjb P f := by
 intro x hx hs
 have l33 := Zg hx
 have tk : (Qn x).take 33 = Qn x := QI (by omega)
 have ho := Zl x
 have e1 := QkA hx
 have e0 : (Qn x).drop 0 = .int .i64 x.sh :: (ks .i32 x.tp ++ ks .i32 x.ps) := rfl
 have ht : QrZ x.sh = 0 := by simp [QrZ, hs]
 have hl := hx.1
 refine VC.of_acall (by simp [isDL, isD, ZE]) rfl (ACall.of_body b (by simp) ?_)
 simp (maxSteps := 4000000) (disch := omega) only [rq, simprocAttr, Qbu, l33, tk, ho]
 refine Qa.vc (hC x hx) ?_
 rcases hs with h | h
 all_goals
  have z0 : w32 (QdC x.sh / 2 + QtM x.tp x.ps 0) = QdC x.sh / 2 := by simp only [QtM, Int.add_zero]; exact Qpm (by simp [QdC, h]) (by simp [QdC, h])
  have z1 : QdC x.sh = 512 ∧ x.sh = 9 ∨ QdC x.sh = 1024 ∧ x.sh = 10 := by simp [QdC, h]
  simp (maxSteps := 4000000) (disch := omega) only [rq, simprocAttr, l33, tk, ho, Qv5, Qu8, e1, ↓e0, h, Qud, Quc]
  refine QU.by (ι := Nat) (fun k => ⟨[(19, .int .i64 k), (18, .agg (ks .i32 x.tp)), (5, .int .i32 (w32 (QdC x.sh / 2 + QtM x.tp x.ps k))), (1, .ref 0 1 0)], [⟨t0, 33, 1, Qn x, 0⟩]⟩) (fun k => k ≤ 16) (fun k => 16 - k) 0 (Le.slots (by rw [z0]; simp [Am.look, h, QdC])) (by omega) ?_
  intro k hk
  by_cases hlt : k < 16
  ·have e2 := QqR hx hlt
   have e3 := QtD (K := .i32) (l := x.tp) (k := k) (by omega)
   have e4 : w32 (w32 (QdC x.sh / 2 + QtM x.tp x.ps k) + w32 (x.tp.getD k 0 * x.ps.getD k 0)) = w32 (QdC x.sh / 2 + QtM x.tp x.ps (k + 1)) := by
    rw [QtW]; simp only [QtM]; congr 1; omega
   simp (maxSteps := 4000000) (disch := omega) only [rq, simprocAttr, l33, e2, e3, Qba, e4]
   exact ⟨k + 1, by omega, by omega, Le.slots (by simp [Am.look])⟩
  ·have e : k = 16 := by omega
   subst e
   simp (maxSteps := 4000000) (disch := omega) only [rq, simprocAttr, ↓e0, h, Qt8, Qsr, QqB, QdC]
theorem Qoa {P : Prg} {f t0 : Nat} (b : Qd P f 11 [.tmp 2] (XI t0)) : QdX P f := by
 intro x hx
 have l33 := Zg hx
 have ho := Zl x
 have e0 : (Qn x).drop 0 = .int .i64 x.sh :: (ks .i32 x.tp ++ ks .i32 x.ps) := rfl
 refine VC.of_acall (by simp [isDL, isD, ZE]) rfl (ACall.of_body b (by simp) ?_)
 by_cases h9 : x.sh = 9
 ·simp (maxSteps := 4000000) (disch := omega) only [rq, simprocAttr, XI, l33, ho, ↓e0, h9, QrZ]
 by_cases h10 : x.sh = 10
 ·simp (maxSteps := 4000000) (disch := omega) only [rq, simprocAttr, XI, l33, ho, ↓e0, h10, QrZ]
 ·simp (maxSteps := 4000000) (disch := omega) only [rq, simprocAttr, XI, l33, ho, ↓e0, QrZ]
def QlG (i : Nat) : Int := if i = 0 then 4 else if i < 4 then 2 else 1
def Qm4 (P : Prg) (f : Nat) : Prop := ∀ i : Nat, VC P f [.int .i64 i] (.int .i32 (QlG i))
theorem QpA {P : Prg} {f : Nat} (b : Qd P f 9 [.tmp 2] Jo) : Qm4 P f := by
 intro i
 refine VC.of_acall rfl rfl (ACall.of_body b (by simp) ?_)
 by_cases h0 : i = 0
 ·subst h0; simp (maxSteps := 4000000) (disch := omega) only [rq, simprocAttr, Jo, QlG, Int.natCast_zero]
 by_cases h1 : i < 4
 ·simp (maxSteps := 4000000) (disch := omega) only [rq, simprocAttr, Jo, QlG, h0]
 ·simp (maxSteps := 4000000) (disch := omega) only [rq, simprocAttr, Jo, QlG, h0]
def sgn (x : Int) : Int := if x < 0 then -1 else if 0 < x then 1 else 0
def Qsc (x : JH) (w : Int) (k : Nat) : Int := w32 (x.tp.getD k 0 + QlG k * sgn (x.ps.getD k 0) * sgn w)
def XU (x : JH) (w : Int) (k : Nat) : List Int := (List.range 16).map fun i => if i < k then Qsc x w i else x.tp.getD i 0
def lf (x : JH) (w : Int) (k : Nat) : JH := { x with tp := XU x w k }
def Qas (x : JH) (w : Int) : JH := lf x w 16
theorem Qos {l : List Int} (h : l.length = 16) : (List.range 16).map (fun i => l.getD i 0) = l := by
 apply List.ext_getElem (by simp [h])
 intro i h1 h2
 simp [List.getD_eq_getElem?_getD, List.getElem?_eq_getElem h2]
theorem Qqp (x : JH) (w : Int) (k : Nat) : (XU x w k).length = 16 := by simp [XU]
theorem Qhe {x : JH} (h : QbX x) (w : Int) : XU x w 0 = x.tp := by
 have := Qos h.1
 simpa [XU] using this
theorem Qoy (x : JH) (w : Int) {k : Nat} (hk : k < 16) : (XU x w k).getD k 0 = x.tp.getD k 0 := by
 simp [XU, List.getD_eq_getElem?_getD, hk]
theorem Qqo (x : JH) (w : Int) {k : Nat} (hk : k < 16) : (XU x w k).set k (Qsc x w k) = XU x w (k + 1) := by
 apply List.ext_getElem (by simp [XU])
 intro i h1 h2
 rw [List.getElem_set]
 simp only [XU, List.getElem_map, List.getElem_range]
 by_cases e : k = i
 ·subst e; simp
 ·rw [if_neg e]
  by_cases h : i < k
  ·rw [if_pos h, if_pos (by omega)]
  ·rw [if_neg h, if_neg (by omega)]
theorem Qhf (x : JH) (w : Int) {k : Nat} (h : Qsc x w k = x.tp.getD k 0) : XU x w (k + 1) = XU x w k := by
 simp only [XU]
 apply List.map_congr_left
 intro i _
 by_cases e : i = k
 ·subst e; simp [h]
 ·by_cases h : i < k
  ·rw [if_pos h, if_pos (by omega)]
  ·rw [if_neg h, if_neg (by omega)]
theorem QrW {x : JH} (h : QbX x) (w : Int) (k : Nat) : I32 (XU x w k) := by
 intro v hv
 simp only [XU, List.mem_map] at hv
 obtain ⟨i, _, rfl⟩ := hv
 split
 ·exact QcX _
 ·exact Jd h.2.2.1 i
theorem Qkh {x : JH} (h : QbX x) (w : Int) (k : Nat) : QbX (lf x w k) := ⟨Qqp x w k, h.2.1, QrW h w k, h.2.2.2⟩
theorem Qfd {x : JH} (h : QbX x) (w : Int) : QbX (Qas x w) := Qkh h w 16
theorem QsK {x : JH} (h : QbX x) : Qas x 0 = x := by
 have key : ∀ k, XU x 0 k = x.tp := fun k => by
  induction k with
  | zero => exact Qhe h 0
  | succ k ih =>
   rw [Qhf x 0, ih]
   have := Jd h.2.2.1 k
   simp only [Qsc, sgn]
   simp
   exact Qpm (by simpa using this.1) (by simpa using this.2)
 simp [Qas, lf, key]
def Qja (P : Prg) (f : Nat) : Prop := ∀ (x : JH) (w : Int), QbX x → x.sh = 9 ∨ x.sh = 10 → VC P f [.agg (Qn x), .int .i32 w] (.tup [.agg (Qn (Qas x w)), .int .i64 0])
theorem Qpz {s : Int} (h : s = 9 ∨ s = 10) : QrZ s = 0 := by simp [QrZ, h]
theorem Qn8 {P : Prg} {f fC fS t0 : Nat} (b : Qd P f 53 [.cell 4 t0, .tmp 5] (Qbt fC fS t0)) (ht : ZQ P t0 = some (some 33)) (hC : QdX P fC) (hS : Qm4 P fS) : Qja P f := by
 intro x w hx hs
 have l33 := Zg hx
 have tk : (Qn x).take 33 = Qn x := QI (by omega)
 have ho := Zl x
 have hc := Qpz hs
 have pp := Qhk hx
 have lw := Zg (Qfd hx w)
 have tkw : (Qn (Qas x w)).take 33 = Qn (Qas x w) := QI (by omega)
 have how := Zl (Qas x w)
 refine VC.of_acall (by simp [isDL, isD, ZE]) (by simp [isD, isDL, ZE]) (ACall.of_body b (by simp) ?_)
 simp (maxSteps := 4000000) (disch := omega) only [rq, simprocAttr, Qbt, l33, tk, ho]
 refine Qa.vc (hC x hx) ?_
 by_cases hw : w = 0
 ·subst hw
  have e := QsK hx
  simp (maxSteps := 4000000) (disch := omega) only [rq, simprocAttr, l33, tk, ho, hc, ZR, ht, e]
 simp (maxSteps := 4000000) (disch := omega) only [rq, simprocAttr, l33, tk, ho, hc, pp]
 refine QU.by (ι := Nat) (fun k => ⟨[(20, .int .i64 k), (19, .agg (ks .i32 x.ps)), (4, .ref 1 1 0), (2, .ref 0 1 0), (1, .int .i32 w), (5, .int .i64 0)], [⟨t0, 33, 1, Qn (lf x w k), 0⟩, ⟨t0, 33, 1, Qn Qjz, 0⟩]⟩) (fun k => k ≤ 16) (fun k => 16 - k) 0 (by rw [show lf x w 0 = x by simp [lf, Qhe hx]]; exact Le.slots (by simp [Am.look])) (by omega) ?_
 intro k hk
 by_cases hlt : k < 16
 ·have hok := Qkh hx w k
  have e1 := QtD (K := .i32) (l := x.ps) (k := k) (by have := hx.2.1; omega)
  have e2 := Qs3 hok hlt
  have e3 := fun v => Qmm hok hlt v
  have e4 := Qoy x w hlt
  have e5 := Zg hok
  have hu := Qqo x w hlt
  have hp := Jd hx.2.2.2 k
  have htp := Jd hx.2.2.1 k
  have ef : ∀ v, ({ lf x w k with tp := (lf x w k).tp.set k v } : JH) = { x with tp := (XU x w k).set k v } := fun _ => rfl
  have e7 : (lf x w k).tp.getD k 0 = x.tp.getD k 0 := e4
  by_cases p0 : x.ps.getD k 0 = 0
  ·have e6 := Qhf x w (k := k) (by simp only [Qsc, p0, sgn]; simp; exact Qpm (by simpa using htp.1) (by simpa using htp.2))
   simp (maxSteps := 4000000) (disch := omega) only [rq, simprocAttr, e1, p0]
   exact ⟨k + 1, by omega, by omega, by rw [show lf x w (k + 1) = lf x w k by simp [lf, e6]]; exact Le.slots (by simp [Am.look])⟩
  ·by_cases hsame : (x.ps.getD k 0 < 0 ↔ w < 0)
   ·have e6 : Qsc x w k = w32 (x.tp.getD k 0 + QlG k) := by
     simp only [Qsc, sgn]; congr 1
     by_cases q : w < 0
     ·rw [if_pos q, if_pos (hsame.2 q)]; omega
     ·rw [if_neg q, if_neg (fun h => q (hsame.1 h)), if_pos (by omega), if_pos (by omega)]; omega
    rw [e6] at hu
    by_cases q : w < 0
    ·have q2 := hsame.2 q
     simp (maxSteps := 4000000) (disch := omega) only [rq, simprocAttr, e1, e2, e7]
     refine QP.vc (hS k) ?_
     simp (maxSteps := 4000000) (disch := omega) only [rq, simprocAttr, e3, e5, Qba, ef, hu]
     exact ⟨k + 1, by omega, by omega, Le.slots (by simp [Am.look])⟩
    ·have q2 : ¬ x.ps.getD k 0 < 0 := fun h => q (hsame.1 h)
     simp (maxSteps := 4000000) (disch := omega) only [rq, simprocAttr, e1, e2, e7]
     refine QP.vc (hS k) ?_
     simp (maxSteps := 4000000) (disch := omega) only [rq, simprocAttr, e3, e5, Qba, ef, hu]
     exact ⟨k + 1, by omega, by omega, Le.slots (by simp [Am.look])⟩
   ·have e6 : Qsc x w k = w32 (x.tp.getD k 0 - QlG k) := by
     simp only [Qsc, sgn]; congr 1
     by_cases q : w < 0
     ·rw [if_pos q, if_neg (fun h => hsame ⟨fun _ => q, fun _ => h⟩), if_pos (by omega)]; omega
     ·rw [if_neg q, if_pos (Classical.byContradiction fun h => hsame ⟨fun h' => absurd h' h, fun h' => absurd h' q⟩), if_pos (by omega)]; omega
    rw [e6] at hu
    by_cases q : w < 0
    ·have q2 : ¬ x.ps.getD k 0 < 0 := fun h => hsame ⟨fun _ => q, fun _ => h⟩
     simp (maxSteps := 4000000) (disch := omega) only [rq, simprocAttr, e1, e2, e7]
     refine QP.vc (hS k) ?_
     simp (maxSteps := 4000000) (disch := omega) only [rq, simprocAttr, e3, e5, Qba, ef, hu]
     exact ⟨k + 1, by omega, by omega, Le.slots (by simp [Am.look])⟩
    ·have q2 : x.ps.getD k 0 < 0 := Classical.byContradiction fun h => hsame ⟨fun h' => absurd h' h, fun h' => absurd h' q⟩
     simp (maxSteps := 4000000) (disch := omega) only [rq, simprocAttr, e1, e2, e7]
     refine QP.vc (hS k) ?_
     simp (maxSteps := 4000000) (disch := omega) only [rq, simprocAttr, e3, e5, Qba, ef, hu]
     exact ⟨k + 1, by omega, by omega, Le.slots (by simp [Am.look])⟩
 ·have e : k = 16 := by omega
  subst e
  have hF : lf x w 16 = Qas x w := rfl
  rw [hF]
  simp (maxSteps := 4000000) (disch := omega) only [rq, simprocAttr, lw, tkw, how, ZR, ht, Qci]
def QgG (x : JH) (v : Int) : JH := { x with ps := v :: x.ps.take 15 }
theorem Qqg {x : JH} (h : QbX x) {v : Int} (hv : -2147483648 ≤ v ∧ v ≤ 2147483647) : QbX (QgG x v) := by
 obtain ⟨h1, h2, h3, h4⟩ := h
 refine ⟨h1, by simp [QgG, h2], h3, fun y hy => ?_⟩
 simp only [QgG, List.mem_cons] at hy
 rcases hy with rfl | hy
 ·exact hv
 ·exact h4 y (List.mem_of_mem_take hy)
def Qm5 (P : Prg) (f : Nat) : Prop := ∀ (x : JH) (v : Int), QbX x → x.sh = 9 ∨ x.sh = 10 → VC P f [.agg (Qn x), .int .i32 v] (.tup [.agg (Qn (QgG x v)), .int .i64 0])
theorem QpB {P : Prg} {f fC t0 : Nat} (b : Qd P f 22 [.cell 4 t0, .tmp 5] (Qca fC t0)) (ht : ZQ P t0 = some (some 33)) (hC : QdX P fC) : Qm5 P f := by
 intro x v hx hs
 have l33 := Zg hx
 have tk : (Qn x).take 33 = Qn x := QI (by omega)
 have ho := Zl x
 have hc := Qpz hs
 have pp := Qhk hx
 have h16 : (ks .i32 x.ps).length = 16 := by simp [Qe, hx.2.1]
 have o16 := J8 .i32 x.ps
 refine VC.of_acall (by simp [isDL, isD, ZE]) (by simp [isD, isDL, ZE]) (ACall.of_body b (by simp) ?_)
 simp (maxSteps := 4000000) (disch := omega) only [rq, simprocAttr, Qca, l33, tk, ho]
 refine Qa.vc (hC x hx) ?_
 have hm : Nat.min 16 15 = 15 := rfl
 let y : JH := { x with ps := x.ps.getD 0 0 :: x.ps.take 15 }
 have hy : QbX y := Qqg hx (Jd hx.2.2.2 0)
 have hcp : (Qn x).take 18 ++ (ks .i32 x.ps).take 15 ++ (Qn x).drop 33 = Qn y := by
  have e1 : (Qn x).drop 33 = [] := List.drop_eq_nil_of_le (by omega)
  have e2 : (ks .i32 x.tp).length = 16 := by simp [Qe, hx.1]
  have e3 : (ks .i32 x.ps).take 1 = [.int .i32 (x.ps.getD 0 0)] := by
   have h1 : 0 < x.ps.length := by have := hx.2.1; omega
   match hps : x.ps, h1 with
   | a :: l, _ => rfl
  rw [e1, List.append_nil]
  simp only [Qn, List.take_succ_cons, List.cons_append, y]
  congr 1
  rw [List.take_append, List.take_of_length_le (by omega), e2, e3, List.append_assoc, Qqs]
  rfl
 have hset : (Qn y).take 17 ++ [.int .i32 v] ++ (Qn y).drop 18 = Qn (QgG x v) := QkB hy (k := 0) (by omega) v
 have ly := Zg hy
 have lp : (Qn (QgG x v)).length = 33 := by rw [← hset]; simp [ly]
 have tkp : (Qn (QgG x v)).take 33 = Qn (QgG x v) := QI (by omega)
 have op := Zl (QgG x v)
 simp (maxSteps := 4000000) (disch := omega) only [rq, simprocAttr, l33, tk, ho, hc, pp, h16, o16, hm, hcp, hset, ly, lp, tkp, op, ZR, ht, Qci]
def QaF (x : JH) (v y : Int) : JH := QgG (Qas x y) v
theorem QfG {x : JH} (h : QbX x) {v : Int} (hv : -2147483648 ≤ v ∧ v ≤ 2147483647) (y : Int) : QbX (QaF x v y) := Qqg (Qfd h y) hv
def Qgk (P : Prg) (f : Nat) : Prop := ∀ (x : JH) (v y : Int), QbX x → x.sh = 9 ∨ x.sh = 10 → -2147483648 ≤ v ∧ v ≤ 2147483647 → VC P f [.agg (Qn x), .int .i32 v, .int .i32 y] (.agg (Qn (QaF x v y)))
theorem Qox {P : Prg} {f fL fP t0 : Nat} (b : Qd P f 20 [.cell 6 t0] (Qbv fL fP t0)) (ht : ZQ P t0 = some (some 33)) (hL : Qja P fL) (hP : Qm5 P fP) : Qgk P f := by
 intro x v y hx hs hv
 have l1 := Zg hx
 have t1 : (Qn x).take 33 = Qn x := QI (by omega)
 have o1 := Zl x
 have l2 := Zg (Qfd hx y)
 have t2 : (Qn (Qas x y)).take 33 = Qn (Qas x y) := QI (by omega)
 have o2 := Zl (Qas x y)
 have l3 := Zg (QfG hx hv y)
 have t3 : (Qn (QaF x v y)).take 33 = Qn (QaF x v y) := QI (by omega)
 have o3 := Zl (QaF x v y)
 have d1 : (Qn x).drop 33 = [] := List.drop_eq_nil_of_le (by omega)
 have d2 : (Qn (Qas x y)).drop 33 = [] := List.drop_eq_nil_of_le (by omega)
 refine VC.of_acall (by simp [isDL, isD, ZE]) (by simp [isD, ZE]) (ACall.of_body b (by simp) ?_)
 simp (maxSteps := 4000000) (disch := omega) only [rq, simprocAttr, Qbv, l1, t1, o1]
 refine Qa.vc (hL x y hx hs) ?_
 simp (maxSteps := 4000000) (disch := omega) only [rq, simprocAttr, l1, t1, o1, l2, t2, o2, d1]
 refine Qa.vc (hP (Qas x y) v (Qfd hx y) hs) ?_
 rw [← QaF]
 simp (maxSteps := 4000000) (disch := omega) only [rq, simprocAttr, l1, t1, o1, l2, t2, o2, l3, t3, o3, d1, d2, ZR, ht, Qci]
def QqC (x : JH) (v : Int) : Int := w32 (v - QqB x)
def QvZ (x : JH) (v : Int) : JH := QaF x v (QqC x v)
def Qep (P : Prg) (f : Nat) : Prop := ∀ (x : JH) (v : Int), QbX x → x.sh = 9 ∨ x.sh = 10 → -2147483648 ≤ v ∧ v ≤ 2147483647 → VC P f [.agg (Qn x), .int .i32 v] (.tup [.int .i32 (QqC x v), .agg (Qn (QvZ x v)), .int .i64 0])
theorem Ql6 {P : Prg} {f fG fB t0 : Nat} (b : Qd P f 27 [.tmp 4, .cell 5 t0, .tmp 6] (QaL fG fB t0)) (ht : ZQ P t0 = some (some 33)) (hG : Qjb P fG) (hB : Qgk P fB) : Qep P f := by
 intro x v hx hs hv
 have l1 := Zg hx
 have t1 : (Qn x).take 33 = Qn x := QI (by omega)
 have o1 := Zl x
 have l3 := Zg (QfG hx hv (QqC x v))
 have t3 : (Qn (QaF x v (QqC x v))).take 33 = Qn (QaF x v (QqC x v)) := QI (by omega)
 have o3 := Zl (QaF x v (QqC x v))
 refine VC.of_acall (by simp [isDL, isD, ZE]) (by simp [isD, isDL, ZE]) (ACall.of_body b (by simp) ?_)
 simp (maxSteps := 4000000) (disch := omega) only [rq, simprocAttr, QaL, l1, t1, o1]
 refine Qa.vc (hG x hx hs) ?_
 simp (maxSteps := 4000000) (disch := omega) only [rq, simprocAttr, l1, t1, o1, Qba]
 refine Qa.vc (hB x v (QqC x v) hx hs hv) ?_
 simp only [QqC] at l3 t3 o3
 simp (maxSteps := 4000000) (disch := omega) only [rq, simprocAttr, l1, t1, o1, l3, t3, o3, ZR, ht, Qci, QvZ, QqC]
def QeH (b last : Int) : Int := if b = 8 then 15 * last / 16 else 31 * last / 32
def Qjp (P : Prg) (f : Nat) : Prop := ∀ b : Int, ZN b ≠ 0 → VC P f [.int .i64 b] (.tup [.int .i64 (if b = 8 then 4 else 5), .int .i64 0])
theorem Qmj {P : Prg} {f : Nat} (b : Qd P f 10 [.tmp 2, .tmp 3] Xl) : Qjp P f := by
 intro x hx
 refine VC.of_acall rfl rfl (ACall.of_body b (by simp) ?_)
 rcases Q3 x with ⟨rfl, h⟩ | ⟨rfl, h⟩ | ⟨rfl, h⟩ | ⟨h2, h3, h4, h⟩
 ·simp (maxSteps := 4000000) (disch := omega) only [rq, simprocAttr, Xl]
 ·simp (maxSteps := 4000000) (disch := omega) only [rq, simprocAttr, Xl]
 ·simp (maxSteps := 4000000) (disch := omega) only [rq, simprocAttr, Xl]
 ·exact absurd h hx
theorem Qub {x : Int} (h : -2147483648 ≤ x ∧ x ≤ 2147483647) : Qi true .i64 x 4 = some (.int .i64 (x * 16)) := by
 show some (AV.int .i64 (IntKind.i64.wrap (x * 16))) = _
 rw [Qa8 (by omega) (by omega)]
theorem Qua {x : Int} (h : -2147483648 ≤ x ∧ x ≤ 2147483647) : Qi true .i64 x 5 = some (.int .i64 (x * 32)) := by
 show some (AV.int .i64 (IntKind.i64.wrap (x * 32))) = _
 rw [Qa8 (by omega) (by omega)]
theorem Qt7 (x : Int) : Qi false .i64 x 4 = some (.int .i64 (x / 16)) := by
 show some (AV.int .i64 (x.fdiv 16)) = _
 rw [Int.fdiv_eq_ediv_of_nonneg _ (by omega)]
theorem Qt6 (x : Int) : Qi false .i64 x 5 = some (.int .i64 (x / 32)) := by
 show some (AV.int .i64 (x.fdiv 32)) = _
 rw [Int.fdiv_eq_ediv_of_nonneg _ (by omega)]
def Qjo (P : Prg) (f : Nat) : Prop := ∀ (b l : Int), -2147483648 ≤ l ∧ l ≤ 2147483647 → VC P f [.int .i64 (if b = 8 then 4 else 5), .int .i32 l] (.int .i32 (QeH b l))
theorem Qmi {P : Prg} {f : Nat} (b : Qd P f 16 [.tmp 4] Jg) : Qjo P f := by
 intro x l hl
 refine VC.of_acall rfl rfl (ACall.of_body b (by simp) ?_)
 have e1 : l * 16 - l = 15 * l := by omega
 have e2 : l * 32 - l = 31 * l := by omega
 have a := Qub hl
 have c := Qua hl
 by_cases h : x = 8
 ·simp (maxSteps := 4000000) (disch := omega) only [rq, simprocAttr, Jg, h, QeH, a, Qt7, e1]
 ·simp (maxSteps := 4000000) (disch := omega) only [rq, simprocAttr, Jg, if_neg h, QeH, c, Qt6, e2]
def Qjq (P : Prg) (f : Nat) : Prop := ∀ (b l : Int), ZN b ≠ 0 → -2147483648 ≤ l ∧ l ≤ 2147483647 → VC P f [.int .i64 b, .int .i32 l] (.tup [.int .i32 (QeH b l), .int .i64 0])
theorem Qmk {P : Prg} {f fS fg : Nat} (b : Qd P f 19 [.tmp 4, .tmp 5] (QaN fS fg)) (hS : Qjp P fS) (hg : Qjo P fg) : Qjq P f := by
 intro x l hx hl
 refine VC.of_acall rfl rfl (ACall.of_body b (by simp) ?_)
 simp (maxSteps := 4000000) (disch := omega) only [rq, simprocAttr, QaN]
 refine Qa.vc (hS x hx) ?_
 simp (maxSteps := 4000000) (disch := omega) only [rq, simprocAttr]
 refine Qa.vc (hg x l hl) ?_
 simp (maxSteps := 4000000) (disch := omega) only [rq, simprocAttr]
structure JY where
 bits : Int
 last : Int
 fl : JH
def Zw (c : JY) : List AV := .int .i64 c.bits :: .int .i32 c.last :: Qn c.fl
def Qtv (c : JY) : Prop := ZN c.bits ≠ 0 ∧ c.fl.sh = Qbf c.bits ∧ QbX c.fl ∧ (-2147483648 ≤ c.last ∧ c.last ≤ 2147483647)
def Qdj : JY := ⟨0, 0, Qjz⟩
theorem Je {c : JY} (h : QbX c.fl) : (Zw c).length = 35 := by simp [Zw, Zg h]
theorem Qaw (c : JY) : (Zw c).all AV.one = true := by simp [Zw, AV.one, Zl]
theorem QdJ (c : JY) : isDL (Zw c) = true := by simp [Zw, isDL, isD, ZE]
theorem Qss (b : Int) : Qbf b = 9 ∨ Qbf b = 10 := by unfold Qbf; split <;> simp
theorem Qqh {b : Int} {t : List Int} (h1 : t.length = 16) (h2 : I32 t) : QbX (Qih b t) := ⟨h1, by simp [Qih, z16], h2, fun x hx => by simp [Qih, z16] at hx; omega⟩
theorem Qe4 : Zw Qdj = [.int .i64 0, .int .i32 0, .int .i64 0, .int .i32 0, .int .i32 0, .int .i32 0, .int .i32 0, .int .i32 0, .int .i32 0, .int .i32 0, .int .i32 0, .int .i32 0, .int .i32 0, .int .i32 0, .int .i32 0, .int .i32 0, .int .i32 0, .int .i32 0, .int .i32 0, .int .i32 0, .int .i32 0, .int .i32 0, .int .i32 0, .int .i32 0, .int .i32 0, .int .i32 0, .int .i32 0, .int .i32 0, .int .i32 0, .int .i32 0, .int .i32 0, .int .i32 0, .int .i32 0, .int .i32 0, .int .i32 0] := rfl
def Qed (b : Int) (t : List Int) : JY := ⟨b, 0, Qih b t⟩
def QoS (b : Int) (t : List Int) : AV := if ZN b = 0 then .tup [.agg (Zw Qdj), .int .i64 2] else .tup [.agg (Zw (Qed b t)), .int .i64 0]
def QrQ (P : Prg) (f : Nat) : Prop := ∀ (b : Int) (t : List Int), t.length = 16 → I32 t → VC P f [.int .i64 b, .agg (ks .i32 t)] (QoS b t)
theorem QsV (b : Int) (t : List Int) : isD (QoS b t) = true := by unfold QoS; split <;> simp [isD, isDL, QdJ]
theorem Qrj {P : Prg} {f fT t0 t1 t2 : Nat} (b : Qd P f 21 [.cell 4 t1, .tmp 5] (Qcd fT t0 t1 t2)) (ht : ZQ P t1 = some (some 35)) (hT : QnX P fT) : QrQ P f := by
 intro x t hl hI
 have hk : (ks .i32 t).length = 16 := by simp [Qe, hl]
 have h1 := J8 .i32 t
 have tk16 : (ks .i32 t).take 16 = ks .i32 t := QI (by omega)
 have hok : QbX (Qih x t) := Qqh hl hI
 have l1 := Zg hok
 have t1' : (Qn (Qih x t)).take 33 = Qn (Qih x t) := QI (by omega)
 have o1 := Zl (Qih x t)
 have lc := Je (c := Qed x t) hok
 have tc : (Zw (Qed x t)).take 35 = Zw (Qed x t) := QI (by omega)
 have oc := Qaw (Qed x t)
 have mk : AV.int .i64 x :: .int .i32 0 :: Qn (Qih x t) = Zw (Qed x t) := rfl
 refine VC.of_acall (by simp [isDL, isD, QD]) (QsV _ _) (ACall.of_body b (by simp) ?_)
 simp (maxSteps := 4000000) (disch := omega) only [rq, simprocAttr, Qcd, hk, h1, tk16]
 refine Qa.vc (hT x t hl) ?_
 by_cases h0 : ZN x = 0
 ·simp (maxSteps := 4000000) (disch := omega) only [rq, simprocAttr, QgA, h0, QoS, Qci, Qe4, ZR, ht]
 ·simp (maxSteps := 4000000) (disch := omega) only [rq, simprocAttr, QgA, if_neg h0, QoS, l1, t1', o1, lc, tc, oc, mk, Qe4, ZR, ht]
theorem QuT {c : JY} (h : QbX c.fl) : ((Zw c).drop 2).take 33 = Qn c.fl := by
 simp only [Zw, List.drop_succ_cons, List.drop_zero]
 exact QI (by rw [Zg h]; omega)
theorem Qrh {c : JY} (h : QbX c.fl) : ((Zw c).drop 3).take 16 = ks .i32 c.fl.tp := QkA h
def Qjt (P : Prg) (f : Nat) : Prop := ∀ c : JY, Qtv c → VC P f [.agg (Zw c)] (.int .i64 0)
theorem QmI {P : Prg} {f fT t0 t1 : Nat} (b : Qd P f 24 [.tmp 2] (QaS fT t0 t1)) (hT : QnX P fT) : Qjt P f := by
 intro c ⟨h1, h2, h3, h4⟩
 have lc := Je h3
 have oc := Qaw c
 have e0 : (Zw c).drop 0 = .int .i64 c.bits :: .int .i32 c.last :: Qn c.fl := rfl
 have e2 : (Zw c).drop 2 = .int .i64 c.fl.sh :: (ks .i32 c.fl.tp ++ ks .i32 c.fl.ps) := rfl
 have et := Qrh h3
 have hk : (ks .i32 c.fl.tp).length = 16 := by simp [Qe, h3.1]
 have hok : QbX (Qih c.bits c.fl.tp) := Qqh h3.1 h3.2.2.1
 have l1 := Zg hok
 have t1' : (Qn (Qih c.bits c.fl.tp)).take 33 = Qn (Qih c.bits c.fl.tp) := QI (by omega)
 have o1 := Zl (Qih c.bits c.fl.tp)
 have en : (Qn (Qih c.bits c.fl.tp)).drop 0 = .int .i64 (Qbf c.bits) :: (ks .i32 c.fl.tp ++ ks .i32 z16) := rfl
 have dn : (Qn (Qih c.bits c.fl.tp)).drop 33 = [] := List.drop_eq_nil_of_le (by omega)
 refine VC.of_acall (by simp [isDL, isD, QdJ]) rfl (ACall.of_body b (by simp) ?_)
 simp (maxSteps := 4000000) (disch := omega) only [rq, simprocAttr, QaS, lc, oc, ↓e0, et]
 refine Qa.vc (hT c.bits c.fl.tp h3.1) ?_
 simp (maxSteps := 4000000) (disch := omega) only [rq, simprocAttr, QgA, if_neg h1, l1, t1', o1, ↓en, ↓e2, h2, dn]
def QvB (c : JY) (x : Int) : Int := w32 (x - QeH c.bits c.last)
def QmJ (c : JY) (x : Int) : Int := QqC c.fl (QvB c x)
def QbI (c : JY) (x : Int) : JY := ⟨c.bits, x, QvZ c.fl (QvB c x)⟩
theorem Ql3 {c : JY} (h : Qtv c) {x : Int} (hx : -2147483648 ≤ x ∧ x ≤ 2147483647) : Qtv (QbI c x) := ⟨h.1, h.2.1, QfG h.2.2.1 (QcX _) _, hx⟩
def Qes (P : Prg) (f : Nat) : Prop := ∀ (c : JY) (x : Int), Qtv c → -2147483648 ≤ x ∧ x ≤ 2147483647 → VC P f [.agg (Zw c), .int .i32 x] (.tup [.int .i32 (QmJ c x), .agg (Zw (QbI c x)), .int .i64 0])
theorem QiH {P : Prg} {f fC fG fF t0 t1 : Nat} (b : Qd P f 44 [.tmp 4, .cell 5 t0, .tmp 6] (JE fC fG fF t0 t1)) (ht : ZQ P t0 = some (some 35)) (hC : Qjt P fC) (hG : Qjq P fG) (hF : Qep P fF) : Qes P f := by
 intro c x hc hx
 obtain ⟨h1, h2, h3, h4⟩ := id hc
 have hs : c.fl.sh = 9 ∨ c.fl.sh = 10 := by rw [h2]; exact Qss _
 have lc := Je h3
 have tc : (Zw c).take 35 = Zw c := QI (by omega)
 have oc := Qaw c
 have e0 : (Zw c).drop 0 = .int .i64 c.bits :: .int .i32 c.last :: Qn c.fl := rfl
 have e1 : (Zw c).drop 1 = .int .i32 c.last :: Qn c.fl := rfl
 have e2 := QuT h3
 have hzr := QcX (x - QeH c.bits c.last)
 have hok := Ql3 hc hx
 have l1 := Zg hok.2.2.1
 have t1' : (Qn (QbI c x).fl).take 33 = Qn (QbI c x).fl := QI (by omega)
 have o1 := Zl (QbI c x).fl
 have d1 : (Qn (QbI c x).fl).drop 33 = [] := List.drop_eq_nil_of_le (by omega)
 have l2 := Je hok.2.2.1
 have t2 : (Zw (QbI c x)).take 35 = Zw (QbI c x) := QI (by omega)
 have o2 := Qaw (QbI c x)
 have mk : AV.int .i64 c.bits :: .int .i32 x :: Qn (QbI c x).fl = Zw (QbI c x) := rfl
 have hfe : QvZ c.fl (w32 (x - QeH c.bits c.last)) = (QbI c x).fl := rfl
 have hye : QqC c.fl (w32 (x - QeH c.bits c.last)) = QmJ c x := rfl
 refine VC.of_acall (by simp [isDL, isD, QdJ]) (by simp [isD, isDL, QdJ]) (ACall.of_body b (by simp) ?_)
 simp (maxSteps := 4000000) (disch := omega) only [rq, simprocAttr, JE, lc, tc, oc]
 refine Qa.vc (hC c hc) ?_
 simp (maxSteps := 4000000) (disch := omega) only [rq, simprocAttr, lc, tc, oc, ↓e0, ↓e1]
 refine Qa.vc (hG c.bits c.last h1 h4) ?_
 simp (maxSteps := 4000000) (disch := omega) only [rq, simprocAttr, lc, tc, oc, e2, Qba]
 refine Qa.vc (hF c.fl _ h3 hs hzr) ?_
 rw [hfe, hye]
 simp (maxSteps := 4000000) (disch := omega) only [rq, simprocAttr, lc, tc, oc, ↓e0, l1, t1', o1, d1, l2, t2, o2, mk, ZR, ht, Qe4]
theorem Qpx {x : Int} (h : x < 0) (n : Int) : x.tdiv n = -(-x / n) ∧ x.tmod n = -(-x % n) := by
 have e : x = -(-x) := by omega
 constructor
 ·rw [e, Int.neg_tdiv, Int.tdiv_eq_ediv_of_nonneg (by omega)]; simp
 ·rw [e, Int.neg_tmod, Int.tmod_eq_emod_of_nonneg (by omega)]; simp
def Qwb (x : JH) (k : Nat) : List Int := (List.range 16).map fun j => if k < j then x.ps.getD (j - 1) 0 else x.ps.getD j 0
def pf (x : JH) (k : Nat) : JH := { x with ps := Qwb x k }
def Qkx (x : Int) : Int := if x < 0 then -2 * x - 1 else 2 * x
def QrM (P : Prg) (f : Nat) : Prop := ∀ x : Int, -2147483648 ≤ x ∧ x ≤ 2147483647 → VC P f [.int .i32 x] (.int .u32 (Qkx x))
theorem QqJ {x : Int} (h : -2147483648 ≤ x ∧ x ≤ 2147483647) : 0 ≤ Qkx x ∧ Qkx x < 4294967296 := by unfold Qkx; split <;> omega
theorem Qr6 {a : Nat} (h : a < 4294967296) : (BitVec.ofInt 32 (a : Int) ^^^ BitVec.ofInt 32 4294967295).toNat = 4294967295 - a := by
 have e : BitVec.ofInt 32 4294967295 = BitVec.allOnes 32 := by decide
 rw [e, BitVec.xor_allOnes, BitVec.toNat_not]
 have : (BitVec.ofInt 32 (a : Int)).toNat = a := by simp; omega
 rw [this]
theorem Qpg {a : Nat} (h : a < 4294967296) : (BitVec.ofInt 32 (a : Int) ^^^ BitVec.ofInt 32 0).toNat = a := by
 have : (BitVec.ofInt 32 (a : Int)).toNat = a := by simp; omega
 rw [BitVec.toNat_xor, this]
 simp
theorem QqI {P : Prg} {f : Nat} (b : Qd P f 10 [.tmp 2] Qax) : QrM P f := by
 intro x hx
 refine VC.of_acall rfl rfl (ACall.of_body b (by simp) ?_)
 by_cases h : x < 0
 ·have a1 : IntKind.u32.wrap x = x + 4294967296 := by rw [Qam]; omega
  have a2 : Qi true .u32 (x + 4294967296) 1 = some (.int .u32 (2 * x + 4294967296)) := by
   show some (AV.int .u32 (IntKind.u32.wrap ((x + 4294967296) * 2))) = _
   rw [Qam]; congr 2; omega
  have a3 : Qi false .i32 x 31 = some (.int .i32 (-1)) := by
   show some (AV.int .i32 (x.fdiv 2147483648)) = _
   rw [Int.fdiv_eq_ediv_of_nonneg _ (by omega)]; congr 2; omega
  have a4 : IntKind.u32.wrap (-1) = 4294967295 := rfl
  have a5 : (BitVec.ofInt IntKind.u32.bits (2 * x + 4294967296) ^^^ BitVec.ofInt IntKind.u32.bits 4294967295).toNat = (-2 * x - 1).toNat := by
   show (BitVec.ofInt 32 (2 * x + 4294967296) ^^^ BitVec.ofInt 32 4294967295).toNat = (-2 * x - 1).toNat
   have := Qr6 (a := (2 * x + 4294967296).toNat) (by omega)
   rw [show (((2 * x + 4294967296).toNat : Nat) : Int) = 2 * x + 4294967296 by omega] at this
   rw [this]; omega
  have a6 : (((BitVec.ofInt IntKind.u32.bits (2 * x + 4294967296) ^^^ BitVec.ofInt IntKind.u32.bits 4294967295).toNat : Nat) : Int) = -2 * x - 1 := by rw [a5]; omega
  simp (maxSteps := 4000000) (disch := omega) only [rq, simprocAttr, Qax, a1, a2, a3, a4, a6, Qkx]
 ·have a2 : Qi true .u32 x 1 = some (.int .u32 (2 * x)) := by
   show some (AV.int .u32 (IntKind.u32.wrap (x * 2))) = _
   rw [Qam]; congr 2; omega
  have a3 : Qi false .i32 x 31 = some (.int .i32 0) := by
   show some (AV.int .i32 (x.fdiv 2147483648)) = _
   rw [Int.fdiv_eq_ediv_of_nonneg _ (by omega)]; congr 2; omega
  have a5 : (BitVec.ofInt IntKind.u32.bits (2 * x) ^^^ BitVec.ofInt IntKind.u32.bits 0).toNat = (2 * x).toNat := by
   show (BitVec.ofInt 32 (2 * x) ^^^ BitVec.ofInt 32 0).toNat = (2 * x).toNat
   have := Qpg (a := (2 * x).toNat) (by omega)
   rwa [show (((2 * x).toNat : Nat) : Int) = 2 * x by omega] at this
  have a6 : (((BitVec.ofInt IntKind.u32.bits (2 * x) ^^^ BitVec.ofInt IntKind.u32.bits 0).toNat : Nat) : Int) = 2 * x := by rw [a5]; omega
  simp (maxSteps := 4000000) (disch := omega) only [rq, simprocAttr, Qax, a2, a3, a6, Qkx]
theorem QtC {K : IntKind} {l : List Int} {i : Nat} (h : i < l.length) (v : Int) : (ks K l).take i ++ [.int K v] ++ (ks K l).drop (i + 1) = ks K (l.set i v) := by
 rw [List.set_eq_take_append_cons_drop, if_pos h]
 simp [ks]
theorem QfM {K : IntKind} {l : List Int} {i : Nat} (h : i < l.length) : (ks K l).drop i = .int K (l.getD i 0) :: ks K (l.drop (i + 1)) := by
 rw [Qbo h]; simp [List.getD_eq_getElem?_getD, List.getElem?_eq_getElem h]
theorem QuD {α : Type} (l : List α) (x : α) : (l ++ [x])[l.length]? = some x := by simp
theorem Que {α : Type} (l : List α) (x y : α) : (l ++ [x]).set l.length y = l ++ [y] := by simp
def Qjs (t : Nat) (P : Prg) (f : Nat) : Prop := ∀ (l : List Int) (ob : List Ob) (K : AV → List Ob → Prop), 0 < l.length → l.length ≤ 1000000 → K (.own ob.length l.length) (ob ++ [⟨t, 1, l.length, ks .i32 l, 0⟩]) → ACall P f [il l] ob K
theorem Qrf {P : Prg} {f t0 : Nat} (b : Qd P f 8 [.tmp 2] (Qs t0)) : Qjs t0 P f := by
 intro l ob K h0 h1 hK
 refine ACall.of_body b (by simp) ?_
 have g1 := fun x : Ob => QuD ob x
 have g2 := fun x y : Ob => Que ob x y
 have n0 : l.length ≠ 0 := by omega
 simp (maxSteps := 4000000) (disch := omega) only [rq, simprocAttr, Qs, il, Qnw, n0, g1, g2, Qb1]
 exact hK
def Qgu (L : List Int) (k i : Nat) : List Int := (List.range L.length).map fun j => if k ≤ j ∧ j < k + i then w32 (L.getD (j + 1) 0 - L.getD j 0) else L.getD j 0
def QfI (L : List Int) (k n : Nat) : List Int := if n = 1 then L else (Qgu L k (n - 1)).set (k + (n - 1)) (w32 (L.getD (k + (n - 1)) 0 - (w32 (L.getD (k + (n - 1)) 0 - L.getD (k + (n - 2)) 0)).tdiv 2))
theorem QdK {a b : List Int} (h : a.length = b.length) (h2 : ∀ j, j < a.length → a.getD j 0 = b.getD j 0) : a = b := by
 apply List.ext_getElem h
 intro i h1 h3
 have := h2 i h1
 simpa [List.getD_eq_getElem?_getD, List.getElem?_eq_getElem h1, List.getElem?_eq_getElem h3] using this
theorem Qbg (L : List Int) (k i : Nat) : (Qgu L k i).length = L.length := by simp [Qgu]
theorem Xn {g : Nat → Int} {n j : Nat} (h : j < n) : ((List.range n).map g).getD j 0 = g j := by
 simp [List.getD_eq_getElem?_getD, h]
theorem Qnp {l : List Int} {i j : Nat} {v : Int} (h : j < l.length) : (l.set i v).getD j 0 = if i = j then v else l.getD j 0 := by
 simp only [List.getD_eq_getElem?_getD, List.getElem?_set]
 split
 ·subst_vars; simp [h]
 ·rfl
theorem Qvj (L : List Int) (k : Nat) : Qgu L k 0 = L := QdK (Qbg _ _ _) fun j hj => by
 rw [Qbg] at hj
 rw [Qgu, Xn hj, if_neg (by omega)]
theorem QpV {L : List Int} {k i j : Nat} (h : j < L.length) (h2 : k + i ≤ j) : (Qgu L k i).getD j 0 = L.getD j 0 := by
 rw [Qgu, Xn h, if_neg (by omega)]
theorem Qst {L : List Int} {k i : Nat} (h : k + i < L.length) : (Qgu L k i).set (k + i) (w32 (L.getD (k + i + 1) 0 - L.getD (k + i) 0)) = Qgu L k (i + 1) := QdK (by simp [Qbg]) fun j hj => by
 have hj' : j < L.length := by simpa [Qbg] using hj
 rw [Qnp (by rw [Qbg]; exact hj'), Qgu, Qgu, Xn hj', Xn hj']
 by_cases e : k + i = j
 ·subst e; rw [if_pos rfl, if_pos (by omega)]
 ·rw [if_neg e]
  by_cases q : k ≤ j ∧ j < k + i
  ·rw [if_pos q, if_pos (by omega)]
  ·rw [if_neg q, if_neg (by omega)]
def Qu1 (P : Prg) (f : Nat) : Prop := ∀ (t : Nat) (L : List Int) (k n : Nat) (K : AV → List Ob → Prop), I32 L → 1 ≤ n → k + n ≤ L.length → L.length ≤ 1000000 →
 K (.tup []) [⟨t, 1, L.length, ks .i32 (QfI L k n), 0⟩] → ACall P f [.view 0 L.length k n] [⟨t, 1, L.length, ks .i32 L, 0⟩] K
theorem Qpy {x : Int} (h : -2147483648 ≤ x ∧ x ≤ 2147483647) : -2147483648 ≤ x.tdiv 2 ∧ x.tdiv 2 ≤ 2147483647 := by
 by_cases hx : x < 0
 ·rw [(Qpx hx 2).1]; omega
 ·rw [Int.tdiv_eq_ediv_of_nonneg (by omega)]; omega
theorem Quo {P : Prg} {f : Nat} (b : Qd P f 39 [] Qem) : Qu1 P f := by
 intro t L k n K hL h1 h2 h3 hK
 refine ACall.of_body b (by simp) ?_
 simp (maxSteps := 4000000) (disch := omega) only [rq, simprocAttr, Qem]
 refine QU.by (ι := Nat) (fun i => ⟨[(8, .int .i64 i), (7, .int .i64 ((n : Int) - 1)), (2, .int .i64 ((n : Int) - 1)), (0, .view 0 L.length k n)], [⟨t, 1, L.length, ks .i32 (Qgu L k i), 0⟩]⟩) (fun i => i ≤ n - 1) (fun i => n - 1 - i) 0 (by rw [Qvj]; exact Le.slots (by simp [Am.look])) (by omega) ?_
 intro i hi
 have ls := Qbg L k i
 by_cases hlt : i < n - 1
 ·have e1 := QfM (K := .i32) (l := Qgu L k i) (i := k + i) (by omega)
  have e2 := QfM (K := .i32) (l := Qgu L k i) (i := k + (i + 1)) (by omega)
  have e3 := fun v => QtC (K := .i32) (l := Qgu L k i) (i := k + i) (by omega) v
  have a1 := QpV (L := L) (k := k) (i := i) (j := k + i) (by omega) (by omega)
  have a2 := QpV (L := L) (k := k) (i := i) (j := k + (i + 1)) (by omega) (by omega)
  have a3 := Qst (L := L) (k := k) (i := i) (by omega)
  rw [show k + i + 1 = k + (i + 1) by omega] at a3
  rw [a1] at e1
  rw [a2] at e2
  simp (maxSteps := 4000000) (disch := omega) only [rq, simprocAttr, e1, e2, e3, Qba, a3, ls]
  exact ⟨i + 1, by omega, by omega, Le.slots (by simp [Am.look])⟩
 ·have e : i = n - 1 := by omega
  subst e
  by_cases hn : n = 1
  ·subst hn
   have e0 : QfI L k 1 = Qgu L k (1 - 1) := by simp [QfI, Qvj]
   rw [e0] at hK
   simp (maxSteps := 4000000) (disch := omega) only [rq, simprocAttr]
   exact hK
  ·have e1 := QfM (K := .i32) (l := Qgu L k (n - 1)) (i := k + (n - 1)) (by omega)
   have e2 := QfM (K := .i32) (l := Qgu L k (n - 1)) (i := k + (n - 2)) (by omega)
   have e3 := fun v => QtC (K := .i32) (l := Qgu L k (n - 1)) (i := k + (n - 1)) (by omega) v
   have a1 := QpV (L := L) (k := k) (i := n - 1) (j := k + (n - 1)) (by omega) (by omega)
   have a2 : (Qgu L k (n - 1)).getD (k + (n - 2)) 0 = w32 (L.getD (k + (n - 1)) 0 - L.getD (k + (n - 2)) 0) := by
    rw [Qgu, Xn (by omega), if_pos (by omega), show k + (n - 2) + 1 = k + (n - 1) by omega]
   rw [a1] at e1
   rw [a2] at e2
   have hr := Qpy (QcX (L.getD (k + (n - 1)) 0 - L.getD (k + (n - 2)) 0))
   simp only [QfI, if_neg hn] at hK
   rw [show k + (n - 2) = k + (n - 1 - 1) by omega] at e2 hK hr
   simp (maxSteps := 4000000) (disch := omega) only [rq, simprocAttr, e1, e2, e3, Qba, ls]
   exact hK
def QbZ (c : Int) (n : Nat) : Int := if c < 1 ∨ 6 < c then 2 else if 4000 < n then 4 else if (n : Int) % c ≠ 0 then 2 else 0
def Qjk (P : Prg) (f : Nat) : Prop := ∀ (c : Int) (l : List Int), VC P f [.int .i64 c, il l] (.int .i64 (QbZ c l.length))
theorem Qqm {P : Prg} {f : Nat} (b : Qd P f 22 [.tmp 4] ZT) : Qjk P f := by
 intro c l
 refine VC.of_acall (by simp [isDL, isD, Zx]) rfl (ACall.of_body b (by simp) ?_)
 by_cases h1 : c < 1
 ·simp (maxSteps := 4000000) (disch := omega) only [rq, simprocAttr, ZT, il, QbZ]
 by_cases h2 : 6 < c
 ·simp (maxSteps := 4000000) (disch := omega) only [rq, simprocAttr, ZT, il, QbZ]
 by_cases h3 : 4000 < l.length
 ·simp (maxSteps := 4000000) (disch := omega) only [rq, simprocAttr, ZT, il, QbZ]
 have hm := QaX (n := l.length) (c := c) (by omega)
 by_cases h4 : (l.length : Int) % c = 0
 ·simp (maxSteps := 4000000) (disch := omega) only [rq, simprocAttr, ZT, il, QbZ, h4]
 ·simp (maxSteps := 4000000) (disch := omega) only [rq, simprocAttr, ZT, il, QbZ, h4]
def Qty (c : Nat) (l : List Int) (j : Nat) : Int :=
 if c = 1 then l.getD j 0
 else if j % c + 1 < c then w32 (l.getD (j + 1) 0 - l.getD j 0)
 else w32 (l.getD j 0 - (w32 (l.getD j 0 - l.getD (j - 1) 0)).tdiv 2)
def Qjx (c : Nat) (l : List Int) (a : Nat) : List Int := (List.range l.length).map fun j => if j < a then Qty c l j else l.getD j 0
def QaY (c : Nat) (l : List Int) : List Int := (List.range l.length).map (Qty c l)
theorem JK (c : Nat) (l : List Int) (a : Nat) : (Qjx c l a).length = l.length := by simp [Qjx]
theorem Qvo (c : Nat) (l : List Int) : Qjx c l 0 = l := QdK (JK _ _ _) fun j hj => by
 rw [JK] at hj; rw [Qjx, Xn hj, if_neg (by omega)]
theorem Qny (c : Nat) (l : List Int) : Qjx c l l.length = QaY c l := by
 simp only [Qjx, QaY]
 apply List.map_congr_left
 intro j hj
 rw [if_pos (by simpa using hj)]
theorem QsG {c : Nat} {l : List Int} (h : I32 l) (j : Nat) : -2147483648 ≤ Qty c l j ∧ Qty c l j ≤ 2147483647 := by
 unfold Qty
 split
 ·exact Jd h j
 ·split <;> exact QcX _
theorem Qn1 {c : Nat} {l : List Int} (h : I32 l) (a : Nat) : I32 (Qjx c l a) := by
 intro v hv
 simp only [Qjx, List.mem_map] at hv
 obtain ⟨j, _, rfl⟩ := hv
 split
 ·exact QsG h j
 ·exact Jd h j
theorem Qpc {c : Nat} {l : List Int} (h : I32 l) : I32 (QaY c l) := by rw [← Qny]; exact Qn1 h _
theorem Qhd (c : Nat) (l : List Int) : (QaY c l).length = l.length := by simp [QaY]
theorem Qun {c : Nat} {l : List Int} {m : Nat} (hc : 1 ≤ c) (h : c * m + c ≤ l.length) : QfI (Qjx c l (c * m)) (c * m) c = Qjx c l (c * m + c) := by
 have mod : ∀ j, c * m ≤ j → j < c * m + c → j % c = j - c * m := fun j h1 h2 => by
  rw [show j = c * m + (j - c * m) by omega, Nat.mul_add_mod]
  rw [Nat.mod_eq_of_lt (by omega)]; omega
 have at' : ∀ j, j < l.length → c * m ≤ j → (Qjx c l (c * m)).getD j 0 = l.getD j 0 := fun j h1 h2 => by rw [Qjx, Xn h1, if_neg (by omega)]
 by_cases h1 : c = 1
 ·subst h1
  simp only [QfI, if_true]
  refine QdK (by simp [JK]) fun j hj => ?_
  rw [JK] at hj
  rw [Qjx, Qjx, Xn hj, Xn hj]
  by_cases q : j < 1 * m
  ·rw [if_pos q, if_pos (by omega)]
  ·rw [if_neg q]; split
   ·simp [Qty]
   ·rfl
 ·simp only [QfI, if_neg h1]
  refine QdK (by simp [Qbg, JK]) fun j hj => ?_
  have hj' : j < l.length := by simpa [Qbg, JK] using hj
  rw [Qnp (by simpa [Qbg, JK] using hj')]
  rw [Qgu, JK, Xn hj']
  conv => rhs; rw [Qjx, Xn hj']
  by_cases e : c * m + (c - 1) = j
  ·rw [if_pos e, if_pos (by omega), at' _ (by omega) (by omega), at' _ (by omega) (by omega)]
   subst e
   have := mod (c * m + (c - 1)) (by omega) (by omega)
   unfold Qty
   rw [if_neg h1, if_neg (by rw [this]; omega), show c * m + (c - 1) - 1 = c * m + (c - 2) by omega]
  ·rw [if_neg e]
   by_cases q : c * m ≤ j ∧ j < c * m + (c - 1)
   ·rw [if_pos q, if_pos (by omega), at' _ (by omega) (by omega), at' _ (by omega) (by omega)]
    have := mod j (by omega) (by omega)
    unfold Qty
    rw [if_neg h1, if_pos (by rw [this]; omega)]
   ·rw [if_neg q, Qjx, Xn hj']
    by_cases r : j < c * m
    ·rw [if_pos r, if_pos (by omega)]
    ·rw [if_neg r, if_neg (by omega)]
def okM (c : Nat) (l : List Int) : Prop := 1 ≤ c ∧ c ≤ 6 ∧ 0 < l.length ∧ l.length ≤ 4000 ∧ l.length % c = 0 ∧ I32 l
theorem Qqi {c : Nat} {l : List Int} (h : okM c l) : QbZ c l.length = 0 := by
 obtain ⟨h1, h2, h3, h4, h5, _⟩ := h
 unfold QbZ
 rw [if_neg (by omega), if_neg (by omega), if_neg (by rw [← Int.natCast_emod, h5]; simp)]
def Qjj (P : Prg) (f : Nat) : Prop := ∀ (c : Nat) (l : List Int), okM c l → VC P f [.int .i64 c, il l] (.tup [il (QaY c l), .int .i64 0])
theorem QsF {c m q : Nat} (h : c * m < c * q) : c * m + c ≤ c * q := by
 have : m < q := Nat.lt_of_mul_lt_mul_left h
 have := Nat.mul_le_mul_left c (show m + 1 ≤ q by omega)
 rw [Nat.mul_add, Nat.mul_one] at this
 exact this
theorem Qup {P : Prg} {f fC fK fM t : Nat} (b : Qd P f 32 [.tmp 4, .tmp 5] (Qen fC fK fM)) (hC : Qjk P fC) (hK : Qjs t P fK) (hM : Qu1 P fM) : Qjj P f := by
 intro c l hok
 obtain ⟨h1, h2, h3, h4, h5, h6⟩ := id hok
 have hc := Qqi hok
 obtain ⟨q, hq⟩ : ∃ q, l.length = c * q := ⟨l.length / c, by have := Nat.div_add_mod l.length c; omega⟩
 refine VC.of_walk 1 (by simp [isDL, isD, Zx]) (by simp [isD, isDL, Zx]) (ACall.of_body b (by simp) ?_)
 simp (maxSteps := 4000000) (disch := omega) only [rq, simprocAttr, Qen]
 refine Qa.vc (hC c l) ?_
 have n0 : l.length ≠ 0 := by omega
 simp (maxSteps := 4000000) (disch := omega) only [rq, simprocAttr, hc, n0]
 refine hK l [] _ h3 (by omega) ?_
 simp (maxSteps := 4000000) (disch := omega) only [rq, simprocAttr, n0]
 refine QU.by (ι := Nat) (fun m => ⟨[(8, .int .i64 (c * m : Nat)), (7, .own 0 l.length), (0, .int .i64 c)], [⟨t, 1, l.length, ks .i32 (Qjx c l (c * m)), 0⟩]⟩) (fun m => m ≤ q) (fun m => q - m) 0 (by rw [Nat.mul_zero, Qvo]; exact Le.slots (by simp [Am.look])) (by omega) ?_
 intro m hm
 by_cases hlt : c * m < l.length
 ·have hs := QsF (c := c) (m := m) (q := q) (by rw [← hq]; exact hlt)
  rw [← hq] at hs
  have hmq : m < q := Nat.lt_of_mul_lt_mul_left (a := c) (b := m) (c := q) (by rw [← hq]; exact hlt)
  have e0 : c * m + c - c * m = c := by omega
  have hM' := hM t (Qjx c l (c * m)) (c * m) c
  rw [JK, Qun h1 hs] at hM'
  simp (maxSteps := 4000000) (disch := omega) only [rq, simprocAttr, e0, n0]
  refine hM' _ (Qn1 h6 _) h1 hs (by omega) ?_
  simp (maxSteps := 4000000) (disch := omega) only [rq, simprocAttr]
  exact ⟨m + 1, by omega, by omega, by rw [show c * (m + 1) = c * m + c by rw [Nat.mul_add, Nat.mul_one]]; exact Le.slots (by simp [Am.look])⟩
 ·have e : c * m = l.length := by
   have := Nat.mul_le_mul_left c hm
   omega
  rw [e, Qny]
  have lm := Qhd c l
  simp (maxSteps := 4000000) (disch := omega) only [rq, simprocAttr]
  simp [QW, QJ, frzL, QH, isDL, isD, il, lm, frzL_T _ (Qy .i32 (QaY c l))]
theorem Le.drop1 {o : Ob} {xs : List Ob} {fr fr' : List (Nat × AV)} (h : isTL o.cs = true)
  (hfr : ∀ p ∈ fr', p.2 = .any ∨ QJ (fun o => decide (o < 1)) (fun o => decide (1 ≤ o)) (o :: xs) 2 [look fr p.1] = some [p.2]) : Le 0 ⟨fr, o :: xs⟩ ⟨fr', [o]⟩ := by
 refine Le.drop 1 2 (by omega) rfl hfr ?_
 intro i y hy
 match i, hy with
 | 0, hy =>
  simp at hy
  subst hy
  exact ⟨o.cs, by simp, by simp only [QJ]; exact frzL_T _ h⟩
 | i + 1, hy => simp at hy
def Qb9 (c x : Int) (l : List Int) : Int := if QF c x ≠ 0 then 2 else if QG x l ≠ 0 then QG x l else if l.length = 0 ∨ (l.length : Int) % c ≠ 0 then 2 else 0
theorem Qm0 {c x : Int} {l : List Int} (h : QF c x = 2) : Qb9 c x l = 2 := by simp [Qb9, h]
theorem Qm1 {c x : Int} {l : List Int} (h : QF c x = 0) (h2 : QG x l ≠ 0) : Qb9 c x l = QG x l := by simp [Qb9, h, h2]
theorem QmZ {c x : Int} {l : List Int} (h : QF c x = 0) (h2 : QG x l = 0) (h3 : l.length = 0 ∨ (l.length : Int) % c ≠ 0) : Qb9 c x l = 2 := by simp only [Qb9, h, h2, if_pos h3]; simp
theorem QrB {c x : Int} {l : List Int} (h : QF c x = 0) (h2 : QG x l = 0) (h3 : ¬ (l.length = 0 ∨ (l.length : Int) % c ≠ 0)) : Qb9 c x l = 0 := by simp only [Qb9, h, h2, if_neg h3]; simp
theorem Q1 (c x : Int) : QF c x = 2 ∨ (QF c x = 0 ∧ ZN x ≠ 0 ∧ 1 ≤ c ∧ c ≤ 6) := by unfold QF; split <;> omega
theorem Qho (x : Int) (l : List Int) : QG x l = 2 ∨ QG x l = 4 ∨ QG x l = 16 ∨ (QG x l = 0 ∧ ZN x ≠ 0 ∧ l.length ≤ 4000) := by
 unfold QG
 by_cases h : ZN x = 0
 ·simp [h]
 by_cases h2 : 4000 < l.length
 ·simp [h, h2]
 by_cases h3 : l.all (inR x)
 ·simp [h, h2, h3]; omega
 ·simp [h, h2, h3]
theorem QrA {c x : Int} {l : List Int} (hI : I32 l) (h : Qb9 c x l = 0) : ∃ k : Nat, c = k ∧ okM k l ∧ ZN x ≠ 0 := by
 rcases Q1 c x with h1 | ⟨h1, h2, h3, h4⟩
 ·rw [Qm0 h1] at h; omega
 by_cases h5 : QG x l = 0
 ·by_cases h6 : l.length = 0 ∨ (l.length : Int) % c ≠ 0
  ·rw [QmZ h1 h5 h6] at h; omega
  ·obtain ⟨k, rfl⟩ : ∃ k : Nat, c = k := ⟨c.toNat, by omega⟩
   refine ⟨k, rfl, ⟨by omega, by omega, by omega, by rcases Qho x l with h | h | h | h <;> omega, by omega, hI⟩, h2⟩
 ·rw [Qm1 h1 h5] at h; exact absurd h h5
def QrP (P : Prg) (f : Nat) : Prop := ∀ (c x : Int) (l : List Int), I32 l → VC P f [shA c x, il l] (.int .i64 (Qb9 c x l))
theorem Qiu {P : Prg} {f fE fW t0 : Nat} (b : Qd P f 30 [.tmp 4] (JB fE fW t0)) (hE : Jj P fE) (hW : Ji P fW) : QrP P f := by
 intro c x l hI
 refine VC.of_acall (by simp [isDL, isD, Zx, shA]) rfl (ACall.of_body b (by simp) ?_)
 have hE' := hE c x
 rw [shA] at hE'
 simp (maxSteps := 4000000) (disch := omega) only [rq, simprocAttr, JB, shA]
 refine Qa.vc hE' ?_
 rcases Q1 c x with h1 | ⟨h1, h2, h3, h4⟩
 ·simp (maxSteps := 4000000) (disch := omega) only [rq, simprocAttr, h1, Qm0 h1]
 simp (maxSteps := 4000000) (disch := omega) only [rq, simprocAttr, h1]
 refine Qa.vc (hW x l hI) ?_
 by_cases h5 : QG x l = 0
 ·have h9 : l.length ≤ 4000 := by rcases Qho x l with h | h | h | h <;> omega
  by_cases h6 : l.length = 0
  ·simp (maxSteps := 4000000) (disch := omega) only [rq, simprocAttr, h5, il, h6, QmZ h1 h5 (.inl h6)]
  ·by_cases h7 : (l.length : Int) % c = 0
   ·have hm := QaX (n := l.length) (c := c) (by omega)
    simp (maxSteps := 4000000) (disch := omega) only [rq, simprocAttr, h5, il, h6, h7, QrB h1 h5 (by omega)]
   ·have hm := QaX (n := l.length) (c := c) (by omega)
    simp (maxSteps := 4000000) (disch := omega) only [rq, simprocAttr, h5, il, h6, h7, QmZ h1 h5 (.inr h7)]
 ·simp (maxSteps := 4000000) (disch := omega) only [rq, simprocAttr, h5, Qm1 h1 h5]
def six (S : Nat → JY) : List AV := Zw (S 0) ++ (Zw (S 1) ++ (Zw (S 2) ++ (Zw (S 3) ++ (Zw (S 4) ++ Zw (S 5)))))
def okS (S : Nat → JY) : Prop := ∀ k, QbX (S k).fl
theorem QlM {S : Nat → JY} (h : okS S) : (six S).length = 210 := by simp [six, Je (h _)]
theorem Qwo {k : Nat} (h : k < 6) : k = 0 ∨ k = 1 ∨ k = 2 ∨ k = 3 ∨ k = 4 ∨ k = 5 := by omega
theorem Qvf {S : Nat → JY} (h : okS S) {k : Nat} (hk : k < 6) : ((six S).drop (k * 35)).take 35 = Zw (S k) := by
 have l := fun k => Je (h k)
 rcases Qwo hk with rfl | rfl | rfl | rfl | rfl | rfl <;> simp [six, List.drop_append, List.take_append, l, List.drop_eq_nil_of_le, QI]
def upd (S : Nat → JY) (k : Nat) (c : JY) : Nat → JY := fun j => if j = k then c else S j
theorem QpO {S : Nat → JY} (h : okS S) {k : Nat} (hk : k < 6) (c : JY) : (six S).take (k * 35) ++ Zw c ++ (six S).drop (k * 35 + 35) = six (upd S k c) := by
 have l := fun k => Je (h k)
 rcases Qwo hk with rfl | rfl | rfl | rfl | rfl | rfl <;> simp [six, upd, List.drop_append, List.take_append, l, List.drop_eq_nil_of_le, QI]
theorem Qqu (c : JY) : isTL (Zw c) = true := by simp [Zw, Qn, isTL, isT, QfP, Qy]
theorem QsO (S : Nat → JY) : isTL (six S) = true := by simp [six, QfP, Qqu]
theorem QuY (S : Nat → JY) : (six S).all AV.one = true := by simp only [six, List.all_append, Qaw, Bool.and_self]
def stC (c : Nat) (L : List Int) (z : JY) (k : Nat) : Nat → JY
 | 0 => z
 | n + 1 => QbI (stC c L z k n) (L.getD (k + n * c) 0)
def Qws (c : Nat) (L : List Int) (z : JY) (j : Nat) : Int := Qkx (QmJ (stC c L z (j % c) (j / c)) (L.getD j 0))
def Qln (c : Nat) (L : List Int) (z : JY) (a : Nat) : List Int := (List.range a).map (Qws c L z)
theorem Qid (c : Nat) (L : List Int) (z : JY) (a : Nat) : (Qln c L z a).length = a := by simp [Qln]
theorem Qqd (c : Nat) (L : List Int) (z : JY) (a : Nat) : Qln c L z a ++ [Qws c L z a] = Qln c L z (a + 1) := by simp [Qln, List.range_succ]
theorem Qqf {c : Nat} {L : List Int} {z : JY} (hL : I32 L) (hz : Qtv z) (k : Nat) : ∀ n, Qtv (stC c L z k n)
 | 0 => hz
 | n + 1 => Ql3 (Qqf hL hz k n) (Jd hL _)
def cnt (c k i : Nat) : Nat := if k < i % c then i / c + 1 else i / c
theorem Qwi (c k : Nat) : cnt c k 0 = 0 := by simp [cnt]
theorem Qtc (c i : Nat) : cnt c (i % c) i = i / c := by simp [cnt]
theorem Qtb {c k i : Nat} (hk : k < c) : cnt c k (i + 1) = if k = i % c then i / c + 1 else cnt c k i := by
 have hc : 0 < c := by omega
 have hr := Nat.mod_lt i hc
 have hi := Nat.div_add_mod i c
 unfold cnt
 by_cases h : i % c + 1 < c
 ·have e1 : (i + 1) % c = i % c + 1 := by
   rw [show i + 1 = c * (i / c) + (i % c + 1) by omega, Nat.mul_add_mod, Nat.mod_eq_of_lt h]
  have e2 : (i + 1) / c = i / c := by
   rw [show i + 1 = (i % c + 1) + c * (i / c) by omega, Nat.add_mul_div_left _ _ hc, Nat.div_eq_of_lt h, Nat.zero_add]
  rw [e1, e2]
  split <;> split <;> (try split) <;> omega
 ·have e0 : i + 1 = c * (i / c + 1) := by rw [Nat.mul_add]; omega
  have e1 : (i + 1) % c = 0 := by rw [e0, Nat.mul_mod_right]
  have e2 : (i + 1) / c = i / c + 1 := by rw [e0, Nat.mul_div_cancel_left _ hc]
  rw [e1, e2]
  split <;> split <;> (try split) <;> omega
def stA (c : Nat) (L : List Int) (z : JY) (i : Nat) : Nat → JY := fun k => if k < c then stC c L z k (cnt c k i) else z
theorem Qv7 (c : Nat) (L : List Int) (z : JY) : stA c L z 0 = fun _ => z := by
 funext k; simp [stA, Qwi, stC]
theorem Qvb {c : Nat} (hc : 1 ≤ c) (L : List Int) (z : JY) (i : Nat) : stA c L z i (i % c) = stC c L z (i % c) (i / c) := by
 rw [stA, if_pos (Nat.mod_lt _ (by omega)), Qtc]
theorem Qsi {c : Nat} (hc : 1 ≤ c) (L : List Int) (z : JY) (i : Nat) : upd (stA c L z i) (i % c) (QbI (stC c L z (i % c) (i / c)) (L.getD i 0)) = stA c L z (i + 1) := by
 funext k
 have hr := Nat.mod_lt i (show 0 < c by omega)
 by_cases hk : k < c
 ·simp only [upd, stA, if_pos hk, Qtb hk]
  by_cases e : k = i % c
  ·rw [if_pos e, if_pos e, e, stC]
   rw [show i % c + i / c * c = i by have := Nat.div_add_mod i c; rw [Nat.mul_comm]; omega]
  ·rw [if_neg e, if_neg e]
 ·simp only [upd, stA, if_neg hk]
  rw [if_neg (by omega)]
theorem Qvm {c : Nat} {L : List Int} {z : JY} (hL : I32 L) (hz : Qtv z) (i : Nat) : okS (stA c L z i) := fun k => by
 unfold stA; split
 ·exact (Qqf hL hz k _).2.2.1
 ·exact hz.2.2.1
def QtY (l : List Int) : AV := .list l.length (ks .u32 l)
theorem QsQ (l : List Int) : isD (QtY l) = true := by simp [QtY, isD, QD]
theorem Le.dropT (os : List Ob) {xs : List Ob} {fr fr' : List (Nat × AV)} (h : ∀ o ∈ os, isTL o.cs = true)
  (hfr : ∀ p ∈ fr', p.2 = .any ∨ QJ (fun o => decide (o < os.length)) (fun o => decide (os.length ≤ o)) (os ++ xs) 2 [look fr p.1] = some [p.2]) : Le 0 ⟨fr, os ++ xs⟩ ⟨fr', os⟩ := by
 refine Le.drop os.length 2 (by omega) rfl hfr ?_
 intro i y hy
 have hi : i < os.length := by
  rcases Nat.lt_or_ge i os.length with h | h
  ·exact h
  ·rw [List.getElem?_eq_none h] at hy; cases hy
 refine ⟨y.cs, by rw [List.getElem?_append_left hi]; exact hy, ?_⟩
 simp only [QJ]
 exact frzL_T _ (h y (List.mem_of_getElem? hy))
def Qsa (c x : Int) (t l : List Int) : AV := if Qb9 c x l ≠ 0 then .tup [.list 0 [], .int .i64 (Qb9 c x l)] else .tup [QtY (Qln c.toNat (QaY c.toNat l) (Qed x t) l.length), .int .i64 0]
theorem Qus (c x : Int) (t l : List Int) : isD (Qsa c x t l) = true := by unfold Qsa; split <;> simp [isD, isDL, QsQ]
def Qna (P : Prg) (f : Nat) : Prop := ∀ (c x : Int) (t l : List Int), t.length = 16 → I32 t → I32 l → VC P f [shA c x, .agg (ks .i32 t), il l] (Qsa c x t l)
theorem Qig : QbX Qdj.fl := ⟨by simp [Qdj, Qjz, z16], by simp [Qdj, Qjz, z16], fun x hx => by simp [Qdj, Qjz, z16] at hx; omega, fun x hx => by simp [Qdj, Qjz, z16] at hx; omega⟩
def Qr2 (z : JY) (i : Nat) : Nat → JY := fun k => if k < i then z else Qdj
theorem Qvn (z : JY) : Qr2 z 0 = fun _ => Qdj := by funext k; simp [Qr2]
theorem Qqk (z : JY) (i : Nat) : upd (Qr2 z i) i z = Qr2 z (i + 1) := by
 funext k
 simp only [upd, Qr2]
 split <;> split <;> (try split) <;> first | rfl | omega
theorem Quk {z : JY} (h : QbX z.fl) (i : Nat) : okS (Qr2 z i) := fun k => by
 unfold Qr2; split
 ·exact h
 ·exact Qig
theorem Qv8 (z : JY) : six (Qr2 z 6) = six (fun _ => z) := by simp [six, Qr2]
theorem Qul {x : Int} (hx : ZN x ≠ 0) {t : List Int} (hl : t.length = 16) (hI : I32 t) : Qtv (Qed x t) := ⟨hx, rfl, Qqh hl hI, by simp [Qed]⟩
set_option maxRecDepth 20000 in
theorem QgK {P : Prg} {f fA fM fN fF fO t0 t1 t2 t3 t4 : Nat} (b : Qd P f 83 [.tmp 6, .tmp 7] (Jb fA fM fN fF fO t0 t1 t2 t3 t4)) (hA : QrP P fA) (hM : Qjj P fM) (hN : QrQ P fN) (hF : Qes P fF) (hO : QrM P fO) : Qna P f := by
 intro c x t l hl hI hL
 have hk : (ks .i32 t).length = 16 := by simp [Qe, hl]
 have ot := J8 .i32 t
 have tt : (ks .i32 t).take 16 = ks .i32 t := QI (by omega)
 refine VC.of_walk 1 (by simp [isDL, isD, Zx, QD, shA]) (Qus _ _ _ _) (ACall.of_body b (by simp) ?_)
 have hA' := hA c x l hL
 rw [shA] at hA'
 unfold Jb
 rw [show ([.int .i64 0, .int .i32 0, .int .i64 0, .int .i32 0, .int .i32 0, .int .i32 0, .int .i32 0, .int .i32 0, .int .i32 0, .int .i32 0, .int .i32 0, .int .i32 0, .int .i32 0, .int .i32 0, .int .i32 0, .int .i32 0, .int .i32 0, .int .i32 0, .int .i32 0, .int .i32 0, .int .i32 0, .int .i32 0, .int .i32 0, .int .i32 0, .int .i32 0, .int .i32 0, .int .i32 0, .int .i32 0, .int .i32 0, .int .i32 0, .int .i32 0, .int .i32 0, .int .i32 0, .int .i32 0, .int .i32 0, .int .i64 0, .int .i32 0, .int .i64 0, .int .i32 0, .int .i32 0, .int .i32 0, .int .i32 0, .int .i32 0, .int .i32 0, .int .i32 0, .int .i32 0, .int .i32 0, .int .i32 0, .int .i32 0, .int .i32 0, .int .i32 0, .int .i32 0, .int .i32 0, .int .i32 0, .int .i32 0, .int .i32 0, .int .i32 0, .int .i32 0, .int .i32 0, .int .i32 0, .int .i32 0, .int .i32 0, .int .i32 0, .int .i32 0, .int .i32 0, .int .i32 0, .int .i32 0, .int .i32 0, .int .i32 0, .int .i32 0, .int .i64 0, .int .i32 0, .int .i64 0, .int .i32 0, .int .i32 0, .int .i32 0, .int .i32 0, .int .i32 0, .int .i32 0, .int .i32 0, .int .i32 0, .int .i32 0, .int .i32 0, .int .i32 0, .int .i32 0, .int .i32 0, .int .i32 0, .int .i32 0, .int .i32 0, .int .i32 0, .int .i32 0, .int .i32 0, .int .i32 0, .int .i32 0, .int .i32 0, .int .i32 0, .int .i32 0, .int .i32 0, .int .i32 0, .int .i32 0, .int .i32 0, .int .i32 0, .int .i32 0, .int .i32 0, .int .i32 0, .int .i64 0, .int .i32 0, .int .i64 0, .int .i32 0, .int .i32 0, .int .i32 0, .int .i32 0, .int .i32 0, .int .i32 0, .int .i32 0, .int .i32 0, .int .i32 0, .int .i32 0, .int .i32 0, .int .i32 0, .int .i32 0, .int .i32 0, .int .i32 0, .int .i32 0, .int .i32 0, .int .i32 0, .int .i32 0, .int .i32 0, .int .i32 0, .int .i32 0, .int .i32 0, .int .i32 0, .int .i32 0, .int .i32 0, .int .i32 0, .int .i32 0, .int .i32 0, .int .i32 0, .int .i32 0, .int .i32 0, .int .i64 0, .int .i32 0, .int .i64 0, .int .i32 0, .int .i32 0, .int .i32 0, .int .i32 0, .int .i32 0, .int .i32 0, .int .i32 0, .int .i32 0, .int .i32 0, .int .i32 0, .int .i32 0, .int .i32 0, .int .i32 0, .int .i32 0, .int .i32 0, .int .i32 0, .int .i32 0, .int .i32 0, .int .i32 0, .int .i32 0, .int .i32 0, .int .i32 0, .int .i32 0, .int .i32 0, .int .i32 0, .int .i32 0, .int .i32 0, .int .i32 0, .int .i32 0, .int .i32 0, .int .i32 0, .int .i32 0, .int .i64 0, .int .i32 0, .int .i64 0, .int .i32 0, .int .i32 0, .int .i32 0, .int .i32 0, .int .i32 0, .int .i32 0, .int .i32 0, .int .i32 0, .int .i32 0, .int .i32 0, .int .i32 0, .int .i32 0, .int .i32 0, .int .i32 0, .int .i32 0, .int .i32 0, .int .i32 0, .int .i32 0, .int .i32 0, .int .i32 0, .int .i32 0, .int .i32 0, .int .i32 0, .int .i32 0, .int .i32 0, .int .i32 0, .int .i32 0, .int .i32 0, .int .i32 0, .int .i32 0, .int .i32 0, .int .i32 0] : List AV) = six (fun _ => Qdj) from rfl, ← Qe4]
 simp (maxSteps := 4000000) (disch := omega) only [rq, simprocAttr, shA, hk, ot, tt]
 refine Qa.vc hA' ?_
 by_cases h0 : Qb9 c x l = 0
 ·obtain ⟨k, rfl, hok, hx⟩ := QrA hL h0
  have hz := Qul hx hl hI
  have l0 := QlM (S := fun _ => Qdj) (fun _ => Qig)
  have o0 := QuY (fun _ => Qdj)
  simp (maxSteps := 4000000) (disch := omega) only [rq, simprocAttr, h0]
  refine Qa.vc (hM k l hok) ?_
  obtain ⟨h1, h2, h3, h4, h5, h6⟩ := id hok
  have lm := Qhd k l
  have hI2 := Qpc (c := k) hL
  have tm : isTL (ks .i32 (QaY k l)) = true := Qy _ _
  generalize hm : QaY k l = m at lm hI2 tm
  simp (maxSteps := 4000000) (disch := omega) only [rq, simprocAttr, l0, o0]
  refine QU.by (ι := Nat) (fun i => ⟨[(36, .int .i64 i), (11, .ref 2 1 0), (9, il m), (4, .ref 1 1 0), (3, .ref 0 1 0)], [⟨t0, 2, 1, [.int .i64 k, .int .i64 x], 0⟩, ⟨t1, 16, 1, ks .i32 t, 0⟩, ⟨t2, 210, 1, six (Qr2 (Qed x t) i), 0⟩]⟩) (fun i => i ≤ 6) (fun i => 6 - i) 0 (by rw [Qvn]; exact Le.slots (by simp [Am.look])) (by omega) ?_
  intro i hi
  have oS := Quk hz.2.2.1 i
  have lS := QlM oS
  by_cases hlt : i < 6
  ·have e1 := QpO oS hlt (Qed x t)
   rw [Qqk] at e1
   have lc := Je hz.2.2.1
   have oc := Qaw (Qed x t)
   simp (maxSteps := 4000000) (disch := omega) only [rq, simprocAttr, hk, tt]
   refine Qa.vc (hN x t hl hI) ?_
   simp (maxSteps := 4000000) (disch := omega) only [rq, simprocAttr, QoS, if_neg hx, lS, lc, oc, e1]
   exact ⟨i + 1, by omega, by omega, Le.slots (by simp [Am.look])⟩
  ·have : i = 6 := by omega
   subst this
   simp (maxSteps := 4000000) (disch := omega) only [rq, simprocAttr, il]
   refine QU.by (ι := Nat) (fun i => ⟨[(51, .int .i64 i), (50, .int .i64 m.length), (49, il m), (13, .own 3 i), (11, .ref 2 1 0), (3, .ref 0 1 0)], [⟨t0, 2, 1, [.int .i64 k, .int .i64 x], 0⟩, ⟨t1, 16, 1, ks .i32 t, 0⟩, ⟨t2, 210, 1, six (stA k m (Qed x t) i), 0⟩, ⟨t4, 1, i, ks .u32 (Qln k m (Qed x t) i), 0⟩]⟩) (fun i => i ≤ m.length) (fun i => m.length - i) 0 (by rw [Qv7, ← Qv8]; exact Le.trans (Le.virt 13 t4 1 (by omega) rfl) (Le.slots (by simp [Am.look, Qln, il]))) (by omega) ?_
   intro i hi
   have lo := Qid k m (Qed x t) i
   by_cases hlt : i < m.length
   ·have oS := Qvm hI2 hz (c := k) i
    have lS := QlM oS
    have hr := Nat.mod_lt i (show 0 < k by omega)
    have e0 := Qvf oS (k := i % k) (by omega)
    rw [Qvb h1] at e0
    have e1 := QpO oS (k := i % k) (by omega) (QbI (stC k m (Qed x t) (i % k) (i / k)) (m.getD i 0))
    rw [Qsi h1] at e1
    have hok2 := Qqf (c := k) hI2 hz (i % k) (i / k)
    have hok3 := Ql3 hok2 (Jd hI2 i)
    have hF' := hF _ (m.getD i 0) hok2 (Jd hI2 i)
    have hO' := hO (QmJ (stC k m (Qed x t) (i % k) (i / k)) (m.getD i 0)) (QcX _)
    have e2 := QfM (K := .i32) (l := m) (i := i) hlt
    have e3 : ks .u32 (Qln k m (Qed x t) i) ++ [.int .u32 (Qkx (QmJ (stC k m (Qed x t) (i % k) (i / k)) (m.getD i 0)))] = ks .u32 (Qln k m (Qed x t) (i + 1)) := by rw [Qim, ← Qqd]; rfl
    have lc := Je hok3.2.2.1
    have oc := Qaw (QbI (stC k m (Qed x t) (i % k) (i / k)) (m.getD i 0))
    have tc : (Zw (QbI (stC k m (Qed x t) (i % k) (i / k)) (m.getD i 0))).take 35 = Zw (QbI (stC k m (Qed x t) (i % k) (i / k)) (m.getD i 0)) := QI (by omega)
    have lz := Je Qig
    have oz := Qaw Qdj
    have dz : (Zw Qdj).drop 35 = [] := List.drop_eq_nil_of_le (by omega)
    have em : (i : Int) % k = (i % k : Nat) := by omega
    simp (maxSteps := 4000000) (disch := omega) only [rq, simprocAttr, il, e2, em, e0]
    refine Qa.vc hF' ?_
    simp (maxSteps := 4000000) (disch := omega) only [rq, simprocAttr, lz, oz, lc, oc, tc, e1, lS, dz, List.append_nil]
    refine Qa.vc hO' ?_
    simp (maxSteps := 4000000) (disch := omega) only [rq, simprocAttr, e3]
    exact ⟨i + 1, by omega, by omega, Le.dropT [_, _, _, _] (by simp [QsO, Qy, isTL, isT]) (by simp [Am.look, QJ, frzL, QH, frzL_T _ tm])⟩
   ·have : i = m.length := by omega
    subst this
    have e9 : Qsa k x t l = .tup [QtY (Qln k m (Qed x t) m.length), .int .i64 0] := by simp [Qsa, h0, hm, lm]
    clear hi hlt
    have hq : ¬ (m.length : Int) < m.length := by omega
    simp (maxSteps := 4000000) (disch := omega) only [rq, simprocAttr, e9]
    simp [QW, QJ, frzL, QH, isDL, isD, QtY, lo, frzL_T _ (Qy .u32 _)]
 ·have e9 : Qsa c x t l = .tup [.list 0 [], .int .i64 (Qb9 c x l)] := by simp [Qsa, h0]
  simp (maxSteps := 4000000) (disch := omega) only [rq, simprocAttr, h0, e9]
  simp [QW, QJ, frzL, QH, isDL, isD]
theorem Qp4 (K : IntKind) : ∀ n : Nat, Qq [.int K 0] n = ks K (List.replicate n 0)
 | 0 => rfl
 | n + 1 => by rw [Qq, Qp4 K n]; simp [ks, List.replicate_succ]
def U32 (l : List Int) : Prop := ∀ x ∈ l, 0 ≤ x ∧ x < 4294967296
def QkP (r n : Int) : AV := if r < 1 ∨ 1048576 < r then .tup [.int .i64 0, .int .i64 2] else if n < 1 ∨ 4000 < n then .tup [.int .i64 0, .int .i64 2] else if 1000 < (n + Qc r - 1) / Qc r then .tup [.int .i64 0, .int .i64 4] else .tup [.int .i64 ((n + Qc r - 1) / Qc r), .int .i64 0]
theorem Quy (r n : Int) : isD (QkP r n) = true := by unfold QkP; split <;> (try split) <;> (try split) <;> rfl
def Qce (P : Prg) (f : Nat) : Prop := ∀ r n : Int, VC P f [.int .i64 r, .int .i64 n] (QkP r n)
theorem Qik {P : Prg} {f fL : Nat} (b : Qd P f 32 [.tmp 4, .tmp 5] (JA fL)) (hL : ZP P fL) : Qce P f := by
 intro r n
 refine VC.of_acall rfl (Quy _ _) (ACall.of_body b (by simp) ?_)
 have hL' := hL r
 simp (maxSteps := 4000000) (disch := omega) only [rq, simprocAttr, JA]
 refine Qa.vc hL' ?_
 by_cases h1 : r < 1 ∨ 1048576 < r
 ·have e1 : J7 r = .tup [.int .i64 0, .int .i64 2] := by rw [J7, if_pos h1]
  have e2 : QkP r n = .tup [.int .i64 0, .int .i64 2] := by rw [QkP, if_pos h1]
  simp (maxSteps := 4000000) (disch := omega) only [rq, simprocAttr, e1, e2]
 have e1 : J7 r = .tup [.int .i64 (Qc r), .int .i64 0] := by rw [J7, if_neg h1]
 have p1 := Zo r
 have p2 := Qcq (r := r) (by omega)
 by_cases h2 : n < 1
 ·have e2 : QkP r n = .tup [.int .i64 0, .int .i64 2] := by rw [QkP, if_neg h1, if_pos (.inl h2)]
  simp (maxSteps := 4000000) (disch := omega) only [rq, simprocAttr, e1, e2]
 by_cases h3 : 4000 < n
 ·have e2 : QkP r n = .tup [.int .i64 0, .int .i64 2] := by rw [QkP, if_neg h1, if_pos (.inr h3)]
  simp (maxSteps := 4000000) (disch := omega) only [rq, simprocAttr, e1, e2]
 have e2 : QkP r n = if 1000 < (n + Qc r - 1) / Qc r then .tup [.int .i64 0, .int .i64 4] else .tup [.int .i64 ((n + Qc r - 1) / Qc r), .int .i64 0] := by
  rw [QkP, if_neg h1, if_neg (by omega)]
 generalize Qc r = L at *
 have q0 : (n + L - 1).tdiv L = (n + L - 1) / L := Int.tdiv_eq_ediv_of_nonneg (by omega)
 have q1 : 0 ≤ (n + L - 1) / L := Int.ediv_nonneg (by omega) (by omega)
 have q2 : (n + L - 1) / L ≤ n + L - 1 := Int.ediv_le_self _ (by omega)
 generalize hq : (n + L - 1) / L = Q at *
 by_cases h4 : 1000 < Q
 ·rw [if_pos h4] at e2
  simp (maxSteps := 4000000) (disch := omega) only [rq, simprocAttr, e1, q0, hq, e2]
 ·rw [if_neg h4] at e2
  simp (maxSteps := 4000000) (disch := omega) only [rq, simprocAttr, e1, q0, hq, e2]
def QdZ (P : Prg) (f : Nat) : Prop := ∀ (c x r : Int) (l : List Int), VC P f [.agg [.int .i64 c, .int .i64 x, .int .i64 r, il l]] (shA c x)
theorem QoT {P : Prg} {f t0 t1 : Nat} (b : Qd P f 8 [.cell 2 t1] (Qbz t0 t1)) (ht : ZQ P t1 = some (some 2)) : QdZ P f := by
 intro c x r l
 refine VC.of_acall (by simp [isDL, isD, Zx]) rfl (ACall.of_body b (by simp) ?_)
 simp (maxSteps := 4000000) (disch := omega) only [rq, simprocAttr, Qbz, il, ZR, ht, shA]
def QiG (r n : Int) : Int := if r < 1 ∨ 1048576 < r then 2 else if n < 1 ∨ 4000 < n then 2 else if 1000 < (n + Qc r - 1) / Qc r then 4 else 0
theorem QnP (r n : Int) : ∃ k : Int, QkP r n = .tup [.int .i64 k, .int .i64 (QiG r n)] := by
 unfold QkP QiG
 split
 ·exact ⟨_, rfl⟩
 split
 ·exact ⟨_, rfl⟩
 split
 ·exact ⟨_, rfl⟩
 ·exact ⟨_, rfl⟩
def X2 (c x r n : Int) : Int := if QF c x ≠ 0 then 8 else if n < 1 then 8 else if 4000 / c < n then 8 else if QiG r n ≠ 0 then 8 else 0
def Qne (P : Prg) (f : Nat) : Prop := ∀ (c x r n : Int) (l : List Int), VC P f [.agg [.int .i64 c, .int .i64 x, .int .i64 r, il l], .int .i64 n] (.int .i64 (X2 c x r n))
theorem Qrg {P : Prg} {f fS fE fC t0 : Nat} (b : Qd P f 31 [.tmp 4] (Qcc fS fE fC t0)) (hS : QdZ P fS) (hE : Jj P fE) (hC : Qce P fC) : Qne P f := by
 intro c x r n l
 refine VC.of_acall (by simp [isDL, isD, Zx]) rfl (ACall.of_body b (by simp) ?_)
 have hS' := hS c x r l
 have hE' := hE c x
 rw [shA] at hS' hE'
 rw [il] at hS'
 obtain ⟨k, ek⟩ := QnP r n
 have hC' := hC r n
 rw [ek] at hC'
 simp (maxSteps := 4000000) (disch := omega) only [rq, simprocAttr, Qcc, il]
 refine Qa.vc hS' ?_
 simp (maxSteps := 4000000) (disch := omega) only [rq, simprocAttr]
 refine Qa.vc hE' ?_
 rcases Q1 c x with h1 | ⟨h1, h2, h3, h4⟩
 ·have e9 : X2 c x r n = 8 := by simp [X2, h1]
  simp (maxSteps := 4000000) (disch := omega) only [rq, simprocAttr, h1, e9]
 have q0 : (4000 : Int).tdiv c = 4000 / c := Int.tdiv_eq_ediv_of_nonneg (by omega)
 have q1 : 0 ≤ (4000 : Int) / c := Int.ediv_nonneg (by omega) (by omega)
 have q2 : (4000 : Int) / c ≤ 4000 := Int.ediv_le_self _ (by omega)
 by_cases h5 : n < 1
 ·have e9 : X2 c x r n = 8 := by simp [X2, h5]
  simp (maxSteps := 4000000) (disch := omega) only [rq, simprocAttr, h1, e9]
 by_cases h6 : 4000 / c < n
 ·have e9 : X2 c x r n = 8 := by simp [X2, h6]
  simp (maxSteps := 4000000) (disch := omega) only [rq, simprocAttr, h1, e9, q0]
 simp (maxSteps := 4000000) (disch := omega) only [rq, simprocAttr, h1, q0]
 refine Qa.vc hC' ?_
 by_cases h7 : QiG r n = 0
 ·have e9 : X2 c x r n = 0 := by simp [X2, h1, h5, h6, h7]
  simp (maxSteps := 4000000) (disch := omega) only [rq, simprocAttr, h7, e9]
 ·have e9 : X2 c x r n = 8 := by simp [X2, h7]
  simp (maxSteps := 4000000) (disch := omega) only [rq, simprocAttr, h7, e9]
def ZK (c x r : Int) (l : List Int) : Int := if c < 1 then 8 else if (l.length : Int) % c ≠ 0 then 8 else if X2 c x r (l.length / c) ≠ 0 then 8 else if QG x l ≠ 0 then 8 else 0
theorem QoB (c x r n : Int) : X2 c x r n = 8 ∨ X2 c x r n = 0 := by
 unfold X2; split <;> (try split) <;> (try split) <;> (try split) <;> simp
def QbD (P : Prg) (f : Nat) : Prop := ∀ (c x r : Int) (l : List Int), I32 l → l.length ≤ 1000000 → VC P f [.agg [.int .i64 c, .int .i64 x, .int .i64 r, il l]] (.int .i64 (ZK c x r l))
theorem QoW {P : Prg} {f fH fW t0 : Nat} (b : Qd P f 33 [.tmp 2] (XR fH fW t0)) (hH : Qne P fH) (hW : Ji P fW) : QbD P f := by
 intro c x r l hI hl
 ·refine VC.of_acall (by simp [isDL, isD, Zx]) rfl (ACall.of_body b (by simp) ?_)
  by_cases h1 : c < 1
  ·have e9 : ZK c x r l = 8 := by simp [ZK, h1]
   simp (maxSteps := 4000000) (disch := omega) only [rq, simprocAttr, XR, il, e9]
  have hm := QaX (n := l.length) (c := c) (by omega)
  have hd := Qa4 (n := l.length) (c := c) (by omega)
  have q0 : (l.length : Int).tdiv c = l.length / c := Int.tdiv_eq_ediv_of_nonneg (by omega)
  by_cases h2 : (l.length : Int) % c = 0
  ·have hH' := hH c x r (l.length / c) l
   have hW' := hW x l hI
   rw [il] at hH' hW'
   simp (maxSteps := 4000000) (disch := omega) only [rq, simprocAttr, XR, il, h2, q0]
   refine QP.vc hH' ?_
   rcases QoB c x r (l.length / c) with h3 | h3
   ·have e9 : ZK c x r l = 8 := by simp [ZK, h3]
    simp (maxSteps := 4000000) (disch := omega) only [rq, simprocAttr, h3, e9]
   ·simp (maxSteps := 4000000) (disch := omega) only [rq, simprocAttr, h3]
    refine Qa.vc hW' ?_
    by_cases h4 : QG x l = 0
    ·have e9 : ZK c x r l = 0 := by simp [ZK, h1, h2, h3, h4]
     simp (maxSteps := 4000000) (disch := omega) only [rq, simprocAttr, h4, e9]
    ·have e9 : ZK c x r l = 8 := by simp [ZK, h4]
     simp (maxSteps := 4000000) (disch := omega) only [rq, simprocAttr, h4, e9]
  ·have e9 : ZK c x r l = 8 := by simp [ZK, h2]
   simp (maxSteps := 4000000) (disch := omega) only [rq, simprocAttr, XR, il, h2, e9]
def Qi4 (c x n : Int) : Int := if QF c x ≠ 0 then 2 else if n < 1 then 2 else if 4000 / c < n then 2 else 0
def Zz (L n : Nat) : List Int := List.replicate ((n - 1) / L) (L : Int) ++ [(n : Int) - ((n - 1) / L * L : Nat)]
theorem XG (L n : Nat) : (Zz L n).length = (n - 1) / L + 1 := by simp [Zz]
def Qpd (l : List Int) : AV := .list l.length (ks .i64 l)
theorem Qin (l : List Int) : isD (Qpd l) = true := by simp [Qpd, isD, QD]
theorem Qqz (c x r n : Int) : X2 c x r n = if Qi4 c x n = 0 ∧ QiG r n = 0 then 0 else 8 := by
 unfold X2 Qi4
 by_cases h1 : QF c x = 0 <;> by_cases h2 : n < 1 <;> by_cases h3 : 4000 / c < n <;> by_cases h4 : QiG r n = 0 <;> simp [h1, h2, h3, h4]
theorem QnQ {c x r : Int} {l : List Int} : ZK c x r l = if Qb9 c x l = 0 ∧ X2 c x r (l.length / c) = 0 then 0 else 8 := by
 unfold ZK Qb9
 by_cases h0 : X2 c x r (l.length / c) = 0
 ·have h0' := h0
  rw [Qqz] at h0'
  have ha : Qi4 c x (l.length / c) = 0 := by
   by_cases h : Qi4 c x (l.length / c) = 0 ∧ QiG r (l.length / c) = 0
   ·exact h.1
   ·rw [if_neg h] at h0'; cases h0'
  have hE : QF c x = 0 := by
   by_cases h : QF c x = 0
   ·exact h
   ·simp [Qi4, h] at ha
  have hn : ¬ (l.length : Int) / c < 1 := by
   intro h
   simp [Qi4, h] at ha
  have hc : ¬ c < 1 := by
   rcases Q1 c x with h | h <;> omega
  have hl : l.length ≠ 0 := by
   intro h
   rw [h] at hn
   simp at hn
  by_cases h2 : (l.length : Int) % c = 0 <;> by_cases h3 : QG x l = 0 <;> simp [hE, hc, hl, h0, h2, h3]
 ·simp [h0]
def clA (c x r : Int) (l : List Int) : AV := .agg [.int .i64 c, .int .i64 x, .int .i64 r, il l]
def leB (n : Nat) : Nat → List UInt8
 | 0 => []
 | k + 1 => UInt8.ofNat (n % 256) :: leB (n / 256) k
theorem Qb : ∀ (k n : Nat), (leB n k).length = k
 | 0, _ => rfl
 | k + 1, n => by simp [leB, Qb k]
theorem Ql8 : ∀ (k n i : Nat) (h : i < k), (leB n k)[i]? = some (UInt8.ofNat (n / 256 ^ i % 256))
 | k + 1, n, 0, _ => by simp [leB]
 | k + 1, n, i + 1, h => by
  simp only [leB, List.getElem?_cons_succ]
  rw [Ql8 k (n / 256) i (by omega), Nat.div_div_eq_div_mul, Nat.pow_succ, Nat.mul_comm]
theorem QdH {n k i : Nat} (h : i < k) : (leB n k).take (i + 1) = (leB n k).take i ++ [UInt8.ofNat (n / 256 ^ i % 256)] := by
 rw [List.take_add_one, Ql8 k n i h]
 rfl
theorem Qwp {K : IntKind} {n k : Nat} (hk : k ≤ K.bits) : Qi false K (n : Int) (k : Int) = some (.int K ((n / 2 ^ k : Nat) : Int)) := by
 have h3 : ¬ ((k : Int) < 0) := by omega
 have h5 : min k K.bits = k := by omega
 have h6 : (n : Int).fdiv (2 ^ k) = ((n / 2 ^ k : Nat) : Int) := by
  rw [Int.fdiv_eq_ediv_of_nonneg _ (Int.pow_nonneg (by decide))]
  simp [Int.natCast_ediv, Int.natCast_pow]
 simp only [Qi, if_neg h3, Bool.false_eq_true, if_false, Int.toNat_natCast, h5, h6]
def QrG (P : Prg) (f : Nat) : Prop := ∀ n w : Nat, 1 ≤ w → w ≤ 8 → VC P f [.int .u64 n, .int .i64 w] (.bool (decide (w = 8) || decide (n / 2 ^ (8 * w) = 0)))
theorem Qur {P : Prg} {f : Nat} (b : Qd P f 14 [.tmp 4] Qa6) : QrG P f := by
 intro n w h1 h2
 refine VC.of_acall rfl rfl (ACall.of_body b (by simp) ?_)
 by_cases h8 : w = 8
 ·subst h8
  simp (maxSteps := 4000000) (disch := omega) only [rq, simprocAttr, Qa6]
 ·have e1 : (decide (w = 8)) = false := by simpa using h8
  have e2 : Qi false .u64 (n : Int) (8 * (w : Int)) = some (.int .u64 ((n / 2 ^ (8 * w) : Nat) : Int)) := by
   have := Qwp (K := .u64) (n := n) (k := 8 * w) (by simp [IntKind.bits]; omega)
   rwa [Int.natCast_mul] at this
  have e3 : (((n / 2 ^ (8 * w) : Nat) : Int) == 0) = decide (n / 2 ^ (8 * w) = 0) := by rw [Bool.eq_iff_iff]; simp only [beq_iff_eq, decide_eq_true_eq]; omega
  have e4 : ((w : Int) = 8) = False := eq_false (by omega)
  by_cases h9 : n / 2 ^ (8 * w) = 0
  ·have e5 : (decide (n / 2 ^ (8 * w) = 0)) = true := by simpa using h9
   have e6 : (((n / 2 ^ (8 * w) : Nat) : Int) = 0) = True := eq_true (by omega)
   rw [e5]
   simp (maxSteps := 4000000) (disch := omega) only [rq, simprocAttr, Qa6, e1, e2, e4, e6]
  ·have e5 : (decide (n / 2 ^ (8 * w) = 0)) = false := by simpa using h9
   have e6 : (((n / 2 ^ (8 * w) : Nat) : Int) = 0) = False := eq_false (by omega)
   rw [e5]
   simp (maxSteps := 4000000) (disch := omega) only [rq, simprocAttr, Qa6, e1, e2, e4, e6]
def Qai (P : Prg) (f : Nat) : Prop := ∀ n w : Nat, 1 ≤ w → w ≤ 8 → n < 256 ^ w → VC P f [.int .u64 n, .int .i64 w] (.tup [bs (leB n w), .int .i64 0])
theorem QsY {t n : Nat} {l : List UInt8} (h : n = l.length) {e : Int} : QW (fun _ => true) [⟨t, 1, n, u8 l, 0⟩] 2 [.tup [.own 0 n, .int .i64 e]] = some [.tup [bs l, .int .i64 e]] := by
 subst h
 simp only [QW, QJ, frzL, QH, Bool.false_eq_true, if_false, List.getElem?_cons_zero, and_self, if_true, frzL_T _ (Qz l), Option.map_some, bs]
theorem QsM {P : Prg} {f fF t0 : Nat} (b : Qd P f 35 [.tmp 4, .tmp 5] (Qbw fF t0)) (hF : QrG P fF) : Qai P f := by
 intro n w h1 h2 hn
 refine VC.of_walk 1 (by simp [isDL, isD]) (by simp [isD, isDL, QQ]) (ACall.of_body b (by simp) ?_)
 have hn8 : n < 18446744073709551616 := Nat.lt_of_lt_of_le hn (Nat.le_trans (Nat.pow_le_pow_right (by omega) h2) (by decide))
 simp (maxSteps := 4000000) (disch := omega) only [rq, simprocAttr, Qbw]
 refine Qa.vc (hF n w h1 h2) ?_
 have e0 : (decide (w = 8) || decide (n / 2 ^ (8 * w) = 0)) = true := by
  have : n / 2 ^ (8 * w) = 0 := Nat.div_eq_of_lt (by rw [Nat.pow_mul]; exact hn)
  simp [this]
 rw [e0]
 have r0 : Qq [.int .u8 0] w = u8 ([] : List UInt8) ++ List.replicate w (.int .u8 0) := by
  have : ∀ k, Qq [AV.int .u8 0] k = List.replicate k (.int .u8 0) := fun k => by
   induction k with
   | zero => rfl
   | succ k ih => simp [Qq, ih, List.replicate_succ]
  rw [this]; rfl
 simp (maxSteps := 4000000) (disch := omega) only [rq, simprocAttr, Qbw]
 rw [r0]
 refine QU.by (ι := Nat) (fun k => ⟨[(22, .int .i64 k), (21, .int .i64 w), (6, .own 0 w), (0, .int .u64 n)], [⟨t0, 1, w, u8 ((leB n w).take k) ++ List.replicate (w - k) (.int .u8 0), 0⟩]⟩) (fun k => k ≤ w) (fun k => w - k) 0 (Le.slots (by simp [Am.look])) (by omega) ?_
 intro k hk
 by_cases hlt : k < w
 ·have e2 : Qi false .u64 (n : Int) (8 * (k : Int)) = some (.int .u64 ((n / 256 ^ k : Nat) : Int)) := by
   have := Qwp (K := .u64) (n := n) (k := 8 * k) (by simp [IntKind.bits]; omega)
   rwa [Int.natCast_mul, Nat.pow_mul] at this
  have e3 : IntKind.u8.wrap ((n / 256 ^ k : Nat) : Int) = ((UInt8.ofNat (n / 256 ^ k % 256)).toNat : Int) := by
   simp [IntKind.wrap, IntKind.signed, IntKind.bits]
  have hl : (u8 ((leB n w).take k)).length = k := by simp [QE, Qb]; omega
  have e4 : (u8 ((leB n w).take k) ++ List.replicate (w - k) (AV.int .u8 0)).take k = u8 ((leB n w).take k) := by rw [List.take_left' hl]
  have e5 : (u8 ((leB n w).take k) ++ List.replicate (w - k) (AV.int .u8 0)).drop (k + 1) = List.replicate (w - (k + 1)) (.int .u8 0) := by
   rw [List.drop_append, List.drop_of_length_le (by omega), hl]
   simp
   omega
  have e6 : u8 ((leB n w).take k) ++ [AV.int .u8 ((UInt8.ofNat (n / 256 ^ k % 256)).toNat : Int)] = u8 ((leB n w).take (k + 1)) := by
   rw [QdH hlt, ← Qdp]; rfl
  simp (maxSteps := 4000000) (disch := omega) only [rq, simprocAttr, e2, e3, hl, e4, e5, e6]
  refine ⟨k + 1, by omega, by omega, ?_⟩
  refine Le.slots ?_
  simp [Am.look]
 ·have ek : k = w := by omega
  subst ek
  have e7 : (leB n k).take k = leB n k := List.take_of_length_le (by rw [Qb]; exact Nat.le_refl _)
  have e8 : u8 (leB n k) ++ List.replicate (k - k) (AV.int .u8 0) = u8 (leB n k) := by simp
  simp (maxSteps := 4000000) (disch := omega) only [rq, simprocAttr, e7]
  rw [e8, QsY (Qb k n).symm]
theorem Qqq : ∀ (k n : Nat), n < 256 ^ k → leN (leB n k) = n
 | 0, n, h => by simp at h; subst h; rfl
 | k + 1, n, h => by
  have h1 : n / 256 < 256 ^ k := by rw [Nat.pow_succ] at h; exact Nat.div_lt_of_lt_mul (by omega)
  have h2 : (UInt8.ofNat (n % 256)).toNat = n % 256 := by simp
  simp only [leB, leN, Qqq k _ h1, h2]
  omega
theorem Qv4 {l : List UInt8} {k : Nat} (h : k < l.length) : (u8 l).drop k = .int .u8 (l[k]).toNat :: u8 (l.drop (k + 1)) := by
 rw [QhW, List.drop_eq_getElem_cons h]; rfl
def Qvc (c b r : Int) : Prop := 1 ≤ c ∧ c ≤ 6 ∧ ZN b ≠ 0 ∧ 1 ≤ r ∧ r ≤ 1048576
instance (c b r : Int) : Decidable (Qvc c b r) := by unfold Qvc; exact inferInstance
theorem Qmg (b : Int) : ZN b ≠ 0 ↔ b = 8 ∨ b = 16 ∨ b = 24 := by
 rcases Q3 b with ⟨rfl, h⟩ | ⟨rfl, h⟩ | ⟨rfl, h⟩ | ⟨h1, h2, h3, h⟩ <;> simp [h] <;> omega
theorem VC.of_vo {P : Prg} {f : FuncId} {ds : List AV} {x : Ob} (h : VO P f ds (.own 0 x.n) x) (hx : isTL x.cs = true) (hd : isDL x.cs = true) : VC P f ds (.list x.n x.cs) := by
 refine VC.of_walk 1 h.2.1 (by simp only [isD]; exact hd) (ACall.of_vo h ?_)
 simp [shr, QW, QJ, frzL, QH, frzL_T _ hx]
theorem Qeu (x : Int) : IntKind.i32.wrap x = (x + 2147483648) % 4294967296 - 2147483648 := by
 simp only [IntKind.wrap, IntKind.bits, IntKind.signed]
 simp
 omega
theorem Qkf {a c s : Nat} (h : a < 2 ^ s) (h2 : a + c * 2 ^ s < 2147483648) : IntKind.i32.wrap (BitVec.ofInt IntKind.i32.bits (a : Int) ||| BitVec.ofInt IntKind.i32.bits ((c * 2 ^ s : Nat) : Int)).toNat = ((a + c * 2 ^ s : Nat) : Int) := by
 have e1 : (BitVec.ofInt IntKind.i32.bits (a : Int) ||| BitVec.ofInt IntKind.i32.bits ((c * 2 ^ s : Nat) : Int)).toNat = a ||| c * 2 ^ s := by
  rw [BitVec.toNat_or]
  simp only [IntKind.bits, BitVec.toNat_ofInt]
  congr 1
  ·omega
  ·omega
 rw [e1, Qqe h, Qan (by omega) (by omega)]
def QjX (b : Int) (s : List UInt8) : Int := if b = 8 then (leN s : Int) - 128 else if ZN b ≤ (leN s : Int) then (leN s : Int) - 2 * ZN b else leN s
def Z3 (b : Int) (l : List UInt8) : List Int := (List.range (l.length / (b / 8).toNat)).map fun i => QjX b ((l.drop (i * (b / 8).toNat)).take (b / 8).toNat)
def JJ (b : Int) (l : List UInt8) : AV :=
 if ZN b = 0 then .tup [.list 0 [], .int .i64 2] else if l.length % (b / 8).toNat ≠ 0 then .tup [.list 0 [], .int .i64 12] else if 4000 < l.length / (b / 8).toNat then .tup [.list 0 [], .int .i64 4] else .tup [il (Z3 b l), .int .i64 0]
theorem Qkn (b : Int) (l : List UInt8) : isD (JJ b l) = true := by
 unfold JJ; split <;> (try split) <;> (try split) <;> simp [isD, isDL, Zx]
theorem XY (b : Int) (l : List UInt8) : (Z3 b l).length = l.length / (b / 8).toNat := by simp [Z3]
theorem Qsm {b : Int} {l : List UInt8} {i : Nat} (h : i < (Z3 b l).length) : (Z3 b l)[i] = QjX b ((l.drop (i * (b / 8).toNat)).take (b / 8).toNat) := by simp [Z3]
theorem Qfx {b : Int} {l : List UInt8} {i : Nat} (h : i < l.length / (b / 8).toNat) : (Z3 b l).take (i + 1) = (Z3 b l).take i ++ [QjX b ((l.drop (i * (b / 8).toNat)).take (b / 8).toNat)] := by
 rw [List.take_succ_eq_append_getElem (by rw [XY]; exact h), Qsm]
theorem QwH {l : List UInt8} {a : Nat} (h : a < l.length) : leN ((l.drop a).take 1) = l[a].toNat := by
 rw [List.drop_eq_getElem_cons h]; simp only [List.take_succ_cons, List.take_zero, leN]; omega
theorem QwG {l : List UInt8} {a : Nat} (h : a + 1 < l.length) : leN ((l.drop a).take 2) = l[a].toNat + l[a + 1].toNat * 256 := by
 rw [List.drop_eq_getElem_cons (by omega), List.drop_eq_getElem_cons (by omega)]; simp only [List.take_succ_cons, List.take_zero, leN]; omega
theorem QwF {l : List UInt8} {a : Nat} (h : a + 2 < l.length) : leN ((l.drop a).take 3) = l[a].toNat + l[a + 1].toNat * 256 + l[a + 2].toNat * 65536 := by
 have e : l[a + 2] = l[a + 1 + 1]'h := rfl
 rw [e, List.drop_eq_getElem_cons (by omega), List.drop_eq_getElem_cons (by omega), List.drop_eq_getElem_cons (by omega)]; simp only [List.take_succ_cons, List.take_zero, leN]; omega
def Qd0 (P : Prg) (f : Nat) : Prop := ∀ (b : Int) (l : List UInt8), l.length < 4611686018427387904 → VC P f [.int .i64 b, bs l] (JJ b l)
theorem Qvi {n : Nat} (h : n < 65536) : (IntKind.i32.wrap ((n : Int) * 65536)).fdiv 65536 = QjX 16 [] + (if 32768 ≤ (n : Int) then (n : Int) - 65536 else n) := by
 have : QjX 16 [] = 0 := by decide
 rw [this, Int.fdiv_eq_ediv_of_nonneg _ (by omega), Qeu]
 split <;> omega
theorem Qvh {n : Nat} (h : n < 16777216) : (IntKind.i32.wrap ((n : Int) * 256)).fdiv 256 = QjX 24 [] + (if 8388608 ≤ (n : Int) then (n : Int) - 16777216 else n) := by
 have : QjX 24 [] = 0 := by decide
 rw [this, Int.fdiv_eq_ediv_of_nonneg _ (by omega), Qeu]
 split <;> omega
theorem Qts {s : List UInt8} : QjX 16 s = if 32768 ≤ (leN s : Int) then (leN s : Int) - 65536 else leN s := by simp [QjX, ZN]
theorem Qtr {s : List UInt8} : QjX 24 s = if 8388608 ≤ (leN s : Int) then (leN s : Int) - 16777216 else leN s := by simp [QjX, ZN]
theorem Qve {s : List UInt8} : QjX 8 s = (leN s : Int) - 128 := by simp [QjX]
set_option maxRecDepth 20000 in
set_option maxHeartbeats 2000000 in
theorem Qhw {P : Prg} {f fR t0 : Nat} (bd : Qd P f 81 [.tmp 4, .tmp 5] (Zb fR t0)) (hR : Qgf P fR) : Qd0 P f := by
 intro b l hl
 refine VC.of_walk 1 (by simp [isDL, isD, QQ]) (Qkn _ _) (ACall.of_body bd (by simp) ?_)
 have hR' := hR b
 rcases Q3 b with ⟨rfl, h⟩ | ⟨rfl, h⟩ | ⟨rfl, h⟩ | ⟨h1, h2, h3, h⟩
 case inr.inr.inr =>
  simp only [Jm, if_pos h] at hR'
  simp only [JJ, if_pos h]
  simp (maxSteps := 4000000) (disch := omega) only [rq, simprocAttr, Zb, bs]
  refine Qa.vc hR' ?_
  simp (maxSteps := 4000000) (disch := omega) only [rq, simprocAttr]
  simp [QW, QJ, frzL, QH]
 ·simp only [Jm, h] at hR'
  rw [if_neg (by omega)] at hR'
  have hw : ((8 : Int) / 8).toNat = 1 := rfl
  simp only [JJ, hw, h]
  rw [if_neg (by omega), if_neg (by omega)]
  have hL := XY 8 l
  have hT := fun i => @Qfx 8 l i
  rw [hw] at hL hT
  generalize hS : Z3 8 l = S at *
  simp (maxSteps := 4000000) (disch := omega) only [rq, simprocAttr, Zb, bs]
  refine Qa.vc hR' ?_
  by_cases h4 : 4000 < l.length
  ·rw [if_pos (by omega)]
   simp (maxSteps := 4000000) (disch := omega) only [rq, simprocAttr]
   simp [QW, QJ, frzL, QH]
  rw [if_neg (by omega)]
  simp (maxSteps := 4000000) (disch := omega) only [rq, simprocAttr]
  refine QU.by (ι := Nat) (fun k => ⟨[(11, .int .i64 k), (10, .own 0 k), (9, .int .i64 1), (0, .int .i64 8), (1, .list l.length (u8 l))], [⟨t0, 1, k, ks .i32 (S.take k), 0⟩]⟩) (fun k => k ≤ l.length) (fun k => l.length - k) 0 (Le.trans (Le.virt 10 t0 1 (by omega) rfl) (Le.slots (by simp [Am.look]))) (by omega) ?_
  intro k hk
  have lk : (ks .i32 (S.take k)).length = k := by rw [Qe, List.length_take]; omega
  by_cases hlt : k < l.length
  ·have e1 := Qeh hlt
   have e2 := hT k (by omega)
   have b0 := l[k].toNat_lt
   rw [Qve, Nat.mul_one, QwH hlt] at e2
   simp (maxSteps := 4000000) (disch := omega) only [rq, simprocAttr, e1, lk, Qim]
   rw [← e2]
   exact ⟨k + 1, by omega, by omega, Le.drop1 (Qy _ _) (by simp [Am.look, QJ, frzL, QH, frzL_T _ (Qz _)])⟩
  ·have ek : k = l.length := by omega
   subst ek
   have tS : S.take l.length = S := List.take_of_length_le (by omega)
   simp (maxSteps := 4000000) (disch := omega) only [rq, simprocAttr]
   rw [tS]
   simp [QW, QJ, frzL, QH, frzL_T _ (Qy _ _), il, hL]
 ·simp only [Jm, h] at hR'
  rw [if_neg (by omega)] at hR'
  have hw : ((16 : Int) / 8).toNat = 2 := rfl
  simp only [JJ, hw, h]
  rw [if_neg (by omega)]
  have hL := XY 16 l
  have hT := fun i => @Qfx 16 l i
  rw [hw] at hL hT
  generalize hS : Z3 16 l = S at *
  have m1 : (l.length : Int).tmod 2 = ((l.length % 2 : Nat) : Int) := by rw [Int.tmod_eq_emod_of_nonneg (by omega)]; omega
  have m2 : (l.length : Int).tdiv 2 = ((l.length / 2 : Nat) : Int) := by rw [Int.tdiv_eq_ediv_of_nonneg (by omega)]; omega
  simp (maxSteps := 4000000) (disch := omega) only [rq, simprocAttr, Zb, bs]
  refine Qa.vc hR' ?_
  by_cases h3 : l.length % 2 ≠ 0
  ·rw [if_pos h3]
   simp (maxSteps := 4000000) (disch := omega) only [rq, simprocAttr, m1]
   simp [QW, QJ, frzL, QH]
  rw [if_neg h3]
  have h3' : l.length % 2 = 0 := by omega
  by_cases h4 : 4000 < l.length / 2
  ·rw [if_pos h4]
   simp (maxSteps := 4000000) (disch := omega) only [rq, simprocAttr, m1, m2]
   simp [QW, QJ, frzL, QH]
  rw [if_neg h4]
  simp (maxSteps := 4000000) (disch := omega) only [rq, simprocAttr, m1, m2]
  refine QU.by (ι := Nat) (fun k => ⟨[(11, .int .i64 ((k * 2 : Nat) : Int)), (10, .own 0 k), (9, .int .i64 2), (0, .int .i64 16), (1, .list l.length (u8 l))], [⟨t0, 1, k, ks .i32 (S.take k), 0⟩]⟩) (fun k => k ≤ l.length / 2) (fun k => l.length / 2 - k) 0 (Le.trans (Le.virt 10 t0 1 (by omega) rfl) (Le.slots (by simp [Am.look]))) (by omega) ?_
  intro k hk
  have lk : (ks .i32 (S.take k)).length = k := by rw [Qe, List.length_take]; omega
  by_cases hlt : k < l.length / 2
  ·have eT := hT k hlt
   have g : k * 2 + 2 ≤ l.length := by omega
   rw [Qts, QwG (by omega)] at eT
   have e0 := Qeh (l := l) (k := k * 2 + 0) (by omega)
   have b0 := (l[k * 2 + 0]).toNat_lt
   have e1 := Qeh (l := l) (k := k * 2 + 1) (by omega)
   have b1 := (l[k * 2 + 1]).toNat_lt
   simp only [Nat.add_zero] at e0 b0
   generalize l[k * 2] = y0 at *
   generalize l[k * 2 + 1] = y1 at *
   generalize hat : k * 2 = at_ at *
   obtain ⟨X, hX⟩ : ∃ X, X = y0.toNat + y1.toNat * 256 := ⟨_, rfl⟩
   rw [← hX] at eT
   simp (maxSteps := 4000000) (disch := omega) only [rq, simprocAttr]
   refine QU.by (ι := Nat) (fun j => ⟨[(54, .int .i64 j), (53, .int .i64 2), (12, .int .i32 (match j with | 0 => 0 | 1 => (y0.toNat : Int) | _ => (X : Int))), (11, .int .i64 (at_ : Int)), (10, .own 0 k), (9, .int .i64 2), (0, .int .i64 16), (1, .list l.length (u8 l))], [⟨t0, 1, k, ks .i32 (S.take k), 0⟩]⟩) (fun j => j ≤ 2) (fun j => 2 - j) 0 (Le.slots (by simp [Am.look])) (by omega) ?_
   intro j hj
   have o1 := @Qkf y0.toNat y1.toNat 8 (by omega) (by omega)
   rw [show y1.toNat * 2 ^ 8 = y1.toNat * 256 by rfl, ← hX] at o1
   generalize hq1 : y1.toNat * 256 = q1 at *
   have o0 : IntKind.i32.wrap (BitVec.ofInt IntKind.i32.bits 0 ||| BitVec.ofInt IntKind.i32.bits (y0.toNat : Int)).toNat = (y0.toNat : Int) := by
    have := @Qkf 0 y0.toNat 0 (by omega) (by omega)
    simpa using this
   have s0 : Qi true .i32 (y0.toNat : Int) 0 = some (.int .i32 (y0.toNat : Int)) := by simp [Qi]; rw [Qan] <;> omega
   have s1 : Qi true .i32 (y1.toNat : Int) 8 = some (.int .i32 (q1 : Int)) := by simp [Qi, IntKind.bits]; rw [Qan] <;> omega
   have hj3 : j = 0 ∨ j = 1 ∨ j = 2 := by omega
   rcases hj3 with rfl | rfl | rfl
   ·simp (maxSteps := 4000000) (disch := omega) only [rq, simprocAttr, e0, o0, s0]
    exact ⟨1, by omega, by omega, Le.slots (by simp [Am.look])⟩
   ·simp (maxSteps := 4000000) (disch := omega) only [rq, simprocAttr, e1, o1, s1]
    exact ⟨2, by omega, by omega, Le.slots (by simp [Am.look])⟩
   ·have z1 : ∀ x : Int, Qi true .i32 x 16 = some (.int .i32 (IntKind.i32.wrap (x * 65536))) := fun x => rfl
    have z2 : ∀ x : Int, Qi false .i32 x 16 = some (.int .i32 (x.fdiv 65536)) := fun x => rfl
    have z3 := Qvi (n := X) (by omega)
    rw [show QjX 16 [] = 0 by decide, Int.zero_add] at z3
    rw [← z3] at eT
    have z4 : (IntKind.i32.wrap ((X : Int) * 65536)).fdiv 65536 ≤ 2147483647 := by rw [z3]; split <;> omega
    have z5 : -2147483648 ≤ (IntKind.i32.wrap ((X : Int) * 65536)).fdiv 65536 := by rw [z3]; split <;> omega
    simp (maxSteps := 4000000) (disch := omega) only [rq, simprocAttr, z1, z2, lk, Qim]
    rw [← eT, ← hat]
    exact ⟨k + 1, by omega, by omega, Le.drop1 (Qy _ _) (by simp [Am.look, QJ, frzL, QH, frzL_T _ (Qz _)]; try omega)⟩
  ·have ek : k = l.length / 2 := by omega
   subst ek
   have tS : S.take (l.length / 2) = S := List.take_of_length_le (by omega)
   have tw : l.length / 2 * 2 = l.length := by omega
   rw [tS, tw]
   simp (maxSteps := 4000000) (disch := omega) only [rq, simprocAttr]
   simp [QW, QJ, frzL, QH, frzL_T _ (Qy _ _), il, hL]
 ·simp only [Jm, h] at hR'
  rw [if_neg (by omega)] at hR'
  have hw : ((24 : Int) / 8).toNat = 3 := rfl
  simp only [JJ, hw, h]
  rw [if_neg (by omega)]
  have hL := XY 24 l
  have hT := fun i => @Qfx 24 l i
  rw [hw] at hL hT
  generalize hS : Z3 24 l = S at *
  have m1 : (l.length : Int).tmod 3 = ((l.length % 3 : Nat) : Int) := by rw [Int.tmod_eq_emod_of_nonneg (by omega)]; omega
  have m2 : (l.length : Int).tdiv 3 = ((l.length / 3 : Nat) : Int) := by rw [Int.tdiv_eq_ediv_of_nonneg (by omega)]; omega
  simp (maxSteps := 4000000) (disch := omega) only [rq, simprocAttr, Zb, bs]
  refine Qa.vc hR' ?_
  by_cases h3 : l.length % 3 ≠ 0
  ·rw [if_pos h3]
   simp (maxSteps := 4000000) (disch := omega) only [rq, simprocAttr, m1]
   simp [QW, QJ, frzL, QH]
  rw [if_neg h3]
  have h3' : l.length % 3 = 0 := by omega
  by_cases h4 : 4000 < l.length / 3
  ·rw [if_pos h4]
   simp (maxSteps := 4000000) (disch := omega) only [rq, simprocAttr, m1, m2]
   simp [QW, QJ, frzL, QH]
  rw [if_neg h4]
  simp (maxSteps := 4000000) (disch := omega) only [rq, simprocAttr, m1, m2]
  refine QU.by (ι := Nat) (fun k => ⟨[(11, .int .i64 ((k * 3 : Nat) : Int)), (10, .own 0 k), (9, .int .i64 3), (0, .int .i64 24), (1, .list l.length (u8 l))], [⟨t0, 1, k, ks .i32 (S.take k), 0⟩]⟩) (fun k => k ≤ l.length / 3) (fun k => l.length / 3 - k) 0 (Le.trans (Le.virt 10 t0 1 (by omega) rfl) (Le.slots (by simp [Am.look]))) (by omega) ?_
  intro k hk
  have lk : (ks .i32 (S.take k)).length = k := by rw [Qe, List.length_take]; omega
  by_cases hlt : k < l.length / 3
  ·have eT := hT k hlt
   have g : k * 3 + 3 ≤ l.length := by omega
   rw [Qtr, QwF (by omega)] at eT
   have e0 := Qeh (l := l) (k := k * 3 + 0) (by omega)
   have b0 := (l[k * 3 + 0]).toNat_lt
   have e1 := Qeh (l := l) (k := k * 3 + 1) (by omega)
   have b1 := (l[k * 3 + 1]).toNat_lt
   have e2 := Qeh (l := l) (k := k * 3 + 2) (by omega)
   have b2 := (l[k * 3 + 2]).toNat_lt
   simp only [Nat.add_zero] at e0 b0
   generalize l[k * 3] = y0 at *
   generalize l[k * 3 + 1] = y1 at *
   generalize l[k * 3 + 2] = y2 at *
   generalize hat : k * 3 = at_ at *
   obtain ⟨X, hX⟩ : ∃ X, X = y0.toNat + y1.toNat * 256 := ⟨_, rfl⟩
   rw [← hX] at eT
   obtain ⟨Y, hY⟩ : ∃ Y, Y = X + y2.toNat * 65536 := ⟨_, rfl⟩
   rw [← hY] at eT
   simp (maxSteps := 4000000) (disch := omega) only [rq, simprocAttr]
   refine QU.by (ι := Nat) (fun j => ⟨[(54, .int .i64 j), (53, .int .i64 3), (12, .int .i32 (match j with | 0 => 0 | 1 => (y0.toNat : Int) | 2 => (X : Int) | _ => (Y : Int))), (11, .int .i64 (at_ : Int)), (10, .own 0 k), (9, .int .i64 3), (0, .int .i64 24), (1, .list l.length (u8 l))], [⟨t0, 1, k, ks .i32 (S.take k), 0⟩]⟩) (fun j => j ≤ 3) (fun j => 3 - j) 0 (Le.slots (by simp [Am.look])) (by omega) ?_
   intro j hj
   have o1 := @Qkf y0.toNat y1.toNat 8 (by omega) (by omega)
   rw [show y1.toNat * 2 ^ 8 = y1.toNat * 256 by rfl, ← hX] at o1
   have o2 := @Qkf X y2.toNat 16 (by omega) (by omega)
   rw [show y2.toNat * 2 ^ 16 = y2.toNat * 65536 by rfl, ← hY] at o2
   generalize hq2 : y2.toNat * 65536 = q2 at *
   generalize hq1 : y1.toNat * 256 = q1 at *
   have o0 : IntKind.i32.wrap (BitVec.ofInt IntKind.i32.bits 0 ||| BitVec.ofInt IntKind.i32.bits (y0.toNat : Int)).toNat = (y0.toNat : Int) := by
    have := @Qkf 0 y0.toNat 0 (by omega) (by omega)
    simpa using this
   have s0 : Qi true .i32 (y0.toNat : Int) 0 = some (.int .i32 (y0.toNat : Int)) := by simp [Qi]; rw [Qan] <;> omega
   have s1 : Qi true .i32 (y1.toNat : Int) 8 = some (.int .i32 (q1 : Int)) := by simp [Qi, IntKind.bits]; rw [Qan] <;> omega
   have s2 : Qi true .i32 (y2.toNat : Int) 16 = some (.int .i32 (q2 : Int)) := by simp [Qi, IntKind.bits]; rw [Qan] <;> omega
   have hj3 : j = 0 ∨ j = 1 ∨ j = 2 ∨ j = 3 := by omega
   rcases hj3 with rfl | rfl | rfl | rfl
   ·simp (maxSteps := 4000000) (disch := omega) only [rq, simprocAttr, e0, o0, s0]
    exact ⟨1, by omega, by omega, Le.slots (by simp [Am.look])⟩
   ·simp (maxSteps := 4000000) (disch := omega) only [rq, simprocAttr, e1, o1, s1]
    exact ⟨2, by omega, by omega, Le.slots (by simp [Am.look])⟩
   ·simp (maxSteps := 4000000) (disch := omega) only [rq, simprocAttr, e2, o2, s2]
    exact ⟨3, by omega, by omega, Le.slots (by simp [Am.look])⟩
   ·have z1 : ∀ x : Int, Qi true .i32 x 8 = some (.int .i32 (IntKind.i32.wrap (x * 256))) := fun x => rfl
    have z2 : ∀ x : Int, Qi false .i32 x 8 = some (.int .i32 (x.fdiv 256)) := fun x => rfl
    have z3 := Qvh (n := Y) (by omega)
    rw [show QjX 24 [] = 0 by decide, Int.zero_add] at z3
    rw [← z3] at eT
    have z4 : (IntKind.i32.wrap ((Y : Int) * 256)).fdiv 256 ≤ 2147483647 := by rw [z3]; split <;> omega
    have z5 : -2147483648 ≤ (IntKind.i32.wrap ((Y : Int) * 256)).fdiv 256 := by rw [z3]; split <;> omega
    simp (maxSteps := 4000000) (disch := omega) only [rq, simprocAttr, z1, z2, lk, Qim]
    rw [← eT, ← hat]
    exact ⟨k + 1, by omega, by omega, Le.drop1 (Qy _ _) (by simp [Am.look, QJ, frzL, QH, frzL_T _ (Qz _)]; try omega)⟩
  ·have ek : k = l.length / 3 := by omega
   subst ek
   have tS : S.take (l.length / 3) = S := List.take_of_length_le (by omega)
   have tw : l.length / 3 * 3 = l.length := by omega
   rw [tS, tw]
   simp (maxSteps := 4000000) (disch := omega) only [rq, simprocAttr]
   simp [QW, QJ, frzL, QH, frzL_T _ (Qy _ _), il, hL]
theorem Qog {x : Int} (hx : ZN x ≠ 0) {s : List UInt8} (hs : s.length = (x / 8).toNat) : -ZN x ≤ QjX x s ∧ QjX x s < ZN x := by
 have h1 := QtA s
 rw [hs] at h1
 rcases Q3 x with ⟨rfl, h⟩ | ⟨rfl, h⟩ | ⟨rfl, h⟩ | ⟨_, _, _, h⟩
 ·have e : (2 : Nat) ^ (8 * ((8 : Int) / 8).toNat) = 256 := by decide
  rw [e] at h1
  rw [Qve, h]; omega
 ·have e : (2 : Nat) ^ (8 * ((16 : Int) / 8).toNat) = 65536 := by decide
  rw [e] at h1
  rw [Qts, h]; split <;> omega
 ·have e : (2 : Nat) ^ (8 * ((24 : Int) / 8).toNat) = 16777216 := by decide
  rw [e] at h1
  rw [Qtr, h]; split <;> omega
 ·exact absurd h hx
theorem Qd6 {x : Int} (hx : ZN x ≠ 0) (l : List UInt8) : ∀ y ∈ Z3 x l, -ZN x ≤ y ∧ y < ZN x := by
 intro y hy
 simp only [Z3, List.mem_map, List.mem_range] at hy
 obtain ⟨i, hi, rfl⟩ := hy
 refine Qog hx ?_
 generalize (x / 8).toNat = w at *
 have h0 : 0 < w := by
  rcases Nat.eq_zero_or_pos w with h | h
  ·subst h; simp at hi
  ·exact h
 have : (i + 1) * w ≤ l.length := Nat.le_trans (Nat.mul_le_mul_right w (by omega : i + 1 ≤ l.length / w)) (Nat.div_mul_le_self _ _)
 rw [Nat.add_mul, Nat.one_mul] at this
 rw [List.length_take, List.length_drop]
 omega
theorem QhY {x : Int} (hx : ZN x ≠ 0) (l : List UInt8) : I32 (Z3 x l) := by
 intro y hy
 have h1 := Qd6 hx l y hy
 rcases Q3 x with ⟨_, h⟩ | ⟨_, h⟩ | ⟨_, h⟩ | ⟨_, _, _, h⟩ <;> omega
theorem Qcx {w n : Nat} (h : n < 2 ^ w) : BitVec.ofInt w (n : Int) = BitVec.ofNat w n := by
 apply BitVec.eq_of_toNat_eq
 rw [BitVec.toNat_ofInt, BitVec.toNat_ofNat]
 omega
theorem Qe5 {K : IntKind} (hs : K.signed = false) {n : Nat} (h : n < 2 ^ K.bits) : K.wrap (n : Int) = n := by
 have h1 : (n : Int) % 2 ^ K.bits = n := by
  rw [Int.emod_eq_of_lt (by omega)]
  exact_mod_cast h
 unfold IntKind.wrap
 simp [hs, h1]
theorem Qr7 {K : IntKind} (hs : K.signed = false) {a b : Nat} (ha : a < 2 ^ K.bits) (hb : b < 2 ^ K.bits) : K.wrap (BitVec.ofInt K.bits (a : Int) ^^^ BitVec.ofInt K.bits (b : Int)).toNat = ((a ^^^ b : Nat) : Int) := by
 rw [Qcx ha, Qcx hb, BitVec.toNat_xor, BitVec.toNat_ofNat, BitVec.toNat_ofNat, Nat.mod_eq_of_lt ha, Nat.mod_eq_of_lt hb]
 exact Qe5 hs (Nat.xor_lt_two_pow ha hb)
theorem Qwk {K : IntKind} (hs : K.signed = false) {a b : Nat} (ha : a < 2 ^ K.bits) (hb : b < 2 ^ K.bits) : K.wrap (BitVec.ofInt K.bits (a : Int) &&& BitVec.ofInt K.bits (b : Int)).toNat = ((a &&& b : Nat) : Int) := by
 rw [Qcx ha, Qcx hb, BitVec.toNat_and, BitVec.toNat_ofNat, BitVec.toNat_ofNat, Nat.mod_eq_of_lt ha, Nat.mod_eq_of_lt hb]
 exact Qe5 hs (Nat.and_lt_two_pow _ hb)
theorem orK {K : IntKind} (hs : K.signed = false) {a b : Nat} (ha : a < 2 ^ K.bits) (hb : b < 2 ^ K.bits) : K.wrap (BitVec.ofInt K.bits (a : Int) ||| BitVec.ofInt K.bits (b : Int)).toNat = ((a ||| b : Nat) : Int) := by
 rw [Qcx ha, Qcx hb, BitVec.toNat_or, BitVec.toNat_ofNat, BitVec.toNat_ofNat, Nat.mod_eq_of_lt ha, Nat.mod_eq_of_lt hb]
 exact Qe5 hs (Nat.or_lt_two_pow ha hb)
theorem QlN {K : IntKind} {n k : Nat} (hk : k ≤ K.bits) : Qi false K (n : Int) (k : Int) = some (.int K ((n / 2 ^ k : Nat) : Int)) := by
 have h3 : ¬ ((k : Int) < 0) := by omega
 have h5 : min k K.bits = k := by omega
 have h6 : (n : Int).fdiv (2 ^ k) = ((n / 2 ^ k : Nat) : Int) := by
  rw [Int.fdiv_eq_ediv_of_nonneg _ (Int.pow_nonneg (by decide))]
  simp [Int.natCast_ediv, Int.natCast_pow]
 simp only [Qi, if_neg h3, Bool.false_eq_true, if_false, Int.toNat_natCast, h5, h6]
theorem Qr0 {K : IntKind} (hs : K.signed = false) {c s : Nat} (h : s ≤ K.bits) (h2 : c * 2 ^ s < 2 ^ K.bits) : Qi true K (c : Int) (s : Int) = some (.int K ((c * 2 ^ s : Nat) : Int)) := by
 have h3 : ¬ ((s : Int) < 0) := by omega
 have h5 : min s K.bits = s := by omega
 have h6 : (c : Int) * 2 ^ s = ((c * 2 ^ s : Nat) : Int) := by simp
 simp only [Qi, if_neg h3, if_true, Int.toNat_natCast, h5, h6]
 rw [Qe5 hs h2]
def Qta (c : Nat) : Nat := (c / 2) ^^^ (if c % 2 = 1 then 3988292384 else 0)
def Qfh : Nat → Nat → Nat
 | 0, c => c
 | k + 1, c => Qfh k (Qta c)
theorem QuQ {c : Nat} (h : c < 4294967296) : Qta c < 4294967296 := by
 unfold Qta
 have : (if c % 2 = 1 then 3988292384 else 0) < 2 ^ 32 := by split <;> decide
 exact Nat.xor_lt_two_pow (n := 32) (by omega) this
theorem QiF : ∀ (k : Nat) {c : Nat}, c < 4294967296 → Qfh k c < 4294967296
 | 0, _, h => h
 | k + 1, _, h => QiF k (QuQ h)
theorem QkM : ∀ (k c : Nat), Qfh (k + 1) c = Qta (Qfh k c)
 | 0, _ => rfl
 | k + 1, c => by rw [Qfh, QkM k, Qfh]
theorem Qs9 (x h : Nat) : Qta (x ^^^ 2 * h) = Qta x ^^^ h := by
 have e1 : (x ^^^ 2 * h) % 2 = x % 2 := by
  have := Nat.xor_mod_two_pow (a := x) (b := 2 * h) (n := 1)
  simpa using this
 have e2 : (x ^^^ 2 * h) / 2 = x / 2 ^^^ h := by rw [Nat.xor_div_two, Nat.mul_div_cancel_left _ (by omega)]
 unfold Qta
 rw [e1, e2, Nat.xor_assoc, Nat.xor_assoc, Nat.xor_comm h]
theorem QnM : ∀ (k x h : Nat), Qfh k (x ^^^ 2 ^ k * h) = Qfh k x ^^^ h
 | 0, x, h => by simp [Qfh]
 | k + 1, x, h => by
  rw [Qfh, Nat.pow_succ, Nat.mul_comm (2 ^ k) 2, Nat.mul_assoc, Qs9, QnM k, Qfh]
theorem QjA (b k : Nat) : b = b % 2 ^ k ^^^ 2 ^ k * (b / 2 ^ k) := by
 apply Nat.eq_of_testBit_eq
 intro i
 rw [Nat.testBit_xor, Nat.testBit_mod_two_pow, Nat.testBit_two_pow_mul, Nat.testBit_div_two_pow]
 by_cases h : i < k
 ·have : ¬ k ≤ i := by omega
  simp [h, this]
 ·have h' : k ≤ i := by omega
  simp [h, h', show i - k + k = i by omega]
def QvA (s b : Nat) : Nat := Qfh 8 (s ^^^ b)
theorem QoO (s b : Nat) : QvA s b = s / 256 ^^^ Qfh 8 (s % 256 ^^^ b) := by
 have h : s ^^^ b = (s % 256 ^^^ b) ^^^ 2 ^ 8 * (s / 256) := by
  have := QjA s 8
  rw [show (2 : Nat) ^ 8 = 256 from rfl] at this ⊢
  rw [Nat.xor_assoc, Nat.xor_comm b, ← Nat.xor_assoc, ← this]
 rw [QvA, h, QnM, Nat.xor_comm]
theorem QuR {s b : Nat} (hs : s < 4294967296) (hb : b < 256) : QvA s b < 4294967296 := QiF 8 (Nat.xor_lt_two_pow (n := 32) (by omega) (by omega))
def Qpe (s : Nat) (l : List UInt8) : Nat := l.foldl (fun s b => QvA s b.toNat) s
theorem Qra {s : Nat} {l : List UInt8} {k : Nat} (h : k < l.length) : Qpe s (l.take (k + 1)) = QvA (Qpe s (l.take k)) (l[k]).toNat := by
 rw [List.take_succ_eq_append_getElem h, Qpe, List.foldl_append]; rfl
theorem QmA : ∀ {l : List UInt8} {s : Nat}, s < 4294967296 → Qpe s l < 4294967296
 | [], _, h => h
 | b :: l, s, h => QmA (l := l) (QuR h (UInt8.toNat_lt b))
def QjV (i : Nat) : List Int := (List.range 256).map fun j => if j < i then ((Qfh 8 j : Nat) : Int) else 0
theorem Xr (i : Nat) : (QjV i).length = 256 := by simp [QjV]
theorem Qe8 {i j : Nat} (h : j < 256) : (QjV i)[j]'(by rw [Xr]; exact h) = if j < i then ((Qfh 8 j : Nat) : Int) else 0 := by simp [QjV]
theorem Qse {i : Nat} (h : i < 256) : (QjV i).set i ((Qfh 8 i : Nat) : Int) = QjV (i + 1) := by
 refine List.ext_getElem (by simp [Xr]) fun j h1 h2 => ?_
 have hj : j < 256 := by simpa [Xr] using h2
 rw [List.getElem_set, Qe8 hj]
 split
 ·rename_i e; subst e; rw [Qe8 hj, if_pos (by omega)]
 ·rename_i e; rw [Qe8 hj]
  by_cases h3 : j < i
  ·rw [if_pos h3, if_pos (by omega)]
  ·rw [if_neg h3, if_neg (by omega)]
def Qm3 (P : Prg) (f : Nat) : Prop := VC P f [] (.cell (ks .u32 (QjV 256)))
theorem QeB {l : List UInt8} {k : Nat} (h : k < l.length) : (u8 l).drop k = .int .u8 (l[k]).toNat :: u8 (l.drop (k + 1)) := by
 rw [QhW, List.drop_eq_getElem_cons h]; rfl
set_option maxRecDepth 40000 in
theorem QmC {P : Prg} {f t0 : Nat} (bd : Qd P f 24 [.tmp 0] (QaQ t0)) : Qm3 P f := by
 refine VC.of_walk 1 rfl (by simp [isD, Qqv (Qy _ _)]) (ACall.of_body bd (by simp) ?_)
 unfold QaQ
 have z0 : ([.int .u32 0, .int .u32 0] : List AV) = [.int .u32 0, .int .u32 0] := rfl
 simp (maxSteps := 4000000) (disch := omega) only [rq, simprocAttr]
 refine QU.by (ι := Nat) (fun i => ⟨[(5, .int .i64 i), (1, .ref 0 1 0)], [⟨t0, 256, 1, ks .u32 (QjV i), 0⟩]⟩) (fun i => i ≤ 256) (fun i => 256 - i) 0 (Le.slots (by simp [Am.look])) (by omega) ?_
 intro i hi
 by_cases hlt : i < 256
 ·simp (maxSteps := 4000000) (disch := omega) only [rq, simprocAttr]
  refine QU.by (ι := Nat) (fun j => ⟨[(10, .int .i64 j), (3, .int .u32 (Qfh j i)), (5, .int .i64 i), (2, .int .i64 i), (1, .ref 0 1 0)], [⟨t0, 256, 1, ks .u32 (QjV i), 0⟩]⟩) (fun j => j ≤ 8) (fun j => 8 - j) 0 (Le.slots (by simp [Am.look, Qfh])) (by omega) ?_
  intro j hj
  by_cases hjl : j < 8
  ·have hc := QiF j (c := i) (by omega)
   have hn := QkM j i
   generalize Qfh j i = c at *
   have a1 : IntKind.u32.wrap (BitVec.ofInt IntKind.u32.bits (c : Int) &&& BitVec.ofInt IntKind.u32.bits 1).toNat = ((c % 2 : Nat) : Int) := by
    have h := Qwk (K := .u32) rfl (a := c) (b := 1) (by exact hc) (by decide)
    rw [Nat.and_one_is_mod] at h
    exact h
   have a2 : Qi false .u32 (c : Int) 1 = some (.int .u32 ((c / 2 : Nat) : Int)) := QlN (K := .u32) (n := c) (k := 1) (by decide)
   rcases Nat.mod_two_eq_zero_or_one c with h2 | h2
   ·have a3 : IntKind.u32.wrap (BitVec.ofInt IntKind.u32.bits ((c / 2 : Nat) : Int) ^^^ BitVec.ofInt IntKind.u32.bits 0).toNat = ((Qfh (j + 1) i : Nat) : Int) := by
     rw [hn, Qta, h2, if_neg (by decide)]
     exact Qr7 (K := .u32) rfl (a := c / 2) (b := 0) (by show c / 2 < 4294967296; omega) (by decide)
    have a1' : IntKind.u32.wrap (BitVec.ofInt IntKind.u32.bits (c : Int) &&& BitVec.ofInt IntKind.u32.bits 1).toNat = 0 := by rw [a1, h2]; rfl
    simp (maxSteps := 4000000) (disch := omega) only [rq, simprocAttr, a1', a2, a3]
    exact ⟨j + 1, by omega, by omega, Le.slots (by simp [Am.look])⟩
   ·have a3 : IntKind.u32.wrap (BitVec.ofInt IntKind.u32.bits ((c / 2 : Nat) : Int) ^^^ BitVec.ofInt IntKind.u32.bits 3988292384).toNat = ((Qfh (j + 1) i : Nat) : Int) := by
     rw [hn, Qta, h2, if_pos rfl]
     exact Qr7 (K := .u32) rfl (a := c / 2) (b := 3988292384) (by show c / 2 < 4294967296; omega) (by decide)
    have a1' : IntKind.u32.wrap (BitVec.ofInt IntKind.u32.bits (c : Int) &&& BitVec.ofInt IntKind.u32.bits 1).toNat = 1 := by rw [a1, h2]; rfl
    simp (maxSteps := 4000000) (disch := omega) only [rq, simprocAttr, a1', a2, a3]
    exact ⟨j + 1, by omega, by omega, Le.slots (by simp [Am.look])⟩
  ·obtain rfl : j = 8 := by omega
   have e1 := Xr i
   have e2 := Qe .u32 (QjV i)
   have e3 : (ks .u32 (QjV i)).take i ++ [.int .u32 (Qfh 8 i)] ++ (ks .u32 (QjV i)).drop (i + 1) = ks .u32 (QjV (i + 1)) := by
    rw [← Qse hlt, List.set_eq_take_append_cons_drop, if_pos (by rw [Xr]; exact hlt)]; simp [ks, List.map_take, List.map_drop]
   simp (maxSteps := 4000000) (disch := omega) only [rq, simprocAttr, e1, e2, e3]
   exact ⟨i + 1, by omega, by omega, Le.slots (by simp [Am.look])⟩
 ·obtain rfl : i = 256 := by omega
  simp (maxSteps := 4000000) (disch := omega) only [rq, simprocAttr]
  simp [QW, QJ, frzL, QH, frzL_T _ (Qy _ _)]
def Qnd (P : Prg) (f : Nat) : Prop := ∀ (s : Nat) (l : List UInt8), s < 4294967296 → VC P f [.int .u32 s, bs l] (if 100000 < l.length then .tup [.int .u32 0, .int .i64 4] else .tup [.int .u32 (Qpe s l), .int .i64 0])
set_option maxRecDepth 40000 in
theorem QoQ {P : Prg} {f fT : Nat} (bd : Qd P f 32 [.tmp 4, .tmp 5] (JT fT)) (hT : Qm3 P fT) : Qnd P f := by
 intro s l hs
 refine VC.of_acall (by simp [isDL, isD, QQ]) (by split <;> rfl) (ACall.of_body bd (by simp) ?_)
 by_cases hl : 100000 < l.length
 ·rw [if_pos hl]
  simp (maxSteps := 4000000) (disch := omega) only [rq, simprocAttr, JT, bs]
 ·rw [if_neg hl]
  have hT' := hT
  have t0 := Qe .u32 (QjV 256)
  rw [Xr] at t0
  simp (maxSteps := 4000000) (disch := omega) only [rq, simprocAttr, JT, bs]
  refine Qa.vc hT' ?_
  simp (maxSteps := 4000000) (disch := omega) only [rq, simprocAttr]
  refine QU.by (ι := Nat) (fun k => ⟨[(15, .int .i64 k), (14, .int .i64 l.length), (13, .list l.length (u8 l)), (6, .cell (ks .u32 (QjV 256))), (0, .int .u32 (Qpe s (l.take k)))], []⟩) (fun k => k ≤ l.length) (fun k => l.length - k) 0 (Le.slots (by simp [Am.look, Qpe])) (by omega) ?_
  intro k hk
  have hc := QmA (l := l.take k) hs
  by_cases hlt : k < l.length
  ·have e1 := QeB hlt
   have hn := Qra (s := s) hlt
   generalize Qpe s (l.take k) = c at *
   rw [QoO] at hn
   have hb := (l[k]).toNat_lt
   have h0 : (c % 256 ^^^ (l[k]).toNat) < 256 := Nat.xor_lt_two_pow (n := 8) (Nat.mod_lt _ (by decide)) hb
   have h1 := QiF 8 (c := c % 256 ^^^ (l[k]).toNat) (by omega)
   have a1 : Qi false .u32 (c : Int) 8 = some (.int .u32 ((c / 256 : Nat) : Int)) := QlN (K := .u32) (n := c) (k := 8) (by decide)
   have a2 : IntKind.u8.wrap (c : Int) = ((c % 256 : Nat) : Int) := by rw [QcW]; omega
   have a3 : IntKind.u8.wrap (BitVec.ofInt IntKind.u8.bits ((c % 256 : Nat) : Int) ^^^ BitVec.ofInt IntKind.u8.bits ((l[k]).toNat : Int)).toNat = ((c % 256 ^^^ (l[k]).toNat : Nat) : Int) :=
    Qr7 (K := .u8) rfl (a := c % 256) (b := (l[k]).toNat) (Nat.mod_lt _ (by decide)) hb
   have a4 : IntKind.u32.wrap (BitVec.ofInt IntKind.u32.bits ((c / 256 : Nat) : Int) ^^^ BitVec.ofInt IntKind.u32.bits ((Qfh 8 (c % 256 ^^^ (l[k]).toNat) : Nat) : Int)).toNat = ((Qpe s (l.take (k + 1)) : Nat) : Int) := by
    rw [hn]; exact Qr7 (K := .u32) rfl (by show c / 256 < 4294967296; omega) h1
   generalize c % 256 ^^^ (l[k]).toNat = x at *
   have e2 : (ks .u32 (QjV 256)).drop x = .int .u32 ((Qfh 8 x : Nat) : Int) :: ks .u32 ((QjV 256).drop (x + 1)) := by
    rw [Qbl, List.drop_eq_getElem_cons (by rw [Xr]; exact h0), QfL, Qe8 h0, if_pos h0]
   simp (maxSteps := 4000000) (disch := omega) only [rq, simprocAttr, e1, a1, a2, a3, a4, e2, t0]
   exact ⟨k + 1, by omega, by omega, Le.slots (by simp [Am.look])⟩
  ·have ek : k = l.length := by omega
   subst ek
   rw [List.take_length]
   simp (maxSteps := 4000000) (disch := omega) only [rq, simprocAttr]
def Qhu (P : Prg) (f : Nat) : Prop := ∀ (l : List UInt8), VC P f [bs l] (if 100000 < l.length then .tup [.int .u32 0, .int .i64 4] else .tup [.int .u32 ((4294967295 - Qpe 4294967295 l : Nat) : Int), .int .i64 0])
theorem QtR {c : Nat} (h : c < 4294967296) : 4294967295 ^^^ c = 4294967295 - c := by
 have h1 : BitVec.allOnes 32 ^^^ BitVec.ofNat 32 c = ~~~ BitVec.ofNat 32 c := by
  apply BitVec.eq_of_getElem_eq
  intro i hi
  rw [BitVec.getElem_xor, BitVec.getElem_allOnes, BitVec.getElem_not, Bool.true_xor]
 have h2 := congrArg BitVec.toNat h1
 rw [BitVec.toNat_xor, BitVec.toNat_not, BitVec.toNat_allOnes, BitVec.toNat_ofNat, Nat.mod_eq_of_lt h] at h2
 exact h2
theorem Qrc {P : Prg} {f fN : Nat} (bd : Qd P f 16 [.tmp 2, .tmp 3] (QaA fN)) (hN : Qnd P fN) : Qhu P f := by
 intro l
 refine VC.of_acall (by simp [isDL, isD, QQ]) (by split <;> rfl) (ACall.of_body bd (by simp) ?_)
 have hN' := hN 4294967295 l (by decide)
 have hc := QmA (l := l) (s := 4294967295) (by decide)
 generalize Qpe 4294967295 l = c at *
 simp only [bs] at hN'
 by_cases hl : 100000 < l.length
 ·rw [if_pos hl] at hN' ⊢
  simp (maxSteps := 4000000) (disch := omega) only [rq, simprocAttr, QaA, bs]
  refine Qa.vc hN' ?_
  simp (maxSteps := 4000000) (disch := omega) only [rq, simprocAttr]
 ·rw [if_neg hl] at hN' ⊢
  have a1 : IntKind.u32.wrap (BitVec.ofInt IntKind.u32.bits IntKind.u32.max ^^^ BitVec.ofInt IntKind.u32.bits (c : Int)).toNat = ((4294967295 - c : Nat) : Int) := by
   rw [← QtR hc]
   exact Qr7 (K := .u32) rfl (a := 4294967295) (b := c) (by decide) hc
  have a2 : IntKind.u32.signed = false := rfl
  simp (maxSteps := 4000000) (disch := omega) only [rq, simprocAttr, QaA, bs]
  refine Qa.vc hN' ?_
  simp (maxSteps := 4000000) (disch := omega) only [rq, simprocAttr, a1, a2]
def nB (N : Nat) : Nat := (N + 7) / 8
theorem QsN (V i : Nat) : leB V (i + 1) = leB V i ++ [UInt8.ofNat (V / 256 ^ i % 256)] := by
 have h1 : (leB V (i + 1)).take (i + 1) = (leB V (i + 1)).take i ++ [UInt8.ofNat (V / 256 ^ i % 256)] := QdH (by omega)
 have h2 : ∀ k j n : Nat, k ≤ j → (leB n j).take k = leB n k := by
  intro k
  induction k with
  | zero => intro j n _; simp [leB]
  | succ k ih =>
   intro j n h
   obtain ⟨j, rfl⟩ : ∃ j', j = j' + 1 := ⟨j - 1, by omega⟩
   simp [leB, ih j (n / 256) (by omega)]
 rw [h2 (i + 1) (i + 1) V (by omega), h2 i (i + 1) V (by omega)] at h1
 exact h1
theorem Qqr : ∀ (i V u : Nat), leB (V + 256 ^ i * u) i = leB V i
 | 0, _, _ => rfl
 | i + 1, V, u => by
  have e : 256 ^ (i + 1) * u = 256 * (256 ^ i * u) := by rw [Nat.pow_succ, Nat.mul_comm (256 ^ i) 256, Nat.mul_assoc]
  have e1 : (V + 256 ^ (i + 1) * u) % 256 = V % 256 := by rw [e]; omega
  have e2 : (V + 256 ^ (i + 1) * u) / 256 = V / 256 + 256 ^ i * u := by rw [e]; omega
  simp only [leB, e1, e2, Qqr i]
theorem Qqa (i : Nat) : (256 : Nat) ^ i = 2 ^ (8 * i) := by rw [Nat.pow_mul]
theorem Qb5 {V i at_ : Nat} (h : V < 2 ^ (8 * i + at_)) (ha : at_ ≤ 8) : leB V (i + 1) = leB V i ++ [UInt8.ofNat (V / 256 ^ i)] ∧ V / 256 ^ i < 2 ^ at_ := by
 have h1 : V / 256 ^ i < 2 ^ at_ := Nat.div_lt_of_lt_mul (by rw [Qqa, ← Nat.pow_add]; exact h)
 have h2 : 2 ^ at_ ≤ 2 ^ 8 := Nat.pow_le_pow_right (by omega) ha
 exact ⟨by rw [QsN, Nat.mod_eq_of_lt (by omega)], h1⟩
theorem QcS {V i at_ w r : Nat} (h : V < 2 ^ (8 * i + at_)) (hw : w < 2 ^ r) (hr : at_ + r ≤ 8) :
  leB (V + 2 ^ (8 * i + at_) * w) (i + 1) = leB V i ++ [UInt8.ofNat (V / 256 ^ i + 2 ^ at_ * w)] ∧ V / 256 ^ i + 2 ^ at_ * w < 2 ^ (at_ + r) ∧ V + 2 ^ (8 * i + at_) * w < 2 ^ (8 * i + (at_ + r)) := by
 obtain ⟨_, h1⟩ := Qb5 h (by omega)
 have e : 2 ^ (8 * i + at_) * w = 256 ^ i * (2 ^ at_ * w) := by rw [Qqa, Nat.pow_add, Nat.mul_assoc]
 have h2 : V / 256 ^ i + 2 ^ at_ * w < 2 ^ (at_ + r) := by
  have : 2 ^ at_ * (w + 1) ≤ 2 ^ at_ * 2 ^ r := Nat.mul_le_mul_left _ hw
  rw [Nat.pow_add]; rw [Nat.mul_add, Nat.mul_one] at this; omega
 have h3 : V + 2 ^ (8 * i + at_) * w < 2 ^ (8 * i + (at_ + r)) := by
  have : 2 ^ (8 * i + at_) * (w + 1) ≤ 2 ^ (8 * i + at_) * 2 ^ r := Nat.mul_le_mul_left _ hw
  rw [← Nat.add_assoc, Nat.pow_add 2 (8 * i + at_)]; rw [Nat.mul_add, Nat.mul_one] at this; omega
 refine ⟨?_, h2, h3⟩
 have h4 := (Qb5 (V := V + 2 ^ (8 * i + at_) * w) (i := i) (at_ := at_ + r) h3 hr).1
 rw [h4, e, Qqr, Nat.add_mul_div_left _ _ (Nat.pow_pos (by omega))]
theorem QvG (V q r : Nat) (hr : r < 8) : V / 256 ^ q % 256 / 2 ^ r % 2 = V / 2 ^ (8 * q + r) % 2 := by
 rw [Qqa, show (256 : Nat) = 2 ^ r * 2 ^ (8 - r) by rw [← Nat.pow_add, show r + (8 - r) = 8 by omega], Nat.mod_mul_right_div_self, Nat.div_div_eq_div_mul, ← Nat.pow_add]
 rw [Nat.mod_mod_of_dvd]
 exact ⟨2 ^ (8 - r - 1), by rw [← Nat.pow_succ']; congr 1; omega⟩
def bA (N V : Nat) : AV := .agg [.list (nB N) (u8 (leB V (nB N))), .int .i64 N]
theorem QdI (N V : Nat) : isD (bA N V) = true := by simp [bA, isD, isDL, QX]
theorem QnW {n : Nat} (h : n < 9223372036854775808) : IntKind.i64.wrap (BitVec.ofInt IntKind.i64.bits (n : Int) &&& BitVec.ofInt IntKind.i64.bits 7).toNat = ((n % 8 : Nat) : Int) := by
 have e1 : (BitVec.ofInt 64 (n : Int)).toNat = n := by
  rw [BitVec.toNat_ofInt]
  show ((n : Int) % 18446744073709551616).toNat = n
  omega
 have e2 : (BitVec.ofInt 64 7).toNat = 7 := by decide
 have : (BitVec.ofInt 64 (n : Int) &&& BitVec.ofInt 64 7).toNat = n % 8 := by
  rw [BitVec.toNat_and, e1, e2]
  exact Nat.and_two_pow_sub_one_eq_mod n 3
 show IntKind.i64.wrap ((BitVec.ofInt 64 (n : Int) &&& BitVec.ofInt 64 7).toNat : Int) = _
 rw [this, Qa8] <;> omega
theorem Qu7 {l : List UInt8} {k : Nat} (h : k < l.length) : (u8 l).drop k = .int .u8 (l[k]).toNat :: u8 (l.drop (k + 1)) := by
 rw [QhW, List.drop_eq_getElem_cons h]; rfl
theorem QtB {V k i : Nat} (h : i < k) : (u8 (leB V k)).drop i = .int .u8 ((V / 256 ^ i % 256 : Nat) : Int) :: u8 ((leB V k).drop (i + 1)) := by
 rw [Qu7 (by rw [Qb]; exact h)]
 have := Ql8 k V i h
 rw [List.getElem?_eq_getElem (by rw [Qb]; exact h)] at this
 rw [Option.some.inj this]
 have : (UInt8.ofNat (V / 256 ^ i % 256)).toNat = V / 256 ^ i % 256 := by simp
 rw [this]
def Qcy (P : Prg) (f : Nat) : Prop := ∀ N V : Nat, V < 2 ^ N → N ≤ 330000 → VC P f [bA N V] (.int .i64 0)
theorem Qo3 {P : Prg} {f t0 : Nat} (bd : Qd P f 40 [.tmp 2] (JU t0)) : Qcy P f := by
 intro N V hV hN
 refine VC.of_acall (by simp [isDL, QdI]) rfl (ACall.of_body bd (by simp) ?_)
 have e1 : Qi false .i64 ((N : Int) + 7) 3 = some (.int .i64 ((nB N : Nat) : Int)) := by
  rw [show (N : Int) + 7 = ((N + 7 : Nat) : Int) by omega]
  exact QlN (K := .i64) (n := N + 7) (k := 3) (by decide)
 have e2 := QnW (n := N) (by omega)
 have e3 : (u8 (leB V (nB N))).length = nB N := by simp [u8, Qb]
 by_cases h0 : N % 8 = 0
 ·rw [h0] at e2
  have e2' : IntKind.i64.wrap (BitVec.ofInt IntKind.i64.bits (N : Int) &&& BitVec.ofInt IntKind.i64.bits 7).toNat = 0 := e2
  simp (maxSteps := 4000000) (disch := omega) only [rq, simprocAttr, JU, bA, e1, e2', e3]
 ·have hn : nB N = N / 8 + 1 := by unfold nB; omega
  have h8 : N = 8 * (N / 8) + N % 8 := by omega
  obtain ⟨l1, l2⟩ := Qb5 (V := V) (i := N / 8) (at_ := N % 8) (by rw [← h8]; exact hV) (by omega)
  have e4 := QtB (V := V) (k := nB N) (i := N / 8) (by omega)
  have h256 : V / 256 ^ (N / 8) % 256 = V / 256 ^ (N / 8) := Nat.mod_eq_of_lt (by
   have : 2 ^ (N % 8) ≤ 2 ^ 8 := Nat.pow_le_pow_right (by omega) (by omega)
   omega)
  rw [h256] at e4
  have e5 : Qi false .u8 ((V / 256 ^ (N / 8) : Nat) : Int) ((N % 8 : Nat) : Int) = some (.int .u8 0) := by
   have := QlN (K := .u8) (n := V / 256 ^ (N / 8)) (k := N % 8) (by show N % 8 ≤ 8; omega)
   rw [this, Nat.div_eq_of_lt l2]; rfl
  have e6 : nB N - 1 = N / 8 := by omega
  have hq : ((N % 8 : Nat) : Int) = (N : Int) % 8 := by omega
  generalize V / 256 ^ (N / 8) = y at *
  obtain ⟨a, ha⟩ : ∃ a, a = N % 8 := ⟨_, rfl⟩
  rw [← ha] at e2 e5 hq
  simp (maxSteps := 4000000) (disch := omega) only [rq, simprocAttr, JU, bA, e1, e2, e3, e4, e5, e6]
structure Dl where
 k0 : Nat
 k1 : Nat
 s0 : Nat
 s1 : Nat
def dlC (d : Dl) : List AV := [.int .i64 d.k0, .int .i64 d.k1, .int .u64 d.s0, .int .u64 d.s1]
def dlA (d : Dl) : AV := .agg (dlC d)
def okD (d : Dl) : Prop := d.k0 ≤ 24 ∧ d.k1 ≤ 24 ∧ d.s0 ≤ 68719476735 ∧ d.s1 ≤ 68719476735
def QK : Dl := ⟨10, 10, 16384, 16384⟩
def QbG (k s n : Nat) : Nat × Nat :=
 if 0 < k ∧ s + n - s / 16 < 2 ^ (k + 4) then (k - 1, s + n - s / 16) else if k < 24 ∧ 2 ^ (k + 5) < s + n - s / 16 then (k + 1, s + n - s / 16) else (k, s + n - s / 16)
def JF (d : Dl) (v : Nat) : Dl :=
 if v < 2 ^ d.k0 then ⟨(QbG d.k0 d.s0 v).1, d.k1, (QbG d.k0 d.s0 v).2, d.s1⟩
 else ⟨(QbG d.k0 d.s0 v).1, (QbG d.k1 d.s1 (v - 2 ^ d.k0)).1, (QbG d.k0 d.s0 v).2, (QbG d.k1 d.s1 (v - 2 ^ d.k0)).2⟩
theorem Ql2 {k s n : Nat} (hk : k ≤ 24) (hs : s ≤ 68719476735) (hn : n < 4294967296) : (QbG k s n).1 ≤ 24 ∧ (QbG k s n).2 ≤ 68719476735 := by
 unfold QbG
 have ht : s + n - s / 16 ≤ 68719476735 := by omega
 generalize s + n - s / 16 = t at *
 split
 ·exact ⟨by simp only; omega, ht⟩
 ·split
  ·rename_i h; exact ⟨by have := h.1; simp only; omega, ht⟩
  ·exact ⟨hk, ht⟩
theorem QsL {d : Dl} {v : Nat} (h : okD d) (hv : v < 4294967296) : okD (JF d v) := by
 obtain ⟨h1, h2, h3, h4⟩ := h
 have p0 := Ql2 h1 h3 hv
 have p1 := Ql2 (n := v - 2 ^ d.k0) h2 h4 (Nat.lt_of_le_of_lt (Nat.sub_le _ _) hv)
 unfold JF
 split
 ·exact ⟨p0.1, h2, p0.2, h4⟩
 ·exact ⟨p0.1, p1.1, p0.2, p1.2⟩
theorem Qsh : okD QK := by unfold okD QK; decide
theorem Qqy (d : Dl) : isD (dlA d) = true := rfl
theorem p24 {k : Nat} (h : k ≤ 24) : 2 ^ k ≤ 16777216 ∧ 2 ^ (k + 4) = 16 * 2 ^ k ∧ 2 ^ (k + 5) = 32 * 2 ^ k := by
 have := Nat.pow_le_pow_right (n := 2) (by omega) h
 refine ⟨by simpa using this, ?_, ?_⟩ <;> rw [Nat.pow_add, Nat.mul_comm]
def Qjc (P : Prg) (f : Nat) : Prop := VC P f [] (dlA QK)
theorem QoM {P : Prg} {f t0 : Nat} (bd : Qd P f 2 [.cell 0 t0] (Qbx t0)) (ht : ZQ P t0 = some (some 4)) : Qjc P f := by
 refine VC.of_acall rfl rfl (ACall.of_body bd (by simp) ?_)
 simp (maxSteps := 4000000) (disch := omega) only [rq, simprocAttr, Qbx, ZR, ht, Q6, dlA, dlC, QK]
 try rfl
def Qjr (P : Prg) (f : Nat) : Prop := ∀ d : Dl, okD d → VC P f [dlA d] (.int .i64 0)
theorem QoN {P : Prg} {f t0 : Nat} (bd : Qd P f 26 [.tmp 2] (Qby t0)) : Qjr P f := by
 intro d h
 obtain ⟨k0, k1, s0, s1⟩ := d
 obtain ⟨h1, h2, h3, h4⟩ := h
 simp only at h1 h2 h3 h4
 refine VC.of_acall rfl rfl (ACall.of_cut 1 bd (by simp) ?_)
 simp (maxSteps := 4000000) (disch := omega) only [rq, simprocAttr, Qby, dlA, dlC, QaE]
 refine ⟨⟨[(2, .int .i64 0), (1, .cell [.int .i64 k0, .int .i64 k1, .int .u64 s0, .int .u64 s1])], []⟩, Le.dropT [] (by simp) (by simp [Am.look, QJ, frzL, QH]), ?_⟩
 simp (maxSteps := 4000000) (disch := omega) only [rq, simprocAttr]
def Qgj (P : Prg) (f : Nat) : Prop := ∀ (d : Dl) (v : Nat), okD d → v < 4294967296 → VC P f [dlA d, .int .u32 v] (if v < 2 ^ d.k0 then .tup [.int .i64 0, .int .u32 v] else .tup [.int .i64 1, .int .u32 ((v - 2 ^ d.k0 : Nat) : Int)])
theorem QoJ {P : Prg} {f t0 : Nat} (bd : Qd P f 17 [.tmp 4, .tmp 5] (JQ t0)) : Qgj P f := by
 intro d v h hv
 obtain ⟨k0, k1, s0, s1⟩ := d
 obtain ⟨h1, h2, h3, h4⟩ := h
 simp only at h1 h2 h3 h4
 refine VC.of_acall rfl (by simp only; split <;> rfl) (ACall.of_body bd (by simp) ?_)
 have e1 : Qi false .u32 (v : Int) (k0 : Int) = some (.int .u32 ((v / 2 ^ k0 : Nat) : Int)) := QlN (K := .u32) (by show k0 ≤ 32; omega)
 obtain ⟨q1, _⟩ := p24 h1
 have e2 : Qi true .u32 1 (k0 : Int) = some (.int .u32 ((2 ^ k0 : Nat) : Int)) := by
  have := Qr0 (K := .u32) rfl (c := 1) (s := k0) (by show k0 ≤ 32; omega) (by show 1 * 2 ^ k0 < 4294967296; omega)
  rw [Nat.one_mul] at this
  exact this
 simp only
 by_cases c : v < 2 ^ k0
 ·rw [if_pos c]
  rw [Nat.div_eq_of_lt c] at e1
  have e1' : Qi false .u32 (v : Int) (k0 : Int) = some (.int .u32 0) := e1
  simp (maxSteps := 4000000) (disch := omega) only [rq, simprocAttr, JQ, dlA, dlC, e1']
 ·rw [if_neg c]
  have hpos : 0 < v / 2 ^ k0 := Nat.div_pos (by omega) (Nat.pow_pos (by omega))
  have hle : v / 2 ^ k0 ≤ v := Nat.div_le_self _ _
  have e3 : ((v - 2 ^ k0 : Nat) : Int) = (v : Int) - ((2 ^ k0 : Nat) : Int) := by omega
  generalize v / 2 ^ k0 = w at *
  generalize 2 ^ k0 = p at *
  simp (maxSteps := 4000000) (disch := omega) only [rq, simprocAttr, JQ, dlA, dlC, e1, e2, e3]
theorem Qef {P : Prg} {f : Nat} (bd : Qd P f 58 [] Qm) {ob : List Ob} {p : Nat} {t : Nat} {d : Dl} (hp : ob[p]? = some ⟨t, 4, 1, dlC d, 0⟩) (hd : okD d) {n : Nat} (hn : n < 4294967296) (b : Bool) {K : AV → List Ob → Prop}
  (hK : K (.tup []) (ob.set p ⟨t, 4, 1, dlC (if b then ⟨d.k0, (QbG d.k1 d.s1 n).1, d.s0, (QbG d.k1 d.s1 n).2⟩ else ⟨(QbG d.k0 d.s0 n).1, d.k1, (QbG d.k0 d.s0 n).2, d.s1⟩), 0⟩)) :
  ACall P f [.ref p 1 (if b then 1 else 0), .ref p 1 (if b then 3 else 2), .int .u32 n] ob K := by
 have hpl : p < ob.length := (List.getElem?_eq_some_iff.1 hp).1
 have g1 : ∀ x, (ob.set p x)[p]? = some x := fun x => by simp [hpl]
 have g2 : ∀ x y, (ob.set p x).set p y = ob.set p y := fun x y => List.set_set _
 have key : ∀ k s : Nat, k ≤ 24 → s ≤ 68719476735 → ∃ t p4 p5 : Nat, t ≤ 68719476735 ∧ IntKind.u64.wrap ((s : Int) + IntKind.u64.wrap ((n : Int) - ((s / 16 : Nat) : Int))) = (t : Int) ∧ Qi false .u64 (s : Int) 4 = some (.int .u64 ((s / 16 : Nat) : Int)) ∧
   Qi true .u64 16 (k : Int) = some (.int .u64 (p4 : Int)) ∧ Qi true .u64 32 (k : Int) = some (.int .u64 (p5 : Int)) ∧
   Qi true .u64 16 (k : Int) = some (.int .u64 (p4 : Int)) ∧ QbG k s n = if 0 < k ∧ t < p4 then (k - 1, t) else if k < 24 ∧ p5 < t then (k + 1, t) else (k, t) := by
  intro k s hk hs
  obtain ⟨q1, q2, q3⟩ := p24 hk
  refine ⟨s + n - s / 16, 2 ^ (k + 4), 2 ^ (k + 5), by omega, ?_, QlN (K := .u64) (k := 4) (by decide), ?_, ?_, ?_, rfl⟩
  ·rw [Xv, Xv]; omega
  ·rw [q2]; exact Qr0 (K := .u64) rfl (c := 16) (by show k ≤ 64; omega) (by show 16 * 2 ^ k < 18446744073709551616; omega)
  ·rw [q3]; exact Qr0 (K := .u64) rfl (c := 32) (by show k ≤ 64; omega) (by show 32 * 2 ^ k < 18446744073709551616; omega)
  ·rw [q2]; exact Qr0 (K := .u64) rfl (c := 16) (by show k ≤ 64; omega) (by show 16 * 2 ^ k < 18446744073709551616; omega)
 obtain ⟨k0, k1, s0, s1⟩ := d
 obtain ⟨h1, h2, h3, h4⟩ := hd
 simp only at h1 h2 h3 h4
 refine ACall.of_body bd (by simp) ?_
 simp only [dlC] at hp hK
 cases b with
 | false =>
  obtain ⟨u, p4, p5, hu, e1, e2, e3, e4, _, e5⟩ := key k0 s0 h1 h3
  simp only [e5, Bool.false_eq_true, if_false] at hK ⊢
  by_cases c1 : 0 < k0
  ·by_cases c2 : u < p4
   ·rw [if_pos ⟨c1, c2⟩] at hK
    have e6 : ((k0 - 1 : Nat) : Int) = (k0 : Int) - 1 := by omega
    simp only [e6] at hK
    simp (maxSteps := 4000000) (disch := omega) only [rq, simprocAttr, Qm, hp, g1, g2, e1, e2, e3, e4, e6]
    exact hK
   ·rw [if_neg (fun h => c2 h.2)] at hK
    by_cases c3 : k0 < 24
    ·by_cases c4 : p5 < u
     ·rw [if_pos ⟨c3, c4⟩] at hK
      simp only [Int.natCast_add] at hK
      simp (maxSteps := 4000000) (disch := omega) only [rq, simprocAttr, Qm, hp, g1, g2, e1, e2, e3, e4]
      exact hK
     ·rw [if_neg (fun h => c4 h.2)] at hK
      simp (maxSteps := 4000000) (disch := omega) only [rq, simprocAttr, Qm, hp, g1, g2, e1, e2, e3, e4]
      exact hK
    ·rw [if_neg (fun h => c3 h.1)] at hK
     simp (maxSteps := 4000000) (disch := omega) only [rq, simprocAttr, Qm, hp, g1, g2, e1, e2, e3, e4]
     exact hK
  ·rw [if_neg (fun h => c1 h.1)] at hK
   by_cases c4 : p5 < u
   ·rw [if_pos ⟨by omega, c4⟩] at hK
    simp only [Int.natCast_add] at hK
    simp (maxSteps := 4000000) (disch := omega) only [rq, simprocAttr, Qm, hp, g1, g2, e1, e2, e3, e4]
    exact hK
   ·rw [if_neg (fun h => c4 h.2)] at hK
    simp (maxSteps := 4000000) (disch := omega) only [rq, simprocAttr, Qm, hp, g1, g2, e1, e2, e3, e4]
    exact hK
 | true =>
  obtain ⟨u, p4, p5, hu, e1, e2, e3, e4, _, e5⟩ := key k1 s1 h2 h4
  simp only [e5, if_true] at hK ⊢
  by_cases c1 : 0 < k1
  ·by_cases c2 : u < p4
   ·rw [if_pos ⟨c1, c2⟩] at hK
    have e6 : ((k1 - 1 : Nat) : Int) = (k1 : Int) - 1 := by omega
    simp only [e6] at hK
    simp (maxSteps := 4000000) (disch := omega) only [rq, simprocAttr, Qm, hp, g1, g2, e1, e2, e3, e4, e6]
    exact hK
   ·rw [if_neg (fun h => c2 h.2)] at hK
    by_cases c3 : k1 < 24
    ·by_cases c4 : p5 < u
     ·rw [if_pos ⟨c3, c4⟩] at hK
      simp only [Int.natCast_add] at hK
      simp (maxSteps := 4000000) (disch := omega) only [rq, simprocAttr, Qm, hp, g1, g2, e1, e2, e3, e4]
      exact hK
     ·rw [if_neg (fun h => c4 h.2)] at hK
      simp (maxSteps := 4000000) (disch := omega) only [rq, simprocAttr, Qm, hp, g1, g2, e1, e2, e3, e4]
      exact hK
    ·rw [if_neg (fun h => c3 h.1)] at hK
     simp (maxSteps := 4000000) (disch := omega) only [rq, simprocAttr, Qm, hp, g1, g2, e1, e2, e3, e4]
     exact hK
  ·rw [if_neg (fun h => c1 h.1)] at hK
   by_cases c4 : p5 < u
   ·rw [if_pos ⟨by omega, c4⟩] at hK
    simp only [Int.natCast_add] at hK
    simp (maxSteps := 4000000) (disch := omega) only [rq, simprocAttr, Qm, hp, g1, g2, e1, e2, e3, e4]
    exact hK
   ·rw [if_neg (fun h => c4 h.2)] at hK
    simp (maxSteps := 4000000) (disch := omega) only [rq, simprocAttr, Qm, hp, g1, g2, e1, e2, e3, e4]
    exact hK
def bO (t o N : Nat) : Ob := ⟨t, 2, 1, [.own o (nB N), .int .i64 N], 0⟩
def bY (t N V : Nat) : Ob := ⟨t, 1, nB N, u8 (leB V (nB N)), 0⟩
theorem Qat (V n : Nat) : isDL (u8 (leB V n)) = true := QX _
theorem Low.put {ob : List Ob} (h : Low ob.length ob) {t t0 o p N V N' : Nat} (ho : o < ob.length) : Low ob.length (XV ob o p (bY t0 N V) (bO t o N')) := by
 unfold XV
 refine (h.set ?_).set ?_
 ·exact lowL_D _ (Qat _ _)
 ·simp [bO, lowL, Jc, ho]
theorem Low.drop {ob : List Ob} (h : Low ob.length ob) {t t0 o p N V : Nat} (ho : o < ob.length) {M : Nat} (hM : M ≤ ob.length) {J : List Ob} {fr fr' : List (Nat × AV)}
  (hfr : ∀ q ∈ fr', q.2 = .any ∨ (q.2 = Am.look fr q.1 ∧ Jc ob.length q.2 = true)) :
  Le M ⟨fr, XV ob o p (bY t0 N V) (bO t o N) ++ J⟩ ⟨fr', XV ob o p (bY t0 N V) (bO t o N)⟩ := by
 have hl : (XV ob o p (bY t0 N V) (bO t o N)).length = ob.length := Zf
 refine Le.low (by omega) (by rw [hl]; exact h.put ho) ?_
 rw [hl]
 exact hfr
theorem Qwq {V N v j r : Nat} : V + 2 ^ N * (v % 2 ^ (j + r)) = V + 2 ^ N * (v % 2 ^ j) + 2 ^ (N + j) * (v / 2 ^ j % 2 ^ r) := by
 rw [Nat.pow_add, Nat.mod_mul, Nat.mul_add, Nat.pow_add, Nat.mul_assoc, Nat.add_assoc]
set_option maxHeartbeats 1000000 in
theorem Qtj {P : Prg} {f t0 t : Nat} (bd : Qd P f 75 [] (QbB t0)) {ob : List Ob} {p o N V v n : Nat} (hp : ob[p]? = some (bO t o N)) (ho : ob[o]? = some (bY t0 N V)) (hpo : p ≠ o) (hV : V < 2 ^ N) (hv : v < 2 ^ n) (hn : n ≤ 64) (hN : N + n ≤ 400000) (hfz : Low ob.length ob)
  {K : AV → List Ob → Prop} (hK : K (.tup []) (XV ob o p (bY t0 (N + n) (V + 2 ^ N * v)) (bO t o (N + n)))) : ACall P f [.ref p 1 0, .int .u64 v, .int .i64 n] ob K := by
 have hol : o < ob.length := (List.getElem?_eq_some_iff.1 ho).1
 have hpl : p < ob.length := (List.getElem?_eq_some_iff.1 hp).1
 refine ACall.of_body bd (by simp) ?_
 have g0 : ∀ x y J, (XV ob o p x y ++ J)[p]? = some y := fun x y J => by rw [List.getElem?_append_left (by rw [Zf]; exact hpl)]; exact QlB hpl
 have g1 : ∀ x y J, (XV ob o p x y ++ J)[o]? = some x := fun x y J => by rw [List.getElem?_append_left (by rw [Zf]; exact hol)]; exact QlC hol hpo
 have g2 : ∀ x y J y', (XV ob o p x y ++ J).set p y' = XV ob o p x y' ++ J := fun x y J y' => by rw [List.set_append_left _ _ (by rw [Zf]; exact hpl), Qpr]
 have g3 : ∀ x y J x', (XV ob o p x y ++ J).set o x' = XV ob o p x' y ++ J := fun x y J x' => by rw [List.set_append_left _ _ (by rw [Zf]; exact hol), Qps hpo]
 have g4 : ∀ x y j, (XV ob o p x y ++ [j])[ob.length]? = some j := fun x y j => by rw [List.getElem?_append_right (by rw [Zf]; exact Nat.le_refl _), Zf, Nat.sub_self]; rfl
 have gp : ∀ x y, (XV ob o p x y)[p]? = some y := fun x y => QlB hpl
 have go : ∀ x y, (XV ob o p x y)[o]? = some x := fun x y => QlC hol hpo
 have sp : ∀ x y y', (XV ob o p x y).set p y' = XV ob o p x y' := fun x y y' => Qpr
 have so : ∀ x y x', (XV ob o p x y).set o x' = XV ob o p x' y := fun x y x' => Qps hpo
 have ln : ∀ x y, (XV ob o p x y).length = ob.length := fun x y => Zf
 simp (maxSteps := 4000000) (disch := omega) only [rq, simprocAttr, QbB]
 refine QU.by (ι := Nat) (fun j => ⟨[(2, .int .i64 ((n - j : Nat) : Int)), (1, .int .u64 ((v / 2 ^ j : Nat) : Int)), (0, .ref p 1 0)], XV ob o p (bY t0 (N + j) (V + 2 ^ N * (v % 2 ^ j))) (bO t o (N + j))⟩) (fun j => j ≤ n) (fun j => n - j) 0 ?_ (by omega) ?_
 ·have : XV ob o p (bY t0 (N + 0) (V + 2 ^ N * (v % 2 ^ 0))) (bO t o (N + 0)) = ob := by
   rw [Nat.add_zero, Nat.pow_zero, Nat.mod_one, Nat.mul_zero, Nat.add_zero]
   exact QjT ho hp hpo
  rw [this]
  exact Le.slots (by simp [Am.look])
 intro j hj
 by_cases hlt : j < n
 ·obtain ⟨M, hM⟩ : ∃ M, M = N + j := ⟨_, rfl⟩
  obtain ⟨i, hi⟩ : ∃ i, i = M / 8 := ⟨_, rfl⟩
  obtain ⟨a, ha⟩ : ∃ a, a = M % 8 := ⟨_, rfl⟩
  obtain ⟨r, hr⟩ : ∃ r, r = min (n - j) (8 - a) := ⟨_, rfl⟩
  have hM8 : M = 8 * i + a := by omega
  have hW : V + 2 ^ N * (v % 2 ^ j) < 2 ^ M := by
   have h1 : v % 2 ^ j < 2 ^ j := Nat.mod_lt _ (Nat.pow_pos (by omega))
   have h2 : 2 ^ N * (v % 2 ^ j + 1) ≤ 2 ^ N * 2 ^ j := Nat.mul_le_mul_left _ h1
   rw [hM, Nat.pow_add]; rw [Nat.mul_add, Nat.mul_one] at h2; omega
  have hstep := Qwq (V := V) (N := N) (v := v) (j := j) (r := r)
  rw [← hM] at hstep ⊢
  have hx : v / 2 ^ j < 18446744073709551616 := by
   have h1 : v / 2 ^ j ≤ v := Nat.div_le_self _ _
   have h2 : 2 ^ n ≤ 2 ^ 64 := Nat.pow_le_pow_right (by omega) hn
   omega
  have hxr : v / 2 ^ (j + r) = v / 2 ^ j / 2 ^ r := by rw [Nat.pow_add, Nat.div_div_eq_div_mul]
  generalize V + 2 ^ N * (v % 2 ^ j) = W at *
  generalize hWW : V + 2 ^ N * (v % 2 ^ (j + r)) = W' at *
  generalize hxx : v / 2 ^ j = x at *
  have h2r : 2 ^ r ≤ 2 ^ 8 := Nat.pow_le_pow_right (by omega) (by omega)
  have h2a : 2 ^ a * 2 ^ r ≤ 2 ^ 8 := by rw [← Nat.pow_add]; exact Nat.pow_le_pow_right (by omega) (by omega)
  have hpos : 0 < 2 ^ r := Nat.pow_pos (by omega)
  have hc : x % 2 ^ r < 2 ^ r := Nat.mod_lt _ hpos
  obtain ⟨l1, l2⟩ := Qb5 (V := W) (i := i) (at_ := a) (by rw [← hM8]; exact hW) (by omega)
  obtain ⟨b1, b2, _⟩ := QcS (V := W) (i := i) (at_ := a) (w := x % 2 ^ r) (r := r) (by rw [← hM8]; exact hW) hc (by omega)
  rw [← hM8, ← hstep] at b1
  have hyb : W / 256 ^ i < 256 := by
   have : 2 ^ a ≤ 2 ^ 8 := Nat.pow_le_pow_right (by omega) (by omega)
   omega
  have hyb2 : W / 256 ^ i + 2 ^ a * (x % 2 ^ r) < 256 := by
   have : 2 ^ (a + r) ≤ 2 ^ 8 := Nat.pow_le_pow_right (by omega) (by omega)
   omega
  have hca : x % 2 ^ r * 2 ^ a < 2 ^ 8 := by
   rw [Nat.mul_comm]
   exact Nat.lt_of_lt_of_le (Nat.mul_lt_mul_of_pos_left hc (Nat.pow_pos (by omega))) h2a
  have hu : ∀ y, y < 256 → u8 [UInt8.ofNat y] = [.int .u8 (y : Int)] := fun y hy => by simp [u8]; omega
  have e8 : IntKind.u8.wrap (BitVec.ofInt IntKind.u8.bits ((W / 256 ^ i : Nat) : Int) ||| BitVec.ofInt IntKind.u8.bits ((x % 2 ^ r * 2 ^ a : Nat) : Int)).toNat = ((W / 256 ^ i + 2 ^ a * (x % 2 ^ r) : Nat) : Int) := by
   rw [orK (K := .u8) rfl hyb hca, Qqe l2, Nat.mul_comm]
  have e7 : Qi true .u8 ((x % 2 ^ r : Nat) : Int) (a : Int) = some (.int .u8 ((x % 2 ^ r * 2 ^ a : Nat) : Int)) := Qr0 rfl (by show a ≤ 8; omega) hca
  have e6 : IntKind.u8.wrap ((x % 2 ^ r : Nat) : Int) = ((x % 2 ^ r : Nat) : Int) := by rw [QcW]; omega
  have e5 : IntKind.u64.wrap (BitVec.ofInt IntKind.u64.bits (x : Int) &&& BitVec.ofInt IntKind.u64.bits ((2 ^ r - 1 : Nat) : Int)).toNat = ((x % 2 ^ r : Nat) : Int) := by
   rw [QrE _ _ hx (by omega), Nat.and_two_pow_sub_one_eq_mod]
  have e4 : IntKind.u64.wrap (((2 ^ r : Nat) : Int) - 1) = ((2 ^ r - 1 : Nat) : Int) := by rw [Xv]; omega
  have e3 : Qi true .u64 1 (r : Int) = some (.int .u64 ((2 ^ r : Nat) : Int)) := by
   have := Qr0 (K := .u64) rfl (c := 1) (s := r) (by show r ≤ 64; omega) (by show 1 * 2 ^ r < 18446744073709551616; omega)
   rw [Nat.one_mul] at this
   exact this
  have e9 : Qi false .u64 (x : Int) (r : Int) = some (.int .u64 ((x / 2 ^ r : Nat) : Int)) := QlN (K := .u64) (by show r ≤ 64; omega)
  have e1 := QnW (n := M) (by omega)
  rw [← ha] at e1
  have e2 : (if (8 : Int) - a < ((n - j : Nat) : Int) then (8 : Int) - a else ((n - j : Nat) : Int)) = (r : Int) := by split <;> omega
  have hnB : nB (M + r) = i + 1 := by unfold nB; omega
  have hcell : u8 (leB W' (i + 1)) = u8 (leB W i) ++ [.int .u8 ((W / 256 ^ i + 2 ^ a * (x % 2 ^ r) : Nat) : Int)] := by
   rw [b1, show u8 (leB W i ++ [UInt8.ofNat (W / 256 ^ i + 2 ^ a * (x % 2 ^ r))]) = u8 (leB W i) ++ u8 [UInt8.ofNat (W / 256 ^ i + 2 ^ a * (x % 2 ^ r))] by simp [u8]]
   rw [hu _ hyb2]
  have hlen : (u8 (leB W i)).length = i := by simp [u8, Qb]
  rw [← hxr] at e9
  generalize W / 256 ^ i + 2 ^ a * (x % 2 ^ r) = y' at *
  generalize x % 2 ^ r * 2 ^ a = ca at *
  generalize x % 2 ^ r = c at *
  generalize 2 ^ r - 1 = mk at *
  generalize 2 ^ r = pr at *
  have d1 : ∀ z : AV, (u8 (leB W i) ++ [z]).drop i = [z] := fun z => by rw [List.drop_left' hlen]
  have d2 : ∀ z : AV, (u8 (leB W i) ++ [z]).take i = u8 (leB W i) := fun z => by rw [List.take_left' hlen]
  have d3 : ∀ z : AV, (u8 (leB W i) ++ [z]).drop (i + 1) = [] := fun z => List.drop_of_length_le (by simp [hlen])
  have jr : n - j - r = n - (j + r) := by omega
  have el : (⟨t0, 1, i + 1, u8 (leB W i) ++ [.int .u8 (y' : Int)], 0⟩ : Ob) = bY t0 (M + r) W' := by rw [bY, hnB, hcell]
  have er : (⟨t, 2, 1, [.own o (i + 1), .int .i64 ((M : Int) + r)], 0⟩ : Ob) = bO t o (M + r) := by rw [bO, hnB, Int.natCast_add]
  have hMr : N + (j + r) = M + r := by omega
  have e10 : ((n - j : Nat) : Int) - r = ((n - (j + r) : Nat) : Int) := by omega
  have e11 : (M : Int) + r = ((M + r : Nat) : Int) := by omega
  by_cases h0 : a = 0
  ·subst h0
   have hnM : nB M = i := by unfold nB; omega
   have hW0 : W / 256 ^ i = 0 := by
    have := l2
    rw [Nat.pow_zero] at this
    exact Nat.lt_one_iff.1 this
   rw [hW0] at e8
   have e8' : IntKind.u8.wrap (BitVec.ofInt IntKind.u8.bits 0 ||| BitVec.ofInt IntKind.u8.bits (ca : Int)).toNat = (y' : Int) := e8
   have e1' : IntKind.i64.wrap (BitVec.ofInt IntKind.i64.bits (M : Int) &&& BitVec.ofInt IntKind.i64.bits 7).toNat = 0 := e1
   have e2' : (if (8 : Int) < ((n - j : Nat) : Int) then (8 : Int) else ((n - j : Nat) : Int)) = (r : Int) := by split <;> omega
   have e12 : i + 1 - 1 = i := by omega
   have e7' : Qi true .u8 (c : Int) 0 = some (.int .u8 (ca : Int)) := e7
   have e13 : (i : Int) + 1 - 1 = i := by omega
   simp (maxSteps := 4000000) (disch := omega) only [rq, simprocAttr, e2', e12, e13, bO, bY, gp, go, sp, so, ln, g0, g1, g2, g3, g4, hnM, hlen, e1', e2, e3, e4, e5, e6, e7', e8', e9, d1, d2, d3]
   refine ⟨j + r, by omega, by omega, ?_⟩
   show Le ob.length _ ⟨[(2, .int .i64 ((n - (j + r) : Nat) : Int)), (1, .int .u64 ((v / 2 ^ (j + r) : Nat) : Int)), (0, .ref p 1 0)], XV ob o p (bY t0 (N + (j + r)) (V + 2 ^ N * (v % 2 ^ (j + r)))) (bO t o (N + (j + r)))⟩
   rw [hWW, hMr, el, er]
   exact hfz.drop hol (Nat.le_refl _) (by simp [Am.look, Jc, hpl, e10])
  ·have hnM : nB M = i + 1 := by unfold nB; omega
   have l3 : u8 (leB W (i + 1)) = u8 (leB W i) ++ [.int .u8 ((W / 256 ^ i : Nat) : Int)] := by
    rw [l1, show u8 (leB W i ++ [UInt8.ofNat (W / 256 ^ i)]) = u8 (leB W i) ++ u8 [UInt8.ofNat (W / 256 ^ i)] by simp [u8], hu _ hyb]
   have e12 : i + 1 - 1 = i := by omega
   have e13 : (i : Int) + 1 - 1 = i := by omega
   have ha0 : (a : Int) ≠ 0 := by omega
   generalize W / 256 ^ i = y at *
   simp (maxSteps := 4000000) (disch := omega) only [rq, simprocAttr, e12, e13, bO, bY, gp, go, sp, so, ln, hnM, hlen, l3, e1, e2, e3, e4, e5, e6, e7, e8, e9, d1, d2, d3]
   refine ⟨j + r, by omega, by omega, ?_⟩
   show Le ob.length _ ⟨[(2, .int .i64 ((n - (j + r) : Nat) : Int)), (1, .int .u64 ((v / 2 ^ (j + r) : Nat) : Int)), (0, .ref p 1 0)], XV ob o p (bY t0 (N + (j + r)) (V + 2 ^ N * (v % 2 ^ (j + r)))) (bO t o (N + (j + r)))⟩
   rw [hWW, hMr, el, er]
   exact Le.slots (by simp [Am.look, e10])
 ·obtain rfl : j = n := by omega
  rw [Nat.mod_eq_of_lt hv]
  simp (maxSteps := 4000000) (disch := omega) only [rq, simprocAttr]
  exact hK
theorem QoK {P : Prg} {f f1 fL t : Nat} (bd : Qd P f 36 [] (XO f1 fL)) (b1 : Qd P f1 58 [] Qm) (hL : Qgj P fL) {ob : List Ob} {p : Nat} {d : Dl} (hp : ob[p]? = some ⟨t, 4, 1, dlC d, 0⟩) (hd : okD d) {v : Nat} (hv : v < 4294967296) {K : AV → List Ob → Prop}
  (hK : K (.tup []) (ob.set p ⟨t, 4, 1, dlC (JF d v), 0⟩)) : ACall P f [.ref p 1 0, .int .u32 v] ob K := by
 have hpl : p < ob.length := (List.getElem?_eq_some_iff.1 hp).1
 have hL' := hL d v hd hv
 have nph : ∀ cs, (⟨t, 4, 1, cs, 0⟩ : Ob) ≠ ph := fun cs e => by have := congrArg Ob.sz e; simp [ph] at this
 refine ACall.of_body bd (by simp) ?_
 unfold JF at hK
 have hp0 := hp
 obtain ⟨k0, k1, s0, s1⟩ := d
 simp only [dlC] at hp
 simp only [dlA, dlC] at hL' hK
 by_cases c : v < 2 ^ k0
 ·rw [if_pos c] at hL' hK
  simp (maxSteps := 4000000) (disch := omega) only [rq, simprocAttr, XO, hp]
  refine Qa.vc hL' ?_
  simp (maxSteps := 4000000) (disch := omega) only [rq, simprocAttr, hp]
  refine callE.by hp0 (nph _) (fun K hK => Qef b1 hp0 hd hv false hK) ?_
  simp (maxSteps := 4000000) (disch := omega) only [rq, simprocAttr]
  exact hK
 ·rw [if_neg c] at hL' hK
  have hv2 : v - 2 ^ k0 < 4294967296 := Nat.lt_of_le_of_lt (Nat.sub_le _ _) hv
  obtain ⟨h1, h2, h3, h4⟩ := hd
  have pk := Ql2 h2 h4 hv2
  simp only at h1 h2 h3 h4 pk
  generalize v - 2 ^ k0 = w at *
  simp (maxSteps := 4000000) (disch := omega) only [rq, simprocAttr, XO, hp]
  refine Qa.vc hL' ?_
  simp (maxSteps := 4000000) (disch := omega) only [rq, simprocAttr, hp]
  refine callE.by hp0 (nph _) (fun K hK => Qef b1 hp0 ⟨h1, h2, h3, h4⟩ hv2 true hK) ?_
  have hp1 : (ob.set p ⟨t, 4, 1, dlC ⟨k0, (QbG k1 s1 w).1, s0, (QbG k1 s1 w).2⟩, 0⟩)[p]? = some ⟨t, 4, 1, dlC ⟨k0, (QbG k1 s1 w).1, s0, (QbG k1 s1 w).2⟩, 0⟩ := by simp [hpl]
  have hp2 := hp1
  simp only [dlC] at hp2
  simp (maxSteps := 4000000) (disch := omega) only [rq, simprocAttr, dlC, hp2]
  refine callE.by hp1 (nph _) (fun K hK => Qef b1 hp1 ⟨h1, pk.1, h3, pk.2⟩ hv false hK) ?_
  rw [List.set_set]
  simp (maxSteps := 4000000) (disch := omega) only [rq, simprocAttr]
  exact hK
theorem Qj3 {P : Prg} {f : Nat} (bd : Qd P f 9 [.tmp 4] XJ) {v k : Nat} (hk : k ≤ 24) (hv : v < 4294967296) : VC P f [.int .u32 v, .int .i64 k] (.bool (decide (48 ≤ v / 2 ^ k))) := by
 refine VC.of_acall rfl rfl (ACall.of_body bd (by simp) ?_)
 have e1 : Qi false .u32 (v : Int) (k : Int) = some (.int .u32 ((v / 2 ^ k : Nat) : Int)) := QlN (K := .u32) (by show k ≤ 32; omega)
 generalize v / 2 ^ k = w at *
 have e2 : decide ((48 : Int) ≤ (w : Int)) = decide (48 ≤ w) := decide_eq_decide.2 (by omega)
 simp (maxSteps := 4000000) (disch := omega) only [rq, simprocAttr, XJ, e1, e2]
def Qu0 (P : Prg) (f : Nat) : Prop := ∀ v k : Nat, k ≤ 24 → v < 4294967296 → VC P f [.int .u32 v, .int .i64 k] (.bool (decide (48 ≤ v / 2 ^ k)))
theorem Qsx {P : Prg} {f : Nat} (bd : Qd P f 9 [.tmp 4] XJ) : Qu0 P f := by
 exact fun _ _ h1 h2 => Qj3 bd h1 h2
def Xu (c r : Nat) (v : List Nat) : Dl := ((List.range v.length).filter fun j => j % c == r).foldl (fun d j => JF d (v.getD j 0)) QK
theorem QkQ {c r x : Nat} {v : List Nat} : Xu c r (v ++ [x]) = if v.length % c = r then JF (Xu c r v) x else Xu c r v := by
 have h1 : ∀ (l : List Nat) (d : Dl), (∀ j ∈ l, j < v.length) → l.foldl (fun d j => JF d ((v ++ [x]).getD j 0)) d = l.foldl (fun d j => JF d (v.getD j 0)) d := by
  intro l
  induction l with
  | nil => intro d _; rfl
  | cons a l ih =>
   intro d h
   simp only [List.foldl_cons]
   have ha : a < v.length := h a (by simp)
   rw [ih _ fun j hj => h j (by simp [hj])]
   congr 2
   rw [List.getD_eq_getElem?_getD, List.getD_eq_getElem?_getD, List.getElem?_append_left ha]
 unfold Xu
 rw [List.length_append, List.length_cons, List.length_nil, Nat.zero_add, List.range_succ, List.filter_append, List.foldl_append]
 have hf := h1 ((List.range v.length).filter fun j => j % c == r) QK (fun j hj => by
  have := (List.mem_filter.1 hj).1
  simpa using this)
 rw [hf]
 have hx : (v ++ [x]).getD v.length 0 = x := by simp [List.getD_eq_getElem?_getD]
 by_cases h : v.length % c = r
 ·rw [if_pos h]
  have : (List.filter (fun j => j % c == r) [v.length]) = [v.length] := by simp [h]
  rw [this]
  simp only [List.foldl_cons, List.foldl_nil]
  rw [hx]
 ·rw [if_neg h]
  have : (List.filter (fun j => j % c == r) [v.length]) = [] := by simp [h]
  rw [this]
  rfl
def N32 (v : List Nat) : Prop := ∀ x ∈ v, x < 4294967296
theorem Qri {c r : Nat} {v : List Nat} (h : N32 v) : okD (Xu c r v) := by
 unfold Xu
 have key : ∀ (l : List Nat) (d : Dl), okD d → (∀ j ∈ l, j < v.length) → okD (l.foldl (fun d j => JF d (v.getD j 0)) d) := by
  intro l
  induction l with
  | nil => intro d h _; exact h
  | cons a l ih =>
   intro d hd hl
   have ha : a < v.length := hl a (by simp)
   refine ih _ (QsL hd ?_) fun j hj => hl j (by simp [hj])
   rw [List.getD_eq_getElem?_getD, List.getElem?_eq_getElem ha]
   exact h _ (List.getElem_mem ha)
 exact key _ _ Qsh fun j hj => by
  have := (List.mem_filter.1 hj).1
  simpa using this
def QbV (p : List UInt8) : Nat := 4294967295 - Qpe 4294967295 p
theorem Qt0 (p : List UInt8) : QbV p < 4294967296 := by unfold QbV; omega
def Qdw (F : Nat → Dl) : List AV := dlC (F 0) ++ dlC (F 1) ++ dlC (F 2) ++ dlC (F 3) ++ dlC (F 4) ++ dlC (F 5)
theorem Qqt (F : Nat → Dl) : isTL (Qdw F) = true := rfl
theorem Qdv (F : Nat → Dl) : (Qdw F).length = 24 := rfl
theorem Qsq (F : Nat → Dl) {j : Nat} (h : j < 6) : ∃ r, (Qdw F).drop (j * 4) = .int .i64 (F j).k0 :: .int .i64 (F j).k1 :: .int .u64 (F j).s0 :: .int .u64 (F j).s1 :: r := by
 rcases (by omega : j = 0 ∨ j = 1 ∨ j = 2 ∨ j = 3 ∨ j = 4 ∨ j = 5) with rfl | rfl | rfl | rfl | rfl | rfl <;> exact ⟨_, rfl⟩
def Qu5 (F : Nat → Dl) (j : Nat) (d : Dl) : Nat → Dl := fun i => if i = j then d else F i
theorem Qno (F : Nat → Dl) {j : Nat} (h : j < 6) (d : Dl) : (Qdw F).take (j * 4) ++ [.int .i64 d.k0, .int .i64 d.k1, .int .u64 d.s0, .int .u64 d.s1] ++ (Qdw F).drop (j * 4 + 4) = Qdw (Qu5 F j d) := by
 rcases (by omega : j = 0 ∨ j = 1 ∨ j = 2 ∨ j = 3 ∨ j = 4 ∨ j = 5) with rfl | rfl | rfl | rfl | rfl | rfl <;> rfl
def iL (o : List Nat) : List Int := o.map fun n : Nat => (n : Int)
theorem mod_mul (m c : Nat) : (m * c) % c = 0 := Nat.mul_mod_left m c
def Qj4 (v k : Nat) : Nat := if 48 ≤ v / 2 ^ k then 80 else v / 2 ^ k + 1 + k
def Qj5 (v k : Nat) : Nat := if 48 ≤ v / 2 ^ k then 2 ^ 48 - 1 + 2 ^ 48 * v else 2 ^ (v / 2 ^ k) - 1 + 2 ^ (v / 2 ^ k + 1) * (v % 2 ^ k)
def QeW (d : Dl) (v : Nat) : Nat := if v < 2 ^ d.k0 then 1 + d.k0 else 1 + Qj4 (v - 2 ^ d.k0) d.k1
def QmE (d : Dl) (v : Nat) : Nat := if v < 2 ^ d.k0 then 2 * v else 1 + 2 * Qj5 (v - 2 ^ d.k0) d.k1
theorem J6 {V N W n : Nat} (hV : V < 2 ^ N) (hW : W < 2 ^ n) : V + 2 ^ N * W < 2 ^ (N + n) := by
 have h1 : 2 ^ N * (W + 1) ≤ 2 ^ N * 2 ^ n := Nat.mul_le_mul_left _ hW
 rw [Nat.pow_add]
 rw [Nat.mul_add, Nat.mul_one] at h1
 omega
theorem Qsz {v k : Nat} (hv : v < 4294967296) : Qj5 v k < 2 ^ Qj4 v k := by
 unfold Qj5 Qj4
 split
 ·exact J6 (N := 48) (n := 32) (by decide) hv
 ·have h1 : v % 2 ^ k < 2 ^ k := Nat.mod_lt _ (Nat.pow_pos (by omega))
  refine J6 ?_ h1
  have : 0 < 2 ^ (v / 2 ^ k) := Nat.pow_pos (by omega)
  rw [Nat.pow_succ]
  omega
theorem Qsy {v k : Nat} (hk : k ≤ 24) : Qj4 v k ≤ 80 := by unfold Qj4; split <;> omega
theorem QnN {d : Dl} {v : Nat} (hd : okD d) : QeW d v ≤ 81 := by
 have := Qsy (v := v - 2 ^ d.k0) hd.2.1
 have := hd.1
 unfold QeW
 split <;> omega
theorem Qrd (d : Dl) (v : Nat) : 1 ≤ QeW d v := by unfold QeW; split <;> omega
theorem QnO {d : Dl} {v : Nat} (hv : v < 4294967296) : QmE d v < 2 ^ QeW d v := by
 unfold QmE QeW
 split
 ·rename_i h
  rw [Nat.pow_add, Nat.pow_one]
  omega
 ·have h := Qsz (v := v - 2 ^ d.k0) (k := d.k1) (Nat.lt_of_le_of_lt (Nat.sub_le _ _) hv)
  exact J6 (N := 1) (V := 1) (by decide) h
def Qvv (c : Nat) (v : List Nat) : Nat → Nat × Nat
 | 0 => (0, 0)
 | i + 1 => ((Qvv c v i).1 + QeW (Xu c (i % c) (v.take i)) (v.getD i 0), (Qvv c v i).2 + 2 ^ (Qvv c v i).1 * QmE (Xu c (i % c) (v.take i)) (v.getD i 0))
def Qhh (c : Nat) (v : List Nat) (i : Nat) : Nat := (Qvv c v i).1
def QsZ (c : Nat) (v : List Nat) (i : Nat) : Nat := (Qvv c v i).2
theorem Qkv (c : Nat) (v : List Nat) : Qhh c v 0 = 0 := rfl
theorem Qkt (c : Nat) (v : List Nat) : QsZ c v 0 = 0 := rfl
theorem Qkw (c : Nat) (v : List Nat) (i : Nat) : Qhh c v (i + 1) = Qhh c v i + QeW (Xu c (i % c) (v.take i)) (v.getD i 0) := rfl
theorem Qku (c : Nat) (v : List Nat) (i : Nat) : QsZ c v (i + 1) = QsZ c v i + 2 ^ Qhh c v i * QmE (Xu c (i % c) (v.take i)) (v.getD i 0) := rfl
theorem N32.take {v : List Nat} (h : N32 v) (i : Nat) : N32 (v.take i) := fun x hx => h x (List.mem_of_mem_take hx)
theorem N32.getD {v : List Nat} (h : N32 v) (i : Nat) : v.getD i 0 < 4294967296 := by
 rw [List.getD_eq_getElem?_getD]
 cases hx : v[i]? with
 | none => simp
 | some x => exact h x (List.mem_of_getElem? hx)
theorem Qa1 {c : Nat} {v : List Nat} (h : N32 v) : ∀ i, QsZ c v i < 2 ^ Qhh c v i ∧ Qhh c v i ≤ 81 * i ∧ i ≤ Qhh c v i
 | 0 => by rw [Qkv, Qkt]; decide
 | i + 1 => by
  obtain ⟨h1, h2, h3⟩ := Qa1 h i
  have hd := Qri (c := c) (r := i % c) (h.take i)
  have h4 := QnN (v := v.getD i 0) hd
  have h5 := Qrd (Xu c (i % c) (v.take i)) (v.getD i 0)
  rw [Qkw, Qku]
  exact ⟨J6 h1 (QnO (h.getD i)), by omega, by omega⟩
def QgI (c : Nat) (v : List Nat) : List UInt8 := leB (QsZ c v v.length) (nB (Qhh c v v.length))
def Zj (p : List UInt8) : List UInt8 := p ++ leB (QbV p) 4
theorem QfA (p : List UInt8) : (Zj p).length = p.length + 4 := by simp [Zj, Qb]
theorem Qff (c : Nat) (v : List Nat) : (QgI c v).length = nB (Qhh c v v.length) := by simp [QgI, Qb]
end Go.Am
