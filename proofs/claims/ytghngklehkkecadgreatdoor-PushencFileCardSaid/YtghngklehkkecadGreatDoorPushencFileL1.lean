/- What the functions that the law reaches return, for every program that has their code; the conditions stand in each statement. -/
import Derived.Test.YtghngklehkkecadGreatDoorPushencFileD1
set_option linter.unusedSectionVars false
set_option linter.unusedSimpArgs false
set_option linter.unusedVariables false
namespace Go.Am
open Go.RowKit
def leN : List UInt8 → Nat
 | [] => 0
 | b :: l => b.toNat + 256 * leN l
theorem QsV : ∀ l : List UInt8, leN l < 2 ^ (8 * l.length)
 | [] => by simp [leN]
 | b :: l => by
  have h1 := QsV l
  have h2 := b.toNat_lt
  have h3 : 2 ^ (8 * (b :: l).length) = 256 * 2 ^ (8 * l.length) := by
   rw [List.length_cons, Nat.mul_add, Nat.pow_add, Nat.mul_comm]
  rw [h3]
  simp only [leN]
  omega
theorem Qw (l : List UInt8) : isTL (u8 l) = true := by
 induction l with
 | nil => rfl
 | cons x l ih => simp [Qk7, isTL, isT, ih]
def Z2 (b : Int) : Int := if b = 8 then 128 else if b = 16 then 32768 else if b = 24 then 8388608 else 0
theorem Q8 (b : Int) : (b = 8 ∧ Z2 b = 128) ∨ (b = 16 ∧ Z2 b = 32768) ∨ (b = 24 ∧ Z2 b = 8388608) ∨ (b ≠ 8 ∧ b ≠ 16 ∧ b ≠ 24 ∧ Z2 b = 0) := by
 unfold Z2; split <;> (try split) <;> (try split) <;> omega
def X7 (b : Int) : AV := if Z2 b = 0 then .tup [.int .i32 0, .int .i32 0, .int .i64 2] else .tup [.int .i32 (-Z2 b), .int .i32 (Z2 b - 1), .int .i64 0]
def QfL (P : Prg) (f : Nat) : Prop := ∀ b : Int, VC P f [.int .i64 b] (X7 b)
theorem QkT {P : Prg} {f : Nat} (b : Qf P f 18 [.tmp 2, .tmp 3, .tmp 4] ZC) : QfL P f := by
 intro x
 refine VC.of_acall rfl (by unfold X7; split <;> rfl) (ACall.of_body b (by simp) ?_)
 rcases Q8 x with ⟨rfl, h⟩ | ⟨rfl, h⟩ | ⟨rfl, h⟩ | ⟨h1, h2, h3, h⟩
 ·simp (maxSteps := 4000000) (disch := omega) only [rq, simprocAttr, ZC, X7, h]
  rfl
 ·simp (maxSteps := 4000000) (disch := omega) only [rq, simprocAttr, ZC, X7, h]
  rfl
 ·simp (maxSteps := 4000000) (disch := omega) only [rq, simprocAttr, ZC, X7, h]
  rfl
 ·simp (maxSteps := 4000000) (disch := omega) only [rq, simprocAttr, ZC, X7, h]
def il (l : List Int) : AV := .list l.length (ks .i32 l)
theorem Zy (l : List Int) : isD (il l) = true := by simp [il, isD, QB]
def inR (b x : Int) : Bool := decide (-Z2 b ≤ x) && decide (x < Z2 b)
def QL (b : Int) (l : List Int) : Int := if Z2 b = 0 then 2 else if 4000 < l.length then 4 else if l.all (inR b) then 0 else 16
def I32 (l : List Int) : Prop := ∀ x ∈ l, -2147483648 ≤ x ∧ x ≤ 2147483647
def Qdu (P : Prg) (f : Nat) : Prop := ∀ (b : Int) (l : List Int), I32 l → VC P f [.int .i64 b, il l] (.int .i64 (QL b l))
theorem Qiz {l : List Int} {k : Nat} (h : k < l.length) {p : Int → Bool} : (l.take (k + 1)).all p = ((l.take k).all p && p l[k]) := by
 rw [List.take_succ_eq_append_getElem h, List.all_append]; simp
theorem QnP {l : List Int} {k : Nat} (h : k < l.length) {p : Int → Bool} (hp : p l[k] = false) : l.all p = false := by
 rw [List.all_eq_false]
 exact ⟨l[k], List.getElem_mem h, by simp [hp]⟩
set_option maxRecDepth 10000 in
theorem QkU {P : Prg} {f fR : Nat} (b : Qf P f 37 [.tmp 4] (Qas fR)) (hR : QfL P fR) : Qdu P f := by
 intro x l hl
 refine VC.of_acall (by simp [isDL, isD, Zy]) rfl (ACall.of_body b (by simp) ?_)
 simp (maxSteps := 4000000) (disch := omega) only [rq, simprocAttr, Qas]
 refine Qa.vc (hR x) ?_
 by_cases h0 : Z2 x = 0
 ·simp (maxSteps := 4000000) (disch := omega) only [rq, simprocAttr, X7, QL, h0]
 have h3 : Z2 x = 128 ∨ Z2 x = 32768 ∨ Z2 x = 8388608 := by rcases Q8 x with h | h | h | h <;> omega
 by_cases h1 : 4000 < l.length
 ·simp (maxSteps := 4000000) (disch := omega) only [rq, simprocAttr, X7, QL, h0, il, h1]
 simp (maxSteps := 4000000) (disch := omega) only [rq, simprocAttr, X7, il, if_neg h0]
 refine Q0.by (ι := Nat) (fun k => ⟨[(24, .int .i64 k), (23, .int .i64 l.length), (22, il l), (6, .int .i32 (Z2 x - 1)), (5, .int .i32 (-Z2 x))], []⟩) (fun k => k ≤ l.length ∧ (l.take k).all (inR x) = true) (fun k => l.length - k) 0 (Le.slots (by simp [Am.look, il])) ⟨by omega, by simp⟩ ?_
 intro k ⟨hk, hg⟩
 by_cases hlt : k < l.length
 ·by_cases hp : -Z2 x ≤ l[k] ∧ l[k] < Z2 x
  ·have hs := Qiz hlt (p := inR x)
   simp (maxSteps := 4000000) (disch := omega) only [rq, simprocAttr, il, QdQ, hlt]
   exact ⟨k + 1, ⟨by omega, by rw [hs, hg]; simp [inR, hp]⟩, by omega, Le.slots (by simp [Am.look, il])⟩
  ·have e : QL x l = 16 := by simp [QL, h0, h1, QnP hlt (p := inR x) (by simp [inR]; omega)]
   by_cases hq : l[k] < -Z2 x
   ·simp (maxSteps := 4000000) (disch := omega) only [rq, simprocAttr, il, QdQ, hlt, e]
   ·simp (maxSteps := 4000000) (disch := omega) only [rq, simprocAttr, il, QdQ, hlt, e]
 ·have e2 : k = l.length := by omega
  subst e2
  rw [List.take_length] at hg
  simp (maxSteps := 4000000) (disch := omega) only [rq, simprocAttr, il, QL, h0, h1, hg]
def Qq8 (P : Prg) (f : Nat) : Prop := ∀ x : Int, VC P f [.int .i64 x] (.int .i64 (Z2 x))
theorem QnN {P : Prg} {f : Nat} (b : Qf P f 10 [.tmp 2] ZZ) : Qq8 P f := by
 intro x
 refine VC.of_acall rfl rfl (ACall.of_body b (by simp) ?_)
 rcases Q8 x with ⟨rfl, h⟩ | ⟨rfl, h⟩ | ⟨rfl, h⟩ | ⟨h1, h2, h3, h⟩ <;> simp (maxSteps := 4000000) (disch := omega) only [rq, simprocAttr, ZZ, h]
theorem Qfq {n : Nat} {c : Int} (h : 1 ≤ c) : 0 ≤ (n : Int) / c ∧ (n : Int) / c ≤ n :=
 ⟨Int.ediv_nonneg (by omega) (by omega), Int.ediv_le_self _ (by omega)⟩
theorem QbJ {n : Nat} {c : Int} (h : 1 ≤ c) : 0 ≤ (n : Int) % c ∧ (n : Int) % c < c := ⟨Int.emod_nonneg _ (by omega), Int.emod_lt_of_pos _ (by omega)⟩
def Qc (r : Int) : Int := if 256 * r / 245 < 1 then 1 else 256 * r / 245
theorem ZM (r : Int) : 1 ≤ Qc r := by unfold Qc; split <;> omega
theorem QeJ {r : Int} (h : r ≤ 1048576) : Qc r ≤ 1095654 := by unfold Qc; split <;> omega
def Qa5 (r : Int) : AV := if r < 1 ∨ 1048576 < r then .tup [.int .i64 0, .int .i64 2] else .tup [.int .i64 (Qc r), .int .i64 0]
def Xe (P : Prg) (f : Nat) : Prop := ∀ r : Int, VC P f [.int .i64 r] (Qa5 r)
theorem Qm1 (r : Int) : isD (Qa5 r) = true := by unfold Qa5; split <;> rfl
theorem QjN {P : Prg} {f : Nat} (b : Qf P f 14 [.tmp 2, .tmp 3] ZO) : Xe P f := by
 intro r
 refine VC.of_acall rfl (Qm1 r) (ACall.of_body b (by simp) ?_)
 by_cases h1 : r < 1
 ·simp (maxSteps := 4000000) (disch := omega) only [rq, simprocAttr, ZO, Qa5, true_or]
 by_cases h2 : 1048576 < r
 ·simp (maxSteps := 4000000) (disch := omega) only [rq, simprocAttr, ZO, Qa5, or_true]
 have h3 : 1 ≤ 256 * r / 245 := by omega
 simp (maxSteps := 4000000) (disch := omega) only [rq, simprocAttr, ZO, Qa5, or_self, Qc]
 rw [show (if (1 : Int) < 256 * r / 245 then 256 * r / 245 else 1) = 256 * r / 245 by split <;> omega]
theorem QnM {P : Prg} {f : Nat} (b : Qf P f 17 [.tmp 2, .tmp 3] QV) : Xe P f := by
 intro r
 refine VC.of_acall rfl (Qm1 r) (ACall.of_body b (by simp) ?_)
 by_cases h1 : r < 1
 ·simp (maxSteps := 4000000) (disch := omega) only [rq, simprocAttr, QV, Qa5, true_or]
 by_cases h2 : 1048576 < r
 ·simp (maxSteps := 4000000) (disch := omega) only [rq, simprocAttr, QV, Qa5, or_true]
 have e : r * 256 / 245 = 256 * r / 245 := by rw [Int.mul_comm]
 have h3 : 1 ≤ 256 * r / 245 := by omega
 simp (maxSteps := 4000000) (disch := omega) only [rq, simprocAttr, QV, Qa5, or_self, Qc, e]
def QH (c b : Int) : Int := if Z2 b = 0 ∨ c < 1 ∨ 6 < c then 2 else 0
def shA (c b : Int) : AV := .agg [.int .i64 c, .int .i64 b]
def JC (P : Prg) (f : Nat) : Prop := ∀ c b : Int, VC P f [shA c b] (.int .i64 (QH c b))
theorem QhX {P : Prg} {f fR t0 : Nat} (b : Qf P f 25 [.tmp 2] (Jm fR t0)) (hR : QfL P fR) : JC P f := by
 intro c x
 refine VC.of_acall rfl rfl (ACall.of_body b (by simp) ?_)
 simp (maxSteps := 4000000) (disch := omega) only [rq, simprocAttr, Jm, shA]
 refine Qa.vc (hR x) ?_
 by_cases h0 : Z2 x = 0
 ·simp (maxSteps := 4000000) (disch := omega) only [rq, simprocAttr, X7, h0, QH, true_or]
 by_cases h1 : c < 1
 ·simp (maxSteps := 4000000) (disch := omega) only [rq, simprocAttr, X7, if_neg h0, QH, h0, or_true, true_or]
 by_cases h2 : 6 < c
 ·simp (maxSteps := 4000000) (disch := omega) only [rq, simprocAttr, X7, if_neg h0, QH, h0, or_true]
 ·simp (maxSteps := 4000000) (disch := omega) only [rq, simprocAttr, X7, if_neg h0, QH, h0, or_self]
theorem Qlo {P : Prg} {f fH t0 : Nat} (b : Qf P f 17 [.tmp 2] (QR fH t0)) (hH : Qq8 P fH) : JC P f := by
 intro c x
 refine VC.of_acall rfl rfl (ACall.of_body b (by simp) ?_)
 have hx := Q8 x
 by_cases h1 : c < 1
 ·simp (maxSteps := 4000000) (disch := omega) only [rq, simprocAttr, QR, shA, QH, or_true, true_or]
 by_cases h2 : 6 < c
 ·simp (maxSteps := 4000000) (disch := omega) only [rq, simprocAttr, QR, shA, QH, or_true]
 simp (maxSteps := 4000000) (disch := omega) only [rq, simprocAttr, QR, shA]
 refine Qa.vc (hH x) ?_
 by_cases h0 : Z2 x = 0
 ·simp (maxSteps := 4000000) (disch := omega) only [rq, simprocAttr, h0, QH, true_or]
 ·simp (maxSteps := 4000000) (disch := omega) only [rq, simprocAttr, h0, QH, or_self]
structure Enc where
 ch : Int
 bits : Int
 rate : Int
 pw : List UInt8
 rest : List UInt8
 smp : List Int
 frs : List (List UInt8)
 out : List UInt8
 done : Bool
 err : Int
def bss (l : List (List UInt8)) : AV := .list l.length (l.map bs)
def Qbp (e : Enc) : List AV := [.int .i64 e.ch, .int .i64 e.bits, .int .i64 e.rate, .str e.pw, bs e.rest, il e.smp, bss e.frs, bs e.out, .bool e.done, .int .i64 e.err]
def QaD (e : Enc) : AV := .agg (Qbp e)
theorem Zk : ∀ l : List (List UInt8), isDL (l.map bs) = true
 | [] => rfl
 | x :: l => by simp [isDL, QQ, Zk l]
theorem QcJ (l : List (List UInt8)) : isD (bss l) = true := by simp [bss, isD, Zk]
theorem Xw (e : Enc) : isD (QaD e) = true := by simp [QaD, Qbp, isD, isDL, QQ, Zy, QcJ]
def Qx (c b r : Int) (pw : List UInt8) : Bool := decide (QH c b = 0) && decide (1 ≤ r ∧ r ≤ 1048576) && decide (pw.length ≤ 64)
def QjM (r : Int) : Int := if r < 1 ∨ 1048576 < r then 0 else Qc r
theorem QA {c b r : Int} {pw : List UInt8} : Qx c b r pw = true ↔ (Z2 b ≠ 0 ∧ 1 ≤ c ∧ c ≤ 6) ∧ (1 ≤ r ∧ r ≤ 1048576) ∧ pw.length ≤ 64 := by
 have e : QH c b = 0 ↔ (Z2 b ≠ 0 ∧ 1 ≤ c ∧ c ≤ 6) := by unfold QH; split <;> omega
 simp only [Qx, Bool.and_eq_true, decide_eq_true_eq, e, and_assoc]
def QiI (P : Prg) (f : Nat) : Prop := ∀ (c b r : Int) (pw : List UInt8), pw.length ≤ 4611686018427387904 → VC P f [shA c b, .int .i64 r, .str pw] (.tup [.int .i64 (QjM r), .bool (Qx c b r pw)])
theorem QhC {P : Prg} {f fL fE t0 : Nat} (b : Qf P f 28 [.tmp 6, .tmp 7] (Jg fL fE t0)) (hL : Xe P fL) (hE : JC P fE) : QiI P f := by
 intro c x r pw hpw
 refine VC.of_acall rfl rfl (ACall.of_body b (by simp) ?_)
 simp (maxSteps := 4000000) (disch := omega) only [rq, simprocAttr, Jg, shA]
 refine Qa.vc (hL r) ?_
 have he : QH c x = 0 ∨ QH c x = 2 := by unfold QH; split <;> omega
 by_cases h1 : r < 1 ∨ 1048576 < r
 ·simp (maxSteps := 4000000) (disch := omega) only [rq, simprocAttr, Qa5, h1]
  refine Qa.vc (by have := hE c x; rw [shA] at this; exact this) ?_
  have h2 : Qx c x r pw = false := by simp only [Qx]; rw [show decide (1 ≤ r ∧ r ≤ 1048576) = false by rw [decide_eq_false_iff_not]; omega]; simp
  rcases he with he | he
  ·simp (maxSteps := 4000000) (disch := omega) only [rq, simprocAttr, he, QjM, h2, h1]
  ·simp (maxSteps := 4000000) (disch := omega) only [rq, simprocAttr, he, QjM, h2, h1]
 ·simp (maxSteps := 4000000) (disch := omega) only [rq, simprocAttr, Qa5, h1]
  refine Qa.vc (by have := hE c x; rw [shA] at this; exact this) ?_
  rcases he with he | he
  ·by_cases hp : pw.length ≤ 64
   ·have h2 : Qx c x r pw = true := by simp only [Qx, he]; rw [show decide (1 ≤ r ∧ r ≤ 1048576) = true by rw [decide_eq_true_eq]; omega]; simp [hp]
    simp (maxSteps := 4000000) (disch := omega) only [rq, simprocAttr, he, QjM, h2, h1]
   ·have h2 : Qx c x r pw = false := by simp [Qx, hp]
    simp (maxSteps := 4000000) (disch := omega) only [rq, simprocAttr, he, QjM, h2, h1]
  ·have h2 : Qx c x r pw = false := by simp [Qx, he]
   simp (maxSteps := 4000000) (disch := omega) only [rq, simprocAttr, he, QjM, h2, h1]
def Qbl (P : Prg) (f : Nat) : Prop := ∀ c b : Int, 1 ≤ c → c ≤ 6 → Z2 b ≠ 0 → VC P f [shA c b] (.int .i64 (c * b / 8))
theorem Xu {c b : Int} (h1 : 1 ≤ c) (h2 : c ≤ 6) (h : Z2 b ≠ 0) : 8 ≤ c * b ∧ c * b ≤ 144 ∧ (b = 8 ∨ b = 16 ∨ b = 24) := by
 have hb : b = 8 ∨ b = 16 ∨ b = 24 := by rcases Q8 b with h' | h' | h' | h' <;> omega
 rcases hb with rfl | rfl | rfl <;> omega
theorem Qgb {P : Prg} {f t0 : Nat} (b : Qf P f 9 [.tmp 2] (XQ t0)) : Qbl P f := by
 intro c x h1 h2 h
 have hm := Xu h1 h2 h
 refine VC.of_acall rfl rfl (ACall.of_body b (by simp) ?_)
 simp (maxSteps := 4000000) (disch := omega) only [rq, simprocAttr, XQ, shA]
theorem Qjz {P : Prg} {f t0 : Nat} (b : Qf P f 9 [.tmp 2] (ZG t0)) : Qbl P f := by
 intro c x h1 h2 h
 have hm := Xu h1 h2 h
 refine VC.of_acall rfl rfl (ACall.of_body b (by simp) ?_)
 simp (maxSteps := 4000000) (disch := omega) only [rq, simprocAttr, ZG, shA]
def Qr (e : Enc) (L : Int) : Int := e.frs.length * L + e.smp.length / e.ch
def okE (e : Enc) : Prop := 1 ≤ e.ch ∧ e.ch ≤ 6 ∧ e.frs.length ≤ 1000 ∧ e.smp.length ≤ 400000 ∧ I32 e.smp
theorem Qp0 {n : Nat} {L : Int} (h : n ≤ 1000) (h1 : 0 ≤ L) (h2 : L ≤ 1095654) : 0 ≤ (n : Int) * L ∧ (n : Int) * L ≤ 1095654000 :=
 ⟨Int.mul_nonneg (by omega) h1, by
  have : (n : Int) * L ≤ 1000 * 1095654 := Int.mul_le_mul (by omega) h2 h1 (by omega)
  omega⟩
def Qd0 (P : Prg) (f : Nat) : Prop := ∀ (e : Enc) (L : Int), okE e → 0 ≤ L → L ≤ 1095654 → VC P f [QaD e, .int .i64 L] (.int .i64 (Qr e L))
theorem QhD {P : Prg} {f t0 : Nat} (b : Qf P f 18 [.tmp 4] (Jh t0)) : Qd0 P f := by
 intro e L ⟨h1, h2, h3, h4, _⟩ h5 h6
 have hm := Qp0 h3 h5 h6
 have hd := Qfq (n := e.smp.length) h1
 refine VC.of_acall (by simp [isDL, Xw, isD]) rfl (ACall.of_body b (by simp) ?_)
 simp (maxSteps := 4000000) (disch := omega) only [rq, simprocAttr, Jh, QaD, Qbp, il, bss, bs, Qr]
def Qa1 (c n m : Int) : Bool := decide (n ≤ 1000) && decide (m * c ≤ 4000)
def QkL (P : Prg) (f : Nat) : Prop := ∀ (e : Enc) (n m : Int), 1 ≤ e.ch → e.ch ≤ 6 → 0 ≤ m → m ≤ 2000000000 → VC P f [QaD e, .int .i64 n, .int .i64 m] (.bool (Qa1 e.ch n m))
theorem Qr3 {c m : Int} (h1 : 1 ≤ c) (h2 : c ≤ 6) (h3 : 0 ≤ m) (h4 : m ≤ 2000000000) : 0 ≤ m * c ∧ m * c ≤ 12000000000 ∧ (m ≤ 4000 / c ↔ m * c ≤ 4000) := by
 have : c = 1 ∨ c = 2 ∨ c = 3 ∨ c = 4 ∨ c = 5 ∨ c = 6 := by omega
 rcases this with rfl | rfl | rfl | rfl | rfl | rfl <;> omega
theorem QjB {P : Prg} {f t0 : Nat} (b : Qf P f 17 [.tmp 6] (XA t0)) : QkL P f := by
 intro e n m h1 h2 h3 h4
 have hm := Qr3 h1 h2 h3 h4
 refine VC.of_acall (by simp [isDL, Xw, isD]) rfl (ACall.of_body b (by simp) ?_)
 by_cases hn : n ≤ 1000
 ·simp (maxSteps := 4000000) (disch := omega) only [rq, simprocAttr, XA, QaD, Qbp, il, bss, bs, Qa1]
 ·simp (maxSteps := 4000000) (disch := omega) only [rq, simprocAttr, XA, QaD, Qbp, il, bss, bs, Qa1]
def QuP {α : Type} (p : α → Bool) (l : List α) : Int := match l.findIdx? p with | some i => i | none => -1
def QfR (P : Prg) (f : Nat) : Prop := ∀ (α : Type) (l : List α) (c : α → AV) (p : α → Bool) (g : Nat) (fs cs : List AV), isDL fs = true → isDL cs = true → (∀ x, isD (c x) = true) → l.length ≤ 4611686018427387904 →
 (∀ x ∈ l, VC P g (fs ++ [c x] ++ cs) (.bool (p x))) → VC P f [.list l.length (l.map c), .fn (.func g) fs cs] (.int .i64 (QuP p l))
theorem QhS {α : Type} {c : α → AV} (h : ∀ x, isD (c x) = true) : ∀ l : List α, isDL (l.map c) = true
 | [] => rfl
 | x :: l => by simp [isDL, h x, QhS h l]
theorem Qqr {α : Type} {l : List α} {c : α → AV} {k : Nat} (h : k < l.length) : (l.map c).drop k = c l[k] :: (l.map c).drop (k + 1) := by
 rw [List.drop_eq_getElem_cons (by simpa using h)]; simp
theorem Qqc {α : Type} {p : α → Bool} {l : List α} (h : l.all (fun x => !p x) = true) : l.findIdx? p = none := by
 rw [List.findIdx?_eq_none_iff]
 intro x hx
 have := List.all_eq_true.1 h x hx
 simpa using this
theorem Qt2 {α : Type} {p : α → Bool} {l : List α} {k : Nat} (hk : k < l.length) (h : (l.take k).all (fun x => !p x) = true) (hp : p l[k] = true) : l.findIdx? p = some k := by
 rw [List.findIdx?_eq_some_iff_getElem]
 refine ⟨hk, hp, fun j hj => ?_⟩
 have := List.all_eq_true.1 h l[j] (by
  rw [List.mem_take_iff_getElem]
  exact ⟨j, by omega, rfl⟩)
 simpa using this
theorem Qmt {α : Type} {l : List α} {k : Nat} (h : k < l.length) {p : α → Bool} : (l.take (k + 1)).all p = ((l.take k).all p && p l[k]) := by
 rw [List.take_succ_eq_append_getElem h, List.all_append]; simp
theorem QlA {P : Prg} {f : Nat} (b : Qf P f 19 [.tmp 4] QU) : QfR P f := by
 intro α l c p g fs cs h1 h2 h3 hlen hp
 refine VC.of_acall (by simp [isDL, isD, h1, h2, QhS h3]) rfl (ACall.of_body b (by simp) ?_)
 simp (maxSteps := 4000000) (disch := omega) only [rq, simprocAttr, QU]
 refine Q0.by (ι := Nat) (fun k => ⟨[(8, .int .i64 k), (7, .int .i64 l.length), (1, .fn (.func g) fs cs), (0, .list l.length (l.map c))], []⟩) (fun k => k ≤ l.length ∧ (l.take k).all (fun x => !p x) = true) (fun k => l.length - k) 0 (Le.slots (by simp [Am.look])) ⟨by omega, by simp⟩ ?_
 intro k ⟨hk, hg⟩
 by_cases hlt : k < l.length
 ·simp (maxSteps := 4000000) (disch := omega) only [rq, simprocAttr, Qqr, hlt]
  refine Qa.vc (hp _ (List.getElem_mem hlt)) ?_
  cases hpk : p l[k] with
  | true => simp (maxSteps := 4000000) (disch := omega) only [rq, simprocAttr, hpk, QuP, Qt2 hlt hg hpk]
  | false =>
   simp (maxSteps := 4000000) (disch := omega) only [rq, simprocAttr, hpk]
   exact ⟨k + 1, ⟨by omega, by rw [Qmt hlt, hg, hpk]; rfl⟩, by omega, Le.slots (by simp [Am.look])⟩
 ·have e2 : k = l.length := by omega
  subst e2
  rw [List.take_length] at hg
  simp (maxSteps := 4000000) (disch := omega) only [rq, simprocAttr, QuP, Qqc hg]
def QbZ (P : Prg) (f : Nat) : Prop := ∀ (α : Type) (l : List α) (c : α → AV) (p : α → Bool) (g : Nat) (fs cs : List AV), isDL fs = true → isDL cs = true → (∀ x, isD (c x) = true) → l.length ≤ 4611686018427387904 →
 (∀ x ∈ l, VC P g (fs ++ [c x] ++ cs) (.bool (p x))) → VC P f [.list l.length (l.map c), .fn (.func g) fs cs] (.bool (l.any p))
theorem QtV {α : Type} (p : α → Bool) (l : List α) : decide ((0 : Int) ≤ QuP p l) = l.any p := by
 unfold QuP
 cases h : l.findIdx? p with
 | none =>
  rw [List.findIdx?_eq_none_iff] at h
  have : l.any p = false := by rw [List.any_eq_false]; intro x hx; rw [h x hx]; simp
  rw [this]; rfl
 | some i =>
  rw [List.findIdx?_eq_some_iff_getElem] at h
  obtain ⟨h1, h2, _⟩ := h
  have : l.any p = true := by rw [List.any_eq_true]; exact ⟨_, List.getElem_mem h1, h2⟩
  rw [this]; simp
theorem Qgo {P : Prg} {f fI : Nat} (b : Qf P f 9 [.tmp 4] (QM fI)) (hI : QfR P fI) : QbZ P f := by
 intro α l c p g fs cs h1 h2 h3 hlen hp
 refine VC.of_acall (by simp [isDL, isD, h1, h2, QhS h3]) rfl (ACall.of_body b (by simp) ?_)
 have hi := hI α l c p g fs cs h1 h2 h3 hlen hp
 simp (maxSteps := 4000000) (disch := omega) only [rq, simprocAttr, QM]
 refine Qa.vc hi ?_
 simp (maxSteps := 4000000) (disch := omega) only [rq, simprocAttr, QtV]
theorem ZH : ∀ l : List (List UInt8), isTL (l.map bs) = true
 | [] => rfl
 | x :: l => by
  have : isT (bs x) = true := by simp [bs, isT]; induction x with | nil => rfl | cons y x ih => simp [Qk7, isTL, isT, ih]
  simp [isTL, this, ZH l]
def Qcw (m : Int) (b : List UInt8) : Bool := decide ((b.length : Int) < 5) || decide (m < b.length)
def QiW (P : Prg) (f : Nat) : Prop := ∀ (b : List UInt8) (m : Int), VC P f [bs b, .cell [.int .i64 m]] (.bool (Qcw m b))
theorem Qqh {P : Prg} {f : Nat} (b : Qf P f 13 [.tmp 3] Zm) : QiW P f := by
 intro l m
 refine VC.of_acall (by simp [isDL, isD, QQ]) rfl (ACall.of_body b (by simp) ?_)
 by_cases h : (l.length : Int) < 5
 ·simp (maxSteps := 4000000) (disch := omega) only [rq, simprocAttr, Zm, bs, Qcw]
 ·simp (maxSteps := 4000000) (disch := omega) only [rq, simprocAttr, Zm, bs, Qcw]
def Qdl (e : Enc) : Bool :=
 let L := Qc e.rate
 if 0 < e.out.length ∨ e.ch * e.bits / 8 ≤ e.rest.length ∨ (e.smp.length : Int) % e.ch ≠ 0 ∨ L ≤ (e.smp.length : Int) / e.ch ∨ 1000 < e.frs.length then false
 else if QL e.bits e.smp ≠ 0 then false
 else if Qa1 e.ch (e.frs.length + if 0 < e.smp.length then 1 else 0) (Qr e L) = false then false
 else !e.frs.any (Qcw ((81 * L * e.ch + 7) / 8 + 4))
def okF (e : Enc) : Prop := Qx e.ch e.bits e.rate e.pw = true ∧ e.frs.length ≤ 4611686018427387904 ∧ e.smp.length ≤ 400000 ∧ I32 e.smp ∧ e.rest.length ≤ 4611686018427387904 ∧ e.out.length ≤ 4611686018427387904
theorem QvV {L c : Int} (h1 : 1 ≤ L) (h2 : L ≤ 1095654) (h3 : 1 ≤ c) (h4 : c ≤ 6) : 0 ≤ 81 * L * c ∧ 81 * L * c ≤ 600000000 := by
 have : c = 1 ∨ c = 2 ∨ c = 3 ∨ c = 4 ∨ c = 5 ∨ c = 6 := by omega
 rcases this with rfl | rfl | rfl | rfl | rfl | rfl <;> omega
def QfU (P : Prg) (f : Nat) : Prop := ∀ e : Enc, okF e → VC P f [QaD e, .int .i64 (Qc e.rate)] (.bool (Qdl e))
set_option maxHeartbeats 4000000 in
set_option maxRecDepth 20000 in
theorem Qfa {P : Prg} {f fM fW fC fR fB fS t0 t1 : Nat} (b : Qf P f 82 [.tmp 4] (XB fM fW fC fR fB fS t0 t1)) (hM : Qbl P fM) (hW : Qdu P fW) (hC : Qd0 P fC) (hR : QkL P fR) (hB : QiW P fB) (hS : QbZ P fS) : QfU P f := by
 intro e ⟨hr, o1, o2, o3, o4, o5⟩
 obtain ⟨⟨r1, r2, r3⟩, ⟨r4, r5⟩, r6⟩ := QA.1 hr
 have hd := Qfq (n := e.smp.length) r2
 have hm := QbJ (n := e.smp.length) r2
 have hL := ZM e.rate
 have hL2 := QeJ r5
 have hmul := Xu r2 r3 r1
 have hmul3 := QvV hL hL2 r2 r3
 have hMo := hM e.ch e.bits r2 r3 r1
 have hWo := hW e.bits e.smp o3
 refine VC.of_acall (by simp [isDL, Xw, isD]) rfl (ACall.of_body b (by simp) ?_)
 simp only [QaD, Qbp, il, bss, bs, shA] at hMo hWo ⊢
 unfold Qdl
 have hok : e.frs.length ≤ 1000 → okE e := fun h => ⟨r2, r3, h, o2, o3⟩
 simp (maxSteps := 4000000) (disch := omega) only [rq, simprocAttr, XB]
 refine X8.ndec (fun c1 => ?_) (fun c1 => ?_)
 case refine_2 => simp (maxSteps := 4000000) (disch := omega) only [rq, simprocAttr, Qdl]
 simp (maxSteps := 4000000) (disch := omega) only [rq, simprocAttr]
 refine Q5.vc hMo ?_
 simp (maxSteps := 4000000) (disch := omega) only [rq, simprocAttr]
 refine X8.ndec (fun c2 => ?_) (fun c2 => ?_)
 case refine_2 => simp (maxSteps := 4000000) (disch := omega) only [rq, simprocAttr, Qdl]
 simp (maxSteps := 4000000) (disch := omega) only [rq, simprocAttr]
 refine X8.dec (fun c3 => ?_) (fun c3 => ?_)
 case refine_2 => simp (maxSteps := 4000000) (disch := omega) only [rq, simprocAttr, Qdl, c3]
 simp (maxSteps := 4000000) (disch := omega) only [rq, simprocAttr, c3]
 refine X8.ndec (fun c4 => ?_) (fun c4 => ?_)
 case refine_2 => simp (maxSteps := 4000000) (disch := omega) only [rq, simprocAttr, Qdl]
 simp (maxSteps := 4000000) (disch := omega) only [rq, simprocAttr]
 refine J2.dec (fun c5 => ?_) (fun c5 => ?_)
 case refine_1 => simp (maxSteps := 4000000) (disch := omega) only [rq, simprocAttr, Qdl]
 simp (maxSteps := 4000000) (disch := omega) only [rq, simprocAttr]
 refine Qa.vc hWo ?_
 simp (maxSteps := 4000000) (disch := omega) only [rq, simprocAttr]
 refine J2.ndec (fun c6 => ?_) (fun c6 => ?_)
 case refine_1 => simp (maxSteps := 4000000) (disch := omega) only [rq, simprocAttr, Qdl, c6]
 simp (maxSteps := 4000000) (disch := omega) only [rq, simprocAttr]
 have hok : okE e := ⟨r2, r3, by omega, o2, o3⟩
 have hCo := hC e (Qc e.rate) hok (by omega) hL2
 have hfm := Qp0 (n := e.frs.length) (L := Qc e.rate) (by omega) (by omega) hL2
 have hcn : 0 ≤ Qr e (Qc e.rate) ∧ Qr e (Qc e.rate) ≤ 2000000000 := by unfold Qr; omega
 have hRo := fun n => hR e n (Qr e (Qc e.rate)) r2 r3 hcn.1 hcn.2
 have hS1 := fun m => hS (List UInt8) e.frs bs (Qcw m) fB [] [.cell [.int .i64 m]] rfl rfl QQ (by omega) (fun x _ => hB x m)
 simp only [QaD, Qbp, il, bss, bs, shA] at hCo hRo hS1
 refine J2.dec (fun c7 => ?_) (fun c7 => ?_)
 ·simp (maxSteps := 4000000) (disch := omega) only [rq, simprocAttr]
  refine Q5.vc hCo ?_
  simp (maxSteps := 4000000) (disch := omega) only [rq, simprocAttr]
  refine Q5.vc (hRo _) ?_
  cases hv : Qa1 e.ch ((e.frs.length : Int) + 1) (Qr e (Qc e.rate)) with
  | false => simp (maxSteps := 4000000) (disch := omega) only [rq, simprocAttr, hv]
  | true =>
   simp (maxSteps := 4000000) (disch := omega) only [rq, simprocAttr]
   refine Qa.flat 1 (hS1 ((81 * Qc e.rate * e.ch + 7) / 8 + 4)) rfl (by simp [QS, QG, frzL, QD, isDL, isD, frzL_T _ (ZH e.frs)]) ?_
   simp (maxSteps := 4000000) (disch := omega) only [rq, simprocAttr, hv]
 ·simp (maxSteps := 4000000) (disch := omega) only [rq, simprocAttr]
  refine Q5.vc hCo ?_
  simp (maxSteps := 4000000) (disch := omega) only [rq, simprocAttr]
  refine Q5.vc (hRo _) ?_
  cases hv : Qa1 e.ch (e.frs.length : Int) (Qr e (Qc e.rate)) with
  | false => simp (maxSteps := 4000000) (disch := omega) only [rq, simprocAttr, Int.add_zero, hv]
  | true =>
   simp (maxSteps := 4000000) (disch := omega) only [rq, simprocAttr]
   refine Qa.flat 1 (hS1 ((81 * Qc e.rate * e.ch + 7) / 8 + 4)) rfl (by simp [QS, QG, frzL, QD, isDL, isD, frzL_T _ (ZH e.frs)]) ?_
   simp (maxSteps := 4000000) (disch := omega) only [rq, simprocAttr, Int.add_zero, hv]
def Zj (e : Enc) : Bool :=
 if e.err ≠ 0 then decide ((e.err = 18 ∨ e.err = 24) ∧ e.done = false ∧ (e.rest.length = 0 ∧ e.smp.length = 0 ∧ e.frs.length = 0) ∧ e.out.length = 0)
 else if e.done = true then decide ((e.rest.length = 0 ∧ e.smp.length = 0 ∧ e.frs.length = 0) ∧ e.out.length ≤ 100000)
 else Qdl e
def QP (e : Enc) : Int := if Qx e.ch e.bits e.rate e.pw = false ∨ Zj e = false then 8 else 0
def okC (e : Enc) : Prop := e.pw.length ≤ 100000 ∧ e.frs.length ≤ 100000 ∧ e.smp.length ≤ 400000 ∧ I32 e.smp ∧ e.rest.length ≤ 100000 ∧ e.out.length ≤ 1000000
def Qch (P : Prg) (f : Nat) : Prop := ∀ e : Enc, okC e → VC P f [QaD e] (.int .i64 (QP e))
set_option maxHeartbeats 4000000 in
set_option maxRecDepth 20000 in
theorem QhF {P : Prg} {f fR fF t0 : Nat} (b : Qf P f 71 [.tmp 2] (Ji fR fF t0)) (hR : QiI P fR) (hF : QfU P fF) : Qch P f := by
 intro e ⟨o0, o1, o2, o3, o4, o5⟩
 have hRo := hR e.ch e.bits e.rate e.pw (by omega)
 refine VC.of_acall (by simp [isDL, Xw, isD]) rfl (ACall.of_body b (by simp) ?_)
 simp only [QaD, Qbp, il, bss, bs, shA] at hRo ⊢
 simp (maxSteps := 4000000) (disch := omega) only [rq, simprocAttr, Ji]
 refine Qa.vc hRo ?_
 cases hr : Qx e.ch e.bits e.rate e.pw with
 | false => simp (maxSteps := 4000000) (disch := omega) only [rq, simprocAttr, QP, hr]
 | true =>
  have hz : QjM e.rate = Qc e.rate := by
   obtain ⟨_, h, _⟩ := QA.1 hr
   unfold QjM; rw [if_neg (by omega)]
  have hFo := hF e ⟨hr, by omega, o2, o3, by omega, by omega⟩
  simp only [QaD, Qbp, il, bss, bs, shA] at hFo
  have e2 : QP e = if Zj e = false then 8 else 0 := by simp [QP, hr]
  by_cases h1 : e.err = 0
  ·cases hd : e.done with
   | false =>
    have e3 : Zj e = Qdl e := by simp [Zj, h1, hd]
    simp (maxSteps := 4000000) (disch := omega) only [rq, simprocAttr, h1, hd, hz]
    simp only [hd] at hFo
    rw [h1] at hFo
    refine Qa.vc hFo ?_
    cases hf : Qdl e <;> simp (maxSteps := 4000000) (disch := omega) only [rq, simprocAttr, e2, e3, hf]
   | true =>
    by_cases hE : e.rest.length = 0 ∧ e.smp.length = 0 ∧ e.frs.length = 0
    ·obtain ⟨q1, q2, q3⟩ := hE
     by_cases h3 : e.out.length ≤ 100000
     ·have e3 : Zj e = true := by simp [Zj, h1, hd, q1, q2, q3, h3]
      simp (maxSteps := 4000000) (disch := omega) only [rq, simprocAttr, h1, hd, e2, e3]
     ·have e3 : Zj e = false := by simp [Zj, h1, hd, q1, q2, q3, h3]
      simp (maxSteps := 4000000) (disch := omega) only [rq, simprocAttr, h1, hd, e2, e3]
    ·have e3 : Zj e = false := by
      unfold Zj
      rw [if_neg (by simp [h1]), if_pos hd, decide_eq_false_iff_not]
      exact fun h => hE h.1
     simp (maxSteps := 4000000) (disch := omega) only [rq, simprocAttr, h1, hd, e2, e3]
  ·by_cases hX : (e.err = 18 ∨ e.err = 24)
   case neg =>
    have e3 : Zj e = false := by simp only [Zj]; rw [if_pos h1, decide_eq_false_iff_not]; exact fun h => hX h.1
    simp (maxSteps := 4000000) (disch := omega) only [rq, simprocAttr, h1, e2, e3]
   have hlast : ∀ b : Bool, Zj e = b → (b = true ↔ (e.done = false ∧ (e.rest.length = 0 ∧ e.smp.length = 0 ∧ e.frs.length = 0) ∧ e.out.length = 0)) := by
    rintro b rfl; simp only [Zj]; rw [if_pos h1, decide_eq_true_eq]; exact ⟨fun h => h.2, fun h => ⟨hX, h⟩⟩
   cases hb : Zj e with
   | true =>
    obtain ⟨d1, ⟨q1, q2, q3⟩, q4⟩ := (hlast true hb).1 rfl
    rcases hX with h | h <;> simp (maxSteps := 4000000) (disch := omega) only [rq, simprocAttr, h1, h, d1, e2, hb]
   | false =>
    have hn : ¬ (e.done = false ∧ (e.rest.length = 0 ∧ e.smp.length = 0 ∧ e.frs.length = 0) ∧ e.out.length = 0) := fun h => by have := (hlast false hb).2 h; cases this
    cases hd : e.done with
    | true => rcases hX with h | h <;> simp (maxSteps := 4000000) (disch := omega) only [rq, simprocAttr, h1, h, hd, e2, hb]
    | false =>
     rw [hd] at hn
     by_cases hE : e.rest.length = 0 ∧ e.smp.length = 0 ∧ e.frs.length = 0
     ·have h4 : e.out.length ≠ 0 := fun h => hn ⟨rfl, hE, h⟩
      obtain ⟨q1, q2, q3⟩ := hE
      rcases hX with h | h <;> simp (maxSteps := 4000000) (disch := omega) only [rq, simprocAttr, h1, h, hd, e2, hb]
     ·rcases hX with h | h <;> simp (maxSteps := 4000000) (disch := omega) only [rq, simprocAttr, h1, h, hd, e2, hb]
def QmX (c b r : Int) (pw : List UInt8) : List AV := [.int .i64 c, .int .i64 b, .int .i64 r, .str pw, .emp true, .emp true, .emp true, .emp true, .bool false, .int .i64 0]
def QsS (c b r : Int) (pw : List UInt8) : AV := if Qx c b r pw = true then .tup [.agg (QmX c b r pw), .int .i64 0] else .tup [.agg (QmX 0 0 0 []), .int .i64 2]
def Qq4 (P : Prg) (f : Nat) : Prop := ∀ (c b r : Int) (pw : List UInt8), pw.length ≤ 100000 → VC P f [shA c b, .int .i64 r, .str pw] (QsS c b r pw)
theorem QtQ (c b r : Int) (pw : List UInt8) : isD (QsS c b r pw) = true := by unfold QsS; split <;> rfl
theorem Qlp {P : Prg} {f fR t0 t1 : Nat} (b : Qf P f 24 [.cell 6 t1, .tmp 7] (Qau fR t0 t1)) (ht : ZJ P t1 = some (some 10)) (hR : QiI P fR) : Qq4 P f := by
 intro c x r pw hp
 have hRo := hR c x r pw (by omega)
 refine VC.of_acall (by simp [isDL, isD, shA]) (QtQ _ _ _ _) (ACall.of_body b (by simp) ?_)
 simp (maxSteps := 4000000) (disch := omega) only [rq, simprocAttr, Qau, shA]
 refine Qa.vc hRo ?_
 cases hr : Qx c x r pw with
 | true => simp (maxSteps := 4000000) (disch := omega) only [rq, simprocAttr, QsS, QmX, hr, ZK, ht]
 | false => simp (maxSteps := 4000000) (disch := omega) only [rq, simprocAttr, QsS, QmX, hr, ZK, ht]
theorem Qa7 {α : Type} (f : α → AV) : ∀ l : List α, (l.map fun x => [f x]).flatten = l.map f
 | [] => rfl
 | x :: l => by simp [Qa7 f l]
theorem QeL {L : List (List AV)} (h : ∀ c ∈ L, Qb0 (.int .u8) c) : ∃ l : List UInt8, L.length = l.length ∧ AV.list L.length L.flatten = bs l := by
 obtain ⟨l, rfl, _⟩ := Qb9 (f := fun b : UInt8 => [AV.int .u8 b.toNat]) (q := fun _ => True) h (fun c hc => by
  simp only [Qb0] at hc
  obtain ⟨n, rfl, h1, h2⟩ := hc
  simp only [IntKind.min, IntKind.max, IntKind.signed, IntKind.bits] at h1 h2
  refine ⟨UInt8.ofNat n.toNat, ?_, trivial⟩
  simp at h1 h2
  simp; omega)
 exact ⟨l, by simp, by simp [bs, u8, Qa7]⟩
theorem Qqa {K : IntKind} {L : List (List AV)} (h : ∀ c ∈ L, Qb0 (.int K) c) : ∃ l : List Int, L.length = l.length ∧ AV.list L.length L.flatten = .list l.length (ks K l) ∧ ∀ x ∈ l, K.min ≤ x ∧ x ≤ K.max := by
 obtain ⟨l, rfl, h2⟩ := Qb9 (f := fun n : Int => [AV.int K n]) (q := fun x => K.min ≤ x ∧ x ≤ K.max) h (fun c hc => by
  simp only [Qb0] at hc
  obtain ⟨n, rfl, h1, h2⟩ := hc
  exact ⟨n, rfl, h1, h2⟩)
 exact ⟨l, by simp, by simp [ks, Qa7], h2⟩
def QuN (P : Program) (t : TypeId) : Bool := match P.underlying t with | some (.struct _) => true | _ => false
def QuO (P : Program) (t : TypeId) : Bool := match P.underlying t with | some (.array _ _) => true | _ => false
def QvP (P : Program) (t : TypeId) : Bool := match P.underlying t with | some (.slice _) => true | _ => false
theorem Qsc {P : Program} {t : TypeId} (h : QuN P t = true) : ∃ fs, P.underlying t = some (.struct fs) := by
 unfold QuN at h; split at h
 ·exact ⟨_, by assumption⟩
 ·cases h
theorem Qvj {P : Program} {t : TypeId} (h : QuO P t = true) : ∃ n e, P.underlying t = some (.array n e) := by
 unfold QuO at h; split at h
 ·exact ⟨_, _, by assumption⟩
 ·cases h
theorem QtN {P : Program} {t : TypeId} (h : QvP P t = true) : ∃ e, P.underlying t = some (.slice e) := by
 unfold QvP at h; split at h
 ·exact ⟨_, by assumption⟩
 ·cases h
theorem Qqb {L : List (List AV)} (h : ∀ c ∈ L, Qb0 (.int .i32) c) : ∃ l : List Int, L.length = l.length ∧ AV.list L.length L.flatten = il l ∧ I32 l := by
 obtain ⟨l, h1, h2, h3⟩ := Qqa h
 exact ⟨l, h1, h2, fun x hx => by have := h3 x hx; simpa [IntKind.min, IntKind.max, IntKind.signed, IntKind.bits] using this⟩
theorem Qsn {L : List (List AV)} (h : ∀ c ∈ L, Qb0 (.slice (.int .u8)) c) : ∃ l : List (List UInt8), L.length = l.length ∧ AV.list L.length L.flatten = bss l ∧ ∀ x ∈ l, x.length ≤ maxLen := by
 obtain ⟨l, rfl, h2⟩ := Qb9 (f := fun b : List UInt8 => [bs b]) (q := fun x => x.length ≤ maxLen) h (fun c hc => by
  simp only [Qb0] at hc
  obtain ⟨L', rfl, h1, h2⟩ := hc
  obtain ⟨l, h3, h4⟩ := QeL h2
  exact ⟨l, by rw [h4], by omega⟩)
 exact ⟨l, by simp, by simp [bss, Qa7], h2⟩
def Qvc : Sh := .tuple [.int .i64, .int .i64]
def QuT : Sh := .tuple [Qvc, .int .i64, .str, .slice (.int .u8), .slice (.int .i32), .slice (.slice (.int .u8)), .slice (.int .u8), .bool, .int .i64]
theorem QgP {cs0 : List AV} (h : Qb0 Qvc cs0) : ∃ c b : Int, cs0 = [.int .i64 c, .int .i64 b] := by
 simp only [Qvc, Qb0, FitsL] at h
 obtain ⟨_, _, rfl, ⟨c, rfl, _⟩, _, _, rfl, ⟨b, rfl, _⟩, rfl⟩ := h
 exact ⟨c, b, rfl⟩
theorem Qvm {cs0 : List AV} (h : Qb0 QuT cs0) : ∃ e : Enc, cs0 = Qbp e ∧ I32 e.smp := by
 simp only [QuT, Qb0, FitsL] at h
 obtain ⟨_, _, rfl, h1, _, _, rfl, ⟨r, rfl, _⟩, _, _, rfl, ⟨p, rfl, _⟩, _, _, rfl, ⟨L1, rfl, _, h2⟩, _, _, rfl, ⟨L2, rfl, _, h3⟩, _, _, rfl, ⟨L3, rfl, _, h4⟩, _, _, rfl, ⟨L4, rfl, _, h5⟩, _, _, rfl, ⟨d, rfl⟩, _, _, rfl, ⟨x, rfl, _⟩, rfl⟩ := h
 obtain ⟨c, b, rfl⟩ := QgP h1
 obtain ⟨l1, _, e1⟩ := QeL (L := L1) (fun c hc => by simp only [Qb0]; exact h2 c hc)
 obtain ⟨l2, _, e2, hi⟩ := Qqb (L := L2) (fun c hc => by simp only [Qb0]; exact h3 c hc)
 obtain ⟨l3, _, e3, _⟩ := Qsn (L := L3) (fun c hc => by simp only [Qb0]; exact h4 c hc)
 obtain ⟨l4, _, e4⟩ := QeL (L := L4) (fun c hc => by simp only [Qb0]; exact h5 c hc)
 exact ⟨⟨c, b, r, p, l1, l2, l3, l4, d, x⟩, by simp [Qbp, e1, e2, e3, e4], hi⟩
def w32 (x : Int) : Int := IntKind.i32.wrap x
theorem QsL (x : Int) : w32 x = (x + 2147483648) % 4294967296 - 2147483648 := by
 simp [w32, IntKind.wrap, IntKind.bits, IntKind.signed]; split <;> omega
theorem Qth (a b : Int) : w32 (w32 a + w32 b) = w32 (a + b) := by simp only [QsL]; omega
theorem QoJ {a : Int} (h1 : -2147483648 ≤ a) (h2 : a ≤ 2147483647) : w32 a = a := J6 h1 h2
theorem QcB (a : Int) : -2147483648 ≤ w32 a ∧ w32 a ≤ 2147483647 := by simp only [QsL]; omega
theorem QaT (x : Int) : IntKind.i32.wrap x = w32 x := rfl
theorem XY {l : List Int} (h : I32 l) (k : Nat) : -2147483648 ≤ l.getD k 0 ∧ l.getD k 0 ≤ 2147483647 := by
 rw [List.getD_eq_getElem?_getD]
 cases hk : l[k]? with
 | none => simp
 | some v => exact h v (List.mem_of_getElem? hk)
theorem QsY {K : IntKind} {l : List Int} {k : Nat} (h : k < l.length) : (ks K l)[k]? = some (.int K (l.getD k 0)) := by
 simp [ks, List.getD_eq_getElem?_getD, List.getElem?_eq_getElem h]
structure Jq where
 sh : Int
 tp : List Int
 ps : List Int
def Qn (f : Jq) : List AV := .int .i64 f.sh :: (ks .i32 f.tp ++ ks .i32 f.ps)
def QbH (f : Jq) : Prop := f.tp.length = 16 ∧ f.ps.length = 16 ∧ I32 f.tp ∧ I32 f.ps
theorem Ze {f : Jq} (h : QbH f) : (Qn f).length = 33 := by
 obtain ⟨h1, h2, _⟩ := h
 simp [Qn, Qd, h1, h2]
theorem Zl (f : Jq) : (Qn f).all AV.one = true := by
 simp only [Qn, List.all_cons, List.all_append, JP]; rfl
theorem Zz (f : Jq) : isDL (Qn f) = true := by
 have : ∀ a b, isDL (ks .i32 a ++ ks .i32 b) = true := fun a b => by rw [Qfj]; exact QB _ _
 simp [Qn, isDL, isD, this]
theorem Qj2 {f : Jq} (h : QbH f) : ((Qn f).drop 1).take 16 = ks .i32 f.tp := by
 obtain ⟨h1, h2, _⟩ := h
 simp only [Qn, List.drop_succ_cons, List.drop_zero]
 rw [List.take_left' (by simp [Qd, h1])]
theorem QgQ {f : Jq} (h : QbH f) : ((Qn f).drop 17).take 16 = ks .i32 f.ps := by
 obtain ⟨h1, h2, _⟩ := h
 simp only [Qn, List.drop_succ_cons]
 rw [List.drop_left' (by simp [Qd, h1]), List.take_of_length_le (by simp [Qd, h2])]
theorem Qsp {f : Jq} (h : QbH f) {k : Nat} (hk : k < 16) : (Qn f).drop (1 + k) = .int .i32 (f.tp.getD k 0) :: ((ks .i32 f.tp).drop (k + 1) ++ ks .i32 f.ps) := by
 obtain ⟨h1, h2, _⟩ := h
 rw [Nat.add_comm]
 simp only [Qn, List.drop_succ_cons]
 rw [List.drop_append_of_le_length (by simp [Qd, h1]; omega), QdQ (by omega), ← Qa6]
 simp [List.getD_eq_getElem?_getD, List.getElem?_eq_getElem (show k < f.tp.length by omega)]
theorem Qqf {f : Jq} (h : QbH f) {k : Nat} (hk : k < 16) : (Qn f).drop (17 + k) = .int .i32 (f.ps.getD k 0) :: (ks .i32 f.ps).drop (k + 1) := by
 obtain ⟨h1, h2, _⟩ := h
 rw [show 17 + k = (16 + k) + 1 by omega]
 simp only [Qn, List.drop_succ_cons]
 rw [← List.drop_drop, List.drop_left' (by simp [Qd, h1]), QdQ (by omega), ← Qa6]
 simp [List.getD_eq_getElem?_getD, List.getElem?_eq_getElem (show k < f.ps.length by omega)]
theorem QlL {f : Jq} (h : QbH f) {k : Nat} (hk : k < 16) (v : Int) : (Qn f).take (1 + k) ++ [.int .i32 v] ++ (Qn f).drop (1 + k + 1) = Qn { f with tp := f.tp.set k v } := by
 obtain ⟨h1, h2, _⟩ := h
 rw [Nat.add_comm 1 k]
 simp only [Qn, List.take_succ_cons, List.drop_succ_cons, List.cons_append]
 congr 1
 rw [List.take_append_of_le_length (by simp [Qd, h1]; omega), List.drop_append_of_le_length (by simp [Qd, h1]; omega), ← List.append_assoc]
 congr 1
 rw [List.set_eq_take_append_cons_drop, if_pos (by omega)]
 simp [ks]
theorem Qj3 {f : Jq} (h : QbH f) {k : Nat} (hk : k < 16) (v : Int) : (Qn f).take (17 + k) ++ [.int .i32 v] ++ (Qn f).drop (17 + k + 1) = Qn { f with ps := f.ps.set k v } := by
 obtain ⟨h1, h2, _⟩ := h
 rw [show 17 + k = (16 + k) + 1 by omega]
 simp only [Qn, List.take_succ_cons, List.drop_succ_cons, List.cons_append]
 congr 1
 have e : (ks .i32 f.tp).length = 16 := by simp [Qd, h1]
 rw [List.take_append, List.take_of_length_le (by omega), e, show 16 + k + 1 = 16 + (k + 1) by omega, ← List.drop_drop, List.drop_left' e, show 16 + k - 16 = k by omega, List.append_assoc, List.append_assoc]
 congr 1
 rw [List.set_eq_take_append_cons_drop, if_pos (by omega)]
 simp [ks]
theorem QF {α : Type} {l : List α} {n : Nat} (h : l.length ≤ n) : l.take n = l := List.take_of_length_le h
def QaY (b : Int) : Int := if b = 16 then 9 else 10
def z16 : List Int := List.replicate 16 0
def QhK (b : Int) (t : List Int) : Jq := ⟨QaY b, t, z16⟩
def Qi0 : Jq := ⟨0, z16, z16⟩
def Qf7 (b : Int) (t : List Int) : AV := if Z2 b = 0 then .tup [.agg (Qn Qi0), .int .i64 2] else .tup [.agg (Qn (QhK b t)), .int .i64 0]
def Qnm (P : Prg) (f : Nat) : Prop := ∀ (b : Int) (t : List Int), t.length = 16 → VC P f [.int .i64 b, .agg (ks .i32 t)] (Qf7 b t)
theorem Qse (b : Int) (t : List Int) : isD (Qf7 b t) = true := by
 unfold Qf7; split <;> simp [isD, isDL, Zz]
theorem Qb2 : Qn Qi0 = [.int .i64 0, .int .i32 0, .int .i32 0, .int .i32 0, .int .i32 0, .int .i32 0, .int .i32 0, .int .i32 0, .int .i32 0, .int .i32 0, .int .i32 0, .int .i32 0, .int .i32 0, .int .i32 0, .int .i32 0, .int .i32 0, .int .i32 0, .int .i32 0, .int .i32 0, .int .i32 0, .int .i32 0, .int .i32 0, .int .i32 0, .int .i32 0, .int .i32 0, .int .i32 0, .int .i32 0, .int .i32 0, .int .i32 0, .int .i32 0, .int .i32 0, .int .i32 0, .int .i32 0] := rfl
theorem QrA {P : Prg} {f t0 t1 : Nat} (b : Qf P f 18 [.cell 4 t1, .tmp 5] (XP t0 t1)) (ht : ZJ P t1 = some (some 33)) : Qnm P f := by
 intro x t hl
 have hk : (ks .i32 t).length = 16 := by simp [Qd, hl]
 have h1 := JP .i32 t
 have tk16 : (ks .i32 t).take 16 = ks .i32 t := QF (by omega)
 refine VC.of_acall (by simp [isDL, isD, QB]) (Qse _ _) (ACall.of_body b (by simp) ?_)
 have fin : ∀ s : Int, .int .i64 s :: (ks .i32 t ++ [.int .i32 0, .int .i32 0, .int .i32 0, .int .i32 0, .int .i32 0, .int .i32 0, .int .i32 0, .int .i32 0, .int .i32 0, .int .i32 0, .int .i32 0, .int .i32 0, .int .i32 0, .int .i32 0, .int .i32 0, .int .i32 0]) = Qn ⟨s, t, z16⟩ := fun _ => rfl
 have hl33 : ∀ s : Int, (Qn ⟨s, t, z16⟩).length = 33 := fun s => by simp [Qn, Qd, hl, z16]
 have ho := fun s => Zl ⟨s, t, z16⟩
 have tk : ∀ s : Int, (Qn ⟨s, t, z16⟩).take 33 = Qn ⟨s, t, z16⟩ := fun s => QF (by rw [hl33]; omega)
 have st9 : ([] : List AV) ++ [.int .i64 9] ++ (Qn ⟨10, t, z16⟩).drop 1 = Qn ⟨9, t, z16⟩ := rfl
 have d9 : AV.int .i64 9 :: (Qn ⟨10, t, z16⟩).drop 1 = Qn ⟨9, t, z16⟩ := rfl
 rcases Q8 x with ⟨rfl, h⟩ | ⟨rfl, h⟩ | ⟨rfl, h⟩ | ⟨h2, h3, h4, h⟩
 ·simp (maxSteps := 4000000) (disch := omega) only [rq, simprocAttr, XP, Qf7, h, hk, h1, tk16, fin, hl33, ho, tk, ZK, ht, QhK, QaY]
 ·simp (maxSteps := 4000000) (disch := omega) only [rq, simprocAttr, XP, Qf7, h, hk, h1, tk16, fin, hl33, ho, tk, ZK, ht, QhK, QaY, d9]
 ·simp (maxSteps := 4000000) (disch := omega) only [rq, simprocAttr, XP, Qf7, h, hk, h1, tk16, fin, hl33, ho, tk, ZK, ht, QhK, QaY]
 ·simp (maxSteps := 4000000) (disch := omega) only [rq, simprocAttr, XP, Qf7, h, hk, h1, tk16, fin, hl33, ho, tk, ZK, ht, Qb2]
def Qrm (s : Int) : Int := if s = 9 ∨ s = 10 then 0 else 8
def Qdv (P : Prg) (f : Nat) : Prop := ∀ x : Jq, QbH x → VC P f [.agg (Qn x)] (.int .i64 (Qrm x.sh))
theorem Qvr : Qrm 9 = 0 := rfl
theorem Quu : Qrm 10 = 0 := rfl
def Qs7 (a b : List Int) : Nat → Int
 | 0 => 0
 | k + 1 => Qs7 a b k + a.getD k 0 * b.getD k 0
def Qdc (s : Int) : Int := if s = 9 then 512 else 1024
def QpY (f : Jq) : Int := w32 (Qdc f.sh / 2 + Qs7 f.tp f.ps 16) / Qdc f.sh
def QiF (P : Prg) (f : Nat) : Prop := ∀ x : Jq, QbH x → x.sh = 9 ∨ x.sh = 10 → VC P f [.agg (Qn x)] (.tup [.int .i32 (QpY x), .int .i64 0])
theorem Qty : Qi true .i32 1 8 = some (.int .i32 256) := rfl
theorem Qtx : Qi true .i32 1 9 = some (.int .i32 512) := rfl
theorem Qtt (s : Int) : Qi false .i32 s 9 = some (.int .i32 (s / 512)) := by
 show some (AV.int .i32 (s.fdiv 512)) = _
 rw [Int.fdiv_eq_ediv_of_nonneg _ (by omega)]
theorem QrO (s : Int) : Qi false .i32 s 10 = some (.int .i32 (s / 1024)) := by
 show some (AV.int .i32 (s.fdiv 1024)) = _
 rw [Int.fdiv_eq_ediv_of_nonneg _ (by omega)]
theorem Qny {P : Prg} {f fC t0 : Nat} (b : Qf P f 36 [.tmp 2, .tmp 3] (Qbc fC t0)) (hC : Qdv P fC) : QiF P f := by
 intro x hx hs
 have l33 := Ze hx
 have tk : (Qn x).take 33 = Qn x := QF (by omega)
 have ho := Zl x
 have e1 := Qj2 hx
 have e0 : (Qn x).drop 0 = .int .i64 x.sh :: (ks .i32 x.tp ++ ks .i32 x.ps) := rfl
 have ht : Qrm x.sh = 0 := by simp [Qrm, hs]
 have hl := hx.1
 refine VC.of_acall (by simp [isDL, isD, Zz]) rfl (ACall.of_body b (by simp) ?_)
 simp (maxSteps := 4000000) (disch := omega) only [rq, simprocAttr, Qbc, l33, tk, ho]
 refine Qa.vc (hC x hx) ?_
 rcases hs with h | h
 all_goals
  have z0 : w32 (Qdc x.sh / 2 + Qs7 x.tp x.ps 0) = Qdc x.sh / 2 := by simp only [Qs7, Int.add_zero]; exact QoJ (by simp [Qdc, h]) (by simp [Qdc, h])
  have z1 : Qdc x.sh = 512 ∧ x.sh = 9 ∨ Qdc x.sh = 1024 ∧ x.sh = 10 := by simp [Qdc, h]
  simp (maxSteps := 4000000) (disch := omega) only [rq, simprocAttr, l33, tk, ho, Qvr, Quu, e1, ↓e0, h, Qty, Qtx]
  refine Q0.by (ι := Nat) (fun k => ⟨[(19, .int .i64 k), (18, .agg (ks .i32 x.tp)), (5, .int .i32 (w32 (Qdc x.sh / 2 + Qs7 x.tp x.ps k))), (1, .ref 0 1 0)], [⟨t0, 33, 1, Qn x, 0⟩]⟩) (fun k => k ≤ 16) (fun k => 16 - k) 0 (Le.slots (by rw [z0]; simp [Am.look, h, Qdc])) (by omega) ?_
  intro k hk
  by_cases hlt : k < 16
  ·have e2 := Qqf hx hlt
   have e3 := QsY (K := .i32) (l := x.tp) (k := k) (by omega)
   have e4 : w32 (w32 (Qdc x.sh / 2 + Qs7 x.tp x.ps k) + w32 (x.tp.getD k 0 * x.ps.getD k 0)) = w32 (Qdc x.sh / 2 + Qs7 x.tp x.ps (k + 1)) := by
    rw [Qth]; simp only [Qs7]; congr 1; omega
   simp (maxSteps := 4000000) (disch := omega) only [rq, simprocAttr, l33, e2, e3, QaT, e4]
   exact ⟨k + 1, by omega, by omega, Le.slots (by simp [Am.look])⟩
  ·have e : k = 16 := by omega
   subst e
   simp (maxSteps := 4000000) (disch := omega) only [rq, simprocAttr, ↓e0, h, Qtt, QrO, QpY, Qdc]
theorem Qnz {P : Prg} {f t0 : Nat} (b : Qf P f 11 [.tmp 2] (Xy t0)) : Qdv P f := by
 intro x hx
 have l33 := Ze hx
 have ho := Zl x
 have e0 : (Qn x).drop 0 = .int .i64 x.sh :: (ks .i32 x.tp ++ ks .i32 x.ps) := rfl
 refine VC.of_acall (by simp [isDL, isD, Zz]) rfl (ACall.of_body b (by simp) ?_)
 by_cases h9 : x.sh = 9
 ·simp (maxSteps := 4000000) (disch := omega) only [rq, simprocAttr, Xy, l33, ho, ↓e0, h9, Qrm]
 by_cases h10 : x.sh = 10
 ·simp (maxSteps := 4000000) (disch := omega) only [rq, simprocAttr, Xy, l33, ho, ↓e0, h10, Qrm]
 ·simp (maxSteps := 4000000) (disch := omega) only [rq, simprocAttr, Xy, l33, ho, ↓e0, Qrm]
def Qk9 (i : Nat) : Int := if i = 0 then 4 else if i < 4 then 2 else 1
def Qmv (P : Prg) (f : Nat) : Prop := ∀ i : Nat, VC P f [.int .i64 i] (.int .i32 (Qk9 i))
theorem QoX {P : Prg} {f : Nat} (b : Qf P f 9 [.tmp 2] X9) : Qmv P f := by
 intro i
 refine VC.of_acall rfl rfl (ACall.of_body b (by simp) ?_)
 by_cases h0 : i = 0
 ·subst h0; simp (maxSteps := 4000000) (disch := omega) only [rq, simprocAttr, X9, Qk9, Int.natCast_zero]
 by_cases h1 : i < 4
 ·simp (maxSteps := 4000000) (disch := omega) only [rq, simprocAttr, X9, Qk9, h0]
 ·simp (maxSteps := 4000000) (disch := omega) only [rq, simprocAttr, X9, Qk9, h0]
def sgn (x : Int) : Int := if x < 0 then -1 else if 0 < x then 1 else 0
def Qrz (x : Jq) (w : Int) (k : Nat) : Int := w32 (x.tp.getD k 0 + Qk9 k * sgn (x.ps.getD k 0) * sgn w)
def XI (x : Jq) (w : Int) (k : Nat) : List Int := (List.range 16).map fun i => if i < k then Qrz x w i else x.tp.getD i 0
def lf (x : Jq) (w : Int) (k : Nat) : Jq := { x with tp := XI x w k }
def Qab (x : Jq) (w : Int) : Jq := lf x w 16
theorem QnO {l : List Int} (h : l.length = 16) : (List.range 16).map (fun i => l.getD i 0) = l := by
 apply List.ext_getElem (by simp [h])
 intro i h1 h2
 simp [List.getD_eq_getElem?_getD, List.getElem?_eq_getElem h2]
theorem QpN (x : Jq) (w : Int) (k : Nat) : (XI x w k).length = 16 := by simp [XI]
theorem QgK {x : Jq} (h : QbH x) (w : Int) : XI x w 0 = x.tp := by
 have := QnO h.1
 simpa [XI] using this
theorem QnU (x : Jq) (w : Int) {k : Nat} (hk : k < 16) : (XI x w k).getD k 0 = x.tp.getD k 0 := by
 simp [XI, List.getD_eq_getElem?_getD, hk]
theorem QpM (x : Jq) (w : Int) {k : Nat} (hk : k < 16) : (XI x w k).set k (Qrz x w k) = XI x w (k + 1) := by
 apply List.ext_getElem (by simp [XI])
 intro i h1 h2
 rw [List.getElem_set]
 simp only [XI, List.getElem_map, List.getElem_range]
 by_cases e : k = i
 ·subst e; simp
 ·rw [if_neg e]
  by_cases h : i < k
  ·rw [if_pos h, if_pos (by omega)]
  ·rw [if_neg h, if_neg (by omega)]
theorem QgL (x : Jq) (w : Int) {k : Nat} (h : Qrz x w k = x.tp.getD k 0) : XI x w (k + 1) = XI x w k := by
 simp only [XI]
 apply List.map_congr_left
 intro i _
 by_cases e : i = k
 ·subst e; simp [h]
 ·by_cases h : i < k
  ·rw [if_pos h, if_pos (by omega)]
  ·rw [if_neg h, if_neg (by omega)]
theorem Qrj {x : Jq} (h : QbH x) (w : Int) (k : Nat) : I32 (XI x w k) := by
 intro v hv
 simp only [XI, List.mem_map] at hv
 obtain ⟨i, _, rfl⟩ := hv
 split
 ·exact QcB _
 ·exact XY h.2.2.1 i
theorem QjJ {x : Jq} (h : QbH x) (w : Int) (k : Nat) : QbH (lf x w k) := ⟨QpN x w k, h.2.1, Qrj h w k, h.2.2.2⟩
theorem QeH {x : Jq} (h : QbH x) (w : Int) : QbH (Qab x w) := QjJ h w 16
theorem Qr7 {x : Jq} (h : QbH x) : Qab x 0 = x := by
 have key : ∀ k, XI x 0 k = x.tp := fun k => by
  induction k with
  | zero => exact QgK h 0
  | succ k ih =>
   rw [QgL x 0, ih]
   have := XY h.2.2.1 k
   simp only [Qrz, sgn]
   simp
   exact QoJ (by simpa using this.1) (by simpa using this.2)
 simp [Qab, lf, key]
def QiE (P : Prg) (f : Nat) : Prop := ∀ (x : Jq) (w : Int), QbH x → x.sh = 9 ∨ x.sh = 10 → VC P f [.agg (Qn x), .int .i32 w] (.tup [.agg (Qn (Qab x w)), .int .i64 0])
theorem QoW {s : Int} (h : s = 9 ∨ s = 10) : Qrm s = 0 := by simp [Qrm, h]
theorem Qnx {P : Prg} {f fC fS t0 : Nat} (b : Qf P f 53 [.cell 4 t0, .tmp 5] (Qbb fC fS t0)) (ht : ZJ P t0 = some (some 33)) (hC : Qdv P fC) (hS : Qmv P fS) : QiE P f := by
 intro x w hx hs
 have l33 := Ze hx
 have tk : (Qn x).take 33 = Qn x := QF (by omega)
 have ho := Zl x
 have hc := QoW hs
 have pp := QgQ hx
 have lw := Ze (QeH hx w)
 have tkw : (Qn (Qab x w)).take 33 = Qn (Qab x w) := QF (by omega)
 have how := Zl (Qab x w)
 refine VC.of_acall (by simp [isDL, isD, Zz]) (by simp [isD, isDL, Zz]) (ACall.of_body b (by simp) ?_)
 simp (maxSteps := 4000000) (disch := omega) only [rq, simprocAttr, Qbb, l33, tk, ho]
 refine Qa.vc (hC x hx) ?_
 by_cases hw : w = 0
 ·subst hw
  have e := Qr7 hx
  simp (maxSteps := 4000000) (disch := omega) only [rq, simprocAttr, l33, tk, ho, hc, ZK, ht, e]
 simp (maxSteps := 4000000) (disch := omega) only [rq, simprocAttr, l33, tk, ho, hc, pp]
 refine Q0.by (ι := Nat) (fun k => ⟨[(20, .int .i64 k), (19, .agg (ks .i32 x.ps)), (4, .ref 1 1 0), (2, .ref 0 1 0), (1, .int .i32 w), (5, .int .i64 0)], [⟨t0, 33, 1, Qn (lf x w k), 0⟩, ⟨t0, 33, 1, Qn Qi0, 0⟩]⟩) (fun k => k ≤ 16) (fun k => 16 - k) 0 (by rw [show lf x w 0 = x by simp [lf, QgK hx]]; exact Le.slots (by simp [Am.look])) (by omega) ?_
 intro k hk
 by_cases hlt : k < 16
 ·have hok := QjJ hx w k
  have e1 := QsY (K := .i32) (l := x.ps) (k := k) (by have := hx.2.1; omega)
  have e2 := Qsp hok hlt
  have e3 := fun v => QlL hok hlt v
  have e4 := QnU x w hlt
  have e5 := Ze hok
  have hu := QpM x w hlt
  have hp := XY hx.2.2.2 k
  have htp := XY hx.2.2.1 k
  have ef : ∀ v, ({ lf x w k with tp := (lf x w k).tp.set k v } : Jq) = { x with tp := (XI x w k).set k v } := fun _ => rfl
  have e7 : (lf x w k).tp.getD k 0 = x.tp.getD k 0 := e4
  by_cases p0 : x.ps.getD k 0 = 0
  ·have e6 := QgL x w (k := k) (by simp only [Qrz, p0, sgn]; simp; exact QoJ (by simpa using htp.1) (by simpa using htp.2))
   simp (maxSteps := 4000000) (disch := omega) only [rq, simprocAttr, e1, p0]
   exact ⟨k + 1, by omega, by omega, by rw [show lf x w (k + 1) = lf x w k by simp [lf, e6]]; exact Le.slots (by simp [Am.look])⟩
  ·by_cases hsame : (x.ps.getD k 0 < 0 ↔ w < 0)
   ·have e6 : Qrz x w k = w32 (x.tp.getD k 0 + Qk9 k) := by
     simp only [Qrz, sgn]; congr 1
     by_cases q : w < 0
     ·rw [if_pos q, if_pos (hsame.2 q)]; omega
     ·rw [if_neg q, if_neg (fun h => q (hsame.1 h)), if_pos (by omega), if_pos (by omega)]; omega
    rw [e6] at hu
    by_cases q : w < 0
    ·have q2 := hsame.2 q
     simp (maxSteps := 4000000) (disch := omega) only [rq, simprocAttr, e1, e2, e7]
     refine Q5.vc (hS k) ?_
     simp (maxSteps := 4000000) (disch := omega) only [rq, simprocAttr, e3, e5, QaT, ef, hu]
     exact ⟨k + 1, by omega, by omega, Le.slots (by simp [Am.look])⟩
    ·have q2 : ¬ x.ps.getD k 0 < 0 := fun h => q (hsame.1 h)
     simp (maxSteps := 4000000) (disch := omega) only [rq, simprocAttr, e1, e2, e7]
     refine Q5.vc (hS k) ?_
     simp (maxSteps := 4000000) (disch := omega) only [rq, simprocAttr, e3, e5, QaT, ef, hu]
     exact ⟨k + 1, by omega, by omega, Le.slots (by simp [Am.look])⟩
   ·have e6 : Qrz x w k = w32 (x.tp.getD k 0 - Qk9 k) := by
     simp only [Qrz, sgn]; congr 1
     by_cases q : w < 0
     ·rw [if_pos q, if_neg (fun h => hsame ⟨fun _ => q, fun _ => h⟩), if_pos (by omega)]; omega
     ·rw [if_neg q, if_pos (Classical.byContradiction fun h => hsame ⟨fun h' => absurd h' h, fun h' => absurd h' q⟩), if_pos (by omega)]; omega
    rw [e6] at hu
    by_cases q : w < 0
    ·have q2 : ¬ x.ps.getD k 0 < 0 := fun h => hsame ⟨fun _ => q, fun _ => h⟩
     simp (maxSteps := 4000000) (disch := omega) only [rq, simprocAttr, e1, e2, e7]
     refine Q5.vc (hS k) ?_
     simp (maxSteps := 4000000) (disch := omega) only [rq, simprocAttr, e3, e5, QaT, ef, hu]
     exact ⟨k + 1, by omega, by omega, Le.slots (by simp [Am.look])⟩
    ·have q2 : x.ps.getD k 0 < 0 := Classical.byContradiction fun h => hsame ⟨fun h' => absurd h' h, fun h' => absurd h' q⟩
     simp (maxSteps := 4000000) (disch := omega) only [rq, simprocAttr, e1, e2, e7]
     refine Q5.vc (hS k) ?_
     simp (maxSteps := 4000000) (disch := omega) only [rq, simprocAttr, e3, e5, QaT, ef, hu]
     exact ⟨k + 1, by omega, by omega, Le.slots (by simp [Am.look])⟩
 ·have e : k = 16 := by omega
  subst e
  have hF : lf x w 16 = Qab x w := rfl
  rw [hF]
  simp (maxSteps := 4000000) (disch := omega) only [rq, simprocAttr, lw, tkw, how, ZK, ht, Qb2]
def Qgd (x : Jq) (v : Int) : Jq := { x with ps := v :: x.ps.take 15 }
theorem QpE {x : Jq} (h : QbH x) {v : Int} (hv : -2147483648 ≤ v ∧ v ≤ 2147483647) : QbH (Qgd x v) := by
 obtain ⟨h1, h2, h3, h4⟩ := h
 refine ⟨h1, by simp [Qgd, h2], h3, fun y hy => ?_⟩
 simp only [Qgd, List.mem_cons] at hy
 rcases hy with rfl | hy
 ·exact hv
 ·exact h4 y (List.mem_of_mem_take hy)
def Qmw (P : Prg) (f : Nat) : Prop := ∀ (x : Jq) (v : Int), QbH x → x.sh = 9 ∨ x.sh = 10 → VC P f [.agg (Qn x), .int .i32 v] (.tup [.agg (Qn (Qgd x v)), .int .i64 0])
theorem QoY {P : Prg} {f fC t0 : Nat} (b : Qf P f 22 [.cell 4 t0, .tmp 5] (QbT fC t0)) (ht : ZJ P t0 = some (some 33)) (hC : Qdv P fC) : Qmw P f := by
 intro x v hx hs
 have l33 := Ze hx
 have tk : (Qn x).take 33 = Qn x := QF (by omega)
 have ho := Zl x
 have hc := QoW hs
 have pp := QgQ hx
 have h16 : (ks .i32 x.ps).length = 16 := by simp [Qd, hx.2.1]
 have o16 := JP .i32 x.ps
 refine VC.of_acall (by simp [isDL, isD, Zz]) (by simp [isD, isDL, Zz]) (ACall.of_body b (by simp) ?_)
 simp (maxSteps := 4000000) (disch := omega) only [rq, simprocAttr, QbT, l33, tk, ho]
 refine Qa.vc (hC x hx) ?_
 have hm : Nat.min 16 15 = 15 := rfl
 let y : Jq := { x with ps := x.ps.getD 0 0 :: x.ps.take 15 }
 have hy : QbH y := QpE hx (XY hx.2.2.2 0)
 have hcp : (Qn x).take 18 ++ (ks .i32 x.ps).take 15 ++ (Qn x).drop 33 = Qn y := by
  have e1 : (Qn x).drop 33 = [] := List.drop_eq_nil_of_le (by omega)
  have e2 : (ks .i32 x.tp).length = 16 := by simp [Qd, hx.1]
  have e3 : (ks .i32 x.ps).take 1 = [.int .i32 (x.ps.getD 0 0)] := by
   have h1 : 0 < x.ps.length := by have := hx.2.1; omega
   match hps : x.ps, h1 with
   | a :: l, _ => rfl
  rw [e1, List.append_nil]
  simp only [Qn, List.take_succ_cons, List.cons_append, y]
  congr 1
  rw [List.take_append, List.take_of_length_le (by omega), e2, e3, List.append_assoc, QpQ]
  rfl
 have hset : (Qn y).take 17 ++ [.int .i32 v] ++ (Qn y).drop 18 = Qn (Qgd x v) := Qj3 hy (k := 0) (by omega) v
 have ly := Ze hy
 have lp : (Qn (Qgd x v)).length = 33 := by rw [← hset]; simp [ly]
 have tkp : (Qn (Qgd x v)).take 33 = Qn (Qgd x v) := QF (by omega)
 have op := Zl (Qgd x v)
 simp (maxSteps := 4000000) (disch := omega) only [rq, simprocAttr, l33, tk, ho, hc, pp, h16, o16, hm, hcp, hset, ly, lp, tkp, op, ZK, ht, Qb2]
def Qap (x : Jq) (v y : Int) : Jq := Qgd (Qab x y) v
theorem Qfc {x : Jq} (h : QbH x) {v : Int} (hv : -2147483648 ≤ v ∧ v ≤ 2147483647) (y : Int) : QbH (Qap x v y) := QpE (QeH h y) hv
def QfQ (P : Prg) (f : Nat) : Prop := ∀ (x : Jq) (v y : Int), QbH x → x.sh = 9 ∨ x.sh = 10 → -2147483648 ≤ v ∧ v ≤ 2147483647 → VC P f [.agg (Qn x), .int .i32 v, .int .i32 y] (.agg (Qn (Qap x v y)))
theorem QnT {P : Prg} {f fL fP t0 : Nat} (b : Qf P f 20 [.cell 6 t0] (Qbd fL fP t0)) (ht : ZJ P t0 = some (some 33)) (hL : QiE P fL) (hP : Qmw P fP) : QfQ P f := by
 intro x v y hx hs hv
 have l1 := Ze hx
 have t1 : (Qn x).take 33 = Qn x := QF (by omega)
 have o1 := Zl x
 have l2 := Ze (QeH hx y)
 have t2 : (Qn (Qab x y)).take 33 = Qn (Qab x y) := QF (by omega)
 have o2 := Zl (Qab x y)
 have l3 := Ze (Qfc hx hv y)
 have t3 : (Qn (Qap x v y)).take 33 = Qn (Qap x v y) := QF (by omega)
 have o3 := Zl (Qap x v y)
 have d1 : (Qn x).drop 33 = [] := List.drop_eq_nil_of_le (by omega)
 have d2 : (Qn (Qab x y)).drop 33 = [] := List.drop_eq_nil_of_le (by omega)
 refine VC.of_acall (by simp [isDL, isD, Zz]) (by simp [isD, Zz]) (ACall.of_body b (by simp) ?_)
 simp (maxSteps := 4000000) (disch := omega) only [rq, simprocAttr, Qbd, l1, t1, o1]
 refine Qa.vc (hL x y hx hs) ?_
 simp (maxSteps := 4000000) (disch := omega) only [rq, simprocAttr, l1, t1, o1, l2, t2, o2, d1]
 refine Qa.vc (hP (Qab x y) v (QeH hx y) hs) ?_
 rw [← Qap]
 simp (maxSteps := 4000000) (disch := omega) only [rq, simprocAttr, l1, t1, o1, l2, t2, o2, l3, t3, o3, d1, d2, ZK, ht, Qb2]
def QpZ (x : Jq) (v : Int) : Int := w32 (v - QpY x)
def Qvl (x : Jq) (v : Int) : Jq := Qap x v (QpZ x v)
def QdY (P : Prg) (f : Nat) : Prop := ∀ (x : Jq) (v : Int), QbH x → x.sh = 9 ∨ x.sh = 10 → -2147483648 ≤ v ∧ v ≤ 2147483647 → VC P f [.agg (Qn x), .int .i32 v] (.tup [.int .i32 (QpZ x v), .agg (Qn (Qvl x v)), .int .i64 0])
theorem Qlu {P : Prg} {f fG fB t0 : Nat} (b : Qf P f 27 [.tmp 4, .cell 5 t0, .tmp 6] (Qav fG fB t0)) (ht : ZJ P t0 = some (some 33)) (hG : QiF P fG) (hB : QfQ P fB) : QdY P f := by
 intro x v hx hs hv
 have l1 := Ze hx
 have t1 : (Qn x).take 33 = Qn x := QF (by omega)
 have o1 := Zl x
 have l3 := Ze (Qfc hx hv (QpZ x v))
 have t3 : (Qn (Qap x v (QpZ x v))).take 33 = Qn (Qap x v (QpZ x v)) := QF (by omega)
 have o3 := Zl (Qap x v (QpZ x v))
 refine VC.of_acall (by simp [isDL, isD, Zz]) (by simp [isD, isDL, Zz]) (ACall.of_body b (by simp) ?_)
 simp (maxSteps := 4000000) (disch := omega) only [rq, simprocAttr, Qav, l1, t1, o1]
 refine Qa.vc (hG x hx hs) ?_
 simp (maxSteps := 4000000) (disch := omega) only [rq, simprocAttr, l1, t1, o1, QaT]
 refine Qa.vc (hB x v (QpZ x v) hx hs hv) ?_
 simp only [QpZ] at l3 t3 o3
 simp (maxSteps := 4000000) (disch := omega) only [rq, simprocAttr, l1, t1, o1, l3, t3, o3, ZK, ht, Qb2, Qvl, QpZ]
def Qee (b last : Int) : Int := if b = 8 then 15 * last / 16 else 31 * last / 32
def QiQ (P : Prg) (f : Nat) : Prop := ∀ b : Int, Z2 b ≠ 0 → VC P f [.int .i64 b] (.tup [.int .i64 (if b = 8 then 4 else 5), .int .i64 0])
theorem QlH {P : Prg} {f : Nat} (b : Qf P f 10 [.tmp 2, .tmp 3] Z9) : QiQ P f := by
 intro x hx
 refine VC.of_acall rfl rfl (ACall.of_body b (by simp) ?_)
 rcases Q8 x with ⟨rfl, h⟩ | ⟨rfl, h⟩ | ⟨rfl, h⟩ | ⟨h2, h3, h4, h⟩
 ·simp (maxSteps := 4000000) (disch := omega) only [rq, simprocAttr, Z9]
 ·simp (maxSteps := 4000000) (disch := omega) only [rq, simprocAttr, Z9]
 ·simp (maxSteps := 4000000) (disch := omega) only [rq, simprocAttr, Z9]
 ·exact absurd h hx
theorem Qtw {x : Int} (h : -2147483648 ≤ x ∧ x ≤ 2147483647) : Qi true .i64 x 4 = some (.int .i64 (x * 16)) := by
 show some (AV.int .i64 (IntKind.i64.wrap (x * 16))) = _
 rw [QaR (by omega) (by omega)]
theorem Qtv {x : Int} (h : -2147483648 ≤ x ∧ x ≤ 2147483647) : Qi true .i64 x 5 = some (.int .i64 (x * 32)) := by
 show some (AV.int .i64 (IntKind.i64.wrap (x * 32))) = _
 rw [QaR (by omega) (by omega)]
theorem Qts (x : Int) : Qi false .i64 x 4 = some (.int .i64 (x / 16)) := by
 show some (AV.int .i64 (x.fdiv 16)) = _
 rw [Int.fdiv_eq_ediv_of_nonneg _ (by omega)]
theorem Qtr (x : Int) : Qi false .i64 x 5 = some (.int .i64 (x / 32)) := by
 show some (AV.int .i64 (x.fdiv 32)) = _
 rw [Int.fdiv_eq_ediv_of_nonneg _ (by omega)]
def QiP (P : Prg) (f : Nat) : Prop := ∀ (b l : Int), -2147483648 ≤ l ∧ l ≤ 2147483647 → VC P f [.int .i64 (if b = 8 then 4 else 5), .int .i32 l] (.int .i32 (Qee b l))
theorem QlG {P : Prg} {f : Nat} (b : Qf P f 16 [.tmp 4] X3) : QiP P f := by
 intro x l hl
 refine VC.of_acall rfl rfl (ACall.of_body b (by simp) ?_)
 have e1 : l * 16 - l = 15 * l := by omega
 have e2 : l * 32 - l = 31 * l := by omega
 have a := Qtw hl
 have c := Qtv hl
 by_cases h : x = 8
 ·simp (maxSteps := 4000000) (disch := omega) only [rq, simprocAttr, X3, h, Qee, a, Qts, e1]
 ·simp (maxSteps := 4000000) (disch := omega) only [rq, simprocAttr, X3, if_neg h, Qee, c, Qtr, e2]
def QiR (P : Prg) (f : Nat) : Prop := ∀ (b l : Int), Z2 b ≠ 0 → -2147483648 ≤ l ∧ l ≤ 2147483647 → VC P f [.int .i64 b, .int .i32 l] (.tup [.int .i32 (Qee b l), .int .i64 0])
theorem QlI {P : Prg} {f fS fg : Nat} (b : Qf P f 19 [.tmp 4, .tmp 5] (Qax fS fg)) (hS : QiQ P fS) (hg : QiP P fg) : QiR P f := by
 intro x l hx hl
 refine VC.of_acall rfl rfl (ACall.of_body b (by simp) ?_)
 simp (maxSteps := 4000000) (disch := omega) only [rq, simprocAttr, Qax]
 refine Qa.vc (hS x hx) ?_
 simp (maxSteps := 4000000) (disch := omega) only [rq, simprocAttr]
 refine Qa.vc (hg x l hl) ?_
 simp (maxSteps := 4000000) (disch := omega) only [rq, simprocAttr]
structure JF where
 bits : Int
 last : Int
 fl : Jq
def Zs (c : JF) : List AV := .int .i64 c.bits :: .int .i32 c.last :: Qn c.fl
def QsQ (c : JF) : Prop := Z2 c.bits ≠ 0 ∧ c.fl.sh = QaY c.bits ∧ QbH c.fl ∧ (-2147483648 ≤ c.last ∧ c.last ≤ 2147483647)
def QcT : JF := ⟨0, 0, Qi0⟩
theorem XZ {c : JF} (h : QbH c.fl) : (Zs c).length = 35 := by simp [Zs, Ze h]
theorem Qag (c : JF) : (Zs c).all AV.one = true := by simp [Zs, AV.one, Zl]
theorem Qdi (c : JF) : isDL (Zs c) = true := by simp [Zs, isDL, isD, Zz]
theorem QrP (b : Int) : QaY b = 9 ∨ QaY b = 10 := by unfold QaY; split <;> simp
theorem QpF {b : Int} {t : List Int} (h1 : t.length = 16) (h2 : I32 t) : QbH (QhK b t) := ⟨h1, by simp [QhK, z16], h2, fun x hx => by simp [QhK, z16] at hx; omega⟩
theorem Qey : Zs QcT = [.int .i64 0, .int .i32 0, .int .i64 0, .int .i32 0, .int .i32 0, .int .i32 0, .int .i32 0, .int .i32 0, .int .i32 0, .int .i32 0, .int .i32 0, .int .i32 0, .int .i32 0, .int .i32 0, .int .i32 0, .int .i32 0, .int .i32 0, .int .i32 0, .int .i32 0, .int .i32 0, .int .i32 0, .int .i32 0, .int .i32 0, .int .i32 0, .int .i32 0, .int .i32 0, .int .i32 0, .int .i32 0, .int .i32 0, .int .i32 0, .int .i32 0, .int .i32 0, .int .i32 0, .int .i32 0, .int .i32 0] := rfl
def QdK (b : Int) (t : List Int) : JF := ⟨b, 0, QhK b t⟩
def Qog (b : Int) (t : List Int) : AV := if Z2 b = 0 then .tup [.agg (Zs QcT), .int .i64 2] else .tup [.agg (Zs (QdK b t)), .int .i64 0]
def Qrd (P : Prg) (f : Nat) : Prop := ∀ (b : Int) (t : List Int), t.length = 16 → I32 t → VC P f [.int .i64 b, .agg (ks .i32 t)] (Qog b t)
theorem Qsi (b : Int) (t : List Int) : isD (Qog b t) = true := by unfold Qog; split <;> simp [isD, isDL, Qdi]
theorem QqE {P : Prg} {f fT t0 t1 t2 : Nat} (b : Qf P f 21 [.cell 4 t1, .tmp 5] (QbW fT t0 t1 t2)) (ht : ZJ P t1 = some (some 35)) (hT : Qnm P fT) : Qrd P f := by
 intro x t hl hI
 have hk : (ks .i32 t).length = 16 := by simp [Qd, hl]
 have h1 := JP .i32 t
 have tk16 : (ks .i32 t).take 16 = ks .i32 t := QF (by omega)
 have hok : QbH (QhK x t) := QpF hl hI
 have l1 := Ze hok
 have t1' : (Qn (QhK x t)).take 33 = Qn (QhK x t) := QF (by omega)
 have o1 := Zl (QhK x t)
 have lc := XZ (c := QdK x t) hok
 have tc : (Zs (QdK x t)).take 35 = Zs (QdK x t) := QF (by omega)
 have oc := Qag (QdK x t)
 have mk : AV.int .i64 x :: .int .i32 0 :: Qn (QhK x t) = Zs (QdK x t) := rfl
 refine VC.of_acall (by simp [isDL, isD, QB]) (Qsi _ _) (ACall.of_body b (by simp) ?_)
 simp (maxSteps := 4000000) (disch := omega) only [rq, simprocAttr, QbW, hk, h1, tk16]
 refine Qa.vc (hT x t hl) ?_
 by_cases h0 : Z2 x = 0
 ·simp (maxSteps := 4000000) (disch := omega) only [rq, simprocAttr, Qf7, h0, Qog, Qb2, Qey, ZK, ht]
 ·simp (maxSteps := 4000000) (disch := omega) only [rq, simprocAttr, Qf7, if_neg h0, Qog, l1, t1', o1, lc, tc, oc, mk, Qey, ZK, ht]
theorem Quf {c : JF} (h : QbH c.fl) : ((Zs c).drop 2).take 33 = Qn c.fl := by
 simp only [Zs, List.drop_succ_cons, List.drop_zero]
 exact QF (by rw [Ze h]; omega)
theorem QqC {c : JF} (h : QbH c.fl) : ((Zs c).drop 3).take 16 = ks .i32 c.fl.tp := Qj2 h
def QiV (P : Prg) (f : Nat) : Prop := ∀ c : JF, QsQ c → VC P f [.agg (Zs c)] (.int .i64 0)
theorem Ql8 {P : Prg} {f fT t0 t1 : Nat} (b : Qf P f 24 [.tmp 2] (QaC fT t0 t1)) (hT : Qnm P fT) : QiV P f := by
 intro c ⟨h1, h2, h3, h4⟩
 have lc := XZ h3
 have oc := Qag c
 have e0 : (Zs c).drop 0 = .int .i64 c.bits :: .int .i32 c.last :: Qn c.fl := rfl
 have e2 : (Zs c).drop 2 = .int .i64 c.fl.sh :: (ks .i32 c.fl.tp ++ ks .i32 c.fl.ps) := rfl
 have et := QqC h3
 have hk : (ks .i32 c.fl.tp).length = 16 := by simp [Qd, h3.1]
 have hok : QbH (QhK c.bits c.fl.tp) := QpF h3.1 h3.2.2.1
 have l1 := Ze hok
 have t1' : (Qn (QhK c.bits c.fl.tp)).take 33 = Qn (QhK c.bits c.fl.tp) := QF (by omega)
 have o1 := Zl (QhK c.bits c.fl.tp)
 have en : (Qn (QhK c.bits c.fl.tp)).drop 0 = .int .i64 (QaY c.bits) :: (ks .i32 c.fl.tp ++ ks .i32 z16) := rfl
 have dn : (Qn (QhK c.bits c.fl.tp)).drop 33 = [] := List.drop_eq_nil_of_le (by omega)
 refine VC.of_acall (by simp [isDL, isD, Qdi]) rfl (ACall.of_body b (by simp) ?_)
 simp (maxSteps := 4000000) (disch := omega) only [rq, simprocAttr, QaC, lc, oc, ↓e0, et]
 refine Qa.vc (hT c.bits c.fl.tp h3.1) ?_
 simp (maxSteps := 4000000) (disch := omega) only [rq, simprocAttr, Qf7, if_neg h1, l1, t1', o1, ↓en, ↓e2, h2, dn]
def QuX (c : JF) (x : Int) : Int := w32 (x - Qee c.bits c.last)
def Ql9 (c : JF) (x : Int) : Int := QpZ c.fl (QuX c x)
def Qbs (c : JF) (x : Int) : JF := ⟨c.bits, x, Qvl c.fl (QuX c x)⟩
theorem Qlr {c : JF} (h : QsQ c) {x : Int} (hx : -2147483648 ≤ x ∧ x ≤ 2147483647) : QsQ (Qbs c x) := ⟨h.1, h.2.1, Qfc h.2.2.1 (QcB _) _, hx⟩
def Qd1 (P : Prg) (f : Nat) : Prop := ∀ (c : JF) (x : Int), QsQ c → -2147483648 ≤ x ∧ x ≤ 2147483647 → VC P f [.agg (Zs c), .int .i32 x] (.tup [.int .i32 (Ql9 c x), .agg (Zs (Qbs c x)), .int .i64 0])
theorem Qia {P : Prg} {f fC fG fF t0 t1 : Nat} (b : Qf P f 44 [.tmp 4, .cell 5 t0, .tmp 6] (Jo fC fG fF t0 t1)) (ht : ZJ P t0 = some (some 35)) (hC : QiV P fC) (hG : QiR P fG) (hF : QdY P fF) : Qd1 P f := by
 intro c x hc hx
 obtain ⟨h1, h2, h3, h4⟩ := id hc
 have hs : c.fl.sh = 9 ∨ c.fl.sh = 10 := by rw [h2]; exact QrP _
 have lc := XZ h3
 have tc : (Zs c).take 35 = Zs c := QF (by omega)
 have oc := Qag c
 have e0 : (Zs c).drop 0 = .int .i64 c.bits :: .int .i32 c.last :: Qn c.fl := rfl
 have e1 : (Zs c).drop 1 = .int .i32 c.last :: Qn c.fl := rfl
 have e2 := Quf h3
 have hzr := QcB (x - Qee c.bits c.last)
 have hok := Qlr hc hx
 have l1 := Ze hok.2.2.1
 have t1' : (Qn (Qbs c x).fl).take 33 = Qn (Qbs c x).fl := QF (by omega)
 have o1 := Zl (Qbs c x).fl
 have d1 : (Qn (Qbs c x).fl).drop 33 = [] := List.drop_eq_nil_of_le (by omega)
 have l2 := XZ hok.2.2.1
 have t2 : (Zs (Qbs c x)).take 35 = Zs (Qbs c x) := QF (by omega)
 have o2 := Qag (Qbs c x)
 have mk : AV.int .i64 c.bits :: .int .i32 x :: Qn (Qbs c x).fl = Zs (Qbs c x) := rfl
 have hfe : Qvl c.fl (w32 (x - Qee c.bits c.last)) = (Qbs c x).fl := rfl
 have hye : QpZ c.fl (w32 (x - Qee c.bits c.last)) = Ql9 c x := rfl
 refine VC.of_acall (by simp [isDL, isD, Qdi]) (by simp [isD, isDL, Qdi]) (ACall.of_body b (by simp) ?_)
 simp (maxSteps := 4000000) (disch := omega) only [rq, simprocAttr, Jo, lc, tc, oc]
 refine Qa.vc (hC c hc) ?_
 simp (maxSteps := 4000000) (disch := omega) only [rq, simprocAttr, lc, tc, oc, ↓e0, ↓e1]
 refine Qa.vc (hG c.bits c.last h1 h4) ?_
 simp (maxSteps := 4000000) (disch := omega) only [rq, simprocAttr, lc, tc, oc, e2, QaT]
 refine Qa.vc (hF c.fl _ h3 hs hzr) ?_
 rw [hfe, hye]
 simp (maxSteps := 4000000) (disch := omega) only [rq, simprocAttr, lc, tc, oc, ↓e0, l1, t1', o1, d1, l2, t2, o2, mk, ZK, ht, Qey]
theorem QoU {x : Int} (h : x < 0) (n : Int) : x.tdiv n = -(-x / n) ∧ x.tmod n = -(-x % n) := by
 have e : x = -(-x) := by omega
 constructor
 ·rw [e, Int.neg_tdiv, Int.tdiv_eq_ediv_of_nonneg (by omega)]; simp
 ·rw [e, Int.neg_tmod, Int.tmod_eq_emod_of_nonneg (by omega)]; simp
def Qvx (x : Jq) (k : Nat) : List Int := (List.range 16).map fun j => if k < j then x.ps.getD (j - 1) 0 else x.ps.getD j 0
def pf (x : Jq) (k : Nat) : Jq := { x with ps := Qvx x k }
def Qj0 (x : Int) : Int := if x < 0 then -2 * x - 1 else 2 * x
def Qq9 (P : Prg) (f : Nat) : Prop := ∀ x : Int, -2147483648 ≤ x ∧ x ≤ 2147483647 → VC P f [.int .i32 x] (.int .u32 (Qj0 x))
theorem Qp7 {x : Int} (h : -2147483648 ≤ x ∧ x ≤ 2147483647) : 0 ≤ Qj0 x ∧ Qj0 x < 4294967296 := by unfold Qj0; split <;> omega
theorem Qrt {a : Nat} (h : a < 4294967296) : (BitVec.ofInt 32 (a : Int) ^^^ BitVec.ofInt 32 4294967295).toNat = 4294967295 - a := by
 have e : BitVec.ofInt 32 4294967295 = BitVec.allOnes 32 := by decide
 rw [e, BitVec.xor_allOnes, BitVec.toNat_not]
 have : (BitVec.ofInt 32 (a : Int)).toNat = a := by simp; omega
 rw [this]
theorem QoD {a : Nat} (h : a < 4294967296) : (BitVec.ofInt 32 (a : Int) ^^^ BitVec.ofInt 32 0).toNat = a := by
 have : (BitVec.ofInt 32 (a : Int)).toNat = a := by simp; omega
 rw [BitVec.toNat_xor, this]
 simp
theorem Qp6 {P : Prg} {f : Nat} (b : Qf P f 10 [.tmp 2] Qah) : Qq9 P f := by
 intro x hx
 refine VC.of_acall rfl rfl (ACall.of_body b (by simp) ?_)
 by_cases h : x < 0
 ·have a1 : IntKind.u32.wrap x = x + 4294967296 := by rw [J5]; omega
  have a2 : Qi true .u32 (x + 4294967296) 1 = some (.int .u32 (2 * x + 4294967296)) := by
   show some (AV.int .u32 (IntKind.u32.wrap ((x + 4294967296) * 2))) = _
   rw [J5]; congr 2; omega
  have a3 : Qi false .i32 x 31 = some (.int .i32 (-1)) := by
   show some (AV.int .i32 (x.fdiv 2147483648)) = _
   rw [Int.fdiv_eq_ediv_of_nonneg _ (by omega)]; congr 2; omega
  have a4 : IntKind.u32.wrap (-1) = 4294967295 := rfl
  have a5 : (BitVec.ofInt IntKind.u32.bits (2 * x + 4294967296) ^^^ BitVec.ofInt IntKind.u32.bits 4294967295).toNat = (-2 * x - 1).toNat := by
   show (BitVec.ofInt 32 (2 * x + 4294967296) ^^^ BitVec.ofInt 32 4294967295).toNat = (-2 * x - 1).toNat
   have := Qrt (a := (2 * x + 4294967296).toNat) (by omega)
   rw [show (((2 * x + 4294967296).toNat : Nat) : Int) = 2 * x + 4294967296 by omega] at this
   rw [this]; omega
  have a6 : (((BitVec.ofInt IntKind.u32.bits (2 * x + 4294967296) ^^^ BitVec.ofInt IntKind.u32.bits 4294967295).toNat : Nat) : Int) = -2 * x - 1 := by rw [a5]; omega
  simp (maxSteps := 4000000) (disch := omega) only [rq, simprocAttr, Qah, a1, a2, a3, a4, a6, Qj0]
 ·have a2 : Qi true .u32 x 1 = some (.int .u32 (2 * x)) := by
   show some (AV.int .u32 (IntKind.u32.wrap (x * 2))) = _
   rw [J5]; congr 2; omega
  have a3 : Qi false .i32 x 31 = some (.int .i32 0) := by
   show some (AV.int .i32 (x.fdiv 2147483648)) = _
   rw [Int.fdiv_eq_ediv_of_nonneg _ (by omega)]; congr 2; omega
  have a5 : (BitVec.ofInt IntKind.u32.bits (2 * x) ^^^ BitVec.ofInt IntKind.u32.bits 0).toNat = (2 * x).toNat := by
   show (BitVec.ofInt 32 (2 * x) ^^^ BitVec.ofInt 32 0).toNat = (2 * x).toNat
   have := QoD (a := (2 * x).toNat) (by omega)
   rwa [show (((2 * x).toNat : Nat) : Int) = 2 * x by omega] at this
  have a6 : (((BitVec.ofInt IntKind.u32.bits (2 * x) ^^^ BitVec.ofInt IntKind.u32.bits 0).toNat : Nat) : Int) = 2 * x := by rw [a5]; omega
  simp (maxSteps := 4000000) (disch := omega) only [rq, simprocAttr, Qah, a2, a3, a6, Qj0]
theorem QsX {K : IntKind} {l : List Int} {i : Nat} (h : i < l.length) (v : Int) : (ks K l).take i ++ [.int K v] ++ (ks K l).drop (i + 1) = ks K (l.set i v) := by
 rw [List.set_eq_take_append_cons_drop, if_pos h]
 simp [ks]
theorem QhQ {K : IntKind} {l : List Int} {i : Nat} (h : i < l.length) : (ks K l).drop i = .int K (l.getD i 0) :: ks K (l.drop (i + 1)) := by
 rw [QdQ h]; simp [List.getD_eq_getElem?_getD, List.getElem?_eq_getElem h]
theorem QtZ {α : Type} (l : List α) (x : α) : (l ++ [x])[l.length]? = some x := by simp
theorem Qtz {α : Type} (l : List α) (x y : α) : (l ++ [x]).set l.length y = l ++ [y] := by simp
def QiU (t : Nat) (P : Prg) (f : Nat) : Prop := ∀ (l : List Int) (ob : List Ob) (K : AV → List Ob → Prop), 0 < l.length → l.length ≤ 1000000 → K (.own ob.length l.length) (ob ++ [⟨t, 1, l.length, ks .i32 l, 0⟩]) → ACall P f [il l] ob K
theorem QqA {P : Prg} {f t0 : Nat} (b : Qf P f 8 [.tmp 2] (Qq t0)) : QiU t0 P f := by
 intro l ob K h0 h1 hK
 refine ACall.of_body b (by simp) ?_
 have g1 := fun x : Ob => QtZ ob x
 have g2 := fun x y : Ob => Qtz ob x y
 have n0 : l.length ≠ 0 := by omega
 simp (maxSteps := 4000000) (disch := omega) only [rq, simprocAttr, Qq, il, QmW, n0, g1, g2, Qac]
 exact hK
def Qf0 (L : List Int) (k i : Nat) : List Int := (List.range L.length).map fun j => if k ≤ j ∧ j < k + i then w32 (L.getD (j + 1) 0 - L.getD j 0) else L.getD j 0
def Qff (L : List Int) (k n : Nat) : List Int := if n = 1 then L else (Qf0 L k (n - 1)).set (k + (n - 1)) (w32 (L.getD (k + (n - 1)) 0 - (w32 (L.getD (k + (n - 1)) 0 - L.getD (k + (n - 2)) 0)).tdiv 2))
theorem Qdj {a b : List Int} (h : a.length = b.length) (h2 : ∀ j, j < a.length → a.getD j 0 = b.getD j 0) : a = b := by
 apply List.ext_getElem h
 intro i h1 h3
 have := h2 i h1
 simpa [List.getD_eq_getElem?_getD, List.getElem?_eq_getElem h1, List.getElem?_eq_getElem h3] using this
theorem QaZ (L : List Int) (k i : Nat) : (Qf0 L k i).length = L.length := by simp [Qf0]
theorem Xb {g : Nat → Int} {n j : Nat} (h : j < n) : ((List.range n).map g).getD j 0 = g j := by
 simp [List.getD_eq_getElem?_getD, h]
theorem QmP {l : List Int} {i j : Nat} {v : Int} (h : j < l.length) : (l.set i v).getD j 0 = if i = j then v else l.getD j 0 := by
 simp only [List.getD_eq_getElem?_getD, List.getElem?_set]
 split
 ·subst_vars; simp [h]
 ·rfl
theorem QuF (L : List Int) (k : Nat) : Qf0 L k 0 = L := Qdj (QaZ _ _ _) fun j hj => by
 rw [QaZ] at hj
 rw [Qf0, Xb hj, if_neg (by omega)]
theorem Qpj {L : List Int} {k i j : Nat} (h : j < L.length) (h2 : k + i ≤ j) : (Qf0 L k i).getD j 0 = L.getD j 0 := by
 rw [Qf0, Xb h, if_neg (by omega)]
theorem QrQ {L : List Int} {k i : Nat} (h : k + i < L.length) : (Qf0 L k i).set (k + i) (w32 (L.getD (k + i + 1) 0 - L.getD (k + i) 0)) = Qf0 L k (i + 1) := Qdj (by simp [QaZ]) fun j hj => by
 have hj' : j < L.length := by simpa [QaZ] using hj
 rw [QmP (by rw [QaZ]; exact hj'), Qf0, Qf0, Xb hj', Xb hj']
 by_cases e : k + i = j
 ·subst e; rw [if_pos rfl, if_pos (by omega)]
 ·rw [if_neg e]
  by_cases q : k ≤ j ∧ j < k + i
  ·rw [if_pos q, if_pos (by omega)]
  ·rw [if_neg q, if_neg (by omega)]
def Qun (P : Prg) (f : Nat) : Prop := ∀ (t : Nat) (L : List Int) (k n : Nat) (K : AV → List Ob → Prop), I32 L → 1 ≤ n → k + n ≤ L.length → L.length ≤ 1000000 →
 K (.tup []) [⟨t, 1, L.length, ks .i32 (Qff L k n), 0⟩] → ACall P f [.view 0 L.length k n] [⟨t, 1, L.length, ks .i32 L, 0⟩] K
theorem QoV {x : Int} (h : -2147483648 ≤ x ∧ x ≤ 2147483647) : -2147483648 ≤ x.tdiv 2 ∧ x.tdiv 2 ≤ 2147483647 := by
 by_cases hx : x < 0
 ·rw [(QoU hx 2).1]; omega
 ·rw [Int.tdiv_eq_ediv_of_nonneg (by omega)]; omega
theorem QtJ {P : Prg} {f : Nat} (b : Qf P f 39 [] QdV) : Qun P f := by
 intro t L k n K hL h1 h2 h3 hK
 refine ACall.of_body b (by simp) ?_
 simp (maxSteps := 4000000) (disch := omega) only [rq, simprocAttr, QdV]
 refine Q0.by (ι := Nat) (fun i => ⟨[(8, .int .i64 i), (7, .int .i64 ((n : Int) - 1)), (2, .int .i64 ((n : Int) - 1)), (0, .view 0 L.length k n)], [⟨t, 1, L.length, ks .i32 (Qf0 L k i), 0⟩]⟩) (fun i => i ≤ n - 1) (fun i => n - 1 - i) 0 (by rw [QuF]; exact Le.slots (by simp [Am.look])) (by omega) ?_
 intro i hi
 have ls := QaZ L k i
 by_cases hlt : i < n - 1
 ·have e1 := QhQ (K := .i32) (l := Qf0 L k i) (i := k + i) (by omega)
  have e2 := QhQ (K := .i32) (l := Qf0 L k i) (i := k + (i + 1)) (by omega)
  have e3 := fun v => QsX (K := .i32) (l := Qf0 L k i) (i := k + i) (by omega) v
  have a1 := Qpj (L := L) (k := k) (i := i) (j := k + i) (by omega) (by omega)
  have a2 := Qpj (L := L) (k := k) (i := i) (j := k + (i + 1)) (by omega) (by omega)
  have a3 := QrQ (L := L) (k := k) (i := i) (by omega)
  rw [show k + i + 1 = k + (i + 1) by omega] at a3
  rw [a1] at e1
  rw [a2] at e2
  simp (maxSteps := 4000000) (disch := omega) only [rq, simprocAttr, e1, e2, e3, QaT, a3, ls]
  exact ⟨i + 1, by omega, by omega, Le.slots (by simp [Am.look])⟩
 ·have e : i = n - 1 := by omega
  subst e
  by_cases hn : n = 1
  ·subst hn
   have e0 : Qff L k 1 = Qf0 L k (1 - 1) := by simp [Qff, QuF]
   rw [e0] at hK
   simp (maxSteps := 4000000) (disch := omega) only [rq, simprocAttr]
   exact hK
  ·have e1 := QhQ (K := .i32) (l := Qf0 L k (n - 1)) (i := k + (n - 1)) (by omega)
   have e2 := QhQ (K := .i32) (l := Qf0 L k (n - 1)) (i := k + (n - 2)) (by omega)
   have e3 := fun v => QsX (K := .i32) (l := Qf0 L k (n - 1)) (i := k + (n - 1)) (by omega) v
   have a1 := Qpj (L := L) (k := k) (i := n - 1) (j := k + (n - 1)) (by omega) (by omega)
   have a2 : (Qf0 L k (n - 1)).getD (k + (n - 2)) 0 = w32 (L.getD (k + (n - 1)) 0 - L.getD (k + (n - 2)) 0) := by
    rw [Qf0, Xb (by omega), if_pos (by omega), show k + (n - 2) + 1 = k + (n - 1) by omega]
   rw [a1] at e1
   rw [a2] at e2
   have hr := QoV (QcB (L.getD (k + (n - 1)) 0 - L.getD (k + (n - 2)) 0))
   simp only [Qff, if_neg hn] at hK
   rw [show k + (n - 2) = k + (n - 1 - 1) by omega] at e2 hK hr
   simp (maxSteps := 4000000) (disch := omega) only [rq, simprocAttr, e1, e2, e3, QaT, ls]
   exact hK
def QbK (c : Int) (n : Nat) : Int := if c < 1 ∨ 6 < c then 2 else if 4000 < n then 4 else if (n : Int) % c ≠ 0 then 2 else 0
def QiL (P : Prg) (f : Nat) : Prop := ∀ (c : Int) (l : List Int), VC P f [.int .i64 c, il l] (.int .i64 (QbK c l.length))
theorem QpK {P : Prg} {f : Nat} (b : Qf P f 22 [.tmp 4] ZN) : QiL P f := by
 intro c l
 refine VC.of_acall (by simp [isDL, isD, Zy]) rfl (ACall.of_body b (by simp) ?_)
 by_cases h1 : c < 1
 ·simp (maxSteps := 4000000) (disch := omega) only [rq, simprocAttr, ZN, il, QbK]
 by_cases h2 : 6 < c
 ·simp (maxSteps := 4000000) (disch := omega) only [rq, simprocAttr, ZN, il, QbK]
 by_cases h3 : 4000 < l.length
 ·simp (maxSteps := 4000000) (disch := omega) only [rq, simprocAttr, ZN, il, QbK]
 have hm := QbJ (n := l.length) (c := c) (by omega)
 by_cases h4 : (l.length : Int) % c = 0
 ·simp (maxSteps := 4000000) (disch := omega) only [rq, simprocAttr, ZN, il, QbK, h4]
 ·simp (maxSteps := 4000000) (disch := omega) only [rq, simprocAttr, ZN, il, QbK, h4]
def QsT (c : Nat) (l : List Int) (j : Nat) : Int :=
 if c = 1 then l.getD j 0
 else if j % c + 1 < c then w32 (l.getD (j + 1) 0 - l.getD j 0)
 else w32 (l.getD j 0 - (w32 (l.getD j 0 - l.getD (j - 1) 0)).tdiv 2)
def QiY (c : Nat) (l : List Int) (a : Nat) : List Int := (List.range l.length).map fun j => if j < a then QsT c l j else l.getD j 0
def QaI (c : Nat) (l : List Int) : List Int := (List.range l.length).map (QsT c l)
theorem Js (c : Nat) (l : List Int) (a : Nat) : (QiY c l a).length = l.length := by simp [QiY]
theorem QuK (c : Nat) (l : List Int) : QiY c l 0 = l := Qdj (Js _ _ _) fun j hj => by
 rw [Js] at hj; rw [QiY, Xb hj, if_neg (by omega)]
theorem QmY (c : Nat) (l : List Int) : QiY c l l.length = QaI c l := by
 simp only [QiY, QaI]
 apply List.map_congr_left
 intro j hj
 rw [if_pos (by simpa using hj)]
theorem Qr4 {c : Nat} {l : List Int} (h : I32 l) (j : Nat) : -2147483648 ≤ QsT c l j ∧ QsT c l j ≤ 2147483647 := by
 unfold QsT
 split
 ·exact XY h j
 ·split <;> exact QcB _
theorem Qnq {c : Nat} {l : List Int} (h : I32 l) (a : Nat) : I32 (QiY c l a) := by
 intro v hv
 simp only [QiY, List.mem_map] at hv
 obtain ⟨j, _, rfl⟩ := hv
 split
 ·exact Qr4 h j
 ·exact XY h j
theorem Qoz {c : Nat} {l : List Int} (h : I32 l) : I32 (QaI c l) := by rw [← QmY]; exact Qnq h _
theorem QgJ (c : Nat) (l : List Int) : (QaI c l).length = l.length := by simp [QaI]
theorem QtI {c : Nat} {l : List Int} {m : Nat} (hc : 1 ≤ c) (h : c * m + c ≤ l.length) : Qff (QiY c l (c * m)) (c * m) c = QiY c l (c * m + c) := by
 have mod : ∀ j, c * m ≤ j → j < c * m + c → j % c = j - c * m := fun j h1 h2 => by
  rw [show j = c * m + (j - c * m) by omega, Nat.mul_add_mod]
  rw [Nat.mod_eq_of_lt (by omega)]; omega
 have at' : ∀ j, j < l.length → c * m ≤ j → (QiY c l (c * m)).getD j 0 = l.getD j 0 := fun j h1 h2 => by rw [QiY, Xb h1, if_neg (by omega)]
 by_cases h1 : c = 1
 ·subst h1
  simp only [Qff, if_true]
  refine Qdj (by simp [Js]) fun j hj => ?_
  rw [Js] at hj
  rw [QiY, QiY, Xb hj, Xb hj]
  by_cases q : j < 1 * m
  ·rw [if_pos q, if_pos (by omega)]
  ·rw [if_neg q]; split
   ·simp [QsT]
   ·rfl
 ·simp only [Qff, if_neg h1]
  refine Qdj (by simp [QaZ, Js]) fun j hj => ?_
  have hj' : j < l.length := by simpa [QaZ, Js] using hj
  rw [QmP (by simpa [QaZ, Js] using hj')]
  rw [Qf0, Js, Xb hj']
  conv => rhs; rw [QiY, Xb hj']
  by_cases e : c * m + (c - 1) = j
  ·rw [if_pos e, if_pos (by omega), at' _ (by omega) (by omega), at' _ (by omega) (by omega)]
   subst e
   have := mod (c * m + (c - 1)) (by omega) (by omega)
   unfold QsT
   rw [if_neg h1, if_neg (by rw [this]; omega), show c * m + (c - 1) - 1 = c * m + (c - 2) by omega]
  ·rw [if_neg e]
   by_cases q : c * m ≤ j ∧ j < c * m + (c - 1)
   ·rw [if_pos q, if_pos (by omega), at' _ (by omega) (by omega), at' _ (by omega) (by omega)]
    have := mod j (by omega) (by omega)
    unfold QsT
    rw [if_neg h1, if_pos (by rw [this]; omega)]
   ·rw [if_neg q, QiY, Xb hj']
    by_cases r : j < c * m
    ·rw [if_pos r, if_pos (by omega)]
    ·rw [if_neg r, if_neg (by omega)]
def okM (c : Nat) (l : List Int) : Prop := 1 ≤ c ∧ c ≤ 6 ∧ 0 < l.length ∧ l.length ≤ 4000 ∧ l.length % c = 0 ∧ I32 l
theorem QpG {c : Nat} {l : List Int} (h : okM c l) : QbK c l.length = 0 := by
 obtain ⟨h1, h2, h3, h4, h5, _⟩ := h
 unfold QbK
 rw [if_neg (by omega), if_neg (by omega), if_neg (by rw [← Int.natCast_emod, h5]; simp)]
def QiK (P : Prg) (f : Nat) : Prop := ∀ (c : Nat) (l : List Int), okM c l → VC P f [.int .i64 c, il l] (.tup [il (QaI c l), .int .i64 0])
theorem Qr2 {c m q : Nat} (h : c * m < c * q) : c * m + c ≤ c * q := by
 have : m < q := Nat.lt_of_mul_lt_mul_left h
 have := Nat.mul_le_mul_left c (show m + 1 ≤ q by omega)
 rw [Nat.mul_add, Nat.mul_one] at this
 exact this
theorem QtK {P : Prg} {f fC fK fM t : Nat} (b : Qf P f 32 [.tmp 4, .tmp 5] (QdW fC fK fM)) (hC : QiL P fC) (hK : QiU t P fK) (hM : Qun P fM) : QiK P f := by
 intro c l hok
 obtain ⟨h1, h2, h3, h4, h5, h6⟩ := id hok
 have hc := QpG hok
 obtain ⟨q, hq⟩ : ∃ q, l.length = c * q := ⟨l.length / c, by have := Nat.div_add_mod l.length c; omega⟩
 refine VC.of_walk 1 (by simp [isDL, isD, Zy]) (by simp [isD, isDL, Zy]) (ACall.of_body b (by simp) ?_)
 simp (maxSteps := 4000000) (disch := omega) only [rq, simprocAttr, QdW]
 refine Qa.vc (hC c l) ?_
 have n0 : l.length ≠ 0 := by omega
 simp (maxSteps := 4000000) (disch := omega) only [rq, simprocAttr, hc, n0]
 refine hK l [] _ h3 (by omega) ?_
 simp (maxSteps := 4000000) (disch := omega) only [rq, simprocAttr, n0]
 refine Q0.by (ι := Nat) (fun m => ⟨[(8, .int .i64 (c * m : Nat)), (7, .own 0 l.length), (0, .int .i64 c)], [⟨t, 1, l.length, ks .i32 (QiY c l (c * m)), 0⟩]⟩) (fun m => m ≤ q) (fun m => q - m) 0 (by rw [Nat.mul_zero, QuK]; exact Le.slots (by simp [Am.look])) (by omega) ?_
 intro m hm
 by_cases hlt : c * m < l.length
 ·have hs := Qr2 (c := c) (m := m) (q := q) (by rw [← hq]; exact hlt)
  rw [← hq] at hs
  have hmq : m < q := Nat.lt_of_mul_lt_mul_left (a := c) (b := m) (c := q) (by rw [← hq]; exact hlt)
  have e0 : c * m + c - c * m = c := by omega
  have hM' := hM t (QiY c l (c * m)) (c * m) c
  rw [Js, QtI h1 hs] at hM'
  simp (maxSteps := 4000000) (disch := omega) only [rq, simprocAttr, e0, n0]
  refine hM' _ (Qnq h6 _) h1 hs (by omega) ?_
  simp (maxSteps := 4000000) (disch := omega) only [rq, simprocAttr]
  exact ⟨m + 1, by omega, by omega, by rw [show c * (m + 1) = c * m + c by rw [Nat.mul_add, Nat.mul_one]]; exact Le.slots (by simp [Am.look])⟩
 ·have e : c * m = l.length := by
   have := Nat.mul_le_mul_left c hm
   omega
  rw [e, QmY]
  have lm := QgJ c l
  simp (maxSteps := 4000000) (disch := omega) only [rq, simprocAttr]
  simp [QS, QG, frzL, QD, isDL, isD, il, lm, frzL_T _ (Qv .i32 (QaI c l))]
theorem Le.drop1 {o : Ob} {xs : List Ob} {fr fr' : List (Nat × AV)} (h : isTL o.cs = true)
  (hfr : ∀ p ∈ fr', p.2 = .any ∨ QG (fun o => decide (o < 1)) (fun o => decide (1 ≤ o)) (o :: xs) 2 [look fr p.1] = some [p.2]) : Le 0 ⟨fr, o :: xs⟩ ⟨fr', [o]⟩ := by
 refine Le.drop 1 2 (by omega) rfl hfr ?_
 intro i y hy
 match i, hy with
 | 0, hy =>
  simp at hy
  subst hy
  exact ⟨o.cs, by simp, by simp only [QG]; exact frzL_T _ h⟩
 | i + 1, hy => simp at hy
def QbS (c x : Int) (l : List Int) : Int := if QH c x ≠ 0 then 2 else if QL x l ≠ 0 then QL x l else if l.length = 0 ∨ (l.length : Int) % c ≠ 0 then 2 else 0
theorem Qmq {c x : Int} {l : List Int} (h : QH c x = 2) : QbS c x l = 2 := by simp [QbS, h]
theorem Qmr {c x : Int} {l : List Int} (h : QH c x = 0) (h2 : QL x l ≠ 0) : QbS c x l = QL x l := by simp [QbS, h, h2]
theorem Qmp {c x : Int} {l : List Int} (h : QH c x = 0) (h2 : QL x l = 0) (h3 : l.length = 0 ∨ (l.length : Int) % c ≠ 0) : QbS c x l = 2 := by simp only [QbS, h, h2, if_pos h3]; simp
theorem QqW {c x : Int} {l : List Int} (h : QH c x = 0) (h2 : QL x l = 0) (h3 : ¬ (l.length = 0 ∨ (l.length : Int) % c ≠ 0)) : QbS c x l = 0 := by simp only [QbS, h, h2, if_neg h3]; simp
theorem QX (c x : Int) : QH c x = 2 ∨ (QH c x = 0 ∧ Z2 x ≠ 0 ∧ 1 ≤ c ∧ c ≤ 6) := by unfold QH; split <;> omega
theorem QgV (x : Int) (l : List Int) : QL x l = 2 ∨ QL x l = 4 ∨ QL x l = 16 ∨ (QL x l = 0 ∧ Z2 x ≠ 0 ∧ l.length ≤ 4000) := by
 unfold QL
 by_cases h : Z2 x = 0
 ·simp [h]
 by_cases h2 : 4000 < l.length
 ·simp [h, h2]
 by_cases h3 : l.all (inR x)
 ·simp [h, h2, h3]; omega
 ·simp [h, h2, h3]
theorem QqV {c x : Int} {l : List Int} (hI : I32 l) (h : QbS c x l = 0) : ∃ k : Nat, c = k ∧ okM k l ∧ Z2 x ≠ 0 := by
 rcases QX c x with h1 | ⟨h1, h2, h3, h4⟩
 ·rw [Qmq h1] at h; omega
 by_cases h5 : QL x l = 0
 ·by_cases h6 : l.length = 0 ∨ (l.length : Int) % c ≠ 0
  ·rw [Qmp h1 h5 h6] at h; omega
  ·obtain ⟨k, rfl⟩ : ∃ k : Nat, c = k := ⟨c.toNat, by omega⟩
   refine ⟨k, rfl, ⟨by omega, by omega, by omega, by rcases QgV x l with h | h | h | h <;> omega, by omega, hI⟩, h2⟩
 ·rw [Qmr h1 h5] at h; exact absurd h h5
def Qrc (P : Prg) (f : Nat) : Prop := ∀ (c x : Int) (l : List Int), I32 l → VC P f [shA c x, il l] (.int .i64 (QbS c x l))
theorem QhW {P : Prg} {f fE fW t0 : Nat} (b : Qf P f 30 [.tmp 4] (Jl fE fW t0)) (hE : JC P fE) (hW : Qdu P fW) : Qrc P f := by
 intro c x l hI
 refine VC.of_acall (by simp [isDL, isD, Zy, shA]) rfl (ACall.of_body b (by simp) ?_)
 have hE' := hE c x
 rw [shA] at hE'
 simp (maxSteps := 4000000) (disch := omega) only [rq, simprocAttr, Jl, shA]
 refine Qa.vc hE' ?_
 rcases QX c x with h1 | ⟨h1, h2, h3, h4⟩
 ·simp (maxSteps := 4000000) (disch := omega) only [rq, simprocAttr, h1, Qmq h1]
 simp (maxSteps := 4000000) (disch := omega) only [rq, simprocAttr, h1]
 refine Qa.vc (hW x l hI) ?_
 by_cases h5 : QL x l = 0
 ·have h9 : l.length ≤ 4000 := by rcases QgV x l with h | h | h | h <;> omega
  by_cases h6 : l.length = 0
  ·simp (maxSteps := 4000000) (disch := omega) only [rq, simprocAttr, h5, il, h6, Qmp h1 h5 (.inl h6)]
  ·by_cases h7 : (l.length : Int) % c = 0
   ·have hm := QbJ (n := l.length) (c := c) (by omega)
    simp (maxSteps := 4000000) (disch := omega) only [rq, simprocAttr, h5, il, h6, h7, QqW h1 h5 (by omega)]
   ·have hm := QbJ (n := l.length) (c := c) (by omega)
    simp (maxSteps := 4000000) (disch := omega) only [rq, simprocAttr, h5, il, h6, h7, Qmp h1 h5 (.inr h7)]
 ·simp (maxSteps := 4000000) (disch := omega) only [rq, simprocAttr, h5, Qmr h1 h5]
def six (S : Nat → JF) : List AV := Zs (S 0) ++ (Zs (S 1) ++ (Zs (S 2) ++ (Zs (S 3) ++ (Zs (S 4) ++ Zs (S 5)))))
def okS (S : Nat → JF) : Prop := ∀ k, QbH (S k).fl
theorem Qlf {S : Nat → JF} (h : okS S) : (six S).length = 210 := by simp [six, XZ (h _)]
theorem QvK {k : Nat} (h : k < 6) : k = 0 ∨ k = 1 ∨ k = 2 ∨ k = 3 ∨ k = 4 ∨ k = 5 := by omega
theorem QuB {S : Nat → JF} (h : okS S) {k : Nat} (hk : k < 6) : ((six S).drop (k * 35)).take 35 = Zs (S k) := by
 have l := fun k => XZ (h k)
 rcases QvK hk with rfl | rfl | rfl | rfl | rfl | rfl <;> simp [six, List.drop_append, List.take_append, l, List.drop_eq_nil_of_le, QF]
def upd (S : Nat → JF) (k : Nat) (c : JF) : Nat → JF := fun j => if j = k then c else S j
theorem Qpc {S : Nat → JF} (h : okS S) {k : Nat} (hk : k < 6) (c : JF) : (six S).take (k * 35) ++ Zs c ++ (six S).drop (k * 35 + 35) = six (upd S k c) := by
 have l := fun k => XZ (h k)
 rcases QvK hk with rfl | rfl | rfl | rfl | rfl | rfl <;> simp [six, upd, List.drop_append, List.take_append, l, List.drop_eq_nil_of_le, QF]
theorem QpS (c : JF) : isTL (Zs c) = true := by simp [Zs, Qn, isTL, isT, Qfl, Qv]
theorem Qsb (S : Nat → JF) : isTL (six S) = true := by simp [six, Qfl, QpS]
theorem Quk (S : Nat → JF) : (six S).all AV.one = true := by simp only [six, List.all_append, Qag, Bool.and_self]
def stC (c : Nat) (L : List Int) (z : JF) (k : Nat) : Nat → JF
 | 0 => z
 | n + 1 => Qbs (stC c L z k n) (L.getD (k + n * c) 0)
def QvO (c : Nat) (L : List Int) (z : JF) (j : Nat) : Int := Qj0 (Ql9 (stC c L z (j % c) (j / c)) (L.getD j 0))
def QkQ (c : Nat) (L : List Int) (z : JF) (a : Nat) : List Int := (List.range a).map (QvO c L z)
theorem QhG (c : Nat) (L : List Int) (z : JF) (a : Nat) : (QkQ c L z a).length = a := by simp [QkQ]
theorem QpB (c : Nat) (L : List Int) (z : JF) (a : Nat) : QkQ c L z a ++ [QvO c L z a] = QkQ c L z (a + 1) := by simp [QkQ, List.range_succ]
theorem QpD {c : Nat} {L : List Int} {z : JF} (hL : I32 L) (hz : QsQ z) (k : Nat) : ∀ n, QsQ (stC c L z k n)
 | 0 => hz
 | n + 1 => Qlr (QpD hL hz k n) (XY hL _)
def cnt (c k i : Nat) : Nat := if k < i % c then i / c + 1 else i / c
theorem QvE (c k : Nat) : cnt c k 0 = 0 := by simp [cnt]
theorem Qsx (c i : Nat) : cnt c (i % c) i = i / c := by simp [cnt]
theorem Qsw {c k i : Nat} (hk : k < c) : cnt c k (i + 1) = if k = i % c then i / c + 1 else cnt c k i := by
 have hc : 0 < c := by omega
 have hr := Nat.mod_lt i hc
 have hi := Nat.div_add_mod i c
 unfold cnt
 by_cases h : i % c + 1 < c
 ·have e1 : (i + 1) % c = i % c + 1 := by
   rw [show i + 1 = c * (i / c) + (i % c + 1) by omega, Nat.mul_add_mod, Nat.mod_eq_of_lt h]
  have e2 : (i + 1) / c = i / c := by
   rw [show i + 1 = (i % c + 1) + c * (i / c) by omega, Nat.add_mul_div_left _ _ hc, Nat.div_eq_of_lt h, Nat.zero_add]
  rw [e1, e2]
  split <;> split <;> (try split) <;> omega
 ·have e0 : i + 1 = c * (i / c + 1) := by rw [Nat.mul_add]; omega
  have e1 : (i + 1) % c = 0 := by rw [e0, Nat.mul_mod_right]
  have e2 : (i + 1) / c = i / c + 1 := by rw [e0, Nat.mul_div_cancel_left _ hc]
  rw [e1, e2]
  split <;> split <;> (try split) <;> omega
def stA (c : Nat) (L : List Int) (z : JF) (i : Nat) : Nat → JF := fun k => if k < c then stC c L z k (cnt c k i) else z
theorem Qvt (c : Nat) (L : List Int) (z : JF) : stA c L z 0 = fun _ => z := by
 funext k; simp [stA, QvE, stC]
theorem Qux {c : Nat} (hc : 1 ≤ c) (L : List Int) (z : JF) (i : Nat) : stA c L z i (i % c) = stC c L z (i % c) (i / c) := by
 rw [stA, if_pos (Nat.mod_lt _ (by omega)), Qsx]
theorem QrF {c : Nat} (hc : 1 ≤ c) (L : List Int) (z : JF) (i : Nat) : upd (stA c L z i) (i % c) (Qbs (stC c L z (i % c) (i / c)) (L.getD i 0)) = stA c L z (i + 1) := by
 funext k
 have hr := Nat.mod_lt i (show 0 < c by omega)
 by_cases hk : k < c
 ·simp only [upd, stA, if_pos hk, Qsw hk]
  by_cases e : k = i % c
  ·rw [if_pos e, if_pos e, e, stC]
   rw [show i % c + i / c * c = i by have := Nat.div_add_mod i c; rw [Nat.mul_comm]; omega]
  ·rw [if_neg e, if_neg e]
 ·simp only [upd, stA, if_neg hk]
  rw [if_neg (by omega)]
theorem QuI {c : Nat} {L : List Int} {z : JF} (hL : I32 L) (hz : QsQ z) (i : Nat) : okS (stA c L z i) := fun k => by
 unfold stA; split
 ·exact (QpD hL hz k _).2.2.1
 ·exact hz.2.2.1
def Qtj (l : List Int) : AV := .list l.length (ks .u32 l)
theorem Qsd (l : List Int) : isD (Qtj l) = true := by simp [Qtj, isD, QB]
theorem Le.dropT (os : List Ob) {xs : List Ob} {fr fr' : List (Nat × AV)} (h : ∀ o ∈ os, isTL o.cs = true)
  (hfr : ∀ p ∈ fr', p.2 = .any ∨ QG (fun o => decide (o < os.length)) (fun o => decide (os.length ≤ o)) (os ++ xs) 2 [look fr p.1] = some [p.2]) : Le 0 ⟨fr, os ++ xs⟩ ⟨fr', os⟩ := by
 refine Le.drop os.length 2 (by omega) rfl hfr ?_
 intro i y hy
 have hi : i < os.length := by
  rcases Nat.lt_or_ge i os.length with h | h
  ·exact h
  ·rw [List.getElem?_eq_none h] at hy; cases hy
 refine ⟨y.cs, by rw [List.getElem?_append_left hi]; exact hy, ?_⟩
 simp only [QG]
 exact frzL_T _ (h y (List.mem_of_getElem? hy))
def Qrx (c x : Int) (t l : List Int) : AV := if QbS c x l ≠ 0 then .tup [.list 0 [], .int .i64 (QbS c x l)] else .tup [Qtj (QkQ c.toNat (QaI c.toNat l) (QdK x t) l.length), .int .i64 0]
theorem QtO (c x : Int) (t l : List Int) : isD (Qrx c x t l) = true := by unfold Qrx; split <;> simp [isD, isDL, Qsd]
def QmB (P : Prg) (f : Nat) : Prop := ∀ (c x : Int) (t l : List Int), t.length = 16 → I32 t → I32 l → VC P f [shA c x, .agg (ks .i32 t), il l] (Qrx c x t l)
theorem QhJ : QbH QcT.fl := ⟨by simp [QcT, Qi0, z16], by simp [QcT, Qi0, z16], fun x hx => by simp [QcT, Qi0, z16] at hx; omega, fun x hx => by simp [QcT, Qi0, z16] at hx; omega⟩
def Qrp (z : JF) (i : Nat) : Nat → JF := fun k => if k < i then z else QcT
theorem QuJ (z : JF) : Qrp z 0 = fun _ => QcT := by funext k; simp [Qrp]
theorem QpI (z : JF) (i : Nat) : upd (Qrp z i) i z = Qrp z (i + 1) := by
 funext k
 simp only [upd, Qrp]
 split <;> split <;> (try split) <;> first | rfl | omega
theorem QtF {z : JF} (h : QbH z.fl) (i : Nat) : okS (Qrp z i) := fun k => by
 unfold Qrp; split
 ·exact h
 ·exact QhJ
theorem Qvu (z : JF) : six (Qrp z 6) = six (fun _ => z) := by simp [six, Qrp]
theorem QtG {x : Int} (hx : Z2 x ≠ 0) {t : List Int} (hl : t.length = 16) (hI : I32 t) : QsQ (QdK x t) := ⟨hx, rfl, QpF hl hI, by simp [QdK]⟩
set_option maxRecDepth 20000 in
theorem Qgh {P : Prg} {f fA fM fN fF fO t0 t1 t2 t3 t4 : Nat} (b : Qf P f 83 [.tmp 6, .tmp 7] (XU fA fM fN fF fO t0 t1 t2 t3 t4)) (hA : Qrc P fA) (hM : QiK P fM) (hN : Qrd P fN) (hF : Qd1 P fF) (hO : Qq9 P fO) : QmB P f := by
 intro c x t l hl hI hL
 have hk : (ks .i32 t).length = 16 := by simp [Qd, hl]
 have ot := JP .i32 t
 have tt : (ks .i32 t).take 16 = ks .i32 t := QF (by omega)
 refine VC.of_walk 1 (by simp [isDL, isD, Zy, QB, shA]) (QtO _ _ _ _) (ACall.of_body b (by simp) ?_)
 have hA' := hA c x l hL
 rw [shA] at hA'
 unfold XU
 rw [show ([.int .i64 0, .int .i32 0, .int .i64 0, .int .i32 0, .int .i32 0, .int .i32 0, .int .i32 0, .int .i32 0, .int .i32 0, .int .i32 0, .int .i32 0, .int .i32 0, .int .i32 0, .int .i32 0, .int .i32 0, .int .i32 0, .int .i32 0, .int .i32 0, .int .i32 0, .int .i32 0, .int .i32 0, .int .i32 0, .int .i32 0, .int .i32 0, .int .i32 0, .int .i32 0, .int .i32 0, .int .i32 0, .int .i32 0, .int .i32 0, .int .i32 0, .int .i32 0, .int .i32 0, .int .i32 0, .int .i32 0, .int .i64 0, .int .i32 0, .int .i64 0, .int .i32 0, .int .i32 0, .int .i32 0, .int .i32 0, .int .i32 0, .int .i32 0, .int .i32 0, .int .i32 0, .int .i32 0, .int .i32 0, .int .i32 0, .int .i32 0, .int .i32 0, .int .i32 0, .int .i32 0, .int .i32 0, .int .i32 0, .int .i32 0, .int .i32 0, .int .i32 0, .int .i32 0, .int .i32 0, .int .i32 0, .int .i32 0, .int .i32 0, .int .i32 0, .int .i32 0, .int .i32 0, .int .i32 0, .int .i32 0, .int .i32 0, .int .i32 0, .int .i64 0, .int .i32 0, .int .i64 0, .int .i32 0, .int .i32 0, .int .i32 0, .int .i32 0, .int .i32 0, .int .i32 0, .int .i32 0, .int .i32 0, .int .i32 0, .int .i32 0, .int .i32 0, .int .i32 0, .int .i32 0, .int .i32 0, .int .i32 0, .int .i32 0, .int .i32 0, .int .i32 0, .int .i32 0, .int .i32 0, .int .i32 0, .int .i32 0, .int .i32 0, .int .i32 0, .int .i32 0, .int .i32 0, .int .i32 0, .int .i32 0, .int .i32 0, .int .i32 0, .int .i32 0, .int .i32 0, .int .i64 0, .int .i32 0, .int .i64 0, .int .i32 0, .int .i32 0, .int .i32 0, .int .i32 0, .int .i32 0, .int .i32 0, .int .i32 0, .int .i32 0, .int .i32 0, .int .i32 0, .int .i32 0, .int .i32 0, .int .i32 0, .int .i32 0, .int .i32 0, .int .i32 0, .int .i32 0, .int .i32 0, .int .i32 0, .int .i32 0, .int .i32 0, .int .i32 0, .int .i32 0, .int .i32 0, .int .i32 0, .int .i32 0, .int .i32 0, .int .i32 0, .int .i32 0, .int .i32 0, .int .i32 0, .int .i32 0, .int .i64 0, .int .i32 0, .int .i64 0, .int .i32 0, .int .i32 0, .int .i32 0, .int .i32 0, .int .i32 0, .int .i32 0, .int .i32 0, .int .i32 0, .int .i32 0, .int .i32 0, .int .i32 0, .int .i32 0, .int .i32 0, .int .i32 0, .int .i32 0, .int .i32 0, .int .i32 0, .int .i32 0, .int .i32 0, .int .i32 0, .int .i32 0, .int .i32 0, .int .i32 0, .int .i32 0, .int .i32 0, .int .i32 0, .int .i32 0, .int .i32 0, .int .i32 0, .int .i32 0, .int .i32 0, .int .i32 0, .int .i64 0, .int .i32 0, .int .i64 0, .int .i32 0, .int .i32 0, .int .i32 0, .int .i32 0, .int .i32 0, .int .i32 0, .int .i32 0, .int .i32 0, .int .i32 0, .int .i32 0, .int .i32 0, .int .i32 0, .int .i32 0, .int .i32 0, .int .i32 0, .int .i32 0, .int .i32 0, .int .i32 0, .int .i32 0, .int .i32 0, .int .i32 0, .int .i32 0, .int .i32 0, .int .i32 0, .int .i32 0, .int .i32 0, .int .i32 0, .int .i32 0, .int .i32 0, .int .i32 0, .int .i32 0, .int .i32 0] : List AV) = six (fun _ => QcT) from rfl, ← Qey]
 simp (maxSteps := 4000000) (disch := omega) only [rq, simprocAttr, shA, hk, ot, tt]
 refine Qa.vc hA' ?_
 by_cases h0 : QbS c x l = 0
 ·obtain ⟨k, rfl, hok, hx⟩ := QqV hL h0
  have hz := QtG hx hl hI
  have l0 := Qlf (S := fun _ => QcT) (fun _ => QhJ)
  have o0 := Quk (fun _ => QcT)
  simp (maxSteps := 4000000) (disch := omega) only [rq, simprocAttr, h0]
  refine Qa.vc (hM k l hok) ?_
  obtain ⟨h1, h2, h3, h4, h5, h6⟩ := id hok
  have lm := QgJ k l
  have hI2 := Qoz (c := k) hL
  have tm : isTL (ks .i32 (QaI k l)) = true := Qv _ _
  generalize hm : QaI k l = m at lm hI2 tm
  simp (maxSteps := 4000000) (disch := omega) only [rq, simprocAttr, l0, o0]
  refine Q0.by (ι := Nat) (fun i => ⟨[(36, .int .i64 i), (11, .ref 2 1 0), (9, il m), (4, .ref 1 1 0), (3, .ref 0 1 0)], [⟨t0, 2, 1, [.int .i64 k, .int .i64 x], 0⟩, ⟨t1, 16, 1, ks .i32 t, 0⟩, ⟨t2, 210, 1, six (Qrp (QdK x t) i), 0⟩]⟩) (fun i => i ≤ 6) (fun i => 6 - i) 0 (by rw [QuJ]; exact Le.slots (by simp [Am.look])) (by omega) ?_
  intro i hi
  have oS := QtF hz.2.2.1 i
  have lS := Qlf oS
  by_cases hlt : i < 6
  ·have e1 := Qpc oS hlt (QdK x t)
   rw [QpI] at e1
   have lc := XZ hz.2.2.1
   have oc := Qag (QdK x t)
   simp (maxSteps := 4000000) (disch := omega) only [rq, simprocAttr, hk, tt]
   refine Qa.vc (hN x t hl hI) ?_
   simp (maxSteps := 4000000) (disch := omega) only [rq, simprocAttr, Qog, if_neg hx, lS, lc, oc, e1]
   exact ⟨i + 1, by omega, by omega, Le.slots (by simp [Am.look])⟩
  ·have : i = 6 := by omega
   subst this
   simp (maxSteps := 4000000) (disch := omega) only [rq, simprocAttr, il]
   refine Q0.by (ι := Nat) (fun i => ⟨[(51, .int .i64 i), (50, .int .i64 m.length), (49, il m), (13, .own 3 i), (11, .ref 2 1 0), (3, .ref 0 1 0)], [⟨t0, 2, 1, [.int .i64 k, .int .i64 x], 0⟩, ⟨t1, 16, 1, ks .i32 t, 0⟩, ⟨t2, 210, 1, six (stA k m (QdK x t) i), 0⟩, ⟨t4, 1, i, ks .u32 (QkQ k m (QdK x t) i), 0⟩]⟩) (fun i => i ≤ m.length) (fun i => m.length - i) 0 (by rw [Qvt, ← Qvu]; exact Le.trans (Le.virt 13 t4 1 (by omega) rfl) (Le.slots (by simp [Am.look, QkQ, il]))) (by omega) ?_
   intro i hi
   have lo := QhG k m (QdK x t) i
   by_cases hlt : i < m.length
   ·have oS := QuI hI2 hz (c := k) i
    have lS := Qlf oS
    have hr := Nat.mod_lt i (show 0 < k by omega)
    have e0 := QuB oS (k := i % k) (by omega)
    rw [Qux h1] at e0
    have e1 := Qpc oS (k := i % k) (by omega) (Qbs (stC k m (QdK x t) (i % k) (i / k)) (m.getD i 0))
    rw [QrF h1] at e1
    have hok2 := QpD (c := k) hI2 hz (i % k) (i / k)
    have hok3 := Qlr hok2 (XY hI2 i)
    have hF' := hF _ (m.getD i 0) hok2 (XY hI2 i)
    have hO' := hO (Ql9 (stC k m (QdK x t) (i % k) (i / k)) (m.getD i 0)) (QcB _)
    have e2 := QhQ (K := .i32) (l := m) (i := i) hlt
    have e3 : ks .u32 (QkQ k m (QdK x t) i) ++ [.int .u32 (Qj0 (Ql9 (stC k m (QdK x t) (i % k) (i / k)) (m.getD i 0)))] = ks .u32 (QkQ k m (QdK x t) (i + 1)) := by rw [QhP, ← QpB]; rfl
    have lc := XZ hok3.2.2.1
    have oc := Qag (Qbs (stC k m (QdK x t) (i % k) (i / k)) (m.getD i 0))
    have tc : (Zs (Qbs (stC k m (QdK x t) (i % k) (i / k)) (m.getD i 0))).take 35 = Zs (Qbs (stC k m (QdK x t) (i % k) (i / k)) (m.getD i 0)) := QF (by omega)
    have lz := XZ QhJ
    have oz := Qag QcT
    have dz : (Zs QcT).drop 35 = [] := List.drop_eq_nil_of_le (by omega)
    have em : (i : Int) % k = (i % k : Nat) := by omega
    simp (maxSteps := 4000000) (disch := omega) only [rq, simprocAttr, il, e2, em, e0]
    refine Qa.vc hF' ?_
    simp (maxSteps := 4000000) (disch := omega) only [rq, simprocAttr, lz, oz, lc, oc, tc, e1, lS, dz, List.append_nil]
    refine Qa.vc hO' ?_
    simp (maxSteps := 4000000) (disch := omega) only [rq, simprocAttr, e3]
    exact ⟨i + 1, by omega, by omega, Le.dropT [_, _, _, _] (by simp [Qsb, Qv, isTL, isT]) (by simp [Am.look, QG, frzL, QD, frzL_T _ tm])⟩
   ·have : i = m.length := by omega
    subst this
    have e9 : Qrx k x t l = .tup [Qtj (QkQ k m (QdK x t) m.length), .int .i64 0] := by simp [Qrx, h0, hm, lm]
    clear hi hlt
    have hq : ¬ (m.length : Int) < m.length := by omega
    simp (maxSteps := 4000000) (disch := omega) only [rq, simprocAttr, e9]
    simp [QS, QG, frzL, QD, isDL, isD, Qtj, lo, frzL_T _ (Qv .u32 _)]
 ·have e9 : Qrx c x t l = .tup [.list 0 [], .int .i64 (QbS c x l)] := by simp [Qrx, h0]
  simp (maxSteps := 4000000) (disch := omega) only [rq, simprocAttr, h0, e9]
  simp [QS, QG, frzL, QD, isDL, isD]
theorem Qps (K : IntKind) : ∀ n : Nat, Qp [.int K 0] n = ks K (List.replicate n 0)
 | 0 => rfl
 | n + 1 => by rw [Qp, Qps K n]; simp [ks, List.replicate_succ]
def U32 (l : List Int) : Prop := ∀ x ∈ l, 0 ≤ x ∧ x < 4294967296
def Qki (r n : Int) : AV := if r < 1 ∨ 1048576 < r then .tup [.int .i64 0, .int .i64 2] else if n < 1 ∨ 4000 < n then .tup [.int .i64 0, .int .i64 2] else if 1000 < (n + Qc r - 1) / Qc r then .tup [.int .i64 0, .int .i64 4] else .tup [.int .i64 ((n + Qc r - 1) / Qc r), .int .i64 0]
theorem QtU (r n : Int) : isD (Qki r n) = true := by unfold Qki; split <;> (try split) <;> (try split) <;> rfl
def QbY (P : Prg) (f : Nat) : Prop := ∀ r n : Int, VC P f [.int .i64 r, .int .i64 n] (Qki r n)
theorem QhN {P : Prg} {f fL : Nat} (b : Qf P f 32 [.tmp 4, .tmp 5] (Jk fL)) (hL : Xe P fL) : QbY P f := by
 intro r n
 refine VC.of_acall rfl (QtU _ _) (ACall.of_body b (by simp) ?_)
 have hL' := hL r
 simp (maxSteps := 4000000) (disch := omega) only [rq, simprocAttr, Jk]
 refine Qa.vc hL' ?_
 by_cases h1 : r < 1 ∨ 1048576 < r
 ·have e1 : Qa5 r = .tup [.int .i64 0, .int .i64 2] := by rw [Qa5, if_pos h1]
  have e2 : Qki r n = .tup [.int .i64 0, .int .i64 2] := by rw [Qki, if_pos h1]
  simp (maxSteps := 4000000) (disch := omega) only [rq, simprocAttr, e1, e2]
 have e1 : Qa5 r = .tup [.int .i64 (Qc r), .int .i64 0] := by rw [Qa5, if_neg h1]
 have p1 := ZM r
 have p2 := QeJ (r := r) (by omega)
 by_cases h2 : n < 1
 ·have e2 : Qki r n = .tup [.int .i64 0, .int .i64 2] := by rw [Qki, if_neg h1, if_pos (.inl h2)]
  simp (maxSteps := 4000000) (disch := omega) only [rq, simprocAttr, e1, e2]
 by_cases h3 : 4000 < n
 ·have e2 : Qki r n = .tup [.int .i64 0, .int .i64 2] := by rw [Qki, if_neg h1, if_pos (.inr h3)]
  simp (maxSteps := 4000000) (disch := omega) only [rq, simprocAttr, e1, e2]
 have e2 : Qki r n = if 1000 < (n + Qc r - 1) / Qc r then .tup [.int .i64 0, .int .i64 4] else .tup [.int .i64 ((n + Qc r - 1) / Qc r), .int .i64 0] := by
  rw [Qki, if_neg h1, if_neg (by omega)]
 generalize Qc r = L at *
 have q0 : (n + L - 1).tdiv L = (n + L - 1) / L := Int.tdiv_eq_ediv_of_nonneg (by omega)
 have q1 : 0 ≤ (n + L - 1) / L := Int.ediv_nonneg (by omega) (by omega)
 have q2 : (n + L - 1) / L ≤ n + L - 1 := Int.ediv_le_self _ (by omega)
 generalize hq : (n + L - 1) / L = Q at *
 by_cases h4 : 1000 < Q
 ·rw [if_pos h4] at e2
  simp (maxSteps := 4000000) (disch := omega) only [rq, simprocAttr, e1, q0, hq, e2]
 ·rw [if_neg h4] at e2
  simp (maxSteps := 4000000) (disch := omega) only [rq, simprocAttr, e1, q0, hq, e2]
def Qdx (P : Prg) (f : Nat) : Prop := ∀ (c x r : Int) (l : List Int), VC P f [.agg [.int .i64 c, .int .i64 x, .int .i64 r, il l]] (shA c x)
theorem Qoh {P : Prg} {f t0 t1 : Nat} (b : Qf P f 8 [.cell 2 t1] (Qbh t0 t1)) (ht : ZJ P t1 = some (some 2)) : Qdx P f := by
 intro c x r l
 refine VC.of_acall (by simp [isDL, isD, Zy]) rfl (ACall.of_body b (by simp) ?_)
 simp (maxSteps := 4000000) (disch := omega) only [rq, simprocAttr, Qbh, il, ZK, ht, shA]
def Qh9 (r n : Int) : Int := if r < 1 ∨ 1048576 < r then 2 else if n < 1 ∨ 4000 < n then 2 else if 1000 < (n + Qc r - 1) / Qc r then 4 else 0
theorem Qne (r n : Int) : ∃ k : Int, Qki r n = .tup [.int .i64 k, .int .i64 (Qh9 r n)] := by
 unfold Qki Qh9
 split
 ·exact ⟨_, rfl⟩
 split
 ·exact ⟨_, rfl⟩
 split
 ·exact ⟨_, rfl⟩
 ·exact ⟨_, rfl⟩
def XM (c x r n : Int) : Int := if QH c x ≠ 0 then 8 else if n < 1 then 8 else if 4000 / c < n then 8 else if Qh9 r n ≠ 0 then 8 else 0
def QmE (P : Prg) (f : Nat) : Prop := ∀ (c x r n : Int) (l : List Int), VC P f [.agg [.int .i64 c, .int .i64 x, .int .i64 r, il l], .int .i64 n] (.int .i64 (XM c x r n))
theorem QqB {P : Prg} {f fS fE fC t0 : Nat} (b : Qf P f 31 [.tmp 4] (QbV fS fE fC t0)) (hS : Qdx P fS) (hE : JC P fE) (hC : QbY P fC) : QmE P f := by
 intro c x r n l
 refine VC.of_acall (by simp [isDL, isD, Zy]) rfl (ACall.of_body b (by simp) ?_)
 have hS' := hS c x r l
 have hE' := hE c x
 rw [shA] at hS' hE'
 rw [il] at hS'
 obtain ⟨k, ek⟩ := Qne r n
 have hC' := hC r n
 rw [ek] at hC'
 simp (maxSteps := 4000000) (disch := omega) only [rq, simprocAttr, QbV, il]
 refine Qa.vc hS' ?_
 simp (maxSteps := 4000000) (disch := omega) only [rq, simprocAttr]
 refine Qa.vc hE' ?_
 rcases QX c x with h1 | ⟨h1, h2, h3, h4⟩
 ·have e9 : XM c x r n = 8 := by simp [XM, h1]
  simp (maxSteps := 4000000) (disch := omega) only [rq, simprocAttr, h1, e9]
 have q0 : (4000 : Int).tdiv c = 4000 / c := Int.tdiv_eq_ediv_of_nonneg (by omega)
 have q1 : 0 ≤ (4000 : Int) / c := Int.ediv_nonneg (by omega) (by omega)
 have q2 : (4000 : Int) / c ≤ 4000 := Int.ediv_le_self _ (by omega)
 by_cases h5 : n < 1
 ·have e9 : XM c x r n = 8 := by simp [XM, h5]
  simp (maxSteps := 4000000) (disch := omega) only [rq, simprocAttr, h1, e9]
 by_cases h6 : 4000 / c < n
 ·have e9 : XM c x r n = 8 := by simp [XM, h6]
  simp (maxSteps := 4000000) (disch := omega) only [rq, simprocAttr, h1, e9, q0]
 simp (maxSteps := 4000000) (disch := omega) only [rq, simprocAttr, h1, q0]
 refine Qa.vc hC' ?_
 by_cases h7 : Qh9 r n = 0
 ·have e9 : XM c x r n = 0 := by simp [XM, h1, h5, h6, h7]
  simp (maxSteps := 4000000) (disch := omega) only [rq, simprocAttr, h7, e9]
 ·have e9 : XM c x r n = 8 := by simp [XM, h7]
  simp (maxSteps := 4000000) (disch := omega) only [rq, simprocAttr, h7, e9]
def ZF (c x r : Int) (l : List Int) : Int := if c < 1 then 8 else if (l.length : Int) % c ≠ 0 then 8 else if XM c x r (l.length / c) ≠ 0 then 8 else if QL x l ≠ 0 then 8 else 0
theorem QnX (c x r n : Int) : XM c x r n = 8 ∨ XM c x r n = 0 := by
 unfold XM; split <;> (try split) <;> (try split) <;> (try split) <;> simp
def Qbm (P : Prg) (f : Nat) : Prop := ∀ (c x r : Int) (l : List Int), I32 l → l.length ≤ 1000000 → VC P f [.agg [.int .i64 c, .int .i64 x, .int .i64 r, il l]] (.int .i64 (ZF c x r l))
theorem Qok {P : Prg} {f fH fW t0 : Nat} (b : Qf P f 33 [.tmp 2] (XG fH fW t0)) (hH : QmE P fH) (hW : Qdu P fW) : Qbm P f := by
 intro c x r l hI hl
 ·refine VC.of_acall (by simp [isDL, isD, Zy]) rfl (ACall.of_body b (by simp) ?_)
  by_cases h1 : c < 1
  ·have e9 : ZF c x r l = 8 := by simp [ZF, h1]
   simp (maxSteps := 4000000) (disch := omega) only [rq, simprocAttr, XG, il, e9]
  have hm := QbJ (n := l.length) (c := c) (by omega)
  have hd := Qfq (n := l.length) (c := c) (by omega)
  have q0 : (l.length : Int).tdiv c = l.length / c := Int.tdiv_eq_ediv_of_nonneg (by omega)
  by_cases h2 : (l.length : Int) % c = 0
  ·have hH' := hH c x r (l.length / c) l
   have hW' := hW x l hI
   rw [il] at hH' hW'
   simp (maxSteps := 4000000) (disch := omega) only [rq, simprocAttr, XG, il, h2, q0]
   refine Q5.vc hH' ?_
   rcases QnX c x r (l.length / c) with h3 | h3
   ·have e9 : ZF c x r l = 8 := by simp [ZF, h3]
    simp (maxSteps := 4000000) (disch := omega) only [rq, simprocAttr, h3, e9]
   ·simp (maxSteps := 4000000) (disch := omega) only [rq, simprocAttr, h3]
    refine Qa.vc hW' ?_
    by_cases h4 : QL x l = 0
    ·have e9 : ZF c x r l = 0 := by simp [ZF, h1, h2, h3, h4]
     simp (maxSteps := 4000000) (disch := omega) only [rq, simprocAttr, h4, e9]
    ·have e9 : ZF c x r l = 8 := by simp [ZF, h4]
     simp (maxSteps := 4000000) (disch := omega) only [rq, simprocAttr, h4, e9]
  ·have e9 : ZF c x r l = 8 := by simp [ZF, h2]
   simp (maxSteps := 4000000) (disch := omega) only [rq, simprocAttr, XG, il, h2, e9]
def Qix (c x n : Int) : Int := if QH c x ≠ 0 then 2 else if n < 1 then 2 else if 4000 / c < n then 2 else 0
def Zu (L n : Nat) : List Int := List.replicate ((n - 1) / L) (L : Int) ++ [(n : Int) - ((n - 1) / L * L : Nat)]
theorem Xv (L n : Nat) : (Zu L n).length = (n - 1) / L + 1 := by simp [Zu]
def QoA (l : List Int) : AV := .list l.length (ks .i64 l)
theorem QhR (l : List Int) : isD (QoA l) = true := by simp [QoA, isD, QB]
theorem QpW (c x r n : Int) : XM c x r n = if Qix c x n = 0 ∧ Qh9 r n = 0 then 0 else 8 := by
 unfold XM Qix
 by_cases h1 : QH c x = 0 <;> by_cases h2 : n < 1 <;> by_cases h3 : 4000 / c < n <;> by_cases h4 : Qh9 r n = 0 <;> simp [h1, h2, h3, h4]
theorem Qnf {c x r : Int} {l : List Int} : ZF c x r l = if QbS c x l = 0 ∧ XM c x r (l.length / c) = 0 then 0 else 8 := by
 unfold ZF QbS
 by_cases h0 : XM c x r (l.length / c) = 0
 ·have h0' := h0
  rw [QpW] at h0'
  have ha : Qix c x (l.length / c) = 0 := by
   by_cases h : Qix c x (l.length / c) = 0 ∧ Qh9 r (l.length / c) = 0
   ·exact h.1
   ·rw [if_neg h] at h0'; cases h0'
  have hE : QH c x = 0 := by
   by_cases h : QH c x = 0
   ·exact h
   ·simp [Qix, h] at ha
  have hn : ¬ (l.length : Int) / c < 1 := by
   intro h
   simp [Qix, h] at ha
  have hc : ¬ c < 1 := by
   rcases QX c x with h | h <;> omega
  have hl : l.length ≠ 0 := by
   intro h
   rw [h] at hn
   simp at hn
  by_cases h2 : (l.length : Int) % c = 0 <;> by_cases h3 : QL x l = 0 <;> simp [hE, hc, hl, h0, h2, h3]
 ·simp [h0]
def clA (c x r : Int) (l : List Int) : AV := .agg [.int .i64 c, .int .i64 x, .int .i64 r, il l]
def leB (n : Nat) : Nat → List UInt8
 | 0 => []
 | k + 1 => UInt8.ofNat (n % 256) :: leB (n / 256) k
theorem Qb : ∀ (k n : Nat), (leB n k).length = k
 | 0, _ => rfl
 | k + 1, n => by simp [leB, Qb k]
theorem Qlw : ∀ (k n i : Nat) (h : i < k), (leB n k)[i]? = some (UInt8.ofNat (n / 256 ^ i % 256))
 | k + 1, n, 0, _ => by simp [leB]
 | k + 1, n, i + 1, h => by
  simp only [leB, List.getElem?_cons_succ]
  rw [Qlw k (n / 256) i (by omega), Nat.div_div_eq_div_mul, Nat.pow_succ, Nat.mul_comm]
theorem Qdg {n k i : Nat} (h : i < k) : (leB n k).take (i + 1) = (leB n k).take i ++ [UInt8.ofNat (n / 256 ^ i % 256)] := by
 rw [List.take_add_one, Qlw k n i h]
 rfl
theorem QvL {K : IntKind} {n k : Nat} (hk : k ≤ K.bits) : Qi false K (n : Int) (k : Int) = some (.int K ((n / 2 ^ k : Nat) : Int)) := by
 have h3 : ¬ ((k : Int) < 0) := by omega
 have h5 : min k K.bits = k := by omega
 have h6 : (n : Int).fdiv (2 ^ k) = ((n / 2 ^ k : Nat) : Int) := by
  rw [Int.fdiv_eq_ediv_of_nonneg _ (Int.pow_nonneg (by decide))]
  simp [Int.natCast_ediv, Int.natCast_pow]
 simp only [Qi, if_neg h3, Bool.false_eq_true, if_false, Int.toNat_natCast, h5, h6]
def Qq2 (P : Prg) (f : Nat) : Prop := ∀ n w : Nat, 1 ≤ w → w ≤ 8 → VC P f [.int .u64 n, .int .i64 w] (.bool (decide (w = 8) || decide (n / 2 ^ (8 * w) = 0)))
theorem QtM {P : Prg} {f : Nat} (b : Qf P f 14 [.tmp 4] QaP) : Qq2 P f := by
 intro n w h1 h2
 refine VC.of_acall rfl rfl (ACall.of_body b (by simp) ?_)
 by_cases h8 : w = 8
 ·subst h8
  simp (maxSteps := 4000000) (disch := omega) only [rq, simprocAttr, QaP]
 ·have e1 : (decide (w = 8)) = false := by simpa using h8
  have e2 : Qi false .u64 (n : Int) (8 * (w : Int)) = some (.int .u64 ((n / 2 ^ (8 * w) : Nat) : Int)) := by
   have := QvL (K := .u64) (n := n) (k := 8 * w) (by simp [IntKind.bits]; omega)
   rwa [Int.natCast_mul] at this
  have e3 : (((n / 2 ^ (8 * w) : Nat) : Int) == 0) = decide (n / 2 ^ (8 * w) = 0) := by rw [Bool.eq_iff_iff]; simp only [beq_iff_eq, decide_eq_true_eq]; omega
  have e4 : ((w : Int) = 8) = False := eq_false (by omega)
  by_cases h9 : n / 2 ^ (8 * w) = 0
  ·have e5 : (decide (n / 2 ^ (8 * w) = 0)) = true := by simpa using h9
   have e6 : (((n / 2 ^ (8 * w) : Nat) : Int) = 0) = True := eq_true (by omega)
   rw [e5]
   simp (maxSteps := 4000000) (disch := omega) only [rq, simprocAttr, QaP, e1, e2, e4, e6]
  ·have e5 : (decide (n / 2 ^ (8 * w) = 0)) = false := by simpa using h9
   have e6 : (((n / 2 ^ (8 * w) : Nat) : Int) = 0) = False := eq_false (by omega)
   rw [e5]
   simp (maxSteps := 4000000) (disch := omega) only [rq, simprocAttr, QaP, e1, e2, e4, e6]
def JZ (P : Prg) (f : Nat) : Prop := ∀ n w : Nat, 1 ≤ w → w ≤ 8 → n < 256 ^ w → VC P f [.int .u64 n, .int .i64 w] (.tup [bs (leB n w), .int .i64 0])
theorem Qsl {t n : Nat} {l : List UInt8} (h : n = l.length) {e : Int} : QS (fun _ => true) [⟨t, 1, n, u8 l, 0⟩] 2 [.tup [.own 0 n, .int .i64 e]] = some [.tup [bs l, .int .i64 e]] := by
 subst h
 simp only [QS, QG, frzL, QD, Bool.false_eq_true, if_false, List.getElem?_cons_zero, and_self, if_true, frzL_T _ (Qw l), Option.map_some, bs]
theorem Qr9 {P : Prg} {f fF t0 : Nat} (b : Qf P f 35 [.tmp 4, .tmp 5] (Qbe fF t0)) (hF : Qq2 P fF) : JZ P f := by
 intro n w h1 h2 hn
 refine VC.of_walk 1 (by simp [isDL, isD]) (by simp [isD, isDL, QQ]) (ACall.of_body b (by simp) ?_)
 have hn8 : n < 18446744073709551616 := Nat.lt_of_lt_of_le hn (Nat.le_trans (Nat.pow_le_pow_right (by omega) h2) (by decide))
 simp (maxSteps := 4000000) (disch := omega) only [rq, simprocAttr, Qbe]
 refine Qa.vc (hF n w h1 h2) ?_
 have e0 : (decide (w = 8) || decide (n / 2 ^ (8 * w) = 0)) = true := by
  have : n / 2 ^ (8 * w) = 0 := Nat.div_eq_of_lt (by rw [Nat.pow_mul]; exact hn)
  simp [this]
 rw [e0]
 have r0 : Qp [.int .u8 0] w = u8 ([] : List UInt8) ++ List.replicate w (.int .u8 0) := by
  have : ∀ k, Qp [AV.int .u8 0] k = List.replicate k (.int .u8 0) := fun k => by
   induction k with
   | zero => rfl
   | succ k ih => simp [Qp, ih, List.replicate_succ]
  rw [this]; rfl
 simp (maxSteps := 4000000) (disch := omega) only [rq, simprocAttr, Qbe]
 rw [r0]
 refine Q0.by (ι := Nat) (fun k => ⟨[(22, .int .i64 k), (21, .int .i64 w), (6, .own 0 w), (0, .int .u64 n)], [⟨t0, 1, w, u8 ((leB n w).take k) ++ List.replicate (w - k) (.int .u8 0), 0⟩]⟩) (fun k => k ≤ w) (fun k => w - k) 0 (Le.slots (by simp [Am.look])) (by omega) ?_
 intro k hk
 by_cases hlt : k < w
 ·have e2 : Qi false .u64 (n : Int) (8 * (k : Int)) = some (.int .u64 ((n / 256 ^ k : Nat) : Int)) := by
   have := QvL (K := .u64) (n := n) (k := 8 * k) (by simp [IntKind.bits]; omega)
   rwa [Int.natCast_mul, Nat.pow_mul] at this
  have e3 : IntKind.u8.wrap ((n / 256 ^ k : Nat) : Int) = ((UInt8.ofNat (n / 256 ^ k % 256)).toNat : Int) := by
   simp [IntKind.wrap, IntKind.signed, IntKind.bits]
  have hl : (u8 ((leB n w).take k)).length = k := by simp [QC, Qb]; omega
  have e4 : (u8 ((leB n w).take k) ++ List.replicate (w - k) (AV.int .u8 0)).take k = u8 ((leB n w).take k) := by rw [List.take_left' hl]
  have e5 : (u8 ((leB n w).take k) ++ List.replicate (w - k) (AV.int .u8 0)).drop (k + 1) = List.replicate (w - (k + 1)) (.int .u8 0) := by
   rw [List.drop_append, List.drop_of_length_le (by omega), hl]
   simp
   omega
  have e6 : u8 ((leB n w).take k) ++ [AV.int .u8 ((UInt8.ofNat (n / 256 ^ k % 256)).toNat : Int)] = u8 ((leB n w).take (k + 1)) := by
   rw [Qdg hlt, ← QcY]; rfl
  simp (maxSteps := 4000000) (disch := omega) only [rq, simprocAttr, e2, e3, hl, e4, e5, e6]
  refine ⟨k + 1, by omega, by omega, ?_⟩
  refine Le.slots ?_
  simp [Am.look]
 ·have ek : k = w := by omega
  subst ek
  have e7 : (leB n k).take k = leB n k := List.take_of_length_le (by rw [Qb]; exact Nat.le_refl _)
  have e8 : u8 (leB n k) ++ List.replicate (k - k) (AV.int .u8 0) = u8 (leB n k) := by simp
  simp (maxSteps := 4000000) (disch := omega) only [rq, simprocAttr, e7]
  rw [e8, Qsl (Qb k n).symm]
theorem QpO : ∀ (k n : Nat), n < 256 ^ k → leN (leB n k) = n
 | 0, n, h => by simp at h; subst h; rfl
 | k + 1, n, h => by
  have h1 : n / 256 < 256 ^ k := by rw [Nat.pow_succ] at h; exact Nat.div_lt_of_lt_mul (by omega)
  have h2 : (UInt8.ofNat (n % 256)).toNat = n % 256 := by simp
  simp only [leB, leN, QpO k _ h1, h2]
  omega
theorem Qvq {l : List UInt8} {k : Nat} (h : k < l.length) : (u8 l).drop k = .int .u8 (l[k]).toNat :: u8 (l.drop (k + 1)) := by
 rw [Qhr, List.drop_eq_getElem_cons h]; rfl
def Quy (c b r : Int) : Prop := 1 ≤ c ∧ c ≤ 6 ∧ Z2 b ≠ 0 ∧ 1 ≤ r ∧ r ≤ 1048576
instance (c b r : Int) : Decidable (Quy c b r) := by unfold Quy; exact inferInstance
theorem QlE (b : Int) : Z2 b ≠ 0 ↔ b = 8 ∨ b = 16 ∨ b = 24 := by
 rcases Q8 b with ⟨rfl, h⟩ | ⟨rfl, h⟩ | ⟨rfl, h⟩ | ⟨h1, h2, h3, h⟩ <;> simp [h] <;> omega
theorem VC.of_vo {P : Prg} {f : FuncId} {ds : List AV} {x : Ob} (h : VO P f ds (.own 0 x.n) x) (hx : isTL x.cs = true) (hd : isDL x.cs = true) : VC P f ds (.list x.n x.cs) := by
 refine VC.of_walk 1 h.2.1 (by simp only [isD]; exact hd) (ACall.of_vo h ?_)
 simp [shr, QS, QG, frzL, QD, frzL_T _ hx]
theorem Qd3 (x : Int) : IntKind.i32.wrap x = (x + 2147483648) % 4294967296 - 2147483648 := by
 simp only [IntKind.wrap, IntKind.bits, IntKind.signed]
 simp
 omega
theorem QjH {a c s : Nat} (h : a < 2 ^ s) (h2 : a + c * 2 ^ s < 2147483648) : IntKind.i32.wrap (BitVec.ofInt IntKind.i32.bits (a : Int) ||| BitVec.ofInt IntKind.i32.bits ((c * 2 ^ s : Nat) : Int)).toNat = ((a + c * 2 ^ s : Nat) : Int) := by
 have e1 : (BitVec.ofInt IntKind.i32.bits (a : Int) ||| BitVec.ofInt IntKind.i32.bits ((c * 2 ^ s : Nat) : Int)).toNat = a ||| c * 2 ^ s := by
  rw [BitVec.toNat_or]
  simp only [IntKind.bits, BitVec.toNat_ofInt]
  congr 1
  ·omega
  ·omega
 rw [e1, QpC h, J6 (by omega) (by omega)]
def Qjp (b : Int) (s : List UInt8) : Int := if b = 8 then (leN s : Int) - 128 else if Z2 b ≤ (leN s : Int) then (leN s : Int) - 2 * Z2 b else leN s
def ZR (b : Int) (l : List UInt8) : List Int := (List.range (l.length / (b / 8).toNat)).map fun i => Qjp b ((l.drop (i * (b / 8).toNat)).take (b / 8).toNat)
def ZS (b : Int) (l : List UInt8) : AV :=
 if Z2 b = 0 then .tup [.list 0 [], .int .i64 2] else if l.length % (b / 8).toNat ≠ 0 then .tup [.list 0 [], .int .i64 12] else if 4000 < l.length / (b / 8).toNat then .tup [.list 0 [], .int .i64 4] else .tup [il (ZR b l), .int .i64 0]
theorem QjQ (b : Int) (l : List UInt8) : isD (ZS b l) = true := by
 unfold ZS; split <;> (try split) <;> (try split) <;> simp [isD, isDL, Zy]
theorem Xh (b : Int) (l : List UInt8) : (ZR b l).length = l.length / (b / 8).toNat := by simp [ZR]
theorem QrJ {b : Int} {l : List UInt8} {i : Nat} (h : i < (ZR b l).length) : (ZR b l)[i] = Qjp b ((l.drop (i * (b / 8).toNat)).take (b / 8).toNat) := by simp [ZR]
theorem Qe2 {b : Int} {l : List UInt8} {i : Nat} (h : i < l.length / (b / 8).toNat) : (ZR b l).take (i + 1) = (ZR b l).take i ++ [Qjp b ((l.drop (i * (b / 8).toNat)).take (b / 8).toNat)] := by
 rw [List.take_succ_eq_append_getElem (by rw [Xh]; exact h), QrJ]
theorem Qv2 {l : List UInt8} {a : Nat} (h : a < l.length) : leN ((l.drop a).take 1) = l[a].toNat := by
 rw [List.drop_eq_getElem_cons h]; simp only [List.take_succ_cons, List.take_zero, leN]; omega
theorem Qv1 {l : List UInt8} {a : Nat} (h : a + 1 < l.length) : leN ((l.drop a).take 2) = l[a].toNat + l[a + 1].toNat * 256 := by
 rw [List.drop_eq_getElem_cons (by omega), List.drop_eq_getElem_cons (by omega)]; simp only [List.take_succ_cons, List.take_zero, leN]; omega
theorem Qv0 {l : List UInt8} {a : Nat} (h : a + 2 < l.length) : leN ((l.drop a).take 3) = l[a].toNat + l[a + 1].toNat * 256 + l[a + 2].toNat * 65536 := by
 have e : l[a + 2] = l[a + 1 + 1]'h := rfl
 rw [e, List.drop_eq_getElem_cons (by omega), List.drop_eq_getElem_cons (by omega), List.drop_eq_getElem_cons (by omega)]; simp only [List.take_succ_cons, List.take_zero, leN]; omega
def QbX (P : Prg) (f : Nat) : Prop := ∀ (b : Int) (l : List UInt8), l.length < 4611686018427387904 → VC P f [.int .i64 b, bs l] (ZS b l)
theorem QuE {n : Nat} (h : n < 65536) : (IntKind.i32.wrap ((n : Int) * 65536)).fdiv 65536 = Qjp 16 [] + (if 32768 ≤ (n : Int) then (n : Int) - 65536 else n) := by
 have : Qjp 16 [] = 0 := by decide
 rw [this, Int.fdiv_eq_ediv_of_nonneg _ (by omega), Qd3]
 split <;> omega
theorem QuD {n : Nat} (h : n < 16777216) : (IntKind.i32.wrap ((n : Int) * 256)).fdiv 256 = Qjp 24 [] + (if 8388608 ≤ (n : Int) then (n : Int) - 16777216 else n) := by
 have : Qjp 24 [] = 0 := by decide
 rw [this, Int.fdiv_eq_ediv_of_nonneg _ (by omega), Qd3]
 split <;> omega
theorem QsN {s : List UInt8} : Qjp 16 s = if 32768 ≤ (leN s : Int) then (leN s : Int) - 65536 else leN s := by simp [Qjp, Z2]
theorem QsM {s : List UInt8} : Qjp 24 s = if 8388608 ≤ (leN s : Int) then (leN s : Int) - 16777216 else leN s := by simp [Qjp, Z2]
theorem QuA {s : List UInt8} : Qjp 8 s = (leN s : Int) - 128 := by simp [Qjp]
set_option maxRecDepth 20000 in
set_option maxHeartbeats 2000000 in
theorem Qg5 {P : Prg} {f fR t0 : Nat} (bd : Qf P f 81 [.tmp 4, .tmp 5] (Q9 fR t0)) (hR : QfL P fR) : QbX P f := by
 intro b l hl
 refine VC.of_walk 1 (by simp [isDL, isD, QQ]) (QjQ _ _) (ACall.of_body bd (by simp) ?_)
 have hR' := hR b
 rcases Q8 b with ⟨rfl, h⟩ | ⟨rfl, h⟩ | ⟨rfl, h⟩ | ⟨h1, h2, h3, h⟩
 case inr.inr.inr =>
  simp only [X7, if_pos h] at hR'
  simp only [ZS, if_pos h]
  simp (maxSteps := 4000000) (disch := omega) only [rq, simprocAttr, Q9, bs]
  refine Qa.vc hR' ?_
  simp (maxSteps := 4000000) (disch := omega) only [rq, simprocAttr]
  simp [QS, QG, frzL, QD]
 ·simp only [X7, h] at hR'
  rw [if_neg (by omega)] at hR'
  have hw : ((8 : Int) / 8).toNat = 1 := rfl
  simp only [ZS, hw, h]
  rw [if_neg (by omega), if_neg (by omega)]
  have hL := Xh 8 l
  have hT := fun i => @Qe2 8 l i
  rw [hw] at hL hT
  generalize hS : ZR 8 l = S at *
  simp (maxSteps := 4000000) (disch := omega) only [rq, simprocAttr, Q9, bs]
  refine Qa.vc hR' ?_
  by_cases h4 : 4000 < l.length
  ·rw [if_pos (by omega)]
   simp (maxSteps := 4000000) (disch := omega) only [rq, simprocAttr]
   simp [QS, QG, frzL, QD]
  rw [if_neg (by omega)]
  simp (maxSteps := 4000000) (disch := omega) only [rq, simprocAttr]
  refine Q0.by (ι := Nat) (fun k => ⟨[(11, .int .i64 k), (10, .own 0 k), (9, .int .i64 1), (0, .int .i64 8), (1, .list l.length (u8 l))], [⟨t0, 1, k, ks .i32 (S.take k), 0⟩]⟩) (fun k => k ≤ l.length) (fun k => l.length - k) 0 (Le.trans (Le.virt 10 t0 1 (by omega) rfl) (Le.slots (by simp [Am.look]))) (by omega) ?_
  intro k hk
  have lk : (ks .i32 (S.take k)).length = k := by rw [Qd, List.length_take]; omega
  by_cases hlt : k < l.length
  ·have e1 := QdP hlt
   have e2 := hT k (by omega)
   have b0 := l[k].toNat_lt
   rw [QuA, Nat.mul_one, Qv2 hlt] at e2
   simp (maxSteps := 4000000) (disch := omega) only [rq, simprocAttr, e1, lk, QhP]
   rw [← e2]
   exact ⟨k + 1, by omega, by omega, Le.drop1 (Qv _ _) (by simp [Am.look, QG, frzL, QD, frzL_T _ (Qw _)])⟩
  ·have ek : k = l.length := by omega
   subst ek
   have tS : S.take l.length = S := List.take_of_length_le (by omega)
   simp (maxSteps := 4000000) (disch := omega) only [rq, simprocAttr]
   rw [tS]
   simp [QS, QG, frzL, QD, frzL_T _ (Qv _ _), il, hL]
 ·simp only [X7, h] at hR'
  rw [if_neg (by omega)] at hR'
  have hw : ((16 : Int) / 8).toNat = 2 := rfl
  simp only [ZS, hw, h]
  rw [if_neg (by omega)]
  have hL := Xh 16 l
  have hT := fun i => @Qe2 16 l i
  rw [hw] at hL hT
  generalize hS : ZR 16 l = S at *
  have m1 : (l.length : Int).tmod 2 = ((l.length % 2 : Nat) : Int) := by rw [Int.tmod_eq_emod_of_nonneg (by omega)]; omega
  have m2 : (l.length : Int).tdiv 2 = ((l.length / 2 : Nat) : Int) := by rw [Int.tdiv_eq_ediv_of_nonneg (by omega)]; omega
  simp (maxSteps := 4000000) (disch := omega) only [rq, simprocAttr, Q9, bs]
  refine Qa.vc hR' ?_
  by_cases h3 : l.length % 2 ≠ 0
  ·rw [if_pos h3]
   simp (maxSteps := 4000000) (disch := omega) only [rq, simprocAttr, m1]
   simp [QS, QG, frzL, QD]
  rw [if_neg h3]
  have h3' : l.length % 2 = 0 := by omega
  by_cases h4 : 4000 < l.length / 2
  ·rw [if_pos h4]
   simp (maxSteps := 4000000) (disch := omega) only [rq, simprocAttr, m1, m2]
   simp [QS, QG, frzL, QD]
  rw [if_neg h4]
  simp (maxSteps := 4000000) (disch := omega) only [rq, simprocAttr, m1, m2]
  refine Q0.by (ι := Nat) (fun k => ⟨[(11, .int .i64 ((k * 2 : Nat) : Int)), (10, .own 0 k), (9, .int .i64 2), (0, .int .i64 16), (1, .list l.length (u8 l))], [⟨t0, 1, k, ks .i32 (S.take k), 0⟩]⟩) (fun k => k ≤ l.length / 2) (fun k => l.length / 2 - k) 0 (Le.trans (Le.virt 10 t0 1 (by omega) rfl) (Le.slots (by simp [Am.look]))) (by omega) ?_
  intro k hk
  have lk : (ks .i32 (S.take k)).length = k := by rw [Qd, List.length_take]; omega
  by_cases hlt : k < l.length / 2
  ·have eT := hT k hlt
   have g : k * 2 + 2 ≤ l.length := by omega
   rw [QsN, Qv1 (by omega)] at eT
   have e0 := QdP (l := l) (k := k * 2 + 0) (by omega)
   have b0 := (l[k * 2 + 0]).toNat_lt
   have e1 := QdP (l := l) (k := k * 2 + 1) (by omega)
   have b1 := (l[k * 2 + 1]).toNat_lt
   simp only [Nat.add_zero] at e0 b0
   generalize l[k * 2] = y0 at *
   generalize l[k * 2 + 1] = y1 at *
   generalize hat : k * 2 = at_ at *
   obtain ⟨X, hX⟩ : ∃ X, X = y0.toNat + y1.toNat * 256 := ⟨_, rfl⟩
   rw [← hX] at eT
   simp (maxSteps := 4000000) (disch := omega) only [rq, simprocAttr]
   refine Q0.by (ι := Nat) (fun j => ⟨[(54, .int .i64 j), (53, .int .i64 2), (12, .int .i32 (match j with | 0 => 0 | 1 => (y0.toNat : Int) | _ => (X : Int))), (11, .int .i64 (at_ : Int)), (10, .own 0 k), (9, .int .i64 2), (0, .int .i64 16), (1, .list l.length (u8 l))], [⟨t0, 1, k, ks .i32 (S.take k), 0⟩]⟩) (fun j => j ≤ 2) (fun j => 2 - j) 0 (Le.slots (by simp [Am.look])) (by omega) ?_
   intro j hj
   have o1 := @QjH y0.toNat y1.toNat 8 (by omega) (by omega)
   rw [show y1.toNat * 2 ^ 8 = y1.toNat * 256 by rfl, ← hX] at o1
   generalize hq1 : y1.toNat * 256 = q1 at *
   have o0 : IntKind.i32.wrap (BitVec.ofInt IntKind.i32.bits 0 ||| BitVec.ofInt IntKind.i32.bits (y0.toNat : Int)).toNat = (y0.toNat : Int) := by
    have := @QjH 0 y0.toNat 0 (by omega) (by omega)
    simpa using this
   have s0 : Qi true .i32 (y0.toNat : Int) 0 = some (.int .i32 (y0.toNat : Int)) := by simp [Qi]; rw [J6] <;> omega
   have s1 : Qi true .i32 (y1.toNat : Int) 8 = some (.int .i32 (q1 : Int)) := by simp [Qi, IntKind.bits]; rw [J6] <;> omega
   have hj3 : j = 0 ∨ j = 1 ∨ j = 2 := by omega
   rcases hj3 with rfl | rfl | rfl
   ·simp (maxSteps := 4000000) (disch := omega) only [rq, simprocAttr, e0, o0, s0]
    exact ⟨1, by omega, by omega, Le.slots (by simp [Am.look])⟩
   ·simp (maxSteps := 4000000) (disch := omega) only [rq, simprocAttr, e1, o1, s1]
    exact ⟨2, by omega, by omega, Le.slots (by simp [Am.look])⟩
   ·have z1 : ∀ x : Int, Qi true .i32 x 16 = some (.int .i32 (IntKind.i32.wrap (x * 65536))) := fun x => rfl
    have z2 : ∀ x : Int, Qi false .i32 x 16 = some (.int .i32 (x.fdiv 65536)) := fun x => rfl
    have z3 := QuE (n := X) (by omega)
    rw [show Qjp 16 [] = 0 by decide, Int.zero_add] at z3
    rw [← z3] at eT
    have z4 : (IntKind.i32.wrap ((X : Int) * 65536)).fdiv 65536 ≤ 2147483647 := by rw [z3]; split <;> omega
    have z5 : -2147483648 ≤ (IntKind.i32.wrap ((X : Int) * 65536)).fdiv 65536 := by rw [z3]; split <;> omega
    simp (maxSteps := 4000000) (disch := omega) only [rq, simprocAttr, z1, z2, lk, QhP]
    rw [← eT, ← hat]
    exact ⟨k + 1, by omega, by omega, Le.drop1 (Qv _ _) (by simp [Am.look, QG, frzL, QD, frzL_T _ (Qw _)]; try omega)⟩
  ·have ek : k = l.length / 2 := by omega
   subst ek
   have tS : S.take (l.length / 2) = S := List.take_of_length_le (by omega)
   have tw : l.length / 2 * 2 = l.length := by omega
   rw [tS, tw]
   simp (maxSteps := 4000000) (disch := omega) only [rq, simprocAttr]
   simp [QS, QG, frzL, QD, frzL_T _ (Qv _ _), il, hL]
 ·simp only [X7, h] at hR'
  rw [if_neg (by omega)] at hR'
  have hw : ((24 : Int) / 8).toNat = 3 := rfl
  simp only [ZS, hw, h]
  rw [if_neg (by omega)]
  have hL := Xh 24 l
  have hT := fun i => @Qe2 24 l i
  rw [hw] at hL hT
  generalize hS : ZR 24 l = S at *
  have m1 : (l.length : Int).tmod 3 = ((l.length % 3 : Nat) : Int) := by rw [Int.tmod_eq_emod_of_nonneg (by omega)]; omega
  have m2 : (l.length : Int).tdiv 3 = ((l.length / 3 : Nat) : Int) := by rw [Int.tdiv_eq_ediv_of_nonneg (by omega)]; omega
  simp (maxSteps := 4000000) (disch := omega) only [rq, simprocAttr, Q9, bs]
  refine Qa.vc hR' ?_
  by_cases h3 : l.length % 3 ≠ 0
  ·rw [if_pos h3]
   simp (maxSteps := 4000000) (disch := omega) only [rq, simprocAttr, m1]
   simp [QS, QG, frzL, QD]
  rw [if_neg h3]
  have h3' : l.length % 3 = 0 := by omega
  by_cases h4 : 4000 < l.length / 3
  ·rw [if_pos h4]
   simp (maxSteps := 4000000) (disch := omega) only [rq, simprocAttr, m1, m2]
   simp [QS, QG, frzL, QD]
  rw [if_neg h4]
  simp (maxSteps := 4000000) (disch := omega) only [rq, simprocAttr, m1, m2]
  refine Q0.by (ι := Nat) (fun k => ⟨[(11, .int .i64 ((k * 3 : Nat) : Int)), (10, .own 0 k), (9, .int .i64 3), (0, .int .i64 24), (1, .list l.length (u8 l))], [⟨t0, 1, k, ks .i32 (S.take k), 0⟩]⟩) (fun k => k ≤ l.length / 3) (fun k => l.length / 3 - k) 0 (Le.trans (Le.virt 10 t0 1 (by omega) rfl) (Le.slots (by simp [Am.look]))) (by omega) ?_
  intro k hk
  have lk : (ks .i32 (S.take k)).length = k := by rw [Qd, List.length_take]; omega
  by_cases hlt : k < l.length / 3
  ·have eT := hT k hlt
   have g : k * 3 + 3 ≤ l.length := by omega
   rw [QsM, Qv0 (by omega)] at eT
   have e0 := QdP (l := l) (k := k * 3 + 0) (by omega)
   have b0 := (l[k * 3 + 0]).toNat_lt
   have e1 := QdP (l := l) (k := k * 3 + 1) (by omega)
   have b1 := (l[k * 3 + 1]).toNat_lt
   have e2 := QdP (l := l) (k := k * 3 + 2) (by omega)
   have b2 := (l[k * 3 + 2]).toNat_lt
   simp only [Nat.add_zero] at e0 b0
   generalize l[k * 3] = y0 at *
   generalize l[k * 3 + 1] = y1 at *
   generalize l[k * 3 + 2] = y2 at *
   generalize hat : k * 3 = at_ at *
   obtain ⟨X, hX⟩ : ∃ X, X = y0.toNat + y1.toNat * 256 := ⟨_, rfl⟩
   rw [← hX] at eT
   obtain ⟨Y, hY⟩ : ∃ Y, Y = X + y2.toNat * 65536 := ⟨_, rfl⟩
   rw [← hY] at eT
   simp (maxSteps := 4000000) (disch := omega) only [rq, simprocAttr]
   refine Q0.by (ι := Nat) (fun j => ⟨[(54, .int .i64 j), (53, .int .i64 3), (12, .int .i32 (match j with | 0 => 0 | 1 => (y0.toNat : Int) | 2 => (X : Int) | _ => (Y : Int))), (11, .int .i64 (at_ : Int)), (10, .own 0 k), (9, .int .i64 3), (0, .int .i64 24), (1, .list l.length (u8 l))], [⟨t0, 1, k, ks .i32 (S.take k), 0⟩]⟩) (fun j => j ≤ 3) (fun j => 3 - j) 0 (Le.slots (by simp [Am.look])) (by omega) ?_
   intro j hj
   have o1 := @QjH y0.toNat y1.toNat 8 (by omega) (by omega)
   rw [show y1.toNat * 2 ^ 8 = y1.toNat * 256 by rfl, ← hX] at o1
   have o2 := @QjH X y2.toNat 16 (by omega) (by omega)
   rw [show y2.toNat * 2 ^ 16 = y2.toNat * 65536 by rfl, ← hY] at o2
   generalize hq2 : y2.toNat * 65536 = q2 at *
   generalize hq1 : y1.toNat * 256 = q1 at *
   have o0 : IntKind.i32.wrap (BitVec.ofInt IntKind.i32.bits 0 ||| BitVec.ofInt IntKind.i32.bits (y0.toNat : Int)).toNat = (y0.toNat : Int) := by
    have := @QjH 0 y0.toNat 0 (by omega) (by omega)
    simpa using this
   have s0 : Qi true .i32 (y0.toNat : Int) 0 = some (.int .i32 (y0.toNat : Int)) := by simp [Qi]; rw [J6] <;> omega
   have s1 : Qi true .i32 (y1.toNat : Int) 8 = some (.int .i32 (q1 : Int)) := by simp [Qi, IntKind.bits]; rw [J6] <;> omega
   have s2 : Qi true .i32 (y2.toNat : Int) 16 = some (.int .i32 (q2 : Int)) := by simp [Qi, IntKind.bits]; rw [J6] <;> omega
   have hj3 : j = 0 ∨ j = 1 ∨ j = 2 ∨ j = 3 := by omega
   rcases hj3 with rfl | rfl | rfl | rfl
   ·simp (maxSteps := 4000000) (disch := omega) only [rq, simprocAttr, e0, o0, s0]
    exact ⟨1, by omega, by omega, Le.slots (by simp [Am.look])⟩
   ·simp (maxSteps := 4000000) (disch := omega) only [rq, simprocAttr, e1, o1, s1]
    exact ⟨2, by omega, by omega, Le.slots (by simp [Am.look])⟩
   ·simp (maxSteps := 4000000) (disch := omega) only [rq, simprocAttr, e2, o2, s2]
    exact ⟨3, by omega, by omega, Le.slots (by simp [Am.look])⟩
   ·have z1 : ∀ x : Int, Qi true .i32 x 8 = some (.int .i32 (IntKind.i32.wrap (x * 256))) := fun x => rfl
    have z2 : ∀ x : Int, Qi false .i32 x 8 = some (.int .i32 (x.fdiv 256)) := fun x => rfl
    have z3 := QuD (n := Y) (by omega)
    rw [show Qjp 24 [] = 0 by decide, Int.zero_add] at z3
    rw [← z3] at eT
    have z4 : (IntKind.i32.wrap ((Y : Int) * 256)).fdiv 256 ≤ 2147483647 := by rw [z3]; split <;> omega
    have z5 : -2147483648 ≤ (IntKind.i32.wrap ((Y : Int) * 256)).fdiv 256 := by rw [z3]; split <;> omega
    simp (maxSteps := 4000000) (disch := omega) only [rq, simprocAttr, z1, z2, lk, QhP]
    rw [← eT, ← hat]
    exact ⟨k + 1, by omega, by omega, Le.drop1 (Qv _ _) (by simp [Am.look, QG, frzL, QD, frzL_T _ (Qw _)]; try omega)⟩
  ·have ek : k = l.length / 3 := by omega
   subst ek
   have tS : S.take (l.length / 3) = S := List.take_of_length_le (by omega)
   have tw : l.length / 3 * 3 = l.length := by omega
   rw [tS, tw]
   simp (maxSteps := 4000000) (disch := omega) only [rq, simprocAttr]
   simp [QS, QG, frzL, QD, frzL_T _ (Qv _ _), il, hL]
theorem QnE {x : Int} (hx : Z2 x ≠ 0) {s : List UInt8} (hs : s.length = (x / 8).toNat) : -Z2 x ≤ Qjp x s ∧ Qjp x s < Z2 x := by
 have h1 := QsV s
 rw [hs] at h1
 rcases Q8 x with ⟨rfl, h⟩ | ⟨rfl, h⟩ | ⟨rfl, h⟩ | ⟨_, _, _, h⟩
 ·have e : (2 : Nat) ^ (8 * ((8 : Int) / 8).toNat) = 256 := by decide
  rw [e] at h1
  rw [QuA, h]; omega
 ·have e : (2 : Nat) ^ (8 * ((16 : Int) / 8).toNat) = 65536 := by decide
  rw [e] at h1
  rw [QsN, h]; split <;> omega
 ·have e : (2 : Nat) ^ (8 * ((24 : Int) / 8).toNat) = 16777216 := by decide
  rw [e] at h1
  rw [QsM, h]; split <;> omega
 ·exact absurd h hx
theorem QdD {x : Int} (hx : Z2 x ≠ 0) (l : List UInt8) : ∀ y ∈ ZR x l, -Z2 x ≤ y ∧ y < Z2 x := by
 intro y hy
 simp only [ZR, List.mem_map, List.mem_range] at hy
 obtain ⟨i, hi, rfl⟩ := hy
 refine QnE hx ?_
 generalize (x / 8).toNat = w at *
 have h0 : 0 < w := by
  rcases Nat.eq_zero_or_pos w with h | h
  ·subst h; simp at hi
  ·exact h
 have : (i + 1) * w ≤ l.length := Nat.le_trans (Nat.mul_le_mul_right w (by omega : i + 1 ≤ l.length / w)) (Nat.div_mul_le_self _ _)
 rw [Nat.add_mul, Nat.one_mul] at this
 rw [List.length_take, List.length_drop]
 omega
theorem Qht {x : Int} (hx : Z2 x ≠ 0) (l : List UInt8) : I32 (ZR x l) := by
 intro y hy
 have h1 := QdD hx l y hy
 rcases Q8 x with ⟨_, h⟩ | ⟨_, h⟩ | ⟨_, h⟩ | ⟨_, _, _, h⟩ <;> omega
theorem Qcf {w n : Nat} (h : n < 2 ^ w) : BitVec.ofInt w (n : Int) = BitVec.ofNat w n := by
 apply BitVec.eq_of_toNat_eq
 rw [BitVec.toNat_ofInt, BitVec.toNat_ofNat]
 omega
theorem Qez {K : IntKind} (hs : K.signed = false) {n : Nat} (h : n < 2 ^ K.bits) : K.wrap (n : Int) = n := by
 have h1 : (n : Int) % 2 ^ K.bits = n := by
  rw [Int.emod_eq_of_lt (by omega)]
  exact_mod_cast h
 unfold IntKind.wrap
 simp [hs, h1]
theorem Qru {K : IntKind} (hs : K.signed = false) {a b : Nat} (ha : a < 2 ^ K.bits) (hb : b < 2 ^ K.bits) : K.wrap (BitVec.ofInt K.bits (a : Int) ^^^ BitVec.ofInt K.bits (b : Int)).toNat = ((a ^^^ b : Nat) : Int) := by
 rw [Qcf ha, Qcf hb, BitVec.toNat_xor, BitVec.toNat_ofNat, BitVec.toNat_ofNat, Nat.mod_eq_of_lt ha, Nat.mod_eq_of_lt hb]
 exact Qez hs (Nat.xor_lt_two_pow ha hb)
theorem QvG {K : IntKind} (hs : K.signed = false) {a b : Nat} (ha : a < 2 ^ K.bits) (hb : b < 2 ^ K.bits) : K.wrap (BitVec.ofInt K.bits (a : Int) &&& BitVec.ofInt K.bits (b : Int)).toNat = ((a &&& b : Nat) : Int) := by
 rw [Qcf ha, Qcf hb, BitVec.toNat_and, BitVec.toNat_ofNat, BitVec.toNat_ofNat, Nat.mod_eq_of_lt ha, Nat.mod_eq_of_lt hb]
 exact Qez hs (Nat.and_lt_two_pow _ hb)
theorem orK {K : IntKind} (hs : K.signed = false) {a b : Nat} (ha : a < 2 ^ K.bits) (hb : b < 2 ^ K.bits) : K.wrap (BitVec.ofInt K.bits (a : Int) ||| BitVec.ofInt K.bits (b : Int)).toNat = ((a ||| b : Nat) : Int) := by
 rw [Qcf ha, Qcf hb, BitVec.toNat_or, BitVec.toNat_ofNat, BitVec.toNat_ofNat, Nat.mod_eq_of_lt ha, Nat.mod_eq_of_lt hb]
 exact Qez hs (Nat.or_lt_two_pow ha hb)
theorem Qlg {K : IntKind} {n k : Nat} (hk : k ≤ K.bits) : Qi false K (n : Int) (k : Int) = some (.int K ((n / 2 ^ k : Nat) : Int)) := by
 have h3 : ¬ ((k : Int) < 0) := by omega
 have h5 : min k K.bits = k := by omega
 have h6 : (n : Int).fdiv (2 ^ k) = ((n / 2 ^ k : Nat) : Int) := by
  rw [Int.fdiv_eq_ediv_of_nonneg _ (Int.pow_nonneg (by decide))]
  simp [Int.natCast_ediv, Int.natCast_pow]
 simp only [Qi, if_neg h3, Bool.false_eq_true, if_false, Int.toNat_natCast, h5, h6]
theorem Qrn {K : IntKind} (hs : K.signed = false) {c s : Nat} (h : s ≤ K.bits) (h2 : c * 2 ^ s < 2 ^ K.bits) : Qi true K (c : Int) (s : Int) = some (.int K ((c * 2 ^ s : Nat) : Int)) := by
 have h3 : ¬ ((s : Int) < 0) := by omega
 have h5 : min s K.bits = s := by omega
 have h6 : (c : Int) * 2 ^ s = ((c * 2 ^ s : Nat) : Int) := by simp
 simp only [Qi, if_neg h3, if_true, Int.toNat_natCast, h5, h6]
 rw [Qez hs h2]
def Qsv (c : Nat) : Nat := (c / 2) ^^^ (if c % 2 = 1 then 3988292384 else 0)
def QeO : Nat → Nat → Nat
 | 0, c => c
 | k + 1, c => QeO k (Qsv c)
theorem Quc {c : Nat} (h : c < 4294967296) : Qsv c < 4294967296 := by
 unfold Qsv
 have : (if c % 2 = 1 then 3988292384 else 0) < 2 ^ 32 := by split <;> decide
 exact Nat.xor_lt_two_pow (n := 32) (by omega) this
theorem Qh8 : ∀ (k : Nat) {c : Nat}, c < 4294967296 → QeO k c < 4294967296
 | 0, _, h => h
 | k + 1, _, h => Qh8 k (Quc h)
theorem Qkf : ∀ (k c : Nat), QeO (k + 1) c = Qsv (QeO k c)
 | 0, _ => rfl
 | k + 1, c => by rw [QeO, Qkf k, QeO]
theorem Qsu (x h : Nat) : Qsv (x ^^^ 2 * h) = Qsv x ^^^ h := by
 have e1 : (x ^^^ 2 * h) % 2 = x % 2 := by
  have := Nat.xor_mod_two_pow (a := x) (b := 2 * h) (n := 1)
  simpa using this
 have e2 : (x ^^^ 2 * h) / 2 = x / 2 ^^^ h := by rw [Nat.xor_div_two, Nat.mul_div_cancel_left _ (by omega)]
 unfold Qsv
 rw [e1, e2, Nat.xor_assoc, Nat.xor_assoc, Nat.xor_comm h]
theorem Qnb : ∀ (k x h : Nat), QeO k (x ^^^ 2 ^ k * h) = QeO k x ^^^ h
 | 0, x, h => by simp [QeO]
 | k + 1, x, h => by
  rw [QeO, Nat.pow_succ, Nat.mul_comm (2 ^ k) 2, Nat.mul_assoc, Qsu, Qnb k, QeO]
theorem Qi1 (b k : Nat) : b = b % 2 ^ k ^^^ 2 ^ k * (b / 2 ^ k) := by
 apply Nat.eq_of_testBit_eq
 intro i
 rw [Nat.testBit_xor, Nat.testBit_mod_two_pow, Nat.testBit_two_pow_mul, Nat.testBit_div_two_pow]
 by_cases h : i < k
 ·have : ¬ k ≤ i := by omega
  simp [h, this]
 ·have h' : k ≤ i := by omega
  simp [h, h', show i - k + k = i by omega]
def QuW (s b : Nat) : Nat := QeO 8 (s ^^^ b)
theorem Qoc (s b : Nat) : QuW s b = s / 256 ^^^ QeO 8 (s % 256 ^^^ b) := by
 have h : s ^^^ b = (s % 256 ^^^ b) ^^^ 2 ^ 8 * (s / 256) := by
  have := Qi1 s 8
  rw [show (2 : Nat) ^ 8 = 256 from rfl] at this ⊢
  rw [Nat.xor_assoc, Nat.xor_comm b, ← Nat.xor_assoc, ← this]
 rw [QuW, h, Qnb, Nat.xor_comm]
theorem Qud {s b : Nat} (hs : s < 4294967296) (hb : b < 256) : QuW s b < 4294967296 := Qh8 8 (Nat.xor_lt_two_pow (n := 32) (by omega) (by omega))
def QoB (s : Nat) (l : List UInt8) : Nat := l.foldl (fun s b => QuW s b.toNat) s
theorem Qqv {s : Nat} {l : List UInt8} {k : Nat} (h : k < l.length) : QoB s (l.take (k + 1)) = QuW (QoB s (l.take k)) (l[k]).toNat := by
 rw [List.take_succ_eq_append_getElem h, QoB, List.foldl_append]; rfl
theorem Ql0 : ∀ {l : List UInt8} {s : Nat}, s < 4294967296 → QoB s l < 4294967296
 | [], _, h => h
 | b :: l, s, h => Ql0 (l := l) (Qud h (UInt8.toNat_lt b))
def Qjn (i : Nat) : List Int := (List.range 256).map fun j => if j < i then ((QeO 8 j : Nat) : Int) else 0
theorem Xf (i : Nat) : (Qjn i).length = 256 := by simp [Qjn]
theorem QeC {i j : Nat} (h : j < 256) : (Qjn i)[j]'(by rw [Xf]; exact h) = if j < i then ((QeO 8 j : Nat) : Int) else 0 := by simp [Qjn]
theorem QrB {i : Nat} (h : i < 256) : (Qjn i).set i ((QeO 8 i : Nat) : Int) = Qjn (i + 1) := by
 refine List.ext_getElem (by simp [Xf]) fun j h1 h2 => ?_
 have hj : j < 256 := by simpa [Xf] using h2
 rw [List.getElem_set, QeC hj]
 split
 ·rename_i e; subst e; rw [QeC hj, if_pos (by omega)]
 ·rename_i e; rw [QeC hj]
  by_cases h3 : j < i
  ·rw [if_pos h3, if_pos (by omega)]
  ·rw [if_neg h3, if_neg (by omega)]
def Qmu (P : Prg) (f : Nat) : Prop := VC P f [] (.cell (ks .u32 (Qjn 256)))
theorem Qd8 {l : List UInt8} {k : Nat} (h : k < l.length) : (u8 l).drop k = .int .u8 (l[k]).toNat :: u8 (l.drop (k + 1)) := by
 rw [Qhr, List.drop_eq_getElem_cons h]; rfl
set_option maxRecDepth 40000 in
theorem Ql2 {P : Prg} {f t0 : Nat} (bd : Qf P f 24 [.tmp 0] (QaA t0)) : Qmu P f := by
 refine VC.of_walk 1 rfl (by simp [isD, QpT (Qv _ _)]) (ACall.of_body bd (by simp) ?_)
 unfold QaA
 have z0 : ([.int .u32 0, .int .u32 0] : List AV) = [.int .u32 0, .int .u32 0] := rfl
 simp (maxSteps := 4000000) (disch := omega) only [rq, simprocAttr]
 refine Q0.by (ι := Nat) (fun i => ⟨[(5, .int .i64 i), (1, .ref 0 1 0)], [⟨t0, 256, 1, ks .u32 (Qjn i), 0⟩]⟩) (fun i => i ≤ 256) (fun i => 256 - i) 0 (Le.slots (by simp [Am.look])) (by omega) ?_
 intro i hi
 by_cases hlt : i < 256
 ·simp (maxSteps := 4000000) (disch := omega) only [rq, simprocAttr]
  refine Q0.by (ι := Nat) (fun j => ⟨[(10, .int .i64 j), (3, .int .u32 (QeO j i)), (5, .int .i64 i), (2, .int .i64 i), (1, .ref 0 1 0)], [⟨t0, 256, 1, ks .u32 (Qjn i), 0⟩]⟩) (fun j => j ≤ 8) (fun j => 8 - j) 0 (Le.slots (by simp [Am.look, QeO])) (by omega) ?_
  intro j hj
  by_cases hjl : j < 8
  ·have hc := Qh8 j (c := i) (by omega)
   have hn := Qkf j i
   generalize QeO j i = c at *
   have a1 : IntKind.u32.wrap (BitVec.ofInt IntKind.u32.bits (c : Int) &&& BitVec.ofInt IntKind.u32.bits 1).toNat = ((c % 2 : Nat) : Int) := by
    have h := QvG (K := .u32) rfl (a := c) (b := 1) (by exact hc) (by decide)
    rw [Nat.and_one_is_mod] at h
    exact h
   have a2 : Qi false .u32 (c : Int) 1 = some (.int .u32 ((c / 2 : Nat) : Int)) := Qlg (K := .u32) (n := c) (k := 1) (by decide)
   rcases Nat.mod_two_eq_zero_or_one c with h2 | h2
   ·have a3 : IntKind.u32.wrap (BitVec.ofInt IntKind.u32.bits ((c / 2 : Nat) : Int) ^^^ BitVec.ofInt IntKind.u32.bits 0).toNat = ((QeO (j + 1) i : Nat) : Int) := by
     rw [hn, Qsv, h2, if_neg (by decide)]
     exact Qru (K := .u32) rfl (a := c / 2) (b := 0) (by show c / 2 < 4294967296; omega) (by decide)
    have a1' : IntKind.u32.wrap (BitVec.ofInt IntKind.u32.bits (c : Int) &&& BitVec.ofInt IntKind.u32.bits 1).toNat = 0 := by rw [a1, h2]; rfl
    simp (maxSteps := 4000000) (disch := omega) only [rq, simprocAttr, a1', a2, a3]
    exact ⟨j + 1, by omega, by omega, Le.slots (by simp [Am.look])⟩
   ·have a3 : IntKind.u32.wrap (BitVec.ofInt IntKind.u32.bits ((c / 2 : Nat) : Int) ^^^ BitVec.ofInt IntKind.u32.bits 3988292384).toNat = ((QeO (j + 1) i : Nat) : Int) := by
     rw [hn, Qsv, h2, if_pos rfl]
     exact Qru (K := .u32) rfl (a := c / 2) (b := 3988292384) (by show c / 2 < 4294967296; omega) (by decide)
    have a1' : IntKind.u32.wrap (BitVec.ofInt IntKind.u32.bits (c : Int) &&& BitVec.ofInt IntKind.u32.bits 1).toNat = 1 := by rw [a1, h2]; rfl
    simp (maxSteps := 4000000) (disch := omega) only [rq, simprocAttr, a1', a2, a3]
    exact ⟨j + 1, by omega, by omega, Le.slots (by simp [Am.look])⟩
  ·obtain rfl : j = 8 := by omega
   have e1 := Xf i
   have e2 := Qd .u32 (Qjn i)
   have e3 : (ks .u32 (Qjn i)).take i ++ [.int .u32 (QeO 8 i)] ++ (ks .u32 (Qjn i)).drop (i + 1) = ks .u32 (Qjn (i + 1)) := by
    rw [← QrB hlt, List.set_eq_take_append_cons_drop, if_pos (by rw [Xf]; exact hlt)]; simp [ks, List.map_take, List.map_drop]
   simp (maxSteps := 4000000) (disch := omega) only [rq, simprocAttr, e1, e2, e3]
   exact ⟨i + 1, by omega, by omega, Le.slots (by simp [Am.look])⟩
 ·obtain rfl : i = 256 := by omega
  simp (maxSteps := 4000000) (disch := omega) only [rq, simprocAttr]
  simp [QS, QG, frzL, QD, frzL_T _ (Qv _ _)]
def QmD (P : Prg) (f : Nat) : Prop := ∀ (s : Nat) (l : List UInt8), s < 4294967296 → VC P f [.int .u32 s, bs l] (if 100000 < l.length then .tup [.int .u32 0, .int .i64 4] else .tup [.int .u32 (QoB s l), .int .i64 0])
set_option maxRecDepth 40000 in
theorem Qoe {P : Prg} {f fT : Nat} (bd : Qf P f 32 [.tmp 4, .tmp 5] (JA fT)) (hT : Qmu P fT) : QmD P f := by
 intro s l hs
 refine VC.of_acall (by simp [isDL, isD, QQ]) (by split <;> rfl) (ACall.of_body bd (by simp) ?_)
 by_cases hl : 100000 < l.length
 ·rw [if_pos hl]
  simp (maxSteps := 4000000) (disch := omega) only [rq, simprocAttr, JA, bs]
 ·rw [if_neg hl]
  have hT' := hT
  have t0 := Qd .u32 (Qjn 256)
  rw [Xf] at t0
  simp (maxSteps := 4000000) (disch := omega) only [rq, simprocAttr, JA, bs]
  refine Qa.vc hT' ?_
  simp (maxSteps := 4000000) (disch := omega) only [rq, simprocAttr]
  refine Q0.by (ι := Nat) (fun k => ⟨[(15, .int .i64 k), (14, .int .i64 l.length), (13, .list l.length (u8 l)), (6, .cell (ks .u32 (Qjn 256))), (0, .int .u32 (QoB s (l.take k)))], []⟩) (fun k => k ≤ l.length) (fun k => l.length - k) 0 (Le.slots (by simp [Am.look, QoB])) (by omega) ?_
  intro k hk
  have hc := Ql0 (l := l.take k) hs
  by_cases hlt : k < l.length
  ·have e1 := Qd8 hlt
   have hn := Qqv (s := s) hlt
   generalize QoB s (l.take k) = c at *
   rw [Qoc] at hn
   have hb := (l[k]).toNat_lt
   have h0 : (c % 256 ^^^ (l[k]).toNat) < 256 := Nat.xor_lt_two_pow (n := 8) (Nat.mod_lt _ (by decide)) hb
   have h1 := Qh8 8 (c := c % 256 ^^^ (l[k]).toNat) (by omega)
   have a1 : Qi false .u32 (c : Int) 8 = some (.int .u32 ((c / 256 : Nat) : Int)) := Qlg (K := .u32) (n := c) (k := 8) (by decide)
   have a2 : IntKind.u8.wrap (c : Int) = ((c % 256 : Nat) : Int) := by rw [QcA]; omega
   have a3 : IntKind.u8.wrap (BitVec.ofInt IntKind.u8.bits ((c % 256 : Nat) : Int) ^^^ BitVec.ofInt IntKind.u8.bits ((l[k]).toNat : Int)).toNat = ((c % 256 ^^^ (l[k]).toNat : Nat) : Int) :=
    Qru (K := .u8) rfl (a := c % 256) (b := (l[k]).toNat) (Nat.mod_lt _ (by decide)) hb
   have a4 : IntKind.u32.wrap (BitVec.ofInt IntKind.u32.bits ((c / 256 : Nat) : Int) ^^^ BitVec.ofInt IntKind.u32.bits ((QeO 8 (c % 256 ^^^ (l[k]).toNat) : Nat) : Int)).toNat = ((QoB s (l.take (k + 1)) : Nat) : Int) := by
    rw [hn]; exact Qru (K := .u32) rfl (by show c / 256 < 4294967296; omega) h1
   generalize c % 256 ^^^ (l[k]).toNat = x at *
   have e2 : (ks .u32 (Qjn 256)).drop x = .int .u32 ((QeO 8 x : Nat) : Int) :: ks .u32 ((Qjn 256).drop (x + 1)) := by
    rw [Qa6, List.drop_eq_getElem_cons (by rw [Xf]; exact h0), Qfi, QeC h0, if_pos h0]
   simp (maxSteps := 4000000) (disch := omega) only [rq, simprocAttr, e1, a1, a2, a3, a4, e2, t0]
   exact ⟨k + 1, by omega, by omega, Le.slots (by simp [Am.look])⟩
  ·have ek : k = l.length := by omega
   subst ek
   rw [List.take_length]
   simp (maxSteps := 4000000) (disch := omega) only [rq, simprocAttr]
def Qg3 (P : Prg) (f : Nat) : Prop := ∀ (l : List UInt8), VC P f [bs l] (if 100000 < l.length then .tup [.int .u32 0, .int .i64 4] else .tup [.int .u32 ((4294967295 - QoB 4294967295 l : Nat) : Int), .int .i64 0])
theorem Qtc {c : Nat} (h : c < 4294967296) : 4294967295 ^^^ c = 4294967295 - c := by
 have h1 : BitVec.allOnes 32 ^^^ BitVec.ofNat 32 c = ~~~ BitVec.ofNat 32 c := by
  apply BitVec.eq_of_getElem_eq
  intro i hi
  rw [BitVec.getElem_xor, BitVec.getElem_allOnes, BitVec.getElem_not, Bool.true_xor]
 have h2 := congrArg BitVec.toNat h1
 rw [BitVec.toNat_xor, BitVec.toNat_not, BitVec.toNat_allOnes, BitVec.toNat_ofNat, Nat.mod_eq_of_lt h] at h2
 exact h2
theorem Qqx {P : Prg} {f fN : Nat} (bd : Qf P f 16 [.tmp 2, .tmp 3] (Qak fN)) (hN : QmD P fN) : Qg3 P f := by
 intro l
 refine VC.of_acall (by simp [isDL, isD, QQ]) (by split <;> rfl) (ACall.of_body bd (by simp) ?_)
 have hN' := hN 4294967295 l (by decide)
 have hc := Ql0 (l := l) (s := 4294967295) (by decide)
 generalize QoB 4294967295 l = c at *
 simp only [bs] at hN'
 by_cases hl : 100000 < l.length
 ·rw [if_pos hl] at hN' ⊢
  simp (maxSteps := 4000000) (disch := omega) only [rq, simprocAttr, Qak, bs]
  refine Qa.vc hN' ?_
  simp (maxSteps := 4000000) (disch := omega) only [rq, simprocAttr]
 ·rw [if_neg hl] at hN' ⊢
  have a1 : IntKind.u32.wrap (BitVec.ofInt IntKind.u32.bits IntKind.u32.max ^^^ BitVec.ofInt IntKind.u32.bits (c : Int)).toNat = ((4294967295 - c : Nat) : Int) := by
   rw [← Qtc hc]
   exact Qru (K := .u32) rfl (a := 4294967295) (b := c) (by decide) hc
  have a2 : IntKind.u32.signed = false := rfl
  simp (maxSteps := 4000000) (disch := omega) only [rq, simprocAttr, Qak, bs]
  refine Qa.vc hN' ?_
  simp (maxSteps := 4000000) (disch := omega) only [rq, simprocAttr, a1, a2]
def nB (N : Nat) : Nat := (N + 7) / 8
theorem Qsa (V i : Nat) : leB V (i + 1) = leB V i ++ [UInt8.ofNat (V / 256 ^ i % 256)] := by
 have h1 : (leB V (i + 1)).take (i + 1) = (leB V (i + 1)).take i ++ [UInt8.ofNat (V / 256 ^ i % 256)] := Qdg (by omega)
 have h2 : ∀ k j n : Nat, k ≤ j → (leB n j).take k = leB n k := by
  intro k
  induction k with
  | zero => intro j n _; simp [leB]
  | succ k ih =>
   intro j n h
   obtain ⟨j, rfl⟩ : ∃ j', j = j' + 1 := ⟨j - 1, by omega⟩
   simp [leB, ih j (n / 256) (by omega)]
 rw [h2 (i + 1) (i + 1) V (by omega), h2 i (i + 1) V (by omega)] at h1
 exact h1
theorem QpP : ∀ (i V u : Nat), leB (V + 256 ^ i * u) i = leB V i
 | 0, _, _ => rfl
 | i + 1, V, u => by
  have e : 256 ^ (i + 1) * u = 256 * (256 ^ i * u) := by rw [Nat.pow_succ, Nat.mul_comm (256 ^ i) 256, Nat.mul_assoc]
  have e1 : (V + 256 ^ (i + 1) * u) % 256 = V % 256 := by rw [e]; omega
  have e2 : (V + 256 ^ (i + 1) * u) / 256 = V / 256 + 256 ^ i * u := by rw [e]; omega
  simp only [leB, e1, e2, QpP i]
theorem Qpy (i : Nat) : (256 : Nat) ^ i = 2 ^ (8 * i) := by rw [Nat.pow_mul]
theorem QbO {V i at_ : Nat} (h : V < 2 ^ (8 * i + at_)) (ha : at_ ≤ 8) : leB V (i + 1) = leB V i ++ [UInt8.ofNat (V / 256 ^ i)] ∧ V / 256 ^ i < 2 ^ at_ := by
 have h1 : V / 256 ^ i < 2 ^ at_ := Nat.div_lt_of_lt_mul (by rw [Qpy, ← Nat.pow_add]; exact h)
 have h2 : 2 ^ at_ ≤ 2 ^ 8 := Nat.pow_le_pow_right (by omega) ha
 exact ⟨by rw [Qsa, Nat.mod_eq_of_lt (by omega)], h1⟩
theorem Qcv {V i at_ w r : Nat} (h : V < 2 ^ (8 * i + at_)) (hw : w < 2 ^ r) (hr : at_ + r ≤ 8) :
  leB (V + 2 ^ (8 * i + at_) * w) (i + 1) = leB V i ++ [UInt8.ofNat (V / 256 ^ i + 2 ^ at_ * w)] ∧ V / 256 ^ i + 2 ^ at_ * w < 2 ^ (at_ + r) ∧ V + 2 ^ (8 * i + at_) * w < 2 ^ (8 * i + (at_ + r)) := by
 obtain ⟨_, h1⟩ := QbO h (by omega)
 have e : 2 ^ (8 * i + at_) * w = 256 ^ i * (2 ^ at_ * w) := by rw [Qpy, Nat.pow_add, Nat.mul_assoc]
 have h2 : V / 256 ^ i + 2 ^ at_ * w < 2 ^ (at_ + r) := by
  have : 2 ^ at_ * (w + 1) ≤ 2 ^ at_ * 2 ^ r := Nat.mul_le_mul_left _ hw
  rw [Nat.pow_add]; rw [Nat.mul_add, Nat.mul_one] at this; omega
 have h3 : V + 2 ^ (8 * i + at_) * w < 2 ^ (8 * i + (at_ + r)) := by
  have : 2 ^ (8 * i + at_) * (w + 1) ≤ 2 ^ (8 * i + at_) * 2 ^ r := Nat.mul_le_mul_left _ hw
  rw [← Nat.add_assoc, Nat.pow_add 2 (8 * i + at_)]; rw [Nat.mul_add, Nat.mul_one] at this; omega
 refine ⟨?_, h2, h3⟩
 have h4 := (QbO (V := V + 2 ^ (8 * i + at_) * w) (i := i) (at_ := at_ + r) h3 hr).1
 rw [h4, e, QpP, Nat.add_mul_div_left _ _ (Nat.pow_pos (by omega))]
theorem Qu2 (V q r : Nat) (hr : r < 8) : V / 256 ^ q % 256 / 2 ^ r % 2 = V / 2 ^ (8 * q + r) % 2 := by
 rw [Qpy, show (256 : Nat) = 2 ^ r * 2 ^ (8 - r) by rw [← Nat.pow_add, show r + (8 - r) = 8 by omega], Nat.mod_mul_right_div_self, Nat.div_div_eq_div_mul, ← Nat.pow_add]
 rw [Nat.mod_mod_of_dvd]
 exact ⟨2 ^ (8 - r - 1), by rw [← Nat.pow_succ']; congr 1; omega⟩
def bA (N V : Nat) : AV := .agg [.list (nB N) (u8 (leB V (nB N))), .int .i64 N]
theorem Qdh (N V : Nat) : isD (bA N V) = true := by simp [bA, isD, isDL, QT]
theorem Qnl {n : Nat} (h : n < 9223372036854775808) : IntKind.i64.wrap (BitVec.ofInt IntKind.i64.bits (n : Int) &&& BitVec.ofInt IntKind.i64.bits 7).toNat = ((n % 8 : Nat) : Int) := by
 have e1 : (BitVec.ofInt 64 (n : Int)).toNat = n := by
  rw [BitVec.toNat_ofInt]
  show ((n : Int) % 18446744073709551616).toNat = n
  omega
 have e2 : (BitVec.ofInt 64 7).toNat = 7 := by decide
 have : (BitVec.ofInt 64 (n : Int) &&& BitVec.ofInt 64 7).toNat = n % 8 := by
  rw [BitVec.toNat_and, e1, e2]
  exact Nat.and_two_pow_sub_one_eq_mod n 3
 show IntKind.i64.wrap ((BitVec.ofInt 64 (n : Int) &&& BitVec.ofInt 64 7).toNat : Int) = _
 rw [this, QaR] <;> omega
theorem Qut {l : List UInt8} {k : Nat} (h : k < l.length) : (u8 l).drop k = .int .u8 (l[k]).toNat :: u8 (l.drop (k + 1)) := by
 rw [Qhr, List.drop_eq_getElem_cons h]; rfl
theorem QsW {V k i : Nat} (h : i < k) : (u8 (leB V k)).drop i = .int .u8 ((V / 256 ^ i % 256 : Nat) : Int) :: u8 ((leB V k).drop (i + 1)) := by
 rw [Qut (by rw [Qb]; exact h)]
 have := Qlw k V i h
 rw [List.getElem?_eq_getElem (by rw [Qb]; exact h)] at this
 rw [Option.some.inj this]
 have : (UInt8.ofNat (V / 256 ^ i % 256)).toNat = V / 256 ^ i % 256 := by simp
 rw [this]
def Qcg (P : Prg) (f : Nat) : Prop := ∀ N V : Nat, V < 2 ^ N → N ≤ 330000 → VC P f [bA N V] (.int .i64 0)
theorem Qor {P : Prg} {f t0 : Nat} (bd : Qf P f 40 [.tmp 2] (JB t0)) : Qcg P f := by
 intro N V hV hN
 refine VC.of_acall (by simp [isDL, Qdh]) rfl (ACall.of_body bd (by simp) ?_)
 have e1 : Qi false .i64 ((N : Int) + 7) 3 = some (.int .i64 ((nB N : Nat) : Int)) := by
  rw [show (N : Int) + 7 = ((N + 7 : Nat) : Int) by omega]
  exact Qlg (K := .i64) (n := N + 7) (k := 3) (by decide)
 have e2 := Qnl (n := N) (by omega)
 have e3 : (u8 (leB V (nB N))).length = nB N := by simp [u8, Qb]
 by_cases h0 : N % 8 = 0
 ·rw [h0] at e2
  have e2' : IntKind.i64.wrap (BitVec.ofInt IntKind.i64.bits (N : Int) &&& BitVec.ofInt IntKind.i64.bits 7).toNat = 0 := e2
  simp (maxSteps := 4000000) (disch := omega) only [rq, simprocAttr, JB, bA, e1, e2', e3]
 ·have hn : nB N = N / 8 + 1 := by unfold nB; omega
  have h8 : N = 8 * (N / 8) + N % 8 := by omega
  obtain ⟨l1, l2⟩ := QbO (V := V) (i := N / 8) (at_ := N % 8) (by rw [← h8]; exact hV) (by omega)
  have e4 := QsW (V := V) (k := nB N) (i := N / 8) (by omega)
  have h256 : V / 256 ^ (N / 8) % 256 = V / 256 ^ (N / 8) := Nat.mod_eq_of_lt (by
   have : 2 ^ (N % 8) ≤ 2 ^ 8 := Nat.pow_le_pow_right (by omega) (by omega)
   omega)
  rw [h256] at e4
  have e5 : Qi false .u8 ((V / 256 ^ (N / 8) : Nat) : Int) ((N % 8 : Nat) : Int) = some (.int .u8 0) := by
   have := Qlg (K := .u8) (n := V / 256 ^ (N / 8)) (k := N % 8) (by show N % 8 ≤ 8; omega)
   rw [this, Nat.div_eq_of_lt l2]; rfl
  have e6 : nB N - 1 = N / 8 := by omega
  have hq : ((N % 8 : Nat) : Int) = (N : Int) % 8 := by omega
  generalize V / 256 ^ (N / 8) = y at *
  obtain ⟨a, ha⟩ : ∃ a, a = N % 8 := ⟨_, rfl⟩
  rw [← ha] at e2 e5 hq
  simp (maxSteps := 4000000) (disch := omega) only [rq, simprocAttr, JB, bA, e1, e2, e3, e4, e5, e6]
structure Dl where
 k0 : Nat
 k1 : Nat
 s0 : Nat
 s1 : Nat
def dlC (d : Dl) : List AV := [.int .i64 d.k0, .int .i64 d.k1, .int .u64 d.s0, .int .u64 d.s1]
def dlA (d : Dl) : AV := .agg (dlC d)
def okD (d : Dl) : Prop := d.k0 ≤ 24 ∧ d.k1 ≤ 24 ∧ d.s0 ≤ 68719476735 ∧ d.s1 ≤ 68719476735
def QI : Dl := ⟨10, 10, 16384, 16384⟩
def Qbq (k s n : Nat) : Nat × Nat :=
 if 0 < k ∧ s + n - s / 16 < 2 ^ (k + 4) then (k - 1, s + n - s / 16) else if k < 24 ∧ 2 ^ (k + 5) < s + n - s / 16 then (k + 1, s + n - s / 16) else (k, s + n - s / 16)
def Jp (d : Dl) (v : Nat) : Dl :=
 if v < 2 ^ d.k0 then ⟨(Qbq d.k0 d.s0 v).1, d.k1, (Qbq d.k0 d.s0 v).2, d.s1⟩
 else ⟨(Qbq d.k0 d.s0 v).1, (Qbq d.k1 d.s1 (v - 2 ^ d.k0)).1, (Qbq d.k0 d.s0 v).2, (Qbq d.k1 d.s1 (v - 2 ^ d.k0)).2⟩
theorem Qlq {k s n : Nat} (hk : k ≤ 24) (hs : s ≤ 68719476735) (hn : n < 4294967296) : (Qbq k s n).1 ≤ 24 ∧ (Qbq k s n).2 ≤ 68719476735 := by
 unfold Qbq
 have ht : s + n - s / 16 ≤ 68719476735 := by omega
 generalize s + n - s / 16 = t at *
 split
 ·exact ⟨by simp only; omega, ht⟩
 ·split
  ·rename_i h; exact ⟨by have := h.1; simp only; omega, ht⟩
  ·exact ⟨hk, ht⟩
theorem Qr8 {d : Dl} {v : Nat} (h : okD d) (hv : v < 4294967296) : okD (Jp d v) := by
 obtain ⟨h1, h2, h3, h4⟩ := h
 have p0 := Qlq h1 h3 hv
 have p1 := Qlq (n := v - 2 ^ d.k0) h2 h4 (Nat.lt_of_le_of_lt (Nat.sub_le _ _) hv)
 unfold Jp
 split
 ·exact ⟨p0.1, h2, p0.2, h4⟩
 ·exact ⟨p0.1, p1.1, p0.2, p1.2⟩
theorem QrE : okD QI := by unfold okD QI; decide
theorem QpV (d : Dl) : isD (dlA d) = true := rfl
theorem p24 {k : Nat} (h : k ≤ 24) : 2 ^ k ≤ 16777216 ∧ 2 ^ (k + 4) = 16 * 2 ^ k ∧ 2 ^ (k + 5) = 32 * 2 ^ k := by
 have := Nat.pow_le_pow_right (n := 2) (by omega) h
 refine ⟨by simpa using this, ?_, ?_⟩ <;> rw [Nat.pow_add, Nat.mul_comm]
def QiG (P : Prg) (f : Nat) : Prop := VC P f [] (dlA QI)
theorem Qn8 {P : Prg} {f t0 : Nat} (bd : Qf P f 2 [.cell 0 t0] (Qbf t0)) (ht : ZJ P t0 = some (some 4)) : QiG P f := by
 refine VC.of_acall rfl rfl (ACall.of_body bd (by simp) ?_)
 simp (maxSteps := 4000000) (disch := omega) only [rq, simprocAttr, Qbf, ZK, ht, Q2, dlA, dlC, QI]
 try rfl
def QiT (P : Prg) (f : Nat) : Prop := ∀ d : Dl, okD d → VC P f [dlA d] (.int .i64 0)
theorem Qn9 {P : Prg} {f t0 : Nat} (bd : Qf P f 26 [.tmp 2] (Qbg t0)) : QiT P f := by
 intro d h
 obtain ⟨k0, k1, s0, s1⟩ := d
 obtain ⟨h1, h2, h3, h4⟩ := h
 simp only at h1 h2 h3 h4
 refine VC.of_acall rfl rfl (ACall.of_cut 1 bd (by simp) ?_)
 simp (maxSteps := 4000000) (disch := omega) only [rq, simprocAttr, Qbg, dlA, dlC, Qao]
 refine ⟨⟨[(2, .int .i64 0), (1, .cell [.int .i64 k0, .int .i64 k1, .int .u64 s0, .int .u64 s1])], []⟩, Le.dropT [] (by simp) (by simp [Am.look, QG, frzL, QD]), ?_⟩
 simp (maxSteps := 4000000) (disch := omega) only [rq, simprocAttr]
def QfP (P : Prg) (f : Nat) : Prop := ∀ (d : Dl) (v : Nat), okD d → v < 4294967296 → VC P f [dlA d, .int .u32 v] (if v < 2 ^ d.k0 then .tup [.int .i64 0, .int .u32 v] else .tup [.int .i64 1, .int .u32 ((v - 2 ^ d.k0 : Nat) : Int)])
theorem Qn5 {P : Prg} {f t0 : Nat} (bd : Qf P f 17 [.tmp 4, .tmp 5] (Jw t0)) : QfP P f := by
 intro d v h hv
 obtain ⟨k0, k1, s0, s1⟩ := d
 obtain ⟨h1, h2, h3, h4⟩ := h
 simp only at h1 h2 h3 h4
 refine VC.of_acall rfl (by simp only; split <;> rfl) (ACall.of_body bd (by simp) ?_)
 have e1 : Qi false .u32 (v : Int) (k0 : Int) = some (.int .u32 ((v / 2 ^ k0 : Nat) : Int)) := Qlg (K := .u32) (by show k0 ≤ 32; omega)
 obtain ⟨q1, _⟩ := p24 h1
 have e2 : Qi true .u32 1 (k0 : Int) = some (.int .u32 ((2 ^ k0 : Nat) : Int)) := by
  have := Qrn (K := .u32) rfl (c := 1) (s := k0) (by show k0 ≤ 32; omega) (by show 1 * 2 ^ k0 < 4294967296; omega)
  rw [Nat.one_mul] at this
  exact this
 simp only
 by_cases c : v < 2 ^ k0
 ·rw [if_pos c]
  rw [Nat.div_eq_of_lt c] at e1
  have e1' : Qi false .u32 (v : Int) (k0 : Int) = some (.int .u32 0) := e1
  simp (maxSteps := 4000000) (disch := omega) only [rq, simprocAttr, Jw, dlA, dlC, e1']
 ·rw [if_neg c]
  have hpos : 0 < v / 2 ^ k0 := Nat.div_pos (by omega) (Nat.pow_pos (by omega))
  have hle : v / 2 ^ k0 ≤ v := Nat.div_le_self _ _
  have e3 : ((v - 2 ^ k0 : Nat) : Int) = (v : Int) - ((2 ^ k0 : Nat) : Int) := by omega
  generalize v / 2 ^ k0 = w at *
  generalize 2 ^ k0 = p at *
  simp (maxSteps := 4000000) (disch := omega) only [rq, simprocAttr, Jw, dlA, dlC, e1, e2, e3]
theorem QdM {P : Prg} {f : Nat} (bd : Qf P f 58 [] Qm) {ob : List Ob} {p : Nat} {t : Nat} {d : Dl} (hp : ob[p]? = some ⟨t, 4, 1, dlC d, 0⟩) (hd : okD d) {n : Nat} (hn : n < 4294967296) (b : Bool) {K : AV → List Ob → Prop}
  (hK : K (.tup []) (ob.set p ⟨t, 4, 1, dlC (if b then ⟨d.k0, (Qbq d.k1 d.s1 n).1, d.s0, (Qbq d.k1 d.s1 n).2⟩ else ⟨(Qbq d.k0 d.s0 n).1, d.k1, (Qbq d.k0 d.s0 n).2, d.s1⟩), 0⟩)) :
  ACall P f [.ref p 1 (if b then 1 else 0), .ref p 1 (if b then 3 else 2), .int .u32 n] ob K := by
 have hpl : p < ob.length := (List.getElem?_eq_some_iff.1 hp).1
 have g1 : ∀ x, (ob.set p x)[p]? = some x := fun x => by simp [hpl]
 have g2 : ∀ x y, (ob.set p x).set p y = ob.set p y := fun x y => List.set_set _
 have key : ∀ k s : Nat, k ≤ 24 → s ≤ 68719476735 → ∃ t p4 p5 : Nat, t ≤ 68719476735 ∧ IntKind.u64.wrap ((s : Int) + IntKind.u64.wrap ((n : Int) - ((s / 16 : Nat) : Int))) = (t : Int) ∧ Qi false .u64 (s : Int) 4 = some (.int .u64 ((s / 16 : Nat) : Int)) ∧
   Qi true .u64 16 (k : Int) = some (.int .u64 (p4 : Int)) ∧ Qi true .u64 32 (k : Int) = some (.int .u64 (p5 : Int)) ∧
   Qi true .u64 16 (k : Int) = some (.int .u64 (p4 : Int)) ∧ Qbq k s n = if 0 < k ∧ t < p4 then (k - 1, t) else if k < 24 ∧ p5 < t then (k + 1, t) else (k, t) := by
  intro k s hk hs
  obtain ⟨q1, q2, q3⟩ := p24 hk
  refine ⟨s + n - s / 16, 2 ^ (k + 4), 2 ^ (k + 5), by omega, ?_, Qlg (K := .u64) (k := 4) (by decide), ?_, ?_, ?_, rfl⟩
  ·rw [Xl, Xl]; omega
  ·rw [q2]; exact Qrn (K := .u64) rfl (c := 16) (by show k ≤ 64; omega) (by show 16 * 2 ^ k < 18446744073709551616; omega)
  ·rw [q3]; exact Qrn (K := .u64) rfl (c := 32) (by show k ≤ 64; omega) (by show 32 * 2 ^ k < 18446744073709551616; omega)
  ·rw [q2]; exact Qrn (K := .u64) rfl (c := 16) (by show k ≤ 64; omega) (by show 16 * 2 ^ k < 18446744073709551616; omega)
 obtain ⟨k0, k1, s0, s1⟩ := d
 obtain ⟨h1, h2, h3, h4⟩ := hd
 simp only at h1 h2 h3 h4
 refine ACall.of_body bd (by simp) ?_
 simp only [dlC] at hp hK
 cases b with
 | false =>
  obtain ⟨u, p4, p5, hu, e1, e2, e3, e4, _, e5⟩ := key k0 s0 h1 h3
  simp only [e5, Bool.false_eq_true, if_false] at hK ⊢
  by_cases c1 : 0 < k0
  ·by_cases c2 : u < p4
   ·rw [if_pos ⟨c1, c2⟩] at hK
    have e6 : ((k0 - 1 : Nat) : Int) = (k0 : Int) - 1 := by omega
    simp only [e6] at hK
    simp (maxSteps := 4000000) (disch := omega) only [rq, simprocAttr, Qm, hp, g1, g2, e1, e2, e3, e4, e6]
    exact hK
   ·rw [if_neg (fun h => c2 h.2)] at hK
    by_cases c3 : k0 < 24
    ·by_cases c4 : p5 < u
     ·rw [if_pos ⟨c3, c4⟩] at hK
      simp only [Int.natCast_add] at hK
      simp (maxSteps := 4000000) (disch := omega) only [rq, simprocAttr, Qm, hp, g1, g2, e1, e2, e3, e4]
      exact hK
     ·rw [if_neg (fun h => c4 h.2)] at hK
      simp (maxSteps := 4000000) (disch := omega) only [rq, simprocAttr, Qm, hp, g1, g2, e1, e2, e3, e4]
      exact hK
    ·rw [if_neg (fun h => c3 h.1)] at hK
     simp (maxSteps := 4000000) (disch := omega) only [rq, simprocAttr, Qm, hp, g1, g2, e1, e2, e3, e4]
     exact hK
  ·rw [if_neg (fun h => c1 h.1)] at hK
   by_cases c4 : p5 < u
   ·rw [if_pos ⟨by omega, c4⟩] at hK
    simp only [Int.natCast_add] at hK
    simp (maxSteps := 4000000) (disch := omega) only [rq, simprocAttr, Qm, hp, g1, g2, e1, e2, e3, e4]
    exact hK
   ·rw [if_neg (fun h => c4 h.2)] at hK
    simp (maxSteps := 4000000) (disch := omega) only [rq, simprocAttr, Qm, hp, g1, g2, e1, e2, e3, e4]
    exact hK
 | true =>
  obtain ⟨u, p4, p5, hu, e1, e2, e3, e4, _, e5⟩ := key k1 s1 h2 h4
  simp only [e5, if_true] at hK ⊢
  by_cases c1 : 0 < k1
  ·by_cases c2 : u < p4
   ·rw [if_pos ⟨c1, c2⟩] at hK
    have e6 : ((k1 - 1 : Nat) : Int) = (k1 : Int) - 1 := by omega
    simp only [e6] at hK
    simp (maxSteps := 4000000) (disch := omega) only [rq, simprocAttr, Qm, hp, g1, g2, e1, e2, e3, e4, e6]
    exact hK
   ·rw [if_neg (fun h => c2 h.2)] at hK
    by_cases c3 : k1 < 24
    ·by_cases c4 : p5 < u
     ·rw [if_pos ⟨c3, c4⟩] at hK
      simp only [Int.natCast_add] at hK
      simp (maxSteps := 4000000) (disch := omega) only [rq, simprocAttr, Qm, hp, g1, g2, e1, e2, e3, e4]
      exact hK
     ·rw [if_neg (fun h => c4 h.2)] at hK
      simp (maxSteps := 4000000) (disch := omega) only [rq, simprocAttr, Qm, hp, g1, g2, e1, e2, e3, e4]
      exact hK
    ·rw [if_neg (fun h => c3 h.1)] at hK
     simp (maxSteps := 4000000) (disch := omega) only [rq, simprocAttr, Qm, hp, g1, g2, e1, e2, e3, e4]
     exact hK
  ·rw [if_neg (fun h => c1 h.1)] at hK
   by_cases c4 : p5 < u
   ·rw [if_pos ⟨by omega, c4⟩] at hK
    simp only [Int.natCast_add] at hK
    simp (maxSteps := 4000000) (disch := omega) only [rq, simprocAttr, Qm, hp, g1, g2, e1, e2, e3, e4]
    exact hK
   ·rw [if_neg (fun h => c4 h.2)] at hK
    simp (maxSteps := 4000000) (disch := omega) only [rq, simprocAttr, Qm, hp, g1, g2, e1, e2, e3, e4]
    exact hK
def bO (t o N : Nat) : Ob := ⟨t, 2, 1, [.own o (nB N), .int .i64 N], 0⟩
def bY (t N V : Nat) : Ob := ⟨t, 1, nB N, u8 (leB V (nB N)), 0⟩
theorem Qad (V n : Nat) : isDL (u8 (leB V n)) = true := QT _
theorem Low.put {ob : List Ob} (h : Low ob.length ob) {t t0 o p N V N' : Nat} (ho : o < ob.length) : Low ob.length (XJ ob o p (bY t0 N V) (bO t o N')) := by
 unfold XJ
 refine (h.set ?_).set ?_
 ·exact lowL_D _ (Qad _ _)
 ·simp [bO, lowL, XV, ho]
theorem Low.drop {ob : List Ob} (h : Low ob.length ob) {t t0 o p N V : Nat} (ho : o < ob.length) {M : Nat} (hM : M ≤ ob.length) {J : List Ob} {fr fr' : List (Nat × AV)}
  (hfr : ∀ q ∈ fr', q.2 = .any ∨ (q.2 = Am.look fr q.1 ∧ XV ob.length q.2 = true)) :
  Le M ⟨fr, XJ ob o p (bY t0 N V) (bO t o N) ++ J⟩ ⟨fr', XJ ob o p (bY t0 N V) (bO t o N)⟩ := by
 have hl : (XJ ob o p (bY t0 N V) (bO t o N)).length = ob.length := Zd
 refine Le.low (by omega) (by rw [hl]; exact h.put ho) ?_
 rw [hl]
 exact hfr
theorem QvM {V N v j r : Nat} : V + 2 ^ N * (v % 2 ^ (j + r)) = V + 2 ^ N * (v % 2 ^ j) + 2 ^ (N + j) * (v / 2 ^ j % 2 ^ r) := by
 rw [Nat.pow_add, Nat.mod_mul, Nat.mul_add, Nat.pow_add, Nat.mul_assoc, Nat.add_assoc]
set_option maxHeartbeats 1000000 in
theorem QsE {P : Prg} {f t0 t : Nat} (bd : Qf P f 75 [] (Qbj t0)) {ob : List Ob} {p o N V v n : Nat} (hp : ob[p]? = some (bO t o N)) (ho : ob[o]? = some (bY t0 N V)) (hpo : p ≠ o) (hV : V < 2 ^ N) (hv : v < 2 ^ n) (hn : n ≤ 64) (hN : N + n ≤ 400000) (hfz : Low ob.length ob)
  {K : AV → List Ob → Prop} (hK : K (.tup []) (XJ ob o p (bY t0 (N + n) (V + 2 ^ N * v)) (bO t o (N + n)))) : ACall P f [.ref p 1 0, .int .u64 v, .int .i64 n] ob K := by
 have hol : o < ob.length := (List.getElem?_eq_some_iff.1 ho).1
 have hpl : p < ob.length := (List.getElem?_eq_some_iff.1 hp).1
 refine ACall.of_body bd (by simp) ?_
 have g0 : ∀ x y J, (XJ ob o p x y ++ J)[p]? = some y := fun x y J => by rw [List.getElem?_append_left (by rw [Zd]; exact hpl)]; exact Qk4 hpl
 have g1 : ∀ x y J, (XJ ob o p x y ++ J)[o]? = some x := fun x y J => by rw [List.getElem?_append_left (by rw [Zd]; exact hol)]; exact Qk5 hol hpo
 have g2 : ∀ x y J y', (XJ ob o p x y ++ J).set p y' = XJ ob o p x y' ++ J := fun x y J y' => by rw [List.set_append_left _ _ (by rw [Zd]; exact hpl), QoO]
 have g3 : ∀ x y J x', (XJ ob o p x y ++ J).set o x' = XJ ob o p x' y ++ J := fun x y J x' => by rw [List.set_append_left _ _ (by rw [Zd]; exact hol), QoP hpo]
 have g4 : ∀ x y j, (XJ ob o p x y ++ [j])[ob.length]? = some j := fun x y j => by rw [List.getElem?_append_right (by rw [Zd]; exact Nat.le_refl _), Zd, Nat.sub_self]; rfl
 have gp : ∀ x y, (XJ ob o p x y)[p]? = some y := fun x y => Qk4 hpl
 have go : ∀ x y, (XJ ob o p x y)[o]? = some x := fun x y => Qk5 hol hpo
 have sp : ∀ x y y', (XJ ob o p x y).set p y' = XJ ob o p x y' := fun x y y' => QoO
 have so : ∀ x y x', (XJ ob o p x y).set o x' = XJ ob o p x' y := fun x y x' => QoP hpo
 have ln : ∀ x y, (XJ ob o p x y).length = ob.length := fun x y => Zd
 simp (maxSteps := 4000000) (disch := omega) only [rq, simprocAttr, Qbj]
 refine Q0.by (ι := Nat) (fun j => ⟨[(2, .int .i64 ((n - j : Nat) : Int)), (1, .int .u64 ((v / 2 ^ j : Nat) : Int)), (0, .ref p 1 0)], XJ ob o p (bY t0 (N + j) (V + 2 ^ N * (v % 2 ^ j))) (bO t o (N + j))⟩) (fun j => j ≤ n) (fun j => n - j) 0 ?_ (by omega) ?_
 ·have : XJ ob o p (bY t0 (N + 0) (V + 2 ^ N * (v % 2 ^ 0))) (bO t o (N + 0)) = ob := by
   rw [Nat.add_zero, Nat.pow_zero, Nat.mod_one, Nat.mul_zero, Nat.add_zero]
   exact Qjl ho hp hpo
  rw [this]
  exact Le.slots (by simp [Am.look])
 intro j hj
 by_cases hlt : j < n
 ·obtain ⟨M, hM⟩ : ∃ M, M = N + j := ⟨_, rfl⟩
  obtain ⟨i, hi⟩ : ∃ i, i = M / 8 := ⟨_, rfl⟩
  obtain ⟨a, ha⟩ : ∃ a, a = M % 8 := ⟨_, rfl⟩
  obtain ⟨r, hr⟩ : ∃ r, r = min (n - j) (8 - a) := ⟨_, rfl⟩
  have hM8 : M = 8 * i + a := by omega
  have hW : V + 2 ^ N * (v % 2 ^ j) < 2 ^ M := by
   have h1 : v % 2 ^ j < 2 ^ j := Nat.mod_lt _ (Nat.pow_pos (by omega))
   have h2 : 2 ^ N * (v % 2 ^ j + 1) ≤ 2 ^ N * 2 ^ j := Nat.mul_le_mul_left _ h1
   rw [hM, Nat.pow_add]; rw [Nat.mul_add, Nat.mul_one] at h2; omega
  have hstep := QvM (V := V) (N := N) (v := v) (j := j) (r := r)
  rw [← hM] at hstep ⊢
  have hx : v / 2 ^ j < 18446744073709551616 := by
   have h1 : v / 2 ^ j ≤ v := Nat.div_le_self _ _
   have h2 : 2 ^ n ≤ 2 ^ 64 := Nat.pow_le_pow_right (by omega) hn
   omega
  have hxr : v / 2 ^ (j + r) = v / 2 ^ j / 2 ^ r := by rw [Nat.pow_add, Nat.div_div_eq_div_mul]
  generalize V + 2 ^ N * (v % 2 ^ j) = W at *
  generalize hWW : V + 2 ^ N * (v % 2 ^ (j + r)) = W' at *
  generalize hxx : v / 2 ^ j = x at *
  have h2r : 2 ^ r ≤ 2 ^ 8 := Nat.pow_le_pow_right (by omega) (by omega)
  have h2a : 2 ^ a * 2 ^ r ≤ 2 ^ 8 := by rw [← Nat.pow_add]; exact Nat.pow_le_pow_right (by omega) (by omega)
  have hpos : 0 < 2 ^ r := Nat.pow_pos (by omega)
  have hc : x % 2 ^ r < 2 ^ r := Nat.mod_lt _ hpos
  obtain ⟨l1, l2⟩ := QbO (V := W) (i := i) (at_ := a) (by rw [← hM8]; exact hW) (by omega)
  obtain ⟨b1, b2, _⟩ := Qcv (V := W) (i := i) (at_ := a) (w := x % 2 ^ r) (r := r) (by rw [← hM8]; exact hW) hc (by omega)
  rw [← hM8, ← hstep] at b1
  have hyb : W / 256 ^ i < 256 := by
   have : 2 ^ a ≤ 2 ^ 8 := Nat.pow_le_pow_right (by omega) (by omega)
   omega
  have hyb2 : W / 256 ^ i + 2 ^ a * (x % 2 ^ r) < 256 := by
   have : 2 ^ (a + r) ≤ 2 ^ 8 := Nat.pow_le_pow_right (by omega) (by omega)
   omega
  have hca : x % 2 ^ r * 2 ^ a < 2 ^ 8 := by
   rw [Nat.mul_comm]
   exact Nat.lt_of_lt_of_le (Nat.mul_lt_mul_of_pos_left hc (Nat.pow_pos (by omega))) h2a
  have hu : ∀ y, y < 256 → u8 [UInt8.ofNat y] = [.int .u8 (y : Int)] := fun y hy => by simp [u8]; omega
  have e8 : IntKind.u8.wrap (BitVec.ofInt IntKind.u8.bits ((W / 256 ^ i : Nat) : Int) ||| BitVec.ofInt IntKind.u8.bits ((x % 2 ^ r * 2 ^ a : Nat) : Int)).toNat = ((W / 256 ^ i + 2 ^ a * (x % 2 ^ r) : Nat) : Int) := by
   rw [orK (K := .u8) rfl hyb hca, QpC l2, Nat.mul_comm]
  have e7 : Qi true .u8 ((x % 2 ^ r : Nat) : Int) (a : Int) = some (.int .u8 ((x % 2 ^ r * 2 ^ a : Nat) : Int)) := Qrn rfl (by show a ≤ 8; omega) hca
  have e6 : IntKind.u8.wrap ((x % 2 ^ r : Nat) : Int) = ((x % 2 ^ r : Nat) : Int) := by rw [QcA]; omega
  have e5 : IntKind.u64.wrap (BitVec.ofInt IntKind.u64.bits (x : Int) &&& BitVec.ofInt IntKind.u64.bits ((2 ^ r - 1 : Nat) : Int)).toNat = ((x % 2 ^ r : Nat) : Int) := by
   rw [Qq0 _ _ hx (by omega), Nat.and_two_pow_sub_one_eq_mod]
  have e4 : IntKind.u64.wrap (((2 ^ r : Nat) : Int) - 1) = ((2 ^ r - 1 : Nat) : Int) := by rw [Xl]; omega
  have e3 : Qi true .u64 1 (r : Int) = some (.int .u64 ((2 ^ r : Nat) : Int)) := by
   have := Qrn (K := .u64) rfl (c := 1) (s := r) (by show r ≤ 64; omega) (by show 1 * 2 ^ r < 18446744073709551616; omega)
   rw [Nat.one_mul] at this
   exact this
  have e9 : Qi false .u64 (x : Int) (r : Int) = some (.int .u64 ((x / 2 ^ r : Nat) : Int)) := Qlg (K := .u64) (by show r ≤ 64; omega)
  have e1 := Qnl (n := M) (by omega)
  rw [← ha] at e1
  have e2 : (if (8 : Int) - a < ((n - j : Nat) : Int) then (8 : Int) - a else ((n - j : Nat) : Int)) = (r : Int) := by split <;> omega
  have hnB : nB (M + r) = i + 1 := by unfold nB; omega
  have hcell : u8 (leB W' (i + 1)) = u8 (leB W i) ++ [.int .u8 ((W / 256 ^ i + 2 ^ a * (x % 2 ^ r) : Nat) : Int)] := by
   rw [b1, show u8 (leB W i ++ [UInt8.ofNat (W / 256 ^ i + 2 ^ a * (x % 2 ^ r))]) = u8 (leB W i) ++ u8 [UInt8.ofNat (W / 256 ^ i + 2 ^ a * (x % 2 ^ r))] by simp [u8]]
   rw [hu _ hyb2]
  have hlen : (u8 (leB W i)).length = i := by simp [u8, Qb]
  rw [← hxr] at e9
  generalize W / 256 ^ i + 2 ^ a * (x % 2 ^ r) = y' at *
  generalize x % 2 ^ r * 2 ^ a = ca at *
  generalize x % 2 ^ r = c at *
  generalize 2 ^ r - 1 = mk at *
  generalize 2 ^ r = pr at *
  have d1 : ∀ z : AV, (u8 (leB W i) ++ [z]).drop i = [z] := fun z => by rw [List.drop_left' hlen]
  have d2 : ∀ z : AV, (u8 (leB W i) ++ [z]).take i = u8 (leB W i) := fun z => by rw [List.take_left' hlen]
  have d3 : ∀ z : AV, (u8 (leB W i) ++ [z]).drop (i + 1) = [] := fun z => List.drop_of_length_le (by simp [hlen])
  have jr : n - j - r = n - (j + r) := by omega
  have el : (⟨t0, 1, i + 1, u8 (leB W i) ++ [.int .u8 (y' : Int)], 0⟩ : Ob) = bY t0 (M + r) W' := by rw [bY, hnB, hcell]
  have er : (⟨t, 2, 1, [.own o (i + 1), .int .i64 ((M : Int) + r)], 0⟩ : Ob) = bO t o (M + r) := by rw [bO, hnB, Int.natCast_add]
  have hMr : N + (j + r) = M + r := by omega
  have e10 : ((n - j : Nat) : Int) - r = ((n - (j + r) : Nat) : Int) := by omega
  have e11 : (M : Int) + r = ((M + r : Nat) : Int) := by omega
  by_cases h0 : a = 0
  ·subst h0
   have hnM : nB M = i := by unfold nB; omega
   have hW0 : W / 256 ^ i = 0 := by
    have := l2
    rw [Nat.pow_zero] at this
    exact Nat.lt_one_iff.1 this
   rw [hW0] at e8
   have e8' : IntKind.u8.wrap (BitVec.ofInt IntKind.u8.bits 0 ||| BitVec.ofInt IntKind.u8.bits (ca : Int)).toNat = (y' : Int) := e8
   have e1' : IntKind.i64.wrap (BitVec.ofInt IntKind.i64.bits (M : Int) &&& BitVec.ofInt IntKind.i64.bits 7).toNat = 0 := e1
   have e2' : (if (8 : Int) < ((n - j : Nat) : Int) then (8 : Int) else ((n - j : Nat) : Int)) = (r : Int) := by split <;> omega
   have e12 : i + 1 - 1 = i := by omega
   have e7' : Qi true .u8 (c : Int) 0 = some (.int .u8 (ca : Int)) := e7
   have e13 : (i : Int) + 1 - 1 = i := by omega
   simp (maxSteps := 4000000) (disch := omega) only [rq, simprocAttr, e2', e12, e13, bO, bY, gp, go, sp, so, ln, g0, g1, g2, g3, g4, hnM, hlen, e1', e2, e3, e4, e5, e6, e7', e8', e9, d1, d2, d3]
   refine ⟨j + r, by omega, by omega, ?_⟩
   show Le ob.length _ ⟨[(2, .int .i64 ((n - (j + r) : Nat) : Int)), (1, .int .u64 ((v / 2 ^ (j + r) : Nat) : Int)), (0, .ref p 1 0)], XJ ob o p (bY t0 (N + (j + r)) (V + 2 ^ N * (v % 2 ^ (j + r)))) (bO t o (N + (j + r)))⟩
   rw [hWW, hMr, el, er]
   exact hfz.drop hol (Nat.le_refl _) (by simp [Am.look, XV, hpl, e10])
  ·have hnM : nB M = i + 1 := by unfold nB; omega
   have l3 : u8 (leB W (i + 1)) = u8 (leB W i) ++ [.int .u8 ((W / 256 ^ i : Nat) : Int)] := by
    rw [l1, show u8 (leB W i ++ [UInt8.ofNat (W / 256 ^ i)]) = u8 (leB W i) ++ u8 [UInt8.ofNat (W / 256 ^ i)] by simp [u8], hu _ hyb]
   have e12 : i + 1 - 1 = i := by omega
   have e13 : (i : Int) + 1 - 1 = i := by omega
   have ha0 : (a : Int) ≠ 0 := by omega
   generalize W / 256 ^ i = y at *
   simp (maxSteps := 4000000) (disch := omega) only [rq, simprocAttr, e12, e13, bO, bY, gp, go, sp, so, ln, hnM, hlen, l3, e1, e2, e3, e4, e5, e6, e7, e8, e9, d1, d2, d3]
   refine ⟨j + r, by omega, by omega, ?_⟩
   show Le ob.length _ ⟨[(2, .int .i64 ((n - (j + r) : Nat) : Int)), (1, .int .u64 ((v / 2 ^ (j + r) : Nat) : Int)), (0, .ref p 1 0)], XJ ob o p (bY t0 (N + (j + r)) (V + 2 ^ N * (v % 2 ^ (j + r)))) (bO t o (N + (j + r)))⟩
   rw [hWW, hMr, el, er]
   exact Le.slots (by simp [Am.look, e10])
 ·obtain rfl : j = n := by omega
  rw [Nat.mod_eq_of_lt hv]
  simp (maxSteps := 4000000) (disch := omega) only [rq, simprocAttr]
  exact hK
theorem Qn6 {P : Prg} {f f1 fL t : Nat} (bd : Qf P f 36 [] (XD f1 fL)) (b1 : Qf P f1 58 [] Qm) (hL : QfP P fL) {ob : List Ob} {p : Nat} {d : Dl} (hp : ob[p]? = some ⟨t, 4, 1, dlC d, 0⟩) (hd : okD d) {v : Nat} (hv : v < 4294967296) {K : AV → List Ob → Prop}
  (hK : K (.tup []) (ob.set p ⟨t, 4, 1, dlC (Jp d v), 0⟩)) : ACall P f [.ref p 1 0, .int .u32 v] ob K := by
 have hpl : p < ob.length := (List.getElem?_eq_some_iff.1 hp).1
 have hL' := hL d v hd hv
 have nph : ∀ cs, (⟨t, 4, 1, cs, 0⟩ : Ob) ≠ ph := fun cs e => by have := congrArg Ob.sz e; simp [ph] at this
 refine ACall.of_body bd (by simp) ?_
 unfold Jp at hK
 have hp0 := hp
 obtain ⟨k0, k1, s0, s1⟩ := d
 simp only [dlC] at hp
 simp only [dlA, dlC] at hL' hK
 by_cases c : v < 2 ^ k0
 ·rw [if_pos c] at hL' hK
  simp (maxSteps := 4000000) (disch := omega) only [rq, simprocAttr, XD, hp]
  refine Qa.vc hL' ?_
  simp (maxSteps := 4000000) (disch := omega) only [rq, simprocAttr, hp]
  refine callE.by hp0 (nph _) (fun K hK => QdM b1 hp0 hd hv false hK) ?_
  simp (maxSteps := 4000000) (disch := omega) only [rq, simprocAttr]
  exact hK
 ·rw [if_neg c] at hL' hK
  have hv2 : v - 2 ^ k0 < 4294967296 := Nat.lt_of_le_of_lt (Nat.sub_le _ _) hv
  obtain ⟨h1, h2, h3, h4⟩ := hd
  have pk := Qlq h2 h4 hv2
  simp only at h1 h2 h3 h4 pk
  generalize v - 2 ^ k0 = w at *
  simp (maxSteps := 4000000) (disch := omega) only [rq, simprocAttr, XD, hp]
  refine Qa.vc hL' ?_
  simp (maxSteps := 4000000) (disch := omega) only [rq, simprocAttr, hp]
  refine callE.by hp0 (nph _) (fun K hK => QdM b1 hp0 ⟨h1, h2, h3, h4⟩ hv2 true hK) ?_
  have hp1 : (ob.set p ⟨t, 4, 1, dlC ⟨k0, (Qbq k1 s1 w).1, s0, (Qbq k1 s1 w).2⟩, 0⟩)[p]? = some ⟨t, 4, 1, dlC ⟨k0, (Qbq k1 s1 w).1, s0, (Qbq k1 s1 w).2⟩, 0⟩ := by simp [hpl]
  have hp2 := hp1
  simp only [dlC] at hp2
  simp (maxSteps := 4000000) (disch := omega) only [rq, simprocAttr, dlC, hp2]
  refine callE.by hp1 (nph _) (fun K hK => QdM b1 hp1 ⟨h1, pk.1, h3, pk.2⟩ hv false hK) ?_
  rw [List.set_set]
  simp (maxSteps := 4000000) (disch := omega) only [rq, simprocAttr]
  exact hK
theorem Qjv {P : Prg} {f : Nat} (bd : Qf P f 9 [.tmp 4] Xz) {v k : Nat} (hk : k ≤ 24) (hv : v < 4294967296) : VC P f [.int .u32 v, .int .i64 k] (.bool (decide (48 ≤ v / 2 ^ k))) := by
 refine VC.of_acall rfl rfl (ACall.of_body bd (by simp) ?_)
 have e1 : Qi false .u32 (v : Int) (k : Int) = some (.int .u32 ((v / 2 ^ k : Nat) : Int)) := Qlg (K := .u32) (by show k ≤ 32; omega)
 generalize v / 2 ^ k = w at *
 have e2 : decide ((48 : Int) ≤ (w : Int)) = decide (48 ≤ w) := decide_eq_decide.2 (by omega)
 simp (maxSteps := 4000000) (disch := omega) only [rq, simprocAttr, Xz, e1, e2]
def Qum (P : Prg) (f : Nat) : Prop := ∀ v k : Nat, k ≤ 24 → v < 4294967296 → VC P f [.int .u32 v, .int .i64 k] (.bool (decide (48 ≤ v / 2 ^ k)))
theorem QrU {P : Prg} {f : Nat} (bd : Qf P f 9 [.tmp 4] Xz) : Qum P f := by
 exact fun _ _ h1 h2 => Qjv bd h1 h2
def Xk (c r : Nat) (v : List Nat) : Dl := ((List.range v.length).filter fun j => j % c == r).foldl (fun d j => Jp d (v.getD j 0)) QI
theorem Qkj {c r x : Nat} {v : List Nat} : Xk c r (v ++ [x]) = if v.length % c = r then Jp (Xk c r v) x else Xk c r v := by
 have h1 : ∀ (l : List Nat) (d : Dl), (∀ j ∈ l, j < v.length) → l.foldl (fun d j => Jp d ((v ++ [x]).getD j 0)) d = l.foldl (fun d j => Jp d (v.getD j 0)) d := by
  intro l
  induction l with
  | nil => intro d _; rfl
  | cons a l ih =>
   intro d h
   simp only [List.foldl_cons]
   have ha : a < v.length := h a (by simp)
   rw [ih _ fun j hj => h j (by simp [hj])]
   congr 2
   rw [List.getD_eq_getElem?_getD, List.getD_eq_getElem?_getD, List.getElem?_append_left ha]
 unfold Xk
 rw [List.length_append, List.length_cons, List.length_nil, Nat.zero_add, List.range_succ, List.filter_append, List.foldl_append]
 have hf := h1 ((List.range v.length).filter fun j => j % c == r) QI (fun j hj => by
  have := (List.mem_filter.1 hj).1
  simpa using this)
 rw [hf]
 have hx : (v ++ [x]).getD v.length 0 = x := by simp [List.getD_eq_getElem?_getD]
 by_cases h : v.length % c = r
 ·rw [if_pos h]
  have : (List.filter (fun j => j % c == r) [v.length]) = [v.length] := by simp [h]
  rw [this]
  simp only [List.foldl_cons, List.foldl_nil]
  rw [hx]
 ·rw [if_neg h]
  have : (List.filter (fun j => j % c == r) [v.length]) = [] := by simp [h]
  rw [this]
  rfl
def N32 (v : List Nat) : Prop := ∀ x ∈ v, x < 4294967296
theorem QqD {c r : Nat} {v : List Nat} (h : N32 v) : okD (Xk c r v) := by
 unfold Xk
 have key : ∀ (l : List Nat) (d : Dl), okD d → (∀ j ∈ l, j < v.length) → okD (l.foldl (fun d j => Jp d (v.getD j 0)) d) := by
  intro l
  induction l with
  | nil => intro d h _; exact h
  | cons a l ih =>
   intro d hd hl
   have ha : a < v.length := hl a (by simp)
   refine ih _ (Qr8 hd ?_) fun j hj => hl j (by simp [hj])
   rw [List.getD_eq_getElem?_getD, List.getElem?_eq_getElem ha]
   exact h _ (List.getElem_mem ha)
 exact key _ _ QrE fun j hj => by
  have := (List.mem_filter.1 hj).1
  simpa using this
def QbE (p : List UInt8) : Nat := 4294967295 - QoB 4294967295 p
theorem Qtl (p : List UInt8) : QbE p < 4294967296 := by unfold QbE; omega
def Qc5 (F : Nat → Dl) : List AV := dlC (F 0) ++ dlC (F 1) ++ dlC (F 2) ++ dlC (F 3) ++ dlC (F 4) ++ dlC (F 5)
theorem QpR (F : Nat → Dl) : isTL (Qc5 F) = true := rfl
theorem Qc4 (F : Nat → Dl) : (Qc5 F).length = 24 := rfl
theorem QrN (F : Nat → Dl) {j : Nat} (h : j < 6) : ∃ r, (Qc5 F).drop (j * 4) = .int .i64 (F j).k0 :: .int .i64 (F j).k1 :: .int .u64 (F j).s0 :: .int .u64 (F j).s1 :: r := by
 rcases (by omega : j = 0 ∨ j = 1 ∨ j = 2 ∨ j = 3 ∨ j = 4 ∨ j = 5) with rfl | rfl | rfl | rfl | rfl | rfl <;> exact ⟨_, rfl⟩
def Qur (F : Nat → Dl) (j : Nat) (d : Dl) : Nat → Dl := fun i => if i = j then d else F i
theorem QmO (F : Nat → Dl) {j : Nat} (h : j < 6) (d : Dl) : (Qc5 F).take (j * 4) ++ [.int .i64 d.k0, .int .i64 d.k1, .int .u64 d.s0, .int .u64 d.s1] ++ (Qc5 F).drop (j * 4 + 4) = Qc5 (Qur F j d) := by
 rcases (by omega : j = 0 ∨ j = 1 ∨ j = 2 ∨ j = 3 ∨ j = 4 ∨ j = 5) with rfl | rfl | rfl | rfl | rfl | rfl <;> rfl
def iL (o : List Nat) : List Int := o.map fun n : Nat => (n : Int)
theorem mod_mul (m c : Nat) : (m * c) % c = 0 := Nat.mul_mod_left m c
def Qjw (v k : Nat) : Nat := if 48 ≤ v / 2 ^ k then 80 else v / 2 ^ k + 1 + k
def Qjx (v k : Nat) : Nat := if 48 ≤ v / 2 ^ k then 2 ^ 48 - 1 + 2 ^ 48 * v else 2 ^ (v / 2 ^ k) - 1 + 2 ^ (v / 2 ^ k + 1) * (v % 2 ^ k)
def Qeq (d : Dl) (v : Nat) : Nat := if v < 2 ^ d.k0 then 1 + d.k0 else 1 + Qjw (v - 2 ^ d.k0) d.k1
def Ql4 (d : Dl) (v : Nat) : Nat := if v < 2 ^ d.k0 then 2 * v else 1 + 2 * Qjx (v - 2 ^ d.k0) d.k1
theorem JO {V N W n : Nat} (hV : V < 2 ^ N) (hW : W < 2 ^ n) : V + 2 ^ N * W < 2 ^ (N + n) := by
 have h1 : 2 ^ N * (W + 1) ≤ 2 ^ N * 2 ^ n := Nat.mul_le_mul_left _ hW
 rw [Nat.pow_add]
 rw [Nat.mul_add, Nat.mul_one] at h1
 omega
theorem QrW {v k : Nat} (hv : v < 4294967296) : Qjx v k < 2 ^ Qjw v k := by
 unfold Qjx Qjw
 split
 ·exact JO (N := 48) (n := 32) (by decide) hv
 ·have h1 : v % 2 ^ k < 2 ^ k := Nat.mod_lt _ (Nat.pow_pos (by omega))
  refine JO ?_ h1
  have : 0 < 2 ^ (v / 2 ^ k) := Nat.pow_pos (by omega)
  rw [Nat.pow_succ]
  omega
theorem QrV {v k : Nat} (hk : k ≤ 24) : Qjw v k ≤ 80 := by unfold Qjw; split <;> omega
theorem Qnc {d : Dl} {v : Nat} (hd : okD d) : Qeq d v ≤ 81 := by
 have := QrV (v := v - 2 ^ d.k0) hd.2.1
 have := hd.1
 unfold Qeq
 split <;> omega
theorem Qqy (d : Dl) (v : Nat) : 1 ≤ Qeq d v := by unfold Qeq; split <;> omega
theorem Qnd {d : Dl} {v : Nat} (hv : v < 4294967296) : Ql4 d v < 2 ^ Qeq d v := by
 unfold Ql4 Qeq
 split
 ·rename_i h
  rw [Nat.pow_add, Nat.pow_one]
  omega
 ·have h := QrW (v := v - 2 ^ d.k0) (k := d.k1) (Nat.lt_of_le_of_lt (Nat.sub_le _ _) hv)
  exact JO (N := 1) (V := 1) (by decide) h
def QuR (c : Nat) (v : List Nat) : Nat → Nat × Nat
 | 0 => (0, 0)
 | i + 1 => ((QuR c v i).1 + Qeq (Xk c (i % c) (v.take i)) (v.getD i 0), (QuR c v i).2 + 2 ^ (QuR c v i).1 * Ql4 (Xk c (i % c) (v.take i)) (v.getD i 0))
def QgN (c : Nat) (v : List Nat) (i : Nat) : Nat := (QuR c v i).1
def Qsm (c : Nat) (v : List Nat) (i : Nat) : Nat := (QuR c v i).2
theorem QjY (c : Nat) (v : List Nat) : QgN c v 0 = 0 := rfl
theorem QjW (c : Nat) (v : List Nat) : Qsm c v 0 = 0 := rfl
theorem QjZ (c : Nat) (v : List Nat) (i : Nat) : QgN c v (i + 1) = QgN c v i + Qeq (Xk c (i % c) (v.take i)) (v.getD i 0) := rfl
theorem QjX (c : Nat) (v : List Nat) (i : Nat) : Qsm c v (i + 1) = Qsm c v i + 2 ^ QgN c v i * Ql4 (Xk c (i % c) (v.take i)) (v.getD i 0) := rfl
theorem N32.take {v : List Nat} (h : N32 v) (i : Nat) : N32 (v.take i) := fun x hx => h x (List.mem_of_mem_take hx)
theorem N32.getD {v : List Nat} (h : N32 v) (i : Nat) : v.getD i 0 < 4294967296 := by
 rw [List.getD_eq_getElem?_getD]
 cases hx : v[i]? with
 | none => simp
 | some x => exact h x (List.mem_of_getElem? hx)
theorem QaL {c : Nat} {v : List Nat} (h : N32 v) : ∀ i, Qsm c v i < 2 ^ QgN c v i ∧ QgN c v i ≤ 81 * i ∧ i ≤ QgN c v i
 | 0 => by rw [QjY, QjW]; decide
 | i + 1 => by
  obtain ⟨h1, h2, h3⟩ := QaL h i
  have hd := QqD (c := c) (r := i % c) (h.take i)
  have h4 := Qnc (v := v.getD i 0) hd
  have h5 := Qqy (Xk c (i % c) (v.take i)) (v.getD i 0)
  rw [QjZ, QjX]
  exact ⟨JO h1 (Qnd (h.getD i)), by omega, by omega⟩
def Qgf (c : Nat) (v : List Nat) : List UInt8 := leB (Qsm c v v.length) (nB (QgN c v v.length))
def Zi (p : List UInt8) : List UInt8 := p ++ leB (QbE p) 4
theorem Qe6 (p : List UInt8) : (Zi p).length = p.length + 4 := by simp [Zi, Qb]
theorem QeK (c : Nat) (v : List Nat) : (Qgf c v).length = nB (QgN c v v.length) := by simp [Qgf, Qb]
theorem QjV (ob J : List Ob) (k : Nat) : (ob ++ J)[ob.length + k]? = J[k]? := by rw [List.getElem?_append_right (by omega), Nat.add_sub_cancel_left]
theorem Qbr (ob J : List Ob) : (ob ++ J)[ob.length]? = J[0]? := QjV ob J 0
theorem QkP (ob J : List Ob) (k : Nat) (y : Ob) : (ob ++ J).set (ob.length + k) y = ob ++ J.set k y := by rw [List.set_append_right _ _ (by omega), Nat.add_sub_cancel_left]
theorem QcF (ob J : List Ob) (y : Ob) : (ob ++ J).set ob.length y = ob ++ J.set 0 y := QkP ob J 0 y
def JD (t : Nat) (P : Prg) (f : Nat) : Prop := ∀ l : List UInt8, l.length ≤ 1000000 → VO P f [bs l] (.own 0 l.length) ⟨t, 1, l.length, u8 l, 0⟩
theorem Que {P : Prg} {f t0 : Nat} (b : Qf P f 8 [.tmp 2] (QO t0)) : JD t0 P f := by
 intro l hl
 refine VO.of_walk (by simp [isDL, QQ]) (QT l) (by simp [okr]) (ACall.virtR t0 1 (by decide) (ACall.of_body b (by simp) ?_))
 by_cases h0 : l = []
 ·subst h0
  simp (maxSteps := 4000000) (disch := omega) only [rq, simprocAttr, QO, bs, QmW, QaH]
  exact ⟨.inr ⟨true, rfl, 0, rfl, rfl⟩, .inl ⟨0, rfl, rfl⟩⟩
 ·have h1 : l.length ≠ 0 := by simpa using h0
  simp (maxSteps := 4000000) (disch := omega) only [rq, simprocAttr, QO, bs, QmW, h1]
  exact .inl ⟨0, rfl, rfl⟩
theorem QqP {P : Prg} {f fC t0 tb : Nat} (bd : Qf P f 9 [.cell 2 t0] (Qal fC t0)) (hC : JD tb P fC) (ht : ZJ P t0 = some (some 2)) {N V : Nat} (hN : N ≤ 400000) {ob : List Ob} (hl : Low ob.length ob) {K : AV → List Ob → Prop}
  (hK : K (.agg [.own ob.length (nB N), .int .i64 N]) (ob ++ [bY tb N V])) : ACall P f [bA N V] ob K := by
 refine ACall.low (ACall.pad (ACall.of_body bd (by simp) ?_))
 have hC' := hC (leB V (nB N)) (by rw [Qb]; unfold nB; omega)
 rw [bs, Qb] at hC'
 have hlow : Low (ob.length + 1) (ob ++ [bY tb N V]) := (hl.mono (by omega)).append (Low.cons (lowL_D _ (Qad _ _)) Low.nil)
 simp (maxSteps := 4000000) (disch := omega) only [rq, simprocAttr, Qal, bA, List.append_assoc, List.cons_append, List.nil_append, QjV, Qbr, QkP, QcF]
 refine Q5.vo hC' ob.length (by rw [Qbr]; rfl) Nat.one_ne_zero ?_
 simp (maxSteps := 4000000) (disch := omega) only [rq, simprocAttr, shr, List.append_assoc, List.cons_append, List.nil_append, QjV, Qbr, QkP, QcF, ZK, ht, Q2]
 exact ⟨ob ++ [bY tb N V], [_, _], by simp [bY]; exact ⟨rfl, rfl⟩, by simp, by simpa using hlow, by simp [XV, lowL], hK⟩
def QkK (P : Prg) (f : Nat) : Prop := ∀ N V v n : Nat, V < 2 ^ N → v < 2 ^ n → n ≤ 64 → N + n ≤ 330000 → VC P f [bA N V, .int .u64 v, .int .i64 n] (.tup [bA (N + n) (V + 2 ^ N * v), .int .i64 0])
theorem QsF {P : Prg} {f fC fT fK fP t0 t1 tb : Nat} (bd : Qf P f 44 [.cell 6 t0, .tmp 7] (Qbk fC fT fP t0)) (hC : Qcg P fC) (bT : Qf P fT 9 [.cell 2 t1] (Qal fK t1)) (bP : Qf P fP 75 [] (Qbj tb)) (hK : JD tb P fK) (ht : ZJ P t0 = some (some 2)) (ht1 : ZJ P t1 = some (some 2)) : QkK P f := by
 intro N V v n hV hv hn hN
 refine VC.of_walk 2 (by simp [isDL, Qdh, isD]) (by simp [isD, isDL, Qdh]) (ACall.of_body bd (by simp) ?_)
 have hC' := hC N V hV (by omega)
 rw [bA] at hC'
 have e1 : n < 64 → Qi false .u64 (v : Int) (n : Int) = some (.int .u64 0) := fun h => by
  rw [Qlg (K := .u64) (by show n ≤ 64; omega), Nat.div_eq_of_lt hv]; rfl
 have tu : isTL (u8 (leB V (nB N))) = true := Qw _
 have tl : ∀ W M, isTL (u8 (leB W M)) = true := fun W M => Qw _
 have tw : ∀ (Q : Exit → St → Prop) os fr dst, wpQ P os Q ⟨ZB fr dst (.agg [.own 2 (nB N), .int .i64 N]), [⟨t0, 2, 1, [.list (nB N) (u8 (leB V (nB N))), .int .i64 N], 0⟩, ⟨t0, 2, 1, [.emp true, .int .i64 0], 0⟩, bY tb N V]⟩ →
   Qa P fT [.agg [.list (nB N) (u8 (leB V (nB N))), .int .i64 N]] [⟨t0, 2, 1, [.list (nB N) (u8 (leB V (nB N))), .int .i64 N], 0⟩, ⟨t0, 2, 1, [.emp true, .int .i64 0], 0⟩] os Q fr dst := fun Q os fr dst h =>
  QqP bT hK ht1 (N := N) (V := V) (by omega) (Low.cons (by simp [lowL, XV, lowL_D _ (Qad _ _)]) (Low.cons (by simp [lowL, XV]) Low.nil)) h
 have pt : ∀ (Q : Exit → St → Prop) os fr dst, wpQ P os Q ⟨ZB fr dst (.tup []), [⟨t0, 2, 1, [.own 2 (nB (N + n)), .int .i64 ((N + n : Nat) : Int)], 0⟩, ⟨t0, 2, 1, [.emp true, .int .i64 0], 0⟩, bY tb (N + n) (V + 2 ^ N * v)]⟩ →
   Qa P fP [.ref 0 1 0, .int .u64 v, .int .i64 n] [⟨t0, 2, 1, [.own 2 (nB N), .int .i64 N], 0⟩, ⟨t0, 2, 1, [.emp true, .int .i64 0], 0⟩, bY tb N V] os Q fr dst := fun Q os fr dst h =>
  QsE bP (ob := [⟨t0, 2, 1, [.own 2 (nB N), .int .i64 N], 0⟩, ⟨t0, 2, 1, [.emp true, .int .i64 0], 0⟩, bY tb N V]) (p := 0) (o := 2) (t := t0) rfl rfl (by decide) hV hv hn (by omega)
   (Low.cons (by simp [lowL, XV]) (Low.cons (by simp [lowL, XV]) (Low.cons (lowL_D _ (Qad _ _)) Low.nil))) h
 have tu' := tl (V + 2 ^ N * v) (nB (N + n))
 generalize V + 2 ^ N * v = W at *
 by_cases h64 : n < 64
 ·have e1' := e1 h64
  simp (maxSteps := 4000000) (disch := omega) only [rq, simprocAttr, Qbk, bA]
  refine Qa.vc hC' ?_
  simp (maxSteps := 4000000) (disch := omega) only [rq, simprocAttr, e1']
  refine tw _ _ _ _ ?_
  simp (maxSteps := 4000000) (disch := omega) only [rq, simprocAttr]
  refine pt _ _ _ _ ?_
  simp (maxSteps := 4000000) (disch := omega) only [rq, simprocAttr, ZK, ht, Q2]
  simp [QS, QG, frzL, QD, bY, frzL_T _ tu']
 ·simp (maxSteps := 4000000) (disch := omega) only [rq, simprocAttr, Qbk, bA]
  refine Qa.vc hC' ?_
  simp (maxSteps := 4000000) (disch := omega) only [rq, simprocAttr]
  refine tw _ _ _ _ ?_
  simp (maxSteps := 4000000) (disch := omega) only [rq, simprocAttr]
  refine pt _ _ _ _ ?_
  simp (maxSteps := 4000000) (disch := omega) only [rq, simprocAttr, ZK, ht, Q2]
  simp [QS, QG, frzL, QD, bY, frzL_T _ tu']
def uN (n : Nat) : Nat := min (n + 1) 48
def Qq1 (P : Prg) (f : Nat) : Prop := ∀ n : Nat, n ≤ 48 → VC P f [.int .i64 n] (.tup [.int .i64 (uN n), .int .i64 0])
theorem Qjm {P : Prg} {f : Nat} (bd : Qf P f 13 [.tmp 2, .tmp 3] JT) : Qq1 P f := by
 intro n hn
 refine VC.of_acall rfl rfl (ACall.of_body bd (by simp) ?_)
 have e1 : (if (48 : Int) < (n : Int) + 1 then (48 : Int) else (n : Int) + 1) = (uN n : Nat) := by unfold uN; split <;> omega
 simp (maxSteps := 4000000) (disch := omega) only [rq, simprocAttr, JT, e1]
theorem Qpx {n : Nat} (h : n ≤ 48) : 2 ^ n ≤ 281474976710656 := Nat.pow_le_pow_right (by omega) h
def QiA (P : Prg) (f : Nat) : Prop := ∀ N V n : Nat, V < 2 ^ N → n ≤ 48 → N + uN n ≤ 330000 → VC P f [bA N V, .int .i64 n] (.tup [bA (N + uN n) (V + 2 ^ N * (2 ^ n - 1)), .int .i64 0])
theorem Qk6 {P : Prg} {f fC fL fP t0 : Nat} (bd : Qf P f 32 [.cell 4 t0, .tmp 5] (Qat fC fL fP t0)) (hC : Qcg P fC) (hL : Qq1 P fL) (hP : QkK P fP) (ht : ZJ P t0 = some (some 2)) : QiA P f := by
 intro N V n hV hn hN
 refine VC.of_walk 1 (by simp [isDL, Qdh, isD]) (by simp [isD, isDL, Qdh]) (ACall.of_body bd (by simp) ?_)
 have hC' := hC N V hV (by omega)
 have hL' := hL n hn
 have hp := Qpx hn
 have hpos : 0 < 2 ^ n := Nat.pow_pos (by omega)
 have hlt : 2 ^ n - 1 < 2 ^ uN n := by
  unfold uN
  rcases Nat.lt_or_ge n 48 with h | h
  ·rw [Nat.min_eq_left (by omega), Nat.pow_succ]; omega
  ·obtain rfl : n = 48 := by omega
   decide
 have hP' := hP N V (2 ^ n - 1) (uN n) hV hlt (by unfold uN; omega) hN
 have e3 : Qi true .u64 1 (n : Int) = some (.int .u64 ((2 ^ n : Nat) : Int)) := by
  have := Qrn (K := .u64) rfl (c := 1) (s := n) (by show n ≤ 64; omega) (by show 1 * 2 ^ n < 18446744073709551616; omega)
  rw [Nat.one_mul] at this
  exact this
 have e4 : IntKind.u64.wrap (((2 ^ n : Nat) : Int) - 1) = ((2 ^ n - 1 : Nat) : Int) := by rw [Xl]; omega
 generalize V + 2 ^ N * (2 ^ n - 1) = W at *
 generalize 2 ^ n - 1 = x at *
 generalize 2 ^ n = p at *
 generalize uN n = u at *
 have tl : isTL (u8 (leB W (nB (N + u)))) = true := Qw _
 simp only [bA] at hC' hP' ⊢
 simp (maxSteps := 4000000) (disch := omega) only [rq, simprocAttr, Qat]
 refine Qa.vc hC' ?_
 simp (maxSteps := 4000000) (disch := omega) only [rq, simprocAttr]
 refine Qa.vc hL' ?_
 simp (maxSteps := 4000000) (disch := omega) only [rq, simprocAttr, e3, e4]
 refine Q5.vc hP' ?_
 simp (maxSteps := 4000000) (disch := omega) only [rq, simprocAttr, ZK, ht, Q2]
 simp [QS, QG, frzL, QD, frzL_T _ tl]
def QiC (P : Prg) (f : Nat) : Prop := ∀ N V v k : Nat, V < 2 ^ N → v < 4294967296 → k ≤ 24 → N + 80 ≤ 330000 → VC P f [bA N V, .int .u32 v, .int .i64 k] (.tup [bA (N + Qjw v k) (V + 2 ^ N * Qjx v k), .int .i64 0])
theorem QnJ {P : Prg} {f fC fE fU fP t0 : Nat} (bd : Qf P f 57 [.cell 6 t0, .tmp 7] (Jv fC fE fU fP t0)) (hC : Qcg P fC) (hE : Qum P fE) (hU : QiA P fU) (hP : QkK P fP) (ht : ZJ P t0 = some (some 2)) : QiC P f := by
 intro N V v k hV hv hk hN
 refine VC.of_walk 1 (by simp [isDL, Qdh, isD]) (by simp [isD, isDL, Qdh]) (ACall.of_body bd (by simp) ?_)
 have hC' := hC N V hV (by omega)
 have hE' := hE v k hk hv
 obtain ⟨q1, _⟩ := p24 hk
 have hpk : 0 < 2 ^ k := Nat.pow_pos (by omega)
 have e1 : Qi false .u32 (v : Int) (k : Int) = some (.int .u32 ((v / 2 ^ k : Nat) : Int)) := Qlg (K := .u32) (by show k ≤ 32; omega)
 have e2 : Qi true .u32 1 (k : Int) = some (.int .u32 ((2 ^ k : Nat) : Int)) := by
  have := Qrn (K := .u32) rfl (c := 1) (s := k) (by show k ≤ 32; omega) (by show 1 * 2 ^ k < 4294967296; omega)
  rw [Nat.one_mul] at this
  exact this
 have e3 : IntKind.u32.wrap (((2 ^ k : Nat) : Int) - 1) = ((2 ^ k - 1 : Nat) : Int) := by rw [J5]; omega
 have e4 : IntKind.u32.wrap (BitVec.ofInt IntKind.u32.bits (v : Int) &&& BitVec.ofInt IntKind.u32.bits ((2 ^ k - 1 : Nat) : Int)).toNat = ((v % 2 ^ k : Nat) : Int) := by
  rw [QvG (K := .u32) rfl hv (by show 2 ^ k - 1 < 4294967296; omega), Nat.and_two_pow_sub_one_eq_mod]
 have hqv : v / 2 ^ k ≤ v := Nat.div_le_self _ _
 have hrv : v % 2 ^ k < 2 ^ k := Nat.mod_lt _ hpk
 unfold Qjw Qjx
 by_cases hq : 48 ≤ v / 2 ^ k
 ·rw [if_pos hq, if_pos hq]
  simp only [hq, decide_true] at hE'
  have hU' := hU N V 48 hV (Nat.le_refl _) (by unfold uN; omega)
  have hu : uN 48 = 48 := rfl
  rw [hu] at hU'
  have hV1 : V + 2 ^ N * (2 ^ 48 - 1) < 2 ^ (N + 48) := JO hV (by decide)
  have hP' := hP (N + 48) (V + 2 ^ N * (2 ^ 48 - 1)) v 32 hV1 hv (by omega) (by omega)
  have hW : V + 2 ^ N * (2 ^ 48 - 1) + 2 ^ (N + 48) * v = V + 2 ^ N * (2 ^ 48 - 1 + 2 ^ 48 * v) := by rw [Nat.pow_add, Nat.mul_add, Nat.mul_assoc, Nat.add_assoc]
  rw [hW] at hP'
  generalize V + 2 ^ N * (2 ^ 48 - 1 + 2 ^ 48 * v) = W at *
  generalize V + 2 ^ N * (2 ^ 48 - 1) = W1 at *
  have hNN : N + 48 + 32 = N + 80 := by omega
  rw [hNN] at hP'
  have tl : isTL (u8 (leB W (nB (N + 80)))) = true := Qw _
  simp only [bA] at hC' hP' hU' ⊢
  have hU'' : VC P fU [.agg [.list (nB N) (u8 (leB V (nB N))), .int .i64 N], .int .i64 48] (.tup [.agg [.list (nB (N + 48)) (u8 (leB W1 (nB (N + 48)))), .int .i64 ((N + 48 : Nat) : Int)], .int .i64 0]) := hU'
  have hP'' : VC P fP [.agg [.list (nB (N + 48)) (u8 (leB W1 (nB (N + 48)))), .int .i64 ((N + 48 : Nat) : Int)], .int .u64 v, .int .i64 32] (.tup [.agg [.list (nB (N + 80)) (u8 (leB W (nB (N + 80)))), .int .i64 ((N + 80 : Nat) : Int)], .int .i64 0]) := hP'
  generalize v / 2 ^ k = q at *
  generalize v % 2 ^ k = r at *
  generalize 2 ^ k - 1 = mk at *
  generalize 2 ^ k = pk at *
  simp (maxSteps := 4000000) (disch := omega) only [rq, simprocAttr, Jv]
  refine Qa.vc hC' ?_
  simp (maxSteps := 4000000) (disch := omega) only [rq, simprocAttr, e1, e2, e3, e4]
  refine Qa.vc hE' ?_
  simp (maxSteps := 4000000) (disch := omega) only [rq, simprocAttr]
  refine Qa.vc hU'' ?_
  simp (maxSteps := 4000000) (disch := omega) only [rq, simprocAttr]
  refine Qa.vc hP'' ?_
  simp (maxSteps := 4000000) (disch := omega) only [rq, simprocAttr, ZK, ht, Q2]
  simp [QS, QG, frzL, QD, frzL_T _ tl]
 ·rw [if_neg hq, if_neg hq]
  simp only [hq, decide_false] at hE'
  have hu : uN (v / 2 ^ k) = v / 2 ^ k + 1 := by unfold uN; omega
  have hU' := hU N V (v / 2 ^ k) hV (by omega) (by rw [hu]; omega)
  rw [hu] at hU'
  have hlt : 2 ^ (v / 2 ^ k) - 1 < 2 ^ (v / 2 ^ k + 1) := by
   have : 0 < 2 ^ (v / 2 ^ k) := Nat.pow_pos (by omega)
   rw [Nat.pow_succ]; omega
  have hV1 : V + 2 ^ N * (2 ^ (v / 2 ^ k) - 1) < 2 ^ (N + (v / 2 ^ k + 1)) := JO hV hlt
  have hP' := hP (N + (v / 2 ^ k + 1)) (V + 2 ^ N * (2 ^ (v / 2 ^ k) - 1)) (v % 2 ^ k) k hV1 hrv (by omega) (by omega)
  have hW : V + 2 ^ N * (2 ^ (v / 2 ^ k) - 1) + 2 ^ (N + (v / 2 ^ k + 1)) * (v % 2 ^ k) = V + 2 ^ N * (2 ^ (v / 2 ^ k) - 1 + 2 ^ (v / 2 ^ k + 1) * (v % 2 ^ k)) := by rw [Nat.pow_add 2 N, Nat.mul_add, Nat.mul_assoc, Nat.add_assoc]
  rw [hW] at hP'
  generalize V + 2 ^ N * (2 ^ (v / 2 ^ k) - 1 + 2 ^ (v / 2 ^ k + 1) * (v % 2 ^ k)) = W at *
  generalize V + 2 ^ N * (2 ^ (v / 2 ^ k) - 1) = W1 at *
  have hNN : N + (v / 2 ^ k + 1) + k = N + (v / 2 ^ k + 1 + k) := by omega
  rw [hNN] at hP'
  have tl : isTL (u8 (leB W (nB (N + (v / 2 ^ k + 1 + k))))) = true := Qw _
  simp only [bA] at hC' hP' hU' ⊢
  generalize v / 2 ^ k = q at *
  generalize v % 2 ^ k = r at *
  generalize 2 ^ k - 1 = mk at *
  generalize 2 ^ k = pk at *
  generalize hM : N + (q + 1 + k) = M at *
  generalize hM1 : N + (q + 1) = M1 at *
  simp (maxSteps := 4000000) (disch := omega) only [rq, simprocAttr, Jv]
  refine Qa.vc hC' ?_
  simp (maxSteps := 4000000) (disch := omega) only [rq, simprocAttr, e1, e2, e3, e4]
  refine Qa.vc hE' ?_
  simp (maxSteps := 4000000) (disch := omega) only [rq, simprocAttr]
  refine Qa.vc hU' ?_
  simp (maxSteps := 4000000) (disch := omega) only [rq, simprocAttr]
  refine Qa.vc hP' ?_
  simp (maxSteps := 4000000) (disch := omega) only [rq, simprocAttr, ZK, ht, Q2]
  simp [QS, QG, frzL, QD, frzL_T _ tl]
def QiD (P : Prg) (f : Nat) : Prop := ∀ (N V v : Nat) (d : Dl), V < 2 ^ N → v < 4294967296 → okD d → N + 81 ≤ 330000 → VC P f [bA N V, dlA d, .int .u32 v] (.tup [bA (N + Qeq d v) (V + 2 ^ N * Ql4 d v), dlA (Jp d v), .int .i64 0])
theorem Qn7 {P : Prg} {f fC fD fV fP fR fL fl1 fll t0 t1 : Nat} (bd : Qf P f 69 [.cell 6 t0, .cell 7 t1, .tmp 8] (Jy fC fD fV fP fR fL t0 t1)) (hC : Qcg P fC) (hD : QiT P fD) (hLv : QfP P fV) (hP : QkK P fP) (hR : QiC P fR)
  (bL : Qf P fL 36 [] (XD fl1 fll)) (b1 : Qf P fl1 58 [] Qm) (hL : QfP P fll) (ht0 : ZJ P t0 = some (some 2)) (ht : ZJ P t1 = some (some 4)) : QiD P f := by
 intro N V v d hV hv hd hN
 refine VC.of_walk 1 (by simp [isDL, Qdh, QpV, isD]) (by simp [isD, isDL, Qdh, QpV]) (ACall.of_cut 7 bd (by simp) ?_)
 have hd' := hd
 have hC' := hC N V hV (by omega)
 have hD' := hD d hd
 have hLv' := hLv d v hd hv
 have hL1 : ∀ {ob : List Ob} {p : Nat} {v : Nat} {K : AV → List Ob → Prop}, ob[p]? = some ⟨t1, 4, 1, dlC d, 0⟩ → v < 4294967296 → K (.tup []) (ob.set p ⟨t1, 4, 1, dlC (Jp d v), 0⟩) → ACall P fL [.ref p 1 0, .int .u32 v] ob K :=
  fun hp hv hK => Qn6 bL b1 hL hp hd hv hK
 obtain ⟨k0, k1, s0, s1⟩ := d
 obtain ⟨h1, h2, h3, h4⟩ := hd'
 simp only at h1 h2 h3 h4
 obtain ⟨pk, _⟩ := p24 h1
 simp only [bA] at hC'
 simp only [dlA, dlC] at hD' hLv'
 unfold Qeq Ql4
 by_cases c : v < 2 ^ k0
 ·simp only [c, if_true] at hLv' ⊢
  have hP1 := hP N V 0 1 hV (by decide) (by omega) (by omega)
  rw [Nat.mul_zero, Nat.add_zero] at hP1
  have hV1 : V < 2 ^ (N + 1) := Nat.lt_of_lt_of_le hV (Nat.pow_le_pow_right (by omega) (by omega))
  have hP2 := hP (N + 1) V v k0 hV1 c (by omega) (by omega)
  have hW : V + 2 ^ (N + 1) * v = V + 2 ^ N * (2 * v) := by rw [Nat.pow_succ, Nat.mul_assoc]
  rw [hW, Nat.add_assoc] at hP2
  generalize V + 2 ^ N * (2 * v) = W at *
  have tl : isTL (u8 (leB W (nB (N + (1 + k0))))) = true := Qw _
  simp only [bA] at hP1 hP2 ⊢
  have hP1' : VC P fP [.agg [.list (nB N) (u8 (leB V (nB N))), .int .i64 N], .int .u64 0, .int .i64 1] (.tup [.agg [.list (nB (N + 1)) (u8 (leB V (nB (N + 1)))), .int .i64 ((N + 1 : Nat) : Int)], .int .i64 0]) := hP1
  simp (maxSteps := 4000000) (disch := omega) only [rq, simprocAttr, Qao, Jy, dlA, dlC]
  refine Qa.vc hC' ?_
  simp (maxSteps := 4000000) (disch := omega) only [rq, simprocAttr, Qao]
  refine Qa.vc hD' ?_
  simp (maxSteps := 4000000) (disch := omega) only [rq, simprocAttr, Qao]
  refine Qa.vc hLv' ?_
  simp (maxSteps := 4000000) (disch := omega) only [rq, simprocAttr, Qao]
  refine Qa.vc hP1' ?_
  simp (maxSteps := 4000000) (disch := omega) only [rq, simprocAttr, Qao]
  refine Qa.vc hP2 ?_
  simp (maxSteps := 4000000) (disch := omega) only [rq, simprocAttr, Qao]
  refine hL1 (v := v) rfl hv ?_
  generalize Jp ⟨k0, k1, s0, s1⟩ v = d'
  obtain ⟨l0, l1, l2, l3⟩ := d'
  simp (maxSteps := 4000000) (disch := omega) only [rq, simprocAttr, Qao]
  refine ⟨⟨[(8, .int .i64 0), (7, .ref 3 1 0), (6, .ref 2 1 0), (4, .cell [.int .i64 l0, .int .i64 l1, .int .u64 l2, .int .u64 l3]), (3, .ref 0 1 0)], _⟩, Le.still [1] 1 (by simp [Am.look, QG, frzL, QD, dlC, isDL, isD]), ?_⟩
  simp (maxSteps := 4000000) (disch := omega) only [rq, simprocAttr, ZK, ht, ht0, Q2, dlC, Qj]
  simp [QS, QG, frzL, QD, frzL_T _ tl]
 ·simp only [c, if_false] at hLv' ⊢
  have hP1 := hP N V 1 1 hV (by decide) (by omega) (by omega)
  rw [Nat.mul_one] at hP1
  have hV1 : V + 2 ^ N < 2 ^ (N + 1) := by rw [Nat.pow_succ]; omega
  have hl : v - 2 ^ k0 < 4294967296 := Nat.lt_of_le_of_lt (Nat.sub_le _ _) hv
  have hR2 := hR (N + 1) (V + 2 ^ N) (v - 2 ^ k0) k1 hV1 hl h2 (by omega)
  have hW : V + 2 ^ N + 2 ^ (N + 1) * Qjx (v - 2 ^ k0) k1 = V + 2 ^ N * (1 + 2 * Qjx (v - 2 ^ k0) k1) := by rw [Nat.pow_succ, Nat.mul_assoc, Nat.mul_add, Nat.mul_one, Nat.add_assoc]
  rw [hW, Nat.add_assoc] at hR2
  generalize V + 2 ^ N * (1 + 2 * Qjx (v - 2 ^ k0) k1) = W at *
  generalize Qjw (v - 2 ^ k0) k1 = rn at *
  generalize v - 2 ^ k0 = lf at *
  generalize V + 2 ^ N = W1 at *
  have tl : isTL (u8 (leB W (nB (N + (1 + rn))))) = true := Qw _
  simp only [bA] at hP1 hR2 ⊢
  have hP1' : VC P fP [.agg [.list (nB N) (u8 (leB V (nB N))), .int .i64 N], .int .u64 1, .int .i64 1] (.tup [.agg [.list (nB (N + 1)) (u8 (leB W1 (nB (N + 1)))), .int .i64 ((N + 1 : Nat) : Int)], .int .i64 0]) := hP1
  simp (maxSteps := 4000000) (disch := omega) only [rq, simprocAttr, Qao, Jy, dlA, dlC]
  refine Qa.vc hC' ?_
  simp (maxSteps := 4000000) (disch := omega) only [rq, simprocAttr, Qao]
  refine Qa.vc hD' ?_
  simp (maxSteps := 4000000) (disch := omega) only [rq, simprocAttr, Qao]
  refine Qa.vc hLv' ?_
  simp (maxSteps := 4000000) (disch := omega) only [rq, simprocAttr, Qao]
  refine Qa.vc hP1' ?_
  simp (maxSteps := 4000000) (disch := omega) only [rq, simprocAttr, Qao]
  refine Qa.vc hR2 ?_
  simp (maxSteps := 4000000) (disch := omega) only [rq, simprocAttr, Qao]
  refine hL1 (v := v) rfl hv ?_
  generalize Jp ⟨k0, k1, s0, s1⟩ v = d'
  obtain ⟨l0, l1, l2, l3⟩ := d'
  simp (maxSteps := 4000000) (disch := omega) only [rq, simprocAttr, Qao]
  refine ⟨⟨[(8, .int .i64 0), (7, .ref 3 1 0), (6, .ref 2 1 0), (4, .cell [.int .i64 l0, .int .i64 l1, .int .u64 l2, .int .u64 l3]), (3, .ref 0 1 0)], _⟩, Le.still [1] 1 (by simp [Am.look, QG, frzL, QD, dlC, isDL, isD]), ?_⟩
  simp (maxSteps := 4000000) (disch := omega) only [rq, simprocAttr, ZK, ht, ht0, Q2, dlC, Qj]
  simp [QS, QG, frzL, QD, frzL_T _ tl]
end Go.Am
