/- What the functions that the law reaches return, for every program that has their code; the conditions stand in each statement. -/
import Derived.Test.YtghngklehkkecacGreatDoorPushencPiecesD1
set_option linter.unusedSectionVars false
set_option linter.unusedSimpArgs false
set_option linter.unusedVariables false
namespace Go.Am
open Go.RowKit
def leN : List UInt8 → Nat
 | [] => 0
 | b :: l => b.toNat + 256 * leN l
theorem Qta : ∀ l : List UInt8, leN l < 2 ^ (8 * l.length)
 | [] => by simp [leN]
 | b :: l => by
  have h1 := Qta l
  have h2 := b.toNat_lt
  have h3 : 2 ^ (8 * (b :: l).length) = 256 * 2 ^ (8 * l.length) := by
   rw [List.length_cons, Nat.mul_add, Nat.pow_add, Nat.mul_comm]
  rw [h3]
  simp only [leN]
  omega
theorem Qr (l : List UInt8) : isTL (u8 l) = true := by
 induction l with
 | nil => rfl
 | cons x l ih => simp [Qld, isTL, isT, ih]
def Z3 (b : Int) : Int := if b = 8 then 128 else if b = 16 then 32768 else if b = 24 then 8388608 else 0
theorem Za (b : Int) : (b = 8 ∧ Z3 b = 128) ∨ (b = 16 ∧ Z3 b = 32768) ∨ (b = 24 ∧ Z3 b = 8388608) ∨ (b ≠ 8 ∧ b ≠ 16 ∧ b ≠ 24 ∧ Z3 b = 0) := by
 unfold Z3; split <;> (try split) <;> (try split) <;> omega
def X7 (b : Int) : AV := if Z3 b = 0 then .tup [.int .i32 0, .int .i32 0, .int .i64 2] else .tup [.int .i32 (-Z3 b), .int .i32 (Z3 b - 1), .int .i64 0]
def QfR (P : Prg) (f : Nat) : Prop := ∀ b : Int, VC P f [.int .i64 b] (X7 b)
theorem QkY {P : Prg} {f : Nat} (b : Qf P f 18 [.tmp 2, .tmp 3, .tmp 4] ZE) : QfR P f := by
 intro x
 refine VC.of_acall rfl (by unfold X7; split <;> rfl) (ACall.of_body b (by simp) ?_)
 rcases Za x with ⟨rfl, h⟩ | ⟨rfl, h⟩ | ⟨rfl, h⟩ | ⟨h1, h2, h3, h⟩
 ·simp (maxSteps := 4000000) (disch := omega) only [rq, simprocAttr, ZE, X7, h]
  rfl
 ·simp (maxSteps := 4000000) (disch := omega) only [rq, simprocAttr, ZE, X7, h]
  rfl
 ·simp (maxSteps := 4000000) (disch := omega) only [rq, simprocAttr, ZE, X7, h]
  rfl
 ·simp (maxSteps := 4000000) (disch := omega) only [rq, simprocAttr, ZE, X7, h]
def il (l : List Int) : AV := .list l.length (ks .i32 l)
theorem Zu (l : List Int) : isD (il l) = true := by simp [il, isD, QB]
def inR (b x : Int) : Bool := decide (-Z3 b ≤ x) && decide (x < Z3 b)
def QL (b : Int) (l : List Int) : Int := if Z3 b = 0 then 2 else if 4000 < l.length then 4 else if l.all (inR b) then 0 else 16
def I32 (l : List Int) : Prop := ∀ x ∈ l, -2147483648 ≤ x ∧ x ≤ 2147483647
def Qdv (P : Prg) (f : Nat) : Prop := ∀ (b : Int) (l : List Int), I32 l → VC P f [.int .i64 b, il l] (.int .i64 (QL b l))
theorem QiD {l : List Int} {k : Nat} (h : k < l.length) {p : Int → Bool} : (l.take (k + 1)).all p = ((l.take k).all p && p l[k]) := by
 rw [List.take_succ_eq_append_getElem h, List.all_append]; simp
theorem QnY {l : List Int} {k : Nat} (h : k < l.length) {p : Int → Bool} (hp : p l[k] = false) : l.all p = false := by
 rw [List.all_eq_false]
 exact ⟨l[k], List.getElem_mem h, by simp [hp]⟩
set_option maxRecDepth 10000 in
theorem QkZ {P : Prg} {f fR : Nat} (b : Qf P f 37 [.tmp 4] (Qaw fR)) (hR : QfR P fR) : Qdv P f := by
 intro x l hl
 refine VC.of_acall (by simp [isDL, isD, Zu]) rfl (ACall.of_body b (by simp) ?_)
 simp (maxSteps := 4000000) (disch := omega) only [rq, simprocAttr, Qaw]
 refine Qa.vc (hR x) ?_
 by_cases h0 : Z3 x = 0
 ·simp (maxSteps := 4000000) (disch := omega) only [rq, simprocAttr, X7, QL, h0]
 have h3 : Z3 x = 128 ∨ Z3 x = 32768 ∨ Z3 x = 8388608 := by rcases Za x with h | h | h | h <;> omega
 by_cases h1 : 4000 < l.length
 ·simp (maxSteps := 4000000) (disch := omega) only [rq, simprocAttr, X7, QL, h0, il, h1]
 simp (maxSteps := 4000000) (disch := omega) only [rq, simprocAttr, X7, il, if_neg h0]
 refine QN.by (ι := Nat) (fun k => ⟨[(24, .int .i64 k), (23, .int .i64 l.length), (22, il l), (6, .int .i32 (Z3 x - 1)), (5, .int .i32 (-Z3 x))], []⟩) (fun k => k ≤ l.length ∧ (l.take k).all (inR x) = true) (fun k => l.length - k) 0 (Le.slots (by simp [Am.look, il])) ⟨by omega, by simp⟩ ?_
 intro k ⟨hk, hg⟩
 by_cases hlt : k < l.length
 ·by_cases hp : -Z3 x ≤ l[k] ∧ l[k] < Z3 x
  ·have hs := QiD hlt (p := inR x)
   simp (maxSteps := 4000000) (disch := omega) only [rq, simprocAttr, il, QdV, hlt]
   exact ⟨k + 1, ⟨by omega, by rw [hs, hg]; simp [inR, hp]⟩, by omega, Le.slots (by simp [Am.look, il])⟩
  ·have e : QL x l = 16 := by simp [QL, h0, h1, QnY hlt (p := inR x) (by simp [inR]; omega)]
   by_cases hq : l[k] < -Z3 x
   ·simp (maxSteps := 4000000) (disch := omega) only [rq, simprocAttr, il, QdV, hlt, e]
   ·simp (maxSteps := 4000000) (disch := omega) only [rq, simprocAttr, il, QdV, hlt, e]
 ·have e2 : k = l.length := by omega
  subst e2
  rw [List.take_length] at hg
  simp (maxSteps := 4000000) (disch := omega) only [rq, simprocAttr, il, QL, h0, h1, hg]
def Qrl (P : Prg) (f : Nat) : Prop := ∀ x : Int, VC P f [.int .i64 x] (.int .i64 (Z3 x))
theorem QnW {P : Prg} {f : Nat} (b : Qf P f 10 [.tmp 2] ZZ) : Qrl P f := by
 intro x
 refine VC.of_acall rfl rfl (ACall.of_body b (by simp) ?_)
 rcases Za x with ⟨rfl, h⟩ | ⟨rfl, h⟩ | ⟨rfl, h⟩ | ⟨h1, h2, h3, h⟩ <;> simp (maxSteps := 4000000) (disch := omega) only [rq, simprocAttr, ZZ, h]
theorem Qfw {n : Nat} {c : Int} (h : 1 ≤ c) : 0 ≤ (n : Int) / c ∧ (n : Int) / c ≤ n :=
 ⟨Int.ediv_nonneg (by omega) (by omega), Int.ediv_le_self _ (by omega)⟩
theorem QbL {n : Nat} {c : Int} (h : 1 ≤ c) : 0 ≤ (n : Int) % c ∧ (n : Int) % c < c := ⟨Int.emod_nonneg _ (by omega), Int.emod_lt_of_pos _ (by omega)⟩
def Qd (r : Int) : Int := if 256 * r / 245 < 1 then 1 else 256 * r / 245
theorem ZN (r : Int) : 1 ≤ Qd r := by unfold Qd; split <;> omega
theorem QeQ {r : Int} (h : r ≤ 1048576) : Qd r ≤ 1095654 := by unfold Qd; split <;> omega
def Qa7 (r : Int) : AV := if r < 1 ∨ 1048576 < r then .tup [.int .i64 0, .int .i64 2] else .tup [.int .i64 (Qd r), .int .i64 0]
def Xf (P : Prg) (f : Nat) : Prop := ∀ r : Int, VC P f [.int .i64 r] (Qa7 r)
theorem Qnb (r : Int) : isD (Qa7 r) = true := by unfold Qa7; split <;> rfl
theorem QjQ {P : Prg} {f : Nat} (b : Qf P f 14 [.tmp 2, .tmp 3] ZP) : Xf P f := by
 intro r
 refine VC.of_acall rfl (Qnb r) (ACall.of_body b (by simp) ?_)
 by_cases h1 : r < 1
 ·simp (maxSteps := 4000000) (disch := omega) only [rq, simprocAttr, ZP, Qa7, true_or]
 by_cases h2 : 1048576 < r
 ·simp (maxSteps := 4000000) (disch := omega) only [rq, simprocAttr, ZP, Qa7, or_true]
 have h3 : 1 ≤ 256 * r / 245 := by omega
 simp (maxSteps := 4000000) (disch := omega) only [rq, simprocAttr, ZP, Qa7, or_self, Qd]
 rw [show (if (1 : Int) < 256 * r / 245 then 256 * r / 245 else 1) = 256 * r / 245 by split <;> omega]
theorem QnV {P : Prg} {f : Nat} (b : Qf P f 17 [.tmp 2, .tmp 3] QX) : Xf P f := by
 intro r
 refine VC.of_acall rfl (Qnb r) (ACall.of_body b (by simp) ?_)
 by_cases h1 : r < 1
 ·simp (maxSteps := 4000000) (disch := omega) only [rq, simprocAttr, QX, Qa7, true_or]
 by_cases h2 : 1048576 < r
 ·simp (maxSteps := 4000000) (disch := omega) only [rq, simprocAttr, QX, Qa7, or_true]
 have e : r * 256 / 245 = 256 * r / 245 := by rw [Int.mul_comm]
 have h3 : 1 ≤ 256 * r / 245 := by omega
 simp (maxSteps := 4000000) (disch := omega) only [rq, simprocAttr, QX, Qa7, or_self, Qd, e]
def QH (c b : Int) : Int := if Z3 b = 0 ∨ c < 1 ∨ 6 < c then 2 else 0
def shA (c b : Int) : AV := .agg [.int .i64 c, .int .i64 b]
def JG (P : Prg) (f : Nat) : Prop := ∀ c b : Int, VC P f [shA c b] (.int .i64 (QH c b))
theorem Qh1 {P : Prg} {f fR t0 : Nat} (b : Qf P f 25 [.tmp 2] (Jn fR t0)) (hR : QfR P fR) : JG P f := by
 intro c x
 refine VC.of_acall rfl rfl (ACall.of_body b (by simp) ?_)
 simp (maxSteps := 4000000) (disch := omega) only [rq, simprocAttr, Jn, shA]
 refine Qa.vc (hR x) ?_
 by_cases h0 : Z3 x = 0
 ·simp (maxSteps := 4000000) (disch := omega) only [rq, simprocAttr, X7, h0, QH, true_or]
 by_cases h1 : c < 1
 ·simp (maxSteps := 4000000) (disch := omega) only [rq, simprocAttr, X7, if_neg h0, QH, h0, or_true, true_or]
 by_cases h2 : 6 < c
 ·simp (maxSteps := 4000000) (disch := omega) only [rq, simprocAttr, X7, if_neg h0, QH, h0, or_true]
 ·simp (maxSteps := 4000000) (disch := omega) only [rq, simprocAttr, X7, if_neg h0, QH, h0, or_self]
theorem Qlv {P : Prg} {f fH t0 : Nat} (b : Qf P f 17 [.tmp 2] (QS fH t0)) (hH : Qrl P fH) : JG P f := by
 intro c x
 refine VC.of_acall rfl rfl (ACall.of_body b (by simp) ?_)
 have hx := Za x
 by_cases h1 : c < 1
 ·simp (maxSteps := 4000000) (disch := omega) only [rq, simprocAttr, QS, shA, QH, or_true, true_or]
 by_cases h2 : 6 < c
 ·simp (maxSteps := 4000000) (disch := omega) only [rq, simprocAttr, QS, shA, QH, or_true]
 simp (maxSteps := 4000000) (disch := omega) only [rq, simprocAttr, QS, shA]
 refine Qa.vc (hH x) ?_
 by_cases h0 : Z3 x = 0
 ·simp (maxSteps := 4000000) (disch := omega) only [rq, simprocAttr, h0, QH, true_or]
 ·simp (maxSteps := 4000000) (disch := omega) only [rq, simprocAttr, h0, QH, or_self]
structure Enc where
 ch : Int
 bits : Int
 rate : Int
 pw : List UInt8
 rest : List UInt8
 smp : List Int
 frs : List (List UInt8)
 out : List UInt8
 done : Bool
 err : Int
def bss (l : List (List UInt8)) : AV := .list l.length (l.map bs)
def ZI (e : Enc) : List AV := [.int .i64 e.ch, .int .i64 e.bits, .int .i64 e.rate, .str e.pw, bs e.rest, il e.smp, bss e.frs, bs e.out, .bool e.done, .int .i64 e.err]
def Jf (e : Enc) : AV := .agg (ZI e)
theorem Zl : ∀ l : List (List UInt8), isDL (l.map bs) = true
 | [] => rfl
 | x :: l => by simp [isDL, QP, Zl l]
theorem QbN (l : List (List UInt8)) : isD (bss l) = true := by simp [bss, isD, Zl]
theorem Xi (e : Enc) : isD (Jf e) = true := by simp [Jf, ZI, isD, isDL, QP, Zu, QbN]
def Qv (c b r : Int) (pw : List UInt8) : Bool := decide (QH c b = 0) && decide (1 ≤ r ∧ r ≤ 1048576) && decide (pw.length ≤ 64)
def QjP (r : Int) : Int := if r < 1 ∨ 1048576 < r then 0 else Qd r
theorem QD {c b r : Int} {pw : List UInt8} : Qv c b r pw = true ↔ (Z3 b ≠ 0 ∧ 1 ≤ c ∧ c ≤ 6) ∧ (1 ≤ r ∧ r ≤ 1048576) ∧ pw.length ≤ 64 := by
 have e : QH c b = 0 ↔ (Z3 b ≠ 0 ∧ 1 ≤ c ∧ c ≤ 6) := by unfold QH; split <;> omega
 simp only [Qv, Bool.and_eq_true, decide_eq_true_eq, e, and_assoc]
def QiM (P : Prg) (f : Nat) : Prop := ∀ (c b r : Int) (pw : List UInt8), pw.length ≤ 4611686018427387904 → VC P f [shA c b, .int .i64 r, .str pw] (.tup [.int .i64 (QjP r), .bool (Qv c b r pw)])
theorem QhG {P : Prg} {f fL fE t0 : Nat} (b : Qf P f 28 [.tmp 6, .tmp 7] (Jh fL fE t0)) (hL : Xf P fL) (hE : JG P fE) : QiM P f := by
 intro c x r pw hpw
 refine VC.of_acall rfl rfl (ACall.of_body b (by simp) ?_)
 simp (maxSteps := 4000000) (disch := omega) only [rq, simprocAttr, Jh, shA]
 refine Qa.vc (hL r) ?_
 have he : QH c x = 0 ∨ QH c x = 2 := by unfold QH; split <;> omega
 by_cases h1 : r < 1 ∨ 1048576 < r
 ·simp (maxSteps := 4000000) (disch := omega) only [rq, simprocAttr, Qa7, h1]
  refine Qa.vc (by have := hE c x; rw [shA] at this; exact this) ?_
  have h2 : Qv c x r pw = false := by simp only [Qv]; rw [show decide (1 ≤ r ∧ r ≤ 1048576) = false by rw [decide_eq_false_iff_not]; omega]; simp
  rcases he with he | he
  ·simp (maxSteps := 4000000) (disch := omega) only [rq, simprocAttr, he, QjP, h2, h1]
  ·simp (maxSteps := 4000000) (disch := omega) only [rq, simprocAttr, he, QjP, h2, h1]
 ·simp (maxSteps := 4000000) (disch := omega) only [rq, simprocAttr, Qa7, h1]
  refine Qa.vc (by have := hE c x; rw [shA] at this; exact this) ?_
  rcases he with he | he
  ·by_cases hp : pw.length ≤ 64
   ·have h2 : Qv c x r pw = true := by simp only [Qv, he]; rw [show decide (1 ≤ r ∧ r ≤ 1048576) = true by rw [decide_eq_true_eq]; omega]; simp [hp]
    simp (maxSteps := 4000000) (disch := omega) only [rq, simprocAttr, he, QjP, h2, h1]
   ·have h2 : Qv c x r pw = false := by simp [Qv, hp]
    simp (maxSteps := 4000000) (disch := omega) only [rq, simprocAttr, he, QjP, h2, h1]
  ·have h2 : Qv c x r pw = false := by simp [Qv, he]
   simp (maxSteps := 4000000) (disch := omega) only [rq, simprocAttr, he, QjP, h2, h1]
def QeZ (P : Prg) (f : Nat) : Prop := ∀ c b : Int, 1 ≤ c → c ≤ 6 → Z3 b ≠ 0 → VC P f [shA c b] (.int .i64 (c * b / 8))
theorem JS {c b : Int} (h1 : 1 ≤ c) (h2 : c ≤ 6) (h : Z3 b ≠ 0) : 8 ≤ c * b ∧ c * b ≤ 144 ∧ (b = 8 ∨ b = 16 ∨ b = 24) := by
 have hb : b = 8 ∨ b = 16 ∨ b = 24 := by rcases Za b with h' | h' | h' | h' <;> omega
 rcases hb with rfl | rfl | rfl <;> omega
theorem Qgf {P : Prg} {f t0 : Nat} (b : Qf P f 9 [.tmp 2] (XQ t0)) : QeZ P f := by
 intro c x h1 h2 h
 have hm := JS h1 h2 h
 refine VC.of_acall rfl rfl (ACall.of_body b (by simp) ?_)
 simp (maxSteps := 4000000) (disch := omega) only [rq, simprocAttr, XQ, shA]
def Qt (e : Enc) (L : Int) : Int := e.frs.length * L + e.smp.length / e.ch
def okE (e : Enc) : Prop := 1 ≤ e.ch ∧ e.ch ≤ 6 ∧ e.frs.length ≤ 1000 ∧ e.smp.length ≤ 400000 ∧ I32 e.smp
theorem Qqa {n : Nat} {L : Int} (h : n ≤ 1000) (h1 : 0 ≤ L) (h2 : L ≤ 1095654) : 0 ≤ (n : Int) * L ∧ (n : Int) * L ≤ 1095654000 :=
 ⟨Int.mul_nonneg (by omega) h1, by
  have : (n : Int) * L ≤ 1000 * 1095654 := Int.mul_le_mul (by omega) h2 h1 (by omega)
  omega⟩
def Qd6 (P : Prg) (f : Nat) : Prop := ∀ (e : Enc) (L : Int), okE e → 0 ≤ L → L ≤ 1095654 → VC P f [Jf e, .int .i64 L] (.int .i64 (Qt e L))
theorem QhH {P : Prg} {f t0 : Nat} (b : Qf P f 18 [.tmp 4] (Ji t0)) : Qd6 P f := by
 intro e L ⟨h1, h2, h3, h4, _⟩ h5 h6
 have hm := Qqa h3 h5 h6
 have hd := Qfw (n := e.smp.length) h1
 refine VC.of_acall (by simp [isDL, Xi, isD]) rfl (ACall.of_body b (by simp) ?_)
 simp (maxSteps := 4000000) (disch := omega) only [rq, simprocAttr, Ji, Jf, ZI, il, bss, bs, Qt]
def Qa3 (c n m : Int) : Bool := decide (n ≤ 1000) && decide (m * c ≤ 4000)
def QkQ (P : Prg) (f : Nat) : Prop := ∀ (e : Enc) (n m : Int), 1 ≤ e.ch → e.ch ≤ 6 → 0 ≤ m → m ≤ 2000000000 → VC P f [Jf e, .int .i64 n, .int .i64 m] (.bool (Qa3 e.ch n m))
theorem Qsg {c m : Int} (h1 : 1 ≤ c) (h2 : c ≤ 6) (h3 : 0 ≤ m) (h4 : m ≤ 2000000000) : 0 ≤ m * c ∧ m * c ≤ 12000000000 ∧ (m ≤ 4000 / c ↔ m * c ≤ 4000) := by
 have : c = 1 ∨ c = 2 ∨ c = 3 ∨ c = 4 ∨ c = 5 ∨ c = 6 := by omega
 rcases this with rfl | rfl | rfl | rfl | rfl | rfl <;> omega
theorem QjD {P : Prg} {f t0 : Nat} (b : Qf P f 17 [.tmp 6] (Xz t0)) : QkQ P f := by
 intro e n m h1 h2 h3 h4
 have hm := Qsg h1 h2 h3 h4
 refine VC.of_acall (by simp [isDL, Xi, isD]) rfl (ACall.of_body b (by simp) ?_)
 by_cases hn : n ≤ 1000
 ·simp (maxSteps := 4000000) (disch := omega) only [rq, simprocAttr, Xz, Jf, ZI, il, bss, bs, Qa3]
 ·simp (maxSteps := 4000000) (disch := omega) only [rq, simprocAttr, Xz, Jf, ZI, il, bss, bs, Qa3]
def Qu8 {α : Type} (p : α → Bool) (l : List α) : Int := match l.findIdx? p with | some i => i | none => -1
def QfX (P : Prg) (f : Nat) : Prop := ∀ (α : Type) (l : List α) (c : α → AV) (p : α → Bool) (g : Nat) (fs cs : List AV), isDL fs = true → isDL cs = true → (∀ x, isD (c x) = true) → l.length ≤ 4611686018427387904 →
 (∀ x ∈ l, VC P g (fs ++ [c x] ++ cs) (.bool (p x))) → VC P f [.list l.length (l.map c), .fn (.func g) fs cs] (.int .i64 (Qu8 p l))
theorem QhV {α : Type} {c : α → AV} (h : ∀ x, isD (c x) = true) : ∀ l : List α, isDL (l.map c) = true
 | [] => rfl
 | x :: l => by simp [isDL, h x, QhV h l]
theorem QqE {α : Type} {l : List α} {c : α → AV} {k : Nat} (h : k < l.length) : (l.map c).drop k = c l[k] :: (l.map c).drop (k + 1) := by
 rw [List.drop_eq_getElem_cons (by simpa using h)]; simp
theorem Qqm {α : Type} {p : α → Bool} {l : List α} (h : l.all (fun x => !p x) = true) : l.findIdx? p = none := by
 rw [List.findIdx?_eq_none_iff]
 intro x hx
 have := List.all_eq_true.1 h x hx
 simpa using this
theorem Quf {α : Type} {p : α → Bool} {l : List α} {k : Nat} (hk : k < l.length) (h : (l.take k).all (fun x => !p x) = true) (hp : p l[k] = true) : l.findIdx? p = some k := by
 rw [List.findIdx?_eq_some_iff_getElem]
 refine ⟨hk, hp, fun j hj => ?_⟩
 have := List.all_eq_true.1 h l[j] (by
  rw [List.mem_take_iff_getElem]
  exact ⟨j, by omega, rfl⟩)
 simpa using this
theorem Qmz {α : Type} {l : List α} {k : Nat} (h : k < l.length) {p : α → Bool} : (l.take (k + 1)).all p = ((l.take k).all p && p l[k]) := by
 rw [List.take_succ_eq_append_getElem h, List.all_append]; simp
theorem QlH {P : Prg} {f : Nat} (b : Qf P f 19 [.tmp 4] QW) : QfX P f := by
 intro α l c p g fs cs h1 h2 h3 hlen hp
 refine VC.of_acall (by simp [isDL, isD, h1, h2, QhV h3]) rfl (ACall.of_body b (by simp) ?_)
 simp (maxSteps := 4000000) (disch := omega) only [rq, simprocAttr, QW]
 refine QN.by (ι := Nat) (fun k => ⟨[(8, .int .i64 k), (7, .int .i64 l.length), (1, .fn (.func g) fs cs), (0, .list l.length (l.map c))], []⟩) (fun k => k ≤ l.length ∧ (l.take k).all (fun x => !p x) = true) (fun k => l.length - k) 0 (Le.slots (by simp [Am.look])) ⟨by omega, by simp⟩ ?_
 intro k ⟨hk, hg⟩
 by_cases hlt : k < l.length
 ·simp (maxSteps := 4000000) (disch := omega) only [rq, simprocAttr, QqE, hlt]
  refine Qa.vc (hp _ (List.getElem_mem hlt)) ?_
  cases hpk : p l[k] with
  | true => simp (maxSteps := 4000000) (disch := omega) only [rq, simprocAttr, hpk, Qu8, Quf hlt hg hpk]
  | false =>
   simp (maxSteps := 4000000) (disch := omega) only [rq, simprocAttr, hpk]
   exact ⟨k + 1, ⟨by omega, by rw [Qmz hlt, hg, hpk]; rfl⟩, by omega, Le.slots (by simp [Am.look])⟩
 ·have e2 : k = l.length := by omega
  subst e2
  rw [List.take_length] at hg
  simp (maxSteps := 4000000) (disch := omega) only [rq, simprocAttr, Qu8, Qqm hg]
def Qb0 (P : Prg) (f : Nat) : Prop := ∀ (α : Type) (l : List α) (c : α → AV) (p : α → Bool) (g : Nat) (fs cs : List AV), isDL fs = true → isDL cs = true → (∀ x, isD (c x) = true) → l.length ≤ 4611686018427387904 →
 (∀ x ∈ l, VC P g (fs ++ [c x] ++ cs) (.bool (p x))) → VC P f [.list l.length (l.map c), .fn (.func g) fs cs] (.bool (l.any p))
theorem Qt8 {α : Type} (p : α → Bool) (l : List α) : decide ((0 : Int) ≤ Qu8 p l) = l.any p := by
 unfold Qu8
 cases h : l.findIdx? p with
 | none =>
  rw [List.findIdx?_eq_none_iff] at h
  have : l.any p = false := by rw [List.any_eq_false]; intro x hx; rw [h x hx]; simp
  rw [this]; rfl
 | some i =>
  rw [List.findIdx?_eq_some_iff_getElem] at h
  obtain ⟨h1, h2, _⟩ := h
  have : l.any p = true := by rw [List.any_eq_true]; exact ⟨_, List.getElem_mem h1, h2⟩
  rw [this]; simp
theorem Qgs {P : Prg} {f fI : Nat} (b : Qf P f 9 [.tmp 4] (QM fI)) (hI : QfX P fI) : Qb0 P f := by
 intro α l c p g fs cs h1 h2 h3 hlen hp
 refine VC.of_acall (by simp [isDL, isD, h1, h2, QhV h3]) rfl (ACall.of_body b (by simp) ?_)
 have hi := hI α l c p g fs cs h1 h2 h3 hlen hp
 simp (maxSteps := 4000000) (disch := omega) only [rq, simprocAttr, QM]
 refine Qa.vc hi ?_
 simp (maxSteps := 4000000) (disch := omega) only [rq, simprocAttr, Qt8]
theorem Q7 : ∀ l : List (List UInt8), isTL (l.map bs) = true
 | [] => rfl
 | x :: l => by
  have : isT (bs x) = true := by simp [bs, isT]; induction x with | nil => rfl | cons y x ih => simp [Qld, isTL, isT, ih]
  simp [isTL, this, Q7 l]
def Qcx (m : Int) (b : List UInt8) : Bool := decide ((b.length : Int) < 5) || decide (m < b.length)
def QiZ (P : Prg) (f : Nat) : Prop := ∀ (b : List UInt8) (m : Int), VC P f [bs b, .cell [.int .i64 m]] (.bool (Qcx m b))
theorem Qqr {P : Prg} {f : Nat} (b : Qf P f 13 [.tmp 3] Zn) : QiZ P f := by
 intro l m
 refine VC.of_acall (by simp [isDL, isD, QP]) rfl (ACall.of_body b (by simp) ?_)
 by_cases h : (l.length : Int) < 5
 ·simp (maxSteps := 4000000) (disch := omega) only [rq, simprocAttr, Zn, bs, Qcx]
 ·simp (maxSteps := 4000000) (disch := omega) only [rq, simprocAttr, Zn, bs, Qcx]
def Qdk (e : Enc) : Bool :=
 let L := Qd e.rate
 if 0 < e.out.length ∨ e.ch * e.bits / 8 ≤ e.rest.length ∨ (e.smp.length : Int) % e.ch ≠ 0 ∨ L ≤ (e.smp.length : Int) / e.ch ∨ 1000 < e.frs.length then false
 else if QL e.bits e.smp ≠ 0 then false
 else if Qa3 e.ch (e.frs.length + if 0 < e.smp.length then 1 else 0) (Qt e L) = false then false
 else !e.frs.any (Qcx ((81 * L * e.ch + 7) / 8 + 4))
def okF (e : Enc) : Prop := Qv e.ch e.bits e.rate e.pw = true ∧ e.frs.length ≤ 4611686018427387904 ∧ e.smp.length ≤ 400000 ∧ I32 e.smp ∧ e.rest.length ≤ 4611686018427387904 ∧ e.out.length ≤ 4611686018427387904
theorem Qwc {L c : Int} (h1 : 1 ≤ L) (h2 : L ≤ 1095654) (h3 : 1 ≤ c) (h4 : c ≤ 6) : 0 ≤ 81 * L * c ∧ 81 * L * c ≤ 600000000 := by
 have : c = 1 ∨ c = 2 ∨ c = 3 ∨ c = 4 ∨ c = 5 ∨ c = 6 := by omega
 rcases this with rfl | rfl | rfl | rfl | rfl | rfl <;> omega
def Qf0 (P : Prg) (f : Nat) : Prop := ∀ e : Enc, okF e → VC P f [Jf e, .int .i64 (Qd e.rate)] (.bool (Qdk e))
set_option maxHeartbeats 4000000 in
set_option maxRecDepth 20000 in
theorem Qfi {P : Prg} {f fM fW fC fR fB fS t0 t1 : Nat} (b : Qf P f 82 [.tmp 4] (XA fM fW fC fR fB fS t0 t1)) (hM : QeZ P fM) (hW : Qdv P fW) (hC : Qd6 P fC) (hR : QkQ P fR) (hB : QiZ P fB) (hS : Qb0 P fS) : Qf0 P f := by
 intro e ⟨hr, o1, o2, o3, o4, o5⟩
 obtain ⟨⟨r1, r2, r3⟩, ⟨r4, r5⟩, r6⟩ := QD.1 hr
 have hd := Qfw (n := e.smp.length) r2
 have hm := QbL (n := e.smp.length) r2
 have hL := ZN e.rate
 have hL2 := QeQ r5
 have hmul := JS r2 r3 r1
 have hmul3 := Qwc hL hL2 r2 r3
 have hMo := hM e.ch e.bits r2 r3 r1
 have hWo := hW e.bits e.smp o3
 refine VC.of_acall (by simp [isDL, Xi, isD]) rfl (ACall.of_body b (by simp) ?_)
 simp only [Jf, ZI, il, bss, bs, shA] at hMo hWo ⊢
 unfold Qdk
 have hok : e.frs.length ≤ 1000 → okE e := fun h => ⟨r2, r3, h, o2, o3⟩
 simp (maxSteps := 4000000) (disch := omega) only [rq, simprocAttr, XA]
 refine X8.ndec (fun c1 => ?_) (fun c1 => ?_)
 case refine_2 => simp (maxSteps := 4000000) (disch := omega) only [rq, simprocAttr, Qdk]
 simp (maxSteps := 4000000) (disch := omega) only [rq, simprocAttr]
 refine Q4.vc hMo ?_
 simp (maxSteps := 4000000) (disch := omega) only [rq, simprocAttr]
 refine X8.ndec (fun c2 => ?_) (fun c2 => ?_)
 case refine_2 => simp (maxSteps := 4000000) (disch := omega) only [rq, simprocAttr, Qdk]
 simp (maxSteps := 4000000) (disch := omega) only [rq, simprocAttr]
 refine X8.dec (fun c3 => ?_) (fun c3 => ?_)
 case refine_2 => simp (maxSteps := 4000000) (disch := omega) only [rq, simprocAttr, Qdk, c3]
 simp (maxSteps := 4000000) (disch := omega) only [rq, simprocAttr, c3]
 refine X8.ndec (fun c4 => ?_) (fun c4 => ?_)
 case refine_2 => simp (maxSteps := 4000000) (disch := omega) only [rq, simprocAttr, Qdk]
 simp (maxSteps := 4000000) (disch := omega) only [rq, simprocAttr]
 refine J6.dec (fun c5 => ?_) (fun c5 => ?_)
 case refine_1 => simp (maxSteps := 4000000) (disch := omega) only [rq, simprocAttr, Qdk]
 simp (maxSteps := 4000000) (disch := omega) only [rq, simprocAttr]
 refine Qa.vc hWo ?_
 simp (maxSteps := 4000000) (disch := omega) only [rq, simprocAttr]
 refine J6.ndec (fun c6 => ?_) (fun c6 => ?_)
 case refine_1 => simp (maxSteps := 4000000) (disch := omega) only [rq, simprocAttr, Qdk, c6]
 simp (maxSteps := 4000000) (disch := omega) only [rq, simprocAttr]
 have hok : okE e := ⟨r2, r3, by omega, o2, o3⟩
 have hCo := hC e (Qd e.rate) hok (by omega) hL2
 have hfm := Qqa (n := e.frs.length) (L := Qd e.rate) (by omega) (by omega) hL2
 have hcn : 0 ≤ Qt e (Qd e.rate) ∧ Qt e (Qd e.rate) ≤ 2000000000 := by unfold Qt; omega
 have hRo := fun n => hR e n (Qt e (Qd e.rate)) r2 r3 hcn.1 hcn.2
 have hS1 := fun m => hS (List UInt8) e.frs bs (Qcx m) fB [] [.cell [.int .i64 m]] rfl rfl QP (by omega) (fun x _ => hB x m)
 simp only [Jf, ZI, il, bss, bs, shA] at hCo hRo hS1
 refine J6.dec (fun c7 => ?_) (fun c7 => ?_)
 ·simp (maxSteps := 4000000) (disch := omega) only [rq, simprocAttr]
  refine Q4.vc hCo ?_
  simp (maxSteps := 4000000) (disch := omega) only [rq, simprocAttr]
  refine Q4.vc (hRo _) ?_
  cases hv : Qa3 e.ch ((e.frs.length : Int) + 1) (Qt e (Qd e.rate)) with
  | false => simp (maxSteps := 4000000) (disch := omega) only [rq, simprocAttr, hv]
  | true =>
   simp (maxSteps := 4000000) (disch := omega) only [rq, simprocAttr]
   refine Qa.flat 1 (hS1 ((81 * Qd e.rate * e.ch + 7) / 8 + 4)) rfl (by simp [QT, QF, frzL, QE, isDL, isD, frzL_T _ (Q7 e.frs)]) ?_
   simp (maxSteps := 4000000) (disch := omega) only [rq, simprocAttr, hv]
 ·simp (maxSteps := 4000000) (disch := omega) only [rq, simprocAttr]
  refine Q4.vc hCo ?_
  simp (maxSteps := 4000000) (disch := omega) only [rq, simprocAttr]
  refine Q4.vc (hRo _) ?_
  cases hv : Qa3 e.ch (e.frs.length : Int) (Qt e (Qd e.rate)) with
  | false => simp (maxSteps := 4000000) (disch := omega) only [rq, simprocAttr, Int.add_zero, hv]
  | true =>
   simp (maxSteps := 4000000) (disch := omega) only [rq, simprocAttr]
   refine Qa.flat 1 (hS1 ((81 * Qd e.rate * e.ch + 7) / 8 + 4)) rfl (by simp [QT, QF, frzL, QE, isDL, isD, frzL_T _ (Q7 e.frs)]) ?_
   simp (maxSteps := 4000000) (disch := omega) only [rq, simprocAttr, Int.add_zero, hv]
def Zk (e : Enc) : Bool :=
 if e.err ≠ 0 then decide ((e.err = 18 ∨ e.err = 24) ∧ e.done = false ∧ (e.rest.length = 0 ∧ e.smp.length = 0 ∧ e.frs.length = 0) ∧ e.out.length = 0)
 else if e.done = true then decide ((e.rest.length = 0 ∧ e.smp.length = 0 ∧ e.frs.length = 0) ∧ e.out.length ≤ 100000)
 else Qdk e
def QU (e : Enc) : Int := if Qv e.ch e.bits e.rate e.pw = false ∨ Zk e = false then 8 else 0
def okC (e : Enc) : Prop := e.pw.length ≤ 100000 ∧ e.frs.length ≤ 100000 ∧ e.smp.length ≤ 400000 ∧ I32 e.smp ∧ e.rest.length ≤ 100000 ∧ e.out.length ≤ 1000000
def Qch (P : Prg) (f : Nat) : Prop := ∀ e : Enc, okC e → VC P f [Jf e] (.int .i64 (QU e))
set_option maxHeartbeats 4000000 in
set_option maxRecDepth 20000 in
theorem QhJ {P : Prg} {f fR fF t0 : Nat} (b : Qf P f 71 [.tmp 2] (Jj fR fF t0)) (hR : QiM P fR) (hF : Qf0 P fF) : Qch P f := by
 intro e ⟨o0, o1, o2, o3, o4, o5⟩
 have hRo := hR e.ch e.bits e.rate e.pw (by omega)
 refine VC.of_acall (by simp [isDL, Xi, isD]) rfl (ACall.of_body b (by simp) ?_)
 simp only [Jf, ZI, il, bss, bs, shA] at hRo ⊢
 simp (maxSteps := 4000000) (disch := omega) only [rq, simprocAttr, Jj]
 refine Qa.vc hRo ?_
 cases hr : Qv e.ch e.bits e.rate e.pw with
 | false => simp (maxSteps := 4000000) (disch := omega) only [rq, simprocAttr, QU, hr]
 | true =>
  have hz : QjP e.rate = Qd e.rate := by
   obtain ⟨_, h, _⟩ := QD.1 hr
   unfold QjP; rw [if_neg (by omega)]
  have hFo := hF e ⟨hr, by omega, o2, o3, by omega, by omega⟩
  simp only [Jf, ZI, il, bss, bs, shA] at hFo
  have e2 : QU e = if Zk e = false then 8 else 0 := by simp [QU, hr]
  by_cases h1 : e.err = 0
  ·cases hd : e.done with
   | false =>
    have e3 : Zk e = Qdk e := by simp [Zk, h1, hd]
    simp (maxSteps := 4000000) (disch := omega) only [rq, simprocAttr, h1, hd, hz]
    simp only [hd] at hFo
    rw [h1] at hFo
    refine Qa.vc hFo ?_
    cases hf : Qdk e <;> simp (maxSteps := 4000000) (disch := omega) only [rq, simprocAttr, e2, e3, hf]
   | true =>
    by_cases hE : e.rest.length = 0 ∧ e.smp.length = 0 ∧ e.frs.length = 0
    ·obtain ⟨q1, q2, q3⟩ := hE
     by_cases h3 : e.out.length ≤ 100000
     ·have e3 : Zk e = true := by simp [Zk, h1, hd, q1, q2, q3, h3]
      simp (maxSteps := 4000000) (disch := omega) only [rq, simprocAttr, h1, hd, e2, e3]
     ·have e3 : Zk e = false := by simp [Zk, h1, hd, q1, q2, q3, h3]
      simp (maxSteps := 4000000) (disch := omega) only [rq, simprocAttr, h1, hd, e2, e3]
    ·have e3 : Zk e = false := by
      unfold Zk
      rw [if_neg (by simp [h1]), if_pos hd, decide_eq_false_iff_not]
      exact fun h => hE h.1
     simp (maxSteps := 4000000) (disch := omega) only [rq, simprocAttr, h1, hd, e2, e3]
  ·by_cases hX : (e.err = 18 ∨ e.err = 24)
   case neg =>
    have e3 : Zk e = false := by simp only [Zk]; rw [if_pos h1, decide_eq_false_iff_not]; exact fun h => hX h.1
    simp (maxSteps := 4000000) (disch := omega) only [rq, simprocAttr, h1, e2, e3]
   have hlast : ∀ b : Bool, Zk e = b → (b = true ↔ (e.done = false ∧ (e.rest.length = 0 ∧ e.smp.length = 0 ∧ e.frs.length = 0) ∧ e.out.length = 0)) := by
    rintro b rfl; simp only [Zk]; rw [if_pos h1, decide_eq_true_eq]; exact ⟨fun h => h.2, fun h => ⟨hX, h⟩⟩
   cases hb : Zk e with
   | true =>
    obtain ⟨d1, ⟨q1, q2, q3⟩, q4⟩ := (hlast true hb).1 rfl
    rcases hX with h | h <;> simp (maxSteps := 4000000) (disch := omega) only [rq, simprocAttr, h1, h, d1, e2, hb]
   | false =>
    have hn : ¬ (e.done = false ∧ (e.rest.length = 0 ∧ e.smp.length = 0 ∧ e.frs.length = 0) ∧ e.out.length = 0) := fun h => by have := (hlast false hb).2 h; cases this
    cases hd : e.done with
    | true => rcases hX with h | h <;> simp (maxSteps := 4000000) (disch := omega) only [rq, simprocAttr, h1, h, hd, e2, hb]
    | false =>
     rw [hd] at hn
     by_cases hE : e.rest.length = 0 ∧ e.smp.length = 0 ∧ e.frs.length = 0
     ·have h4 : e.out.length ≠ 0 := fun h => hn ⟨rfl, hE, h⟩
      obtain ⟨q1, q2, q3⟩ := hE
      rcases hX with h | h <;> simp (maxSteps := 4000000) (disch := omega) only [rq, simprocAttr, h1, h, hd, e2, hb]
     ·rcases hX with h | h <;> simp (maxSteps := 4000000) (disch := omega) only [rq, simprocAttr, h1, h, hd, e2, hb]
def Qm7 (c b r : Int) (pw : List UInt8) : List AV := [.int .i64 c, .int .i64 b, .int .i64 r, .str pw, .emp true, .emp true, .emp true, .emp true, .bool false, .int .i64 0]
def Qs7 (c b r : Int) (pw : List UInt8) : AV := if Qv c b r pw = true then .tup [.agg (Qm7 c b r pw), .int .i64 0] else .tup [.agg (Qm7 0 0 0 []), .int .i64 2]
def Qrh (P : Prg) (f : Nat) : Prop := ∀ (c b r : Int) (pw : List UInt8), pw.length ≤ 100000 → VC P f [shA c b, .int .i64 r, .str pw] (Qs7 c b r pw)
theorem Qt3 (c b r : Int) (pw : List UInt8) : isD (Qs7 c b r pw) = true := by unfold Qs7; split <;> rfl
theorem Qlw {P : Prg} {f fR t0 t1 : Nat} (b : Qf P f 24 [.cell 6 t1, .tmp 7] (Qay fR t0 t1)) (ht : ZK P t1 = some (some 10)) (hR : QiM P fR) : Qrh P f := by
 intro c x r pw hp
 have hRo := hR c x r pw (by omega)
 refine VC.of_acall (by simp [isDL, isD, shA]) (Qt3 _ _ _ _) (ACall.of_body b (by simp) ?_)
 simp (maxSteps := 4000000) (disch := omega) only [rq, simprocAttr, Qay, shA]
 refine Qa.vc hRo ?_
 cases hr : Qv c x r pw with
 | true => simp (maxSteps := 4000000) (disch := omega) only [rq, simprocAttr, Qs7, Qm7, hr, ZL, ht]
 | false => simp (maxSteps := 4000000) (disch := omega) only [rq, simprocAttr, Qs7, Qm7, hr, ZL, ht]
theorem Qa9 {α : Type} (f : α → AV) : ∀ l : List α, (l.map fun x => [f x]).flatten = l.map f
 | [] => rfl
 | x :: l => by simp [Qa9 f l]
theorem QeS {L : List (List AV)} (h : ∀ c ∈ L, Qbw (.int .u8) c) : ∃ l : List UInt8, L.length = l.length ∧ AV.list L.length L.flatten = bs l := by
 obtain ⟨l, rfl, _⟩ := Qb9 (f := fun b : UInt8 => [AV.int .u8 b.toNat]) (q := fun _ => True) h (fun c hc => by
  simp only [Qbw] at hc
  obtain ⟨n, rfl, h1, h2⟩ := hc
  simp only [IntKind.min, IntKind.max, IntKind.signed, IntKind.bits] at h1 h2
  refine ⟨UInt8.ofNat n.toNat, ?_, trivial⟩
  simp at h1 h2
  simp; omega)
 exact ⟨l, by simp, by simp [bs, u8, Qa9]⟩
theorem Qj5 {K : IntKind} {L : List (List AV)} (h : ∀ c ∈ L, Qbw (.int K) c) : ∃ l : List Int, L.length = l.length ∧ AV.list L.length L.flatten = .list l.length (ks K l) ∧ ∀ x ∈ l, K.min ≤ x ∧ x ≤ K.max := by
 obtain ⟨l, rfl, h2⟩ := Qb9 (f := fun n : Int => [AV.int K n]) (q := fun x => K.min ≤ x ∧ x ≤ K.max) h (fun c hc => by
  simp only [Qbw] at hc
  obtain ⟨n, rfl, h1, h2⟩ := hc
  exact ⟨n, rfl, h1, h2⟩)
 exact ⟨l, by simp, by simp [ks, Qa9], h2⟩
def Qu6 (P : Program) (t : TypeId) : Bool := match P.underlying t with | some (.struct _) => true | _ => false
def Qu7 (P : Program) (t : TypeId) : Bool := match P.underlying t with | some (.array _ _) => true | _ => false
def Qv6 (P : Program) (t : TypeId) : Bool := match P.underlying t with | some (.slice _) => true | _ => false
theorem Qsq {P : Program} {t : TypeId} (h : Qu6 P t = true) : ∃ fs, P.underlying t = some (.struct fs) := by
 unfold Qu6 at h; split at h
 ·exact ⟨_, by assumption⟩
 ·cases h
theorem QvA {P : Program} {t : TypeId} (h : Qu7 P t = true) : ∃ n e, P.underlying t = some (.array n e) := by
 unfold Qu7 at h; split at h
 ·exact ⟨_, _, by assumption⟩
 ·cases h
theorem Qp3 {P : Program} {t : TypeId} (h : Qv6 P t = true) : ∃ e, P.underlying t = some (.slice e) := by
 unfold Qv6 at h; split at h
 ·exact ⟨_, by assumption⟩
 ·cases h
theorem Qql {L : List (List AV)} (h : ∀ c ∈ L, Qbw (.int .i32) c) : ∃ l : List Int, L.length = l.length ∧ AV.list L.length L.flatten = il l ∧ I32 l := by
 obtain ⟨l, h1, h2, h3⟩ := Qj5 h
 exact ⟨l, h1, h2, fun x hx => by have := h3 x hx; simpa [IntKind.min, IntKind.max, IntKind.signed, IntKind.bits] using this⟩
theorem QsB {L : List (List AV)} (h : ∀ c ∈ L, Qbw (.slice (.int .u8)) c) : ∃ l : List (List UInt8), L.length = l.length ∧ AV.list L.length L.flatten = bss l ∧ ∀ x ∈ l, x.length ≤ maxLen := by
 obtain ⟨l, rfl, h2⟩ := Qb9 (f := fun b : List UInt8 => [bs b]) (q := fun x => x.length ≤ maxLen) h (fun c hc => by
  simp only [Qbw] at hc
  obtain ⟨L', rfl, h1, h2⟩ := hc
  obtain ⟨l, h3, h4⟩ := QeS h2
  exact ⟨l, by rw [h4], by omega⟩)
 exact ⟨l, by simp, by simp [bss, Qa9], h2⟩
def Qvw : Sh := .tuple [.int .i64, .int .i64]
def Qvc : Sh := .tuple [Qvw, .int .i64, .str, .slice (.int .u8), .slice (.int .i32), .slice (.slice (.int .u8)), .slice (.int .u8), .bool, .int .i64]
theorem QgT {cs0 : List AV} (h : Qbw Qvw cs0) : ∃ c b : Int, cs0 = [.int .i64 c, .int .i64 b] := by
 simp only [Qvw, Qbw, FitsL] at h
 obtain ⟨_, _, rfl, ⟨c, rfl, _⟩, _, _, rfl, ⟨b, rfl, _⟩, rfl⟩ := h
 exact ⟨c, b, rfl⟩
theorem QvD {cs0 : List AV} (h : Qbw Qvc cs0) : ∃ e : Enc, cs0 = ZI e ∧ I32 e.smp := by
 simp only [Qvc, Qbw, FitsL] at h
 obtain ⟨_, _, rfl, h1, _, _, rfl, ⟨r, rfl, _⟩, _, _, rfl, ⟨p, rfl, _⟩, _, _, rfl, ⟨L1, rfl, _, h2⟩, _, _, rfl, ⟨L2, rfl, _, h3⟩, _, _, rfl, ⟨L3, rfl, _, h4⟩, _, _, rfl, ⟨L4, rfl, _, h5⟩, _, _, rfl, ⟨d, rfl⟩, _, _, rfl, ⟨x, rfl, _⟩, rfl⟩ := h
 obtain ⟨c, b, rfl⟩ := QgT h1
 obtain ⟨l1, _, e1⟩ := QeS (L := L1) (fun c hc => by simp only [Qbw]; exact h2 c hc)
 obtain ⟨l2, _, e2, hi⟩ := Qql (L := L2) (fun c hc => by simp only [Qbw]; exact h3 c hc)
 obtain ⟨l3, _, e3, _⟩ := QsB (L := L3) (fun c hc => by simp only [Qbw]; exact h4 c hc)
 obtain ⟨l4, _, e4⟩ := QeS (L := L4) (fun c hc => by simp only [Qbw]; exact h5 c hc)
 exact ⟨⟨c, b, r, p, l1, l2, l3, l4, d, x⟩, by simp [ZI, e1, e2, e3, e4], hi⟩
def w32 (x : Int) : Int := IntKind.i32.wrap x
theorem Qs1 (x : Int) : w32 x = (x + 2147483648) % 4294967296 - 2147483648 := by
 simp [w32, IntKind.wrap, IntKind.bits, IntKind.signed]; split <;> omega
theorem Qtw (a b : Int) : w32 (w32 a + w32 b) = w32 (a + b) := by simp only [Qs1]; omega
theorem QoT {a : Int} (h1 : -2147483648 ≤ a) (h2 : a ≤ 2147483647) : w32 a = a := J9 h1 h2
theorem QcC (a : Int) : -2147483648 ≤ w32 a ∧ w32 a ≤ 2147483647 := by simp only [Qs1]; omega
theorem QaV (x : Int) : IntKind.i32.wrap x = w32 x := rfl
theorem XY {l : List Int} (h : I32 l) (k : Nat) : -2147483648 ≤ l.getD k 0 ∧ l.getD k 0 ≤ 2147483647 := by
 rw [List.getD_eq_getElem?_getD]
 cases hk : l[k]? with
 | none => simp
 | some v => exact h v (List.mem_of_getElem? hk)
theorem Qtd {K : IntKind} {l : List Int} {k : Nat} (h : k < l.length) : (ks K l)[k]? = some (.int K (l.getD k 0)) := by
 simp [ks, List.getD_eq_getElem?_getD, List.getElem?_eq_getElem h]
structure Jr where
 sh : Int
 tp : List Int
 ps : List Int
def Qm (f : Jr) : List AV := .int .i64 f.sh :: (ks .i32 f.tp ++ ks .i32 f.ps)
def QbJ (f : Jr) : Prop := f.tp.length = 16 ∧ f.ps.length = 16 ∧ I32 f.tp ∧ I32 f.ps
theorem Zf {f : Jr} (h : QbJ f) : (Qm f).length = 33 := by
 obtain ⟨h1, h2, _⟩ := h
 simp [Qm, Qe, h1, h2]
theorem Zm (f : Jr) : (Qm f).all AV.one = true := by
 simp only [Qm, List.all_cons, List.all_append, JU]; rfl
theorem ZA (f : Jr) : isDL (Qm f) = true := by
 have : ∀ a b, isDL (ks .i32 a ++ ks .i32 b) = true := fun a b => by rw [Qfq]; exact QB _ _
 simp [Qm, isDL, isD, this]
theorem Qj6 {f : Jr} (h : QbJ f) : ((Qm f).drop 1).take 16 = ks .i32 f.tp := by
 obtain ⟨h1, h2, _⟩ := h
 simp only [Qm, List.drop_succ_cons, List.drop_zero]
 rw [List.take_left' (by simp [Qe, h1])]
theorem QgU {f : Jr} (h : QbJ f) : ((Qm f).drop 17).take 16 = ks .i32 f.ps := by
 obtain ⟨h1, h2, _⟩ := h
 simp only [Qm, List.drop_succ_cons]
 rw [List.drop_left' (by simp [Qe, h1]), List.take_of_length_le (by simp [Qe, h2])]
theorem QsD {f : Jr} (h : QbJ f) {k : Nat} (hk : k < 16) : (Qm f).drop (1 + k) = .int .i32 (f.tp.getD k 0) :: ((ks .i32 f.tp).drop (k + 1) ++ ks .i32 f.ps) := by
 obtain ⟨h1, h2, _⟩ := h
 rw [Nat.add_comm]
 simp only [Qm, List.drop_succ_cons]
 rw [List.drop_append_of_le_length (by simp [Qe, h1]; omega), QdV (by omega), ← Qa8]
 simp [List.getD_eq_getElem?_getD, List.getElem?_eq_getElem (show k < f.tp.length by omega)]
theorem Qqp {f : Jr} (h : QbJ f) {k : Nat} (hk : k < 16) : (Qm f).drop (17 + k) = .int .i32 (f.ps.getD k 0) :: (ks .i32 f.ps).drop (k + 1) := by
 obtain ⟨h1, h2, _⟩ := h
 rw [show 17 + k = (16 + k) + 1 by omega]
 simp only [Qm, List.drop_succ_cons]
 rw [← List.drop_drop, List.drop_left' (by simp [Qe, h1]), QdV (by omega), ← Qa8]
 simp [List.getD_eq_getElem?_getD, List.getElem?_eq_getElem (show k < f.ps.length by omega)]
theorem QlS {f : Jr} (h : QbJ f) {k : Nat} (hk : k < 16) (v : Int) : (Qm f).take (1 + k) ++ [.int .i32 v] ++ (Qm f).drop (1 + k + 1) = Qm { f with tp := f.tp.set k v } := by
 obtain ⟨h1, h2, _⟩ := h
 rw [Nat.add_comm 1 k]
 simp only [Qm, List.take_succ_cons, List.drop_succ_cons, List.cons_append]
 congr 1
 rw [List.take_append_of_le_length (by simp [Qe, h1]; omega), List.drop_append_of_le_length (by simp [Qe, h1]; omega), ← List.append_assoc]
 congr 1
 rw [List.set_eq_take_append_cons_drop, if_pos (by omega)]
 simp [ks]
theorem Qj7 {f : Jr} (h : QbJ f) {k : Nat} (hk : k < 16) (v : Int) : (Qm f).take (17 + k) ++ [.int .i32 v] ++ (Qm f).drop (17 + k + 1) = Qm { f with ps := f.ps.set k v } := by
 obtain ⟨h1, h2, _⟩ := h
 rw [show 17 + k = (16 + k) + 1 by omega]
 simp only [Qm, List.take_succ_cons, List.drop_succ_cons, List.cons_append]
 congr 1
 have e : (ks .i32 f.tp).length = 16 := by simp [Qe, h1]
 rw [List.take_append, List.take_of_length_le (by omega), e, show 16 + k + 1 = 16 + (k + 1) by omega, ← List.drop_drop, List.drop_left' e, show 16 + k - 16 = k by omega, List.append_assoc, List.append_assoc]
 congr 1
 rw [List.set_eq_take_append_cons_drop, if_pos (by omega)]
 simp [ks]
theorem QG {α : Type} {l : List α} {n : Nat} (h : l.length ≤ n) : l.take n = l := List.take_of_length_le h
def Qa0 (b : Int) : Int := if b = 16 then 9 else 10
def z16 : List Int := List.replicate 16 0
def QhO (b : Int) (t : List Int) : Jr := ⟨Qa0 b, t, z16⟩
def Qi3 : Jr := ⟨0, z16, z16⟩
def Qgc (b : Int) (t : List Int) : AV := if Z3 b = 0 then .tup [.agg (Qm Qi3), .int .i64 2] else .tup [.agg (Qm (QhO b t)), .int .i64 0]
def Qnv (P : Prg) (f : Nat) : Prop := ∀ (b : Int) (t : List Int), t.length = 16 → VC P f [.int .i64 b, .agg (ks .i32 t)] (Qgc b t)
theorem Qss (b : Int) (t : List Int) : isD (Qgc b t) = true := by
 unfold Qgc; split <;> simp [isD, isDL, ZA]
theorem Qb2 : Qm Qi3 = [.int .i64 0, .int .i32 0, .int .i32 0, .int .i32 0, .int .i32 0, .int .i32 0, .int .i32 0, .int .i32 0, .int .i32 0, .int .i32 0, .int .i32 0, .int .i32 0, .int .i32 0, .int .i32 0, .int .i32 0, .int .i32 0, .int .i32 0, .int .i32 0, .int .i32 0, .int .i32 0, .int .i32 0, .int .i32 0, .int .i32 0, .int .i32 0, .int .i32 0, .int .i32 0, .int .i32 0, .int .i32 0, .int .i32 0, .int .i32 0, .int .i32 0, .int .i32 0, .int .i32 0] := rfl
theorem QrN {P : Prg} {f t0 t1 : Nat} (b : Qf P f 18 [.cell 4 t1, .tmp 5] (XP t0 t1)) (ht : ZK P t1 = some (some 33)) : Qnv P f := by
 intro x t hl
 have hk : (ks .i32 t).length = 16 := by simp [Qe, hl]
 have h1 := JU .i32 t
 have tk16 : (ks .i32 t).take 16 = ks .i32 t := QG (by omega)
 refine VC.of_acall (by simp [isDL, isD, QB]) (Qss _ _) (ACall.of_body b (by simp) ?_)
 have fin : ∀ s : Int, .int .i64 s :: (ks .i32 t ++ [.int .i32 0, .int .i32 0, .int .i32 0, .int .i32 0, .int .i32 0, .int .i32 0, .int .i32 0, .int .i32 0, .int .i32 0, .int .i32 0, .int .i32 0, .int .i32 0, .int .i32 0, .int .i32 0, .int .i32 0, .int .i32 0]) = Qm ⟨s, t, z16⟩ := fun _ => rfl
 have hl33 : ∀ s : Int, (Qm ⟨s, t, z16⟩).length = 33 := fun s => by simp [Qm, Qe, hl, z16]
 have ho := fun s => Zm ⟨s, t, z16⟩
 have tk : ∀ s : Int, (Qm ⟨s, t, z16⟩).take 33 = Qm ⟨s, t, z16⟩ := fun s => QG (by rw [hl33]; omega)
 have st9 : ([] : List AV) ++ [.int .i64 9] ++ (Qm ⟨10, t, z16⟩).drop 1 = Qm ⟨9, t, z16⟩ := rfl
 have d9 : AV.int .i64 9 :: (Qm ⟨10, t, z16⟩).drop 1 = Qm ⟨9, t, z16⟩ := rfl
 rcases Za x with ⟨rfl, h⟩ | ⟨rfl, h⟩ | ⟨rfl, h⟩ | ⟨h2, h3, h4, h⟩
 ·simp (maxSteps := 4000000) (disch := omega) only [rq, simprocAttr, XP, Qgc, h, hk, h1, tk16, fin, hl33, ho, tk, ZL, ht, QhO, Qa0]
 ·simp (maxSteps := 4000000) (disch := omega) only [rq, simprocAttr, XP, Qgc, h, hk, h1, tk16, fin, hl33, ho, tk, ZL, ht, QhO, Qa0, d9]
 ·simp (maxSteps := 4000000) (disch := omega) only [rq, simprocAttr, XP, Qgc, h, hk, h1, tk16, fin, hl33, ho, tk, ZL, ht, QhO, Qa0]
 ·simp (maxSteps := 4000000) (disch := omega) only [rq, simprocAttr, XP, Qgc, h, hk, h1, tk16, fin, hl33, ho, tk, ZL, ht, Qb2]
def Qrz (s : Int) : Int := if s = 9 ∨ s = 10 then 0 else 8
def Qdw (P : Prg) (f : Nat) : Prop := ∀ x : Jr, QbJ x → VC P f [.agg (Qm x)] (.int .i64 (Qrz x.sh))
theorem QvI : Qrz 9 = 0 := rfl
theorem QuK : Qrz 10 = 0 := rfl
def Qtm (a b : List Int) : Nat → Int
 | 0 => 0
 | k + 1 => Qtm a b k + a.getD k 0 * b.getD k 0
def Qdc (s : Int) : Int := if s = 9 then 512 else 1024
def Qp8 (f : Jr) : Int := w32 (Qdc f.sh / 2 + Qtm f.tp f.ps 16) / Qdc f.sh
def QiJ (P : Prg) (f : Nat) : Prop := ∀ x : Jr, QbJ x → x.sh = 9 ∨ x.sh = 10 → VC P f [.agg (Qm x)] (.tup [.int .i32 (Qp8 x), .int .i64 0])
theorem QtM : Qh true .i32 1 8 = some (.int .i32 256) := rfl
theorem QtL : Qh true .i32 1 9 = some (.int .i32 512) := rfl
theorem QtH (s : Int) : Qh false .i32 s 9 = some (.int .i32 (s / 512)) := by
 show some (AV.int .i32 (s.fdiv 512)) = _
 rw [Int.fdiv_eq_ediv_of_nonneg _ (by omega)]
theorem Qr1 (s : Int) : Qh false .i32 s 10 = some (.int .i32 (s / 1024)) := by
 show some (AV.int .i32 (s.fdiv 1024)) = _
 rw [Int.fdiv_eq_ediv_of_nonneg _ (by omega)]
theorem QnH {P : Prg} {f fC t0 : Nat} (b : Qf P f 36 [.tmp 2, .tmp 3] (Qbe fC t0)) (hC : Qdw P fC) : QiJ P f := by
 intro x hx hs
 have l33 := Zf hx
 have tk : (Qm x).take 33 = Qm x := QG (by omega)
 have ho := Zm x
 have e1 := Qj6 hx
 have e0 : (Qm x).drop 0 = .int .i64 x.sh :: (ks .i32 x.tp ++ ks .i32 x.ps) := rfl
 have ht : Qrz x.sh = 0 := by simp [Qrz, hs]
 have hl := hx.1
 refine VC.of_acall (by simp [isDL, isD, ZA]) rfl (ACall.of_body b (by simp) ?_)
 simp (maxSteps := 4000000) (disch := omega) only [rq, simprocAttr, Qbe, l33, tk, ho]
 refine Qa.vc (hC x hx) ?_
 rcases hs with h | h
 all_goals
  have z0 : w32 (Qdc x.sh / 2 + Qtm x.tp x.ps 0) = Qdc x.sh / 2 := by simp only [Qtm, Int.add_zero]; exact QoT (by simp [Qdc, h]) (by simp [Qdc, h])
  have z1 : Qdc x.sh = 512 ∧ x.sh = 9 ∨ Qdc x.sh = 1024 ∧ x.sh = 10 := by simp [Qdc, h]
  simp (maxSteps := 4000000) (disch := omega) only [rq, simprocAttr, l33, tk, ho, QvI, QuK, e1, ↓e0, h, QtM, QtL]
  refine QN.by (ι := Nat) (fun k => ⟨[(19, .int .i64 k), (18, .agg (ks .i32 x.tp)), (5, .int .i32 (w32 (Qdc x.sh / 2 + Qtm x.tp x.ps k))), (1, .ref 0 1 0)], [⟨t0, 33, 1, Qm x, 0⟩]⟩) (fun k => k ≤ 16) (fun k => 16 - k) 0 (Le.slots (by rw [z0]; simp [Am.look, h, Qdc])) (by omega) ?_
  intro k hk
  by_cases hlt : k < 16
  ·have e2 := Qqp hx hlt
   have e3 := Qtd (K := .i32) (l := x.tp) (k := k) (by omega)
   have e4 : w32 (w32 (Qdc x.sh / 2 + Qtm x.tp x.ps k) + w32 (x.tp.getD k 0 * x.ps.getD k 0)) = w32 (Qdc x.sh / 2 + Qtm x.tp x.ps (k + 1)) := by
    rw [Qtw]; simp only [Qtm]; congr 1; omega
   simp (maxSteps := 4000000) (disch := omega) only [rq, simprocAttr, l33, e2, e3, QaV, e4]
   exact ⟨k + 1, by omega, by omega, Le.slots (by simp [Am.look])⟩
  ·have e : k = 16 := by omega
   subst e
   simp (maxSteps := 4000000) (disch := omega) only [rq, simprocAttr, ↓e0, h, QtH, Qr1, Qp8, Qdc]
theorem QnI {P : Prg} {f t0 : Nat} (b : Qf P f 11 [.tmp 2] (Xx t0)) : Qdw P f := by
 intro x hx
 have l33 := Zf hx
 have ho := Zm x
 have e0 : (Qm x).drop 0 = .int .i64 x.sh :: (ks .i32 x.tp ++ ks .i32 x.ps) := rfl
 refine VC.of_acall (by simp [isDL, isD, ZA]) rfl (ACall.of_body b (by simp) ?_)
 by_cases h9 : x.sh = 9
 ·simp (maxSteps := 4000000) (disch := omega) only [rq, simprocAttr, Xx, l33, ho, ↓e0, h9, Qrz]
 by_cases h10 : x.sh = 10
 ·simp (maxSteps := 4000000) (disch := omega) only [rq, simprocAttr, Xx, l33, ho, ↓e0, h10, Qrz]
 ·simp (maxSteps := 4000000) (disch := omega) only [rq, simprocAttr, Xx, l33, ho, ↓e0, Qrz]
def Qlf (i : Nat) : Int := if i = 0 then 4 else if i < 4 then 2 else 1
def QmB (P : Prg) (f : Nat) : Prop := ∀ i : Nat, VC P f [.int .i64 i] (.int .i32 (Qlf i))
theorem Qo7 {P : Prg} {f : Nat} (b : Qf P f 9 [.tmp 2] X9) : QmB P f := by
 intro i
 refine VC.of_acall rfl rfl (ACall.of_body b (by simp) ?_)
 by_cases h0 : i = 0
 ·subst h0; simp (maxSteps := 4000000) (disch := omega) only [rq, simprocAttr, X9, Qlf, Int.natCast_zero]
 by_cases h1 : i < 4
 ·simp (maxSteps := 4000000) (disch := omega) only [rq, simprocAttr, X9, Qlf, h0]
 ·simp (maxSteps := 4000000) (disch := omega) only [rq, simprocAttr, X9, Qlf, h0]
def sgn (x : Int) : Int := if x < 0 then -1 else if 0 < x then 1 else 0
def QrM (x : Jr) (w : Int) (k : Nat) : Int := w32 (x.tp.getD k 0 + Qlf k * sgn (x.ps.getD k 0) * sgn w)
def XH (x : Jr) (w : Int) (k : Nat) : List Int := (List.range 16).map fun i => if i < k then QrM x w i else x.tp.getD i 0
def lf (x : Jr) (w : Int) (k : Nat) : Jr := { x with tp := XH x w k }
def Qaf (x : Jr) (w : Int) : Jr := lf x w 16
theorem QnX {l : List Int} (h : l.length = 16) : (List.range 16).map (fun i => l.getD i 0) = l := by
 apply List.ext_getElem (by simp [h])
 intro i h1 h2
 simp [List.getD_eq_getElem?_getD, List.getElem?_eq_getElem h2]
theorem QpW (x : Jr) (w : Int) (k : Nat) : (XH x w k).length = 16 := by simp [XH]
theorem QgO {x : Jr} (h : QbJ x) (w : Int) : XH x w 0 = x.tp := by
 have := QnX h.1
 simpa [XH] using this
theorem Qn3 (x : Jr) (w : Int) {k : Nat} (hk : k < 16) : (XH x w k).getD k 0 = x.tp.getD k 0 := by
 simp [XH, List.getD_eq_getElem?_getD, hk]
theorem QpV (x : Jr) (w : Int) {k : Nat} (hk : k < 16) : (XH x w k).set k (QrM x w k) = XH x w (k + 1) := by
 apply List.ext_getElem (by simp [XH])
 intro i h1 h2
 rw [List.getElem_set]
 simp only [XH, List.getElem_map, List.getElem_range]
 by_cases e : k = i
 ·subst e; simp
 ·rw [if_neg e]
  by_cases h : i < k
  ·rw [if_pos h, if_pos (by omega)]
  ·rw [if_neg h, if_neg (by omega)]
theorem QgP (x : Jr) (w : Int) {k : Nat} (h : QrM x w k = x.tp.getD k 0) : XH x w (k + 1) = XH x w k := by
 simp only [XH]
 apply List.map_congr_left
 intro i _
 by_cases e : i = k
 ·subst e; simp [h]
 ·by_cases h : i < k
  ·rw [if_pos h, if_pos (by omega)]
  ·rw [if_neg h, if_neg (by omega)]
theorem Qrw {x : Jr} (h : QbJ x) (w : Int) (k : Nat) : I32 (XH x w k) := by
 intro v hv
 simp only [XH, List.mem_map] at hv
 obtain ⟨i, _, rfl⟩ := hv
 split
 ·exact QcC _
 ·exact XY h.2.2.1 i
theorem QjL {x : Jr} (h : QbJ x) (w : Int) (k : Nat) : QbJ (lf x w k) := ⟨QpW x w k, h.2.1, Qrw h w k, h.2.2.2⟩
theorem QeO {x : Jr} (h : QbJ x) (w : Int) : QbJ (Qaf x w) := QjL h w 16
theorem Qsk {x : Jr} (h : QbJ x) : Qaf x 0 = x := by
 have key : ∀ k, XH x 0 k = x.tp := fun k => by
  induction k with
  | zero => exact QgO h 0
  | succ k ih =>
   rw [QgP x 0, ih]
   have := XY h.2.2.1 k
   simp only [QrM, sgn]
   simp
   exact QoT (by simpa using this.1) (by simpa using this.2)
 simp [Qaf, lf, key]
def QiI (P : Prg) (f : Nat) : Prop := ∀ (x : Jr) (w : Int), QbJ x → x.sh = 9 ∨ x.sh = 10 → VC P f [.agg (Qm x), .int .i32 w] (.tup [.agg (Qm (Qaf x w)), .int .i64 0])
theorem Qo6 {s : Int} (h : s = 9 ∨ s = 10) : Qrz s = 0 := by simp [Qrz, h]
theorem QnG {P : Prg} {f fC fS t0 : Nat} (b : Qf P f 53 [.cell 4 t0, .tmp 5] (Qbd fC fS t0)) (ht : ZK P t0 = some (some 33)) (hC : Qdw P fC) (hS : QmB P fS) : QiI P f := by
 intro x w hx hs
 have l33 := Zf hx
 have tk : (Qm x).take 33 = Qm x := QG (by omega)
 have ho := Zm x
 have hc := Qo6 hs
 have pp := QgU hx
 have lw := Zf (QeO hx w)
 have tkw : (Qm (Qaf x w)).take 33 = Qm (Qaf x w) := QG (by omega)
 have how := Zm (Qaf x w)
 refine VC.of_acall (by simp [isDL, isD, ZA]) (by simp [isD, isDL, ZA]) (ACall.of_body b (by simp) ?_)
 simp (maxSteps := 4000000) (disch := omega) only [rq, simprocAttr, Qbd, l33, tk, ho]
 refine Qa.vc (hC x hx) ?_
 by_cases hw : w = 0
 ·subst hw
  have e := Qsk hx
  simp (maxSteps := 4000000) (disch := omega) only [rq, simprocAttr, l33, tk, ho, hc, ZL, ht, e]
 simp (maxSteps := 4000000) (disch := omega) only [rq, simprocAttr, l33, tk, ho, hc, pp]
 refine QN.by (ι := Nat) (fun k => ⟨[(20, .int .i64 k), (19, .agg (ks .i32 x.ps)), (4, .ref 1 1 0), (2, .ref 0 1 0), (1, .int .i32 w), (5, .int .i64 0)], [⟨t0, 33, 1, Qm (lf x w k), 0⟩, ⟨t0, 33, 1, Qm Qi3, 0⟩]⟩) (fun k => k ≤ 16) (fun k => 16 - k) 0 (by rw [show lf x w 0 = x by simp [lf, QgO hx]]; exact Le.slots (by simp [Am.look])) (by omega) ?_
 intro k hk
 by_cases hlt : k < 16
 ·have hok := QjL hx w k
  have e1 := Qtd (K := .i32) (l := x.ps) (k := k) (by have := hx.2.1; omega)
  have e2 := QsD hok hlt
  have e3 := fun v => QlS hok hlt v
  have e4 := Qn3 x w hlt
  have e5 := Zf hok
  have hu := QpV x w hlt
  have hp := XY hx.2.2.2 k
  have htp := XY hx.2.2.1 k
  have ef : ∀ v, ({ lf x w k with tp := (lf x w k).tp.set k v } : Jr) = { x with tp := (XH x w k).set k v } := fun _ => rfl
  have e7 : (lf x w k).tp.getD k 0 = x.tp.getD k 0 := e4
  by_cases p0 : x.ps.getD k 0 = 0
  ·have e6 := QgP x w (k := k) (by simp only [QrM, p0, sgn]; simp; exact QoT (by simpa using htp.1) (by simpa using htp.2))
   simp (maxSteps := 4000000) (disch := omega) only [rq, simprocAttr, e1, p0]
   exact ⟨k + 1, by omega, by omega, by rw [show lf x w (k + 1) = lf x w k by simp [lf, e6]]; exact Le.slots (by simp [Am.look])⟩
  ·by_cases hsame : (x.ps.getD k 0 < 0 ↔ w < 0)
   ·have e6 : QrM x w k = w32 (x.tp.getD k 0 + Qlf k) := by
     simp only [QrM, sgn]; congr 1
     by_cases q : w < 0
     ·rw [if_pos q, if_pos (hsame.2 q)]; omega
     ·rw [if_neg q, if_neg (fun h => q (hsame.1 h)), if_pos (by omega), if_pos (by omega)]; omega
    rw [e6] at hu
    by_cases q : w < 0
    ·have q2 := hsame.2 q
     simp (maxSteps := 4000000) (disch := omega) only [rq, simprocAttr, e1, e2, e7]
     refine Q4.vc (hS k) ?_
     simp (maxSteps := 4000000) (disch := omega) only [rq, simprocAttr, e3, e5, QaV, ef, hu]
     exact ⟨k + 1, by omega, by omega, Le.slots (by simp [Am.look])⟩
    ·have q2 : ¬ x.ps.getD k 0 < 0 := fun h => q (hsame.1 h)
     simp (maxSteps := 4000000) (disch := omega) only [rq, simprocAttr, e1, e2, e7]
     refine Q4.vc (hS k) ?_
     simp (maxSteps := 4000000) (disch := omega) only [rq, simprocAttr, e3, e5, QaV, ef, hu]
     exact ⟨k + 1, by omega, by omega, Le.slots (by simp [Am.look])⟩
   ·have e6 : QrM x w k = w32 (x.tp.getD k 0 - Qlf k) := by
     simp only [QrM, sgn]; congr 1
     by_cases q : w < 0
     ·rw [if_pos q, if_neg (fun h => hsame ⟨fun _ => q, fun _ => h⟩), if_pos (by omega)]; omega
     ·rw [if_neg q, if_pos (Classical.byContradiction fun h => hsame ⟨fun h' => absurd h' h, fun h' => absurd h' q⟩), if_pos (by omega)]; omega
    rw [e6] at hu
    by_cases q : w < 0
    ·have q2 : ¬ x.ps.getD k 0 < 0 := fun h => hsame ⟨fun _ => q, fun _ => h⟩
     simp (maxSteps := 4000000) (disch := omega) only [rq, simprocAttr, e1, e2, e7]
     refine Q4.vc (hS k) ?_
     simp (maxSteps := 4000000) (disch := omega) only [rq, simprocAttr, e3, e5, QaV, ef, hu]
     exact ⟨k + 1, by omega, by omega, Le.slots (by simp [Am.look])⟩
    ·have q2 : x.ps.getD k 0 < 0 := Classical.byContradiction fun h => hsame ⟨fun h' => absurd h' h, fun h' => absurd h' q⟩
     simp (maxSteps := 4000000) (disch := omega) only [rq, simprocAttr, e1, e2, e7]
     refine Q4.vc (hS k) ?_
     simp (maxSteps := 4000000) (disch := omega) only [rq, simprocAttr, e3, e5, QaV, ef, hu]
     exact ⟨k + 1, by omega, by omega, Le.slots (by simp [Am.look])⟩
 ·have e : k = 16 := by omega
  subst e
  have hF : lf x w 16 = Qaf x w := rfl
  rw [hF]
  simp (maxSteps := 4000000) (disch := omega) only [rq, simprocAttr, lw, tkw, how, ZL, ht, Qb2]
def Qgh (x : Jr) (v : Int) : Jr := { x with ps := v :: x.ps.take 15 }
theorem QpN {x : Jr} (h : QbJ x) {v : Int} (hv : -2147483648 ≤ v ∧ v ≤ 2147483647) : QbJ (Qgh x v) := by
 obtain ⟨h1, h2, h3, h4⟩ := h
 refine ⟨h1, by simp [Qgh, h2], h3, fun y hy => ?_⟩
 simp only [Qgh, List.mem_cons] at hy
 rcases hy with rfl | hy
 ·exact hv
 ·exact h4 y (List.mem_of_mem_take hy)
def QmC (P : Prg) (f : Nat) : Prop := ∀ (x : Jr) (v : Int), QbJ x → x.sh = 9 ∨ x.sh = 10 → VC P f [.agg (Qm x), .int .i32 v] (.tup [.agg (Qm (Qgh x v)), .int .i64 0])
theorem Qo8 {P : Prg} {f fC t0 : Nat} (b : Qf P f 22 [.cell 4 t0, .tmp 5] (QbV fC t0)) (ht : ZK P t0 = some (some 33)) (hC : Qdw P fC) : QmC P f := by
 intro x v hx hs
 have l33 := Zf hx
 have tk : (Qm x).take 33 = Qm x := QG (by omega)
 have ho := Zm x
 have hc := Qo6 hs
 have pp := QgU hx
 have h16 : (ks .i32 x.ps).length = 16 := by simp [Qe, hx.2.1]
 have o16 := JU .i32 x.ps
 refine VC.of_acall (by simp [isDL, isD, ZA]) (by simp [isD, isDL, ZA]) (ACall.of_body b (by simp) ?_)
 simp (maxSteps := 4000000) (disch := omega) only [rq, simprocAttr, QbV, l33, tk, ho]
 refine Qa.vc (hC x hx) ?_
 have hm : Nat.min 16 15 = 15 := rfl
 let y : Jr := { x with ps := x.ps.getD 0 0 :: x.ps.take 15 }
 have hy : QbJ y := QpN hx (XY hx.2.2.2 0)
 have hcp : (Qm x).take 18 ++ (ks .i32 x.ps).take 15 ++ (Qm x).drop 33 = Qm y := by
  have e1 : (Qm x).drop 33 = [] := List.drop_eq_nil_of_le (by omega)
  have e2 : (ks .i32 x.tp).length = 16 := by simp [Qe, hx.1]
  have e3 : (ks .i32 x.ps).take 1 = [.int .i32 (x.ps.getD 0 0)] := by
   have h1 : 0 < x.ps.length := by have := hx.2.1; omega
   match hps : x.ps, h1 with
   | a :: l, _ => rfl
  rw [e1, List.append_nil]
  simp only [Qm, List.take_succ_cons, List.cons_append, y]
  congr 1
  rw [List.take_append, List.take_of_length_le (by omega), e2, e3, List.append_assoc, QpZ]
  rfl
 have hset : (Qm y).take 17 ++ [.int .i32 v] ++ (Qm y).drop 18 = Qm (Qgh x v) := Qj7 hy (k := 0) (by omega) v
 have ly := Zf hy
 have lp : (Qm (Qgh x v)).length = 33 := by rw [← hset]; simp [ly]
 have tkp : (Qm (Qgh x v)).take 33 = Qm (Qgh x v) := QG (by omega)
 have op := Zm (Qgh x v)
 simp (maxSteps := 4000000) (disch := omega) only [rq, simprocAttr, l33, tk, ho, hc, pp, h16, o16, hm, hcp, hset, ly, lp, tkp, op, ZL, ht, Qb2]
def Qat (x : Jr) (v y : Int) : Jr := Qgh (Qaf x y) v
theorem Qfk {x : Jr} (h : QbJ x) {v : Int} (hv : -2147483648 ≤ v ∧ v ≤ 2147483647) (y : Int) : QbJ (Qat x v y) := QpN (QeO h y) hv
def QfW (P : Prg) (f : Nat) : Prop := ∀ (x : Jr) (v y : Int), QbJ x → x.sh = 9 ∨ x.sh = 10 → -2147483648 ≤ v ∧ v ≤ 2147483647 → VC P f [.agg (Qm x), .int .i32 v, .int .i32 y] (.agg (Qm (Qat x v y)))
theorem Qn2 {P : Prg} {f fL fP t0 : Nat} (b : Qf P f 20 [.cell 6 t0] (Qbf fL fP t0)) (ht : ZK P t0 = some (some 33)) (hL : QiI P fL) (hP : QmC P fP) : QfW P f := by
 intro x v y hx hs hv
 have l1 := Zf hx
 have t1 : (Qm x).take 33 = Qm x := QG (by omega)
 have o1 := Zm x
 have l2 := Zf (QeO hx y)
 have t2 : (Qm (Qaf x y)).take 33 = Qm (Qaf x y) := QG (by omega)
 have o2 := Zm (Qaf x y)
 have l3 := Zf (Qfk hx hv y)
 have t3 : (Qm (Qat x v y)).take 33 = Qm (Qat x v y) := QG (by omega)
 have o3 := Zm (Qat x v y)
 have d1 : (Qm x).drop 33 = [] := List.drop_eq_nil_of_le (by omega)
 have d2 : (Qm (Qaf x y)).drop 33 = [] := List.drop_eq_nil_of_le (by omega)
 refine VC.of_acall (by simp [isDL, isD, ZA]) (by simp [isD, ZA]) (ACall.of_body b (by simp) ?_)
 simp (maxSteps := 4000000) (disch := omega) only [rq, simprocAttr, Qbf, l1, t1, o1]
 refine Qa.vc (hL x y hx hs) ?_
 simp (maxSteps := 4000000) (disch := omega) only [rq, simprocAttr, l1, t1, o1, l2, t2, o2, d1]
 refine Qa.vc (hP (Qaf x y) v (QeO hx y) hs) ?_
 rw [← Qat]
 simp (maxSteps := 4000000) (disch := omega) only [rq, simprocAttr, l1, t1, o1, l2, t2, o2, l3, t3, o3, d1, d2, ZL, ht, Qb2]
def Qp9 (x : Jr) (v : Int) : Int := w32 (v - Qp8 x)
def QvC (x : Jr) (v : Int) : Jr := Qat x v (Qp9 x v)
def Qd4 (P : Prg) (f : Nat) : Prop := ∀ (x : Jr) (v : Int), QbJ x → x.sh = 9 ∨ x.sh = 10 → -2147483648 ≤ v ∧ v ≤ 2147483647 → VC P f [.agg (Qm x), .int .i32 v] (.tup [.int .i32 (Qp9 x v), .agg (Qm (QvC x v)), .int .i64 0])
theorem QlB {P : Prg} {f fG fB t0 : Nat} (b : Qf P f 27 [.tmp 4, .cell 5 t0, .tmp 6] (Qaz fG fB t0)) (ht : ZK P t0 = some (some 33)) (hG : QiJ P fG) (hB : QfW P fB) : Qd4 P f := by
 intro x v hx hs hv
 have l1 := Zf hx
 have t1 : (Qm x).take 33 = Qm x := QG (by omega)
 have o1 := Zm x
 have l3 := Zf (Qfk hx hv (Qp9 x v))
 have t3 : (Qm (Qat x v (Qp9 x v))).take 33 = Qm (Qat x v (Qp9 x v)) := QG (by omega)
 have o3 := Zm (Qat x v (Qp9 x v))
 refine VC.of_acall (by simp [isDL, isD, ZA]) (by simp [isD, isDL, ZA]) (ACall.of_body b (by simp) ?_)
 simp (maxSteps := 4000000) (disch := omega) only [rq, simprocAttr, Qaz, l1, t1, o1]
 refine Qa.vc (hG x hx hs) ?_
 simp (maxSteps := 4000000) (disch := omega) only [rq, simprocAttr, l1, t1, o1, QaV]
 refine Qa.vc (hB x v (Qp9 x v) hx hs hv) ?_
 simp only [Qp9] at l3 t3 o3
 simp (maxSteps := 4000000) (disch := omega) only [rq, simprocAttr, l1, t1, o1, l3, t3, o3, ZL, ht, Qb2, QvC, Qp9]
def Qek (b last : Int) : Int := if b = 8 then 15 * last / 16 else 31 * last / 32
def QiU (P : Prg) (f : Nat) : Prop := ∀ b : Int, Z3 b ≠ 0 → VC P f [.int .i64 b] (.tup [.int .i64 (if b = 8 then 4 else 5), .int .i64 0])
theorem QlO {P : Prg} {f : Nat} (b : Qf P f 10 [.tmp 2, .tmp 3] Xa) : QiU P f := by
 intro x hx
 refine VC.of_acall rfl rfl (ACall.of_body b (by simp) ?_)
 rcases Za x with ⟨rfl, h⟩ | ⟨rfl, h⟩ | ⟨rfl, h⟩ | ⟨h2, h3, h4, h⟩
 ·simp (maxSteps := 4000000) (disch := omega) only [rq, simprocAttr, Xa]
 ·simp (maxSteps := 4000000) (disch := omega) only [rq, simprocAttr, Xa]
 ·simp (maxSteps := 4000000) (disch := omega) only [rq, simprocAttr, Xa]
 ·exact absurd h hx
theorem QtK {x : Int} (h : -2147483648 ≤ x ∧ x ≤ 2147483647) : Qh true .i64 x 4 = some (.int .i64 (x * 16)) := by
 show some (AV.int .i64 (IntKind.i64.wrap (x * 16))) = _
 rw [QaT (by omega) (by omega)]
theorem QtJ {x : Int} (h : -2147483648 ≤ x ∧ x ≤ 2147483647) : Qh true .i64 x 5 = some (.int .i64 (x * 32)) := by
 show some (AV.int .i64 (IntKind.i64.wrap (x * 32))) = _
 rw [QaT (by omega) (by omega)]
theorem QtG (x : Int) : Qh false .i64 x 4 = some (.int .i64 (x / 16)) := by
 show some (AV.int .i64 (x.fdiv 16)) = _
 rw [Int.fdiv_eq_ediv_of_nonneg _ (by omega)]
theorem QtF (x : Int) : Qh false .i64 x 5 = some (.int .i64 (x / 32)) := by
 show some (AV.int .i64 (x.fdiv 32)) = _
 rw [Int.fdiv_eq_ediv_of_nonneg _ (by omega)]
def QiT (P : Prg) (f : Nat) : Prop := ∀ (b l : Int), -2147483648 ≤ l ∧ l ≤ 2147483647 → VC P f [.int .i64 (if b = 8 then 4 else 5), .int .i32 l] (.int .i32 (Qek b l))
theorem QlN {P : Prg} {f : Nat} (b : Qf P f 16 [.tmp 4] X3) : QiT P f := by
 intro x l hl
 refine VC.of_acall rfl rfl (ACall.of_body b (by simp) ?_)
 have e1 : l * 16 - l = 15 * l := by omega
 have e2 : l * 32 - l = 31 * l := by omega
 have a := QtK hl
 have c := QtJ hl
 by_cases h : x = 8
 ·simp (maxSteps := 4000000) (disch := omega) only [rq, simprocAttr, X3, h, Qek, a, QtG, e1]
 ·simp (maxSteps := 4000000) (disch := omega) only [rq, simprocAttr, X3, if_neg h, Qek, c, QtF, e2]
def QiV (P : Prg) (f : Nat) : Prop := ∀ (b l : Int), Z3 b ≠ 0 → -2147483648 ≤ l ∧ l ≤ 2147483647 → VC P f [.int .i64 b, .int .i32 l] (.tup [.int .i32 (Qek b l), .int .i64 0])
theorem QlP {P : Prg} {f fS fg : Nat} (b : Qf P f 19 [.tmp 4, .tmp 5] (QaB fS fg)) (hS : QiU P fS) (hg : QiT P fg) : QiV P f := by
 intro x l hx hl
 refine VC.of_acall rfl rfl (ACall.of_body b (by simp) ?_)
 simp (maxSteps := 4000000) (disch := omega) only [rq, simprocAttr, QaB]
 refine Qa.vc (hS x hx) ?_
 simp (maxSteps := 4000000) (disch := omega) only [rq, simprocAttr]
 refine Qa.vc (hg x l hl) ?_
 simp (maxSteps := 4000000) (disch := omega) only [rq, simprocAttr]
structure JJ where
 bits : Int
 last : Int
 fl : Jr
def Zt (c : JJ) : List AV := .int .i64 c.bits :: .int .i32 c.last :: Qm c.fl
def Qs6 (c : JJ) : Prop := Z3 c.bits ≠ 0 ∧ c.fl.sh = Qa0 c.bits ∧ QbJ c.fl ∧ (-2147483648 ≤ c.last ∧ c.last ≤ 2147483647)
def QcU : JJ := ⟨0, 0, Qi3⟩
theorem XZ {c : JJ} (h : QbJ c.fl) : (Zt c).length = 35 := by simp [Zt, Zf h]
theorem Qak (c : JJ) : (Zt c).all AV.one = true := by simp [Zt, AV.one, Zm]
theorem Qdi (c : JJ) : isDL (Zt c) = true := by simp [Zt, isDL, isD, ZA]
theorem Qr2 (b : Int) : Qa0 b = 9 ∨ Qa0 b = 10 := by unfold Qa0; split <;> simp
theorem QpO {b : Int} {t : List Int} (h1 : t.length = 16) (h2 : I32 t) : QbJ (QhO b t) := ⟨h1, by simp [QhO, z16], h2, fun x hx => by simp [QhO, z16] at hx; omega⟩
theorem QeF : Zt QcU = [.int .i64 0, .int .i32 0, .int .i64 0, .int .i32 0, .int .i32 0, .int .i32 0, .int .i32 0, .int .i32 0, .int .i32 0, .int .i32 0, .int .i32 0, .int .i32 0, .int .i32 0, .int .i32 0, .int .i32 0, .int .i32 0, .int .i32 0, .int .i32 0, .int .i32 0, .int .i32 0, .int .i32 0, .int .i32 0, .int .i32 0, .int .i32 0, .int .i32 0, .int .i32 0, .int .i32 0, .int .i32 0, .int .i32 0, .int .i32 0, .int .i32 0, .int .i32 0, .int .i32 0, .int .i32 0, .int .i32 0] := rfl
def QdN (b : Int) (t : List Int) : JJ := ⟨b, 0, QhO b t⟩
def Qop (b : Int) (t : List Int) : AV := if Z3 b = 0 then .tup [.agg (Zt QcU), .int .i64 2] else .tup [.agg (Zt (QdN b t)), .int .i64 0]
def Qrq (P : Prg) (f : Nat) : Prop := ∀ (b : Int) (t : List Int), t.length = 16 → I32 t → VC P f [.int .i64 b, .agg (ks .i32 t)] (Qop b t)
theorem Qsw (b : Int) (t : List Int) : isD (Qop b t) = true := by unfold Qop; split <;> simp [isD, isDL, Qdi]
theorem QqS {P : Prg} {f fT t0 t1 t2 : Nat} (b : Qf P f 21 [.cell 4 t1, .tmp 5] (QbY fT t0 t1 t2)) (ht : ZK P t1 = some (some 35)) (hT : Qnv P fT) : Qrq P f := by
 intro x t hl hI
 have hk : (ks .i32 t).length = 16 := by simp [Qe, hl]
 have h1 := JU .i32 t
 have tk16 : (ks .i32 t).take 16 = ks .i32 t := QG (by omega)
 have hok : QbJ (QhO x t) := QpO hl hI
 have l1 := Zf hok
 have t1' : (Qm (QhO x t)).take 33 = Qm (QhO x t) := QG (by omega)
 have o1 := Zm (QhO x t)
 have lc := XZ (c := QdN x t) hok
 have tc : (Zt (QdN x t)).take 35 = Zt (QdN x t) := QG (by omega)
 have oc := Qak (QdN x t)
 have mk : AV.int .i64 x :: .int .i32 0 :: Qm (QhO x t) = Zt (QdN x t) := rfl
 refine VC.of_acall (by simp [isDL, isD, QB]) (Qsw _ _) (ACall.of_body b (by simp) ?_)
 simp (maxSteps := 4000000) (disch := omega) only [rq, simprocAttr, QbY, hk, h1, tk16]
 refine Qa.vc (hT x t hl) ?_
 by_cases h0 : Z3 x = 0
 ·simp (maxSteps := 4000000) (disch := omega) only [rq, simprocAttr, Qgc, h0, Qop, Qb2, QeF, ZL, ht]
 ·simp (maxSteps := 4000000) (disch := omega) only [rq, simprocAttr, Qgc, if_neg h0, Qop, l1, t1', o1, lc, tc, oc, mk, QeF, ZL, ht]
theorem Qut {c : JJ} (h : QbJ c.fl) : ((Zt c).drop 2).take 33 = Qm c.fl := by
 simp only [Zt, List.drop_succ_cons, List.drop_zero]
 exact QG (by rw [Zf h]; omega)
theorem QqQ {c : JJ} (h : QbJ c.fl) : ((Zt c).drop 3).take 16 = ks .i32 c.fl.tp := Qj6 h
def QiY (P : Prg) (f : Nat) : Prop := ∀ c : JJ, Qs6 c → VC P f [.agg (Zt c)] (.int .i64 0)
theorem Qme {P : Prg} {f fT t0 t1 : Nat} (b : Qf P f 24 [.tmp 2] (QaG fT t0 t1)) (hT : Qnv P fT) : QiY P f := by
 intro c ⟨h1, h2, h3, h4⟩
 have lc := XZ h3
 have oc := Qak c
 have e0 : (Zt c).drop 0 = .int .i64 c.bits :: .int .i32 c.last :: Qm c.fl := rfl
 have e2 : (Zt c).drop 2 = .int .i64 c.fl.sh :: (ks .i32 c.fl.tp ++ ks .i32 c.fl.ps) := rfl
 have et := QqQ h3
 have hk : (ks .i32 c.fl.tp).length = 16 := by simp [Qe, h3.1]
 have hok : QbJ (QhO c.bits c.fl.tp) := QpO h3.1 h3.2.2.1
 have l1 := Zf hok
 have t1' : (Qm (QhO c.bits c.fl.tp)).take 33 = Qm (QhO c.bits c.fl.tp) := QG (by omega)
 have o1 := Zm (QhO c.bits c.fl.tp)
 have en : (Qm (QhO c.bits c.fl.tp)).drop 0 = .int .i64 (Qa0 c.bits) :: (ks .i32 c.fl.tp ++ ks .i32 z16) := rfl
 have dn : (Qm (QhO c.bits c.fl.tp)).drop 33 = [] := List.drop_eq_nil_of_le (by omega)
 refine VC.of_acall (by simp [isDL, isD, Qdi]) rfl (ACall.of_body b (by simp) ?_)
 simp (maxSteps := 4000000) (disch := omega) only [rq, simprocAttr, QaG, lc, oc, ↓e0, et]
 refine Qa.vc (hT c.bits c.fl.tp h3.1) ?_
 simp (maxSteps := 4000000) (disch := omega) only [rq, simprocAttr, Qgc, if_neg h1, l1, t1', o1, ↓en, ↓e2, h2, dn]
def Qvh (c : JJ) (x : Int) : Int := w32 (x - Qek c.bits c.last)
def Qmf (c : JJ) (x : Int) : Int := Qp9 c.fl (Qvh c x)
def Qbs (c : JJ) (x : Int) : JJ := ⟨c.bits, x, QvC c.fl (Qvh c x)⟩
theorem Qly {c : JJ} (h : Qs6 c) {x : Int} (hx : -2147483648 ≤ x ∧ x ≤ 2147483647) : Qs6 (Qbs c x) := ⟨h.1, h.2.1, Qfk h.2.2.1 (QcC _) _, hx⟩
def Qd7 (P : Prg) (f : Nat) : Prop := ∀ (c : JJ) (x : Int), Qs6 c → -2147483648 ≤ x ∧ x ≤ 2147483647 → VC P f [.agg (Zt c), .int .i32 x] (.tup [.int .i32 (Qmf c x), .agg (Zt (Qbs c x)), .int .i64 0])
theorem Qid {P : Prg} {f fC fG fF t0 t1 : Nat} (b : Qf P f 44 [.tmp 4, .cell 5 t0, .tmp 6] (Jp fC fG fF t0 t1)) (ht : ZK P t0 = some (some 35)) (hC : QiY P fC) (hG : QiV P fG) (hF : Qd4 P fF) : Qd7 P f := by
 intro c x hc hx
 obtain ⟨h1, h2, h3, h4⟩ := id hc
 have hs : c.fl.sh = 9 ∨ c.fl.sh = 10 := by rw [h2]; exact Qr2 _
 have lc := XZ h3
 have tc : (Zt c).take 35 = Zt c := QG (by omega)
 have oc := Qak c
 have e0 : (Zt c).drop 0 = .int .i64 c.bits :: .int .i32 c.last :: Qm c.fl := rfl
 have e1 : (Zt c).drop 1 = .int .i32 c.last :: Qm c.fl := rfl
 have e2 := Qut h3
 have hzr := QcC (x - Qek c.bits c.last)
 have hok := Qly hc hx
 have l1 := Zf hok.2.2.1
 have t1' : (Qm (Qbs c x).fl).take 33 = Qm (Qbs c x).fl := QG (by omega)
 have o1 := Zm (Qbs c x).fl
 have d1 : (Qm (Qbs c x).fl).drop 33 = [] := List.drop_eq_nil_of_le (by omega)
 have l2 := XZ hok.2.2.1
 have t2 : (Zt (Qbs c x)).take 35 = Zt (Qbs c x) := QG (by omega)
 have o2 := Qak (Qbs c x)
 have mk : AV.int .i64 c.bits :: .int .i32 x :: Qm (Qbs c x).fl = Zt (Qbs c x) := rfl
 have hfe : QvC c.fl (w32 (x - Qek c.bits c.last)) = (Qbs c x).fl := rfl
 have hye : Qp9 c.fl (w32 (x - Qek c.bits c.last)) = Qmf c x := rfl
 refine VC.of_acall (by simp [isDL, isD, Qdi]) (by simp [isD, isDL, Qdi]) (ACall.of_body b (by simp) ?_)
 simp (maxSteps := 4000000) (disch := omega) only [rq, simprocAttr, Jp, lc, tc, oc]
 refine Qa.vc (hC c hc) ?_
 simp (maxSteps := 4000000) (disch := omega) only [rq, simprocAttr, lc, tc, oc, ↓e0, ↓e1]
 refine Qa.vc (hG c.bits c.last h1 h4) ?_
 simp (maxSteps := 4000000) (disch := omega) only [rq, simprocAttr, lc, tc, oc, e2, QaV]
 refine Qa.vc (hF c.fl _ h3 hs hzr) ?_
 rw [hfe, hye]
 simp (maxSteps := 4000000) (disch := omega) only [rq, simprocAttr, lc, tc, oc, ↓e0, l1, t1', o1, d1, l2, t2, o2, mk, ZL, ht, QeF]
theorem Qo4 {x : Int} (h : x < 0) (n : Int) : x.tdiv n = -(-x / n) ∧ x.tmod n = -(-x % n) := by
 have e : x = -(-x) := by omega
 constructor
 ·rw [e, Int.neg_tdiv, Int.tdiv_eq_ediv_of_nonneg (by omega)]; simp
 ·rw [e, Int.neg_tmod, Int.tmod_eq_emod_of_nonneg (by omega)]; simp
def QvO (x : Jr) (k : Nat) : List Int := (List.range 16).map fun j => if k < j then x.ps.getD (j - 1) 0 else x.ps.getD j 0
def pf (x : Jr) (k : Nat) : Jr := { x with ps := QvO x k }
def Qj3 (x : Int) : Int := if x < 0 then -2 * x - 1 else 2 * x
def Qrm (P : Prg) (f : Nat) : Prop := ∀ x : Int, -2147483648 ≤ x ∧ x ≤ 2147483647 → VC P f [.int .i32 x] (.int .u32 (Qj3 x))
theorem Qqh {x : Int} (h : -2147483648 ≤ x ∧ x ≤ 2147483647) : 0 ≤ Qj3 x ∧ Qj3 x < 4294967296 := by unfold Qj3; split <;> omega
theorem QrG {a : Nat} (h : a < 4294967296) : (BitVec.ofInt 32 (a : Int) ^^^ BitVec.ofInt 32 4294967295).toNat = 4294967295 - a := by
 have e : BitVec.ofInt 32 4294967295 = BitVec.allOnes 32 := by decide
 rw [e, BitVec.xor_allOnes, BitVec.toNat_not]
 have : (BitVec.ofInt 32 (a : Int)).toNat = a := by simp; omega
 rw [this]
theorem QoM {a : Nat} (h : a < 4294967296) : (BitVec.ofInt 32 (a : Int) ^^^ BitVec.ofInt 32 0).toNat = a := by
 have : (BitVec.ofInt 32 (a : Int)).toNat = a := by simp; omega
 rw [BitVec.toNat_xor, this]
 simp
theorem Qqg {P : Prg} {f : Nat} (b : Qf P f 10 [.tmp 2] Qal) : Qrm P f := by
 intro x hx
 refine VC.of_acall rfl rfl (ACall.of_body b (by simp) ?_)
 by_cases h : x < 0
 ·have a1 : IntKind.u32.wrap x = x + 4294967296 := by rw [J8]; omega
  have a2 : Qh true .u32 (x + 4294967296) 1 = some (.int .u32 (2 * x + 4294967296)) := by
   show some (AV.int .u32 (IntKind.u32.wrap ((x + 4294967296) * 2))) = _
   rw [J8]; congr 2; omega
  have a3 : Qh false .i32 x 31 = some (.int .i32 (-1)) := by
   show some (AV.int .i32 (x.fdiv 2147483648)) = _
   rw [Int.fdiv_eq_ediv_of_nonneg _ (by omega)]; congr 2; omega
  have a4 : IntKind.u32.wrap (-1) = 4294967295 := rfl
  have a5 : (BitVec.ofInt IntKind.u32.bits (2 * x + 4294967296) ^^^ BitVec.ofInt IntKind.u32.bits 4294967295).toNat = (-2 * x - 1).toNat := by
   show (BitVec.ofInt 32 (2 * x + 4294967296) ^^^ BitVec.ofInt 32 4294967295).toNat = (-2 * x - 1).toNat
   have := QrG (a := (2 * x + 4294967296).toNat) (by omega)
   rw [show (((2 * x + 4294967296).toNat : Nat) : Int) = 2 * x + 4294967296 by omega] at this
   rw [this]; omega
  have a6 : (((BitVec.ofInt IntKind.u32.bits (2 * x + 4294967296) ^^^ BitVec.ofInt IntKind.u32.bits 4294967295).toNat : Nat) : Int) = -2 * x - 1 := by rw [a5]; omega
  simp (maxSteps := 4000000) (disch := omega) only [rq, simprocAttr, Qal, a1, a2, a3, a4, a6, Qj3]
 ·have a2 : Qh true .u32 x 1 = some (.int .u32 (2 * x)) := by
   show some (AV.int .u32 (IntKind.u32.wrap (x * 2))) = _
   rw [J8]; congr 2; omega
  have a3 : Qh false .i32 x 31 = some (.int .i32 0) := by
   show some (AV.int .i32 (x.fdiv 2147483648)) = _
   rw [Int.fdiv_eq_ediv_of_nonneg _ (by omega)]; congr 2; omega
  have a5 : (BitVec.ofInt IntKind.u32.bits (2 * x) ^^^ BitVec.ofInt IntKind.u32.bits 0).toNat = (2 * x).toNat := by
   show (BitVec.ofInt 32 (2 * x) ^^^ BitVec.ofInt 32 0).toNat = (2 * x).toNat
   have := QoM (a := (2 * x).toNat) (by omega)
   rwa [show (((2 * x).toNat : Nat) : Int) = 2 * x by omega] at this
  have a6 : (((BitVec.ofInt IntKind.u32.bits (2 * x) ^^^ BitVec.ofInt IntKind.u32.bits 0).toNat : Nat) : Int) = 2 * x := by rw [a5]; omega
  simp (maxSteps := 4000000) (disch := omega) only [rq, simprocAttr, Qal, a2, a3, a6, Qj3]
theorem Qtc {K : IntKind} {l : List Int} {i : Nat} (h : i < l.length) (v : Int) : (ks K l).take i ++ [.int K v] ++ (ks K l).drop (i + 1) = ks K (l.set i v) := by
 rw [List.set_eq_take_append_cons_drop, if_pos h]
 simp [ks]
theorem QdQ {K : IntKind} {l : List Int} {i : Nat} (h : i < l.length) : (ks K l).drop i = .int K (l.getD i 0) :: ks K (l.drop (i + 1)) := by
 rw [QdV h]; simp [List.getD_eq_getElem?_getD, List.getElem?_eq_getElem h]
theorem Quc {α : Type} (l : List α) (x : α) : (l ++ [x])[l.length]? = some x := by simp
theorem QtN {α : Type} (l : List α) (x y : α) : (l ++ [x]).set l.length y = l ++ [y] := by simp
def QiX (t : Nat) (P : Prg) (f : Nat) : Prop := ∀ (l : List Int) (ob : List Ob) (K : AV → List Ob → Prop), 0 < l.length → l.length ≤ 1000000 → K (.own ob.length l.length) (ob ++ [⟨t, 1, l.length, ks .i32 l, 0⟩]) → ACall P f [il l] ob K
theorem QqO {P : Prg} {f t0 : Nat} (b : Qf P f 8 [.tmp 2] (Qs t0)) : QiX t0 P f := by
 intro l ob K h0 h1 hK
 refine ACall.of_body b (by simp) ?_
 have g1 := fun x : Ob => Quc ob x
 have g2 := fun x y : Ob => QtN ob x y
 have n0 : l.length ≠ 0 := by omega
 simp (maxSteps := 4000000) (disch := omega) only [rq, simprocAttr, Qs, il, Qm5, n0, g1, g2, QaL]
 exact hK
def Qf6 (L : List Int) (k i : Nat) : List Int := (List.range L.length).map fun j => if k ≤ j ∧ j < k + i then w32 (L.getD (j + 1) 0 - L.getD j 0) else L.getD j 0
def Qfm (L : List Int) (k n : Nat) : List Int := if n = 1 then L else (Qf6 L k (n - 1)).set (k + (n - 1)) (w32 (L.getD (k + (n - 1)) 0 - (w32 (L.getD (k + (n - 1)) 0 - L.getD (k + (n - 2)) 0)).tdiv 2))
theorem Qdj {a b : List Int} (h : a.length = b.length) (h2 : ∀ j, j < a.length → a.getD j 0 = b.getD j 0) : a = b := by
 apply List.ext_getElem h
 intro i h1 h3
 have := h2 i h1
 simpa [List.getD_eq_getElem?_getD, List.getElem?_eq_getElem h1, List.getElem?_eq_getElem h3] using this
theorem Qa1 (L : List Int) (k i : Nat) : (Qf6 L k i).length = L.length := by simp [Qf6]
theorem Xc {g : Nat → Int} {n j : Nat} (h : j < n) : ((List.range n).map g).getD j 0 = g j := by
 simp [List.getD_eq_getElem?_getD, h]
theorem QmY {l : List Int} {i j : Nat} {v : Int} (h : j < l.length) : (l.set i v).getD j 0 = if i = j then v else l.getD j 0 := by
 simp only [List.getD_eq_getElem?_getD, List.getElem?_set]
 split
 ·subst_vars; simp [h]
 ·rfl
theorem QuV (L : List Int) (k : Nat) : Qf6 L k 0 = L := Qdj (Qa1 _ _ _) fun j hj => by
 rw [Qa1] at hj
 rw [Qf6, Xc hj, if_neg (by omega)]
theorem Qps {L : List Int} {k i j : Nat} (h : j < L.length) (h2 : k + i ≤ j) : (Qf6 L k i).getD j 0 = L.getD j 0 := by
 rw [Qf6, Xc h, if_neg (by omega)]
theorem Qr3 {L : List Int} {k i : Nat} (h : k + i < L.length) : (Qf6 L k i).set (k + i) (w32 (L.getD (k + i + 1) 0 - L.getD (k + i) 0)) = Qf6 L k (i + 1) := Qdj (by simp [Qa1]) fun j hj => by
 have hj' : j < L.length := by simpa [Qa1] using hj
 rw [QmY (by rw [Qa1]; exact hj'), Qf6, Qf6, Xc hj', Xc hj']
 by_cases e : k + i = j
 ·subst e; rw [if_pos rfl, if_pos (by omega)]
 ·rw [if_neg e]
  by_cases q : k ≤ j ∧ j < k + i
  ·rw [if_pos q, if_pos (by omega)]
  ·rw [if_neg q, if_neg (by omega)]
def QuC (P : Prg) (f : Nat) : Prop := ∀ (t : Nat) (L : List Int) (k n : Nat) (K : AV → List Ob → Prop), I32 L → 1 ≤ n → k + n ≤ L.length → L.length ≤ 1000000 →
 K (.tup []) [⟨t, 1, L.length, ks .i32 (Qfm L k n), 0⟩] → ACall P f [.view 0 L.length k n] [⟨t, 1, L.length, ks .i32 L, 0⟩] K
theorem Qo5 {x : Int} (h : -2147483648 ≤ x ∧ x ≤ 2147483647) : -2147483648 ≤ x.tdiv 2 ∧ x.tdiv 2 ≤ 2147483647 := by
 by_cases hx : x < 0
 ·rw [(Qo4 hx 2).1]; omega
 ·rw [Int.tdiv_eq_ediv_of_nonneg (by omega)]; omega
theorem QtX {P : Prg} {f : Nat} (b : Qf P f 39 [] Qd0) : QuC P f := by
 intro t L k n K hL h1 h2 h3 hK
 refine ACall.of_body b (by simp) ?_
 simp (maxSteps := 4000000) (disch := omega) only [rq, simprocAttr, Qd0]
 refine QN.by (ι := Nat) (fun i => ⟨[(8, .int .i64 i), (7, .int .i64 ((n : Int) - 1)), (2, .int .i64 ((n : Int) - 1)), (0, .view 0 L.length k n)], [⟨t, 1, L.length, ks .i32 (Qf6 L k i), 0⟩]⟩) (fun i => i ≤ n - 1) (fun i => n - 1 - i) 0 (by rw [QuV]; exact Le.slots (by simp [Am.look])) (by omega) ?_
 intro i hi
 have ls := Qa1 L k i
 by_cases hlt : i < n - 1
 ·have e1 := QdQ (K := .i32) (l := Qf6 L k i) (i := k + i) (by omega)
  have e2 := QdQ (K := .i32) (l := Qf6 L k i) (i := k + (i + 1)) (by omega)
  have e3 := fun v => Qtc (K := .i32) (l := Qf6 L k i) (i := k + i) (by omega) v
  have a1 := Qps (L := L) (k := k) (i := i) (j := k + i) (by omega) (by omega)
  have a2 := Qps (L := L) (k := k) (i := i) (j := k + (i + 1)) (by omega) (by omega)
  have a3 := Qr3 (L := L) (k := k) (i := i) (by omega)
  rw [show k + i + 1 = k + (i + 1) by omega] at a3
  rw [a1] at e1
  rw [a2] at e2
  simp (maxSteps := 4000000) (disch := omega) only [rq, simprocAttr, e1, e2, e3, QaV, a3, ls]
  exact ⟨i + 1, by omega, by omega, Le.slots (by simp [Am.look])⟩
 ·have e : i = n - 1 := by omega
  subst e
  by_cases hn : n = 1
  ·subst hn
   have e0 : Qfm L k 1 = Qf6 L k (1 - 1) := by simp [Qfm, QuV]
   rw [e0] at hK
   simp (maxSteps := 4000000) (disch := omega) only [rq, simprocAttr]
   exact hK
  ·have e1 := QdQ (K := .i32) (l := Qf6 L k (n - 1)) (i := k + (n - 1)) (by omega)
   have e2 := QdQ (K := .i32) (l := Qf6 L k (n - 1)) (i := k + (n - 2)) (by omega)
   have e3 := fun v => Qtc (K := .i32) (l := Qf6 L k (n - 1)) (i := k + (n - 1)) (by omega) v
   have a1 := Qps (L := L) (k := k) (i := n - 1) (j := k + (n - 1)) (by omega) (by omega)
   have a2 : (Qf6 L k (n - 1)).getD (k + (n - 2)) 0 = w32 (L.getD (k + (n - 1)) 0 - L.getD (k + (n - 2)) 0) := by
    rw [Qf6, Xc (by omega), if_pos (by omega), show k + (n - 2) + 1 = k + (n - 1) by omega]
   rw [a1] at e1
   rw [a2] at e2
   have hr := Qo5 (QcC (L.getD (k + (n - 1)) 0 - L.getD (k + (n - 2)) 0))
   simp only [Qfm, if_neg hn] at hK
   rw [show k + (n - 2) = k + (n - 1 - 1) by omega] at e2 hK hr
   simp (maxSteps := 4000000) (disch := omega) only [rq, simprocAttr, e1, e2, e3, QaV, ls]
   exact hK
def QbM (c : Int) (n : Nat) : Int := if c < 1 ∨ 6 < c then 2 else if 4000 < n then 4 else if (n : Int) % c ≠ 0 then 2 else 0
def QiP (P : Prg) (f : Nat) : Prop := ∀ (c : Int) (l : List Int), VC P f [.int .i64 c, il l] (.int .i64 (QbM c l.length))
theorem QpT {P : Prg} {f : Nat} (b : Qf P f 22 [.tmp 4] ZO) : QiP P f := by
 intro c l
 refine VC.of_acall (by simp [isDL, isD, Zu]) rfl (ACall.of_body b (by simp) ?_)
 by_cases h1 : c < 1
 ·simp (maxSteps := 4000000) (disch := omega) only [rq, simprocAttr, ZO, il, QbM]
 by_cases h2 : 6 < c
 ·simp (maxSteps := 4000000) (disch := omega) only [rq, simprocAttr, ZO, il, QbM]
 by_cases h3 : 4000 < l.length
 ·simp (maxSteps := 4000000) (disch := omega) only [rq, simprocAttr, ZO, il, QbM]
 have hm := QbL (n := l.length) (c := c) (by omega)
 by_cases h4 : (l.length : Int) % c = 0
 ·simp (maxSteps := 4000000) (disch := omega) only [rq, simprocAttr, ZO, il, QbM, h4]
 ·simp (maxSteps := 4000000) (disch := omega) only [rq, simprocAttr, ZO, il, QbM, h4]
def Qs8 (c : Nat) (l : List Int) (j : Nat) : Int :=
 if c = 1 then l.getD j 0
 else if j % c + 1 < c then w32 (l.getD (j + 1) 0 - l.getD j 0)
 else w32 (l.getD j 0 - (w32 (l.getD j 0 - l.getD (j - 1) 0)).tdiv 2)
def Qi1 (c : Nat) (l : List Int) (a : Nat) : List Int := (List.range l.length).map fun j => if j < a then Qs8 c l j else l.getD j 0
def QaK (c : Nat) (l : List Int) : List Int := (List.range l.length).map (Qs8 c l)
theorem Ju (c : Nat) (l : List Int) (a : Nat) : (Qi1 c l a).length = l.length := by simp [Qi1]
theorem Qu0 (c : Nat) (l : List Int) : Qi1 c l 0 = l := Qdj (Ju _ _ _) fun j hj => by
 rw [Ju] at hj; rw [Qi1, Xc hj, if_neg (by omega)]
theorem Qm8 (c : Nat) (l : List Int) : Qi1 c l l.length = QaK c l := by
 simp only [Qi1, QaK]
 apply List.map_congr_left
 intro j hj
 rw [if_pos (by simpa using hj)]
theorem Qsh {c : Nat} {l : List Int} (h : I32 l) (j : Nat) : -2147483648 ≤ Qs8 c l j ∧ Qs8 c l j ≤ 2147483647 := by
 unfold Qs8
 split
 ·exact XY h j
 ·split <;> exact QcC _
theorem Qnz {c : Nat} {l : List Int} (h : I32 l) (a : Nat) : I32 (Qi1 c l a) := by
 intro v hv
 simp only [Qi1, List.mem_map] at hv
 obtain ⟨j, _, rfl⟩ := hv
 split
 ·exact Qsh h j
 ·exact XY h j
theorem QoI {c : Nat} {l : List Int} (h : I32 l) : I32 (QaK c l) := by rw [← Qm8]; exact Qnz h _
theorem QgN (c : Nat) (l : List Int) : (QaK c l).length = l.length := by simp [QaK]
theorem QtW {c : Nat} {l : List Int} {m : Nat} (hc : 1 ≤ c) (h : c * m + c ≤ l.length) : Qfm (Qi1 c l (c * m)) (c * m) c = Qi1 c l (c * m + c) := by
 have mod : ∀ j, c * m ≤ j → j < c * m + c → j % c = j - c * m := fun j h1 h2 => by
  rw [show j = c * m + (j - c * m) by omega, Nat.mul_add_mod]
  rw [Nat.mod_eq_of_lt (by omega)]; omega
 have at' : ∀ j, j < l.length → c * m ≤ j → (Qi1 c l (c * m)).getD j 0 = l.getD j 0 := fun j h1 h2 => by rw [Qi1, Xc h1, if_neg (by omega)]
 by_cases h1 : c = 1
 ·subst h1
  simp only [Qfm, if_true]
  refine Qdj (by simp [Ju]) fun j hj => ?_
  rw [Ju] at hj
  rw [Qi1, Qi1, Xc hj, Xc hj]
  by_cases q : j < 1 * m
  ·rw [if_pos q, if_pos (by omega)]
  ·rw [if_neg q]; split
   ·simp [Qs8]
   ·rfl
 ·simp only [Qfm, if_neg h1]
  refine Qdj (by simp [Qa1, Ju]) fun j hj => ?_
  have hj' : j < l.length := by simpa [Qa1, Ju] using hj
  rw [QmY (by simpa [Qa1, Ju] using hj')]
  rw [Qf6, Ju, Xc hj']
  conv => rhs; rw [Qi1, Xc hj']
  by_cases e : c * m + (c - 1) = j
  ·rw [if_pos e, if_pos (by omega), at' _ (by omega) (by omega), at' _ (by omega) (by omega)]
   subst e
   have := mod (c * m + (c - 1)) (by omega) (by omega)
   unfold Qs8
   rw [if_neg h1, if_neg (by rw [this]; omega), show c * m + (c - 1) - 1 = c * m + (c - 2) by omega]
  ·rw [if_neg e]
   by_cases q : c * m ≤ j ∧ j < c * m + (c - 1)
   ·rw [if_pos q, if_pos (by omega), at' _ (by omega) (by omega), at' _ (by omega) (by omega)]
    have := mod j (by omega) (by omega)
    unfold Qs8
    rw [if_neg h1, if_pos (by rw [this]; omega)]
   ·rw [if_neg q, Qi1, Xc hj']
    by_cases r : j < c * m
    ·rw [if_pos r, if_pos (by omega)]
    ·rw [if_neg r, if_neg (by omega)]
def okM (c : Nat) (l : List Int) : Prop := 1 ≤ c ∧ c ≤ 6 ∧ 0 < l.length ∧ l.length ≤ 4000 ∧ l.length % c = 0 ∧ I32 l
theorem QpP {c : Nat} {l : List Int} (h : okM c l) : QbM c l.length = 0 := by
 obtain ⟨h1, h2, h3, h4, h5, _⟩ := h
 unfold QbM
 rw [if_neg (by omega), if_neg (by omega), if_neg (by rw [← Int.natCast_emod, h5]; simp)]
def QiO (P : Prg) (f : Nat) : Prop := ∀ (c : Nat) (l : List Int), okM c l → VC P f [.int .i64 c, il l] (.tup [il (QaK c l), .int .i64 0])
theorem Qsf {c m q : Nat} (h : c * m < c * q) : c * m + c ≤ c * q := by
 have : m < q := Nat.lt_of_mul_lt_mul_left h
 have := Nat.mul_le_mul_left c (show m + 1 ≤ q by omega)
 rw [Nat.mul_add, Nat.mul_one] at this
 exact this
theorem QtY {P : Prg} {f fC fK fM t : Nat} (b : Qf P f 32 [.tmp 4, .tmp 5] (Qd1 fC fK fM)) (hC : QiP P fC) (hK : QiX t P fK) (hM : QuC P fM) : QiO P f := by
 intro c l hok
 obtain ⟨h1, h2, h3, h4, h5, h6⟩ := id hok
 have hc := QpP hok
 obtain ⟨q, hq⟩ : ∃ q, l.length = c * q := ⟨l.length / c, by have := Nat.div_add_mod l.length c; omega⟩
 refine VC.of_walk 1 (by simp [isDL, isD, Zu]) (by simp [isD, isDL, Zu]) (ACall.of_body b (by simp) ?_)
 simp (maxSteps := 4000000) (disch := omega) only [rq, simprocAttr, Qd1]
 refine Qa.vc (hC c l) ?_
 have n0 : l.length ≠ 0 := by omega
 simp (maxSteps := 4000000) (disch := omega) only [rq, simprocAttr, hc, n0]
 refine hK l [] _ h3 (by omega) ?_
 simp (maxSteps := 4000000) (disch := omega) only [rq, simprocAttr, n0]
 refine QN.by (ι := Nat) (fun m => ⟨[(8, .int .i64 (c * m : Nat)), (7, .own 0 l.length), (0, .int .i64 c)], [⟨t, 1, l.length, ks .i32 (Qi1 c l (c * m)), 0⟩]⟩) (fun m => m ≤ q) (fun m => q - m) 0 (by rw [Nat.mul_zero, Qu0]; exact Le.slots (by simp [Am.look])) (by omega) ?_
 intro m hm
 by_cases hlt : c * m < l.length
 ·have hs := Qsf (c := c) (m := m) (q := q) (by rw [← hq]; exact hlt)
  rw [← hq] at hs
  have hmq : m < q := Nat.lt_of_mul_lt_mul_left (a := c) (b := m) (c := q) (by rw [← hq]; exact hlt)
  have e0 : c * m + c - c * m = c := by omega
  have hM' := hM t (Qi1 c l (c * m)) (c * m) c
  rw [Ju, QtW h1 hs] at hM'
  simp (maxSteps := 4000000) (disch := omega) only [rq, simprocAttr, e0, n0]
  refine hM' _ (Qnz h6 _) h1 hs (by omega) ?_
  simp (maxSteps := 4000000) (disch := omega) only [rq, simprocAttr]
  exact ⟨m + 1, by omega, by omega, by rw [show c * (m + 1) = c * m + c by rw [Nat.mul_add, Nat.mul_one]]; exact Le.slots (by simp [Am.look])⟩
 ·have e : c * m = l.length := by
   have := Nat.mul_le_mul_left c hm
   omega
  rw [e, Qm8]
  have lm := QgN c l
  simp (maxSteps := 4000000) (disch := omega) only [rq, simprocAttr]
  simp [QT, QF, frzL, QE, isDL, isD, il, lm, frzL_T _ (Qq .i32 (QaK c l))]
theorem Le.drop1 {o : Ob} {xs : List Ob} {fr fr' : List (Nat × AV)} (h : isTL o.cs = true)
  (hfr : ∀ p ∈ fr', p.2 = .any ∨ QF (fun o => decide (o < 1)) (fun o => decide (1 ≤ o)) (o :: xs) 2 [look fr p.1] = some [p.2]) : Le 0 ⟨fr, o :: xs⟩ ⟨fr', [o]⟩ := by
 refine Le.drop 1 2 (by omega) rfl hfr ?_
 intro i y hy
 match i, hy with
 | 0, hy =>
  simp at hy
  subst hy
  exact ⟨o.cs, by simp, by simp only [QF]; exact frzL_T _ h⟩
 | i + 1, hy => simp at hy
def QbU (c x : Int) (l : List Int) : Int := if QH c x ≠ 0 then 2 else if QL x l ≠ 0 then QL x l else if l.length = 0 ∨ (l.length : Int) % c ≠ 0 then 2 else 0
theorem Qmw {c x : Int} {l : List Int} (h : QH c x = 2) : QbU c x l = 2 := by simp [QbU, h]
theorem Qmx {c x : Int} {l : List Int} (h : QH c x = 0) (h2 : QL x l ≠ 0) : QbU c x l = QL x l := by simp [QbU, h, h2]
theorem Qmv {c x : Int} {l : List Int} (h : QH c x = 0) (h2 : QL x l = 0) (h3 : l.length = 0 ∨ (l.length : Int) % c ≠ 0) : QbU c x l = 2 := by simp only [QbU, h, h2, if_pos h3]; simp
theorem Qra {c x : Int} {l : List Int} (h : QH c x = 0) (h2 : QL x l = 0) (h3 : ¬ (l.length = 0 ∨ (l.length : Int) % c ≠ 0)) : QbU c x l = 0 := by simp only [QbU, h, h2, if_neg h3]; simp
theorem QZ (c x : Int) : QH c x = 2 ∨ (QH c x = 0 ∧ Z3 x ≠ 0 ∧ 1 ≤ c ∧ c ≤ 6) := by unfold QH; split <;> omega
theorem QgZ (x : Int) (l : List Int) : QL x l = 2 ∨ QL x l = 4 ∨ QL x l = 16 ∨ (QL x l = 0 ∧ Z3 x ≠ 0 ∧ l.length ≤ 4000) := by
 unfold QL
 by_cases h : Z3 x = 0
 ·simp [h]
 by_cases h2 : 4000 < l.length
 ·simp [h, h2]
 by_cases h3 : l.all (inR x)
 ·simp [h, h2, h3]; omega
 ·simp [h, h2, h3]
theorem Qq9 {c x : Int} {l : List Int} (hI : I32 l) (h : QbU c x l = 0) : ∃ k : Nat, c = k ∧ okM k l ∧ Z3 x ≠ 0 := by
 rcases QZ c x with h1 | ⟨h1, h2, h3, h4⟩
 ·rw [Qmw h1] at h; omega
 by_cases h5 : QL x l = 0
 ·by_cases h6 : l.length = 0 ∨ (l.length : Int) % c ≠ 0
  ·rw [Qmv h1 h5 h6] at h; omega
  ·obtain ⟨k, rfl⟩ : ∃ k : Nat, c = k := ⟨c.toNat, by omega⟩
   refine ⟨k, rfl, ⟨by omega, by omega, by omega, by rcases QgZ x l with h | h | h | h <;> omega, by omega, hI⟩, h2⟩
 ·rw [Qmx h1 h5] at h; exact absurd h h5
def Qrp (P : Prg) (f : Nat) : Prop := ∀ (c x : Int) (l : List Int), I32 l → VC P f [shA c x, il l] (.int .i64 (QbU c x l))
theorem Qh0 {P : Prg} {f fE fW t0 : Nat} (b : Qf P f 30 [.tmp 4] (Jm fE fW t0)) (hE : JG P fE) (hW : Qdv P fW) : Qrp P f := by
 intro c x l hI
 refine VC.of_acall (by simp [isDL, isD, Zu, shA]) rfl (ACall.of_body b (by simp) ?_)
 have hE' := hE c x
 rw [shA] at hE'
 simp (maxSteps := 4000000) (disch := omega) only [rq, simprocAttr, Jm, shA]
 refine Qa.vc hE' ?_
 rcases QZ c x with h1 | ⟨h1, h2, h3, h4⟩
 ·simp (maxSteps := 4000000) (disch := omega) only [rq, simprocAttr, h1, Qmw h1]
 simp (maxSteps := 4000000) (disch := omega) only [rq, simprocAttr, h1]
 refine Qa.vc (hW x l hI) ?_
 by_cases h5 : QL x l = 0
 ·have h9 : l.length ≤ 4000 := by rcases QgZ x l with h | h | h | h <;> omega
  by_cases h6 : l.length = 0
  ·simp (maxSteps := 4000000) (disch := omega) only [rq, simprocAttr, h5, il, h6, Qmv h1 h5 (.inl h6)]
  ·by_cases h7 : (l.length : Int) % c = 0
   ·have hm := QbL (n := l.length) (c := c) (by omega)
    simp (maxSteps := 4000000) (disch := omega) only [rq, simprocAttr, h5, il, h6, h7, Qra h1 h5 (by omega)]
   ·have hm := QbL (n := l.length) (c := c) (by omega)
    simp (maxSteps := 4000000) (disch := omega) only [rq, simprocAttr, h5, il, h6, h7, Qmv h1 h5 (.inr h7)]
 ·simp (maxSteps := 4000000) (disch := omega) only [rq, simprocAttr, h5, Qmx h1 h5]
def six (S : Nat → JJ) : List AV := Zt (S 0) ++ (Zt (S 1) ++ (Zt (S 2) ++ (Zt (S 3) ++ (Zt (S 4) ++ Zt (S 5)))))
def okS (S : Nat → JJ) : Prop := ∀ k, QbJ (S k).fl
theorem Qll {S : Nat → JJ} (h : okS S) : (six S).length = 210 := by simp [six, XZ (h _)]
theorem Qv1 {k : Nat} (h : k < 6) : k = 0 ∨ k = 1 ∨ k = 2 ∨ k = 3 ∨ k = 4 ∨ k = 5 := by omega
theorem QuR {S : Nat → JJ} (h : okS S) {k : Nat} (hk : k < 6) : ((six S).drop (k * 35)).take 35 = Zt (S k) := by
 have l := fun k => XZ (h k)
 rcases Qv1 hk with rfl | rfl | rfl | rfl | rfl | rfl <;> simp [six, List.drop_append, List.take_append, l, List.drop_eq_nil_of_le, QG]
def upd (S : Nat → JJ) (k : Nat) (c : JJ) : Nat → JJ := fun j => if j = k then c else S j
theorem Qpl {S : Nat → JJ} (h : okS S) {k : Nat} (hk : k < 6) (c : JJ) : (six S).take (k * 35) ++ Zt c ++ (six S).drop (k * 35 + 35) = six (upd S k c) := by
 have l := fun k => XZ (h k)
 rcases Qv1 hk with rfl | rfl | rfl | rfl | rfl | rfl <;> simp [six, upd, List.drop_append, List.take_append, l, List.drop_eq_nil_of_le, QG]
theorem Qp1 (c : JJ) : isTL (Zt c) = true := by simp [Zt, Qm, isTL, isT, Qfs, Qq]
theorem Qsp (S : Nat → JJ) : isTL (six S) = true := by simp [six, Qfs, Qp1]
theorem Quz (S : Nat → JJ) : (six S).all AV.one = true := by simp only [six, List.all_append, Qak, Bool.and_self]
def stC (c : Nat) (L : List Int) (z : JJ) (k : Nat) : Nat → JJ
 | 0 => z
 | n + 1 => Qbs (stC c L z k n) (L.getD (k + n * c) 0)
def Qv5 (c : Nat) (L : List Int) (z : JJ) (j : Nat) : Int := Qj3 (Qmf (stC c L z (j % c) (j / c)) (L.getD j 0))
def QkV (c : Nat) (L : List Int) (z : JJ) (a : Nat) : List Int := (List.range a).map (Qv5 c L z)
theorem QhK (c : Nat) (L : List Int) (z : JJ) (a : Nat) : (QkV c L z a).length = a := by simp [QkV]
theorem QpK (c : Nat) (L : List Int) (z : JJ) (a : Nat) : QkV c L z a ++ [Qv5 c L z a] = QkV c L z (a + 1) := by simp [QkV, List.range_succ]
theorem QpM {c : Nat} {L : List Int} {z : JJ} (hL : I32 L) (hz : Qs6 z) (k : Nat) : ∀ n, Qs6 (stC c L z k n)
 | 0 => hz
 | n + 1 => Qly (QpM hL hz k n) (XY hL _)
def cnt (c k i : Nat) : Nat := if k < i % c then i / c + 1 else i / c
theorem QvV (c k : Nat) : cnt c k 0 = 0 := by simp [cnt]
theorem QsM (c i : Nat) : cnt c (i % c) i = i / c := by simp [cnt]
theorem QsL {c k i : Nat} (hk : k < c) : cnt c k (i + 1) = if k = i % c then i / c + 1 else cnt c k i := by
 have hc : 0 < c := by omega
 have hr := Nat.mod_lt i hc
 have hi := Nat.div_add_mod i c
 unfold cnt
 by_cases h : i % c + 1 < c
 ·have e1 : (i + 1) % c = i % c + 1 := by
   rw [show i + 1 = c * (i / c) + (i % c + 1) by omega, Nat.mul_add_mod, Nat.mod_eq_of_lt h]
  have e2 : (i + 1) / c = i / c := by
   rw [show i + 1 = (i % c + 1) + c * (i / c) by omega, Nat.add_mul_div_left _ _ hc, Nat.div_eq_of_lt h, Nat.zero_add]
  rw [e1, e2]
  split <;> split <;> (try split) <;> omega
 ·have e0 : i + 1 = c * (i / c + 1) := by rw [Nat.mul_add]; omega
  have e1 : (i + 1) % c = 0 := by rw [e0, Nat.mul_mod_right]
  have e2 : (i + 1) / c = i / c + 1 := by rw [e0, Nat.mul_div_cancel_left _ hc]
  rw [e1, e2]
  split <;> split <;> (try split) <;> omega
def stA (c : Nat) (L : List Int) (z : JJ) (i : Nat) : Nat → JJ := fun k => if k < c then stC c L z k (cnt c k i) else z
theorem QvK (c : Nat) (L : List Int) (z : JJ) : stA c L z 0 = fun _ => z := by
 funext k; simp [stA, QvV, stC]
theorem QuN {c : Nat} (hc : 1 ≤ c) (L : List Int) (z : JJ) (i : Nat) : stA c L z i (i % c) = stC c L z (i % c) (i / c) := by
 rw [stA, if_pos (Nat.mod_lt _ (by omega)), QsM]
theorem QrS {c : Nat} (hc : 1 ≤ c) (L : List Int) (z : JJ) (i : Nat) : upd (stA c L z i) (i % c) (Qbs (stC c L z (i % c) (i / c)) (L.getD i 0)) = stA c L z (i + 1) := by
 funext k
 have hr := Nat.mod_lt i (show 0 < c by omega)
 by_cases hk : k < c
 ·simp only [upd, stA, if_pos hk, QsL hk]
  by_cases e : k = i % c
  ·rw [if_pos e, if_pos e, e, stC]
   rw [show i % c + i / c * c = i by have := Nat.div_add_mod i c; rw [Nat.mul_comm]; omega]
  ·rw [if_neg e, if_neg e]
 ·simp only [upd, stA, if_neg hk]
  rw [if_neg (by omega)]
theorem QuY {c : Nat} {L : List Int} {z : JJ} (hL : I32 L) (hz : Qs6 z) (i : Nat) : okS (stA c L z i) := fun k => by
 unfold stA; split
 ·exact (QpM hL hz k _).2.2.1
 ·exact hz.2.2.1
def Qtx (l : List Int) : AV := .list l.length (ks .u32 l)
theorem Qsr (l : List Int) : isD (Qtx l) = true := by simp [Qtx, isD, QB]
theorem Le.dropT (os : List Ob) {xs : List Ob} {fr fr' : List (Nat × AV)} (h : ∀ o ∈ os, isTL o.cs = true)
  (hfr : ∀ p ∈ fr', p.2 = .any ∨ QF (fun o => decide (o < os.length)) (fun o => decide (os.length ≤ o)) (os ++ xs) 2 [look fr p.1] = some [p.2]) : Le 0 ⟨fr, os ++ xs⟩ ⟨fr', os⟩ := by
 refine Le.drop os.length 2 (by omega) rfl hfr ?_
 intro i y hy
 have hi : i < os.length := by
  rcases Nat.lt_or_ge i os.length with h | h
  ·exact h
  ·rw [List.getElem?_eq_none h] at hy; cases hy
 refine ⟨y.cs, by rw [List.getElem?_append_left hi]; exact hy, ?_⟩
 simp only [QF]
 exact frzL_T _ (h y (List.mem_of_getElem? hy))
def QrK (c x : Int) (t l : List Int) : AV := if QbU c x l ≠ 0 then .tup [.list 0 [], .int .i64 (QbU c x l)] else .tup [Qtx (QkV c.toNat (QaK c.toNat l) (QdN x t) l.length), .int .i64 0]
theorem Qt1 (c x : Int) (t l : List Int) : isD (QrK c x t l) = true := by unfold QrK; split <;> simp [isD, isDL, Qsr]
def QmI (P : Prg) (f : Nat) : Prop := ∀ (c x : Int) (t l : List Int), t.length = 16 → I32 t → I32 l → VC P f [shA c x, .agg (ks .i32 t), il l] (QrK c x t l)
theorem QhN : QbJ QcU.fl := ⟨by simp [QcU, Qi3, z16], by simp [QcU, Qi3, z16], fun x hx => by simp [QcU, Qi3, z16] at hx; omega, fun x hx => by simp [QcU, Qi3, z16] at hx; omega⟩
def QrC (z : JJ) (i : Nat) : Nat → JJ := fun k => if k < i then z else QcU
theorem QuZ (z : JJ) : QrC z 0 = fun _ => QcU := by funext k; simp [QrC]
theorem QpR (z : JJ) (i : Nat) : upd (QrC z i) i z = QrC z (i + 1) := by
 funext k
 simp only [upd, QrC]
 split <;> split <;> (try split) <;> first | rfl | omega
theorem QtT {z : JJ} (h : QbJ z.fl) (i : Nat) : okS (QrC z i) := fun k => by
 unfold QrC; split
 ·exact h
 ·exact QhN
theorem QvL (z : JJ) : six (QrC z 6) = six (fun _ => z) := by simp [six, QrC]
theorem QtU {x : Int} (hx : Z3 x ≠ 0) {t : List Int} (hl : t.length = 16) (hI : I32 t) : Qs6 (QdN x t) := ⟨hx, rfl, QpO hl hI, by simp [QdN]⟩
set_option maxRecDepth 20000 in
theorem Qgl {P : Prg} {f fA fM fN fF fO t0 t1 t2 t3 t4 : Nat} (b : Qf P f 83 [.tmp 6, .tmp 7] (XU fA fM fN fF fO t0 t1 t2 t3 t4)) (hA : Qrp P fA) (hM : QiO P fM) (hN : Qrq P fN) (hF : Qd7 P fF) (hO : Qrm P fO) : QmI P f := by
 intro c x t l hl hI hL
 have hk : (ks .i32 t).length = 16 := by simp [Qe, hl]
 have ot := JU .i32 t
 have tt : (ks .i32 t).take 16 = ks .i32 t := QG (by omega)
 refine VC.of_walk 1 (by simp [isDL, isD, Zu, QB, shA]) (Qt1 _ _ _ _) (ACall.of_body b (by simp) ?_)
 have hA' := hA c x l hL
 rw [shA] at hA'
 unfold XU
 rw [show ([.int .i64 0, .int .i32 0, .int .i64 0, .int .i32 0, .int .i32 0, .int .i32 0, .int .i32 0, .int .i32 0, .int .i32 0, .int .i32 0, .int .i32 0, .int .i32 0, .int .i32 0, .int .i32 0, .int .i32 0, .int .i32 0, .int .i32 0, .int .i32 0, .int .i32 0, .int .i32 0, .int .i32 0, .int .i32 0, .int .i32 0, .int .i32 0, .int .i32 0, .int .i32 0, .int .i32 0, .int .i32 0, .int .i32 0, .int .i32 0, .int .i32 0, .int .i32 0, .int .i32 0, .int .i32 0, .int .i32 0, .int .i64 0, .int .i32 0, .int .i64 0, .int .i32 0, .int .i32 0, .int .i32 0, .int .i32 0, .int .i32 0, .int .i32 0, .int .i32 0, .int .i32 0, .int .i32 0, .int .i32 0, .int .i32 0, .int .i32 0, .int .i32 0, .int .i32 0, .int .i32 0, .int .i32 0, .int .i32 0, .int .i32 0, .int .i32 0, .int .i32 0, .int .i32 0, .int .i32 0, .int .i32 0, .int .i32 0, .int .i32 0, .int .i32 0, .int .i32 0, .int .i32 0, .int .i32 0, .int .i32 0, .int .i32 0, .int .i32 0, .int .i64 0, .int .i32 0, .int .i64 0, .int .i32 0, .int .i32 0, .int .i32 0, .int .i32 0, .int .i32 0, .int .i32 0, .int .i32 0, .int .i32 0, .int .i32 0, .int .i32 0, .int .i32 0, .int .i32 0, .int .i32 0, .int .i32 0, .int .i32 0, .int .i32 0, .int .i32 0, .int .i32 0, .int .i32 0, .int .i32 0, .int .i32 0, .int .i32 0, .int .i32 0, .int .i32 0, .int .i32 0, .int .i32 0, .int .i32 0, .int .i32 0, .int .i32 0, .int .i32 0, .int .i32 0, .int .i32 0, .int .i64 0, .int .i32 0, .int .i64 0, .int .i32 0, .int .i32 0, .int .i32 0, .int .i32 0, .int .i32 0, .int .i32 0, .int .i32 0, .int .i32 0, .int .i32 0, .int .i32 0, .int .i32 0, .int .i32 0, .int .i32 0, .int .i32 0, .int .i32 0, .int .i32 0, .int .i32 0, .int .i32 0, .int .i32 0, .int .i32 0, .int .i32 0, .int .i32 0, .int .i32 0, .int .i32 0, .int .i32 0, .int .i32 0, .int .i32 0, .int .i32 0, .int .i32 0, .int .i32 0, .int .i32 0, .int .i32 0, .int .i64 0, .int .i32 0, .int .i64 0, .int .i32 0, .int .i32 0, .int .i32 0, .int .i32 0, .int .i32 0, .int .i32 0, .int .i32 0, .int .i32 0, .int .i32 0, .int .i32 0, .int .i32 0, .int .i32 0, .int .i32 0, .int .i32 0, .int .i32 0, .int .i32 0, .int .i32 0, .int .i32 0, .int .i32 0, .int .i32 0, .int .i32 0, .int .i32 0, .int .i32 0, .int .i32 0, .int .i32 0, .int .i32 0, .int .i32 0, .int .i32 0, .int .i32 0, .int .i32 0, .int .i32 0, .int .i32 0, .int .i64 0, .int .i32 0, .int .i64 0, .int .i32 0, .int .i32 0, .int .i32 0, .int .i32 0, .int .i32 0, .int .i32 0, .int .i32 0, .int .i32 0, .int .i32 0, .int .i32 0, .int .i32 0, .int .i32 0, .int .i32 0, .int .i32 0, .int .i32 0, .int .i32 0, .int .i32 0, .int .i32 0, .int .i32 0, .int .i32 0, .int .i32 0, .int .i32 0, .int .i32 0, .int .i32 0, .int .i32 0, .int .i32 0, .int .i32 0, .int .i32 0, .int .i32 0, .int .i32 0, .int .i32 0, .int .i32 0] : List AV) = six (fun _ => QcU) from rfl, ← QeF]
 simp (maxSteps := 4000000) (disch := omega) only [rq, simprocAttr, shA, hk, ot, tt]
 refine Qa.vc hA' ?_
 by_cases h0 : QbU c x l = 0
 ·obtain ⟨k, rfl, hok, hx⟩ := Qq9 hL h0
  have hz := QtU hx hl hI
  have l0 := Qll (S := fun _ => QcU) (fun _ => QhN)
  have o0 := Quz (fun _ => QcU)
  simp (maxSteps := 4000000) (disch := omega) only [rq, simprocAttr, h0]
  refine Qa.vc (hM k l hok) ?_
  obtain ⟨h1, h2, h3, h4, h5, h6⟩ := id hok
  have lm := QgN k l
  have hI2 := QoI (c := k) hL
  have tm : isTL (ks .i32 (QaK k l)) = true := Qq _ _
  generalize hm : QaK k l = m at lm hI2 tm
  simp (maxSteps := 4000000) (disch := omega) only [rq, simprocAttr, l0, o0]
  refine QN.by (ι := Nat) (fun i => ⟨[(36, .int .i64 i), (11, .ref 2 1 0), (9, il m), (4, .ref 1 1 0), (3, .ref 0 1 0)], [⟨t0, 2, 1, [.int .i64 k, .int .i64 x], 0⟩, ⟨t1, 16, 1, ks .i32 t, 0⟩, ⟨t2, 210, 1, six (QrC (QdN x t) i), 0⟩]⟩) (fun i => i ≤ 6) (fun i => 6 - i) 0 (by rw [QuZ]; exact Le.slots (by simp [Am.look])) (by omega) ?_
  intro i hi
  have oS := QtT hz.2.2.1 i
  have lS := Qll oS
  by_cases hlt : i < 6
  ·have e1 := Qpl oS hlt (QdN x t)
   rw [QpR] at e1
   have lc := XZ hz.2.2.1
   have oc := Qak (QdN x t)
   simp (maxSteps := 4000000) (disch := omega) only [rq, simprocAttr, hk, tt]
   refine Qa.vc (hN x t hl hI) ?_
   simp (maxSteps := 4000000) (disch := omega) only [rq, simprocAttr, Qop, if_neg hx, lS, lc, oc, e1]
   exact ⟨i + 1, by omega, by omega, Le.slots (by simp [Am.look])⟩
  ·have : i = 6 := by omega
   subst this
   simp (maxSteps := 4000000) (disch := omega) only [rq, simprocAttr, il]
   refine QN.by (ι := Nat) (fun i => ⟨[(51, .int .i64 i), (50, .int .i64 m.length), (49, il m), (13, .own 3 i), (11, .ref 2 1 0), (3, .ref 0 1 0)], [⟨t0, 2, 1, [.int .i64 k, .int .i64 x], 0⟩, ⟨t1, 16, 1, ks .i32 t, 0⟩, ⟨t2, 210, 1, six (stA k m (QdN x t) i), 0⟩, ⟨t4, 1, i, ks .u32 (QkV k m (QdN x t) i), 0⟩]⟩) (fun i => i ≤ m.length) (fun i => m.length - i) 0 (by rw [QvK, ← QvL]; exact Le.trans (Le.virt 13 t4 1 (by omega) rfl) (Le.slots (by simp [Am.look, QkV, il]))) (by omega) ?_
   intro i hi
   have lo := QhK k m (QdN x t) i
   by_cases hlt : i < m.length
   ·have oS := QuY hI2 hz (c := k) i
    have lS := Qll oS
    have hr := Nat.mod_lt i (show 0 < k by omega)
    have e0 := QuR oS (k := i % k) (by omega)
    rw [QuN h1] at e0
    have e1 := Qpl oS (k := i % k) (by omega) (Qbs (stC k m (QdN x t) (i % k) (i / k)) (m.getD i 0))
    rw [QrS h1] at e1
    have hok2 := QpM (c := k) hI2 hz (i % k) (i / k)
    have hok3 := Qly hok2 (XY hI2 i)
    have hF' := hF _ (m.getD i 0) hok2 (XY hI2 i)
    have hO' := hO (Qmf (stC k m (QdN x t) (i % k) (i / k)) (m.getD i 0)) (QcC _)
    have e2 := QdQ (K := .i32) (l := m) (i := i) hlt
    have e3 : ks .u32 (QkV k m (QdN x t) i) ++ [.int .u32 (Qj3 (Qmf (stC k m (QdN x t) (i % k) (i / k)) (m.getD i 0)))] = ks .u32 (QkV k m (QdN x t) (i + 1)) := by rw [QhT, ← QpK]; rfl
    have lc := XZ hok3.2.2.1
    have oc := Qak (Qbs (stC k m (QdN x t) (i % k) (i / k)) (m.getD i 0))
    have tc : (Zt (Qbs (stC k m (QdN x t) (i % k) (i / k)) (m.getD i 0))).take 35 = Zt (Qbs (stC k m (QdN x t) (i % k) (i / k)) (m.getD i 0)) := QG (by omega)
    have lz := XZ QhN
    have oz := Qak QcU
    have dz : (Zt QcU).drop 35 = [] := List.drop_eq_nil_of_le (by omega)
    have em : (i : Int) % k = (i % k : Nat) := by omega
    simp (maxSteps := 4000000) (disch := omega) only [rq, simprocAttr, il, e2, em, e0]
    refine Qa.vc hF' ?_
    simp (maxSteps := 4000000) (disch := omega) only [rq, simprocAttr, lz, oz, lc, oc, tc, e1, lS, dz, List.append_nil]
    refine Qa.vc hO' ?_
    simp (maxSteps := 4000000) (disch := omega) only [rq, simprocAttr, e3]
    exact ⟨i + 1, by omega, by omega, Le.dropT [_, _, _, _] (by simp [Qsp, Qq, isTL, isT]) (by simp [Am.look, QF, frzL, QE, frzL_T _ tm])⟩
   ·have : i = m.length := by omega
    subst this
    have e9 : QrK k x t l = .tup [Qtx (QkV k m (QdN x t) m.length), .int .i64 0] := by simp [QrK, h0, hm, lm]
    clear hi hlt
    have hq : ¬ (m.length : Int) < m.length := by omega
    simp (maxSteps := 4000000) (disch := omega) only [rq, simprocAttr, e9]
    simp [QT, QF, frzL, QE, isDL, isD, Qtx, lo, frzL_T _ (Qq .u32 _)]
 ·have e9 : QrK c x t l = .tup [.list 0 [], .int .i64 (QbU c x l)] := by simp [QrK, h0]
  simp (maxSteps := 4000000) (disch := omega) only [rq, simprocAttr, h0, e9]
  simp [QT, QF, frzL, QE, isDL, isD]
theorem QpB (K : IntKind) : ∀ n : Nat, Qo [.int K 0] n = ks K (List.replicate n 0)
 | 0 => rfl
 | n + 1 => by rw [Qo, QpB K n]; simp [ks, List.replicate_succ]
def U32 (l : List Int) : Prop := ∀ x ∈ l, 0 ≤ x ∧ x < 4294967296
def Qkm (r n : Int) : AV := if r < 1 ∨ 1048576 < r then .tup [.int .i64 0, .int .i64 2] else if n < 1 ∨ 4000 < n then .tup [.int .i64 0, .int .i64 2] else if 1000 < (n + Qd r - 1) / Qd r then .tup [.int .i64 0, .int .i64 4] else .tup [.int .i64 ((n + Qd r - 1) / Qd r), .int .i64 0]
theorem Qt7 (r n : Int) : isD (Qkm r n) = true := by unfold Qkm; split <;> (try split) <;> (try split) <;> rfl
def QbZ (P : Prg) (f : Nat) : Prop := ∀ r n : Int, VC P f [.int .i64 r, .int .i64 n] (Qkm r n)
theorem QhR {P : Prg} {f fL : Nat} (b : Qf P f 32 [.tmp 4, .tmp 5] (Jl fL)) (hL : Xf P fL) : QbZ P f := by
 intro r n
 refine VC.of_acall rfl (Qt7 _ _) (ACall.of_body b (by simp) ?_)
 have hL' := hL r
 simp (maxSteps := 4000000) (disch := omega) only [rq, simprocAttr, Jl]
 refine Qa.vc hL' ?_
 by_cases h1 : r < 1 ∨ 1048576 < r
 ·have e1 : Qa7 r = .tup [.int .i64 0, .int .i64 2] := by rw [Qa7, if_pos h1]
  have e2 : Qkm r n = .tup [.int .i64 0, .int .i64 2] := by rw [Qkm, if_pos h1]
  simp (maxSteps := 4000000) (disch := omega) only [rq, simprocAttr, e1, e2]
 have e1 : Qa7 r = .tup [.int .i64 (Qd r), .int .i64 0] := by rw [Qa7, if_neg h1]
 have p1 := ZN r
 have p2 := QeQ (r := r) (by omega)
 by_cases h2 : n < 1
 ·have e2 : Qkm r n = .tup [.int .i64 0, .int .i64 2] := by rw [Qkm, if_neg h1, if_pos (.inl h2)]
  simp (maxSteps := 4000000) (disch := omega) only [rq, simprocAttr, e1, e2]
 by_cases h3 : 4000 < n
 ·have e2 : Qkm r n = .tup [.int .i64 0, .int .i64 2] := by rw [Qkm, if_neg h1, if_pos (.inr h3)]
  simp (maxSteps := 4000000) (disch := omega) only [rq, simprocAttr, e1, e2]
 have e2 : Qkm r n = if 1000 < (n + Qd r - 1) / Qd r then .tup [.int .i64 0, .int .i64 4] else .tup [.int .i64 ((n + Qd r - 1) / Qd r), .int .i64 0] := by
  rw [Qkm, if_neg h1, if_neg (by omega)]
 generalize Qd r = L at *
 have q0 : (n + L - 1).tdiv L = (n + L - 1) / L := Int.tdiv_eq_ediv_of_nonneg (by omega)
 have q1 : 0 ≤ (n + L - 1) / L := Int.ediv_nonneg (by omega) (by omega)
 have q2 : (n + L - 1) / L ≤ n + L - 1 := Int.ediv_le_self _ (by omega)
 generalize hq : (n + L - 1) / L = Q at *
 by_cases h4 : 1000 < Q
 ·rw [if_pos h4] at e2
  simp (maxSteps := 4000000) (disch := omega) only [rq, simprocAttr, e1, q0, hq, e2]
 ·rw [if_neg h4] at e2
  simp (maxSteps := 4000000) (disch := omega) only [rq, simprocAttr, e1, q0, hq, e2]
def Qdy (P : Prg) (f : Nat) : Prop := ∀ (c x r : Int) (l : List Int), VC P f [.agg [.int .i64 c, .int .i64 x, .int .i64 r, il l]] (shA c x)
theorem Qoq {P : Prg} {f t0 t1 : Nat} (b : Qf P f 8 [.cell 2 t1] (Qbj t0 t1)) (ht : ZK P t1 = some (some 2)) : Qdy P f := by
 intro c x r l
 refine VC.of_acall (by simp [isDL, isD, Zu]) rfl (ACall.of_body b (by simp) ?_)
 simp (maxSteps := 4000000) (disch := omega) only [rq, simprocAttr, Qbj, il, ZL, ht, shA]
def Qic (r n : Int) : Int := if r < 1 ∨ 1048576 < r then 2 else if n < 1 ∨ 4000 < n then 2 else if 1000 < (n + Qd r - 1) / Qd r then 4 else 0
theorem Qno (r n : Int) : ∃ k : Int, Qkm r n = .tup [.int .i64 k, .int .i64 (Qic r n)] := by
 unfold Qkm Qic
 split
 ·exact ⟨_, rfl⟩
 split
 ·exact ⟨_, rfl⟩
 split
 ·exact ⟨_, rfl⟩
 ·exact ⟨_, rfl⟩
def XM (c x r n : Int) : Int := if QH c x ≠ 0 then 8 else if n < 1 then 8 else if 4000 / c < n then 8 else if Qic r n ≠ 0 then 8 else 0
def QmM (P : Prg) (f : Nat) : Prop := ∀ (c x r n : Int) (l : List Int), VC P f [.agg [.int .i64 c, .int .i64 x, .int .i64 r, il l], .int .i64 n] (.int .i64 (XM c x r n))
theorem QqP {P : Prg} {f fS fE fC t0 : Nat} (b : Qf P f 31 [.tmp 4] (QbX fS fE fC t0)) (hS : Qdy P fS) (hE : JG P fE) (hC : QbZ P fC) : QmM P f := by
 intro c x r n l
 refine VC.of_acall (by simp [isDL, isD, Zu]) rfl (ACall.of_body b (by simp) ?_)
 have hS' := hS c x r l
 have hE' := hE c x
 rw [shA] at hS' hE'
 rw [il] at hS'
 obtain ⟨k, ek⟩ := Qno r n
 have hC' := hC r n
 rw [ek] at hC'
 simp (maxSteps := 4000000) (disch := omega) only [rq, simprocAttr, QbX, il]
 refine Qa.vc hS' ?_
 simp (maxSteps := 4000000) (disch := omega) only [rq, simprocAttr]
 refine Qa.vc hE' ?_
 rcases QZ c x with h1 | ⟨h1, h2, h3, h4⟩
 ·have e9 : XM c x r n = 8 := by simp [XM, h1]
  simp (maxSteps := 4000000) (disch := omega) only [rq, simprocAttr, h1, e9]
 have q0 : (4000 : Int).tdiv c = 4000 / c := Int.tdiv_eq_ediv_of_nonneg (by omega)
 have q1 : 0 ≤ (4000 : Int) / c := Int.ediv_nonneg (by omega) (by omega)
 have q2 : (4000 : Int) / c ≤ 4000 := Int.ediv_le_self _ (by omega)
 by_cases h5 : n < 1
 ·have e9 : XM c x r n = 8 := by simp [XM, h5]
  simp (maxSteps := 4000000) (disch := omega) only [rq, simprocAttr, h1, e9]
 by_cases h6 : 4000 / c < n
 ·have e9 : XM c x r n = 8 := by simp [XM, h6]
  simp (maxSteps := 4000000) (disch := omega) only [rq, simprocAttr, h1, e9, q0]
 simp (maxSteps := 4000000) (disch := omega) only [rq, simprocAttr, h1, q0]
 refine Qa.vc hC' ?_
 by_cases h7 : Qic r n = 0
 ·have e9 : XM c x r n = 0 := by simp [XM, h1, h5, h6, h7]
  simp (maxSteps := 4000000) (disch := omega) only [rq, simprocAttr, h7, e9]
 ·have e9 : XM c x r n = 8 := by simp [XM, h7]
  simp (maxSteps := 4000000) (disch := omega) only [rq, simprocAttr, h7, e9]
def ZH (c x r : Int) (l : List Int) : Int := if c < 1 then 8 else if (l.length : Int) % c ≠ 0 then 8 else if XM c x r (l.length / c) ≠ 0 then 8 else if QL x l ≠ 0 then 8 else 0
theorem Qn6 (c x r n : Int) : XM c x r n = 8 ∨ XM c x r n = 0 := by
 unfold XM; split <;> (try split) <;> (try split) <;> (try split) <;> simp
def Qbn (P : Prg) (f : Nat) : Prop := ∀ (c x r : Int) (l : List Int), I32 l → l.length ≤ 1000000 → VC P f [.agg [.int .i64 c, .int .i64 x, .int .i64 r, il l]] (.int .i64 (ZH c x r l))
theorem Qot {P : Prg} {f fH fW t0 : Nat} (b : Qf P f 33 [.tmp 2] (XF fH fW t0)) (hH : QmM P fH) (hW : Qdv P fW) : Qbn P f := by
 intro c x r l hI hl
 ·refine VC.of_acall (by simp [isDL, isD, Zu]) rfl (ACall.of_body b (by simp) ?_)
  by_cases h1 : c < 1
  ·have e9 : ZH c x r l = 8 := by simp [ZH, h1]
   simp (maxSteps := 4000000) (disch := omega) only [rq, simprocAttr, XF, il, e9]
  have hm := QbL (n := l.length) (c := c) (by omega)
  have hd := Qfw (n := l.length) (c := c) (by omega)
  have q0 : (l.length : Int).tdiv c = l.length / c := Int.tdiv_eq_ediv_of_nonneg (by omega)
  by_cases h2 : (l.length : Int) % c = 0
  ·have hH' := hH c x r (l.length / c) l
   have hW' := hW x l hI
   rw [il] at hH' hW'
   simp (maxSteps := 4000000) (disch := omega) only [rq, simprocAttr, XF, il, h2, q0]
   refine Q4.vc hH' ?_
   rcases Qn6 c x r (l.length / c) with h3 | h3
   ·have e9 : ZH c x r l = 8 := by simp [ZH, h3]
    simp (maxSteps := 4000000) (disch := omega) only [rq, simprocAttr, h3, e9]
   ·simp (maxSteps := 4000000) (disch := omega) only [rq, simprocAttr, h3]
    refine Qa.vc hW' ?_
    by_cases h4 : QL x l = 0
    ·have e9 : ZH c x r l = 0 := by simp [ZH, h1, h2, h3, h4]
     simp (maxSteps := 4000000) (disch := omega) only [rq, simprocAttr, h4, e9]
    ·have e9 : ZH c x r l = 8 := by simp [ZH, h4]
     simp (maxSteps := 4000000) (disch := omega) only [rq, simprocAttr, h4, e9]
  ·have e9 : ZH c x r l = 8 := by simp [ZH, h2]
   simp (maxSteps := 4000000) (disch := omega) only [rq, simprocAttr, XF, il, h2, e9]
def QiB (c x n : Int) : Int := if QH c x ≠ 0 then 2 else if n < 1 then 2 else if 4000 / c < n then 2 else 0
def Zw (L n : Nat) : List Int := List.replicate ((n - 1) / L) (L : Int) ++ [(n : Int) - ((n - 1) / L * L : Nat)]
theorem Xv (L n : Nat) : (Zw L n).length = (n - 1) / L + 1 := by simp [Zw]
def QoJ (l : List Int) : AV := .list l.length (ks .i64 l)
theorem QhU (l : List Int) : isD (QoJ l) = true := by simp [QoJ, isD, QB]
theorem Qp6 (c x r n : Int) : XM c x r n = if QiB c x n = 0 ∧ Qic r n = 0 then 0 else 8 := by
 unfold XM QiB
 by_cases h1 : QH c x = 0 <;> by_cases h2 : n < 1 <;> by_cases h3 : 4000 / c < n <;> by_cases h4 : Qic r n = 0 <;> simp [h1, h2, h3, h4]
theorem Qnp {c x r : Int} {l : List Int} : ZH c x r l = if QbU c x l = 0 ∧ XM c x r (l.length / c) = 0 then 0 else 8 := by
 unfold ZH QbU
 by_cases h0 : XM c x r (l.length / c) = 0
 ·have h0' := h0
  rw [Qp6] at h0'
  have ha : QiB c x (l.length / c) = 0 := by
   by_cases h : QiB c x (l.length / c) = 0 ∧ Qic r (l.length / c) = 0
   ·exact h.1
   ·rw [if_neg h] at h0'; cases h0'
  have hE : QH c x = 0 := by
   by_cases h : QH c x = 0
   ·exact h
   ·simp [QiB, h] at ha
  have hn : ¬ (l.length : Int) / c < 1 := by
   intro h
   simp [QiB, h] at ha
  have hc : ¬ c < 1 := by
   rcases QZ c x with h | h <;> omega
  have hl : l.length ≠ 0 := by
   intro h
   rw [h] at hn
   simp at hn
  by_cases h2 : (l.length : Int) % c = 0 <;> by_cases h3 : QL x l = 0 <;> simp [hE, hc, hl, h0, h2, h3]
 ·simp [h0]
def clA (c x r : Int) (l : List Int) : AV := .agg [.int .i64 c, .int .i64 x, .int .i64 r, il l]
def leB (n : Nat) : Nat → List UInt8
 | 0 => []
 | k + 1 => UInt8.ofNat (n % 256) :: leB (n / 256) k
theorem Qb : ∀ (k n : Nat), (leB n k).length = k
 | 0, _ => rfl
 | k + 1, n => by simp [leB, Qb k]
theorem QlD : ∀ (k n i : Nat) (h : i < k), (leB n k)[i]? = some (UInt8.ofNat (n / 256 ^ i % 256))
 | k + 1, n, 0, _ => by simp [leB]
 | k + 1, n, i + 1, h => by
  simp only [leB, List.getElem?_cons_succ]
  rw [QlD k (n / 256) i (by omega), Nat.div_div_eq_div_mul, Nat.pow_succ, Nat.mul_comm]
theorem Qdg {n k i : Nat} (h : i < k) : (leB n k).take (i + 1) = (leB n k).take i ++ [UInt8.ofNat (n / 256 ^ i % 256)] := by
 rw [List.take_add_one, QlD k n i h]
 rfl
theorem Qv2 {K : IntKind} {n k : Nat} (hk : k ≤ K.bits) : Qh false K (n : Int) (k : Int) = some (.int K ((n / 2 ^ k : Nat) : Int)) := by
 have h3 : ¬ ((k : Int) < 0) := by omega
 have h5 : min k K.bits = k := by omega
 have h6 : (n : Int).fdiv (2 ^ k) = ((n / 2 ^ k : Nat) : Int) := by
  rw [Int.fdiv_eq_ediv_of_nonneg _ (Int.pow_nonneg (by decide))]
  simp [Int.natCast_ediv, Int.natCast_pow]
 simp only [Qh, if_neg h3, Bool.false_eq_true, if_false, Int.toNat_natCast, h5, h6]
def Qrf (P : Prg) (f : Nat) : Prop := ∀ n w : Nat, 1 ≤ w → w ≤ 8 → VC P f [.int .u64 n, .int .i64 w] (.bool (decide (w = 8) || decide (n / 2 ^ (8 * w) = 0)))
theorem Qt0 {P : Prg} {f : Nat} (b : Qf P f 14 [.tmp 4] QaR) : Qrf P f := by
 intro n w h1 h2
 refine VC.of_acall rfl rfl (ACall.of_body b (by simp) ?_)
 by_cases h8 : w = 8
 ·subst h8
  simp (maxSteps := 4000000) (disch := omega) only [rq, simprocAttr, QaR]
 ·have e1 : (decide (w = 8)) = false := by simpa using h8
  have e2 : Qh false .u64 (n : Int) (8 * (w : Int)) = some (.int .u64 ((n / 2 ^ (8 * w) : Nat) : Int)) := by
   have := Qv2 (K := .u64) (n := n) (k := 8 * w) (by simp [IntKind.bits]; omega)
   rwa [Int.natCast_mul] at this
  have e3 : (((n / 2 ^ (8 * w) : Nat) : Int) == 0) = decide (n / 2 ^ (8 * w) = 0) := by rw [Bool.eq_iff_iff]; simp only [beq_iff_eq, decide_eq_true_eq]; omega
  have e4 : ((w : Int) = 8) = False := eq_false (by omega)
  by_cases h9 : n / 2 ^ (8 * w) = 0
  ·have e5 : (decide (n / 2 ^ (8 * w) = 0)) = true := by simpa using h9
   have e6 : (((n / 2 ^ (8 * w) : Nat) : Int) = 0) = True := eq_true (by omega)
   rw [e5]
   simp (maxSteps := 4000000) (disch := omega) only [rq, simprocAttr, QaR, e1, e2, e4, e6]
  ·have e5 : (decide (n / 2 ^ (8 * w) = 0)) = false := by simpa using h9
   have e6 : (((n / 2 ^ (8 * w) : Nat) : Int) = 0) = False := eq_false (by omega)
   rw [e5]
   simp (maxSteps := 4000000) (disch := omega) only [rq, simprocAttr, QaR, e1, e2, e4, e6]
def J4 (P : Prg) (f : Nat) : Prop := ∀ n w : Nat, 1 ≤ w → w ≤ 8 → n < 256 ^ w → VC P f [.int .u64 n, .int .i64 w] (.tup [bs (leB n w), .int .i64 0])
theorem Qsz {t n : Nat} {l : List UInt8} (h : n = l.length) {e : Int} : QT (fun _ => true) [⟨t, 1, n, u8 l, 0⟩] 2 [.tup [.own 0 n, .int .i64 e]] = some [.tup [bs l, .int .i64 e]] := by
 subst h
 simp only [QT, QF, frzL, QE, Bool.false_eq_true, if_false, List.getElem?_cons_zero, and_self, if_true, frzL_T _ (Qr l), Option.map_some, bs]
theorem Qsm {P : Prg} {f fF t0 : Nat} (b : Qf P f 35 [.tmp 4, .tmp 5] (Qbg fF t0)) (hF : Qrf P fF) : J4 P f := by
 intro n w h1 h2 hn
 refine VC.of_walk 1 (by simp [isDL, isD]) (by simp [isD, isDL, QP]) (ACall.of_body b (by simp) ?_)
 have hn8 : n < 18446744073709551616 := Nat.lt_of_lt_of_le hn (Nat.le_trans (Nat.pow_le_pow_right (by omega) h2) (by decide))
 simp (maxSteps := 4000000) (disch := omega) only [rq, simprocAttr, Qbg]
 refine Qa.vc (hF n w h1 h2) ?_
 have e0 : (decide (w = 8) || decide (n / 2 ^ (8 * w) = 0)) = true := by
  have : n / 2 ^ (8 * w) = 0 := Nat.div_eq_of_lt (by rw [Nat.pow_mul]; exact hn)
  simp [this]
 rw [e0]
 have r0 : Qo [.int .u8 0] w = u8 ([] : List UInt8) ++ List.replicate w (.int .u8 0) := by
  have : ∀ k, Qo [AV.int .u8 0] k = List.replicate k (.int .u8 0) := fun k => by
   induction k with
   | zero => rfl
   | succ k ih => simp [Qo, ih, List.replicate_succ]
  rw [this]; rfl
 simp (maxSteps := 4000000) (disch := omega) only [rq, simprocAttr, Qbg]
 rw [r0]
 refine QN.by (ι := Nat) (fun k => ⟨[(22, .int .i64 k), (21, .int .i64 w), (6, .own 0 w), (0, .int .u64 n)], [⟨t0, 1, w, u8 ((leB n w).take k) ++ List.replicate (w - k) (.int .u8 0), 0⟩]⟩) (fun k => k ≤ w) (fun k => w - k) 0 (Le.slots (by simp [Am.look])) (by omega) ?_
 intro k hk
 by_cases hlt : k < w
 ·have e2 : Qh false .u64 (n : Int) (8 * (k : Int)) = some (.int .u64 ((n / 256 ^ k : Nat) : Int)) := by
   have := Qv2 (K := .u64) (n := n) (k := 8 * k) (by simp [IntKind.bits]; omega)
   rwa [Int.natCast_mul, Nat.pow_mul] at this
  have e3 : IntKind.u8.wrap ((n / 256 ^ k : Nat) : Int) = ((UInt8.ofNat (n / 256 ^ k % 256)).toNat : Int) := by
   simp [IntKind.wrap, IntKind.signed, IntKind.bits]
  have hl : (u8 ((leB n w).take k)).length = k := by simp [Qz, Qb]; omega
  have e4 : (u8 ((leB n w).take k) ++ List.replicate (w - k) (AV.int .u8 0)).take k = u8 ((leB n w).take k) := by rw [List.take_left' hl]
  have e5 : (u8 ((leB n w).take k) ++ List.replicate (w - k) (AV.int .u8 0)).drop (k + 1) = List.replicate (w - (k + 1)) (.int .u8 0) := by
   rw [List.drop_append, List.drop_of_length_le (by omega), hl]
   simp
   omega
  have e6 : u8 ((leB n w).take k) ++ [AV.int .u8 ((UInt8.ofNat (n / 256 ^ k % 256)).toNat : Int)] = u8 ((leB n w).take (k + 1)) := by
   rw [Qdg hlt, ← QbF]; rfl
  simp (maxSteps := 4000000) (disch := omega) only [rq, simprocAttr, e2, e3, hl, e4, e5, e6]
  refine ⟨k + 1, by omega, by omega, ?_⟩
  refine Le.slots ?_
  simp [Am.look]
 ·have ek : k = w := by omega
  subst ek
  have e7 : (leB n k).take k = leB n k := List.take_of_length_le (by rw [Qb]; exact Nat.le_refl _)
  have e8 : u8 (leB n k) ++ List.replicate (k - k) (AV.int .u8 0) = u8 (leB n k) := by simp
  simp (maxSteps := 4000000) (disch := omega) only [rq, simprocAttr, e7]
  rw [e8, Qsz (Qb k n).symm]
theorem QpX : ∀ (k n : Nat), n < 256 ^ k → leN (leB n k) = n
 | 0, n, h => by simp at h; subst h; rfl
 | k + 1, n, h => by
  have h1 : n / 256 < 256 ^ k := by rw [Nat.pow_succ] at h; exact Nat.div_lt_of_lt_mul (by omega)
  have h2 : (UInt8.ofNat (n % 256)).toNat = n % 256 := by simp
  simp only [leB, leN, QpX k _ h1, h2]
  omega
theorem QvH {l : List UInt8} {k : Nat} (h : k < l.length) : (u8 l).drop k = .int .u8 (l[k]).toNat :: u8 (l.drop (k + 1)) := by
 rw [QdF, List.drop_eq_getElem_cons h]; rfl
def QuO (c b r : Int) : Prop := 1 ≤ c ∧ c ≤ 6 ∧ Z3 b ≠ 0 ∧ 1 ≤ r ∧ r ≤ 1048576
instance (c b r : Int) : Decidable (QuO c b r) := by unfold QuO; exact inferInstance
theorem QlL (b : Int) : Z3 b ≠ 0 ↔ b = 8 ∨ b = 16 ∨ b = 24 := by
 rcases Za b with ⟨rfl, h⟩ | ⟨rfl, h⟩ | ⟨rfl, h⟩ | ⟨h1, h2, h3, h⟩ <;> simp [h] <;> omega
theorem VC.of_vo {P : Prg} {f : FuncId} {ds : List AV} {x : Ob} (h : VO P f ds (.own 0 x.n) x) (hx : isTL x.cs = true) (hd : isDL x.cs = true) : VC P f ds (.list x.n x.cs) := by
 refine VC.of_walk 1 h.2.1 (by simp only [isD]; exact hd) (ACall.of_vo h ?_)
 simp [shr, QT, QF, frzL, QE, frzL_T _ hx]
theorem Qd9 (x : Int) : IntKind.i32.wrap x = (x + 2147483648) % 4294967296 - 2147483648 := by
 simp only [IntKind.wrap, IntKind.bits, IntKind.signed]
 simp
 omega
theorem QjJ {a c s : Nat} (h : a < 2 ^ s) (h2 : a + c * 2 ^ s < 2147483648) : IntKind.i32.wrap (BitVec.ofInt IntKind.i32.bits (a : Int) ||| BitVec.ofInt IntKind.i32.bits ((c * 2 ^ s : Nat) : Int)).toNat = ((a + c * 2 ^ s : Nat) : Int) := by
 have e1 : (BitVec.ofInt IntKind.i32.bits (a : Int) ||| BitVec.ofInt IntKind.i32.bits ((c * 2 ^ s : Nat) : Int)).toNat = a ||| c * 2 ^ s := by
  rw [BitVec.toNat_or]
  simp only [IntKind.bits, BitVec.toNat_ofInt]
  congr 1
  ·omega
  ·omega
 rw [e1, QpL h, J9 (by omega) (by omega)]
def Qjs (b : Int) (s : List UInt8) : Int := if b = 8 then (leN s : Int) - 128 else if Z3 b ≤ (leN s : Int) then (leN s : Int) - 2 * Z3 b else leN s
def Z2 (b : Int) (l : List UInt8) : List Int := (List.range (l.length / (b / 8).toNat)).map fun i => Qjs b ((l.drop (i * (b / 8).toNat)).take (b / 8).toNat)
def Jt (b : Int) (l : List UInt8) : AV :=
 if Z3 b = 0 then .tup [.list 0 [], .int .i64 2] else if l.length % (b / 8).toNat ≠ 0 then .tup [.list 0 [], .int .i64 12] else if 4000 < l.length / (b / 8).toNat then .tup [.list 0 [], .int .i64 4] else .tup [il (Z2 b l), .int .i64 0]
theorem QjT (b : Int) (l : List UInt8) : isD (Jt b l) = true := by
 unfold Jt; split <;> (try split) <;> (try split) <;> simp [isD, isDL, Zu]
theorem XJ (b : Int) (l : List UInt8) : (Z2 b l).length = l.length / (b / 8).toNat := by simp [Z2]
theorem QrW {b : Int} {l : List UInt8} {i : Nat} (h : i < (Z2 b l).length) : (Z2 b l)[i] = Qjs b ((l.drop (i * (b / 8).toNat)).take (b / 8).toNat) := by simp [Z2]
theorem Qfb {b : Int} {l : List UInt8} {i : Nat} (h : i < l.length / (b / 8).toNat) : (Z2 b l).take (i + 1) = (Z2 b l).take i ++ [Qjs b ((l.drop (i * (b / 8).toNat)).take (b / 8).toNat)] := by
 rw [List.take_succ_eq_append_getElem (by rw [XJ]; exact h), QrW]
theorem Qwj {l : List UInt8} {a : Nat} (h : a < l.length) : leN ((l.drop a).take 1) = l[a].toNat := by
 rw [List.drop_eq_getElem_cons h]; simp only [List.take_succ_cons, List.take_zero, leN]; omega
theorem Qwi {l : List UInt8} {a : Nat} (h : a + 1 < l.length) : leN ((l.drop a).take 2) = l[a].toNat + l[a + 1].toNat * 256 := by
 rw [List.drop_eq_getElem_cons (by omega), List.drop_eq_getElem_cons (by omega)]; simp only [List.take_succ_cons, List.take_zero, leN]; omega
theorem Qwh {l : List UInt8} {a : Nat} (h : a + 2 < l.length) : leN ((l.drop a).take 3) = l[a].toNat + l[a + 1].toNat * 256 + l[a + 2].toNat * 65536 := by
 have e : l[a + 2] = l[a + 1 + 1]'h := rfl
 rw [e, List.drop_eq_getElem_cons (by omega), List.drop_eq_getElem_cons (by omega), List.drop_eq_getElem_cons (by omega)]; simp only [List.take_succ_cons, List.take_zero, leN]; omega
def Qdz (P : Prg) (f : Nat) : Prop := ∀ (b : Int) (l : List UInt8), l.length < 4611686018427387904 → VC P f [.int .i64 b, bs l] (Jt b l)
theorem QuU {n : Nat} (h : n < 65536) : (IntKind.i32.wrap ((n : Int) * 65536)).fdiv 65536 = Qjs 16 [] + (if 32768 ≤ (n : Int) then (n : Int) - 65536 else n) := by
 have : Qjs 16 [] = 0 := by decide
 rw [this, Int.fdiv_eq_ediv_of_nonneg _ (by omega), Qd9]
 split <;> omega
theorem QuT {n : Nat} (h : n < 16777216) : (IntKind.i32.wrap ((n : Int) * 256)).fdiv 256 = Qjs 24 [] + (if 8388608 ≤ (n : Int) then (n : Int) - 16777216 else n) := by
 have : Qjs 24 [] = 0 := by decide
 rw [this, Int.fdiv_eq_ediv_of_nonneg _ (by omega), Qd9]
 split <;> omega
theorem Qs3 {s : List UInt8} : Qjs 16 s = if 32768 ≤ (leN s : Int) then (leN s : Int) - 65536 else leN s := by simp [Qjs, Z3]
theorem Qs2 {s : List UInt8} : Qjs 24 s = if 8388608 ≤ (leN s : Int) then (leN s : Int) - 16777216 else leN s := by simp [Qjs, Z3]
theorem QuQ {s : List UInt8} : Qjs 8 s = (leN s : Int) - 128 := by simp [Qjs]
set_option maxRecDepth 20000 in
set_option maxHeartbeats 2000000 in
theorem Qg7 {P : Prg} {f fR t0 : Nat} (bd : Qf P f 81 [.tmp 4, .tmp 5] (Zb fR t0)) (hR : QfR P fR) : Qdz P f := by
 intro b l hl
 refine VC.of_walk 1 (by simp [isDL, isD, QP]) (QjT _ _) (ACall.of_body bd (by simp) ?_)
 have hR' := hR b
 rcases Za b with ⟨rfl, h⟩ | ⟨rfl, h⟩ | ⟨rfl, h⟩ | ⟨h1, h2, h3, h⟩
 case inr.inr.inr =>
  simp only [X7, if_pos h] at hR'
  simp only [Jt, if_pos h]
  simp (maxSteps := 4000000) (disch := omega) only [rq, simprocAttr, Zb, bs]
  refine Qa.vc hR' ?_
  simp (maxSteps := 4000000) (disch := omega) only [rq, simprocAttr]
  simp [QT, QF, frzL, QE]
 ·simp only [X7, h] at hR'
  rw [if_neg (by omega)] at hR'
  have hw : ((8 : Int) / 8).toNat = 1 := rfl
  simp only [Jt, hw, h]
  rw [if_neg (by omega), if_neg (by omega)]
  have hL := XJ 8 l
  have hT := fun i => @Qfb 8 l i
  rw [hw] at hL hT
  generalize hS : Z2 8 l = S at *
  simp (maxSteps := 4000000) (disch := omega) only [rq, simprocAttr, Zb, bs]
  refine Qa.vc hR' ?_
  by_cases h4 : 4000 < l.length
  ·rw [if_pos (by omega)]
   simp (maxSteps := 4000000) (disch := omega) only [rq, simprocAttr]
   simp [QT, QF, frzL, QE]
  rw [if_neg (by omega)]
  simp (maxSteps := 4000000) (disch := omega) only [rq, simprocAttr]
  refine QN.by (ι := Nat) (fun k => ⟨[(11, .int .i64 k), (10, .own 0 k), (9, .int .i64 1), (0, .int .i64 8), (1, .list l.length (u8 l))], [⟨t0, 1, k, ks .i32 (S.take k), 0⟩]⟩) (fun k => k ≤ l.length) (fun k => l.length - k) 0 (Le.trans (Le.virt 10 t0 1 (by omega) rfl) (Le.slots (by simp [Am.look]))) (by omega) ?_
  intro k hk
  have lk : (ks .i32 (S.take k)).length = k := by rw [Qe, List.length_take]; omega
  by_cases hlt : k < l.length
  ·have e1 := QdU hlt
   have e2 := hT k (by omega)
   have b0 := l[k].toNat_lt
   rw [QuQ, Nat.mul_one, Qwj hlt] at e2
   simp (maxSteps := 4000000) (disch := omega) only [rq, simprocAttr, e1, lk, QhT]
   rw [← e2]
   exact ⟨k + 1, by omega, by omega, Le.drop1 (Qq _ _) (by simp [Am.look, QF, frzL, QE, frzL_T _ (Qr _)])⟩
  ·have ek : k = l.length := by omega
   subst ek
   have tS : S.take l.length = S := List.take_of_length_le (by omega)
   simp (maxSteps := 4000000) (disch := omega) only [rq, simprocAttr]
   rw [tS]
   simp [QT, QF, frzL, QE, frzL_T _ (Qq _ _), il, hL]
 ·simp only [X7, h] at hR'
  rw [if_neg (by omega)] at hR'
  have hw : ((16 : Int) / 8).toNat = 2 := rfl
  simp only [Jt, hw, h]
  rw [if_neg (by omega)]
  have hL := XJ 16 l
  have hT := fun i => @Qfb 16 l i
  rw [hw] at hL hT
  generalize hS : Z2 16 l = S at *
  have m1 : (l.length : Int).tmod 2 = ((l.length % 2 : Nat) : Int) := by rw [Int.tmod_eq_emod_of_nonneg (by omega)]; omega
  have m2 : (l.length : Int).tdiv 2 = ((l.length / 2 : Nat) : Int) := by rw [Int.tdiv_eq_ediv_of_nonneg (by omega)]; omega
  simp (maxSteps := 4000000) (disch := omega) only [rq, simprocAttr, Zb, bs]
  refine Qa.vc hR' ?_
  by_cases h3 : l.length % 2 ≠ 0
  ·rw [if_pos h3]
   simp (maxSteps := 4000000) (disch := omega) only [rq, simprocAttr, m1]
   simp [QT, QF, frzL, QE]
  rw [if_neg h3]
  have h3' : l.length % 2 = 0 := by omega
  by_cases h4 : 4000 < l.length / 2
  ·rw [if_pos h4]
   simp (maxSteps := 4000000) (disch := omega) only [rq, simprocAttr, m1, m2]
   simp [QT, QF, frzL, QE]
  rw [if_neg h4]
  simp (maxSteps := 4000000) (disch := omega) only [rq, simprocAttr, m1, m2]
  refine QN.by (ι := Nat) (fun k => ⟨[(11, .int .i64 ((k * 2 : Nat) : Int)), (10, .own 0 k), (9, .int .i64 2), (0, .int .i64 16), (1, .list l.length (u8 l))], [⟨t0, 1, k, ks .i32 (S.take k), 0⟩]⟩) (fun k => k ≤ l.length / 2) (fun k => l.length / 2 - k) 0 (Le.trans (Le.virt 10 t0 1 (by omega) rfl) (Le.slots (by simp [Am.look]))) (by omega) ?_
  intro k hk
  have lk : (ks .i32 (S.take k)).length = k := by rw [Qe, List.length_take]; omega
  by_cases hlt : k < l.length / 2
  ·have eT := hT k hlt
   have g : k * 2 + 2 ≤ l.length := by omega
   rw [Qs3, Qwi (by omega)] at eT
   have e0 := QdU (l := l) (k := k * 2 + 0) (by omega)
   have b0 := (l[k * 2 + 0]).toNat_lt
   have e1 := QdU (l := l) (k := k * 2 + 1) (by omega)
   have b1 := (l[k * 2 + 1]).toNat_lt
   simp only [Nat.add_zero] at e0 b0
   generalize l[k * 2] = y0 at *
   generalize l[k * 2 + 1] = y1 at *
   generalize hat : k * 2 = at_ at *
   obtain ⟨X, hX⟩ : ∃ X, X = y0.toNat + y1.toNat * 256 := ⟨_, rfl⟩
   rw [← hX] at eT
   simp (maxSteps := 4000000) (disch := omega) only [rq, simprocAttr]
   refine QN.by (ι := Nat) (fun j => ⟨[(54, .int .i64 j), (53, .int .i64 2), (12, .int .i32 (match j with | 0 => 0 | 1 => (y0.toNat : Int) | _ => (X : Int))), (11, .int .i64 (at_ : Int)), (10, .own 0 k), (9, .int .i64 2), (0, .int .i64 16), (1, .list l.length (u8 l))], [⟨t0, 1, k, ks .i32 (S.take k), 0⟩]⟩) (fun j => j ≤ 2) (fun j => 2 - j) 0 (Le.slots (by simp [Am.look])) (by omega) ?_
   intro j hj
   have o1 := @QjJ y0.toNat y1.toNat 8 (by omega) (by omega)
   rw [show y1.toNat * 2 ^ 8 = y1.toNat * 256 by rfl, ← hX] at o1
   generalize hq1 : y1.toNat * 256 = q1 at *
   have o0 : IntKind.i32.wrap (BitVec.ofInt IntKind.i32.bits 0 ||| BitVec.ofInt IntKind.i32.bits (y0.toNat : Int)).toNat = (y0.toNat : Int) := by
    have := @QjJ 0 y0.toNat 0 (by omega) (by omega)
    simpa using this
   have s0 : Qh true .i32 (y0.toNat : Int) 0 = some (.int .i32 (y0.toNat : Int)) := by simp [Qh]; rw [J9] <;> omega
   have s1 : Qh true .i32 (y1.toNat : Int) 8 = some (.int .i32 (q1 : Int)) := by simp [Qh, IntKind.bits]; rw [J9] <;> omega
   have hj3 : j = 0 ∨ j = 1 ∨ j = 2 := by omega
   rcases hj3 with rfl | rfl | rfl
   ·simp (maxSteps := 4000000) (disch := omega) only [rq, simprocAttr, e0, o0, s0]
    exact ⟨1, by omega, by omega, Le.slots (by simp [Am.look])⟩
   ·simp (maxSteps := 4000000) (disch := omega) only [rq, simprocAttr, e1, o1, s1]
    exact ⟨2, by omega, by omega, Le.slots (by simp [Am.look])⟩
   ·have z1 : ∀ x : Int, Qh true .i32 x 16 = some (.int .i32 (IntKind.i32.wrap (x * 65536))) := fun x => rfl
    have z2 : ∀ x : Int, Qh false .i32 x 16 = some (.int .i32 (x.fdiv 65536)) := fun x => rfl
    have z3 := QuU (n := X) (by omega)
    rw [show Qjs 16 [] = 0 by decide, Int.zero_add] at z3
    rw [← z3] at eT
    have z4 : (IntKind.i32.wrap ((X : Int) * 65536)).fdiv 65536 ≤ 2147483647 := by rw [z3]; split <;> omega
    have z5 : -2147483648 ≤ (IntKind.i32.wrap ((X : Int) * 65536)).fdiv 65536 := by rw [z3]; split <;> omega
    simp (maxSteps := 4000000) (disch := omega) only [rq, simprocAttr, z1, z2, lk, QhT]
    rw [← eT, ← hat]
    exact ⟨k + 1, by omega, by omega, Le.drop1 (Qq _ _) (by simp [Am.look, QF, frzL, QE, frzL_T _ (Qr _)]; try omega)⟩
  ·have ek : k = l.length / 2 := by omega
   subst ek
   have tS : S.take (l.length / 2) = S := List.take_of_length_le (by omega)
   have tw : l.length / 2 * 2 = l.length := by omega
   rw [tS, tw]
   simp (maxSteps := 4000000) (disch := omega) only [rq, simprocAttr]
   simp [QT, QF, frzL, QE, frzL_T _ (Qq _ _), il, hL]
 ·simp only [X7, h] at hR'
  rw [if_neg (by omega)] at hR'
  have hw : ((24 : Int) / 8).toNat = 3 := rfl
  simp only [Jt, hw, h]
  rw [if_neg (by omega)]
  have hL := XJ 24 l
  have hT := fun i => @Qfb 24 l i
  rw [hw] at hL hT
  generalize hS : Z2 24 l = S at *
  have m1 : (l.length : Int).tmod 3 = ((l.length % 3 : Nat) : Int) := by rw [Int.tmod_eq_emod_of_nonneg (by omega)]; omega
  have m2 : (l.length : Int).tdiv 3 = ((l.length / 3 : Nat) : Int) := by rw [Int.tdiv_eq_ediv_of_nonneg (by omega)]; omega
  simp (maxSteps := 4000000) (disch := omega) only [rq, simprocAttr, Zb, bs]
  refine Qa.vc hR' ?_
  by_cases h3 : l.length % 3 ≠ 0
  ·rw [if_pos h3]
   simp (maxSteps := 4000000) (disch := omega) only [rq, simprocAttr, m1]
   simp [QT, QF, frzL, QE]
  rw [if_neg h3]
  have h3' : l.length % 3 = 0 := by omega
  by_cases h4 : 4000 < l.length / 3
  ·rw [if_pos h4]
   simp (maxSteps := 4000000) (disch := omega) only [rq, simprocAttr, m1, m2]
   simp [QT, QF, frzL, QE]
  rw [if_neg h4]
  simp (maxSteps := 4000000) (disch := omega) only [rq, simprocAttr, m1, m2]
  refine QN.by (ι := Nat) (fun k => ⟨[(11, .int .i64 ((k * 3 : Nat) : Int)), (10, .own 0 k), (9, .int .i64 3), (0, .int .i64 24), (1, .list l.length (u8 l))], [⟨t0, 1, k, ks .i32 (S.take k), 0⟩]⟩) (fun k => k ≤ l.length / 3) (fun k => l.length / 3 - k) 0 (Le.trans (Le.virt 10 t0 1 (by omega) rfl) (Le.slots (by simp [Am.look]))) (by omega) ?_
  intro k hk
  have lk : (ks .i32 (S.take k)).length = k := by rw [Qe, List.length_take]; omega
  by_cases hlt : k < l.length / 3
  ·have eT := hT k hlt
   have g : k * 3 + 3 ≤ l.length := by omega
   rw [Qs2, Qwh (by omega)] at eT
   have e0 := QdU (l := l) (k := k * 3 + 0) (by omega)
   have b0 := (l[k * 3 + 0]).toNat_lt
   have e1 := QdU (l := l) (k := k * 3 + 1) (by omega)
   have b1 := (l[k * 3 + 1]).toNat_lt
   have e2 := QdU (l := l) (k := k * 3 + 2) (by omega)
   have b2 := (l[k * 3 + 2]).toNat_lt
   simp only [Nat.add_zero] at e0 b0
   generalize l[k * 3] = y0 at *
   generalize l[k * 3 + 1] = y1 at *
   generalize l[k * 3 + 2] = y2 at *
   generalize hat : k * 3 = at_ at *
   obtain ⟨X, hX⟩ : ∃ X, X = y0.toNat + y1.toNat * 256 := ⟨_, rfl⟩
   rw [← hX] at eT
   obtain ⟨Y, hY⟩ : ∃ Y, Y = X + y2.toNat * 65536 := ⟨_, rfl⟩
   rw [← hY] at eT
   simp (maxSteps := 4000000) (disch := omega) only [rq, simprocAttr]
   refine QN.by (ι := Nat) (fun j => ⟨[(54, .int .i64 j), (53, .int .i64 3), (12, .int .i32 (match j with | 0 => 0 | 1 => (y0.toNat : Int) | 2 => (X : Int) | _ => (Y : Int))), (11, .int .i64 (at_ : Int)), (10, .own 0 k), (9, .int .i64 3), (0, .int .i64 24), (1, .list l.length (u8 l))], [⟨t0, 1, k, ks .i32 (S.take k), 0⟩]⟩) (fun j => j ≤ 3) (fun j => 3 - j) 0 (Le.slots (by simp [Am.look])) (by omega) ?_
   intro j hj
   have o1 := @QjJ y0.toNat y1.toNat 8 (by omega) (by omega)
   rw [show y1.toNat * 2 ^ 8 = y1.toNat * 256 by rfl, ← hX] at o1
   have o2 := @QjJ X y2.toNat 16 (by omega) (by omega)
   rw [show y2.toNat * 2 ^ 16 = y2.toNat * 65536 by rfl, ← hY] at o2
   generalize hq2 : y2.toNat * 65536 = q2 at *
   generalize hq1 : y1.toNat * 256 = q1 at *
   have o0 : IntKind.i32.wrap (BitVec.ofInt IntKind.i32.bits 0 ||| BitVec.ofInt IntKind.i32.bits (y0.toNat : Int)).toNat = (y0.toNat : Int) := by
    have := @QjJ 0 y0.toNat 0 (by omega) (by omega)
    simpa using this
   have s0 : Qh true .i32 (y0.toNat : Int) 0 = some (.int .i32 (y0.toNat : Int)) := by simp [Qh]; rw [J9] <;> omega
   have s1 : Qh true .i32 (y1.toNat : Int) 8 = some (.int .i32 (q1 : Int)) := by simp [Qh, IntKind.bits]; rw [J9] <;> omega
   have s2 : Qh true .i32 (y2.toNat : Int) 16 = some (.int .i32 (q2 : Int)) := by simp [Qh, IntKind.bits]; rw [J9] <;> omega
   have hj3 : j = 0 ∨ j = 1 ∨ j = 2 ∨ j = 3 := by omega
   rcases hj3 with rfl | rfl | rfl | rfl
   ·simp (maxSteps := 4000000) (disch := omega) only [rq, simprocAttr, e0, o0, s0]
    exact ⟨1, by omega, by omega, Le.slots (by simp [Am.look])⟩
   ·simp (maxSteps := 4000000) (disch := omega) only [rq, simprocAttr, e1, o1, s1]
    exact ⟨2, by omega, by omega, Le.slots (by simp [Am.look])⟩
   ·simp (maxSteps := 4000000) (disch := omega) only [rq, simprocAttr, e2, o2, s2]
    exact ⟨3, by omega, by omega, Le.slots (by simp [Am.look])⟩
   ·have z1 : ∀ x : Int, Qh true .i32 x 8 = some (.int .i32 (IntKind.i32.wrap (x * 256))) := fun x => rfl
    have z2 : ∀ x : Int, Qh false .i32 x 8 = some (.int .i32 (x.fdiv 256)) := fun x => rfl
    have z3 := QuT (n := Y) (by omega)
    rw [show Qjs 24 [] = 0 by decide, Int.zero_add] at z3
    rw [← z3] at eT
    have z4 : (IntKind.i32.wrap ((Y : Int) * 256)).fdiv 256 ≤ 2147483647 := by rw [z3]; split <;> omega
    have z5 : -2147483648 ≤ (IntKind.i32.wrap ((Y : Int) * 256)).fdiv 256 := by rw [z3]; split <;> omega
    simp (maxSteps := 4000000) (disch := omega) only [rq, simprocAttr, z1, z2, lk, QhT]
    rw [← eT, ← hat]
    exact ⟨k + 1, by omega, by omega, Le.drop1 (Qq _ _) (by simp [Am.look, QF, frzL, QE, frzL_T _ (Qr _)]; try omega)⟩
  ·have ek : k = l.length / 3 := by omega
   subst ek
   have tS : S.take (l.length / 3) = S := List.take_of_length_le (by omega)
   have tw : l.length / 3 * 3 = l.length := by omega
   rw [tS, tw]
   simp (maxSteps := 4000000) (disch := omega) only [rq, simprocAttr]
   simp [QT, QF, frzL, QE, frzL_T _ (Qq _ _), il, hL]
theorem QnN {x : Int} (hx : Z3 x ≠ 0) {s : List UInt8} (hs : s.length = (x / 8).toNat) : -Z3 x ≤ Qjs x s ∧ Qjs x s < Z3 x := by
 have h1 := Qta s
 rw [hs] at h1
 rcases Za x with ⟨rfl, h⟩ | ⟨rfl, h⟩ | ⟨rfl, h⟩ | ⟨_, _, _, h⟩
 ·have e : (2 : Nat) ^ (8 * ((8 : Int) / 8).toNat) = 256 := by decide
  rw [e] at h1
  rw [QuQ, h]; omega
 ·have e : (2 : Nat) ^ (8 * ((16 : Int) / 8).toNat) = 65536 := by decide
  rw [e] at h1
  rw [Qs3, h]; split <;> omega
 ·have e : (2 : Nat) ^ (8 * ((24 : Int) / 8).toNat) = 16777216 := by decide
  rw [e] at h1
  rw [Qs2, h]; split <;> omega
 ·exact absurd h hx
theorem QdG {x : Int} (hx : Z3 x ≠ 0) (l : List UInt8) : ∀ y ∈ Z2 x l, -Z3 x ≤ y ∧ y < Z3 x := by
 intro y hy
 simp only [Z2, List.mem_map, List.mem_range] at hy
 obtain ⟨i, hi, rfl⟩ := hy
 refine QnN hx ?_
 generalize (x / 8).toNat = w at *
 have h0 : 0 < w := by
  rcases Nat.eq_zero_or_pos w with h | h
  ·subst h; simp at hi
  ·exact h
 have : (i + 1) * w ≤ l.length := Nat.le_trans (Nat.mul_le_mul_right w (by omega : i + 1 ≤ l.length / w)) (Nat.div_mul_le_self _ _)
 rw [Nat.add_mul, Nat.one_mul] at this
 rw [List.length_take, List.length_drop]
 omega
theorem Qhw {x : Int} (hx : Z3 x ≠ 0) (l : List UInt8) : I32 (Z2 x l) := by
 intro y hy
 have h1 := QdG hx l y hy
 rcases Za x with ⟨_, h⟩ | ⟨_, h⟩ | ⟨_, h⟩ | ⟨_, _, _, h⟩ <;> omega
theorem Qcf {w n : Nat} (h : n < 2 ^ w) : BitVec.ofInt w (n : Int) = BitVec.ofNat w n := by
 apply BitVec.eq_of_toNat_eq
 rw [BitVec.toNat_ofInt, BitVec.toNat_ofNat]
 omega
theorem QeG {K : IntKind} (hs : K.signed = false) {n : Nat} (h : n < 2 ^ K.bits) : K.wrap (n : Int) = n := by
 have h1 : (n : Int) % 2 ^ K.bits = n := by
  rw [Int.emod_eq_of_lt (by omega)]
  exact_mod_cast h
 unfold IntKind.wrap
 simp [hs, h1]
theorem QrH {K : IntKind} (hs : K.signed = false) {a b : Nat} (ha : a < 2 ^ K.bits) (hb : b < 2 ^ K.bits) : K.wrap (BitVec.ofInt K.bits (a : Int) ^^^ BitVec.ofInt K.bits (b : Int)).toNat = ((a ^^^ b : Nat) : Int) := by
 rw [Qcf ha, Qcf hb, BitVec.toNat_xor, BitVec.toNat_ofNat, BitVec.toNat_ofNat, Nat.mod_eq_of_lt ha, Nat.mod_eq_of_lt hb]
 exact QeG hs (Nat.xor_lt_two_pow ha hb)
theorem QvX {K : IntKind} (hs : K.signed = false) {a b : Nat} (ha : a < 2 ^ K.bits) (hb : b < 2 ^ K.bits) : K.wrap (BitVec.ofInt K.bits (a : Int) &&& BitVec.ofInt K.bits (b : Int)).toNat = ((a &&& b : Nat) : Int) := by
 rw [Qcf ha, Qcf hb, BitVec.toNat_and, BitVec.toNat_ofNat, BitVec.toNat_ofNat, Nat.mod_eq_of_lt ha, Nat.mod_eq_of_lt hb]
 exact QeG hs (Nat.and_lt_two_pow _ hb)
theorem orK {K : IntKind} (hs : K.signed = false) {a b : Nat} (ha : a < 2 ^ K.bits) (hb : b < 2 ^ K.bits) : K.wrap (BitVec.ofInt K.bits (a : Int) ||| BitVec.ofInt K.bits (b : Int)).toNat = ((a ||| b : Nat) : Int) := by
 rw [Qcf ha, Qcf hb, BitVec.toNat_or, BitVec.toNat_ofNat, BitVec.toNat_ofNat, Nat.mod_eq_of_lt ha, Nat.mod_eq_of_lt hb]
 exact QeG hs (Nat.or_lt_two_pow ha hb)
theorem Qlm {K : IntKind} {n k : Nat} (hk : k ≤ K.bits) : Qh false K (n : Int) (k : Int) = some (.int K ((n / 2 ^ k : Nat) : Int)) := by
 have h3 : ¬ ((k : Int) < 0) := by omega
 have h5 : min k K.bits = k := by omega
 have h6 : (n : Int).fdiv (2 ^ k) = ((n / 2 ^ k : Nat) : Int) := by
  rw [Int.fdiv_eq_ediv_of_nonneg _ (Int.pow_nonneg (by decide))]
  simp [Int.natCast_ediv, Int.natCast_pow]
 simp only [Qh, if_neg h3, Bool.false_eq_true, if_false, Int.toNat_natCast, h5, h6]
theorem QrA {K : IntKind} (hs : K.signed = false) {c s : Nat} (h : s ≤ K.bits) (h2 : c * 2 ^ s < 2 ^ K.bits) : Qh true K (c : Int) (s : Int) = some (.int K ((c * 2 ^ s : Nat) : Int)) := by
 have h3 : ¬ ((s : Int) < 0) := by omega
 have h5 : min s K.bits = s := by omega
 have h6 : (c : Int) * 2 ^ s = ((c * 2 ^ s : Nat) : Int) := by simp
 simp only [Qh, if_neg h3, if_true, Int.toNat_natCast, h5, h6]
 rw [QeG hs h2]
def QsK (c : Nat) : Nat := (c / 2) ^^^ (if c % 2 = 1 then 3988292384 else 0)
def QeV : Nat → Nat → Nat
 | 0, c => c
 | k + 1, c => QeV k (QsK c)
theorem Quq {c : Nat} (h : c < 4294967296) : QsK c < 4294967296 := by
 unfold QsK
 have : (if c % 2 = 1 then 3988292384 else 0) < 2 ^ 32 := by split <;> decide
 exact Nat.xor_lt_two_pow (n := 32) (by omega) this
theorem Qib : ∀ (k : Nat) {c : Nat}, c < 4294967296 → QeV k c < 4294967296
 | 0, _, h => h
 | k + 1, _, h => Qib k (Quq h)
theorem Qkj : ∀ (k c : Nat), QeV (k + 1) c = QsK (QeV k c)
 | 0, _ => rfl
 | k + 1, c => by rw [QeV, Qkj k, QeV]
theorem QsJ (x h : Nat) : QsK (x ^^^ 2 * h) = QsK x ^^^ h := by
 have e1 : (x ^^^ 2 * h) % 2 = x % 2 := by
  have := Nat.xor_mod_two_pow (a := x) (b := 2 * h) (n := 1)
  simpa using this
 have e2 : (x ^^^ 2 * h) / 2 = x / 2 ^^^ h := by rw [Nat.xor_div_two, Nat.mul_div_cancel_left _ (by omega)]
 unfold QsK
 rw [e1, e2, Nat.xor_assoc, Nat.xor_assoc, Nat.xor_comm h]
theorem Qnk : ∀ (k x h : Nat), QeV k (x ^^^ 2 ^ k * h) = QeV k x ^^^ h
 | 0, x, h => by simp [QeV]
 | k + 1, x, h => by
  rw [QeV, Nat.pow_succ, Nat.mul_comm (2 ^ k) 2, Nat.mul_assoc, QsJ, Qnk k, QeV]
theorem Qi4 (b k : Nat) : b = b % 2 ^ k ^^^ 2 ^ k * (b / 2 ^ k) := by
 apply Nat.eq_of_testBit_eq
 intro i
 rw [Nat.testBit_xor, Nat.testBit_mod_two_pow, Nat.testBit_two_pow_mul, Nat.testBit_div_two_pow]
 by_cases h : i < k
 ·have : ¬ k ≤ i := by omega
  simp [h, this]
 ·have h' : k ≤ i := by omega
  simp [h, h', show i - k + k = i by omega]
def Qvg (s b : Nat) : Nat := QeV 8 (s ^^^ b)
theorem Qok (s b : Nat) : Qvg s b = s / 256 ^^^ QeV 8 (s % 256 ^^^ b) := by
 have h : s ^^^ b = (s % 256 ^^^ b) ^^^ 2 ^ 8 * (s / 256) := by
  have := Qi4 s 8
  rw [show (2 : Nat) ^ 8 = 256 from rfl] at this ⊢
  rw [Nat.xor_assoc, Nat.xor_comm b, ← Nat.xor_assoc, ← this]
 rw [Qvg, h, Qnk, Nat.xor_comm]
theorem Qur {s b : Nat} (hs : s < 4294967296) (hb : b < 256) : Qvg s b < 4294967296 := Qib 8 (Nat.xor_lt_two_pow (n := 32) (by omega) (by omega))
def QoK (s : Nat) (l : List UInt8) : Nat := l.foldl (fun s b => Qvg s b.toNat) s
theorem QqJ {s : Nat} {l : List UInt8} {k : Nat} (h : k < l.length) : QoK s (l.take (k + 1)) = Qvg (QoK s (l.take k)) (l[k]).toNat := by
 rw [List.take_succ_eq_append_getElem h, QoK, List.foldl_append]; rfl
theorem Ql6 : ∀ {l : List UInt8} {s : Nat}, s < 4294967296 → QoK s l < 4294967296
 | [], _, h => h
 | b :: l, s, h => Ql6 (l := l) (Qur h (UInt8.toNat_lt b))
def Qjq (i : Nat) : List Int := (List.range 256).map fun j => if j < i then ((QeV 8 j : Nat) : Int) else 0
theorem Xg (i : Nat) : (Qjq i).length = 256 := by simp [Qjq]
theorem QeJ {i j : Nat} (h : j < 256) : (Qjq i)[j]'(by rw [Xg]; exact h) = if j < i then ((QeV 8 j : Nat) : Int) else 0 := by simp [Qjq]
theorem QrO {i : Nat} (h : i < 256) : (Qjq i).set i ((QeV 8 i : Nat) : Int) = Qjq (i + 1) := by
 refine List.ext_getElem (by simp [Xg]) fun j h1 h2 => ?_
 have hj : j < 256 := by simpa [Xg] using h2
 rw [List.getElem_set, QeJ hj]
 split
 ·rename_i e; subst e; rw [QeJ hj, if_pos (by omega)]
 ·rename_i e; rw [QeJ hj]
  by_cases h3 : j < i
  ·rw [if_pos h3, if_pos (by omega)]
  ·rw [if_neg h3, if_neg (by omega)]
def QmA (P : Prg) (f : Nat) : Prop := VC P f [] (.cell (ks .u32 (Qjq 256)))
theorem Qee {l : List UInt8} {k : Nat} (h : k < l.length) : (u8 l).drop k = .int .u8 (l[k]).toNat :: u8 (l.drop (k + 1)) := by
 rw [QdF, List.drop_eq_getElem_cons h]; rfl
set_option maxRecDepth 40000 in
theorem Ql8 {P : Prg} {f t0 : Nat} (bd : Qf P f 24 [.tmp 0] (QaE t0)) : QmA P f := by
 refine VC.of_walk 1 rfl (by simp [isD, Qp2 (Qq _ _)]) (ACall.of_body bd (by simp) ?_)
 unfold QaE
 have z0 : ([.int .u32 0, .int .u32 0] : List AV) = [.int .u32 0, .int .u32 0] := rfl
 simp (maxSteps := 4000000) (disch := omega) only [rq, simprocAttr]
 refine QN.by (ι := Nat) (fun i => ⟨[(5, .int .i64 i), (1, .ref 0 1 0)], [⟨t0, 256, 1, ks .u32 (Qjq i), 0⟩]⟩) (fun i => i ≤ 256) (fun i => 256 - i) 0 (Le.slots (by simp [Am.look])) (by omega) ?_
 intro i hi
 by_cases hlt : i < 256
 ·simp (maxSteps := 4000000) (disch := omega) only [rq, simprocAttr]
  refine QN.by (ι := Nat) (fun j => ⟨[(10, .int .i64 j), (3, .int .u32 (QeV j i)), (5, .int .i64 i), (2, .int .i64 i), (1, .ref 0 1 0)], [⟨t0, 256, 1, ks .u32 (Qjq i), 0⟩]⟩) (fun j => j ≤ 8) (fun j => 8 - j) 0 (Le.slots (by simp [Am.look, QeV])) (by omega) ?_
  intro j hj
  by_cases hjl : j < 8
  ·have hc := Qib j (c := i) (by omega)
   have hn := Qkj j i
   generalize QeV j i = c at *
   have a1 : IntKind.u32.wrap (BitVec.ofInt IntKind.u32.bits (c : Int) &&& BitVec.ofInt IntKind.u32.bits 1).toNat = ((c % 2 : Nat) : Int) := by
    have h := QvX (K := .u32) rfl (a := c) (b := 1) (by exact hc) (by decide)
    rw [Nat.and_one_is_mod] at h
    exact h
   have a2 : Qh false .u32 (c : Int) 1 = some (.int .u32 ((c / 2 : Nat) : Int)) := Qlm (K := .u32) (n := c) (k := 1) (by decide)
   rcases Nat.mod_two_eq_zero_or_one c with h2 | h2
   ·have a3 : IntKind.u32.wrap (BitVec.ofInt IntKind.u32.bits ((c / 2 : Nat) : Int) ^^^ BitVec.ofInt IntKind.u32.bits 0).toNat = ((QeV (j + 1) i : Nat) : Int) := by
     rw [hn, QsK, h2, if_neg (by decide)]
     exact QrH (K := .u32) rfl (a := c / 2) (b := 0) (by show c / 2 < 4294967296; omega) (by decide)
    have a1' : IntKind.u32.wrap (BitVec.ofInt IntKind.u32.bits (c : Int) &&& BitVec.ofInt IntKind.u32.bits 1).toNat = 0 := by rw [a1, h2]; rfl
    simp (maxSteps := 4000000) (disch := omega) only [rq, simprocAttr, a1', a2, a3]
    exact ⟨j + 1, by omega, by omega, Le.slots (by simp [Am.look])⟩
   ·have a3 : IntKind.u32.wrap (BitVec.ofInt IntKind.u32.bits ((c / 2 : Nat) : Int) ^^^ BitVec.ofInt IntKind.u32.bits 3988292384).toNat = ((QeV (j + 1) i : Nat) : Int) := by
     rw [hn, QsK, h2, if_pos rfl]
     exact QrH (K := .u32) rfl (a := c / 2) (b := 3988292384) (by show c / 2 < 4294967296; omega) (by decide)
    have a1' : IntKind.u32.wrap (BitVec.ofInt IntKind.u32.bits (c : Int) &&& BitVec.ofInt IntKind.u32.bits 1).toNat = 1 := by rw [a1, h2]; rfl
    simp (maxSteps := 4000000) (disch := omega) only [rq, simprocAttr, a1', a2, a3]
    exact ⟨j + 1, by omega, by omega, Le.slots (by simp [Am.look])⟩
  ·obtain rfl : j = 8 := by omega
   have e1 := Xg i
   have e2 := Qe .u32 (Qjq i)
   have e3 : (ks .u32 (Qjq i)).take i ++ [.int .u32 (QeV 8 i)] ++ (ks .u32 (Qjq i)).drop (i + 1) = ks .u32 (Qjq (i + 1)) := by
    rw [← QrO hlt, List.set_eq_take_append_cons_drop, if_pos (by rw [Xg]; exact hlt)]; simp [ks, List.map_take, List.map_drop]
   simp (maxSteps := 4000000) (disch := omega) only [rq, simprocAttr, e1, e2, e3]
   exact ⟨i + 1, by omega, by omega, Le.slots (by simp [Am.look])⟩
 ·obtain rfl : i = 256 := by omega
  simp (maxSteps := 4000000) (disch := omega) only [rq, simprocAttr]
  simp [QT, QF, frzL, QE, frzL_T _ (Qq _ _)]
def QmL (P : Prg) (f : Nat) : Prop := ∀ (s : Nat) (l : List UInt8), s < 4294967296 → VC P f [.int .u32 s, bs l] (if 100000 < l.length then .tup [.int .u32 0, .int .i64 4] else .tup [.int .u32 (QoK s l), .int .i64 0])
set_option maxRecDepth 40000 in
theorem Qom {P : Prg} {f fT : Nat} (bd : Qf P f 32 [.tmp 4, .tmp 5] (JE fT)) (hT : QmA P fT) : QmL P f := by
 intro s l hs
 refine VC.of_acall (by simp [isDL, isD, QP]) (by split <;> rfl) (ACall.of_body bd (by simp) ?_)
 by_cases hl : 100000 < l.length
 ·rw [if_pos hl]
  simp (maxSteps := 4000000) (disch := omega) only [rq, simprocAttr, JE, bs]
 ·rw [if_neg hl]
  have hT' := hT
  have t0 := Qe .u32 (Qjq 256)
  rw [Xg] at t0
  simp (maxSteps := 4000000) (disch := omega) only [rq, simprocAttr, JE, bs]
  refine Qa.vc hT' ?_
  simp (maxSteps := 4000000) (disch := omega) only [rq, simprocAttr]
  refine QN.by (ι := Nat) (fun k => ⟨[(15, .int .i64 k), (14, .int .i64 l.length), (13, .list l.length (u8 l)), (6, .cell (ks .u32 (Qjq 256))), (0, .int .u32 (QoK s (l.take k)))], []⟩) (fun k => k ≤ l.length) (fun k => l.length - k) 0 (Le.slots (by simp [Am.look, QoK])) (by omega) ?_
  intro k hk
  have hc := Ql6 (l := l.take k) hs
  by_cases hlt : k < l.length
  ·have e1 := Qee hlt
   have hn := QqJ (s := s) hlt
   generalize QoK s (l.take k) = c at *
   rw [Qok] at hn
   have hb := (l[k]).toNat_lt
   have h0 : (c % 256 ^^^ (l[k]).toNat) < 256 := Nat.xor_lt_two_pow (n := 8) (Nat.mod_lt _ (by decide)) hb
   have h1 := Qib 8 (c := c % 256 ^^^ (l[k]).toNat) (by omega)
   have a1 : Qh false .u32 (c : Int) 8 = some (.int .u32 ((c / 256 : Nat) : Int)) := Qlm (K := .u32) (n := c) (k := 8) (by decide)
   have a2 : IntKind.u8.wrap (c : Int) = ((c % 256 : Nat) : Int) := by rw [QcB]; omega
   have a3 : IntKind.u8.wrap (BitVec.ofInt IntKind.u8.bits ((c % 256 : Nat) : Int) ^^^ BitVec.ofInt IntKind.u8.bits ((l[k]).toNat : Int)).toNat = ((c % 256 ^^^ (l[k]).toNat : Nat) : Int) :=
    QrH (K := .u8) rfl (a := c % 256) (b := (l[k]).toNat) (Nat.mod_lt _ (by decide)) hb
   have a4 : IntKind.u32.wrap (BitVec.ofInt IntKind.u32.bits ((c / 256 : Nat) : Int) ^^^ BitVec.ofInt IntKind.u32.bits ((QeV 8 (c % 256 ^^^ (l[k]).toNat) : Nat) : Int)).toNat = ((QoK s (l.take (k + 1)) : Nat) : Int) := by
    rw [hn]; exact QrH (K := .u32) rfl (by show c / 256 < 4294967296; omega) h1
   generalize c % 256 ^^^ (l[k]).toNat = x at *
   have e2 : (ks .u32 (Qjq 256)).drop x = .int .u32 ((QeV 8 x : Nat) : Int) :: ks .u32 ((Qjq 256).drop (x + 1)) := by
    rw [Qa8, List.drop_eq_getElem_cons (by rw [Xg]; exact h0), Qfp, QeJ h0, if_pos h0]
   simp (maxSteps := 4000000) (disch := omega) only [rq, simprocAttr, e1, a1, a2, a3, a4, e2, t0]
   exact ⟨k + 1, by omega, by omega, Le.slots (by simp [Am.look])⟩
  ·have ek : k = l.length := by omega
   subst ek
   rw [List.take_length]
   simp (maxSteps := 4000000) (disch := omega) only [rq, simprocAttr]
def Qg5 (P : Prg) (f : Nat) : Prop := ∀ (l : List UInt8), VC P f [bs l] (if 100000 < l.length then .tup [.int .u32 0, .int .i64 4] else .tup [.int .u32 ((4294967295 - QoK 4294967295 l : Nat) : Int), .int .i64 0])
theorem Qtr {c : Nat} (h : c < 4294967296) : 4294967295 ^^^ c = 4294967295 - c := by
 have h1 : BitVec.allOnes 32 ^^^ BitVec.ofNat 32 c = ~~~ BitVec.ofNat 32 c := by
  apply BitVec.eq_of_getElem_eq
  intro i hi
  rw [BitVec.getElem_xor, BitVec.getElem_allOnes, BitVec.getElem_not, Bool.true_xor]
 have h2 := congrArg BitVec.toNat h1
 rw [BitVec.toNat_xor, BitVec.toNat_not, BitVec.toNat_allOnes, BitVec.toNat_ofNat, Nat.mod_eq_of_lt h] at h2
 exact h2
theorem QqL {P : Prg} {f fN : Nat} (bd : Qf P f 16 [.tmp 2, .tmp 3] (Qao fN)) (hN : QmL P fN) : Qg5 P f := by
 intro l
 refine VC.of_acall (by simp [isDL, isD, QP]) (by split <;> rfl) (ACall.of_body bd (by simp) ?_)
 have hN' := hN 4294967295 l (by decide)
 have hc := Ql6 (l := l) (s := 4294967295) (by decide)
 generalize QoK 4294967295 l = c at *
 simp only [bs] at hN'
 by_cases hl : 100000 < l.length
 ·rw [if_pos hl] at hN' ⊢
  simp (maxSteps := 4000000) (disch := omega) only [rq, simprocAttr, Qao, bs]
  refine Qa.vc hN' ?_
  simp (maxSteps := 4000000) (disch := omega) only [rq, simprocAttr]
 ·rw [if_neg hl] at hN' ⊢
  have a1 : IntKind.u32.wrap (BitVec.ofInt IntKind.u32.bits IntKind.u32.max ^^^ BitVec.ofInt IntKind.u32.bits (c : Int)).toNat = ((4294967295 - c : Nat) : Int) := by
   rw [← Qtr hc]
   exact QrH (K := .u32) rfl (a := 4294967295) (b := c) (by decide) hc
  have a2 : IntKind.u32.signed = false := rfl
  simp (maxSteps := 4000000) (disch := omega) only [rq, simprocAttr, Qao, bs]
  refine Qa.vc hN' ?_
  simp (maxSteps := 4000000) (disch := omega) only [rq, simprocAttr, a1, a2]
def nB (N : Nat) : Nat := (N + 7) / 8
theorem Qsn (V i : Nat) : leB V (i + 1) = leB V i ++ [UInt8.ofNat (V / 256 ^ i % 256)] := by
 have h1 : (leB V (i + 1)).take (i + 1) = (leB V (i + 1)).take i ++ [UInt8.ofNat (V / 256 ^ i % 256)] := Qdg (by omega)
 have h2 : ∀ k j n : Nat, k ≤ j → (leB n j).take k = leB n k := by
  intro k
  induction k with
  | zero => intro j n _; simp [leB]
  | succ k ih =>
   intro j n h
   obtain ⟨j, rfl⟩ : ∃ j', j = j' + 1 := ⟨j - 1, by omega⟩
   simp [leB, ih j (n / 256) (by omega)]
 rw [h2 (i + 1) (i + 1) V (by omega), h2 i (i + 1) V (by omega)] at h1
 exact h1
theorem QpY : ∀ (i V u : Nat), leB (V + 256 ^ i * u) i = leB V i
 | 0, _, _ => rfl
 | i + 1, V, u => by
  have e : 256 ^ (i + 1) * u = 256 * (256 ^ i * u) := by rw [Nat.pow_succ, Nat.mul_comm (256 ^ i) 256, Nat.mul_assoc]
  have e1 : (V + 256 ^ (i + 1) * u) % 256 = V % 256 := by rw [e]; omega
  have e2 : (V + 256 ^ (i + 1) * u) / 256 = V / 256 + 256 ^ i * u := by rw [e]; omega
  simp only [leB, e1, e2, QpY i]
theorem QpH (i : Nat) : (256 : Nat) ^ i = 2 ^ (8 * i) := by rw [Nat.pow_mul]
theorem QbR {V i at_ : Nat} (h : V < 2 ^ (8 * i + at_)) (ha : at_ ≤ 8) : leB V (i + 1) = leB V i ++ [UInt8.ofNat (V / 256 ^ i)] ∧ V / 256 ^ i < 2 ^ at_ := by
 have h1 : V / 256 ^ i < 2 ^ at_ := Nat.div_lt_of_lt_mul (by rw [QpH, ← Nat.pow_add]; exact h)
 have h2 : 2 ^ at_ ≤ 2 ^ 8 := Nat.pow_le_pow_right (by omega) ha
 exact ⟨by rw [Qsn, Nat.mod_eq_of_lt (by omega)], h1⟩
theorem Qcw {V i at_ w r : Nat} (h : V < 2 ^ (8 * i + at_)) (hw : w < 2 ^ r) (hr : at_ + r ≤ 8) :
  leB (V + 2 ^ (8 * i + at_) * w) (i + 1) = leB V i ++ [UInt8.ofNat (V / 256 ^ i + 2 ^ at_ * w)] ∧ V / 256 ^ i + 2 ^ at_ * w < 2 ^ (at_ + r) ∧ V + 2 ^ (8 * i + at_) * w < 2 ^ (8 * i + (at_ + r)) := by
 obtain ⟨_, h1⟩ := QbR h (by omega)
 have e : 2 ^ (8 * i + at_) * w = 256 ^ i * (2 ^ at_ * w) := by rw [QpH, Nat.pow_add, Nat.mul_assoc]
 have h2 : V / 256 ^ i + 2 ^ at_ * w < 2 ^ (at_ + r) := by
  have : 2 ^ at_ * (w + 1) ≤ 2 ^ at_ * 2 ^ r := Nat.mul_le_mul_left _ hw
  rw [Nat.pow_add]; rw [Nat.mul_add, Nat.mul_one] at this; omega
 have h3 : V + 2 ^ (8 * i + at_) * w < 2 ^ (8 * i + (at_ + r)) := by
  have : 2 ^ (8 * i + at_) * (w + 1) ≤ 2 ^ (8 * i + at_) * 2 ^ r := Nat.mul_le_mul_left _ hw
  rw [← Nat.add_assoc, Nat.pow_add 2 (8 * i + at_)]; rw [Nat.mul_add, Nat.mul_one] at this; omega
 refine ⟨?_, h2, h3⟩
 have h4 := (QbR (V := V + 2 ^ (8 * i + at_) * w) (i := i) (at_ := at_ + r) h3 hr).1
 rw [h4, e, QpY, Nat.add_mul_div_left _ _ (Nat.pow_pos (by omega))]
theorem Qvm (V q r : Nat) (hr : r < 8) : V / 256 ^ q % 256 / 2 ^ r % 2 = V / 2 ^ (8 * q + r) % 2 := by
 rw [QpH, show (256 : Nat) = 2 ^ r * 2 ^ (8 - r) by rw [← Nat.pow_add, show r + (8 - r) = 8 by omega], Nat.mod_mul_right_div_self, Nat.div_div_eq_div_mul, ← Nat.pow_add]
 rw [Nat.mod_mod_of_dvd]
 exact ⟨2 ^ (8 - r - 1), by rw [← Nat.pow_succ']; congr 1; omega⟩
def bA (N V : Nat) : AV := .agg [.list (nB N) (u8 (leB V (nB N))), .int .i64 N]
theorem Qdh (N V : Nat) : isD (bA N V) = true := by simp [bA, isD, isDL, QV]
theorem Qnu {n : Nat} (h : n < 9223372036854775808) : IntKind.i64.wrap (BitVec.ofInt IntKind.i64.bits (n : Int) &&& BitVec.ofInt IntKind.i64.bits 7).toNat = ((n % 8 : Nat) : Int) := by
 have e1 : (BitVec.ofInt 64 (n : Int)).toNat = n := by
  rw [BitVec.toNat_ofInt]
  show ((n : Int) % 18446744073709551616).toNat = n
  omega
 have e2 : (BitVec.ofInt 64 7).toNat = 7 := by decide
 have : (BitVec.ofInt 64 (n : Int) &&& BitVec.ofInt 64 7).toNat = n % 8 := by
  rw [BitVec.toNat_and, e1, e2]
  exact Nat.and_two_pow_sub_one_eq_mod n 3
 show IntKind.i64.wrap ((BitVec.ofInt 64 (n : Int) &&& BitVec.ofInt 64 7).toNat : Int) = _
 rw [this, QaT] <;> omega
theorem QuJ {l : List UInt8} {k : Nat} (h : k < l.length) : (u8 l).drop k = .int .u8 (l[k]).toNat :: u8 (l.drop (k + 1)) := by
 rw [QdF, List.drop_eq_getElem_cons h]; rfl
theorem Qtb {V k i : Nat} (h : i < k) : (u8 (leB V k)).drop i = .int .u8 ((V / 256 ^ i % 256 : Nat) : Int) :: u8 ((leB V k).drop (i + 1)) := by
 rw [QuJ (by rw [Qb]; exact h)]
 have := QlD k V i h
 rw [List.getElem?_eq_getElem (by rw [Qb]; exact h)] at this
 rw [Option.some.inj this]
 have : (UInt8.ofNat (V / 256 ^ i % 256)).toNat = V / 256 ^ i % 256 := by simp
 rw [this]
def Qcg (P : Prg) (f : Nat) : Prop := ∀ N V : Nat, V < 2 ^ N → N ≤ 330000 → VC P f [bA N V] (.int .i64 0)
theorem QoA {P : Prg} {f t0 : Nat} (bd : Qf P f 40 [.tmp 2] (JF t0)) : Qcg P f := by
 intro N V hV hN
 refine VC.of_acall (by simp [isDL, Qdh]) rfl (ACall.of_body bd (by simp) ?_)
 have e1 : Qh false .i64 ((N : Int) + 7) 3 = some (.int .i64 ((nB N : Nat) : Int)) := by
  rw [show (N : Int) + 7 = ((N + 7 : Nat) : Int) by omega]
  exact Qlm (K := .i64) (n := N + 7) (k := 3) (by decide)
 have e2 := Qnu (n := N) (by omega)
 have e3 : (u8 (leB V (nB N))).length = nB N := by simp [u8, Qb]
 by_cases h0 : N % 8 = 0
 ·rw [h0] at e2
  have e2' : IntKind.i64.wrap (BitVec.ofInt IntKind.i64.bits (N : Int) &&& BitVec.ofInt IntKind.i64.bits 7).toNat = 0 := e2
  simp (maxSteps := 4000000) (disch := omega) only [rq, simprocAttr, JF, bA, e1, e2', e3]
 ·have hn : nB N = N / 8 + 1 := by unfold nB; omega
  have h8 : N = 8 * (N / 8) + N % 8 := by omega
  obtain ⟨l1, l2⟩ := QbR (V := V) (i := N / 8) (at_ := N % 8) (by rw [← h8]; exact hV) (by omega)
  have e4 := Qtb (V := V) (k := nB N) (i := N / 8) (by omega)
  have h256 : V / 256 ^ (N / 8) % 256 = V / 256 ^ (N / 8) := Nat.mod_eq_of_lt (by
   have : 2 ^ (N % 8) ≤ 2 ^ 8 := Nat.pow_le_pow_right (by omega) (by omega)
   omega)
  rw [h256] at e4
  have e5 : Qh false .u8 ((V / 256 ^ (N / 8) : Nat) : Int) ((N % 8 : Nat) : Int) = some (.int .u8 0) := by
   have := Qlm (K := .u8) (n := V / 256 ^ (N / 8)) (k := N % 8) (by show N % 8 ≤ 8; omega)
   rw [this, Nat.div_eq_of_lt l2]; rfl
  have e6 : nB N - 1 = N / 8 := by omega
  have hq : ((N % 8 : Nat) : Int) = (N : Int) % 8 := by omega
  generalize V / 256 ^ (N / 8) = y at *
  obtain ⟨a, ha⟩ : ∃ a, a = N % 8 := ⟨_, rfl⟩
  rw [← ha] at e2 e5 hq
  simp (maxSteps := 4000000) (disch := omega) only [rq, simprocAttr, JF, bA, e1, e2, e3, e4, e5, e6]
structure Dl where
 k0 : Nat
 k1 : Nat
 s0 : Nat
 s1 : Nat
def dlC (d : Dl) : List AV := [.int .i64 d.k0, .int .i64 d.k1, .int .u64 d.s0, .int .u64 d.s1]
def dlA (d : Dl) : AV := .agg (dlC d)
def okD (d : Dl) : Prop := d.k0 ≤ 24 ∧ d.k1 ≤ 24 ∧ d.s0 ≤ 68719476735 ∧ d.s1 ≤ 68719476735
def QI : Dl := ⟨10, 10, 16384, 16384⟩
def Qbq (k s n : Nat) : Nat × Nat :=
 if 0 < k ∧ s + n - s / 16 < 2 ^ (k + 4) then (k - 1, s + n - s / 16) else if k < 24 ∧ 2 ^ (k + 5) < s + n - s / 16 then (k + 1, s + n - s / 16) else (k, s + n - s / 16)
def Jq (d : Dl) (v : Nat) : Dl :=
 if v < 2 ^ d.k0 then ⟨(Qbq d.k0 d.s0 v).1, d.k1, (Qbq d.k0 d.s0 v).2, d.s1⟩
 else ⟨(Qbq d.k0 d.s0 v).1, (Qbq d.k1 d.s1 (v - 2 ^ d.k0)).1, (Qbq d.k0 d.s0 v).2, (Qbq d.k1 d.s1 (v - 2 ^ d.k0)).2⟩
theorem Qlx {k s n : Nat} (hk : k ≤ 24) (hs : s ≤ 68719476735) (hn : n < 4294967296) : (Qbq k s n).1 ≤ 24 ∧ (Qbq k s n).2 ≤ 68719476735 := by
 unfold Qbq
 have ht : s + n - s / 16 ≤ 68719476735 := by omega
 generalize s + n - s / 16 = t at *
 split
 ·exact ⟨by simp only; omega, ht⟩
 ·split
  ·rename_i h; exact ⟨by have := h.1; simp only; omega, ht⟩
  ·exact ⟨hk, ht⟩
theorem Qsl {d : Dl} {v : Nat} (h : okD d) (hv : v < 4294967296) : okD (Jq d v) := by
 obtain ⟨h1, h2, h3, h4⟩ := h
 have p0 := Qlx h1 h3 hv
 have p1 := Qlx (n := v - 2 ^ d.k0) h2 h4 (Nat.lt_of_le_of_lt (Nat.sub_le _ _) hv)
 unfold Jq
 split
 ·exact ⟨p0.1, h2, p0.2, h4⟩
 ·exact ⟨p0.1, p1.1, p0.2, p1.2⟩
theorem QrR : okD QI := by unfold okD QI; decide
theorem Qp5 (d : Dl) : isD (dlA d) = true := rfl
theorem p24 {k : Nat} (h : k ≤ 24) : 2 ^ k ≤ 16777216 ∧ 2 ^ (k + 4) = 16 * 2 ^ k ∧ 2 ^ (k + 5) = 32 * 2 ^ k := by
 have := Nat.pow_le_pow_right (n := 2) (by omega) h
 refine ⟨by simpa using this, ?_, ?_⟩ <;> rw [Nat.pow_add, Nat.mul_comm]
def QiK (P : Prg) (f : Nat) : Prop := VC P f [] (dlA QI)
theorem Qoh {P : Prg} {f t0 : Nat} (bd : Qf P f 2 [.cell 0 t0] (Qbh t0)) (ht : ZK P t0 = some (some 4)) : QiK P f := by
 refine VC.of_acall rfl rfl (ACall.of_body bd (by simp) ?_)
 simp (maxSteps := 4000000) (disch := omega) only [rq, simprocAttr, Qbh, ZL, ht, Q3, dlA, dlC, QI]
 try rfl
def QiW (P : Prg) (f : Nat) : Prop := ∀ d : Dl, okD d → VC P f [dlA d] (.int .i64 0)
theorem Qoi {P : Prg} {f t0 : Nat} (bd : Qf P f 26 [.tmp 2] (Qbi t0)) : QiW P f := by
 intro d h
 obtain ⟨k0, k1, s0, s1⟩ := d
 obtain ⟨h1, h2, h3, h4⟩ := h
 simp only at h1 h2 h3 h4
 refine VC.of_acall rfl rfl (ACall.of_cut 1 bd (by simp) ?_)
 simp (maxSteps := 4000000) (disch := omega) only [rq, simprocAttr, Qbi, dlA, dlC, Qas]
 refine ⟨⟨[(2, .int .i64 0), (1, .cell [.int .i64 k0, .int .i64 k1, .int .u64 s0, .int .u64 s1])], []⟩, Le.dropT [] (by simp) (by simp [Am.look, QF, frzL, QE]), ?_⟩
 simp (maxSteps := 4000000) (disch := omega) only [rq, simprocAttr]
def QfU (P : Prg) (f : Nat) : Prop := ∀ (d : Dl) (v : Nat), okD d → v < 4294967296 → VC P f [dlA d, .int .u32 v] (if v < 2 ^ d.k0 then .tup [.int .i64 0, .int .u32 v] else .tup [.int .i64 1, .int .u32 ((v - 2 ^ d.k0 : Nat) : Int)])
theorem Qoe {P : Prg} {f t0 : Nat} (bd : Qf P f 17 [.tmp 4, .tmp 5] (JB t0)) : QfU P f := by
 intro d v h hv
 obtain ⟨k0, k1, s0, s1⟩ := d
 obtain ⟨h1, h2, h3, h4⟩ := h
 simp only at h1 h2 h3 h4
 refine VC.of_acall rfl (by simp only; split <;> rfl) (ACall.of_body bd (by simp) ?_)
 have e1 : Qh false .u32 (v : Int) (k0 : Int) = some (.int .u32 ((v / 2 ^ k0 : Nat) : Int)) := Qlm (K := .u32) (by show k0 ≤ 32; omega)
 obtain ⟨q1, _⟩ := p24 h1
 have e2 : Qh true .u32 1 (k0 : Int) = some (.int .u32 ((2 ^ k0 : Nat) : Int)) := by
  have := QrA (K := .u32) rfl (c := 1) (s := k0) (by show k0 ≤ 32; omega) (by show 1 * 2 ^ k0 < 4294967296; omega)
  rw [Nat.one_mul] at this
  exact this
 simp only
 by_cases c : v < 2 ^ k0
 ·rw [if_pos c]
  rw [Nat.div_eq_of_lt c] at e1
  have e1' : Qh false .u32 (v : Int) (k0 : Int) = some (.int .u32 0) := e1
  simp (maxSteps := 4000000) (disch := omega) only [rq, simprocAttr, JB, dlA, dlC, e1']
 ·rw [if_neg c]
  have hpos : 0 < v / 2 ^ k0 := Nat.div_pos (by omega) (Nat.pow_pos (by omega))
  have hle : v / 2 ^ k0 ≤ v := Nat.div_le_self _ _
  have e3 : ((v - 2 ^ k0 : Nat) : Int) = (v : Int) - ((2 ^ k0 : Nat) : Int) := by omega
  generalize v / 2 ^ k0 = w at *
  generalize 2 ^ k0 = p at *
  simp (maxSteps := 4000000) (disch := omega) only [rq, simprocAttr, JB, dlA, dlC, e1, e2, e3]
theorem QdP {P : Prg} {f : Nat} (bd : Qf P f 58 [] Ql) {ob : List Ob} {p : Nat} {t : Nat} {d : Dl} (hp : ob[p]? = some ⟨t, 4, 1, dlC d, 0⟩) (hd : okD d) {n : Nat} (hn : n < 4294967296) (b : Bool) {K : AV → List Ob → Prop}
  (hK : K (.tup []) (ob.set p ⟨t, 4, 1, dlC (if b then ⟨d.k0, (Qbq d.k1 d.s1 n).1, d.s0, (Qbq d.k1 d.s1 n).2⟩ else ⟨(Qbq d.k0 d.s0 n).1, d.k1, (Qbq d.k0 d.s0 n).2, d.s1⟩), 0⟩)) :
  ACall P f [.ref p 1 (if b then 1 else 0), .ref p 1 (if b then 3 else 2), .int .u32 n] ob K := by
 have hpl : p < ob.length := (List.getElem?_eq_some_iff.1 hp).1
 have g1 : ∀ x, (ob.set p x)[p]? = some x := fun x => by simp [hpl]
 have g2 : ∀ x y, (ob.set p x).set p y = ob.set p y := fun x y => List.set_set _
 have key : ∀ k s : Nat, k ≤ 24 → s ≤ 68719476735 → ∃ t p4 p5 : Nat, t ≤ 68719476735 ∧ IntKind.u64.wrap ((s : Int) + IntKind.u64.wrap ((n : Int) - ((s / 16 : Nat) : Int))) = (t : Int) ∧ Qh false .u64 (s : Int) 4 = some (.int .u64 ((s / 16 : Nat) : Int)) ∧
   Qh true .u64 16 (k : Int) = some (.int .u64 (p4 : Int)) ∧ Qh true .u64 32 (k : Int) = some (.int .u64 (p5 : Int)) ∧
   Qh true .u64 16 (k : Int) = some (.int .u64 (p4 : Int)) ∧ Qbq k s n = if 0 < k ∧ t < p4 then (k - 1, t) else if k < 24 ∧ p5 < t then (k + 1, t) else (k, t) := by
  intro k s hk hs
  obtain ⟨q1, q2, q3⟩ := p24 hk
  refine ⟨s + n - s / 16, 2 ^ (k + 4), 2 ^ (k + 5), by omega, ?_, Qlm (K := .u64) (k := 4) (by decide), ?_, ?_, ?_, rfl⟩
  ·rw [Xl, Xl]; omega
  ·rw [q2]; exact QrA (K := .u64) rfl (c := 16) (by show k ≤ 64; omega) (by show 16 * 2 ^ k < 18446744073709551616; omega)
  ·rw [q3]; exact QrA (K := .u64) rfl (c := 32) (by show k ≤ 64; omega) (by show 32 * 2 ^ k < 18446744073709551616; omega)
  ·rw [q2]; exact QrA (K := .u64) rfl (c := 16) (by show k ≤ 64; omega) (by show 16 * 2 ^ k < 18446744073709551616; omega)
 obtain ⟨k0, k1, s0, s1⟩ := d
 obtain ⟨h1, h2, h3, h4⟩ := hd
 simp only at h1 h2 h3 h4
 refine ACall.of_body bd (by simp) ?_
 simp only [dlC] at hp hK
 cases b with
 | false =>
  obtain ⟨u, p4, p5, hu, e1, e2, e3, e4, _, e5⟩ := key k0 s0 h1 h3
  simp only [e5, Bool.false_eq_true, if_false] at hK ⊢
  by_cases c1 : 0 < k0
  ·by_cases c2 : u < p4
   ·rw [if_pos ⟨c1, c2⟩] at hK
    have e6 : ((k0 - 1 : Nat) : Int) = (k0 : Int) - 1 := by omega
    simp only [e6] at hK
    simp (maxSteps := 4000000) (disch := omega) only [rq, simprocAttr, Ql, hp, g1, g2, e1, e2, e3, e4, e6]
    exact hK
   ·rw [if_neg (fun h => c2 h.2)] at hK
    by_cases c3 : k0 < 24
    ·by_cases c4 : p5 < u
     ·rw [if_pos ⟨c3, c4⟩] at hK
      simp only [Int.natCast_add] at hK
      simp (maxSteps := 4000000) (disch := omega) only [rq, simprocAttr, Ql, hp, g1, g2, e1, e2, e3, e4]
      exact hK
     ·rw [if_neg (fun h => c4 h.2)] at hK
      simp (maxSteps := 4000000) (disch := omega) only [rq, simprocAttr, Ql, hp, g1, g2, e1, e2, e3, e4]
      exact hK
    ·rw [if_neg (fun h => c3 h.1)] at hK
     simp (maxSteps := 4000000) (disch := omega) only [rq, simprocAttr, Ql, hp, g1, g2, e1, e2, e3, e4]
     exact hK
  ·rw [if_neg (fun h => c1 h.1)] at hK
   by_cases c4 : p5 < u
   ·rw [if_pos ⟨by omega, c4⟩] at hK
    simp only [Int.natCast_add] at hK
    simp (maxSteps := 4000000) (disch := omega) only [rq, simprocAttr, Ql, hp, g1, g2, e1, e2, e3, e4]
    exact hK
   ·rw [if_neg (fun h => c4 h.2)] at hK
    simp (maxSteps := 4000000) (disch := omega) only [rq, simprocAttr, Ql, hp, g1, g2, e1, e2, e3, e4]
    exact hK
 | true =>
  obtain ⟨u, p4, p5, hu, e1, e2, e3, e4, _, e5⟩ := key k1 s1 h2 h4
  simp only [e5, if_true] at hK ⊢
  by_cases c1 : 0 < k1
  ·by_cases c2 : u < p4
   ·rw [if_pos ⟨c1, c2⟩] at hK
    have e6 : ((k1 - 1 : Nat) : Int) = (k1 : Int) - 1 := by omega
    simp only [e6] at hK
    simp (maxSteps := 4000000) (disch := omega) only [rq, simprocAttr, Ql, hp, g1, g2, e1, e2, e3, e4, e6]
    exact hK
   ·rw [if_neg (fun h => c2 h.2)] at hK
    by_cases c3 : k1 < 24
    ·by_cases c4 : p5 < u
     ·rw [if_pos ⟨c3, c4⟩] at hK
      simp only [Int.natCast_add] at hK
      simp (maxSteps := 4000000) (disch := omega) only [rq, simprocAttr, Ql, hp, g1, g2, e1, e2, e3, e4]
      exact hK
     ·rw [if_neg (fun h => c4 h.2)] at hK
      simp (maxSteps := 4000000) (disch := omega) only [rq, simprocAttr, Ql, hp, g1, g2, e1, e2, e3, e4]
      exact hK
    ·rw [if_neg (fun h => c3 h.1)] at hK
     simp (maxSteps := 4000000) (disch := omega) only [rq, simprocAttr, Ql, hp, g1, g2, e1, e2, e3, e4]
     exact hK
  ·rw [if_neg (fun h => c1 h.1)] at hK
   by_cases c4 : p5 < u
   ·rw [if_pos ⟨by omega, c4⟩] at hK
    simp only [Int.natCast_add] at hK
    simp (maxSteps := 4000000) (disch := omega) only [rq, simprocAttr, Ql, hp, g1, g2, e1, e2, e3, e4]
    exact hK
   ·rw [if_neg (fun h => c4 h.2)] at hK
    simp (maxSteps := 4000000) (disch := omega) only [rq, simprocAttr, Ql, hp, g1, g2, e1, e2, e3, e4]
    exact hK
def bO (t o N : Nat) : Ob := ⟨t, 2, 1, [.own o (nB N), .int .i64 N], 0⟩
def bY (t N V : Nat) : Ob := ⟨t, 1, nB N, u8 (leB V (nB N)), 0⟩
theorem Qag (V n : Nat) : isDL (u8 (leB V n)) = true := QV _
theorem Low.put {ob : List Ob} (h : Low ob.length ob) {t t0 o p N V N' : Nat} (ho : o < ob.length) : Low ob.length (XI ob o p (bY t0 N V) (bO t o N')) := by
 unfold XI
 refine (h.set ?_).set ?_
 ·exact lowL_D _ (Qag _ _)
 ·simp [bO, lowL, XV, ho]
theorem Low.drop {ob : List Ob} (h : Low ob.length ob) {t t0 o p N V : Nat} (ho : o < ob.length) {M : Nat} (hM : M ≤ ob.length) {J : List Ob} {fr fr' : List (Nat × AV)}
  (hfr : ∀ q ∈ fr', q.2 = .any ∨ (q.2 = Am.look fr q.1 ∧ XV ob.length q.2 = true)) :
  Le M ⟨fr, XI ob o p (bY t0 N V) (bO t o N) ++ J⟩ ⟨fr', XI ob o p (bY t0 N V) (bO t o N)⟩ := by
 have hl : (XI ob o p (bY t0 N V) (bO t o N)).length = ob.length := Ze
 refine Le.low (by omega) (by rw [hl]; exact h.put ho) ?_
 rw [hl]
 exact hfr
theorem Qv3 {V N v j r : Nat} : V + 2 ^ N * (v % 2 ^ (j + r)) = V + 2 ^ N * (v % 2 ^ j) + 2 ^ (N + j) * (v / 2 ^ j % 2 ^ r) := by
 rw [Nat.pow_add, Nat.mod_mul, Nat.mul_add, Nat.pow_add, Nat.mul_assoc, Nat.add_assoc]
set_option maxHeartbeats 1000000 in
theorem QsU {P : Prg} {f t0 t : Nat} (bd : Qf P f 75 [] (Qbl t0)) {ob : List Ob} {p o N V v n : Nat} (hp : ob[p]? = some (bO t o N)) (ho : ob[o]? = some (bY t0 N V)) (hpo : p ≠ o) (hV : V < 2 ^ N) (hv : v < 2 ^ n) (hn : n ≤ 64) (hN : N + n ≤ 400000) (hfz : Low ob.length ob)
  {K : AV → List Ob → Prop} (hK : K (.tup []) (XI ob o p (bY t0 (N + n) (V + 2 ^ N * v)) (bO t o (N + n)))) : ACall P f [.ref p 1 0, .int .u64 v, .int .i64 n] ob K := by
 have hol : o < ob.length := (List.getElem?_eq_some_iff.1 ho).1
 have hpl : p < ob.length := (List.getElem?_eq_some_iff.1 hp).1
 refine ACall.of_body bd (by simp) ?_
 have g0 : ∀ x y J, (XI ob o p x y ++ J)[p]? = some y := fun x y J => by rw [List.getElem?_append_left (by rw [Ze]; exact hpl)]; exact Qk9 hpl
 have g1 : ∀ x y J, (XI ob o p x y ++ J)[o]? = some x := fun x y J => by rw [List.getElem?_append_left (by rw [Ze]; exact hol)]; exact Qla hol hpo
 have g2 : ∀ x y J y', (XI ob o p x y ++ J).set p y' = XI ob o p x y' ++ J := fun x y J y' => by rw [List.set_append_left _ _ (by rw [Ze]; exact hpl), QoY]
 have g3 : ∀ x y J x', (XI ob o p x y ++ J).set o x' = XI ob o p x' y ++ J := fun x y J x' => by rw [List.set_append_left _ _ (by rw [Ze]; exact hol), QoZ hpo]
 have g4 : ∀ x y j, (XI ob o p x y ++ [j])[ob.length]? = some j := fun x y j => by rw [List.getElem?_append_right (by rw [Ze]; exact Nat.le_refl _), Ze, Nat.sub_self]; rfl
 have gp : ∀ x y, (XI ob o p x y)[p]? = some y := fun x y => Qk9 hpl
 have go : ∀ x y, (XI ob o p x y)[o]? = some x := fun x y => Qla hol hpo
 have sp : ∀ x y y', (XI ob o p x y).set p y' = XI ob o p x y' := fun x y y' => QoY
 have so : ∀ x y x', (XI ob o p x y).set o x' = XI ob o p x' y := fun x y x' => QoZ hpo
 have ln : ∀ x y, (XI ob o p x y).length = ob.length := fun x y => Ze
 simp (maxSteps := 4000000) (disch := omega) only [rq, simprocAttr, Qbl]
 refine QN.by (ι := Nat) (fun j => ⟨[(2, .int .i64 ((n - j : Nat) : Int)), (1, .int .u64 ((v / 2 ^ j : Nat) : Int)), (0, .ref p 1 0)], XI ob o p (bY t0 (N + j) (V + 2 ^ N * (v % 2 ^ j))) (bO t o (N + j))⟩) (fun j => j ≤ n) (fun j => n - j) 0 ?_ (by omega) ?_
 ·have : XI ob o p (bY t0 (N + 0) (V + 2 ^ N * (v % 2 ^ 0))) (bO t o (N + 0)) = ob := by
   rw [Nat.add_zero, Nat.pow_zero, Nat.mod_one, Nat.mul_zero, Nat.add_zero]
   exact Qjo ho hp hpo
  rw [this]
  exact Le.slots (by simp [Am.look])
 intro j hj
 by_cases hlt : j < n
 ·obtain ⟨M, hM⟩ : ∃ M, M = N + j := ⟨_, rfl⟩
  obtain ⟨i, hi⟩ : ∃ i, i = M / 8 := ⟨_, rfl⟩
  obtain ⟨a, ha⟩ : ∃ a, a = M % 8 := ⟨_, rfl⟩
  obtain ⟨r, hr⟩ : ∃ r, r = min (n - j) (8 - a) := ⟨_, rfl⟩
  have hM8 : M = 8 * i + a := by omega
  have hW : V + 2 ^ N * (v % 2 ^ j) < 2 ^ M := by
   have h1 : v % 2 ^ j < 2 ^ j := Nat.mod_lt _ (Nat.pow_pos (by omega))
   have h2 : 2 ^ N * (v % 2 ^ j + 1) ≤ 2 ^ N * 2 ^ j := Nat.mul_le_mul_left _ h1
   rw [hM, Nat.pow_add]; rw [Nat.mul_add, Nat.mul_one] at h2; omega
  have hstep := Qv3 (V := V) (N := N) (v := v) (j := j) (r := r)
  rw [← hM] at hstep ⊢
  have hx : v / 2 ^ j < 18446744073709551616 := by
   have h1 : v / 2 ^ j ≤ v := Nat.div_le_self _ _
   have h2 : 2 ^ n ≤ 2 ^ 64 := Nat.pow_le_pow_right (by omega) hn
   omega
  have hxr : v / 2 ^ (j + r) = v / 2 ^ j / 2 ^ r := by rw [Nat.pow_add, Nat.div_div_eq_div_mul]
  generalize V + 2 ^ N * (v % 2 ^ j) = W at *
  generalize hWW : V + 2 ^ N * (v % 2 ^ (j + r)) = W' at *
  generalize hxx : v / 2 ^ j = x at *
  have h2r : 2 ^ r ≤ 2 ^ 8 := Nat.pow_le_pow_right (by omega) (by omega)
  have h2a : 2 ^ a * 2 ^ r ≤ 2 ^ 8 := by rw [← Nat.pow_add]; exact Nat.pow_le_pow_right (by omega) (by omega)
  have hpos : 0 < 2 ^ r := Nat.pow_pos (by omega)
  have hc : x % 2 ^ r < 2 ^ r := Nat.mod_lt _ hpos
  obtain ⟨l1, l2⟩ := QbR (V := W) (i := i) (at_ := a) (by rw [← hM8]; exact hW) (by omega)
  obtain ⟨b1, b2, _⟩ := Qcw (V := W) (i := i) (at_ := a) (w := x % 2 ^ r) (r := r) (by rw [← hM8]; exact hW) hc (by omega)
  rw [← hM8, ← hstep] at b1
  have hyb : W / 256 ^ i < 256 := by
   have : 2 ^ a ≤ 2 ^ 8 := Nat.pow_le_pow_right (by omega) (by omega)
   omega
  have hyb2 : W / 256 ^ i + 2 ^ a * (x % 2 ^ r) < 256 := by
   have : 2 ^ (a + r) ≤ 2 ^ 8 := Nat.pow_le_pow_right (by omega) (by omega)
   omega
  have hca : x % 2 ^ r * 2 ^ a < 2 ^ 8 := by
   rw [Nat.mul_comm]
   exact Nat.lt_of_lt_of_le (Nat.mul_lt_mul_of_pos_left hc (Nat.pow_pos (by omega))) h2a
  have hu : ∀ y, y < 256 → u8 [UInt8.ofNat y] = [.int .u8 (y : Int)] := fun y hy => by simp [u8]; omega
  have e8 : IntKind.u8.wrap (BitVec.ofInt IntKind.u8.bits ((W / 256 ^ i : Nat) : Int) ||| BitVec.ofInt IntKind.u8.bits ((x % 2 ^ r * 2 ^ a : Nat) : Int)).toNat = ((W / 256 ^ i + 2 ^ a * (x % 2 ^ r) : Nat) : Int) := by
   rw [orK (K := .u8) rfl hyb hca, QpL l2, Nat.mul_comm]
  have e7 : Qh true .u8 ((x % 2 ^ r : Nat) : Int) (a : Int) = some (.int .u8 ((x % 2 ^ r * 2 ^ a : Nat) : Int)) := QrA rfl (by show a ≤ 8; omega) hca
  have e6 : IntKind.u8.wrap ((x % 2 ^ r : Nat) : Int) = ((x % 2 ^ r : Nat) : Int) := by rw [QcB]; omega
  have e5 : IntKind.u64.wrap (BitVec.ofInt IntKind.u64.bits (x : Int) &&& BitVec.ofInt IntKind.u64.bits ((2 ^ r - 1 : Nat) : Int)).toNat = ((x % 2 ^ r : Nat) : Int) := by
   rw [Qrd _ _ hx (by omega), Nat.and_two_pow_sub_one_eq_mod]
  have e4 : IntKind.u64.wrap (((2 ^ r : Nat) : Int) - 1) = ((2 ^ r - 1 : Nat) : Int) := by rw [Xl]; omega
  have e3 : Qh true .u64 1 (r : Int) = some (.int .u64 ((2 ^ r : Nat) : Int)) := by
   have := QrA (K := .u64) rfl (c := 1) (s := r) (by show r ≤ 64; omega) (by show 1 * 2 ^ r < 18446744073709551616; omega)
   rw [Nat.one_mul] at this
   exact this
  have e9 : Qh false .u64 (x : Int) (r : Int) = some (.int .u64 ((x / 2 ^ r : Nat) : Int)) := Qlm (K := .u64) (by show r ≤ 64; omega)
  have e1 := Qnu (n := M) (by omega)
  rw [← ha] at e1
  have e2 : (if (8 : Int) - a < ((n - j : Nat) : Int) then (8 : Int) - a else ((n - j : Nat) : Int)) = (r : Int) := by split <;> omega
  have hnB : nB (M + r) = i + 1 := by unfold nB; omega
  have hcell : u8 (leB W' (i + 1)) = u8 (leB W i) ++ [.int .u8 ((W / 256 ^ i + 2 ^ a * (x % 2 ^ r) : Nat) : Int)] := by
   rw [b1, show u8 (leB W i ++ [UInt8.ofNat (W / 256 ^ i + 2 ^ a * (x % 2 ^ r))]) = u8 (leB W i) ++ u8 [UInt8.ofNat (W / 256 ^ i + 2 ^ a * (x % 2 ^ r))] by simp [u8]]
   rw [hu _ hyb2]
  have hlen : (u8 (leB W i)).length = i := by simp [u8, Qb]
  rw [← hxr] at e9
  generalize W / 256 ^ i + 2 ^ a * (x % 2 ^ r) = y' at *
  generalize x % 2 ^ r * 2 ^ a = ca at *
  generalize x % 2 ^ r = c at *
  generalize 2 ^ r - 1 = mk at *
  generalize 2 ^ r = pr at *
  have d1 : ∀ z : AV, (u8 (leB W i) ++ [z]).drop i = [z] := fun z => by rw [List.drop_left' hlen]
  have d2 : ∀ z : AV, (u8 (leB W i) ++ [z]).take i = u8 (leB W i) := fun z => by rw [List.take_left' hlen]
  have d3 : ∀ z : AV, (u8 (leB W i) ++ [z]).drop (i + 1) = [] := fun z => List.drop_of_length_le (by simp [hlen])
  have jr : n - j - r = n - (j + r) := by omega
  have el : (⟨t0, 1, i + 1, u8 (leB W i) ++ [.int .u8 (y' : Int)], 0⟩ : Ob) = bY t0 (M + r) W' := by rw [bY, hnB, hcell]
  have er : (⟨t, 2, 1, [.own o (i + 1), .int .i64 ((M : Int) + r)], 0⟩ : Ob) = bO t o (M + r) := by rw [bO, hnB, Int.natCast_add]
  have hMr : N + (j + r) = M + r := by omega
  have e10 : ((n - j : Nat) : Int) - r = ((n - (j + r) : Nat) : Int) := by omega
  have e11 : (M : Int) + r = ((M + r : Nat) : Int) := by omega
  by_cases h0 : a = 0
  ·subst h0
   have hnM : nB M = i := by unfold nB; omega
   have hW0 : W / 256 ^ i = 0 := by
    have := l2
    rw [Nat.pow_zero] at this
    exact Nat.lt_one_iff.1 this
   rw [hW0] at e8
   have e8' : IntKind.u8.wrap (BitVec.ofInt IntKind.u8.bits 0 ||| BitVec.ofInt IntKind.u8.bits (ca : Int)).toNat = (y' : Int) := e8
   have e1' : IntKind.i64.wrap (BitVec.ofInt IntKind.i64.bits (M : Int) &&& BitVec.ofInt IntKind.i64.bits 7).toNat = 0 := e1
   have e2' : (if (8 : Int) < ((n - j : Nat) : Int) then (8 : Int) else ((n - j : Nat) : Int)) = (r : Int) := by split <;> omega
   have e12 : i + 1 - 1 = i := by omega
   have e7' : Qh true .u8 (c : Int) 0 = some (.int .u8 (ca : Int)) := e7
   have e13 : (i : Int) + 1 - 1 = i := by omega
   simp (maxSteps := 4000000) (disch := omega) only [rq, simprocAttr, e2', e12, e13, bO, bY, gp, go, sp, so, ln, g0, g1, g2, g3, g4, hnM, hlen, e1', e2, e3, e4, e5, e6, e7', e8', e9, d1, d2, d3]
   refine ⟨j + r, by omega, by omega, ?_⟩
   show Le ob.length _ ⟨[(2, .int .i64 ((n - (j + r) : Nat) : Int)), (1, .int .u64 ((v / 2 ^ (j + r) : Nat) : Int)), (0, .ref p 1 0)], XI ob o p (bY t0 (N + (j + r)) (V + 2 ^ N * (v % 2 ^ (j + r)))) (bO t o (N + (j + r)))⟩
   rw [hWW, hMr, el, er]
   exact hfz.drop hol (Nat.le_refl _) (by simp [Am.look, XV, hpl, e10])
  ·have hnM : nB M = i + 1 := by unfold nB; omega
   have l3 : u8 (leB W (i + 1)) = u8 (leB W i) ++ [.int .u8 ((W / 256 ^ i : Nat) : Int)] := by
    rw [l1, show u8 (leB W i ++ [UInt8.ofNat (W / 256 ^ i)]) = u8 (leB W i) ++ u8 [UInt8.ofNat (W / 256 ^ i)] by simp [u8], hu _ hyb]
   have e12 : i + 1 - 1 = i := by omega
   have e13 : (i : Int) + 1 - 1 = i := by omega
   have ha0 : (a : Int) ≠ 0 := by omega
   generalize W / 256 ^ i = y at *
   simp (maxSteps := 4000000) (disch := omega) only [rq, simprocAttr, e12, e13, bO, bY, gp, go, sp, so, ln, hnM, hlen, l3, e1, e2, e3, e4, e5, e6, e7, e8, e9, d1, d2, d3]
   refine ⟨j + r, by omega, by omega, ?_⟩
   show Le ob.length _ ⟨[(2, .int .i64 ((n - (j + r) : Nat) : Int)), (1, .int .u64 ((v / 2 ^ (j + r) : Nat) : Int)), (0, .ref p 1 0)], XI ob o p (bY t0 (N + (j + r)) (V + 2 ^ N * (v % 2 ^ (j + r)))) (bO t o (N + (j + r)))⟩
   rw [hWW, hMr, el, er]
   exact Le.slots (by simp [Am.look, e10])
 ·obtain rfl : j = n := by omega
  rw [Nat.mod_eq_of_lt hv]
  simp (maxSteps := 4000000) (disch := omega) only [rq, simprocAttr]
  exact hK
theorem Qof {P : Prg} {f f1 fL t : Nat} (bd : Qf P f 36 [] (XC f1 fL)) (b1 : Qf P f1 58 [] Ql) (hL : QfU P fL) {ob : List Ob} {p : Nat} {d : Dl} (hp : ob[p]? = some ⟨t, 4, 1, dlC d, 0⟩) (hd : okD d) {v : Nat} (hv : v < 4294967296) {K : AV → List Ob → Prop}
  (hK : K (.tup []) (ob.set p ⟨t, 4, 1, dlC (Jq d v), 0⟩)) : ACall P f [.ref p 1 0, .int .u32 v] ob K := by
 have hpl : p < ob.length := (List.getElem?_eq_some_iff.1 hp).1
 have hL' := hL d v hd hv
 have nph : ∀ cs, (⟨t, 4, 1, cs, 0⟩ : Ob) ≠ ph := fun cs e => by have := congrArg Ob.sz e; simp [ph] at this
 refine ACall.of_body bd (by simp) ?_
 unfold Jq at hK
 have hp0 := hp
 obtain ⟨k0, k1, s0, s1⟩ := d
 simp only [dlC] at hp
 simp only [dlA, dlC] at hL' hK
 by_cases c : v < 2 ^ k0
 ·rw [if_pos c] at hL' hK
  simp (maxSteps := 4000000) (disch := omega) only [rq, simprocAttr, XC, hp]
  refine Qa.vc hL' ?_
  simp (maxSteps := 4000000) (disch := omega) only [rq, simprocAttr, hp]
  refine callE.by hp0 (nph _) (fun K hK => QdP b1 hp0 hd hv false hK) ?_
  simp (maxSteps := 4000000) (disch := omega) only [rq, simprocAttr]
  exact hK
 ·rw [if_neg c] at hL' hK
  have hv2 : v - 2 ^ k0 < 4294967296 := Nat.lt_of_le_of_lt (Nat.sub_le _ _) hv
  obtain ⟨h1, h2, h3, h4⟩ := hd
  have pk := Qlx h2 h4 hv2
  simp only at h1 h2 h3 h4 pk
  generalize v - 2 ^ k0 = w at *
  simp (maxSteps := 4000000) (disch := omega) only [rq, simprocAttr, XC, hp]
  refine Qa.vc hL' ?_
  simp (maxSteps := 4000000) (disch := omega) only [rq, simprocAttr, hp]
  refine callE.by hp0 (nph _) (fun K hK => QdP b1 hp0 ⟨h1, h2, h3, h4⟩ hv2 true hK) ?_
  have hp1 : (ob.set p ⟨t, 4, 1, dlC ⟨k0, (Qbq k1 s1 w).1, s0, (Qbq k1 s1 w).2⟩, 0⟩)[p]? = some ⟨t, 4, 1, dlC ⟨k0, (Qbq k1 s1 w).1, s0, (Qbq k1 s1 w).2⟩, 0⟩ := by simp [hpl]
  have hp2 := hp1
  simp only [dlC] at hp2
  simp (maxSteps := 4000000) (disch := omega) only [rq, simprocAttr, dlC, hp2]
  refine callE.by hp1 (nph _) (fun K hK => QdP b1 hp1 ⟨h1, pk.1, h3, pk.2⟩ hv false hK) ?_
  rw [List.set_set]
  simp (maxSteps := 4000000) (disch := omega) only [rq, simprocAttr]
  exact hK
theorem Qjy {P : Prg} {f : Nat} (bd : Qf P f 9 [.tmp 4] Xy) {v k : Nat} (hk : k ≤ 24) (hv : v < 4294967296) : VC P f [.int .u32 v, .int .i64 k] (.bool (decide (48 ≤ v / 2 ^ k))) := by
 refine VC.of_acall rfl rfl (ACall.of_body bd (by simp) ?_)
 have e1 : Qh false .u32 (v : Int) (k : Int) = some (.int .u32 ((v / 2 ^ k : Nat) : Int)) := Qlm (K := .u32) (by show k ≤ 32; omega)
 generalize v / 2 ^ k = w at *
 have e2 : decide ((48 : Int) ≤ (w : Int)) = decide (48 ≤ w) := decide_eq_decide.2 (by omega)
 simp (maxSteps := 4000000) (disch := omega) only [rq, simprocAttr, Xy, e1, e2]
def QuB (P : Prg) (f : Nat) : Prop := ∀ v k : Nat, k ≤ 24 → v < 4294967296 → VC P f [.int .u32 v, .int .i64 k] (.bool (decide (48 ≤ v / 2 ^ k)))
theorem Qr7 {P : Prg} {f : Nat} (bd : Qf P f 9 [.tmp 4] Xy) : QuB P f := by
 exact fun _ _ h1 h2 => Qjy bd h1 h2
def Xk (c r : Nat) (v : List Nat) : Dl := ((List.range v.length).filter fun j => j % c == r).foldl (fun d j => Jq d (v.getD j 0)) QI
theorem Qkn {c r x : Nat} {v : List Nat} : Xk c r (v ++ [x]) = if v.length % c = r then Jq (Xk c r v) x else Xk c r v := by
 have h1 : ∀ (l : List Nat) (d : Dl), (∀ j ∈ l, j < v.length) → l.foldl (fun d j => Jq d ((v ++ [x]).getD j 0)) d = l.foldl (fun d j => Jq d (v.getD j 0)) d := by
  intro l
  induction l with
  | nil => intro d _; rfl
  | cons a l ih =>
   intro d h
   simp only [List.foldl_cons]
   have ha : a < v.length := h a (by simp)
   rw [ih _ fun j hj => h j (by simp [hj])]
   congr 2
   rw [List.getD_eq_getElem?_getD, List.getD_eq_getElem?_getD, List.getElem?_append_left ha]
 unfold Xk
 rw [List.length_append, List.length_cons, List.length_nil, Nat.zero_add, List.range_succ, List.filter_append, List.foldl_append]
 have hf := h1 ((List.range v.length).filter fun j => j % c == r) QI (fun j hj => by
  have := (List.mem_filter.1 hj).1
  simpa using this)
 rw [hf]
 have hx : (v ++ [x]).getD v.length 0 = x := by simp [List.getD_eq_getElem?_getD]
 by_cases h : v.length % c = r
 ·rw [if_pos h]
  have : (List.filter (fun j => j % c == r) [v.length]) = [v.length] := by simp [h]
  rw [this]
  simp only [List.foldl_cons, List.foldl_nil]
  rw [hx]
 ·rw [if_neg h]
  have : (List.filter (fun j => j % c == r) [v.length]) = [] := by simp [h]
  rw [this]
  rfl
def N32 (v : List Nat) : Prop := ∀ x ∈ v, x < 4294967296
theorem QqR {c r : Nat} {v : List Nat} (h : N32 v) : okD (Xk c r v) := by
 unfold Xk
 have key : ∀ (l : List Nat) (d : Dl), okD d → (∀ j ∈ l, j < v.length) → okD (l.foldl (fun d j => Jq d (v.getD j 0)) d) := by
  intro l
  induction l with
  | nil => intro d h _; exact h
  | cons a l ih =>
   intro d hd hl
   have ha : a < v.length := hl a (by simp)
   refine ih _ (Qsl hd ?_) fun j hj => hl j (by simp [hj])
   rw [List.getD_eq_getElem?_getD, List.getElem?_eq_getElem ha]
   exact h _ (List.getElem_mem ha)
 exact key _ _ QrR fun j hj => by
  have := (List.mem_filter.1 hj).1
  simpa using this
def QbG (p : List UInt8) : Nat := 4294967295 - QoK 4294967295 p
theorem Qtz (p : List UInt8) : QbG p < 4294967296 := by unfold QbG; omega
def Qc6 (F : Nat → Dl) : List AV := dlC (F 0) ++ dlC (F 1) ++ dlC (F 2) ++ dlC (F 3) ++ dlC (F 4) ++ dlC (F 5)
theorem Qp0 (F : Nat → Dl) : isTL (Qc6 F) = true := rfl
theorem Qc5 (F : Nat → Dl) : (Qc6 F).length = 24 := rfl
theorem Qr0 (F : Nat → Dl) {j : Nat} (h : j < 6) : ∃ r, (Qc6 F).drop (j * 4) = .int .i64 (F j).k0 :: .int .i64 (F j).k1 :: .int .u64 (F j).s0 :: .int .u64 (F j).s1 :: r := by
 rcases (by omega : j = 0 ∨ j = 1 ∨ j = 2 ∨ j = 3 ∨ j = 4 ∨ j = 5) with rfl | rfl | rfl | rfl | rfl | rfl <;> exact ⟨_, rfl⟩
def QuH (F : Nat → Dl) (j : Nat) (d : Dl) : Nat → Dl := fun i => if i = j then d else F i
theorem QmX (F : Nat → Dl) {j : Nat} (h : j < 6) (d : Dl) : (Qc6 F).take (j * 4) ++ [.int .i64 d.k0, .int .i64 d.k1, .int .u64 d.s0, .int .u64 d.s1] ++ (Qc6 F).drop (j * 4 + 4) = Qc6 (QuH F j d) := by
 rcases (by omega : j = 0 ∨ j = 1 ∨ j = 2 ∨ j = 3 ∨ j = 4 ∨ j = 5) with rfl | rfl | rfl | rfl | rfl | rfl <;> rfl
def iL (o : List Nat) : List Int := o.map fun n : Nat => (n : Int)
theorem mod_mul (m c : Nat) : (m * c) % c = 0 := Nat.mul_mod_left m c
def Qjz (v k : Nat) : Nat := if 48 ≤ v / 2 ^ k then 80 else v / 2 ^ k + 1 + k
def QjA (v k : Nat) : Nat := if 48 ≤ v / 2 ^ k then 2 ^ 48 - 1 + 2 ^ 48 * v else 2 ^ (v / 2 ^ k) - 1 + 2 ^ (v / 2 ^ k + 1) * (v % 2 ^ k)
def Qex (d : Dl) (v : Nat) : Nat := if v < 2 ^ d.k0 then 1 + d.k0 else 1 + Qjz (v - 2 ^ d.k0) d.k1
def Qma (d : Dl) (v : Nat) : Nat := if v < 2 ^ d.k0 then 2 * v else 1 + 2 * QjA (v - 2 ^ d.k0) d.k1
theorem JT {V N W n : Nat} (hV : V < 2 ^ N) (hW : W < 2 ^ n) : V + 2 ^ N * W < 2 ^ (N + n) := by
 have h1 : 2 ^ N * (W + 1) ≤ 2 ^ N * 2 ^ n := Nat.mul_le_mul_left _ hW
 rw [Nat.pow_add]
 rw [Nat.mul_add, Nat.mul_one] at h1
 omega
theorem Qr9 {v k : Nat} (hv : v < 4294967296) : QjA v k < 2 ^ Qjz v k := by
 unfold QjA Qjz
 split
 ·exact JT (N := 48) (n := 32) (by decide) hv
 ·have h1 : v % 2 ^ k < 2 ^ k := Nat.mod_lt _ (Nat.pow_pos (by omega))
  refine JT ?_ h1
  have : 0 < 2 ^ (v / 2 ^ k) := Nat.pow_pos (by omega)
  rw [Nat.pow_succ]
  omega
theorem Qr8 {v k : Nat} (hk : k ≤ 24) : Qjz v k ≤ 80 := by unfold Qjz; split <;> omega
theorem Qnm {d : Dl} {v : Nat} (hd : okD d) : Qex d v ≤ 81 := by
 have := Qr8 (v := v - 2 ^ d.k0) hd.2.1
 have := hd.1
 unfold Qex
 split <;> omega
theorem QqM (d : Dl) (v : Nat) : 1 ≤ Qex d v := by unfold Qex; split <;> omega
theorem Qnn {d : Dl} {v : Nat} (hv : v < 4294967296) : Qma d v < 2 ^ Qex d v := by
 unfold Qma Qex
 split
 ·rename_i h
  rw [Nat.pow_add, Nat.pow_one]
  omega
 ·have h := Qr9 (v := v - 2 ^ d.k0) (k := d.k1) (Nat.lt_of_le_of_lt (Nat.sub_le _ _) hv)
  exact JT (N := 1) (V := 1) (by decide) h
def Qva (c : Nat) (v : List Nat) : Nat → Nat × Nat
 | 0 => (0, 0)
 | i + 1 => ((Qva c v i).1 + Qex (Xk c (i % c) (v.take i)) (v.getD i 0), (Qva c v i).2 + 2 ^ (Qva c v i).1 * Qma (Xk c (i % c) (v.take i)) (v.getD i 0))
def QgR (c : Nat) (v : List Nat) (i : Nat) : Nat := (Qva c v i).1
def QsA (c : Nat) (v : List Nat) (i : Nat) : Nat := (Qva c v i).2
theorem Qj1 (c : Nat) (v : List Nat) : QgR c v 0 = 0 := rfl
theorem QjZ (c : Nat) (v : List Nat) : QsA c v 0 = 0 := rfl
theorem Qj2 (c : Nat) (v : List Nat) (i : Nat) : QgR c v (i + 1) = QgR c v i + Qex (Xk c (i % c) (v.take i)) (v.getD i 0) := rfl
theorem Qj0 (c : Nat) (v : List Nat) (i : Nat) : QsA c v (i + 1) = QsA c v i + 2 ^ QgR c v i * Qma (Xk c (i % c) (v.take i)) (v.getD i 0) := rfl
theorem N32.take {v : List Nat} (h : N32 v) (i : Nat) : N32 (v.take i) := fun x hx => h x (List.mem_of_mem_take hx)
theorem N32.getD {v : List Nat} (h : N32 v) (i : Nat) : v.getD i 0 < 4294967296 := by
 rw [List.getD_eq_getElem?_getD]
 cases hx : v[i]? with
 | none => simp
 | some x => exact h x (List.mem_of_getElem? hx)
theorem QaO {c : Nat} {v : List Nat} (h : N32 v) : ∀ i, QsA c v i < 2 ^ QgR c v i ∧ QgR c v i ≤ 81 * i ∧ i ≤ QgR c v i
 | 0 => by rw [Qj1, QjZ]; decide
 | i + 1 => by
  obtain ⟨h1, h2, h3⟩ := QaO h i
  have hd := QqR (c := c) (r := i % c) (h.take i)
  have h4 := Qnm (v := v.getD i 0) hd
  have h5 := QqM (Xk c (i % c) (v.take i)) (v.getD i 0)
  rw [Qj2, Qj0]
  exact ⟨JT h1 (Qnn (h.getD i)), by omega, by omega⟩
def Qgj (c : Nat) (v : List Nat) : List UInt8 := leB (QsA c v v.length) (nB (QgR c v v.length))
def Zj (p : List UInt8) : List UInt8 := p ++ leB (QbG p) 4
theorem Qfe (p : List UInt8) : (Zj p).length = p.length + 4 := by simp [Zj, Qb]
theorem QeR (c : Nat) (v : List Nat) : (Qgj c v).length = nB (QgR c v v.length) := by simp [Qgj, Qb]
theorem QjY (ob J : List Ob) (k : Nat) : (ob ++ J)[ob.length + k]? = J[k]? := by rw [List.getElem?_append_right (by omega), Nat.add_sub_cancel_left]
theorem Qbr (ob J : List Ob) : (ob ++ J)[ob.length]? = J[0]? := QjY ob J 0
theorem QkU (ob J : List Ob) (k : Nat) (y : Ob) : (ob ++ J).set (ob.length + k) y = ob ++ J.set k y := by rw [List.set_append_right _ _ (by omega), Nat.add_sub_cancel_left]
theorem QcF (ob J : List Ob) (y : Ob) : (ob ++ J).set ob.length y = ob ++ J.set 0 y := QkU ob J 0 y
def JH (t : Nat) (P : Prg) (f : Nat) : Prop := ∀ l : List UInt8, l.length ≤ 1000000 → VO P f [bs l] (.own 0 l.length) ⟨t, 1, l.length, u8 l, 0⟩
theorem Qus {P : Prg} {f t0 : Nat} (b : Qf P f 8 [.tmp 2] (QQ t0)) : JH t0 P f := by
 intro l hl
 refine VO.of_walk (by simp [isDL, QP]) (QV l) (by simp [okr]) (ACall.virtR t0 1 (by decide) (ACall.of_body b (by simp) ?_))
 by_cases h0 : l = []
 ·subst h0
  simp (maxSteps := 4000000) (disch := omega) only [rq, simprocAttr, QQ, bs, Qm5, Qab]
  exact ⟨.inr ⟨true, rfl, 0, rfl, rfl⟩, .inl ⟨0, rfl, rfl⟩⟩
 ·have h1 : l.length ≠ 0 := by simpa using h0
  simp (maxSteps := 4000000) (disch := omega) only [rq, simprocAttr, QQ, bs, Qm5, h1]
  exact .inl ⟨0, rfl, rfl⟩
theorem Qq3 {P : Prg} {f fC t0 tb : Nat} (bd : Qf P f 9 [.cell 2 t0] (Qap fC t0)) (hC : JH tb P fC) (ht : ZK P t0 = some (some 2)) {N V : Nat} (hN : N ≤ 400000) {ob : List Ob} (hl : Low ob.length ob) {K : AV → List Ob → Prop}
  (hK : K (.agg [.own ob.length (nB N), .int .i64 N]) (ob ++ [bY tb N V])) : ACall P f [bA N V] ob K := by
 refine ACall.low (ACall.pad (ACall.of_body bd (by simp) ?_))
 have hC' := hC (leB V (nB N)) (by rw [Qb]; unfold nB; omega)
 rw [bs, Qb] at hC'
 have hlow : Low (ob.length + 1) (ob ++ [bY tb N V]) := (hl.mono (by omega)).append (Low.cons (lowL_D _ (Qag _ _)) Low.nil)
 simp (maxSteps := 4000000) (disch := omega) only [rq, simprocAttr, Qap, bA, List.append_assoc, List.cons_append, List.nil_append, QjY, Qbr, QkU, QcF]
 refine Q4.vo hC' ob.length (by rw [Qbr]; rfl) Nat.one_ne_zero ?_
 simp (maxSteps := 4000000) (disch := omega) only [rq, simprocAttr, shr, List.append_assoc, List.cons_append, List.nil_append, QjY, Qbr, QkU, QcF, ZL, ht, Q3]
 exact ⟨ob ++ [bY tb N V], [_, _], by simp [bY]; exact ⟨rfl, rfl⟩, by simp, by simpa using hlow, by simp [XV, lowL], hK⟩
def QkP (P : Prg) (f : Nat) : Prop := ∀ N V v n : Nat, V < 2 ^ N → v < 2 ^ n → n ≤ 64 → N + n ≤ 330000 → VC P f [bA N V, .int .u64 v, .int .i64 n] (.tup [bA (N + n) (V + 2 ^ N * v), .int .i64 0])
theorem QsV {P : Prg} {f fC fT fK fP t0 t1 tb : Nat} (bd : Qf P f 44 [.cell 6 t0, .tmp 7] (Qbm fC fT fP t0)) (hC : Qcg P fC) (bT : Qf P fT 9 [.cell 2 t1] (Qap fK t1)) (bP : Qf P fP 75 [] (Qbl tb)) (hK : JH tb P fK) (ht : ZK P t0 = some (some 2)) (ht1 : ZK P t1 = some (some 2)) : QkP P f := by
 intro N V v n hV hv hn hN
 refine VC.of_walk 2 (by simp [isDL, Qdh, isD]) (by simp [isD, isDL, Qdh]) (ACall.of_body bd (by simp) ?_)
 have hC' := hC N V hV (by omega)
 rw [bA] at hC'
 have e1 : n < 64 → Qh false .u64 (v : Int) (n : Int) = some (.int .u64 0) := fun h => by
  rw [Qlm (K := .u64) (by show n ≤ 64; omega), Nat.div_eq_of_lt hv]; rfl
 have tu : isTL (u8 (leB V (nB N))) = true := Qr _
 have tl : ∀ W M, isTL (u8 (leB W M)) = true := fun W M => Qr _
 have tw : ∀ (Q : Exit → St → Prop) os fr dst, wpQ P os Q ⟨ZD fr dst (.agg [.own 2 (nB N), .int .i64 N]), [⟨t0, 2, 1, [.list (nB N) (u8 (leB V (nB N))), .int .i64 N], 0⟩, ⟨t0, 2, 1, [.emp true, .int .i64 0], 0⟩, bY tb N V]⟩ →
   Qa P fT [.agg [.list (nB N) (u8 (leB V (nB N))), .int .i64 N]] [⟨t0, 2, 1, [.list (nB N) (u8 (leB V (nB N))), .int .i64 N], 0⟩, ⟨t0, 2, 1, [.emp true, .int .i64 0], 0⟩] os Q fr dst := fun Q os fr dst h =>
  Qq3 bT hK ht1 (N := N) (V := V) (by omega) (Low.cons (by simp [lowL, XV, lowL_D _ (Qag _ _)]) (Low.cons (by simp [lowL, XV]) Low.nil)) h
 have pt : ∀ (Q : Exit → St → Prop) os fr dst, wpQ P os Q ⟨ZD fr dst (.tup []), [⟨t0, 2, 1, [.own 2 (nB (N + n)), .int .i64 ((N + n : Nat) : Int)], 0⟩, ⟨t0, 2, 1, [.emp true, .int .i64 0], 0⟩, bY tb (N + n) (V + 2 ^ N * v)]⟩ →
   Qa P fP [.ref 0 1 0, .int .u64 v, .int .i64 n] [⟨t0, 2, 1, [.own 2 (nB N), .int .i64 N], 0⟩, ⟨t0, 2, 1, [.emp true, .int .i64 0], 0⟩, bY tb N V] os Q fr dst := fun Q os fr dst h =>
  QsU bP (ob := [⟨t0, 2, 1, [.own 2 (nB N), .int .i64 N], 0⟩, ⟨t0, 2, 1, [.emp true, .int .i64 0], 0⟩, bY tb N V]) (p := 0) (o := 2) (t := t0) rfl rfl (by decide) hV hv hn (by omega)
   (Low.cons (by simp [lowL, XV]) (Low.cons (by simp [lowL, XV]) (Low.cons (lowL_D _ (Qag _ _)) Low.nil))) h
 have tu' := tl (V + 2 ^ N * v) (nB (N + n))
 generalize V + 2 ^ N * v = W at *
 by_cases h64 : n < 64
 ·have e1' := e1 h64
  simp (maxSteps := 4000000) (disch := omega) only [rq, simprocAttr, Qbm, bA]
  refine Qa.vc hC' ?_
  simp (maxSteps := 4000000) (disch := omega) only [rq, simprocAttr, e1']
  refine tw _ _ _ _ ?_
  simp (maxSteps := 4000000) (disch := omega) only [rq, simprocAttr]
  refine pt _ _ _ _ ?_
  simp (maxSteps := 4000000) (disch := omega) only [rq, simprocAttr, ZL, ht, Q3]
  simp [QT, QF, frzL, QE, bY, frzL_T _ tu']
 ·simp (maxSteps := 4000000) (disch := omega) only [rq, simprocAttr, Qbm, bA]
  refine Qa.vc hC' ?_
  simp (maxSteps := 4000000) (disch := omega) only [rq, simprocAttr]
  refine tw _ _ _ _ ?_
  simp (maxSteps := 4000000) (disch := omega) only [rq, simprocAttr]
  refine pt _ _ _ _ ?_
  simp (maxSteps := 4000000) (disch := omega) only [rq, simprocAttr, ZL, ht, Q3]
  simp [QT, QF, frzL, QE, bY, frzL_T _ tu']
def uN (n : Nat) : Nat := min (n + 1) 48
def Qre (P : Prg) (f : Nat) : Prop := ∀ n : Nat, n ≤ 48 → VC P f [.int .i64 n] (.tup [.int .i64 (uN n), .int .i64 0])
theorem Qjp {P : Prg} {f : Nat} (bd : Qf P f 13 [.tmp 2, .tmp 3] JY) : Qre P f := by
 intro n hn
 refine VC.of_acall rfl rfl (ACall.of_body bd (by simp) ?_)
 have e1 : (if (48 : Int) < (n : Int) + 1 then (48 : Int) else (n : Int) + 1) = (uN n : Nat) := by unfold uN; split <;> omega
 simp (maxSteps := 4000000) (disch := omega) only [rq, simprocAttr, JY, e1]
theorem QpG {n : Nat} (h : n ≤ 48) : 2 ^ n ≤ 281474976710656 := Nat.pow_le_pow_right (by omega) h
def QiE (P : Prg) (f : Nat) : Prop := ∀ N V n : Nat, V < 2 ^ N → n ≤ 48 → N + uN n ≤ 330000 → VC P f [bA N V, .int .i64 n] (.tup [bA (N + uN n) (V + 2 ^ N * (2 ^ n - 1)), .int .i64 0])
theorem Qlb {P : Prg} {f fC fL fP t0 : Nat} (bd : Qf P f 32 [.cell 4 t0, .tmp 5] (Qax fC fL fP t0)) (hC : Qcg P fC) (hL : Qre P fL) (hP : QkP P fP) (ht : ZK P t0 = some (some 2)) : QiE P f := by
 intro N V n hV hn hN
 refine VC.of_walk 1 (by simp [isDL, Qdh, isD]) (by simp [isD, isDL, Qdh]) (ACall.of_body bd (by simp) ?_)
 have hC' := hC N V hV (by omega)
 have hL' := hL n hn
 have hp := QpG hn
 have hpos : 0 < 2 ^ n := Nat.pow_pos (by omega)
 have hlt : 2 ^ n - 1 < 2 ^ uN n := by
  unfold uN
  rcases Nat.lt_or_ge n 48 with h | h
  ·rw [Nat.min_eq_left (by omega), Nat.pow_succ]; omega
  ·obtain rfl : n = 48 := by omega
   decide
 have hP' := hP N V (2 ^ n - 1) (uN n) hV hlt (by unfold uN; omega) hN
 have e3 : Qh true .u64 1 (n : Int) = some (.int .u64 ((2 ^ n : Nat) : Int)) := by
  have := QrA (K := .u64) rfl (c := 1) (s := n) (by show n ≤ 64; omega) (by show 1 * 2 ^ n < 18446744073709551616; omega)
  rw [Nat.one_mul] at this
  exact this
 have e4 : IntKind.u64.wrap (((2 ^ n : Nat) : Int) - 1) = ((2 ^ n - 1 : Nat) : Int) := by rw [Xl]; omega
 generalize V + 2 ^ N * (2 ^ n - 1) = W at *
 generalize 2 ^ n - 1 = x at *
 generalize 2 ^ n = p at *
 generalize uN n = u at *
 have tl : isTL (u8 (leB W (nB (N + u)))) = true := Qr _
 simp only [bA] at hC' hP' ⊢
 simp (maxSteps := 4000000) (disch := omega) only [rq, simprocAttr, Qax]
 refine Qa.vc hC' ?_
 simp (maxSteps := 4000000) (disch := omega) only [rq, simprocAttr]
 refine Qa.vc hL' ?_
 simp (maxSteps := 4000000) (disch := omega) only [rq, simprocAttr, e3, e4]
 refine Q4.vc hP' ?_
 simp (maxSteps := 4000000) (disch := omega) only [rq, simprocAttr, ZL, ht, Q3]
 simp [QT, QF, frzL, QE, frzL_T _ tl]
def QiG (P : Prg) (f : Nat) : Prop := ∀ N V v k : Nat, V < 2 ^ N → v < 4294967296 → k ≤ 24 → N + 80 ≤ 330000 → VC P f [bA N V, .int .u32 v, .int .i64 k] (.tup [bA (N + Qjz v k) (V + 2 ^ N * QjA v k), .int .i64 0])
theorem QnS {P : Prg} {f fC fE fU fP t0 : Nat} (bd : Qf P f 57 [.cell 6 t0, .tmp 7] (JA fC fE fU fP t0)) (hC : Qcg P fC) (hE : QuB P fE) (hU : QiE P fU) (hP : QkP P fP) (ht : ZK P t0 = some (some 2)) : QiG P f := by
 intro N V v k hV hv hk hN
 refine VC.of_walk 1 (by simp [isDL, Qdh, isD]) (by simp [isD, isDL, Qdh]) (ACall.of_body bd (by simp) ?_)
 have hC' := hC N V hV (by omega)
 have hE' := hE v k hk hv
 obtain ⟨q1, _⟩ := p24 hk
 have hpk : 0 < 2 ^ k := Nat.pow_pos (by omega)
 have e1 : Qh false .u32 (v : Int) (k : Int) = some (.int .u32 ((v / 2 ^ k : Nat) : Int)) := Qlm (K := .u32) (by show k ≤ 32; omega)
 have e2 : Qh true .u32 1 (k : Int) = some (.int .u32 ((2 ^ k : Nat) : Int)) := by
  have := QrA (K := .u32) rfl (c := 1) (s := k) (by show k ≤ 32; omega) (by show 1 * 2 ^ k < 4294967296; omega)
  rw [Nat.one_mul] at this
  exact this
 have e3 : IntKind.u32.wrap (((2 ^ k : Nat) : Int) - 1) = ((2 ^ k - 1 : Nat) : Int) := by rw [J8]; omega
 have e4 : IntKind.u32.wrap (BitVec.ofInt IntKind.u32.bits (v : Int) &&& BitVec.ofInt IntKind.u32.bits ((2 ^ k - 1 : Nat) : Int)).toNat = ((v % 2 ^ k : Nat) : Int) := by
  rw [QvX (K := .u32) rfl hv (by show 2 ^ k - 1 < 4294967296; omega), Nat.and_two_pow_sub_one_eq_mod]
 have hqv : v / 2 ^ k ≤ v := Nat.div_le_self _ _
 have hrv : v % 2 ^ k < 2 ^ k := Nat.mod_lt _ hpk
 unfold Qjz QjA
 by_cases hq : 48 ≤ v / 2 ^ k
 ·rw [if_pos hq, if_pos hq]
  simp only [hq, decide_true] at hE'
  have hU' := hU N V 48 hV (Nat.le_refl _) (by unfold uN; omega)
  have hu : uN 48 = 48 := rfl
  rw [hu] at hU'
  have hV1 : V + 2 ^ N * (2 ^ 48 - 1) < 2 ^ (N + 48) := JT hV (by decide)
  have hP' := hP (N + 48) (V + 2 ^ N * (2 ^ 48 - 1)) v 32 hV1 hv (by omega) (by omega)
  have hW : V + 2 ^ N * (2 ^ 48 - 1) + 2 ^ (N + 48) * v = V + 2 ^ N * (2 ^ 48 - 1 + 2 ^ 48 * v) := by rw [Nat.pow_add, Nat.mul_add, Nat.mul_assoc, Nat.add_assoc]
  rw [hW] at hP'
  generalize V + 2 ^ N * (2 ^ 48 - 1 + 2 ^ 48 * v) = W at *
  generalize V + 2 ^ N * (2 ^ 48 - 1) = W1 at *
  have hNN : N + 48 + 32 = N + 80 := by omega
  rw [hNN] at hP'
  have tl : isTL (u8 (leB W (nB (N + 80)))) = true := Qr _
  simp only [bA] at hC' hP' hU' ⊢
  have hU'' : VC P fU [.agg [.list (nB N) (u8 (leB V (nB N))), .int .i64 N], .int .i64 48] (.tup [.agg [.list (nB (N + 48)) (u8 (leB W1 (nB (N + 48)))), .int .i64 ((N + 48 : Nat) : Int)], .int .i64 0]) := hU'
  have hP'' : VC P fP [.agg [.list (nB (N + 48)) (u8 (leB W1 (nB (N + 48)))), .int .i64 ((N + 48 : Nat) : Int)], .int .u64 v, .int .i64 32] (.tup [.agg [.list (nB (N + 80)) (u8 (leB W (nB (N + 80)))), .int .i64 ((N + 80 : Nat) : Int)], .int .i64 0]) := hP'
  generalize v / 2 ^ k = q at *
  generalize v % 2 ^ k = r at *
  generalize 2 ^ k - 1 = mk at *
  generalize 2 ^ k = pk at *
  simp (maxSteps := 4000000) (disch := omega) only [rq, simprocAttr, JA]
  refine Qa.vc hC' ?_
  simp (maxSteps := 4000000) (disch := omega) only [rq, simprocAttr, e1, e2, e3, e4]
  refine Qa.vc hE' ?_
  simp (maxSteps := 4000000) (disch := omega) only [rq, simprocAttr]
  refine Qa.vc hU'' ?_
  simp (maxSteps := 4000000) (disch := omega) only [rq, simprocAttr]
  refine Qa.vc hP'' ?_
  simp (maxSteps := 4000000) (disch := omega) only [rq, simprocAttr, ZL, ht, Q3]
  simp [QT, QF, frzL, QE, frzL_T _ tl]
 ·rw [if_neg hq, if_neg hq]
  simp only [hq, decide_false] at hE'
  have hu : uN (v / 2 ^ k) = v / 2 ^ k + 1 := by unfold uN; omega
  have hU' := hU N V (v / 2 ^ k) hV (by omega) (by rw [hu]; omega)
  rw [hu] at hU'
  have hlt : 2 ^ (v / 2 ^ k) - 1 < 2 ^ (v / 2 ^ k + 1) := by
   have : 0 < 2 ^ (v / 2 ^ k) := Nat.pow_pos (by omega)
   rw [Nat.pow_succ]; omega
  have hV1 : V + 2 ^ N * (2 ^ (v / 2 ^ k) - 1) < 2 ^ (N + (v / 2 ^ k + 1)) := JT hV hlt
  have hP' := hP (N + (v / 2 ^ k + 1)) (V + 2 ^ N * (2 ^ (v / 2 ^ k) - 1)) (v % 2 ^ k) k hV1 hrv (by omega) (by omega)
  have hW : V + 2 ^ N * (2 ^ (v / 2 ^ k) - 1) + 2 ^ (N + (v / 2 ^ k + 1)) * (v % 2 ^ k) = V + 2 ^ N * (2 ^ (v / 2 ^ k) - 1 + 2 ^ (v / 2 ^ k + 1) * (v % 2 ^ k)) := by rw [Nat.pow_add 2 N, Nat.mul_add, Nat.mul_assoc, Nat.add_assoc]
  rw [hW] at hP'
  generalize V + 2 ^ N * (2 ^ (v / 2 ^ k) - 1 + 2 ^ (v / 2 ^ k + 1) * (v % 2 ^ k)) = W at *
  generalize V + 2 ^ N * (2 ^ (v / 2 ^ k) - 1) = W1 at *
  have hNN : N + (v / 2 ^ k + 1) + k = N + (v / 2 ^ k + 1 + k) := by omega
  rw [hNN] at hP'
  have tl : isTL (u8 (leB W (nB (N + (v / 2 ^ k + 1 + k))))) = true := Qr _
  simp only [bA] at hC' hP' hU' ⊢
  generalize v / 2 ^ k = q at *
  generalize v % 2 ^ k = r at *
  generalize 2 ^ k - 1 = mk at *
  generalize 2 ^ k = pk at *
  generalize hM : N + (q + 1 + k) = M at *
  generalize hM1 : N + (q + 1) = M1 at *
  simp (maxSteps := 4000000) (disch := omega) only [rq, simprocAttr, JA]
  refine Qa.vc hC' ?_
  simp (maxSteps := 4000000) (disch := omega) only [rq, simprocAttr, e1, e2, e3, e4]
  refine Qa.vc hE' ?_
  simp (maxSteps := 4000000) (disch := omega) only [rq, simprocAttr]
  refine Qa.vc hU' ?_
  simp (maxSteps := 4000000) (disch := omega) only [rq, simprocAttr]
  refine Qa.vc hP' ?_
  simp (maxSteps := 4000000) (disch := omega) only [rq, simprocAttr, ZL, ht, Q3]
  simp [QT, QF, frzL, QE, frzL_T _ tl]
def QiH (P : Prg) (f : Nat) : Prop := ∀ (N V v : Nat) (d : Dl), V < 2 ^ N → v < 4294967296 → okD d → N + 81 ≤ 330000 → VC P f [bA N V, dlA d, .int .u32 v] (.tup [bA (N + Qex d v) (V + 2 ^ N * Qma d v), dlA (Jq d v), .int .i64 0])
theorem Qog {P : Prg} {f fC fD fV fP fR fL fl1 fll t0 t1 : Nat} (bd : Qf P f 69 [.cell 6 t0, .cell 7 t1, .tmp 8] (JC fC fD fV fP fR fL t0 t1)) (hC : Qcg P fC) (hD : QiW P fD) (hLv : QfU P fV) (hP : QkP P fP) (hR : QiG P fR)
  (bL : Qf P fL 36 [] (XC fl1 fll)) (b1 : Qf P fl1 58 [] Ql) (hL : QfU P fll) (ht0 : ZK P t0 = some (some 2)) (ht : ZK P t1 = some (some 4)) : QiH P f := by
 intro N V v d hV hv hd hN
 refine VC.of_walk 1 (by simp [isDL, Qdh, Qp5, isD]) (by simp [isD, isDL, Qdh, Qp5]) (ACall.of_cut 7 bd (by simp) ?_)
 have hd' := hd
 have hC' := hC N V hV (by omega)
 have hD' := hD d hd
 have hLv' := hLv d v hd hv
 have hL1 : ∀ {ob : List Ob} {p : Nat} {v : Nat} {K : AV → List Ob → Prop}, ob[p]? = some ⟨t1, 4, 1, dlC d, 0⟩ → v < 4294967296 → K (.tup []) (ob.set p ⟨t1, 4, 1, dlC (Jq d v), 0⟩) → ACall P fL [.ref p 1 0, .int .u32 v] ob K :=
  fun hp hv hK => Qof bL b1 hL hp hd hv hK
 obtain ⟨k0, k1, s0, s1⟩ := d
 obtain ⟨h1, h2, h3, h4⟩ := hd'
 simp only at h1 h2 h3 h4
 obtain ⟨pk, _⟩ := p24 h1
 simp only [bA] at hC'
 simp only [dlA, dlC] at hD' hLv'
 unfold Qex Qma
 by_cases c : v < 2 ^ k0
 ·simp only [c, if_true] at hLv' ⊢
  have hP1 := hP N V 0 1 hV (by decide) (by omega) (by omega)
  rw [Nat.mul_zero, Nat.add_zero] at hP1
  have hV1 : V < 2 ^ (N + 1) := Nat.lt_of_lt_of_le hV (Nat.pow_le_pow_right (by omega) (by omega))
  have hP2 := hP (N + 1) V v k0 hV1 c (by omega) (by omega)
  have hW : V + 2 ^ (N + 1) * v = V + 2 ^ N * (2 * v) := by rw [Nat.pow_succ, Nat.mul_assoc]
  rw [hW, Nat.add_assoc] at hP2
  generalize V + 2 ^ N * (2 * v) = W at *
  have tl : isTL (u8 (leB W (nB (N + (1 + k0))))) = true := Qr _
  simp only [bA] at hP1 hP2 ⊢
  have hP1' : VC P fP [.agg [.list (nB N) (u8 (leB V (nB N))), .int .i64 N], .int .u64 0, .int .i64 1] (.tup [.agg [.list (nB (N + 1)) (u8 (leB V (nB (N + 1)))), .int .i64 ((N + 1 : Nat) : Int)], .int .i64 0]) := hP1
  simp (maxSteps := 4000000) (disch := omega) only [rq, simprocAttr, Qas, JC, dlA, dlC]
  refine Qa.vc hC' ?_
  simp (maxSteps := 4000000) (disch := omega) only [rq, simprocAttr, Qas]
  refine Qa.vc hD' ?_
  simp (maxSteps := 4000000) (disch := omega) only [rq, simprocAttr, Qas]
  refine Qa.vc hLv' ?_
  simp (maxSteps := 4000000) (disch := omega) only [rq, simprocAttr, Qas]
  refine Qa.vc hP1' ?_
  simp (maxSteps := 4000000) (disch := omega) only [rq, simprocAttr, Qas]
  refine Qa.vc hP2 ?_
  simp (maxSteps := 4000000) (disch := omega) only [rq, simprocAttr, Qas]
  refine hL1 (v := v) rfl hv ?_
  generalize Jq ⟨k0, k1, s0, s1⟩ v = d'
  obtain ⟨l0, l1, l2, l3⟩ := d'
  simp (maxSteps := 4000000) (disch := omega) only [rq, simprocAttr, Qas]
  refine ⟨⟨[(8, .int .i64 0), (7, .ref 3 1 0), (6, .ref 2 1 0), (4, .cell [.int .i64 l0, .int .i64 l1, .int .u64 l2, .int .u64 l3]), (3, .ref 0 1 0)], _⟩, Le.still [1] 1 (by simp [Am.look, QF, frzL, QE, dlC, isDL, isD]), ?_⟩
  simp (maxSteps := 4000000) (disch := omega) only [rq, simprocAttr, ZL, ht, ht0, Q3, dlC, Qi]
  simp [QT, QF, frzL, QE, frzL_T _ tl]
 ·simp only [c, if_false] at hLv' ⊢
  have hP1 := hP N V 1 1 hV (by decide) (by omega) (by omega)
  rw [Nat.mul_one] at hP1
  have hV1 : V + 2 ^ N < 2 ^ (N + 1) := by rw [Nat.pow_succ]; omega
  have hl : v - 2 ^ k0 < 4294967296 := Nat.lt_of_le_of_lt (Nat.sub_le _ _) hv
  have hR2 := hR (N + 1) (V + 2 ^ N) (v - 2 ^ k0) k1 hV1 hl h2 (by omega)
  have hW : V + 2 ^ N + 2 ^ (N + 1) * QjA (v - 2 ^ k0) k1 = V + 2 ^ N * (1 + 2 * QjA (v - 2 ^ k0) k1) := by rw [Nat.pow_succ, Nat.mul_assoc, Nat.mul_add, Nat.mul_one, Nat.add_assoc]
  rw [hW, Nat.add_assoc] at hR2
  generalize V + 2 ^ N * (1 + 2 * QjA (v - 2 ^ k0) k1) = W at *
  generalize Qjz (v - 2 ^ k0) k1 = rn at *
  generalize v - 2 ^ k0 = lf at *
  generalize V + 2 ^ N = W1 at *
  have tl : isTL (u8 (leB W (nB (N + (1 + rn))))) = true := Qr _
  simp only [bA] at hP1 hR2 ⊢
  have hP1' : VC P fP [.agg [.list (nB N) (u8 (leB V (nB N))), .int .i64 N], .int .u64 1, .int .i64 1] (.tup [.agg [.list (nB (N + 1)) (u8 (leB W1 (nB (N + 1)))), .int .i64 ((N + 1 : Nat) : Int)], .int .i64 0]) := hP1
  simp (maxSteps := 4000000) (disch := omega) only [rq, simprocAttr, Qas, JC, dlA, dlC]
  refine Qa.vc hC' ?_
  simp (maxSteps := 4000000) (disch := omega) only [rq, simprocAttr, Qas]
  refine Qa.vc hD' ?_
  simp (maxSteps := 4000000) (disch := omega) only [rq, simprocAttr, Qas]
  refine Qa.vc hLv' ?_
  simp (maxSteps := 4000000) (disch := omega) only [rq, simprocAttr, Qas]
  refine Qa.vc hP1' ?_
  simp (maxSteps := 4000000) (disch := omega) only [rq, simprocAttr, Qas]
  refine Qa.vc hR2 ?_
  simp (maxSteps := 4000000) (disch := omega) only [rq, simprocAttr, Qas]
  refine hL1 (v := v) rfl hv ?_
  generalize Jq ⟨k0, k1, s0, s1⟩ v = d'
  obtain ⟨l0, l1, l2, l3⟩ := d'
  simp (maxSteps := 4000000) (disch := omega) only [rq, simprocAttr, Qas]
  refine ⟨⟨[(8, .int .i64 0), (7, .ref 3 1 0), (6, .ref 2 1 0), (4, .cell [.int .i64 l0, .int .i64 l1, .int .u64 l2, .int .u64 l3]), (3, .ref 0 1 0)], _⟩, Le.still [1] 1 (by simp [Am.look, QF, frzL, QE, dlC, isDL, isD]), ?_⟩
  simp (maxSteps := 4000000) (disch := omega) only [rq, simprocAttr, ZL, ht, ht0, Q3, dlC, Qi]
  simp [QT, QF, frzL, QE, frzL_T _ tl]
end Go.Am
