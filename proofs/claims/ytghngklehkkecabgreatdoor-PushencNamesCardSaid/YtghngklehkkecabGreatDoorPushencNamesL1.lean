/- What the functions that the law reaches return, for every program that has their code; the conditions stand in each statement. -/
import Derived.Test.YtghngklehkkecabGreatDoorPushencNamesD1
set_option linter.unusedSectionVars false
set_option linter.unusedSimpArgs false
set_option linter.unusedVariables false
namespace Go.Am
open Go.RowKit
def leN : List UInt8 → Nat
 | [] => 0
 | b :: l => b.toNat + 256 * leN l
theorem Qs4 : ∀ l : List UInt8, leN l < 2 ^ (8 * l.length)
 | [] => by simp [leN]
 | b :: l => by
  have h1 := Qs4 l
  have h2 := b.toNat_lt
  have h3 : 2 ^ (8 * (b :: l).length) = 256 * 2 ^ (8 * l.length) := by
   rw [List.length_cons, Nat.mul_add, Nat.pow_add, Nat.mul_comm]
  rw [h3]
  simp only [leN]
  omega
theorem Qy (l : List UInt8) : isTL (u8 l) = true := by
 induction l with
 | nil => rfl
 | cons x l ih => simp [Qll, isTL, isT, ih]
def Xk (b : Int) : Int := if b = 8 then 128 else if b = 16 then 32768 else if b = 24 then 8388608 else 0
theorem ZH (b : Int) : (b = 8 ∧ Xk b = 128) ∨ (b = 16 ∧ Xk b = 32768) ∨ (b = 24 ∧ Xk b = 8388608) ∨ (b ≠ 8 ∧ b ≠ 16 ∧ b ≠ 24 ∧ Xk b = 0) := by
 unfold Xk; split <;> (try split) <;> (try split) <;> omega
def Jj (b : Int) : AV := if Xk b = 0 then .tup [.int .i32 0, .int .i32 0, .int .i64 2] else .tup [.int .i32 (-Xk b), .int .i32 (Xk b - 1), .int .i64 0]
def Qf1 (P : Prg) (f : Nat) : Prop := ∀ b : Int, VC P f [.int .i64 b] (Jj b)
theorem Qk6 {P : Prg} {f : Nat} (b : Qk P f 18 [.tmp 2, .tmp 3, .tmp 4] ZI) : Qf1 P f := by
 intro x
 refine VC.of_acall rfl (by unfold Jj; split <;> rfl) (ACall.of_body b (by simp) ?_)
 rcases ZH x with ⟨rfl, h⟩ | ⟨rfl, h⟩ | ⟨rfl, h⟩ | ⟨h1, h2, h3, h⟩
 ·simp (maxSteps := 4000000) (disch := omega) only [rq, simprocAttr, ZI, Jj, h]
  rfl
 ·simp (maxSteps := 4000000) (disch := omega) only [rq, simprocAttr, ZI, Jj, h]
  rfl
 ·simp (maxSteps := 4000000) (disch := omega) only [rq, simprocAttr, ZI, Jj, h]
  rfl
 ·simp (maxSteps := 4000000) (disch := omega) only [rq, simprocAttr, ZI, Jj, h]
def il (l : List Int) : AV := .list l.length (ks .i32 l)
theorem ZC (l : List Int) : isD (il l) = true := by simp [il, isD, QG]
def inR (b x : Int) : Bool := decide (-Xk b ≤ x) && decide (x < Xk b)
def QM (b : Int) (l : List Int) : Int := if Xk b = 0 then 2 else if 4000 < l.length then 4 else if l.all (inR b) then 0 else 16
def I32 (l : List Int) : Prop := ∀ x ∈ l, -2147483648 ≤ x ∧ x ≤ 2147483647
def Qdw (P : Prg) (f : Nat) : Prop := ∀ (b : Int) (l : List Int), I32 l → VC P f [.int .i64 b, il l] (.int .i64 (QM b l))
theorem QiT {l : List Int} {k : Nat} (h : k < l.length) {p : Int → Bool} : (l.take (k + 1)).all p = ((l.take k).all p && p l[k]) := by
 rw [List.take_succ_eq_append_getElem h, List.all_append]; simp
theorem Qn1 {l : List Int} {k : Nat} (h : k < l.length) {p : Int → Bool} (hp : p l[k] = false) : l.all p = false := by
 rw [List.all_eq_false]
 exact ⟨l[k], List.getElem_mem h, by simp [hp]⟩
set_option maxRecDepth 10000 in
theorem Qk7 {P : Prg} {f fR : Nat} (b : Qk P f 37 [.tmp 4] (QaM fR)) (hR : Qf1 P fR) : Qdw P f := by
 intro x l hl
 refine VC.of_acall (by simp [isDL, isD, ZC]) rfl (ACall.of_body b (by simp) ?_)
 simp (maxSteps := 4000000) (disch := omega) only [rq, simprocAttr, QaM]
 refine Qb.vc (hR x) ?_
 by_cases h0 : Xk x = 0
 ·simp (maxSteps := 4000000) (disch := omega) only [rq, simprocAttr, Jj, QM, h0]
 have h3 : Xk x = 128 ∨ Xk x = 32768 ∨ Xk x = 8388608 := by rcases ZH x with h | h | h | h <;> omega
 by_cases h1 : 4000 < l.length
 ·simp (maxSteps := 4000000) (disch := omega) only [rq, simprocAttr, Jj, QM, h0, il, h1]
 simp (maxSteps := 4000000) (disch := omega) only [rq, simprocAttr, Jj, il, if_neg h0]
 refine QP.by (ι := Nat) (fun k => ⟨[(24, .int .i64 k), (23, .int .i64 l.length), (22, il l), (6, .int .i32 (Xk x - 1)), (5, .int .i32 (-Xk x))], []⟩) (fun k => k ≤ l.length ∧ (l.take k).all (inR x) = true) (fun k => l.length - k) 0 (Le.slots (by simp [Am.look, il])) ⟨by omega, by simp⟩ ?_
 intro k ⟨hk, hg⟩
 by_cases hlt : k < l.length
 ·by_cases hp : -Xk x ≤ l[k] ∧ l[k] < Xk x
  ·have hs := QiT hlt (p := inR x)
   simp (maxSteps := 4000000) (disch := omega) only [rq, simprocAttr, il, QdW, hlt]
   exact ⟨k + 1, ⟨by omega, by rw [hs, hg]; simp [inR, hp]⟩, by omega, Le.slots (by simp [Am.look, il])⟩
  ·have e : QM x l = 16 := by simp [QM, h0, h1, Qn1 hlt (p := inR x) (by simp [inR]; omega)]
   by_cases hq : l[k] < -Xk x
   ·simp (maxSteps := 4000000) (disch := omega) only [rq, simprocAttr, il, QdW, hlt, e]
   ·simp (maxSteps := 4000000) (disch := omega) only [rq, simprocAttr, il, QdW, hlt, e]
 ·have e2 : k = l.length := by omega
  subst e2
  rw [List.take_length] at hg
  simp (maxSteps := 4000000) (disch := omega) only [rq, simprocAttr, il, QM, h0, h1, hg]
theorem QfG {n : Nat} {c : Int} (h : 1 ≤ c) : 0 ≤ (n : Int) / c ∧ (n : Int) / c ≤ n :=
 ⟨Int.ediv_nonneg (by omega) (by omega), Int.ediv_le_self _ (by omega)⟩
theorem QbR {n : Nat} {c : Int} (h : 1 ≤ c) : 0 ≤ (n : Int) % c ∧ (n : Int) % c < c := ⟨Int.emod_nonneg _ (by omega), Int.emod_lt_of_pos _ (by omega)⟩
def Qf (r : Int) : Int := if 256 * r / 245 < 1 then 1 else 256 * r / 245
theorem ZS (r : Int) : 1 ≤ Qf r := by unfold Qf; split <;> omega
theorem QeT {r : Int} (h : r ≤ 1048576) : Qf r ≤ 1095654 := by unfold Qf; split <;> omega
def Qdg (r : Int) : AV := if r < 1 ∨ 1048576 < r then .tup [.int .i64 0, .int .i64 2] else .tup [.int .i64 (Qf r), .int .i64 0]
def QaF (P : Prg) (f : Nat) : Prop := ∀ r : Int, VC P f [.int .i64 r] (Qdg r)
theorem Qsk (r : Int) : isD (Qdg r) = true := by unfold Qdg; split <;> rfl
theorem Qj1 {P : Prg} {f : Nat} (b : Qk P f 14 [.tmp 2, .tmp 3] ZV) : QaF P f := by
 intro r
 refine VC.of_acall rfl (Qsk r) (ACall.of_body b (by simp) ?_)
 by_cases h1 : r < 1
 ·simp (maxSteps := 4000000) (disch := omega) only [rq, simprocAttr, ZV, Qdg, true_or]
 by_cases h2 : 1048576 < r
 ·simp (maxSteps := 4000000) (disch := omega) only [rq, simprocAttr, ZV, Qdg, or_true]
 have h3 : 1 ≤ 256 * r / 245 := by omega
 simp (maxSteps := 4000000) (disch := omega) only [rq, simprocAttr, ZV, Qdg, or_self, Qf]
 rw [show (if (1 : Int) < 256 * r / 245 then 256 * r / 245 else 1) = 256 * r / 245 by split <;> omega]
def QT (c b : Int) : Int := if Xk b = 0 ∨ c < 1 ∨ 6 < c then 2 else 0
def shA (c b : Int) : AV := .agg [.int .i64 c, .int .i64 b]
def QdC (P : Prg) (f : Nat) : Prop := ∀ c b : Int, VC P f [shA c b] (.int .i64 (QT c b))
theorem Qii {P : Prg} {f fR t0 : Nat} (b : Qk P f 25 [.tmp 2] (Jz fR t0)) (hR : Qf1 P fR) : QdC P f := by
 intro c x
 refine VC.of_acall rfl rfl (ACall.of_body b (by simp) ?_)
 simp (maxSteps := 4000000) (disch := omega) only [rq, simprocAttr, Jz, shA]
 refine Qb.vc (hR x) ?_
 by_cases h0 : Xk x = 0
 ·simp (maxSteps := 4000000) (disch := omega) only [rq, simprocAttr, Jj, h0, QT, true_or]
 by_cases h1 : c < 1
 ·simp (maxSteps := 4000000) (disch := omega) only [rq, simprocAttr, Jj, if_neg h0, QT, h0, or_true, true_or]
 by_cases h2 : 6 < c
 ·simp (maxSteps := 4000000) (disch := omega) only [rq, simprocAttr, Jj, if_neg h0, QT, h0, or_true]
 ·simp (maxSteps := 4000000) (disch := omega) only [rq, simprocAttr, Jj, if_neg h0, QT, h0, or_self]
structure Enc where
 ch : Int
 bits : Int
 rate : Int
 pw : List UInt8
 rest : List UInt8
 smp : List Int
 frs : List (List UInt8)
 out : List UInt8
 done : Bool
 err : Int
def bss (l : List (List UInt8)) : AV := .list l.length (l.map bs)
def XQ (e : Enc) : List AV := [.int .i64 e.ch, .int .i64 e.bits, .int .i64 e.rate, .str e.pw, bs e.rest, il e.smp, bss e.frs, bs e.out, .bool e.done, .int .i64 e.err]
def XO (e : Enc) : AV := .agg (XQ e)
theorem Zf : ∀ l : List (List UInt8), isDL (l.map bs) = true
 | [] => rfl
 | x :: l => by simp [isDL, Zi, Zf l]
theorem QcK (l : List (List UInt8)) : isD (bss l) = true := by simp [bss, isD, Zf]
theorem ZT (e : Enc) : isD (XO e) = true := by simp [XO, XQ, isD, isDL, Zi, ZC, QcK]
def Qz (c b r : Int) (pw : List UInt8) : Bool := decide (QT c b = 0) && decide (1 ≤ r ∧ r ≤ 1048576) && decide (pw.length ≤ 64)
def Qj0 (r : Int) : Int := if r < 1 ∨ 1048576 < r then 0 else Qf r
theorem QJ {c b r : Int} {pw : List UInt8} : Qz c b r pw = true ↔ (Xk b ≠ 0 ∧ 1 ≤ c ∧ c ≤ 6) ∧ (1 ≤ r ∧ r ≤ 1048576) ∧ pw.length ≤ 64 := by
 have e : QT c b = 0 ↔ (Xk b ≠ 0 ∧ 1 ≤ c ∧ c ≤ 6) := by unfold QT; split <;> omega
 simp only [Qz, Bool.and_eq_true, decide_eq_true_eq, e, and_assoc]
def Qi2 (P : Prg) (f : Nat) : Prop := ∀ (c b r : Int) (pw : List UInt8), pw.length ≤ 4611686018427387904 → VC P f [shA c b, .int .i64 r, .str pw] (.tup [.int .i64 (Qj0 r), .bool (Qz c b r pw)])
theorem QhV {P : Prg} {f fL fE t0 : Nat} (b : Qk P f 28 [.tmp 6, .tmp 7] (Js fL fE t0)) (hL : QaF P fL) (hE : QdC P fE) : Qi2 P f := by
 intro c x r pw hpw
 refine VC.of_acall rfl rfl (ACall.of_body b (by simp) ?_)
 simp (maxSteps := 4000000) (disch := omega) only [rq, simprocAttr, Js, shA]
 refine Qb.vc (hL r) ?_
 have he : QT c x = 0 ∨ QT c x = 2 := by unfold QT; split <;> omega
 by_cases h1 : r < 1 ∨ 1048576 < r
 ·simp (maxSteps := 4000000) (disch := omega) only [rq, simprocAttr, Qdg, h1]
  refine Qb.vc (by have := hE c x; rw [shA] at this; exact this) ?_
  have h2 : Qz c x r pw = false := by simp only [Qz]; rw [show decide (1 ≤ r ∧ r ≤ 1048576) = false by rw [decide_eq_false_iff_not]; omega]; simp
  rcases he with he | he
  ·simp (maxSteps := 4000000) (disch := omega) only [rq, simprocAttr, he, Qj0, h2, h1]
  ·simp (maxSteps := 4000000) (disch := omega) only [rq, simprocAttr, he, Qj0, h2, h1]
 ·simp (maxSteps := 4000000) (disch := omega) only [rq, simprocAttr, Qdg, h1]
  refine Qb.vc (by have := hE c x; rw [shA] at this; exact this) ?_
  rcases he with he | he
  ·by_cases hp : pw.length ≤ 64
   ·have h2 : Qz c x r pw = true := by simp only [Qz, he]; rw [show decide (1 ≤ r ∧ r ≤ 1048576) = true by rw [decide_eq_true_eq]; omega]; simp [hp]
    simp (maxSteps := 4000000) (disch := omega) only [rq, simprocAttr, he, Qj0, h2, h1]
   ·have h2 : Qz c x r pw = false := by simp [Qz, hp]
    simp (maxSteps := 4000000) (disch := omega) only [rq, simprocAttr, he, Qj0, h2, h1]
  ·have h2 : Qz c x r pw = false := by simp [Qz, he]
   simp (maxSteps := 4000000) (disch := omega) only [rq, simprocAttr, he, Qj0, h2, h1]
def Qe4 (P : Prg) (f : Nat) : Prop := ∀ c b : Int, 1 ≤ c → c ≤ 6 → Xk b ≠ 0 → VC P f [shA c b] (.int .i64 (c * b / 8))
theorem J2 {c b : Int} (h1 : 1 ≤ c) (h2 : c ≤ 6) (h : Xk b ≠ 0) : 8 ≤ c * b ∧ c * b ≤ 144 ∧ (b = 8 ∨ b = 16 ∨ b = 24) := by
 have hb : b = 8 ∨ b = 16 ∨ b = 24 := by rcases ZH b with h' | h' | h' | h' <;> omega
 rcases hb with rfl | rfl | rfl <;> omega
theorem Qgp {P : Prg} {f t0 : Nat} (b : Qk P f 9 [.tmp 2] (X4 t0)) : Qe4 P f := by
 intro c x h1 h2 h
 have hm := J2 h1 h2 h
 refine VC.of_acall rfl rfl (ACall.of_body b (by simp) ?_)
 simp (maxSteps := 4000000) (disch := omega) only [rq, simprocAttr, X4, shA]
def Qx (e : Enc) (L : Int) : Int := e.frs.length * L + e.smp.length / e.ch
def okE (e : Enc) : Prop := 1 ≤ e.ch ∧ e.ch ≤ 6 ∧ e.frs.length ≤ 1000 ∧ e.smp.length ≤ 400000 ∧ I32 e.smp
theorem Qp5 {n : Nat} {L : Int} (h : n ≤ 1000) (h1 : 0 ≤ L) (h2 : L ≤ 1095654) : 0 ≤ (n : Int) * L ∧ (n : Int) * L ≤ 1095654000 :=
 ⟨Int.mul_nonneg (by omega) h1, by
  have : (n : Int) * L ≤ 1000 * 1095654 := Int.mul_le_mul (by omega) h2 h1 (by omega)
  omega⟩
def Qd6 (P : Prg) (f : Nat) : Prop := ∀ (e : Enc) (L : Int), okE e → 0 ≤ L → L ≤ 1095654 → VC P f [XO e, .int .i64 L] (.int .i64 (Qx e L))
theorem QhW {P : Prg} {f t0 : Nat} (b : Qk P f 18 [.tmp 4] (Jt t0)) : Qd6 P f := by
 intro e L ⟨h1, h2, h3, h4, _⟩ h5 h6
 have hm := Qp5 h3 h5 h6
 have hd := QfG (n := e.smp.length) h1
 refine VC.of_acall (by simp [isDL, ZT, isD]) rfl (ACall.of_body b (by simp) ?_)
 simp (maxSteps := 4000000) (disch := omega) only [rq, simprocAttr, Jt, XO, XQ, il, bss, bs, Qx]
def Qak (c n m : Int) : Bool := decide (n ≤ 1000) && decide (m * c ≤ 4000)
def QkX (P : Prg) (f : Nat) : Prop := ∀ (e : Enc) (n m : Int), 1 ≤ e.ch → e.ch ≤ 6 → 0 ≤ m → m ≤ 2000000000 → VC P f [XO e, .int .i64 n, .int .i64 m] (.bool (Qak e.ch n m))
theorem Qr8 {c m : Int} (h1 : 1 ≤ c) (h2 : c ≤ 6) (h3 : 0 ≤ m) (h4 : m ≤ 2000000000) : 0 ≤ m * c ∧ m * c ≤ 12000000000 ∧ (m ≤ 4000 / c ↔ m * c ≤ 4000) := by
 have : c = 1 ∨ c = 2 ∨ c = 3 ∨ c = 4 ∨ c = 5 ∨ c = 6 := by omega
 rcases this with rfl | rfl | rfl | rfl | rfl | rfl <;> omega
theorem QjO {P : Prg} {f t0 : Nat} (b : Qk P f 17 [.tmp 6] (XF t0)) : QkX P f := by
 intro e n m h1 h2 h3 h4
 have hm := Qr8 h1 h2 h3 h4
 refine VC.of_acall (by simp [isDL, ZT, isD]) rfl (ACall.of_body b (by simp) ?_)
 by_cases hn : n ≤ 1000
 ·simp (maxSteps := 4000000) (disch := omega) only [rq, simprocAttr, XF, XO, XQ, il, bss, bs, Qak]
 ·simp (maxSteps := 4000000) (disch := omega) only [rq, simprocAttr, XF, XO, XQ, il, bss, bs, Qak]
def Qu5 {α : Type} (p : α → Bool) (l : List α) : Int := match l.findIdx? p with | some i => i | none => -1
def Qf6 (P : Prg) (f : Nat) : Prop := ∀ (α : Type) (l : List α) (c : α → AV) (p : α → Bool) (g : Nat) (fs cs : List AV), isDL fs = true → isDL cs = true → (∀ x, isD (c x) = true) → l.length ≤ 4611686018427387904 →
 (∀ x ∈ l, VC P g (fs ++ [c x] ++ cs) (.bool (p x))) → VC P f [.list l.length (l.map c), .fn (.func g) fs cs] (.int .i64 (Qu5 p l))
theorem Qia {α : Type} {c : α → AV} (h : ∀ x, isD (c x) = true) : ∀ l : List α, isDL (l.map c) = true
 | [] => rfl
 | x :: l => by simp [isDL, h x, Qia h l]
theorem Qqv {α : Type} {l : List α} {c : α → AV} {k : Nat} (h : k < l.length) : (l.map c).drop k = c l[k] :: (l.map c).drop (k + 1) := by
 rw [List.drop_eq_getElem_cons (by simpa using h)]; simp
theorem Qqf {α : Type} {p : α → Bool} {l : List α} (h : l.all (fun x => !p x) = true) : l.findIdx? p = none := by
 rw [List.findIdx?_eq_none_iff]
 intro x hx
 have := List.all_eq_true.1 h x hx
 simpa using this
theorem Quh {α : Type} {p : α → Bool} {l : List α} {k : Nat} (hk : k < l.length) (h : (l.take k).all (fun x => !p x) = true) (hp : p l[k] = true) : l.findIdx? p = some k := by
 rw [List.findIdx?_eq_some_iff_getElem]
 refine ⟨hk, hp, fun j hj => ?_⟩
 have := List.all_eq_true.1 h l[j] (by
  rw [List.mem_take_iff_getElem]
  exact ⟨j, by omega, rfl⟩)
 simpa using this
theorem QmF {α : Type} {l : List α} {k : Nat} (h : k < l.length) {p : α → Bool} : (l.take (k + 1)).all p = ((l.take k).all p && p l[k]) := by
 rw [List.take_succ_eq_append_getElem h, List.all_append]; simp
theorem QlP {P : Prg} {f : Nat} (b : Qk P f 19 [.tmp 4] QV) : Qf6 P f := by
 intro α l c p g fs cs h1 h2 h3 hlen hp
 refine VC.of_acall (by simp [isDL, isD, h1, h2, Qia h3]) rfl (ACall.of_body b (by simp) ?_)
 simp (maxSteps := 4000000) (disch := omega) only [rq, simprocAttr, QV]
 refine QP.by (ι := Nat) (fun k => ⟨[(8, .int .i64 k), (7, .int .i64 l.length), (1, .fn (.func g) fs cs), (0, .list l.length (l.map c))], []⟩) (fun k => k ≤ l.length ∧ (l.take k).all (fun x => !p x) = true) (fun k => l.length - k) 0 (Le.slots (by simp [Am.look])) ⟨by omega, by simp⟩ ?_
 intro k ⟨hk, hg⟩
 by_cases hlt : k < l.length
 ·simp (maxSteps := 4000000) (disch := omega) only [rq, simprocAttr, Qqv, hlt]
  refine Qb.vc (hp _ (List.getElem_mem hlt)) ?_
  cases hpk : p l[k] with
  | true => simp (maxSteps := 4000000) (disch := omega) only [rq, simprocAttr, hpk, Qu5, Quh hlt hg hpk]
  | false =>
   simp (maxSteps := 4000000) (disch := omega) only [rq, simprocAttr, hpk]
   exact ⟨k + 1, ⟨by omega, by rw [QmF hlt, hg, hpk]; rfl⟩, by omega, Le.slots (by simp [Am.look])⟩
 ·have e2 : k = l.length := by omega
  subst e2
  rw [List.take_length] at hg
  simp (maxSteps := 4000000) (disch := omega) only [rq, simprocAttr, Qu5, Qqf hg]
def Qb5 (P : Prg) (f : Nat) : Prop := ∀ (α : Type) (l : List α) (c : α → AV) (p : α → Bool) (g : Nat) (fs cs : List AV), isDL fs = true → isDL cs = true → (∀ x, isD (c x) = true) → l.length ≤ 4611686018427387904 →
 (∀ x ∈ l, VC P g (fs ++ [c x] ++ cs) (.bool (p x))) → VC P f [.list l.length (l.map c), .fn (.func g) fs cs] (.bool (l.any p))
theorem Qt8 {α : Type} (p : α → Bool) (l : List α) : decide ((0 : Int) ≤ Qu5 p l) = l.any p := by
 unfold Qu5
 cases h : l.findIdx? p with
 | none =>
  rw [List.findIdx?_eq_none_iff] at h
  have : l.any p = false := by rw [List.any_eq_false]; intro x hx; rw [h x hx]; simp
  rw [this]; rfl
 | some i =>
  rw [List.findIdx?_eq_some_iff_getElem] at h
  obtain ⟨h1, h2, _⟩ := h
  have : l.any p = true := by rw [List.any_eq_true]; exact ⟨_, List.getElem_mem h1, h2⟩
  rw [this]; simp
theorem QgC {P : Prg} {f fI : Nat} (b : Qk P f 9 [.tmp 4] (QN fI)) (hI : Qf6 P fI) : Qb5 P f := by
 intro α l c p g fs cs h1 h2 h3 hlen hp
 refine VC.of_acall (by simp [isDL, isD, h1, h2, Qia h3]) rfl (ACall.of_body b (by simp) ?_)
 have hi := hI α l c p g fs cs h1 h2 h3 hlen hp
 simp (maxSteps := 4000000) (disch := omega) only [rq, simprocAttr, QN]
 refine Qb.vc hi ?_
 simp (maxSteps := 4000000) (disch := omega) only [rq, simprocAttr, Qt8]
theorem Zy : ∀ l : List (List UInt8), isTL (l.map bs) = true
 | [] => rfl
 | x :: l => by
  have : isT (bs x) = true := by simp [bs, isT]; induction x with | nil => rfl | cons y x ih => simp [Qll, isTL, isT, ih]
  simp [isTL, this, Zy l]
def Qcx (m : Int) (b : List UInt8) : Bool := decide ((b.length : Int) < 5) || decide (m < b.length)
def Qje (P : Prg) (f : Nat) : Prop := ∀ (b : List UInt8) (m : Int), VC P f [bs b, .cell [.int .i64 m]] (.bool (Qcx m b))
theorem Qqj {P : Prg} {f : Nat} (b : Qk P f 13 [.tmp 3] Zl) : Qje P f := by
 intro l m
 refine VC.of_acall (by simp [isDL, isD, Zi]) rfl (ACall.of_body b (by simp) ?_)
 by_cases h : (l.length : Int) < 5
 ·simp (maxSteps := 4000000) (disch := omega) only [rq, simprocAttr, Zl, bs, Qcx]
 ·simp (maxSteps := 4000000) (disch := omega) only [rq, simprocAttr, Zl, bs, Qcx]
def Qdn (e : Enc) : Bool :=
 let L := Qf e.rate
 if 0 < e.out.length ∨ e.ch * e.bits / 8 ≤ e.rest.length ∨ (e.smp.length : Int) % e.ch ≠ 0 ∨ L ≤ (e.smp.length : Int) / e.ch ∨ 1000 < e.frs.length then false
 else if QM e.bits e.smp ≠ 0 then false
 else if Qak e.ch (e.frs.length + if 0 < e.smp.length then 1 else 0) (Qx e L) = false then false
 else !e.frs.any (Qcx ((81 * L * e.ch + 7) / 8 + 4))
def okF (e : Enc) : Prop := Qz e.ch e.bits e.rate e.pw = true ∧ e.frs.length ≤ 4611686018427387904 ∧ e.smp.length ≤ 400000 ∧ I32 e.smp ∧ e.rest.length ≤ 4611686018427387904 ∧ e.out.length ≤ 4611686018427387904
theorem Qwh {L c : Int} (h1 : 1 ≤ L) (h2 : L ≤ 1095654) (h3 : 1 ≤ c) (h4 : c ≤ 6) : 0 ≤ 81 * L * c ∧ 81 * L * c ≤ 600000000 := by
 have : c = 1 ∨ c = 2 ∨ c = 3 ∨ c = 4 ∨ c = 5 ∨ c = 6 := by omega
 rcases this with rfl | rfl | rfl | rfl | rfl | rfl <;> omega
def Qf9 (P : Prg) (f : Nat) : Prop := ∀ e : Enc, okF e → VC P f [XO e, .int .i64 (Qf e.rate)] (.bool (Qdn e))
set_option maxHeartbeats 4000000 in
set_option maxRecDepth 20000 in
theorem Qfp {P : Prg} {f fM fW fC fR fB fS t0 t1 : Nat} (b : Qk P f 82 [.tmp 4] (XG fM fW fC fR fB fS t0 t1)) (hM : Qe4 P fM) (hW : Qdw P fW) (hC : Qd6 P fC) (hR : QkX P fR) (hB : Qje P fB) (hS : Qb5 P fS) : Qf9 P f := by
 intro e ⟨hr, o1, o2, o3, o4, o5⟩
 obtain ⟨⟨r1, r2, r3⟩, ⟨r4, r5⟩, r6⟩ := QJ.1 hr
 have hd := QfG (n := e.smp.length) r2
 have hm := QbR (n := e.smp.length) r2
 have hL := ZS e.rate
 have hL2 := QeT r5
 have hmul := J2 r2 r3 r1
 have hmul3 := Qwh hL hL2 r2 r3
 have hMo := hM e.ch e.bits r2 r3 r1
 have hWo := hW e.bits e.smp o3
 refine VC.of_acall (by simp [isDL, ZT, isD]) rfl (ACall.of_body b (by simp) ?_)
 simp only [XO, XQ, il, bss, bs, shA] at hMo hWo ⊢
 unfold Qdn
 have hok : e.frs.length ≤ 1000 → okE e := fun h => ⟨r2, r3, h, o2, o3⟩
 simp (maxSteps := 4000000) (disch := omega) only [rq, simprocAttr, XG]
 refine Xy.ndec (fun c1 => ?_) (fun c1 => ?_)
 case refine_2 => simp (maxSteps := 4000000) (disch := omega) only [rq, simprocAttr, Qdn]
 simp (maxSteps := 4000000) (disch := omega) only [rq, simprocAttr]
 refine Q2.vc hMo ?_
 simp (maxSteps := 4000000) (disch := omega) only [rq, simprocAttr]
 refine Xy.ndec (fun c2 => ?_) (fun c2 => ?_)
 case refine_2 => simp (maxSteps := 4000000) (disch := omega) only [rq, simprocAttr, Qdn]
 simp (maxSteps := 4000000) (disch := omega) only [rq, simprocAttr]
 refine Xy.dec (fun c3 => ?_) (fun c3 => ?_)
 case refine_2 => simp (maxSteps := 4000000) (disch := omega) only [rq, simprocAttr, Qdn, c3]
 simp (maxSteps := 4000000) (disch := omega) only [rq, simprocAttr, c3]
 refine Xy.ndec (fun c4 => ?_) (fun c4 => ?_)
 case refine_2 => simp (maxSteps := 4000000) (disch := omega) only [rq, simprocAttr, Qdn]
 simp (maxSteps := 4000000) (disch := omega) only [rq, simprocAttr]
 refine Jr.dec (fun c5 => ?_) (fun c5 => ?_)
 case refine_1 => simp (maxSteps := 4000000) (disch := omega) only [rq, simprocAttr, Qdn]
 simp (maxSteps := 4000000) (disch := omega) only [rq, simprocAttr]
 refine Qb.vc hWo ?_
 simp (maxSteps := 4000000) (disch := omega) only [rq, simprocAttr]
 refine Jr.ndec (fun c6 => ?_) (fun c6 => ?_)
 case refine_1 => simp (maxSteps := 4000000) (disch := omega) only [rq, simprocAttr, Qdn, c6]
 simp (maxSteps := 4000000) (disch := omega) only [rq, simprocAttr]
 have hok : okE e := ⟨r2, r3, by omega, o2, o3⟩
 have hCo := hC e (Qf e.rate) hok (by omega) hL2
 have hfm := Qp5 (n := e.frs.length) (L := Qf e.rate) (by omega) (by omega) hL2
 have hcn : 0 ≤ Qx e (Qf e.rate) ∧ Qx e (Qf e.rate) ≤ 2000000000 := by unfold Qx; omega
 have hRo := fun n => hR e n (Qx e (Qf e.rate)) r2 r3 hcn.1 hcn.2
 have hS1 := fun m => hS (List UInt8) e.frs bs (Qcx m) fB [] [.cell [.int .i64 m]] rfl rfl Zi (by omega) (fun x _ => hB x m)
 simp only [XO, XQ, il, bss, bs, shA] at hCo hRo hS1
 refine Jr.dec (fun c7 => ?_) (fun c7 => ?_)
 ·simp (maxSteps := 4000000) (disch := omega) only [rq, simprocAttr]
  refine Q2.vc hCo ?_
  simp (maxSteps := 4000000) (disch := omega) only [rq, simprocAttr]
  refine Q2.vc (hRo _) ?_
  cases hv : Qak e.ch ((e.frs.length : Int) + 1) (Qx e (Qf e.rate)) with
  | false => simp (maxSteps := 4000000) (disch := omega) only [rq, simprocAttr, hv]
  | true =>
   simp (maxSteps := 4000000) (disch := omega) only [rq, simprocAttr]
   refine Qb.flat 1 (hS1 ((81 * Qf e.rate * e.ch + 7) / 8 + 4)) rfl (by simp [QS, QF, frzL, Qu, isDL, isD, frzL_T _ (Zy e.frs)]) ?_
   simp (maxSteps := 4000000) (disch := omega) only [rq, simprocAttr, hv]
 ·simp (maxSteps := 4000000) (disch := omega) only [rq, simprocAttr]
  refine Q2.vc hCo ?_
  simp (maxSteps := 4000000) (disch := omega) only [rq, simprocAttr]
  refine Q2.vc (hRo _) ?_
  cases hv : Qak e.ch (e.frs.length : Int) (Qx e (Qf e.rate)) with
  | false => simp (maxSteps := 4000000) (disch := omega) only [rq, simprocAttr, Int.add_zero, hv]
  | true =>
   simp (maxSteps := 4000000) (disch := omega) only [rq, simprocAttr]
   refine Qb.flat 1 (hS1 ((81 * Qf e.rate * e.ch + 7) / 8 + 4)) rfl (by simp [QS, QF, frzL, Qu, isDL, isD, frzL_T _ (Zy e.frs)]) ?_
   simp (maxSteps := 4000000) (disch := omega) only [rq, simprocAttr, Int.add_zero, hv]
def Q5 (e : Enc) : Bool :=
 if e.err ≠ 0 then decide ((e.err = 18 ∨ e.err = 24) ∧ e.done = false ∧ (e.rest.length = 0 ∧ e.smp.length = 0 ∧ e.frs.length = 0) ∧ e.out.length = 0)
 else if e.done = true then decide ((e.rest.length = 0 ∧ e.smp.length = 0 ∧ e.frs.length = 0) ∧ e.out.length ≤ 100000)
 else Qdn e
def Qs (e : Enc) : Int := if Qz e.ch e.bits e.rate e.pw = false ∨ Q5 e = false then 8 else 0
def okC (e : Enc) : Prop := e.pw.length ≤ 100000 ∧ e.frs.length ≤ 100000 ∧ e.smp.length ≤ 400000 ∧ I32 e.smp ∧ e.rest.length ≤ 100000 ∧ e.out.length ≤ 1000000
def QaE (P : Prg) (f : Nat) : Prop := ∀ e : Enc, okC e → VC P f [XO e] (.int .i64 (Qs e))
set_option maxHeartbeats 4000000 in
set_option maxRecDepth 20000 in
theorem QhY {P : Prg} {f fR fF t0 : Nat} (b : Qk P f 71 [.tmp 2] (Ju fR fF t0)) (hR : Qi2 P fR) (hF : Qf9 P fF) : QaE P f := by
 intro e ⟨o0, o1, o2, o3, o4, o5⟩
 have hRo := hR e.ch e.bits e.rate e.pw (by omega)
 refine VC.of_acall (by simp [isDL, ZT, isD]) rfl (ACall.of_body b (by simp) ?_)
 simp only [XO, XQ, il, bss, bs, shA] at hRo ⊢
 simp (maxSteps := 4000000) (disch := omega) only [rq, simprocAttr, Ju]
 refine Qb.vc hRo ?_
 cases hr : Qz e.ch e.bits e.rate e.pw with
 | false => simp (maxSteps := 4000000) (disch := omega) only [rq, simprocAttr, Qs, hr]
 | true =>
  have hz : Qj0 e.rate = Qf e.rate := by
   obtain ⟨_, h, _⟩ := QJ.1 hr
   unfold Qj0; rw [if_neg (by omega)]
  have hFo := hF e ⟨hr, by omega, o2, o3, by omega, by omega⟩
  simp only [XO, XQ, il, bss, bs, shA] at hFo
  have e2 : Qs e = if Q5 e = false then 8 else 0 := by simp [Qs, hr]
  by_cases h1 : e.err = 0
  ·cases hd : e.done with
   | false =>
    have e3 : Q5 e = Qdn e := by simp [Q5, h1, hd]
    simp (maxSteps := 4000000) (disch := omega) only [rq, simprocAttr, h1, hd, hz]
    simp only [hd] at hFo
    rw [h1] at hFo
    refine Qb.vc hFo ?_
    cases hf : Qdn e <;> simp (maxSteps := 4000000) (disch := omega) only [rq, simprocAttr, e2, e3, hf]
   | true =>
    by_cases hE : e.rest.length = 0 ∧ e.smp.length = 0 ∧ e.frs.length = 0
    ·obtain ⟨q1, q2, q3⟩ := hE
     by_cases h3 : e.out.length ≤ 100000
     ·have e3 : Q5 e = true := by simp [Q5, h1, hd, q1, q2, q3, h3]
      simp (maxSteps := 4000000) (disch := omega) only [rq, simprocAttr, h1, hd, e2, e3]
     ·have e3 : Q5 e = false := by simp [Q5, h1, hd, q1, q2, q3, h3]
      simp (maxSteps := 4000000) (disch := omega) only [rq, simprocAttr, h1, hd, e2, e3]
    ·have e3 : Q5 e = false := by
      unfold Q5
      rw [if_neg (by simp [h1]), if_pos hd, decide_eq_false_iff_not]
      exact fun h => hE h.1
     simp (maxSteps := 4000000) (disch := omega) only [rq, simprocAttr, h1, hd, e2, e3]
  ·by_cases hX : (e.err = 18 ∨ e.err = 24)
   case neg =>
    have e3 : Q5 e = false := by simp only [Q5]; rw [if_pos h1, decide_eq_false_iff_not]; exact fun h => hX h.1
    simp (maxSteps := 4000000) (disch := omega) only [rq, simprocAttr, h1, e2, e3]
   have hlast : ∀ b : Bool, Q5 e = b → (b = true ↔ (e.done = false ∧ (e.rest.length = 0 ∧ e.smp.length = 0 ∧ e.frs.length = 0) ∧ e.out.length = 0)) := by
    rintro b rfl; simp only [Q5]; rw [if_pos h1, decide_eq_true_eq]; exact ⟨fun h => h.2, fun h => ⟨hX, h⟩⟩
   cases hb : Q5 e with
   | true =>
    obtain ⟨d1, ⟨q1, q2, q3⟩, q4⟩ := (hlast true hb).1 rfl
    rcases hX with h | h <;> simp (maxSteps := 4000000) (disch := omega) only [rq, simprocAttr, h1, h, d1, e2, hb]
   | false =>
    have hn : ¬ (e.done = false ∧ (e.rest.length = 0 ∧ e.smp.length = 0 ∧ e.frs.length = 0) ∧ e.out.length = 0) := fun h => by have := (hlast false hb).2 h; cases this
    cases hd : e.done with
    | true => rcases hX with h | h <;> simp (maxSteps := 4000000) (disch := omega) only [rq, simprocAttr, h1, h, hd, e2, hb]
    | false =>
     rw [hd] at hn
     by_cases hE : e.rest.length = 0 ∧ e.smp.length = 0 ∧ e.frs.length = 0
     ·have h4 : e.out.length ≠ 0 := fun h => hn ⟨rfl, hE, h⟩
      obtain ⟨q1, q2, q3⟩ := hE
      rcases hX with h | h <;> simp (maxSteps := 4000000) (disch := omega) only [rq, simprocAttr, h1, h, hd, e2, hb]
     ·rcases hX with h | h <;> simp (maxSteps := 4000000) (disch := omega) only [rq, simprocAttr, h1, h, hd, e2, hb]
def QlH (c b r : Int) (pw : List UInt8) : List AV := [.int .i64 c, .int .i64 b, .int .i64 r, .str pw, .emp true, .emp true, .emp true, .emp true, .bool false, .int .i64 0]
def Qr6 (c b r : Int) (pw : List UInt8) : AV := if Qz c b r pw = true then .tup [.agg (QlH c b r pw), .int .i64 0] else .tup [.agg (QlH 0 0 0 []), .int .i64 2]
def QmM (P : Prg) (f : Nat) : Prop := ∀ (c b r : Int) (pw : List UInt8), pw.length ≤ 100000 → VC P f [shA c b, .int .i64 r, .str pw] (Qr6 c b r pw)
theorem Qt2 (c b r : Int) (pw : List UInt8) : isD (Qr6 c b r pw) = true := by unfold Qr6; split <;> rfl
theorem QlD {P : Prg} {f fR t0 t1 : Nat} (b : Qk P f 24 [.cell 6 t1, .tmp 7] (QaO fR t0 t1)) (ht : ZP P t1 = some (some 10)) (hR : Qi2 P fR) : QmM P f := by
 intro c x r pw hp
 have hRo := hR c x r pw (by omega)
 refine VC.of_acall (by simp [isDL, isD, shA]) (Qt2 _ _ _ _) (ACall.of_body b (by simp) ?_)
 simp (maxSteps := 4000000) (disch := omega) only [rq, simprocAttr, QaO, shA]
 refine Qb.vc hRo ?_
 cases hr : Qz c x r pw with
 | true => simp (maxSteps := 4000000) (disch := omega) only [rq, simprocAttr, Qr6, QlH, hr, ZG, ht]
 | false => simp (maxSteps := 4000000) (disch := omega) only [rq, simprocAttr, Qr6, QlH, hr, ZG, ht]
def w32 (x : Int) : Int := IntKind.i32.wrap x
theorem QsV (x : Int) : w32 x = (x + 2147483648) % 4294967296 - 2147483648 := by
 simp [w32, IntKind.wrap, IntKind.bits, IntKind.signed]; split <;> omega
theorem Qtr (a b : Int) : w32 (w32 a + w32 b) = w32 (a + b) := by simp only [QsV]; omega
theorem QoR {a : Int} (h1 : -2147483648 ≤ a) (h2 : a ≤ 2147483647) : w32 a = a := Qao h1 h2
theorem QcC (a : Int) : -2147483648 ≤ w32 a ∧ w32 a ≤ 2147483647 := by simp only [QsV]; omega
theorem Qa9 (x : Int) : IntKind.i32.wrap x = w32 x := rfl
theorem Jb {l : List Int} (h : I32 l) (k : Nat) : -2147483648 ≤ l.getD k 0 ∧ l.getD k 0 ≤ 2147483647 := by
 rw [List.getD_eq_getElem?_getD]
 cases hk : l[k]? with
 | none => simp
 | some v => exact h v (List.mem_of_getElem? hk)
theorem Qs8 {K : IntKind} {l : List Int} {k : Nat} (h : k < l.length) : (ks K l)[k]? = some (.int K (l.getD k 0)) := by
 simp [ks, List.getD_eq_getElem?_getD, List.getElem?_eq_getElem h]
structure JE where
 sh : Int
 tp : List Int
 ps : List Int
def Qr (f : JE) : List AV := .int .i64 f.sh :: (ks .i32 f.tp ++ ks .i32 f.ps)
def QbP (f : JE) : Prop := f.tp.length = 16 ∧ f.ps.length = 16 ∧ I32 f.tp ∧ I32 f.ps
theorem Zg {f : JE} (h : QbP f) : (Qr f).length = 33 := by
 obtain ⟨h1, h2, _⟩ := h
 simp [Qr, Qh, h1, h2]
theorem Zk (f : JE) : (Qr f).all AV.one = true := by
 simp only [Qr, List.all_cons, List.all_append, J4]; rfl
theorem ZD (f : JE) : isDL (Qr f) = true := by
 have : ∀ a b, isDL (ks .i32 a ++ ks .i32 b) = true := fun a b => by rw [Qfy]; exact QG _ _
 simp [Qr, isDL, isD, this]
theorem Qkf {f : JE} (h : QbP f) : ((Qr f).drop 1).take 16 = ks .i32 f.tp := by
 obtain ⟨h1, h2, _⟩ := h
 simp only [Qr, List.drop_succ_cons, List.drop_zero]
 rw [List.take_left' (by simp [Qh, h1])]
theorem Qg6 {f : JE} (h : QbP f) : ((Qr f).drop 17).take 16 = ks .i32 f.ps := by
 obtain ⟨h1, h2, _⟩ := h
 simp only [Qr, List.drop_succ_cons]
 rw [List.drop_left' (by simp [Qh, h1]), List.take_of_length_le (by simp [Qh, h2])]
theorem Qsv {f : JE} (h : QbP f) {k : Nat} (hk : k < 16) : (Qr f).drop (1 + k) = .int .i32 (f.tp.getD k 0) :: ((ks .i32 f.tp).drop (k + 1) ++ ks .i32 f.ps) := by
 obtain ⟨h1, h2, _⟩ := h
 rw [Nat.add_comm]
 simp only [Qr, List.drop_succ_cons]
 rw [List.drop_append_of_le_length (by simp [Qh, h1]; omega), QdW (by omega), ← Qbl]
 simp [List.getD_eq_getElem?_getD, List.getElem?_eq_getElem (show k < f.tp.length by omega)]
theorem Qqh {f : JE} (h : QbP f) {k : Nat} (hk : k < 16) : (Qr f).drop (17 + k) = .int .i32 (f.ps.getD k 0) :: (ks .i32 f.ps).drop (k + 1) := by
 obtain ⟨h1, h2, _⟩ := h
 rw [show 17 + k = (16 + k) + 1 by omega]
 simp only [Qr, List.drop_succ_cons]
 rw [← List.drop_drop, List.drop_left' (by simp [Qh, h1]), QdW (by omega), ← Qbl]
 simp [List.getD_eq_getElem?_getD, List.getElem?_eq_getElem (show k < f.ps.length by omega)]
theorem QlY {f : JE} (h : QbP f) {k : Nat} (hk : k < 16) (v : Int) : (Qr f).take (1 + k) ++ [.int .i32 v] ++ (Qr f).drop (1 + k + 1) = Qr { f with tp := f.tp.set k v } := by
 obtain ⟨h1, h2, _⟩ := h
 rw [Nat.add_comm 1 k]
 simp only [Qr, List.take_succ_cons, List.drop_succ_cons, List.cons_append]
 congr 1
 rw [List.take_append_of_le_length (by simp [Qh, h1]; omega), List.drop_append_of_le_length (by simp [Qh, h1]; omega), ← List.append_assoc]
 congr 1
 rw [List.set_eq_take_append_cons_drop, if_pos (by omega)]
 simp [ks]
theorem Qkg {f : JE} (h : QbP f) {k : Nat} (hk : k < 16) (v : Int) : (Qr f).take (17 + k) ++ [.int .i32 v] ++ (Qr f).drop (17 + k + 1) = Qr { f with ps := f.ps.set k v } := by
 obtain ⟨h1, h2, _⟩ := h
 rw [show 17 + k = (16 + k) + 1 by omega]
 simp only [Qr, List.take_succ_cons, List.drop_succ_cons, List.cons_append]
 congr 1
 have e : (ks .i32 f.tp).length = 16 := by simp [Qh, h1]
 rw [List.take_append, List.take_of_length_le (by omega), e, show 16 + k + 1 = 16 + (k + 1) by omega, ← List.drop_drop, List.drop_left' e, show 16 + k - 16 = k by omega, List.append_assoc, List.append_assoc]
 congr 1
 rw [List.set_eq_take_append_cons_drop, if_pos (by omega)]
 simp [ks]
theorem QK {α : Type} {l : List α} {n : Nat} (h : l.length ≤ n) : l.take n = l := List.take_of_length_le h
def Qbe (b : Int) : Int := if b = 16 then 9 else 10
def z16 : List Int := List.replicate 16 0
def Qh3 (b : Int) (t : List Int) : JE := ⟨Qbe b, t, z16⟩
def Qji : JE := ⟨0, z16, z16⟩
def Qgl (b : Int) (t : List Int) : AV := if Xk b = 0 then .tup [.agg (Qr Qji), .int .i64 2] else .tup [.agg (Qr (Qh3 b t)), .int .i64 0]
def QnA (P : Prg) (f : Nat) : Prop := ∀ (b : Int) (t : List Int), t.length = 16 → VC P f [.int .i64 b, .agg (ks .i32 t)] (Qgl b t)
theorem Qsi (b : Int) (t : List Int) : isD (Qgl b t) = true := by
 unfold Qgl; split <;> simp [isD, isDL, ZD]
theorem Qb7 : Qr Qji = [.int .i64 0, .int .i32 0, .int .i32 0, .int .i32 0, .int .i32 0, .int .i32 0, .int .i32 0, .int .i32 0, .int .i32 0, .int .i32 0, .int .i32 0, .int .i32 0, .int .i32 0, .int .i32 0, .int .i32 0, .int .i32 0, .int .i32 0, .int .i32 0, .int .i32 0, .int .i32 0, .int .i32 0, .int .i32 0, .int .i32 0, .int .i32 0, .int .i32 0, .int .i32 0, .int .i32 0, .int .i32 0, .int .i32 0, .int .i32 0, .int .i32 0, .int .i32 0, .int .i32 0] := rfl
theorem QrC {P : Prg} {f t0 t1 : Nat} (b : Qk P f 18 [.cell 4 t1, .tmp 5] (X3 t0 t1)) (ht : ZP P t1 = some (some 33)) : QnA P f := by
 intro x t hl
 have hk : (ks .i32 t).length = 16 := by simp [Qh, hl]
 have h1 := J4 .i32 t
 have tk16 : (ks .i32 t).take 16 = ks .i32 t := QK (by omega)
 refine VC.of_acall (by simp [isDL, isD, QG]) (Qsi _ _) (ACall.of_body b (by simp) ?_)
 have fin : ∀ s : Int, .int .i64 s :: (ks .i32 t ++ [.int .i32 0, .int .i32 0, .int .i32 0, .int .i32 0, .int .i32 0, .int .i32 0, .int .i32 0, .int .i32 0, .int .i32 0, .int .i32 0, .int .i32 0, .int .i32 0, .int .i32 0, .int .i32 0, .int .i32 0, .int .i32 0]) = Qr ⟨s, t, z16⟩ := fun _ => rfl
 have hl33 : ∀ s : Int, (Qr ⟨s, t, z16⟩).length = 33 := fun s => by simp [Qr, Qh, hl, z16]
 have ho := fun s => Zk ⟨s, t, z16⟩
 have tk : ∀ s : Int, (Qr ⟨s, t, z16⟩).take 33 = Qr ⟨s, t, z16⟩ := fun s => QK (by rw [hl33]; omega)
 have st9 : ([] : List AV) ++ [.int .i64 9] ++ (Qr ⟨10, t, z16⟩).drop 1 = Qr ⟨9, t, z16⟩ := rfl
 have d9 : AV.int .i64 9 :: (Qr ⟨10, t, z16⟩).drop 1 = Qr ⟨9, t, z16⟩ := rfl
 rcases ZH x with ⟨rfl, h⟩ | ⟨rfl, h⟩ | ⟨rfl, h⟩ | ⟨h2, h3, h4, h⟩
 ·simp (maxSteps := 4000000) (disch := omega) only [rq, simprocAttr, X3, Qgl, h, hk, h1, tk16, fin, hl33, ho, tk, ZG, ht, Qh3, Qbe]
 ·simp (maxSteps := 4000000) (disch := omega) only [rq, simprocAttr, X3, Qgl, h, hk, h1, tk16, fin, hl33, ho, tk, ZG, ht, Qh3, Qbe, d9]
 ·simp (maxSteps := 4000000) (disch := omega) only [rq, simprocAttr, X3, Qgl, h, hk, h1, tk16, fin, hl33, ho, tk, ZG, ht, Qh3, Qbe]
 ·simp (maxSteps := 4000000) (disch := omega) only [rq, simprocAttr, X3, Qgl, h, hk, h1, tk16, fin, hl33, ho, tk, ZG, ht, Qb7]
def Qrn (s : Int) : Int := if s = 9 ∨ s = 10 then 0 else 8
def Qdx (P : Prg) (f : Nat) : Prop := ∀ x : JE, QbP x → VC P f [.agg (Qr x)] (.int .i64 (Qrn x.sh))
theorem QvE : Qrn 9 = 0 := rfl
theorem QuM : Qrn 10 = 0 := rfl
def Qtj (a b : List Int) : Nat → Int
 | 0 => 0
 | k + 1 => Qtj a b k + a.getD k 0 * b.getD k 0
def Qdc (s : Int) : Int := if s = 9 then 512 else 1024
def Qp3 (f : JE) : Int := w32 (Qdc f.sh / 2 + Qtj f.tp f.ps 16) / Qdc f.sh
def QiZ (P : Prg) (f : Nat) : Prop := ∀ x : JE, QbP x → x.sh = 9 ∨ x.sh = 10 → VC P f [.agg (Qr x)] (.tup [.int .i32 (Qp3 x), .int .i64 0])
theorem QtI : Ql true .i32 1 8 = some (.int .i32 256) := rfl
theorem QtH : Ql true .i32 1 9 = some (.int .i32 512) := rfl
theorem QtD (s : Int) : Ql false .i32 s 9 = some (.int .i32 (s / 512)) := by
 show some (AV.int .i32 (s.fdiv 512)) = _
 rw [Int.fdiv_eq_ediv_of_nonneg _ (by omega)]
theorem QrR (s : Int) : Ql false .i32 s 10 = some (.int .i32 (s / 1024)) := by
 show some (AV.int .i32 (s.fdiv 1024)) = _
 rw [Int.fdiv_eq_ediv_of_nonneg _ (by omega)]
theorem QnM {P : Prg} {f fC t0 : Nat} (b : Qk P f 36 [.tmp 2, .tmp 3] (Qbr fC t0)) (hC : Qdx P fC) : QiZ P f := by
 intro x hx hs
 have l33 := Zg hx
 have tk : (Qr x).take 33 = Qr x := QK (by omega)
 have ho := Zk x
 have e1 := Qkf hx
 have e0 : (Qr x).drop 0 = .int .i64 x.sh :: (ks .i32 x.tp ++ ks .i32 x.ps) := rfl
 have ht : Qrn x.sh = 0 := by simp [Qrn, hs]
 have hl := hx.1
 refine VC.of_acall (by simp [isDL, isD, ZD]) rfl (ACall.of_body b (by simp) ?_)
 simp (maxSteps := 4000000) (disch := omega) only [rq, simprocAttr, Qbr, l33, tk, ho]
 refine Qb.vc (hC x hx) ?_
 rcases hs with h | h
 all_goals
  have z0 : w32 (Qdc x.sh / 2 + Qtj x.tp x.ps 0) = Qdc x.sh / 2 := by simp only [Qtj, Int.add_zero]; exact QoR (by simp [Qdc, h]) (by simp [Qdc, h])
  have z1 : Qdc x.sh = 512 ∧ x.sh = 9 ∨ Qdc x.sh = 1024 ∧ x.sh = 10 := by simp [Qdc, h]
  simp (maxSteps := 4000000) (disch := omega) only [rq, simprocAttr, l33, tk, ho, QvE, QuM, e1, ↓e0, h, QtI, QtH]
  refine QP.by (ι := Nat) (fun k => ⟨[(19, .int .i64 k), (18, .agg (ks .i32 x.tp)), (5, .int .i32 (w32 (Qdc x.sh / 2 + Qtj x.tp x.ps k))), (1, .ref 0 1 0)], [⟨t0, 33, 1, Qr x, 0⟩]⟩) (fun k => k ≤ 16) (fun k => 16 - k) 0 (Le.slots (by rw [z0]; simp [Am.look, h, Qdc])) (by omega) ?_
  intro k hk
  by_cases hlt : k < 16
  ·have e2 := Qqh hx hlt
   have e3 := Qs8 (K := .i32) (l := x.tp) (k := k) (by omega)
   have e4 : w32 (w32 (Qdc x.sh / 2 + Qtj x.tp x.ps k) + w32 (x.tp.getD k 0 * x.ps.getD k 0)) = w32 (Qdc x.sh / 2 + Qtj x.tp x.ps (k + 1)) := by
    rw [Qtr]; simp only [Qtj]; congr 1; omega
   simp (maxSteps := 4000000) (disch := omega) only [rq, simprocAttr, l33, e2, e3, Qa9, e4]
   exact ⟨k + 1, by omega, by omega, Le.slots (by simp [Am.look])⟩
  ·have e : k = 16 := by omega
   subst e
   simp (maxSteps := 4000000) (disch := omega) only [rq, simprocAttr, ↓e0, h, QtD, QrR, Qp3, Qdc]
theorem QnN {P : Prg} {f t0 : Nat} (b : Qk P f 11 [.tmp 2] (XD t0)) : Qdx P f := by
 intro x hx
 have l33 := Zg hx
 have ho := Zk x
 have e0 : (Qr x).drop 0 = .int .i64 x.sh :: (ks .i32 x.tp ++ ks .i32 x.ps) := rfl
 refine VC.of_acall (by simp [isDL, isD, ZD]) rfl (ACall.of_body b (by simp) ?_)
 by_cases h9 : x.sh = 9
 ·simp (maxSteps := 4000000) (disch := omega) only [rq, simprocAttr, XD, l33, ho, ↓e0, h9, Qrn]
 by_cases h10 : x.sh = 10
 ·simp (maxSteps := 4000000) (disch := omega) only [rq, simprocAttr, XD, l33, ho, ↓e0, h10, Qrn]
 ·simp (maxSteps := 4000000) (disch := omega) only [rq, simprocAttr, XD, l33, ho, ↓e0, Qrn]
def Qln (i : Nat) : Int := if i = 0 then 4 else if i < 4 then 2 else 1
def QmH (P : Prg) (f : Nat) : Prop := ∀ i : Nat, VC P f [.int .i64 i] (.int .i32 (Qln i))
theorem Qo4 {P : Prg} {f : Nat} (b : Qk P f 9 [.tmp 2] Jk) : QmH P f := by
 intro i
 refine VC.of_acall rfl rfl (ACall.of_body b (by simp) ?_)
 by_cases h0 : i = 0
 ·subst h0; simp (maxSteps := 4000000) (disch := omega) only [rq, simprocAttr, Jk, Qln, Int.natCast_zero]
 by_cases h1 : i < 4
 ·simp (maxSteps := 4000000) (disch := omega) only [rq, simprocAttr, Jk, Qln, h0]
 ·simp (maxSteps := 4000000) (disch := omega) only [rq, simprocAttr, Jk, Qln, h0]
def sgn (x : Int) : Int := if x < 0 then -1 else if 0 < x then 1 else 0
def QrB (x : JE) (w : Int) (k : Nat) : Int := w32 (x.tp.getD k 0 + Qln k * sgn (x.ps.getD k 0) * sgn w)
def XP (x : JE) (w : Int) (k : Nat) : List Int := (List.range 16).map fun i => if i < k then QrB x w i else x.tp.getD i 0
def lf (x : JE) (w : Int) (k : Nat) : JE := { x with tp := XP x w k }
def Qat (x : JE) (w : Int) : JE := lf x w 16
theorem Qn0 {l : List Int} (h : l.length = 16) : (List.range 16).map (fun i => l.getD i 0) = l := by
 apply List.ext_getElem (by simp [h])
 intro i h1 h2
 simp [List.getD_eq_getElem?_getD, List.getElem?_eq_getElem h2]
theorem QpR (x : JE) (w : Int) (k : Nat) : (XP x w k).length = 16 := by simp [XP]
theorem Qg0 {x : JE} (h : QbP x) (w : Int) : XP x w 0 = x.tp := by
 have := Qn0 h.1
 simpa [XP] using this
theorem Qn6 (x : JE) (w : Int) {k : Nat} (hk : k < 16) : (XP x w k).getD k 0 = x.tp.getD k 0 := by
 simp [XP, List.getD_eq_getElem?_getD, hk]
theorem QpQ (x : JE) (w : Int) {k : Nat} (hk : k < 16) : (XP x w k).set k (QrB x w k) = XP x w (k + 1) := by
 apply List.ext_getElem (by simp [XP])
 intro i h1 h2
 rw [List.getElem_set]
 simp only [XP, List.getElem_map, List.getElem_range]
 by_cases e : k = i
 ·subst e; simp
 ·rw [if_neg e]
  by_cases h : i < k
  ·rw [if_pos h, if_pos (by omega)]
  ·rw [if_neg h, if_neg (by omega)]
theorem Qg1 (x : JE) (w : Int) {k : Nat} (h : QrB x w k = x.tp.getD k 0) : XP x w (k + 1) = XP x w k := by
 simp only [XP]
 apply List.map_congr_left
 intro i _
 by_cases e : i = k
 ·subst e; simp [h]
 ·by_cases h : i < k
  ·rw [if_pos h, if_pos (by omega)]
  ·rw [if_neg h, if_neg (by omega)]
theorem Qrj {x : JE} (h : QbP x) (w : Int) (k : Nat) : I32 (XP x w k) := by
 intro v hv
 simp only [XP, List.mem_map] at hv
 obtain ⟨i, _, rfl⟩ := hv
 split
 ·exact QcC _
 ·exact Jb h.2.2.1 i
theorem QjW {x : JE} (h : QbP x) (w : Int) (k : Nat) : QbP (lf x w k) := ⟨QpR x w k, h.2.1, Qrj h w k, h.2.2.2⟩
theorem QeR {x : JE} (h : QbP x) (w : Int) : QbP (Qat x w) := QjW h w 16
theorem Qsc {x : JE} (h : QbP x) : Qat x 0 = x := by
 have key : ∀ k, XP x 0 k = x.tp := fun k => by
  induction k with
  | zero => exact Qg0 h 0
  | succ k ih =>
   rw [Qg1 x 0, ih]
   have := Jb h.2.2.1 k
   simp only [QrB, sgn]
   simp
   exact QoR (by simpa using this.1) (by simpa using this.2)
 simp [Qat, lf, key]
def QiY (P : Prg) (f : Nat) : Prop := ∀ (x : JE) (w : Int), QbP x → x.sh = 9 ∨ x.sh = 10 → VC P f [.agg (Qr x), .int .i32 w] (.tup [.agg (Qr (Qat x w)), .int .i64 0])
theorem Qo3 {s : Int} (h : s = 9 ∨ s = 10) : Qrn s = 0 := by simp [Qrn, h]
theorem QnL {P : Prg} {f fC fS t0 : Nat} (b : Qk P f 53 [.cell 4 t0, .tmp 5] (Qbq fC fS t0)) (ht : ZP P t0 = some (some 33)) (hC : Qdx P fC) (hS : QmH P fS) : QiY P f := by
 intro x w hx hs
 have l33 := Zg hx
 have tk : (Qr x).take 33 = Qr x := QK (by omega)
 have ho := Zk x
 have hc := Qo3 hs
 have pp := Qg6 hx
 have lw := Zg (QeR hx w)
 have tkw : (Qr (Qat x w)).take 33 = Qr (Qat x w) := QK (by omega)
 have how := Zk (Qat x w)
 refine VC.of_acall (by simp [isDL, isD, ZD]) (by simp [isD, isDL, ZD]) (ACall.of_body b (by simp) ?_)
 simp (maxSteps := 4000000) (disch := omega) only [rq, simprocAttr, Qbq, l33, tk, ho]
 refine Qb.vc (hC x hx) ?_
 by_cases hw : w = 0
 ·subst hw
  have e := Qsc hx
  simp (maxSteps := 4000000) (disch := omega) only [rq, simprocAttr, l33, tk, ho, hc, ZG, ht, e]
 simp (maxSteps := 4000000) (disch := omega) only [rq, simprocAttr, l33, tk, ho, hc, pp]
 refine QP.by (ι := Nat) (fun k => ⟨[(20, .int .i64 k), (19, .agg (ks .i32 x.ps)), (4, .ref 1 1 0), (2, .ref 0 1 0), (1, .int .i32 w), (5, .int .i64 0)], [⟨t0, 33, 1, Qr (lf x w k), 0⟩, ⟨t0, 33, 1, Qr Qji, 0⟩]⟩) (fun k => k ≤ 16) (fun k => 16 - k) 0 (by rw [show lf x w 0 = x by simp [lf, Qg0 hx]]; exact Le.slots (by simp [Am.look])) (by omega) ?_
 intro k hk
 by_cases hlt : k < 16
 ·have hok := QjW hx w k
  have e1 := Qs8 (K := .i32) (l := x.ps) (k := k) (by have := hx.2.1; omega)
  have e2 := Qsv hok hlt
  have e3 := fun v => QlY hok hlt v
  have e4 := Qn6 x w hlt
  have e5 := Zg hok
  have hu := QpQ x w hlt
  have hp := Jb hx.2.2.2 k
  have htp := Jb hx.2.2.1 k
  have ef : ∀ v, ({ lf x w k with tp := (lf x w k).tp.set k v } : JE) = { x with tp := (XP x w k).set k v } := fun _ => rfl
  have e7 : (lf x w k).tp.getD k 0 = x.tp.getD k 0 := e4
  by_cases p0 : x.ps.getD k 0 = 0
  ·have e6 := Qg1 x w (k := k) (by simp only [QrB, p0, sgn]; simp; exact QoR (by simpa using htp.1) (by simpa using htp.2))
   simp (maxSteps := 4000000) (disch := omega) only [rq, simprocAttr, e1, p0]
   exact ⟨k + 1, by omega, by omega, by rw [show lf x w (k + 1) = lf x w k by simp [lf, e6]]; exact Le.slots (by simp [Am.look])⟩
  ·by_cases hsame : (x.ps.getD k 0 < 0 ↔ w < 0)
   ·have e6 : QrB x w k = w32 (x.tp.getD k 0 + Qln k) := by
     simp only [QrB, sgn]; congr 1
     by_cases q : w < 0
     ·rw [if_pos q, if_pos (hsame.2 q)]; omega
     ·rw [if_neg q, if_neg (fun h => q (hsame.1 h)), if_pos (by omega), if_pos (by omega)]; omega
    rw [e6] at hu
    by_cases q : w < 0
    ·have q2 := hsame.2 q
     simp (maxSteps := 4000000) (disch := omega) only [rq, simprocAttr, e1, e2, e7]
     refine Q2.vc (hS k) ?_
     simp (maxSteps := 4000000) (disch := omega) only [rq, simprocAttr, e3, e5, Qa9, ef, hu]
     exact ⟨k + 1, by omega, by omega, Le.slots (by simp [Am.look])⟩
    ·have q2 : ¬ x.ps.getD k 0 < 0 := fun h => q (hsame.1 h)
     simp (maxSteps := 4000000) (disch := omega) only [rq, simprocAttr, e1, e2, e7]
     refine Q2.vc (hS k) ?_
     simp (maxSteps := 4000000) (disch := omega) only [rq, simprocAttr, e3, e5, Qa9, ef, hu]
     exact ⟨k + 1, by omega, by omega, Le.slots (by simp [Am.look])⟩
   ·have e6 : QrB x w k = w32 (x.tp.getD k 0 - Qln k) := by
     simp only [QrB, sgn]; congr 1
     by_cases q : w < 0
     ·rw [if_pos q, if_neg (fun h => hsame ⟨fun _ => q, fun _ => h⟩), if_pos (by omega)]; omega
     ·rw [if_neg q, if_pos (Classical.byContradiction fun h => hsame ⟨fun h' => absurd h' h, fun h' => absurd h' q⟩), if_pos (by omega)]; omega
    rw [e6] at hu
    by_cases q : w < 0
    ·have q2 : ¬ x.ps.getD k 0 < 0 := fun h => hsame ⟨fun _ => q, fun _ => h⟩
     simp (maxSteps := 4000000) (disch := omega) only [rq, simprocAttr, e1, e2, e7]
     refine Q2.vc (hS k) ?_
     simp (maxSteps := 4000000) (disch := omega) only [rq, simprocAttr, e3, e5, Qa9, ef, hu]
     exact ⟨k + 1, by omega, by omega, Le.slots (by simp [Am.look])⟩
    ·have q2 : x.ps.getD k 0 < 0 := Classical.byContradiction fun h => hsame ⟨fun h' => absurd h' h, fun h' => absurd h' q⟩
     simp (maxSteps := 4000000) (disch := omega) only [rq, simprocAttr, e1, e2, e7]
     refine Q2.vc (hS k) ?_
     simp (maxSteps := 4000000) (disch := omega) only [rq, simprocAttr, e3, e5, Qa9, ef, hu]
     exact ⟨k + 1, by omega, by omega, Le.slots (by simp [Am.look])⟩
 ·have e : k = 16 := by omega
  subst e
  have hF : lf x w 16 = Qat x w := rfl
  rw [hF]
  simp (maxSteps := 4000000) (disch := omega) only [rq, simprocAttr, lw, tkw, how, ZG, ht, Qb7]
def Qgr (x : JE) (v : Int) : JE := { x with ps := v :: x.ps.take 15 }
theorem QpH {x : JE} (h : QbP x) {v : Int} (hv : -2147483648 ≤ v ∧ v ≤ 2147483647) : QbP (Qgr x v) := by
 obtain ⟨h1, h2, h3, h4⟩ := h
 refine ⟨h1, by simp [Qgr, h2], h3, fun y hy => ?_⟩
 simp only [Qgr, List.mem_cons] at hy
 rcases hy with rfl | hy
 ·exact hv
 ·exact h4 y (List.mem_of_mem_take hy)
def QmI (P : Prg) (f : Nat) : Prop := ∀ (x : JE) (v : Int), QbP x → x.sh = 9 ∨ x.sh = 10 → VC P f [.agg (Qr x), .int .i32 v] (.tup [.agg (Qr (Qgr x v)), .int .i64 0])
theorem Qo5 {P : Prg} {f fC t0 : Nat} (b : Qk P f 22 [.cell 4 t0, .tmp 5] (Qb0 fC t0)) (ht : ZP P t0 = some (some 33)) (hC : Qdx P fC) : QmI P f := by
 intro x v hx hs
 have l33 := Zg hx
 have tk : (Qr x).take 33 = Qr x := QK (by omega)
 have ho := Zk x
 have hc := Qo3 hs
 have pp := Qg6 hx
 have h16 : (ks .i32 x.ps).length = 16 := by simp [Qh, hx.2.1]
 have o16 := J4 .i32 x.ps
 refine VC.of_acall (by simp [isDL, isD, ZD]) (by simp [isD, isDL, ZD]) (ACall.of_body b (by simp) ?_)
 simp (maxSteps := 4000000) (disch := omega) only [rq, simprocAttr, Qb0, l33, tk, ho]
 refine Qb.vc (hC x hx) ?_
 have hm : Nat.min 16 15 = 15 := rfl
 let y : JE := { x with ps := x.ps.getD 0 0 :: x.ps.take 15 }
 have hy : QbP y := QpH hx (Jb hx.2.2.2 0)
 have hcp : (Qr x).take 18 ++ (ks .i32 x.ps).take 15 ++ (Qr x).drop 33 = Qr y := by
  have e1 : (Qr x).drop 33 = [] := List.drop_eq_nil_of_le (by omega)
  have e2 : (ks .i32 x.tp).length = 16 := by simp [Qh, hx.1]
  have e3 : (ks .i32 x.ps).take 1 = [.int .i32 (x.ps.getD 0 0)] := by
   have h1 : 0 < x.ps.length := by have := hx.2.1; omega
   match hps : x.ps, h1 with
   | a :: l, _ => rfl
  rw [e1, List.append_nil]
  simp only [Qr, List.take_succ_cons, List.cons_append, y]
  congr 1
  rw [List.take_append, List.take_of_length_le (by omega), e2, e3, List.append_assoc, QpV]
  rfl
 have hset : (Qr y).take 17 ++ [.int .i32 v] ++ (Qr y).drop 18 = Qr (Qgr x v) := Qkg hy (k := 0) (by omega) v
 have ly := Zg hy
 have lp : (Qr (Qgr x v)).length = 33 := by rw [← hset]; simp [ly]
 have tkp : (Qr (Qgr x v)).take 33 = Qr (Qgr x v) := QK (by omega)
 have op := Zk (Qgr x v)
 simp (maxSteps := 4000000) (disch := omega) only [rq, simprocAttr, l33, tk, ho, hc, pp, h16, o16, hm, hcp, hset, ly, lp, tkp, op, ZG, ht, Qb7]
def QaJ (x : JE) (v y : Int) : JE := Qgr (Qat x y) v
theorem Qfr {x : JE} (h : QbP x) {v : Int} (hv : -2147483648 ≤ v ∧ v ≤ 2147483647) (y : Int) : QbP (QaJ x v y) := QpH (QeR h y) hv
def Qf5 (P : Prg) (f : Nat) : Prop := ∀ (x : JE) (v y : Int), QbP x → x.sh = 9 ∨ x.sh = 10 → -2147483648 ≤ v ∧ v ≤ 2147483647 → VC P f [.agg (Qr x), .int .i32 v, .int .i32 y] (.agg (Qr (QaJ x v y)))
theorem Qn5 {P : Prg} {f fL fP t0 : Nat} (b : Qk P f 20 [.cell 6 t0] (Qbs fL fP t0)) (ht : ZP P t0 = some (some 33)) (hL : QiY P fL) (hP : QmI P fP) : Qf5 P f := by
 intro x v y hx hs hv
 have l1 := Zg hx
 have t1 : (Qr x).take 33 = Qr x := QK (by omega)
 have o1 := Zk x
 have l2 := Zg (QeR hx y)
 have t2 : (Qr (Qat x y)).take 33 = Qr (Qat x y) := QK (by omega)
 have o2 := Zk (Qat x y)
 have l3 := Zg (Qfr hx hv y)
 have t3 : (Qr (QaJ x v y)).take 33 = Qr (QaJ x v y) := QK (by omega)
 have o3 := Zk (QaJ x v y)
 have d1 : (Qr x).drop 33 = [] := List.drop_eq_nil_of_le (by omega)
 have d2 : (Qr (Qat x y)).drop 33 = [] := List.drop_eq_nil_of_le (by omega)
 refine VC.of_acall (by simp [isDL, isD, ZD]) (by simp [isD, ZD]) (ACall.of_body b (by simp) ?_)
 simp (maxSteps := 4000000) (disch := omega) only [rq, simprocAttr, Qbs, l1, t1, o1]
 refine Qb.vc (hL x y hx hs) ?_
 simp (maxSteps := 4000000) (disch := omega) only [rq, simprocAttr, l1, t1, o1, l2, t2, o2, d1]
 refine Qb.vc (hP (Qat x y) v (QeR hx y) hs) ?_
 rw [← QaJ]
 simp (maxSteps := 4000000) (disch := omega) only [rq, simprocAttr, l1, t1, o1, l2, t2, o2, l3, t3, o3, d1, d2, ZG, ht, Qb7]
def Qp4 (x : JE) (v : Int) : Int := w32 (v - Qp3 x)
def Qvv (x : JE) (v : Int) : JE := QaJ x v (Qp4 x v)
def Qd4 (P : Prg) (f : Nat) : Prop := ∀ (x : JE) (v : Int), QbP x → x.sh = 9 ∨ x.sh = 10 → -2147483648 ≤ v ∧ v ≤ 2147483647 → VC P f [.agg (Qr x), .int .i32 v] (.tup [.int .i32 (Qp4 x v), .agg (Qr (Qvv x v)), .int .i64 0])
theorem QlJ {P : Prg} {f fG fB t0 : Nat} (b : Qk P f 27 [.tmp 4, .cell 5 t0, .tmp 6] (QaP fG fB t0)) (ht : ZP P t0 = some (some 33)) (hG : QiZ P fG) (hB : Qf5 P fB) : Qd4 P f := by
 intro x v hx hs hv
 have l1 := Zg hx
 have t1 : (Qr x).take 33 = Qr x := QK (by omega)
 have o1 := Zk x
 have l3 := Zg (Qfr hx hv (Qp4 x v))
 have t3 : (Qr (QaJ x v (Qp4 x v))).take 33 = Qr (QaJ x v (Qp4 x v)) := QK (by omega)
 have o3 := Zk (QaJ x v (Qp4 x v))
 refine VC.of_acall (by simp [isDL, isD, ZD]) (by simp [isD, isDL, ZD]) (ACall.of_body b (by simp) ?_)
 simp (maxSteps := 4000000) (disch := omega) only [rq, simprocAttr, QaP, l1, t1, o1]
 refine Qb.vc (hG x hx hs) ?_
 simp (maxSteps := 4000000) (disch := omega) only [rq, simprocAttr, l1, t1, o1, Qa9]
 refine Qb.vc (hB x v (Qp4 x v) hx hs hv) ?_
 simp only [Qp4] at l3 t3 o3
 simp (maxSteps := 4000000) (disch := omega) only [rq, simprocAttr, l1, t1, o1, l3, t3, o3, ZG, ht, Qb7, Qvv, Qp4]
def Qem (b last : Int) : Int := if b = 8 then 15 * last / 16 else 31 * last / 32
def Qi9 (P : Prg) (f : Nat) : Prop := ∀ b : Int, Xk b ≠ 0 → VC P f [.int .i64 b] (.tup [.int .i64 (if b = 8 then 4 else 5), .int .i64 0])
theorem QlW {P : Prg} {f : Nat} (b : Qk P f 10 [.tmp 2, .tmp 3] Xh) : Qi9 P f := by
 intro x hx
 refine VC.of_acall rfl rfl (ACall.of_body b (by simp) ?_)
 rcases ZH x with ⟨rfl, h⟩ | ⟨rfl, h⟩ | ⟨rfl, h⟩ | ⟨h2, h3, h4, h⟩
 ·simp (maxSteps := 4000000) (disch := omega) only [rq, simprocAttr, Xh]
 ·simp (maxSteps := 4000000) (disch := omega) only [rq, simprocAttr, Xh]
 ·simp (maxSteps := 4000000) (disch := omega) only [rq, simprocAttr, Xh]
 ·exact absurd h hx
theorem QtG {x : Int} (h : -2147483648 ≤ x ∧ x ≤ 2147483647) : Ql true .i64 x 4 = some (.int .i64 (x * 16)) := by
 show some (AV.int .i64 (IntKind.i64.wrap (x * 16))) = _
 rw [Qa7 (by omega) (by omega)]
theorem QtF {x : Int} (h : -2147483648 ≤ x ∧ x ≤ 2147483647) : Ql true .i64 x 5 = some (.int .i64 (x * 32)) := by
 show some (AV.int .i64 (IntKind.i64.wrap (x * 32))) = _
 rw [Qa7 (by omega) (by omega)]
theorem QtC (x : Int) : Ql false .i64 x 4 = some (.int .i64 (x / 16)) := by
 show some (AV.int .i64 (x.fdiv 16)) = _
 rw [Int.fdiv_eq_ediv_of_nonneg _ (by omega)]
theorem QtB (x : Int) : Ql false .i64 x 5 = some (.int .i64 (x / 32)) := by
 show some (AV.int .i64 (x.fdiv 32)) = _
 rw [Int.fdiv_eq_ediv_of_nonneg _ (by omega)]
def Qi8 (P : Prg) (f : Nat) : Prop := ∀ (b l : Int), -2147483648 ≤ l ∧ l ≤ 2147483647 → VC P f [.int .i64 (if b = 8 then 4 else 5), .int .i32 l] (.int .i32 (Qem b l))
theorem QlV {P : Prg} {f : Nat} (b : Qk P f 16 [.tmp 4] Je) : Qi8 P f := by
 intro x l hl
 refine VC.of_acall rfl rfl (ACall.of_body b (by simp) ?_)
 have e1 : l * 16 - l = 15 * l := by omega
 have e2 : l * 32 - l = 31 * l := by omega
 have a := QtG hl
 have c := QtF hl
 by_cases h : x = 8
 ·simp (maxSteps := 4000000) (disch := omega) only [rq, simprocAttr, Je, h, Qem, a, QtC, e1]
 ·simp (maxSteps := 4000000) (disch := omega) only [rq, simprocAttr, Je, if_neg h, Qem, c, QtB, e2]
def Qja (P : Prg) (f : Nat) : Prop := ∀ (b l : Int), Xk b ≠ 0 → -2147483648 ≤ l ∧ l ≤ 2147483647 → VC P f [.int .i64 b, .int .i32 l] (.tup [.int .i32 (Qem b l), .int .i64 0])
theorem QlX {P : Prg} {f fS fg : Nat} (b : Qk P f 19 [.tmp 4, .tmp 5] (QaR fS fg)) (hS : Qi9 P fS) (hg : Qi8 P fg) : Qja P f := by
 intro x l hx hl
 refine VC.of_acall rfl rfl (ACall.of_body b (by simp) ?_)
 simp (maxSteps := 4000000) (disch := omega) only [rq, simprocAttr, QaR]
 refine Qb.vc (hS x hx) ?_
 simp (maxSteps := 4000000) (disch := omega) only [rq, simprocAttr]
 refine Qb.vc (hg x l hl) ?_
 simp (maxSteps := 4000000) (disch := omega) only [rq, simprocAttr]
structure JT where
 bits : Int
 last : Int
 fl : JE
def Zu (c : JT) : List AV := .int .i64 c.bits :: .int .i32 c.last :: Qr c.fl
def Qs1 (c : JT) : Prop := Xk c.bits ≠ 0 ∧ c.fl.sh = Qbe c.bits ∧ QbP c.fl ∧ (-2147483648 ≤ c.last ∧ c.last ≤ 2147483647)
def QcU : JT := ⟨0, 0, Qji⟩
theorem Jc {c : JT} (h : QbP c.fl) : (Zu c).length = 35 := by simp [Zu, Zg h]
theorem Qay (c : JT) : (Zu c).all AV.one = true := by simp [Zu, AV.one, Zk]
theorem Qdl (c : JT) : isDL (Zu c) = true := by simp [Zu, isDL, isD, ZD]
theorem QrS (b : Int) : Qbe b = 9 ∨ Qbe b = 10 := by unfold Qbe; split <;> simp
theorem QpI {b : Int} {t : List Int} (h1 : t.length = 16) (h2 : I32 t) : QbP (Qh3 b t) := ⟨h1, by simp [Qh3, z16], h2, fun x hx => by simp [Qh3, z16] at hx; omega⟩
theorem QeI : Zu QcU = [.int .i64 0, .int .i32 0, .int .i64 0, .int .i32 0, .int .i32 0, .int .i32 0, .int .i32 0, .int .i32 0, .int .i32 0, .int .i32 0, .int .i32 0, .int .i32 0, .int .i32 0, .int .i32 0, .int .i32 0, .int .i32 0, .int .i32 0, .int .i32 0, .int .i32 0, .int .i32 0, .int .i32 0, .int .i32 0, .int .i32 0, .int .i32 0, .int .i32 0, .int .i32 0, .int .i32 0, .int .i32 0, .int .i32 0, .int .i32 0, .int .i32 0, .int .i32 0, .int .i32 0, .int .i32 0, .int .i32 0] := rfl
def QdP (b : Int) (t : List Int) : JT := ⟨b, 0, Qh3 b t⟩
def Qoq (b : Int) (t : List Int) : AV := if Xk b = 0 then .tup [.agg (Zu QcU), .int .i64 2] else .tup [.agg (Zu (QdP b t)), .int .i64 0]
def Qrd (P : Prg) (f : Nat) : Prop := ∀ (b : Int) (t : List Int), t.length = 16 → I32 t → VC P f [.int .i64 b, .agg (ks .i32 t)] (Qoq b t)
theorem Qsn (b : Int) (t : List Int) : isD (Qoq b t) = true := by unfold Qoq; split <;> simp [isD, isDL, Qdl]
theorem QqJ {P : Prg} {f fT t0 t1 t2 : Nat} (b : Qk P f 21 [.cell 4 t1, .tmp 5] (Qb3 fT t0 t1 t2)) (ht : ZP P t1 = some (some 35)) (hT : QnA P fT) : Qrd P f := by
 intro x t hl hI
 have hk : (ks .i32 t).length = 16 := by simp [Qh, hl]
 have h1 := J4 .i32 t
 have tk16 : (ks .i32 t).take 16 = ks .i32 t := QK (by omega)
 have hok : QbP (Qh3 x t) := QpI hl hI
 have l1 := Zg hok
 have t1' : (Qr (Qh3 x t)).take 33 = Qr (Qh3 x t) := QK (by omega)
 have o1 := Zk (Qh3 x t)
 have lc := Jc (c := QdP x t) hok
 have tc : (Zu (QdP x t)).take 35 = Zu (QdP x t) := QK (by omega)
 have oc := Qay (QdP x t)
 have mk : AV.int .i64 x :: .int .i32 0 :: Qr (Qh3 x t) = Zu (QdP x t) := rfl
 refine VC.of_acall (by simp [isDL, isD, QG]) (Qsn _ _) (ACall.of_body b (by simp) ?_)
 simp (maxSteps := 4000000) (disch := omega) only [rq, simprocAttr, Qb3, hk, h1, tk16]
 refine Qb.vc (hT x t hl) ?_
 by_cases h0 : Xk x = 0
 ·simp (maxSteps := 4000000) (disch := omega) only [rq, simprocAttr, Qgl, h0, Qoq, Qb7, QeI, ZG, ht]
 ·simp (maxSteps := 4000000) (disch := omega) only [rq, simprocAttr, Qgl, if_neg h0, Qoq, l1, t1', o1, lc, tc, oc, mk, QeI, ZG, ht]
theorem Quv {c : JT} (h : QbP c.fl) : ((Zu c).drop 2).take 33 = Qr c.fl := by
 simp only [Zu, List.drop_succ_cons, List.drop_zero]
 exact QK (by rw [Zg h]; omega)
theorem QqH {c : JT} (h : QbP c.fl) : ((Zu c).drop 3).take 16 = ks .i32 c.fl.tp := Qkf h
def Qjd (P : Prg) (f : Nat) : Prop := ∀ c : JT, Qs1 c → VC P f [.agg (Zu c)] (.int .i64 0)
theorem Qmk {P : Prg} {f fT t0 t1 : Nat} (b : Qk P f 24 [.tmp 2] (QaW fT t0 t1)) (hT : QnA P fT) : Qjd P f := by
 intro c ⟨h1, h2, h3, h4⟩
 have lc := Jc h3
 have oc := Qay c
 have e0 : (Zu c).drop 0 = .int .i64 c.bits :: .int .i32 c.last :: Qr c.fl := rfl
 have e2 : (Zu c).drop 2 = .int .i64 c.fl.sh :: (ks .i32 c.fl.tp ++ ks .i32 c.fl.ps) := rfl
 have et := QqH h3
 have hk : (ks .i32 c.fl.tp).length = 16 := by simp [Qh, h3.1]
 have hok : QbP (Qh3 c.bits c.fl.tp) := QpI h3.1 h3.2.2.1
 have l1 := Zg hok
 have t1' : (Qr (Qh3 c.bits c.fl.tp)).take 33 = Qr (Qh3 c.bits c.fl.tp) := QK (by omega)
 have o1 := Zk (Qh3 c.bits c.fl.tp)
 have en : (Qr (Qh3 c.bits c.fl.tp)).drop 0 = .int .i64 (Qbe c.bits) :: (ks .i32 c.fl.tp ++ ks .i32 z16) := rfl
 have dn : (Qr (Qh3 c.bits c.fl.tp)).drop 33 = [] := List.drop_eq_nil_of_le (by omega)
 refine VC.of_acall (by simp [isDL, isD, Qdl]) rfl (ACall.of_body b (by simp) ?_)
 simp (maxSteps := 4000000) (disch := omega) only [rq, simprocAttr, QaW, lc, oc, ↓e0, et]
 refine Qb.vc (hT c.bits c.fl.tp h3.1) ?_
 simp (maxSteps := 4000000) (disch := omega) only [rq, simprocAttr, Qgl, if_neg h1, l1, t1', o1, ↓en, ↓e2, h2, dn]
def Qve (c : JT) (x : Int) : Int := w32 (x - Qem c.bits c.last)
def Qml (c : JT) (x : Int) : Int := Qp4 c.fl (Qve c x)
def QbF (c : JT) (x : Int) : JT := ⟨c.bits, x, Qvv c.fl (Qve c x)⟩
theorem QlF {c : JT} (h : Qs1 c) {x : Int} (hx : -2147483648 ≤ x ∧ x ≤ 2147483647) : Qs1 (QbF c x) := ⟨h.1, h.2.1, Qfr h.2.2.1 (QcC _) _, hx⟩
def Qd7 (P : Prg) (f : Nat) : Prop := ∀ (c : JT) (x : Int), Qs1 c → -2147483648 ≤ x ∧ x ≤ 2147483647 → VC P f [.agg (Zu c), .int .i32 x] (.tup [.int .i32 (Qml c x), .agg (Zu (QbF c x)), .int .i64 0])
theorem Qiu {P : Prg} {f fC fG fF t0 t1 : Nat} (b : Qk P f 44 [.tmp 4, .cell 5 t0, .tmp 6] (JB fC fG fF t0 t1)) (ht : ZP P t0 = some (some 35)) (hC : Qjd P fC) (hG : Qja P fG) (hF : Qd4 P fF) : Qd7 P f := by
 intro c x hc hx
 obtain ⟨h1, h2, h3, h4⟩ := id hc
 have hs : c.fl.sh = 9 ∨ c.fl.sh = 10 := by rw [h2]; exact QrS _
 have lc := Jc h3
 have tc : (Zu c).take 35 = Zu c := QK (by omega)
 have oc := Qay c
 have e0 : (Zu c).drop 0 = .int .i64 c.bits :: .int .i32 c.last :: Qr c.fl := rfl
 have e1 : (Zu c).drop 1 = .int .i32 c.last :: Qr c.fl := rfl
 have e2 := Quv h3
 have hzr := QcC (x - Qem c.bits c.last)
 have hok := QlF hc hx
 have l1 := Zg hok.2.2.1
 have t1' : (Qr (QbF c x).fl).take 33 = Qr (QbF c x).fl := QK (by omega)
 have o1 := Zk (QbF c x).fl
 have d1 : (Qr (QbF c x).fl).drop 33 = [] := List.drop_eq_nil_of_le (by omega)
 have l2 := Jc hok.2.2.1
 have t2 : (Zu (QbF c x)).take 35 = Zu (QbF c x) := QK (by omega)
 have o2 := Qay (QbF c x)
 have mk : AV.int .i64 c.bits :: .int .i32 x :: Qr (QbF c x).fl = Zu (QbF c x) := rfl
 have hfe : Qvv c.fl (w32 (x - Qem c.bits c.last)) = (QbF c x).fl := rfl
 have hye : Qp4 c.fl (w32 (x - Qem c.bits c.last)) = Qml c x := rfl
 refine VC.of_acall (by simp [isDL, isD, Qdl]) (by simp [isD, isDL, Qdl]) (ACall.of_body b (by simp) ?_)
 simp (maxSteps := 4000000) (disch := omega) only [rq, simprocAttr, JB, lc, tc, oc]
 refine Qb.vc (hC c hc) ?_
 simp (maxSteps := 4000000) (disch := omega) only [rq, simprocAttr, lc, tc, oc, ↓e0, ↓e1]
 refine Qb.vc (hG c.bits c.last h1 h4) ?_
 simp (maxSteps := 4000000) (disch := omega) only [rq, simprocAttr, lc, tc, oc, e2, Qa9]
 refine Qb.vc (hF c.fl _ h3 hs hzr) ?_
 rw [hfe, hye]
 simp (maxSteps := 4000000) (disch := omega) only [rq, simprocAttr, lc, tc, oc, ↓e0, l1, t1', o1, d1, l2, t2, o2, mk, ZG, ht, QeI]
theorem Qo1 {x : Int} (h : x < 0) (n : Int) : x.tdiv n = -(-x / n) ∧ x.tmod n = -(-x % n) := by
 have e : x = -(-x) := by omega
 constructor
 ·rw [e, Int.neg_tdiv, Int.tdiv_eq_ediv_of_nonneg (by omega)]; simp
 ·rw [e, Int.neg_tmod, Int.tmod_eq_emod_of_nonneg (by omega)]; simp
def QvK (x : JE) (k : Nat) : List Int := (List.range 16).map fun j => if k < j then x.ps.getD (j - 1) 0 else x.ps.getD j 0
def pf (x : JE) (k : Nat) : JE := { x with ps := QvK x k }
def Qkd (x : Int) : Int := if x < 0 then -2 * x - 1 else 2 * x
def Qq9 (P : Prg) (f : Nat) : Prop := ∀ x : Int, -2147483648 ≤ x ∧ x ≤ 2147483647 → VC P f [.int .i32 x] (.int .u32 (Qkd x))
theorem Qqc {x : Int} (h : -2147483648 ≤ x ∧ x ≤ 2147483647) : 0 ≤ Qkd x ∧ Qkd x < 4294967296 := by unfold Qkd; split <;> omega
theorem Qrv {a : Nat} (h : a < 4294967296) : (BitVec.ofInt 32 (a : Int) ^^^ BitVec.ofInt 32 4294967295).toNat = 4294967295 - a := by
 have e : BitVec.ofInt 32 4294967295 = BitVec.allOnes 32 := by decide
 rw [e, BitVec.xor_allOnes, BitVec.toNat_not]
 have : (BitVec.ofInt 32 (a : Int)).toNat = a := by simp; omega
 rw [this]
theorem QoM {a : Nat} (h : a < 4294967296) : (BitVec.ofInt 32 (a : Int) ^^^ BitVec.ofInt 32 0).toNat = a := by
 have : (BitVec.ofInt 32 (a : Int)).toNat = a := by simp; omega
 rw [BitVec.toNat_xor, this]
 simp
theorem Qqb {P : Prg} {f : Nat} (b : Qk P f 10 [.tmp 2] Qaz) : Qq9 P f := by
 intro x hx
 refine VC.of_acall rfl rfl (ACall.of_body b (by simp) ?_)
 by_cases h : x < 0
 ·have a1 : IntKind.u32.wrap x = x + 4294967296 := by rw [Qan]; omega
  have a2 : Ql true .u32 (x + 4294967296) 1 = some (.int .u32 (2 * x + 4294967296)) := by
   show some (AV.int .u32 (IntKind.u32.wrap ((x + 4294967296) * 2))) = _
   rw [Qan]; congr 2; omega
  have a3 : Ql false .i32 x 31 = some (.int .i32 (-1)) := by
   show some (AV.int .i32 (x.fdiv 2147483648)) = _
   rw [Int.fdiv_eq_ediv_of_nonneg _ (by omega)]; congr 2; omega
  have a4 : IntKind.u32.wrap (-1) = 4294967295 := rfl
  have a5 : (BitVec.ofInt IntKind.u32.bits (2 * x + 4294967296) ^^^ BitVec.ofInt IntKind.u32.bits 4294967295).toNat = (-2 * x - 1).toNat := by
   show (BitVec.ofInt 32 (2 * x + 4294967296) ^^^ BitVec.ofInt 32 4294967295).toNat = (-2 * x - 1).toNat
   have := Qrv (a := (2 * x + 4294967296).toNat) (by omega)
   rw [show (((2 * x + 4294967296).toNat : Nat) : Int) = 2 * x + 4294967296 by omega] at this
   rw [this]; omega
  have a6 : (((BitVec.ofInt IntKind.u32.bits (2 * x + 4294967296) ^^^ BitVec.ofInt IntKind.u32.bits 4294967295).toNat : Nat) : Int) = -2 * x - 1 := by rw [a5]; omega
  simp (maxSteps := 4000000) (disch := omega) only [rq, simprocAttr, Qaz, a1, a2, a3, a4, a6, Qkd]
 ·have a2 : Ql true .u32 x 1 = some (.int .u32 (2 * x)) := by
   show some (AV.int .u32 (IntKind.u32.wrap (x * 2))) = _
   rw [Qan]; congr 2; omega
  have a3 : Ql false .i32 x 31 = some (.int .i32 0) := by
   show some (AV.int .i32 (x.fdiv 2147483648)) = _
   rw [Int.fdiv_eq_ediv_of_nonneg _ (by omega)]; congr 2; omega
  have a5 : (BitVec.ofInt IntKind.u32.bits (2 * x) ^^^ BitVec.ofInt IntKind.u32.bits 0).toNat = (2 * x).toNat := by
   show (BitVec.ofInt 32 (2 * x) ^^^ BitVec.ofInt 32 0).toNat = (2 * x).toNat
   have := QoM (a := (2 * x).toNat) (by omega)
   rwa [show (((2 * x).toNat : Nat) : Int) = 2 * x by omega] at this
  have a6 : (((BitVec.ofInt IntKind.u32.bits (2 * x) ^^^ BitVec.ofInt IntKind.u32.bits 0).toNat : Nat) : Int) = 2 * x := by rw [a5]; omega
  simp (maxSteps := 4000000) (disch := omega) only [rq, simprocAttr, Qaz, a2, a3, a6, Qkd]
theorem Qs7 {K : IntKind} {l : List Int} {i : Nat} (h : i < l.length) (v : Int) : (ks K l).take i ++ [.int K v] ++ (ks K l).drop (i + 1) = ks K (l.set i v) := by
 rw [List.set_eq_take_append_cons_drop, if_pos h]
 simp [ks]
theorem Qfx {K : IntKind} {l : List Int} {i : Nat} (h : i < l.length) : (ks K l).drop i = .int K (l.getD i 0) :: ks K (l.drop (i + 1)) := by
 rw [QdW h]; simp [List.getD_eq_getElem?_getD, List.getElem?_eq_getElem h]
theorem Quc {α : Type} (l : List α) (x : α) : (l ++ [x])[l.length]? = some x := by simp
theorem QtJ {α : Type} (l : List α) (x y : α) : (l ++ [x]).set l.length y = l ++ [y] := by simp
def Qjc (t : Nat) (P : Prg) (f : Nat) : Prop := ∀ (l : List Int) (ob : List Ob) (K : AV → List Ob → Prop), 0 < l.length → l.length ≤ 1000000 → K (.own ob.length l.length) (ob ++ [⟨t, 1, l.length, ks .i32 l, 0⟩]) → ACall P f [il l] ob K
theorem QqF {P : Prg} {f t0 : Nat} (b : Qk P f 8 [.tmp 2] (Qw t0)) : Qjc t0 P f := by
 intro l ob K h0 h1 hK
 refine ACall.of_body b (by simp) ?_
 have g1 := fun x : Ob => Quc ob x
 have g2 := fun x y : Ob => QtJ ob x y
 have n0 : l.length ≠ 0 := by omega
 simp (maxSteps := 4000000) (disch := omega) only [rq, simprocAttr, Qw, il, Qna, n0, g1, g2, J5]
 exact hK
def Qgg (L : List Int) (k i : Nat) : List Int := (List.range L.length).map fun j => if k ≤ j ∧ j < k + i then w32 (L.getD (j + 1) 0 - L.getD j 0) else L.getD j 0
def Qft (L : List Int) (k n : Nat) : List Int := if n = 1 then L else (Qgg L k (n - 1)).set (k + (n - 1)) (w32 (L.getD (k + (n - 1)) 0 - (w32 (L.getD (k + (n - 1)) 0 - L.getD (k + (n - 2)) 0)).tdiv 2))
theorem Qdm {a b : List Int} (h : a.length = b.length) (h2 : ∀ j, j < a.length → a.getD j 0 = b.getD j 0) : a = b := by
 apply List.ext_getElem h
 intro i h1 h3
 have := h2 i h1
 simpa [List.getD_eq_getElem?_getD, List.getElem?_eq_getElem h1, List.getElem?_eq_getElem h3] using this
theorem Qbf (L : List Int) (k i : Nat) : (Qgg L k i).length = L.length := by simp [Qgg]
theorem Xj {g : Nat → Int} {n j : Nat} (h : j < n) : ((List.range n).map g).getD j 0 = g j := by
 simp [List.getD_eq_getElem?_getD, h]
theorem Qm3 {l : List Int} {i j : Nat} {v : Int} (h : j < l.length) : (l.set i v).getD j 0 = if i = j then v else l.getD j 0 := by
 simp only [List.getD_eq_getElem?_getD, List.getElem?_set]
 split
 ·subst_vars; simp [h]
 ·rfl
theorem QuW (L : List Int) (k : Nat) : Qgg L k 0 = L := Qdm (Qbf _ _ _) fun j hj => by
 rw [Qbf] at hj
 rw [Qgg, Xj hj, if_neg (by omega)]
theorem Qpn {L : List Int} {k i j : Nat} (h : j < L.length) (h2 : k + i ≤ j) : (Qgg L k i).getD j 0 = L.getD j 0 := by
 rw [Qgg, Xj h, if_neg (by omega)]
theorem QrT {L : List Int} {k i : Nat} (h : k + i < L.length) : (Qgg L k i).set (k + i) (w32 (L.getD (k + i + 1) 0 - L.getD (k + i) 0)) = Qgg L k (i + 1) := Qdm (by simp [Qbf]) fun j hj => by
 have hj' : j < L.length := by simpa [Qbf] using hj
 rw [Qm3 (by rw [Qbf]; exact hj'), Qgg, Qgg, Xj hj', Xj hj']
 by_cases e : k + i = j
 ·subst e; rw [if_pos rfl, if_pos (by omega)]
 ·rw [if_neg e]
  by_cases q : k ≤ j ∧ j < k + i
  ·rw [if_pos q, if_pos (by omega)]
  ·rw [if_neg q, if_neg (by omega)]
def QuE (P : Prg) (f : Nat) : Prop := ∀ (t : Nat) (L : List Int) (k n : Nat) (K : AV → List Ob → Prop), I32 L → 1 ≤ n → k + n ≤ L.length → L.length ≤ 1000000 →
 K (.tup []) [⟨t, 1, L.length, ks .i32 (Qft L k n), 0⟩] → ACall P f [.view 0 L.length k n] [⟨t, 1, L.length, ks .i32 L, 0⟩] K
theorem Qo2 {x : Int} (h : -2147483648 ≤ x ∧ x ≤ 2147483647) : -2147483648 ≤ x.tdiv 2 ∧ x.tdiv 2 ≤ 2147483647 := by
 by_cases hx : x < 0
 ·rw [(Qo1 hx 2).1]; omega
 ·rw [Int.tdiv_eq_ediv_of_nonneg (by omega)]; omega
theorem QtV {P : Prg} {f : Nat} (b : Qk P f 39 [] Qd1) : QuE P f := by
 intro t L k n K hL h1 h2 h3 hK
 refine ACall.of_body b (by simp) ?_
 simp (maxSteps := 4000000) (disch := omega) only [rq, simprocAttr, Qd1]
 refine QP.by (ι := Nat) (fun i => ⟨[(8, .int .i64 i), (7, .int .i64 ((n : Int) - 1)), (2, .int .i64 ((n : Int) - 1)), (0, .view 0 L.length k n)], [⟨t, 1, L.length, ks .i32 (Qgg L k i), 0⟩]⟩) (fun i => i ≤ n - 1) (fun i => n - 1 - i) 0 (by rw [QuW]; exact Le.slots (by simp [Am.look])) (by omega) ?_
 intro i hi
 have ls := Qbf L k i
 by_cases hlt : i < n - 1
 ·have e1 := Qfx (K := .i32) (l := Qgg L k i) (i := k + i) (by omega)
  have e2 := Qfx (K := .i32) (l := Qgg L k i) (i := k + (i + 1)) (by omega)
  have e3 := fun v => Qs7 (K := .i32) (l := Qgg L k i) (i := k + i) (by omega) v
  have a1 := Qpn (L := L) (k := k) (i := i) (j := k + i) (by omega) (by omega)
  have a2 := Qpn (L := L) (k := k) (i := i) (j := k + (i + 1)) (by omega) (by omega)
  have a3 := QrT (L := L) (k := k) (i := i) (by omega)
  rw [show k + i + 1 = k + (i + 1) by omega] at a3
  rw [a1] at e1
  rw [a2] at e2
  simp (maxSteps := 4000000) (disch := omega) only [rq, simprocAttr, e1, e2, e3, Qa9, a3, ls]
  exact ⟨i + 1, by omega, by omega, Le.slots (by simp [Am.look])⟩
 ·have e : i = n - 1 := by omega
  subst e
  by_cases hn : n = 1
  ·subst hn
   have e0 : Qft L k 1 = Qgg L k (1 - 1) := by simp [Qft, QuW]
   rw [e0] at hK
   simp (maxSteps := 4000000) (disch := omega) only [rq, simprocAttr]
   exact hK
  ·have e1 := Qfx (K := .i32) (l := Qgg L k (n - 1)) (i := k + (n - 1)) (by omega)
   have e2 := Qfx (K := .i32) (l := Qgg L k (n - 1)) (i := k + (n - 2)) (by omega)
   have e3 := fun v => Qs7 (K := .i32) (l := Qgg L k (n - 1)) (i := k + (n - 1)) (by omega) v
   have a1 := Qpn (L := L) (k := k) (i := n - 1) (j := k + (n - 1)) (by omega) (by omega)
   have a2 : (Qgg L k (n - 1)).getD (k + (n - 2)) 0 = w32 (L.getD (k + (n - 1)) 0 - L.getD (k + (n - 2)) 0) := by
    rw [Qgg, Xj (by omega), if_pos (by omega), show k + (n - 2) + 1 = k + (n - 1) by omega]
   rw [a1] at e1
   rw [a2] at e2
   have hr := Qo2 (QcC (L.getD (k + (n - 1)) 0 - L.getD (k + (n - 2)) 0))
   simp only [Qft, if_neg hn] at hK
   rw [show k + (n - 2) = k + (n - 1 - 1) by omega] at e2 hK hr
   simp (maxSteps := 4000000) (disch := omega) only [rq, simprocAttr, e1, e2, e3, Qa9, ls]
   exact hK
def QbS (c : Int) (n : Nat) : Int := if c < 1 ∨ 6 < c then 2 else if 4000 < n then 4 else if (n : Int) % c ≠ 0 then 2 else 0
def Qi5 (P : Prg) (f : Nat) : Prop := ∀ (c : Int) (l : List Int), VC P f [.int .i64 c, il l] (.int .i64 (QbS c l.length))
theorem QpO {P : Prg} {f : Nat} (b : Qk P f 22 [.tmp 4] ZU) : Qi5 P f := by
 intro c l
 refine VC.of_acall (by simp [isDL, isD, ZC]) rfl (ACall.of_body b (by simp) ?_)
 by_cases h1 : c < 1
 ·simp (maxSteps := 4000000) (disch := omega) only [rq, simprocAttr, ZU, il, QbS]
 by_cases h2 : 6 < c
 ·simp (maxSteps := 4000000) (disch := omega) only [rq, simprocAttr, ZU, il, QbS]
 by_cases h3 : 4000 < l.length
 ·simp (maxSteps := 4000000) (disch := omega) only [rq, simprocAttr, ZU, il, QbS]
 have hm := QbR (n := l.length) (c := c) (by omega)
 by_cases h4 : (l.length : Int) % c = 0
 ·simp (maxSteps := 4000000) (disch := omega) only [rq, simprocAttr, ZU, il, QbS, h4]
 ·simp (maxSteps := 4000000) (disch := omega) only [rq, simprocAttr, ZU, il, QbS, h4]
def Qs2 (c : Nat) (l : List Int) (j : Nat) : Int :=
 if c = 1 then l.getD j 0
 else if j % c + 1 < c then w32 (l.getD (j + 1) 0 - l.getD j 0)
 else w32 (l.getD j 0 - (w32 (l.getD j 0 - l.getD (j - 1) 0)).tdiv 2)
def Qjg (c : Nat) (l : List Int) (a : Nat) : List Int := (List.range l.length).map fun j => if j < a then Qs2 c l j else l.getD j 0
def Qa1 (c : Nat) (l : List Int) : List Int := (List.range l.length).map (Qs2 c l)
theorem JI (c : Nat) (l : List Int) (a : Nat) : (Qjg c l a).length = l.length := by simp [Qjg]
theorem Qu2 (c : Nat) (l : List Int) : Qjg c l 0 = l := Qdm (JI _ _ _) fun j hj => by
 rw [JI] at hj; rw [Qjg, Xj hj, if_neg (by omega)]
theorem Qnb (c : Nat) (l : List Int) : Qjg c l l.length = Qa1 c l := by
 simp only [Qjg, Qa1]
 apply List.map_congr_left
 intro j hj
 rw [if_pos (by simpa using hj)]
theorem Qr9 {c : Nat} {l : List Int} (h : I32 l) (j : Nat) : -2147483648 ≤ Qs2 c l j ∧ Qs2 c l j ≤ 2147483647 := by
 unfold Qs2
 split
 ·exact Jb h j
 ·split <;> exact QcC _
theorem QnF {c : Nat} {l : List Int} (h : I32 l) (a : Nat) : I32 (Qjg c l a) := by
 intro v hv
 simp only [Qjg, List.mem_map] at hv
 obtain ⟨j, _, rfl⟩ := hv
 split
 ·exact Qr9 h j
 ·exact Jb h j
theorem QoI {c : Nat} {l : List Int} (h : I32 l) : I32 (Qa1 c l) := by rw [← Qnb]; exact QnF h _
theorem QgZ (c : Nat) (l : List Int) : (Qa1 c l).length = l.length := by simp [Qa1]
theorem QtU {c : Nat} {l : List Int} {m : Nat} (hc : 1 ≤ c) (h : c * m + c ≤ l.length) : Qft (Qjg c l (c * m)) (c * m) c = Qjg c l (c * m + c) := by
 have mod : ∀ j, c * m ≤ j → j < c * m + c → j % c = j - c * m := fun j h1 h2 => by
  rw [show j = c * m + (j - c * m) by omega, Nat.mul_add_mod]
  rw [Nat.mod_eq_of_lt (by omega)]; omega
 have at' : ∀ j, j < l.length → c * m ≤ j → (Qjg c l (c * m)).getD j 0 = l.getD j 0 := fun j h1 h2 => by rw [Qjg, Xj h1, if_neg (by omega)]
 by_cases h1 : c = 1
 ·subst h1
  simp only [Qft, if_true]
  refine Qdm (by simp [JI]) fun j hj => ?_
  rw [JI] at hj
  rw [Qjg, Qjg, Xj hj, Xj hj]
  by_cases q : j < 1 * m
  ·rw [if_pos q, if_pos (by omega)]
  ·rw [if_neg q]; split
   ·simp [Qs2]
   ·rfl
 ·simp only [Qft, if_neg h1]
  refine Qdm (by simp [Qbf, JI]) fun j hj => ?_
  have hj' : j < l.length := by simpa [Qbf, JI] using hj
  rw [Qm3 (by simpa [Qbf, JI] using hj')]
  rw [Qgg, JI, Xj hj']
  conv => rhs; rw [Qjg, Xj hj']
  by_cases e : c * m + (c - 1) = j
  ·rw [if_pos e, if_pos (by omega), at' _ (by omega) (by omega), at' _ (by omega) (by omega)]
   subst e
   have := mod (c * m + (c - 1)) (by omega) (by omega)
   unfold Qs2
   rw [if_neg h1, if_neg (by rw [this]; omega), show c * m + (c - 1) - 1 = c * m + (c - 2) by omega]
  ·rw [if_neg e]
   by_cases q : c * m ≤ j ∧ j < c * m + (c - 1)
   ·rw [if_pos q, if_pos (by omega), at' _ (by omega) (by omega), at' _ (by omega) (by omega)]
    have := mod j (by omega) (by omega)
    unfold Qs2
    rw [if_neg h1, if_pos (by rw [this]; omega)]
   ·rw [if_neg q, Qjg, Xj hj']
    by_cases r : j < c * m
    ·rw [if_pos r, if_pos (by omega)]
    ·rw [if_neg r, if_neg (by omega)]
def okM (c : Nat) (l : List Int) : Prop := 1 ≤ c ∧ c ≤ 6 ∧ 0 < l.length ∧ l.length ≤ 4000 ∧ l.length % c = 0 ∧ I32 l
theorem QpJ {c : Nat} {l : List Int} (h : okM c l) : QbS c l.length = 0 := by
 obtain ⟨h1, h2, h3, h4, h5, _⟩ := h
 unfold QbS
 rw [if_neg (by omega), if_neg (by omega), if_neg (by rw [← Int.natCast_emod, h5]; simp)]
def Qi4 (P : Prg) (f : Nat) : Prop := ∀ (c : Nat) (l : List Int), okM c l → VC P f [.int .i64 c, il l] (.tup [il (Qa1 c l), .int .i64 0])
theorem Qr7 {c m q : Nat} (h : c * m < c * q) : c * m + c ≤ c * q := by
 have : m < q := Nat.lt_of_mul_lt_mul_left h
 have := Nat.mul_le_mul_left c (show m + 1 ≤ q by omega)
 rw [Nat.mul_add, Nat.mul_one] at this
 exact this
theorem QtW {P : Prg} {f fC fK fM t : Nat} (b : Qk P f 32 [.tmp 4, .tmp 5] (Qd2 fC fK fM)) (hC : Qi5 P fC) (hK : Qjc t P fK) (hM : QuE P fM) : Qi4 P f := by
 intro c l hok
 obtain ⟨h1, h2, h3, h4, h5, h6⟩ := id hok
 have hc := QpJ hok
 obtain ⟨q, hq⟩ : ∃ q, l.length = c * q := ⟨l.length / c, by have := Nat.div_add_mod l.length c; omega⟩
 refine VC.of_walk 1 (by simp [isDL, isD, ZC]) (by simp [isD, isDL, ZC]) (ACall.of_body b (by simp) ?_)
 simp (maxSteps := 4000000) (disch := omega) only [rq, simprocAttr, Qd2]
 refine Qb.vc (hC c l) ?_
 have n0 : l.length ≠ 0 := by omega
 simp (maxSteps := 4000000) (disch := omega) only [rq, simprocAttr, hc, n0]
 refine hK l [] _ h3 (by omega) ?_
 simp (maxSteps := 4000000) (disch := omega) only [rq, simprocAttr, n0]
 refine QP.by (ι := Nat) (fun m => ⟨[(8, .int .i64 (c * m : Nat)), (7, .own 0 l.length), (0, .int .i64 c)], [⟨t, 1, l.length, ks .i32 (Qjg c l (c * m)), 0⟩]⟩) (fun m => m ≤ q) (fun m => q - m) 0 (by rw [Nat.mul_zero, Qu2]; exact Le.slots (by simp [Am.look])) (by omega) ?_
 intro m hm
 by_cases hlt : c * m < l.length
 ·have hs := Qr7 (c := c) (m := m) (q := q) (by rw [← hq]; exact hlt)
  rw [← hq] at hs
  have hmq : m < q := Nat.lt_of_mul_lt_mul_left (a := c) (b := m) (c := q) (by rw [← hq]; exact hlt)
  have e0 : c * m + c - c * m = c := by omega
  have hM' := hM t (Qjg c l (c * m)) (c * m) c
  rw [JI, QtU h1 hs] at hM'
  simp (maxSteps := 4000000) (disch := omega) only [rq, simprocAttr, e0, n0]
  refine hM' _ (QnF h6 _) h1 hs (by omega) ?_
  simp (maxSteps := 4000000) (disch := omega) only [rq, simprocAttr]
  exact ⟨m + 1, by omega, by omega, by rw [show c * (m + 1) = c * m + c by rw [Nat.mul_add, Nat.mul_one]]; exact Le.slots (by simp [Am.look])⟩
 ·have e : c * m = l.length := by
   have := Nat.mul_le_mul_left c hm
   omega
  rw [e, Qnb]
  have lm := QgZ c l
  simp (maxSteps := 4000000) (disch := omega) only [rq, simprocAttr]
  simp [QS, QF, frzL, Qu, isDL, isD, il, lm, frzL_T _ (QD .i32 (Qa1 c l))]
theorem Le.drop1 {o : Ob} {xs : List Ob} {fr fr' : List (Nat × AV)} (h : isTL o.cs = true)
  (hfr : ∀ p ∈ fr', p.2 = .any ∨ QF (fun o => decide (o < 1)) (fun o => decide (1 ≤ o)) (o :: xs) 2 [look fr p.1] = some [p.2]) : Le 0 ⟨fr, o :: xs⟩ ⟨fr', [o]⟩ := by
 refine Le.drop 1 2 (by omega) rfl hfr ?_
 intro i y hy
 match i, hy with
 | 0, hy =>
  simp at hy
  subst hy
  exact ⟨o.cs, by simp, by simp only [QF]; exact frzL_T _ h⟩
 | i + 1, hy => simp at hy
def QbZ (c x : Int) (l : List Int) : Int := if QT c x ≠ 0 then 2 else if QM x l ≠ 0 then QM x l else if l.length = 0 ∨ (l.length : Int) % c ≠ 0 then 2 else 0
theorem QmC {c x : Int} {l : List Int} (h : QT c x = 2) : QbZ c x l = 2 := by simp [QbZ, h]
theorem QmD {c x : Int} {l : List Int} (h : QT c x = 0) (h2 : QM x l ≠ 0) : QbZ c x l = QM x l := by simp [QbZ, h, h2]
theorem QmB {c x : Int} {l : List Int} (h : QT c x = 0) (h2 : QM x l = 0) (h3 : l.length = 0 ∨ (l.length : Int) % c ≠ 0) : QbZ c x l = 2 := by simp only [QbZ, h, h2, if_pos h3]; simp
theorem Qq1 {c x : Int} {l : List Int} (h : QT c x = 0) (h2 : QM x l = 0) (h3 : ¬ (l.length = 0 ∨ (l.length : Int) % c ≠ 0)) : QbZ c x l = 0 := by simp only [QbZ, h, h2, if_neg h3]; simp
theorem Q0 (c x : Int) : QT c x = 2 ∨ (QT c x = 0 ∧ Xk x ≠ 0 ∧ 1 ≤ c ∧ c ≤ 6) := by unfold QT; split <;> omega
theorem Qhc (x : Int) (l : List Int) : QM x l = 2 ∨ QM x l = 4 ∨ QM x l = 16 ∨ (QM x l = 0 ∧ Xk x ≠ 0 ∧ l.length ≤ 4000) := by
 unfold QM
 by_cases h : Xk x = 0
 ·simp [h]
 by_cases h2 : 4000 < l.length
 ·simp [h, h2]
 by_cases h3 : l.all (inR x)
 ·simp [h, h2, h3]; omega
 ·simp [h, h2, h3]
theorem Qq0 {c x : Int} {l : List Int} (hI : I32 l) (h : QbZ c x l = 0) : ∃ k : Nat, c = k ∧ okM k l ∧ Xk x ≠ 0 := by
 rcases Q0 c x with h1 | ⟨h1, h2, h3, h4⟩
 ·rw [QmC h1] at h; omega
 by_cases h5 : QM x l = 0
 ·by_cases h6 : l.length = 0 ∨ (l.length : Int) % c ≠ 0
  ·rw [QmB h1 h5 h6] at h; omega
  ·obtain ⟨k, rfl⟩ : ∃ k : Nat, c = k := ⟨c.toNat, by omega⟩
   refine ⟨k, rfl, ⟨by omega, by omega, by omega, by rcases Qhc x l with h | h | h | h <;> omega, by omega, hI⟩, h2⟩
 ·rw [QmD h1 h5] at h; exact absurd h h5
def Qrc (P : Prg) (f : Nat) : Prop := ∀ (c x : Int) (l : List Int), I32 l → VC P f [shA c x, il l] (.int .i64 (QbZ c x l))
theorem Qih {P : Prg} {f fE fW t0 : Nat} (b : Qk P f 30 [.tmp 4] (Jy fE fW t0)) (hE : QdC P fE) (hW : Qdw P fW) : Qrc P f := by
 intro c x l hI
 refine VC.of_acall (by simp [isDL, isD, ZC, shA]) rfl (ACall.of_body b (by simp) ?_)
 have hE' := hE c x
 rw [shA] at hE'
 simp (maxSteps := 4000000) (disch := omega) only [rq, simprocAttr, Jy, shA]
 refine Qb.vc hE' ?_
 rcases Q0 c x with h1 | ⟨h1, h2, h3, h4⟩
 ·simp (maxSteps := 4000000) (disch := omega) only [rq, simprocAttr, h1, QmC h1]
 simp (maxSteps := 4000000) (disch := omega) only [rq, simprocAttr, h1]
 refine Qb.vc (hW x l hI) ?_
 by_cases h5 : QM x l = 0
 ·have h9 : l.length ≤ 4000 := by rcases Qhc x l with h | h | h | h <;> omega
  by_cases h6 : l.length = 0
  ·simp (maxSteps := 4000000) (disch := omega) only [rq, simprocAttr, h5, il, h6, QmB h1 h5 (.inl h6)]
  ·by_cases h7 : (l.length : Int) % c = 0
   ·have hm := QbR (n := l.length) (c := c) (by omega)
    simp (maxSteps := 4000000) (disch := omega) only [rq, simprocAttr, h5, il, h6, h7, Qq1 h1 h5 (by omega)]
   ·have hm := QbR (n := l.length) (c := c) (by omega)
    simp (maxSteps := 4000000) (disch := omega) only [rq, simprocAttr, h5, il, h6, h7, QmB h1 h5 (.inr h7)]
 ·simp (maxSteps := 4000000) (disch := omega) only [rq, simprocAttr, h5, QmD h1 h5]
def six (S : Nat → JT) : List AV := Zu (S 0) ++ (Zu (S 1) ++ (Zu (S 2) ++ (Zu (S 3) ++ (Zu (S 4) ++ Zu (S 5)))))
def okS (S : Nat → JT) : Prop := ∀ k, QbP (S k).fl
theorem Qlt {S : Nat → JT} (h : okS S) : (six S).length = 210 := by simp [six, Jc (h _)]
theorem Qv7 {k : Nat} (h : k < 6) : k = 0 ∨ k = 1 ∨ k = 2 ∨ k = 3 ∨ k = 4 ∨ k = 5 := by omega
theorem QuS {S : Nat → JT} (h : okS S) {k : Nat} (hk : k < 6) : ((six S).drop (k * 35)).take 35 = Zu (S k) := by
 have l := fun k => Jc (h k)
 rcases Qv7 hk with rfl | rfl | rfl | rfl | rfl | rfl <;> simp [six, List.drop_append, List.take_append, l, List.drop_eq_nil_of_le, QK]
def upd (S : Nat → JT) (k : Nat) (c : JT) : Nat → JT := fun j => if j = k then c else S j
theorem Qpj {S : Nat → JT} (h : okS S) {k : Nat} (hk : k < 6) (c : JT) : (six S).take (k * 35) ++ Zu c ++ (six S).drop (k * 35 + 35) = six (upd S k c) := by
 have l := fun k => Jc (h k)
 rcases Qv7 hk with rfl | rfl | rfl | rfl | rfl | rfl <;> simp [six, upd, List.drop_append, List.take_append, l, List.drop_eq_nil_of_le, QK]
theorem QpX (c : JT) : isTL (Zu c) = true := by simp [Zu, Qr, isTL, isT, QfA, QD]
theorem Qsg (S : Nat → JT) : isTL (six S) = true := by simp [six, QfA, QpX]
theorem QuB (S : Nat → JT) : (six S).all AV.one = true := by simp only [six, List.all_append, Qay, Bool.and_self]
def stC (c : Nat) (L : List Int) (z : JT) (k : Nat) : Nat → JT
 | 0 => z
 | n + 1 => QbF (stC c L z k n) (L.getD (k + n * c) 0)
def Qwb (c : Nat) (L : List Int) (z : JT) (j : Nat) : Int := Qkd (Qml (stC c L z (j % c) (j / c)) (L.getD j 0))
def Qk2 (c : Nat) (L : List Int) (z : JT) (a : Nat) : List Int := (List.range a).map (Qwb c L z)
theorem QhZ (c : Nat) (L : List Int) (z : JT) (a : Nat) : (Qk2 c L z a).length = a := by simp [Qk2]
theorem QpE (c : Nat) (L : List Int) (z : JT) (a : Nat) : Qk2 c L z a ++ [Qwb c L z a] = Qk2 c L z (a + 1) := by simp [Qk2, List.range_succ]
theorem QpG {c : Nat} {L : List Int} {z : JT} (hL : I32 L) (hz : Qs1 z) (k : Nat) : ∀ n, Qs1 (stC c L z k n)
 | 0 => hz
 | n + 1 => QlF (QpG hL hz k n) (Jb hL _)
def cnt (c k i : Nat) : Nat := if k < i % c then i / c + 1 else i / c
theorem QvS (c k : Nat) : cnt c k 0 = 0 := by simp [cnt]
theorem QsG (c i : Nat) : cnt c (i % c) i = i / c := by simp [cnt]
theorem QsF {c k i : Nat} (hk : k < c) : cnt c k (i + 1) = if k = i % c then i / c + 1 else cnt c k i := by
 have hc : 0 < c := by omega
 have hr := Nat.mod_lt i hc
 have hi := Nat.div_add_mod i c
 unfold cnt
 by_cases h : i % c + 1 < c
 ·have e1 : (i + 1) % c = i % c + 1 := by
   rw [show i + 1 = c * (i / c) + (i % c + 1) by omega, Nat.mul_add_mod, Nat.mod_eq_of_lt h]
  have e2 : (i + 1) / c = i / c := by
   rw [show i + 1 = (i % c + 1) + c * (i / c) by omega, Nat.add_mul_div_left _ _ hc, Nat.div_eq_of_lt h, Nat.zero_add]
  rw [e1, e2]
  split <;> split <;> (try split) <;> omega
 ·have e0 : i + 1 = c * (i / c + 1) := by rw [Nat.mul_add]; omega
  have e1 : (i + 1) % c = 0 := by rw [e0, Nat.mul_mod_right]
  have e2 : (i + 1) / c = i / c + 1 := by rw [e0, Nat.mul_div_cancel_left _ hc]
  rw [e1, e2]
  split <;> split <;> (try split) <;> omega
def stA (c : Nat) (L : List Int) (z : JT) (i : Nat) : Nat → JT := fun k => if k < c then stC c L z k (cnt c k i) else z
theorem QvG (c : Nat) (L : List Int) (z : JT) : stA c L z 0 = fun _ => z := by
 funext k; simp [stA, QvS, stC]
theorem QuO {c : Nat} (hc : 1 ≤ c) (L : List Int) (z : JT) (i : Nat) : stA c L z i (i % c) = stC c L z (i % c) (i / c) := by
 rw [stA, if_pos (Nat.mod_lt _ (by omega)), QsG]
theorem QrI {c : Nat} (hc : 1 ≤ c) (L : List Int) (z : JT) (i : Nat) : upd (stA c L z i) (i % c) (QbF (stC c L z (i % c) (i / c)) (L.getD i 0)) = stA c L z (i + 1) := by
 funext k
 have hr := Nat.mod_lt i (show 0 < c by omega)
 by_cases hk : k < c
 ·simp only [upd, stA, if_pos hk, QsF hk]
  by_cases e : k = i % c
  ·rw [if_pos e, if_pos e, e, stC]
   rw [show i % c + i / c * c = i by have := Nat.div_add_mod i c; rw [Nat.mul_comm]; omega]
  ·rw [if_neg e, if_neg e]
 ·simp only [upd, stA, if_neg hk]
  rw [if_neg (by omega)]
theorem QuZ {c : Nat} {L : List Int} {z : JT} (hL : I32 L) (hz : Qs1 z) (i : Nat) : okS (stA c L z i) := fun k => by
 unfold stA; split
 ·exact (QpG hL hz k _).2.2.1
 ·exact hz.2.2.1
def Qtt (l : List Int) : AV := .list l.length (ks .u32 l)
theorem Qsh (l : List Int) : isD (Qtt l) = true := by simp [Qtt, isD, QG]
theorem Le.dropT (os : List Ob) {xs : List Ob} {fr fr' : List (Nat × AV)} (h : ∀ o ∈ os, isTL o.cs = true)
  (hfr : ∀ p ∈ fr', p.2 = .any ∨ QF (fun o => decide (o < os.length)) (fun o => decide (os.length ≤ o)) (os ++ xs) 2 [look fr p.1] = some [p.2]) : Le 0 ⟨fr, os ++ xs⟩ ⟨fr', os⟩ := by
 refine Le.drop os.length 2 (by omega) rfl hfr ?_
 intro i y hy
 have hi : i < os.length := by
  rcases Nat.lt_or_ge i os.length with h | h
  ·exact h
  ·rw [List.getElem?_eq_none h] at hy; cases hy
 refine ⟨y.cs, by rw [List.getElem?_append_left hi]; exact hy, ?_⟩
 simp only [QF]
 exact frzL_T _ (h y (List.mem_of_getElem? hy))
def Qrz (c x : Int) (t l : List Int) : AV := if QbZ c x l ≠ 0 then .tup [.list 0 [], .int .i64 (QbZ c x l)] else .tup [Qtt (Qk2 c.toNat (Qa1 c.toNat l) (QdP x t) l.length), .int .i64 0]
theorem Qt0 (c x : Int) (t l : List Int) : isD (Qrz c x t l) = true := by unfold Qrz; split <;> simp [isD, isDL, Qsh]
def QmP (P : Prg) (f : Nat) : Prop := ∀ (c x : Int) (t l : List Int), t.length = 16 → I32 t → I32 l → VC P f [shA c x, .agg (ks .i32 t), il l] (Qrz c x t l)
theorem Qh2 : QbP QcU.fl := ⟨by simp [QcU, Qji, z16], by simp [QcU, Qji, z16], fun x hx => by simp [QcU, Qji, z16] at hx; omega, fun x hx => by simp [QcU, Qji, z16] at hx; omega⟩
def Qrq (z : JT) (i : Nat) : Nat → JT := fun k => if k < i then z else QcU
theorem Qu1 (z : JT) : Qrq z 0 = fun _ => QcU := by funext k; simp [Qrq]
theorem QpM (z : JT) (i : Nat) : upd (Qrq z i) i z = Qrq z (i + 1) := by
 funext k
 simp only [upd, Qrq]
 split <;> split <;> (try split) <;> first | rfl | omega
theorem QtQ {z : JT} (h : QbP z.fl) (i : Nat) : okS (Qrq z i) := fun k => by
 unfold Qrq; split
 ·exact h
 ·exact Qh2
theorem QvH (z : JT) : six (Qrq z 6) = six (fun _ => z) := by simp [six, Qrq]
theorem QtR {x : Int} (hx : Xk x ≠ 0) {t : List Int} (hl : t.length = 16) (hI : I32 t) : Qs1 (QdP x t) := ⟨hx, rfl, QpI hl hI, by simp [QdP]⟩
set_option maxRecDepth 20000 in
theorem Qgv {P : Prg} {f fA fM fN fF fO t0 t1 t2 t3 t4 : Nat} (b : Qk P f 83 [.tmp 6, .tmp 7] (X8 fA fM fN fF fO t0 t1 t2 t3 t4)) (hA : Qrc P fA) (hM : Qi4 P fM) (hN : Qrd P fN) (hF : Qd7 P fF) (hO : Qq9 P fO) : QmP P f := by
 intro c x t l hl hI hL
 have hk : (ks .i32 t).length = 16 := by simp [Qh, hl]
 have ot := J4 .i32 t
 have tt : (ks .i32 t).take 16 = ks .i32 t := QK (by omega)
 refine VC.of_walk 1 (by simp [isDL, isD, ZC, QG, shA]) (Qt0 _ _ _ _) (ACall.of_body b (by simp) ?_)
 have hA' := hA c x l hL
 rw [shA] at hA'
 unfold X8
 rw [show ([.int .i64 0, .int .i32 0, .int .i64 0, .int .i32 0, .int .i32 0, .int .i32 0, .int .i32 0, .int .i32 0, .int .i32 0, .int .i32 0, .int .i32 0, .int .i32 0, .int .i32 0, .int .i32 0, .int .i32 0, .int .i32 0, .int .i32 0, .int .i32 0, .int .i32 0, .int .i32 0, .int .i32 0, .int .i32 0, .int .i32 0, .int .i32 0, .int .i32 0, .int .i32 0, .int .i32 0, .int .i32 0, .int .i32 0, .int .i32 0, .int .i32 0, .int .i32 0, .int .i32 0, .int .i32 0, .int .i32 0, .int .i64 0, .int .i32 0, .int .i64 0, .int .i32 0, .int .i32 0, .int .i32 0, .int .i32 0, .int .i32 0, .int .i32 0, .int .i32 0, .int .i32 0, .int .i32 0, .int .i32 0, .int .i32 0, .int .i32 0, .int .i32 0, .int .i32 0, .int .i32 0, .int .i32 0, .int .i32 0, .int .i32 0, .int .i32 0, .int .i32 0, .int .i32 0, .int .i32 0, .int .i32 0, .int .i32 0, .int .i32 0, .int .i32 0, .int .i32 0, .int .i32 0, .int .i32 0, .int .i32 0, .int .i32 0, .int .i32 0, .int .i64 0, .int .i32 0, .int .i64 0, .int .i32 0, .int .i32 0, .int .i32 0, .int .i32 0, .int .i32 0, .int .i32 0, .int .i32 0, .int .i32 0, .int .i32 0, .int .i32 0, .int .i32 0, .int .i32 0, .int .i32 0, .int .i32 0, .int .i32 0, .int .i32 0, .int .i32 0, .int .i32 0, .int .i32 0, .int .i32 0, .int .i32 0, .int .i32 0, .int .i32 0, .int .i32 0, .int .i32 0, .int .i32 0, .int .i32 0, .int .i32 0, .int .i32 0, .int .i32 0, .int .i32 0, .int .i32 0, .int .i64 0, .int .i32 0, .int .i64 0, .int .i32 0, .int .i32 0, .int .i32 0, .int .i32 0, .int .i32 0, .int .i32 0, .int .i32 0, .int .i32 0, .int .i32 0, .int .i32 0, .int .i32 0, .int .i32 0, .int .i32 0, .int .i32 0, .int .i32 0, .int .i32 0, .int .i32 0, .int .i32 0, .int .i32 0, .int .i32 0, .int .i32 0, .int .i32 0, .int .i32 0, .int .i32 0, .int .i32 0, .int .i32 0, .int .i32 0, .int .i32 0, .int .i32 0, .int .i32 0, .int .i32 0, .int .i32 0, .int .i64 0, .int .i32 0, .int .i64 0, .int .i32 0, .int .i32 0, .int .i32 0, .int .i32 0, .int .i32 0, .int .i32 0, .int .i32 0, .int .i32 0, .int .i32 0, .int .i32 0, .int .i32 0, .int .i32 0, .int .i32 0, .int .i32 0, .int .i32 0, .int .i32 0, .int .i32 0, .int .i32 0, .int .i32 0, .int .i32 0, .int .i32 0, .int .i32 0, .int .i32 0, .int .i32 0, .int .i32 0, .int .i32 0, .int .i32 0, .int .i32 0, .int .i32 0, .int .i32 0, .int .i32 0, .int .i32 0, .int .i64 0, .int .i32 0, .int .i64 0, .int .i32 0, .int .i32 0, .int .i32 0, .int .i32 0, .int .i32 0, .int .i32 0, .int .i32 0, .int .i32 0, .int .i32 0, .int .i32 0, .int .i32 0, .int .i32 0, .int .i32 0, .int .i32 0, .int .i32 0, .int .i32 0, .int .i32 0, .int .i32 0, .int .i32 0, .int .i32 0, .int .i32 0, .int .i32 0, .int .i32 0, .int .i32 0, .int .i32 0, .int .i32 0, .int .i32 0, .int .i32 0, .int .i32 0, .int .i32 0, .int .i32 0, .int .i32 0] : List AV) = six (fun _ => QcU) from rfl, ← QeI]
 simp (maxSteps := 4000000) (disch := omega) only [rq, simprocAttr, shA, hk, ot, tt]
 refine Qb.vc hA' ?_
 by_cases h0 : QbZ c x l = 0
 ·obtain ⟨k, rfl, hok, hx⟩ := Qq0 hL h0
  have hz := QtR hx hl hI
  have l0 := Qlt (S := fun _ => QcU) (fun _ => Qh2)
  have o0 := QuB (fun _ => QcU)
  simp (maxSteps := 4000000) (disch := omega) only [rq, simprocAttr, h0]
  refine Qb.vc (hM k l hok) ?_
  obtain ⟨h1, h2, h3, h4, h5, h6⟩ := id hok
  have lm := QgZ k l
  have hI2 := QoI (c := k) hL
  have tm : isTL (ks .i32 (Qa1 k l)) = true := QD _ _
  generalize hm : Qa1 k l = m at lm hI2 tm
  simp (maxSteps := 4000000) (disch := omega) only [rq, simprocAttr, l0, o0]
  refine QP.by (ι := Nat) (fun i => ⟨[(36, .int .i64 i), (11, .ref 2 1 0), (9, il m), (4, .ref 1 1 0), (3, .ref 0 1 0)], [⟨t0, 2, 1, [.int .i64 k, .int .i64 x], 0⟩, ⟨t1, 16, 1, ks .i32 t, 0⟩, ⟨t2, 210, 1, six (Qrq (QdP x t) i), 0⟩]⟩) (fun i => i ≤ 6) (fun i => 6 - i) 0 (by rw [Qu1]; exact Le.slots (by simp [Am.look])) (by omega) ?_
  intro i hi
  have oS := QtQ hz.2.2.1 i
  have lS := Qlt oS
  by_cases hlt : i < 6
  ·have e1 := Qpj oS hlt (QdP x t)
   rw [QpM] at e1
   have lc := Jc hz.2.2.1
   have oc := Qay (QdP x t)
   simp (maxSteps := 4000000) (disch := omega) only [rq, simprocAttr, hk, tt]
   refine Qb.vc (hN x t hl hI) ?_
   simp (maxSteps := 4000000) (disch := omega) only [rq, simprocAttr, Qoq, if_neg hx, lS, lc, oc, e1]
   exact ⟨i + 1, by omega, by omega, Le.slots (by simp [Am.look])⟩
  ·have : i = 6 := by omega
   subst this
   simp (maxSteps := 4000000) (disch := omega) only [rq, simprocAttr, il]
   refine QP.by (ι := Nat) (fun i => ⟨[(51, .int .i64 i), (50, .int .i64 m.length), (49, il m), (13, .own 3 i), (11, .ref 2 1 0), (3, .ref 0 1 0)], [⟨t0, 2, 1, [.int .i64 k, .int .i64 x], 0⟩, ⟨t1, 16, 1, ks .i32 t, 0⟩, ⟨t2, 210, 1, six (stA k m (QdP x t) i), 0⟩, ⟨t4, 1, i, ks .u32 (Qk2 k m (QdP x t) i), 0⟩]⟩) (fun i => i ≤ m.length) (fun i => m.length - i) 0 (by rw [QvG, ← QvH]; exact Le.trans (Le.virt 13 t4 1 (by omega) rfl) (Le.slots (by simp [Am.look, Qk2, il]))) (by omega) ?_
   intro i hi
   have lo := QhZ k m (QdP x t) i
   by_cases hlt : i < m.length
   ·have oS := QuZ hI2 hz (c := k) i
    have lS := Qlt oS
    have hr := Nat.mod_lt i (show 0 < k by omega)
    have e0 := QuS oS (k := i % k) (by omega)
    rw [QuO h1] at e0
    have e1 := Qpj oS (k := i % k) (by omega) (QbF (stC k m (QdP x t) (i % k) (i / k)) (m.getD i 0))
    rw [QrI h1] at e1
    have hok2 := QpG (c := k) hI2 hz (i % k) (i / k)
    have hok3 := QlF hok2 (Jb hI2 i)
    have hF' := hF _ (m.getD i 0) hok2 (Jb hI2 i)
    have hO' := hO (Qml (stC k m (QdP x t) (i % k) (i / k)) (m.getD i 0)) (QcC _)
    have e2 := Qfx (K := .i32) (l := m) (i := i) hlt
    have e3 : ks .u32 (Qk2 k m (QdP x t) i) ++ [.int .u32 (Qkd (Qml (stC k m (QdP x t) (i % k) (i / k)) (m.getD i 0)))] = ks .u32 (Qk2 k m (QdP x t) (i + 1)) := by rw [Qh8, ← QpE]; rfl
    have lc := Jc hok3.2.2.1
    have oc := Qay (QbF (stC k m (QdP x t) (i % k) (i / k)) (m.getD i 0))
    have tc : (Zu (QbF (stC k m (QdP x t) (i % k) (i / k)) (m.getD i 0))).take 35 = Zu (QbF (stC k m (QdP x t) (i % k) (i / k)) (m.getD i 0)) := QK (by omega)
    have lz := Jc Qh2
    have oz := Qay QcU
    have dz : (Zu QcU).drop 35 = [] := List.drop_eq_nil_of_le (by omega)
    have em : (i : Int) % k = (i % k : Nat) := by omega
    simp (maxSteps := 4000000) (disch := omega) only [rq, simprocAttr, il, e2, em, e0]
    refine Qb.vc hF' ?_
    simp (maxSteps := 4000000) (disch := omega) only [rq, simprocAttr, lz, oz, lc, oc, tc, e1, lS, dz, List.append_nil]
    refine Qb.vc hO' ?_
    simp (maxSteps := 4000000) (disch := omega) only [rq, simprocAttr, e3]
    exact ⟨i + 1, by omega, by omega, Le.dropT [_, _, _, _] (by simp [Qsg, QD, isTL, isT]) (by simp [Am.look, QF, frzL, Qu, frzL_T _ tm])⟩
   ·have : i = m.length := by omega
    subst this
    have e9 : Qrz k x t l = .tup [Qtt (Qk2 k m (QdP x t) m.length), .int .i64 0] := by simp [Qrz, h0, hm, lm]
    clear hi hlt
    have hq : ¬ (m.length : Int) < m.length := by omega
    simp (maxSteps := 4000000) (disch := omega) only [rq, simprocAttr, e9]
    simp [QS, QF, frzL, Qu, isDL, isD, Qtt, lo, frzL_T _ (QD .u32 _)]
 ·have e9 : Qrz c x t l = .tup [.list 0 [], .int .i64 (QbZ c x l)] := by simp [Qrz, h0]
  simp (maxSteps := 4000000) (disch := omega) only [rq, simprocAttr, h0, e9]
  simp [QS, QF, frzL, Qu, isDL, isD]
theorem Qpv (K : IntKind) : ∀ n : Nat, Qe [.int K 0] n = ks K (List.replicate n 0)
 | 0 => rfl
 | n + 1 => by rw [Qe, Qpv K n]; simp [ks, List.replicate_succ]
def U32 (l : List Int) : Prop := ∀ x ∈ l, 0 ≤ x ∧ x < 4294967296
def Qku (r n : Int) : AV := if r < 1 ∨ 1048576 < r then .tup [.int .i64 0, .int .i64 2] else if n < 1 ∨ 4000 < n then .tup [.int .i64 0, .int .i64 2] else if 1000 < (n + Qf r - 1) / Qf r then .tup [.int .i64 0, .int .i64 4] else .tup [.int .i64 ((n + Qf r - 1) / Qf r), .int .i64 0]
theorem Qt7 (r n : Int) : isD (Qku r n) = true := by unfold Qku; split <;> (try split) <;> (try split) <;> rfl
def Qb4 (P : Prg) (f : Nat) : Prop := ∀ r n : Int, VC P f [.int .i64 r, .int .i64 n] (Qku r n)
theorem Qh6 {P : Prg} {f fL : Nat} (b : Qk P f 32 [.tmp 4, .tmp 5] (Jw fL)) (hL : QaF P fL) : Qb4 P f := by
 intro r n
 refine VC.of_acall rfl (Qt7 _ _) (ACall.of_body b (by simp) ?_)
 have hL' := hL r
 simp (maxSteps := 4000000) (disch := omega) only [rq, simprocAttr, Jw]
 refine Qb.vc hL' ?_
 by_cases h1 : r < 1 ∨ 1048576 < r
 ·have e1 : Qdg r = .tup [.int .i64 0, .int .i64 2] := by rw [Qdg, if_pos h1]
  have e2 : Qku r n = .tup [.int .i64 0, .int .i64 2] := by rw [Qku, if_pos h1]
  simp (maxSteps := 4000000) (disch := omega) only [rq, simprocAttr, e1, e2]
 have e1 : Qdg r = .tup [.int .i64 (Qf r), .int .i64 0] := by rw [Qdg, if_neg h1]
 have p1 := ZS r
 have p2 := QeT (r := r) (by omega)
 by_cases h2 : n < 1
 ·have e2 : Qku r n = .tup [.int .i64 0, .int .i64 2] := by rw [Qku, if_neg h1, if_pos (.inl h2)]
  simp (maxSteps := 4000000) (disch := omega) only [rq, simprocAttr, e1, e2]
 by_cases h3 : 4000 < n
 ·have e2 : Qku r n = .tup [.int .i64 0, .int .i64 2] := by rw [Qku, if_neg h1, if_pos (.inr h3)]
  simp (maxSteps := 4000000) (disch := omega) only [rq, simprocAttr, e1, e2]
 have e2 : Qku r n = if 1000 < (n + Qf r - 1) / Qf r then .tup [.int .i64 0, .int .i64 4] else .tup [.int .i64 ((n + Qf r - 1) / Qf r), .int .i64 0] := by
  rw [Qku, if_neg h1, if_neg (by omega)]
 generalize Qf r = L at *
 have q0 : (n + L - 1).tdiv L = (n + L - 1) / L := Int.tdiv_eq_ediv_of_nonneg (by omega)
 have q1 : 0 ≤ (n + L - 1) / L := Int.ediv_nonneg (by omega) (by omega)
 have q2 : (n + L - 1) / L ≤ n + L - 1 := Int.ediv_le_self _ (by omega)
 generalize hq : (n + L - 1) / L = Q at *
 by_cases h4 : 1000 < Q
 ·rw [if_pos h4] at e2
  simp (maxSteps := 4000000) (disch := omega) only [rq, simprocAttr, e1, q0, hq, e2]
 ·rw [if_neg h4] at e2
  simp (maxSteps := 4000000) (disch := omega) only [rq, simprocAttr, e1, q0, hq, e2]
def Qdz (P : Prg) (f : Nat) : Prop := ∀ (c x r : Int) (l : List Int), VC P f [.agg [.int .i64 c, .int .i64 x, .int .i64 r, il l]] (shA c x)
theorem Qor {P : Prg} {f t0 t1 : Nat} (b : Qk P f 8 [.cell 2 t1] (Qbw t0 t1)) (ht : ZP P t1 = some (some 2)) : Qdz P f := by
 intro c x r l
 refine VC.of_acall (by simp [isDL, isD, ZC]) rfl (ACall.of_body b (by simp) ?_)
 simp (maxSteps := 4000000) (disch := omega) only [rq, simprocAttr, Qbw, il, ZG, ht, shA]
def Qit (r n : Int) : Int := if r < 1 ∨ 1048576 < r then 2 else if n < 1 ∨ 4000 < n then 2 else if 1000 < (n + Qf r - 1) / Qf r then 4 else 0
theorem Qns (r n : Int) : ∃ k : Int, Qku r n = .tup [.int .i64 k, .int .i64 (Qit r n)] := by
 unfold Qku Qit
 split
 ·exact ⟨_, rfl⟩
 split
 ·exact ⟨_, rfl⟩
 split
 ·exact ⟨_, rfl⟩
 ·exact ⟨_, rfl⟩
def XV (c x r n : Int) : Int := if QT c x ≠ 0 then 8 else if n < 1 then 8 else if 4000 / c < n then 8 else if Qit r n ≠ 0 then 8 else 0
def QmT (P : Prg) (f : Nat) : Prop := ∀ (c x r n : Int) (l : List Int), VC P f [.agg [.int .i64 c, .int .i64 x, .int .i64 r, il l], .int .i64 n] (.int .i64 (XV c x r n))
theorem QqG {P : Prg} {f fS fE fC t0 : Nat} (b : Qk P f 31 [.tmp 4] (Qb2 fS fE fC t0)) (hS : Qdz P fS) (hE : QdC P fE) (hC : Qb4 P fC) : QmT P f := by
 intro c x r n l
 refine VC.of_acall (by simp [isDL, isD, ZC]) rfl (ACall.of_body b (by simp) ?_)
 have hS' := hS c x r l
 have hE' := hE c x
 rw [shA] at hS' hE'
 rw [il] at hS'
 obtain ⟨k, ek⟩ := Qns r n
 have hC' := hC r n
 rw [ek] at hC'
 simp (maxSteps := 4000000) (disch := omega) only [rq, simprocAttr, Qb2, il]
 refine Qb.vc hS' ?_
 simp (maxSteps := 4000000) (disch := omega) only [rq, simprocAttr]
 refine Qb.vc hE' ?_
 rcases Q0 c x with h1 | ⟨h1, h2, h3, h4⟩
 ·have e9 : XV c x r n = 8 := by simp [XV, h1]
  simp (maxSteps := 4000000) (disch := omega) only [rq, simprocAttr, h1, e9]
 have q0 : (4000 : Int).tdiv c = 4000 / c := Int.tdiv_eq_ediv_of_nonneg (by omega)
 have q1 : 0 ≤ (4000 : Int) / c := Int.ediv_nonneg (by omega) (by omega)
 have q2 : (4000 : Int) / c ≤ 4000 := Int.ediv_le_self _ (by omega)
 by_cases h5 : n < 1
 ·have e9 : XV c x r n = 8 := by simp [XV, h5]
  simp (maxSteps := 4000000) (disch := omega) only [rq, simprocAttr, h1, e9]
 by_cases h6 : 4000 / c < n
 ·have e9 : XV c x r n = 8 := by simp [XV, h6]
  simp (maxSteps := 4000000) (disch := omega) only [rq, simprocAttr, h1, e9, q0]
 simp (maxSteps := 4000000) (disch := omega) only [rq, simprocAttr, h1, q0]
 refine Qb.vc hC' ?_
 by_cases h7 : Qit r n = 0
 ·have e9 : XV c x r n = 0 := by simp [XV, h1, h5, h6, h7]
  simp (maxSteps := 4000000) (disch := omega) only [rq, simprocAttr, h7, e9]
 ·have e9 : XV c x r n = 8 := by simp [XV, h7]
  simp (maxSteps := 4000000) (disch := omega) only [rq, simprocAttr, h7, e9]
def ZL (c x r : Int) (l : List Int) : Int := if c < 1 then 8 else if (l.length : Int) % c ≠ 0 then 8 else if XV c x r (l.length / c) ≠ 0 then 8 else if QM x l ≠ 0 then 8 else 0
theorem Qn9 (c x r n : Int) : XV c x r n = 8 ∨ XV c x r n = 0 := by
 unfold XV; split <;> (try split) <;> (try split) <;> (try split) <;> simp
def QbA (P : Prg) (f : Nat) : Prop := ∀ (c x r : Int) (l : List Int), I32 l → l.length ≤ 1000000 → VC P f [.agg [.int .i64 c, .int .i64 x, .int .i64 r, il l]] (.int .i64 (ZL c x r l))
theorem Qou {P : Prg} {f fH fW t0 : Nat} (b : Qk P f 33 [.tmp 2] (XM fH fW t0)) (hH : QmT P fH) (hW : Qdw P fW) : QbA P f := by
 intro c x r l hI hl
 ·refine VC.of_acall (by simp [isDL, isD, ZC]) rfl (ACall.of_body b (by simp) ?_)
  by_cases h1 : c < 1
  ·have e9 : ZL c x r l = 8 := by simp [ZL, h1]
   simp (maxSteps := 4000000) (disch := omega) only [rq, simprocAttr, XM, il, e9]
  have hm := QbR (n := l.length) (c := c) (by omega)
  have hd := QfG (n := l.length) (c := c) (by omega)
  have q0 : (l.length : Int).tdiv c = l.length / c := Int.tdiv_eq_ediv_of_nonneg (by omega)
  by_cases h2 : (l.length : Int) % c = 0
  ·have hH' := hH c x r (l.length / c) l
   have hW' := hW x l hI
   rw [il] at hH' hW'
   simp (maxSteps := 4000000) (disch := omega) only [rq, simprocAttr, XM, il, h2, q0]
   refine Q2.vc hH' ?_
   rcases Qn9 c x r (l.length / c) with h3 | h3
   ·have e9 : ZL c x r l = 8 := by simp [ZL, h3]
    simp (maxSteps := 4000000) (disch := omega) only [rq, simprocAttr, h3, e9]
   ·simp (maxSteps := 4000000) (disch := omega) only [rq, simprocAttr, h3]
    refine Qb.vc hW' ?_
    by_cases h4 : QM x l = 0
    ·have e9 : ZL c x r l = 0 := by simp [ZL, h1, h2, h3, h4]
     simp (maxSteps := 4000000) (disch := omega) only [rq, simprocAttr, h4, e9]
    ·have e9 : ZL c x r l = 8 := by simp [ZL, h4]
     simp (maxSteps := 4000000) (disch := omega) only [rq, simprocAttr, h4, e9]
  ·have e9 : ZL c x r l = 8 := by simp [ZL, h2]
   simp (maxSteps := 4000000) (disch := omega) only [rq, simprocAttr, XM, il, h2, e9]
def QiR (c x n : Int) : Int := if QT c x ≠ 0 then 2 else if n < 1 then 2 else if 4000 / c < n then 2 else 0
def Zx (L n : Nat) : List Int := List.replicate ((n - 1) / L) (L : Int) ++ [(n : Int) - ((n - 1) / L * L : Nat)]
theorem XC (L n : Nat) : (Zx L n).length = (n - 1) / L + 1 := by simp [Zx]
def QoJ (l : List Int) : AV := .list l.length (ks .i64 l)
theorem Qh9 (l : List Int) : isD (QoJ l) = true := by simp [QoJ, isD, QG]
theorem Qp1 (c x r n : Int) : XV c x r n = if QiR c x n = 0 ∧ Qit r n = 0 then 0 else 8 := by
 unfold XV QiR
 by_cases h1 : QT c x = 0 <;> by_cases h2 : n < 1 <;> by_cases h3 : 4000 / c < n <;> by_cases h4 : Qit r n = 0 <;> simp [h1, h2, h3, h4]
theorem Qnt {c x r : Int} {l : List Int} : ZL c x r l = if QbZ c x l = 0 ∧ XV c x r (l.length / c) = 0 then 0 else 8 := by
 unfold ZL QbZ
 by_cases h0 : XV c x r (l.length / c) = 0
 ·have h0' := h0
  rw [Qp1] at h0'
  have ha : QiR c x (l.length / c) = 0 := by
   by_cases h : QiR c x (l.length / c) = 0 ∧ Qit r (l.length / c) = 0
   ·exact h.1
   ·rw [if_neg h] at h0'; cases h0'
  have hE : QT c x = 0 := by
   by_cases h : QT c x = 0
   ·exact h
   ·simp [QiR, h] at ha
  have hn : ¬ (l.length : Int) / c < 1 := by
   intro h
   simp [QiR, h] at ha
  have hc : ¬ c < 1 := by
   rcases Q0 c x with h | h <;> omega
  have hl : l.length ≠ 0 := by
   intro h
   rw [h] at hn
   simp at hn
  by_cases h2 : (l.length : Int) % c = 0 <;> by_cases h3 : QM x l = 0 <;> simp [hE, hc, hl, h0, h2, h3]
 ·simp [h0]
def clA (c x r : Int) (l : List Int) : AV := .agg [.int .i64 c, .int .i64 x, .int .i64 r, il l]
def leB (n : Nat) : Nat → List UInt8
 | 0 => []
 | k + 1 => UInt8.ofNat (n % 256) :: leB (n / 256) k
theorem Qc : ∀ (k n : Nat), (leB n k).length = k
 | 0, _ => rfl
 | k + 1, n => by simp [leB, Qc k]
theorem QlL : ∀ (k n i : Nat) (h : i < k), (leB n k)[i]? = some (UInt8.ofNat (n / 256 ^ i % 256))
 | k + 1, n, 0, _ => by simp [leB]
 | k + 1, n, i + 1, h => by
  simp only [leB, List.getElem?_cons_succ]
  rw [QlL k (n / 256) i (by omega), Nat.div_div_eq_div_mul, Nat.pow_succ, Nat.mul_comm]
theorem Qdi {n k i : Nat} (h : i < k) : (leB n k).take (i + 1) = (leB n k).take i ++ [UInt8.ofNat (n / 256 ^ i % 256)] := by
 rw [List.take_add_one, QlL k n i h]
 rfl
theorem Qv8 {K : IntKind} {n k : Nat} (hk : k ≤ K.bits) : Ql false K (n : Int) (k : Int) = some (.int K ((n / 2 ^ k : Nat) : Int)) := by
 have h3 : ¬ ((k : Int) < 0) := by omega
 have h5 : min k K.bits = k := by omega
 have h6 : (n : Int).fdiv (2 ^ k) = ((n / 2 ^ k : Nat) : Int) := by
  rw [Int.fdiv_eq_ediv_of_nonneg _ (Int.pow_nonneg (by decide))]
  simp [Int.natCast_ediv, Int.natCast_pow]
 simp only [Ql, if_neg h3, Bool.false_eq_true, if_false, Int.toNat_natCast, h5, h6]
def Qq6 (P : Prg) (f : Nat) : Prop := ∀ n w : Nat, 1 ≤ w → w ≤ 8 → VC P f [.int .u64 n, .int .i64 w] (.bool (decide (w = 8) || decide (n / 2 ^ (8 * w) = 0)))
theorem QtY {P : Prg} {f : Nat} (b : Qk P f 14 [.tmp 4] Qa6) : Qq6 P f := by
 intro n w h1 h2
 refine VC.of_acall rfl rfl (ACall.of_body b (by simp) ?_)
 by_cases h8 : w = 8
 ·subst h8
  simp (maxSteps := 4000000) (disch := omega) only [rq, simprocAttr, Qa6]
 ·have e1 : (decide (w = 8)) = false := by simpa using h8
  have e2 : Ql false .u64 (n : Int) (8 * (w : Int)) = some (.int .u64 ((n / 2 ^ (8 * w) : Nat) : Int)) := by
   have := Qv8 (K := .u64) (n := n) (k := 8 * w) (by simp [IntKind.bits]; omega)
   rwa [Int.natCast_mul] at this
  have e3 : (((n / 2 ^ (8 * w) : Nat) : Int) == 0) = decide (n / 2 ^ (8 * w) = 0) := by rw [Bool.eq_iff_iff]; simp only [beq_iff_eq, decide_eq_true_eq]; omega
  have e4 : ((w : Int) = 8) = False := eq_false (by omega)
  by_cases h9 : n / 2 ^ (8 * w) = 0
  ·have e5 : (decide (n / 2 ^ (8 * w) = 0)) = true := by simpa using h9
   have e6 : (((n / 2 ^ (8 * w) : Nat) : Int) = 0) = True := eq_true (by omega)
   rw [e5]
   simp (maxSteps := 4000000) (disch := omega) only [rq, simprocAttr, Qa6, e1, e2, e4, e6]
  ·have e5 : (decide (n / 2 ^ (8 * w) = 0)) = false := by simpa using h9
   have e6 : (((n / 2 ^ (8 * w) : Nat) : Int) = 0) = False := eq_false (by omega)
   rw [e5]
   simp (maxSteps := 4000000) (disch := omega) only [rq, simprocAttr, Qa6, e1, e2, e4, e6]
def Qah (P : Prg) (f : Nat) : Prop := ∀ n w : Nat, 1 ≤ w → w ≤ 8 → n < 256 ^ w → VC P f [.int .u64 n, .int .i64 w] (.tup [bs (leB n w), .int .i64 0])
theorem Qsq {t n : Nat} {l : List UInt8} (h : n = l.length) {e : Int} : QS (fun _ => true) [⟨t, 1, n, u8 l, 0⟩] 2 [.tup [.own 0 n, .int .i64 e]] = some [.tup [bs l, .int .i64 e]] := by
 subst h
 simp only [QS, QF, frzL, Qu, Bool.false_eq_true, if_false, List.getElem?_cons_zero, and_self, if_true, frzL_T _ (Qy l), Option.map_some, bs]
theorem Qse {P : Prg} {f fF t0 : Nat} (b : Qk P f 35 [.tmp 4, .tmp 5] (Qbt fF t0)) (hF : Qq6 P fF) : Qah P f := by
 intro n w h1 h2 hn
 refine VC.of_walk 1 (by simp [isDL, isD]) (by simp [isD, isDL, Zi]) (ACall.of_body b (by simp) ?_)
 have hn8 : n < 18446744073709551616 := Nat.lt_of_lt_of_le hn (Nat.le_trans (Nat.pow_le_pow_right (by omega) h2) (by decide))
 simp (maxSteps := 4000000) (disch := omega) only [rq, simprocAttr, Qbt]
 refine Qb.vc (hF n w h1 h2) ?_
 have e0 : (decide (w = 8) || decide (n / 2 ^ (8 * w) = 0)) = true := by
  have : n / 2 ^ (8 * w) = 0 := Nat.div_eq_of_lt (by rw [Nat.pow_mul]; exact hn)
  simp [this]
 rw [e0]
 have r0 : Qe [.int .u8 0] w = u8 ([] : List UInt8) ++ List.replicate w (.int .u8 0) := by
  have : ∀ k, Qe [AV.int .u8 0] k = List.replicate k (.int .u8 0) := fun k => by
   induction k with
   | zero => rfl
   | succ k ih => simp [Qe, ih, List.replicate_succ]
  rw [this]; rfl
 simp (maxSteps := 4000000) (disch := omega) only [rq, simprocAttr, Qbt]
 rw [r0]
 refine QP.by (ι := Nat) (fun k => ⟨[(22, .int .i64 k), (21, .int .i64 w), (6, .own 0 w), (0, .int .u64 n)], [⟨t0, 1, w, u8 ((leB n w).take k) ++ List.replicate (w - k) (.int .u8 0), 0⟩]⟩) (fun k => k ≤ w) (fun k => w - k) 0 (Le.slots (by simp [Am.look])) (by omega) ?_
 intro k hk
 by_cases hlt : k < w
 ·have e2 : Ql false .u64 (n : Int) (8 * (k : Int)) = some (.int .u64 ((n / 256 ^ k : Nat) : Int)) := by
   have := Qv8 (K := .u64) (n := n) (k := 8 * k) (by simp [IntKind.bits]; omega)
   rwa [Int.natCast_mul, Nat.pow_mul] at this
  have e3 : IntKind.u8.wrap ((n / 256 ^ k : Nat) : Int) = ((UInt8.ofNat (n / 256 ^ k % 256)).toNat : Int) := by
   simp [IntKind.wrap, IntKind.signed, IntKind.bits]
  have hl : (u8 ((leB n w).take k)).length = k := by simp [QH, Qc]; omega
  have e4 : (u8 ((leB n w).take k) ++ List.replicate (w - k) (AV.int .u8 0)).take k = u8 ((leB n w).take k) := by rw [List.take_left' hl]
  have e5 : (u8 ((leB n w).take k) ++ List.replicate (w - k) (AV.int .u8 0)).drop (k + 1) = List.replicate (w - (k + 1)) (.int .u8 0) := by
   rw [List.drop_append, List.drop_of_length_le (by omega), hl]
   simp
   omega
  have e6 : u8 ((leB n w).take k) ++ [AV.int .u8 ((UInt8.ofNat (n / 256 ^ k % 256)).toNat : Int)] = u8 ((leB n w).take (k + 1)) := by
   rw [Qdi hlt, ← QcY]; rfl
  simp (maxSteps := 4000000) (disch := omega) only [rq, simprocAttr, e2, e3, hl, e4, e5, e6]
  refine ⟨k + 1, by omega, by omega, ?_⟩
  refine Le.slots ?_
  simp [Am.look]
 ·have ek : k = w := by omega
  subst ek
  have e7 : (leB n k).take k = leB n k := List.take_of_length_le (by rw [Qc]; exact Nat.le_refl _)
  have e8 : u8 (leB n k) ++ List.replicate (k - k) (AV.int .u8 0) = u8 (leB n k) := by simp
  simp (maxSteps := 4000000) (disch := omega) only [rq, simprocAttr, e7]
  rw [e8, Qsq (Qc k n).symm]
theorem QpS : ∀ (k n : Nat), n < 256 ^ k → leN (leB n k) = n
 | 0, n, h => by simp at h; subst h; rfl
 | k + 1, n, h => by
  have h1 : n / 256 < 256 ^ k := by rw [Nat.pow_succ] at h; exact Nat.div_lt_of_lt_mul (by omega)
  have h2 : (UInt8.ofNat (n % 256)).toNat = n % 256 := by simp
  simp only [leB, leN, QpS k _ h1, h2]
  omega
theorem QvD {l : List UInt8} {k : Nat} (h : k < l.length) : (u8 l).drop k = .int .u8 (l[k]).toNat :: u8 (l.drop (k + 1)) := by
 rw [QhI, List.drop_eq_getElem_cons h]; rfl
def QuP (c b r : Int) : Prop := 1 ≤ c ∧ c ≤ 6 ∧ Xk b ≠ 0 ∧ 1 ≤ r ∧ r ≤ 1048576
instance (c b r : Int) : Decidable (QuP c b r) := by unfold QuP; exact inferInstance
theorem QlT (b : Int) : Xk b ≠ 0 ↔ b = 8 ∨ b = 16 ∨ b = 24 := by
 rcases ZH b with ⟨rfl, h⟩ | ⟨rfl, h⟩ | ⟨rfl, h⟩ | ⟨h1, h2, h3, h⟩ <;> simp [h] <;> omega
theorem VC.of_vo {P : Prg} {f : FuncId} {ds : List AV} {x : Ob} (h : VO P f ds (.own 0 x.n) x) (hx : isTL x.cs = true) (hd : isDL x.cs = true) : VC P f ds (.list x.n x.cs) := by
 refine VC.of_walk 1 h.2.1 (by simp only [isD]; exact hd) (ACall.of_vo h ?_)
 simp [shr, QS, QF, frzL, Qu, frzL_T _ hx]
theorem Qd9 (x : Int) : IntKind.i32.wrap x = (x + 2147483648) % 4294967296 - 2147483648 := by
 simp only [IntKind.wrap, IntKind.bits, IntKind.signed]
 simp
 omega
theorem QjU {a c s : Nat} (h : a < 2 ^ s) (h2 : a + c * 2 ^ s < 2147483648) : IntKind.i32.wrap (BitVec.ofInt IntKind.i32.bits (a : Int) ||| BitVec.ofInt IntKind.i32.bits ((c * 2 ^ s : Nat) : Int)).toNat = ((a + c * 2 ^ s : Nat) : Int) := by
 have e1 : (BitVec.ofInt IntKind.i32.bits (a : Int) ||| BitVec.ofInt IntKind.i32.bits ((c * 2 ^ s : Nat) : Int)).toNat = a ||| c * 2 ^ s := by
  rw [BitVec.toNat_or]
  simp only [IntKind.bits, BitVec.toNat_ofInt]
  congr 1
  ·omega
  ·omega
 rw [e1, QpF h, Qao (by omega) (by omega)]
def QjE (b : Int) (s : List UInt8) : Int := if b = 8 then (leN s : Int) - 128 else if Xk b ≤ (leN s : Int) then (leN s : Int) - 2 * Xk b else leN s
def ZY (b : Int) (l : List UInt8) : List Int := (List.range (l.length / (b / 8).toNat)).map fun i => QjE b ((l.drop (i * (b / 8).toNat)).take (b / 8).toNat)
def JH (b : Int) (l : List UInt8) : AV :=
 if Xk b = 0 then .tup [.list 0 [], .int .i64 2] else if l.length % (b / 8).toNat ≠ 0 then .tup [.list 0 [], .int .i64 12] else if 4000 < l.length / (b / 8).toNat then .tup [.list 0 [], .int .i64 4] else .tup [il (ZY b l), .int .i64 0]
theorem Qj3 (b : Int) (l : List UInt8) : isD (JH b l) = true := by
 unfold JH; split <;> (try split) <;> (try split) <;> simp [isD, isDL, ZC]
theorem XT (b : Int) (l : List UInt8) : (ZY b l).length = l.length / (b / 8).toNat := by simp [ZY]
theorem QrM {b : Int} {l : List UInt8} {i : Nat} (h : i < (ZY b l).length) : (ZY b l)[i] = QjE b ((l.drop (i * (b / 8).toNat)).take (b / 8).toNat) := by simp [ZY]
theorem Qfg {b : Int} {l : List UInt8} {i : Nat} (h : i < l.length / (b / 8).toNat) : (ZY b l).take (i + 1) = (ZY b l).take i ++ [QjE b ((l.drop (i * (b / 8).toNat)).take (b / 8).toNat)] := by
 rw [List.take_succ_eq_append_getElem (by rw [XT]; exact h), QrM]
theorem Qwo {l : List UInt8} {a : Nat} (h : a < l.length) : leN ((l.drop a).take 1) = l[a].toNat := by
 rw [List.drop_eq_getElem_cons h]; simp only [List.take_succ_cons, List.take_zero, leN]; omega
theorem Qwn {l : List UInt8} {a : Nat} (h : a + 1 < l.length) : leN ((l.drop a).take 2) = l[a].toNat + l[a + 1].toNat * 256 := by
 rw [List.drop_eq_getElem_cons (by omega), List.drop_eq_getElem_cons (by omega)]; simp only [List.take_succ_cons, List.take_zero, leN]; omega
theorem Qwm {l : List UInt8} {a : Nat} (h : a + 2 < l.length) : leN ((l.drop a).take 3) = l[a].toNat + l[a + 1].toNat * 256 + l[a + 2].toNat * 65536 := by
 have e : l[a + 2] = l[a + 1 + 1]'h := rfl
 rw [e, List.drop_eq_getElem_cons (by omega), List.drop_eq_getElem_cons (by omega), List.drop_eq_getElem_cons (by omega)]; simp only [List.take_succ_cons, List.take_zero, leN]; omega
def QdA (P : Prg) (f : Nat) : Prop := ∀ (b : Int) (l : List UInt8), l.length < 4611686018427387904 → VC P f [.int .i64 b, bs l] (JH b l)
theorem QuV {n : Nat} (h : n < 65536) : (IntKind.i32.wrap ((n : Int) * 65536)).fdiv 65536 = QjE 16 [] + (if 32768 ≤ (n : Int) then (n : Int) - 65536 else n) := by
 have : QjE 16 [] = 0 := by decide
 rw [this, Int.fdiv_eq_ediv_of_nonneg _ (by omega), Qd9]
 split <;> omega
theorem QuU {n : Nat} (h : n < 16777216) : (IntKind.i32.wrap ((n : Int) * 256)).fdiv 256 = QjE 24 [] + (if 8388608 ≤ (n : Int) then (n : Int) - 16777216 else n) := by
 have : QjE 24 [] = 0 := by decide
 rw [this, Int.fdiv_eq_ediv_of_nonneg _ (by omega), Qd9]
 split <;> omega
theorem QsX {s : List UInt8} : QjE 16 s = if 32768 ≤ (leN s : Int) then (leN s : Int) - 65536 else leN s := by simp [QjE, Xk]
theorem QsW {s : List UInt8} : QjE 24 s = if 8388608 ≤ (leN s : Int) then (leN s : Int) - 16777216 else leN s := by simp [QjE, Xk]
theorem QuR {s : List UInt8} : QjE 8 s = (leN s : Int) - 128 := by simp [QjE]
set_option maxRecDepth 20000 in
set_option maxHeartbeats 2000000 in
theorem Qhl {P : Prg} {f fR t0 : Nat} (bd : Qk P f 81 [.tmp 4, .tmp 5] (Za fR t0)) (hR : Qf1 P fR) : QdA P f := by
 intro b l hl
 refine VC.of_walk 1 (by simp [isDL, isD, Zi]) (Qj3 _ _) (ACall.of_body bd (by simp) ?_)
 have hR' := hR b
 rcases ZH b with ⟨rfl, h⟩ | ⟨rfl, h⟩ | ⟨rfl, h⟩ | ⟨h1, h2, h3, h⟩
 case inr.inr.inr =>
  simp only [Jj, if_pos h] at hR'
  simp only [JH, if_pos h]
  simp (maxSteps := 4000000) (disch := omega) only [rq, simprocAttr, Za, bs]
  refine Qb.vc hR' ?_
  simp (maxSteps := 4000000) (disch := omega) only [rq, simprocAttr]
  simp [QS, QF, frzL, Qu]
 ·simp only [Jj, h] at hR'
  rw [if_neg (by omega)] at hR'
  have hw : ((8 : Int) / 8).toNat = 1 := rfl
  simp only [JH, hw, h]
  rw [if_neg (by omega), if_neg (by omega)]
  have hL := XT 8 l
  have hT := fun i => @Qfg 8 l i
  rw [hw] at hL hT
  generalize hS : ZY 8 l = S at *
  simp (maxSteps := 4000000) (disch := omega) only [rq, simprocAttr, Za, bs]
  refine Qb.vc hR' ?_
  by_cases h4 : 4000 < l.length
  ·rw [if_pos (by omega)]
   simp (maxSteps := 4000000) (disch := omega) only [rq, simprocAttr]
   simp [QS, QF, frzL, Qu]
  rw [if_neg (by omega)]
  simp (maxSteps := 4000000) (disch := omega) only [rq, simprocAttr]
  refine QP.by (ι := Nat) (fun k => ⟨[(11, .int .i64 k), (10, .own 0 k), (9, .int .i64 1), (0, .int .i64 8), (1, .list l.length (u8 l))], [⟨t0, 1, k, ks .i32 (S.take k), 0⟩]⟩) (fun k => k ≤ l.length) (fun k => l.length - k) 0 (Le.trans (Le.virt 10 t0 1 (by omega) rfl) (Le.slots (by simp [Am.look]))) (by omega) ?_
  intro k hk
  have lk : (ks .i32 (S.take k)).length = k := by rw [Qh, List.length_take]; omega
  by_cases hlt : k < l.length
  ·have e1 := QdV hlt
   have e2 := hT k (by omega)
   have b0 := l[k].toNat_lt
   rw [QuR, Nat.mul_one, Qwo hlt] at e2
   simp (maxSteps := 4000000) (disch := omega) only [rq, simprocAttr, e1, lk, Qh8]
   rw [← e2]
   exact ⟨k + 1, by omega, by omega, Le.drop1 (QD _ _) (by simp [Am.look, QF, frzL, Qu, frzL_T _ (Qy _)])⟩
  ·have ek : k = l.length := by omega
   subst ek
   have tS : S.take l.length = S := List.take_of_length_le (by omega)
   simp (maxSteps := 4000000) (disch := omega) only [rq, simprocAttr]
   rw [tS]
   simp [QS, QF, frzL, Qu, frzL_T _ (QD _ _), il, hL]
 ·simp only [Jj, h] at hR'
  rw [if_neg (by omega)] at hR'
  have hw : ((16 : Int) / 8).toNat = 2 := rfl
  simp only [JH, hw, h]
  rw [if_neg (by omega)]
  have hL := XT 16 l
  have hT := fun i => @Qfg 16 l i
  rw [hw] at hL hT
  generalize hS : ZY 16 l = S at *
  have m1 : (l.length : Int).tmod 2 = ((l.length % 2 : Nat) : Int) := by rw [Int.tmod_eq_emod_of_nonneg (by omega)]; omega
  have m2 : (l.length : Int).tdiv 2 = ((l.length / 2 : Nat) : Int) := by rw [Int.tdiv_eq_ediv_of_nonneg (by omega)]; omega
  simp (maxSteps := 4000000) (disch := omega) only [rq, simprocAttr, Za, bs]
  refine Qb.vc hR' ?_
  by_cases h3 : l.length % 2 ≠ 0
  ·rw [if_pos h3]
   simp (maxSteps := 4000000) (disch := omega) only [rq, simprocAttr, m1]
   simp [QS, QF, frzL, Qu]
  rw [if_neg h3]
  have h3' : l.length % 2 = 0 := by omega
  by_cases h4 : 4000 < l.length / 2
  ·rw [if_pos h4]
   simp (maxSteps := 4000000) (disch := omega) only [rq, simprocAttr, m1, m2]
   simp [QS, QF, frzL, Qu]
  rw [if_neg h4]
  simp (maxSteps := 4000000) (disch := omega) only [rq, simprocAttr, m1, m2]
  refine QP.by (ι := Nat) (fun k => ⟨[(11, .int .i64 ((k * 2 : Nat) : Int)), (10, .own 0 k), (9, .int .i64 2), (0, .int .i64 16), (1, .list l.length (u8 l))], [⟨t0, 1, k, ks .i32 (S.take k), 0⟩]⟩) (fun k => k ≤ l.length / 2) (fun k => l.length / 2 - k) 0 (Le.trans (Le.virt 10 t0 1 (by omega) rfl) (Le.slots (by simp [Am.look]))) (by omega) ?_
  intro k hk
  have lk : (ks .i32 (S.take k)).length = k := by rw [Qh, List.length_take]; omega
  by_cases hlt : k < l.length / 2
  ·have eT := hT k hlt
   have g : k * 2 + 2 ≤ l.length := by omega
   rw [QsX, Qwn (by omega)] at eT
   have e0 := QdV (l := l) (k := k * 2 + 0) (by omega)
   have b0 := (l[k * 2 + 0]).toNat_lt
   have e1 := QdV (l := l) (k := k * 2 + 1) (by omega)
   have b1 := (l[k * 2 + 1]).toNat_lt
   simp only [Nat.add_zero] at e0 b0
   generalize l[k * 2] = y0 at *
   generalize l[k * 2 + 1] = y1 at *
   generalize hat : k * 2 = at_ at *
   obtain ⟨X, hX⟩ : ∃ X, X = y0.toNat + y1.toNat * 256 := ⟨_, rfl⟩
   rw [← hX] at eT
   simp (maxSteps := 4000000) (disch := omega) only [rq, simprocAttr]
   refine QP.by (ι := Nat) (fun j => ⟨[(54, .int .i64 j), (53, .int .i64 2), (12, .int .i32 (match j with | 0 => 0 | 1 => (y0.toNat : Int) | _ => (X : Int))), (11, .int .i64 (at_ : Int)), (10, .own 0 k), (9, .int .i64 2), (0, .int .i64 16), (1, .list l.length (u8 l))], [⟨t0, 1, k, ks .i32 (S.take k), 0⟩]⟩) (fun j => j ≤ 2) (fun j => 2 - j) 0 (Le.slots (by simp [Am.look])) (by omega) ?_
   intro j hj
   have o1 := @QjU y0.toNat y1.toNat 8 (by omega) (by omega)
   rw [show y1.toNat * 2 ^ 8 = y1.toNat * 256 by rfl, ← hX] at o1
   generalize hq1 : y1.toNat * 256 = q1 at *
   have o0 : IntKind.i32.wrap (BitVec.ofInt IntKind.i32.bits 0 ||| BitVec.ofInt IntKind.i32.bits (y0.toNat : Int)).toNat = (y0.toNat : Int) := by
    have := @QjU 0 y0.toNat 0 (by omega) (by omega)
    simpa using this
   have s0 : Ql true .i32 (y0.toNat : Int) 0 = some (.int .i32 (y0.toNat : Int)) := by simp [Ql]; rw [Qao] <;> omega
   have s1 : Ql true .i32 (y1.toNat : Int) 8 = some (.int .i32 (q1 : Int)) := by simp [Ql, IntKind.bits]; rw [Qao] <;> omega
   have hj3 : j = 0 ∨ j = 1 ∨ j = 2 := by omega
   rcases hj3 with rfl | rfl | rfl
   ·simp (maxSteps := 4000000) (disch := omega) only [rq, simprocAttr, e0, o0, s0]
    exact ⟨1, by omega, by omega, Le.slots (by simp [Am.look])⟩
   ·simp (maxSteps := 4000000) (disch := omega) only [rq, simprocAttr, e1, o1, s1]
    exact ⟨2, by omega, by omega, Le.slots (by simp [Am.look])⟩
   ·have z1 : ∀ x : Int, Ql true .i32 x 16 = some (.int .i32 (IntKind.i32.wrap (x * 65536))) := fun x => rfl
    have z2 : ∀ x : Int, Ql false .i32 x 16 = some (.int .i32 (x.fdiv 65536)) := fun x => rfl
    have z3 := QuV (n := X) (by omega)
    rw [show QjE 16 [] = 0 by decide, Int.zero_add] at z3
    rw [← z3] at eT
    have z4 : (IntKind.i32.wrap ((X : Int) * 65536)).fdiv 65536 ≤ 2147483647 := by rw [z3]; split <;> omega
    have z5 : -2147483648 ≤ (IntKind.i32.wrap ((X : Int) * 65536)).fdiv 65536 := by rw [z3]; split <;> omega
    simp (maxSteps := 4000000) (disch := omega) only [rq, simprocAttr, z1, z2, lk, Qh8]
    rw [← eT, ← hat]
    exact ⟨k + 1, by omega, by omega, Le.drop1 (QD _ _) (by simp [Am.look, QF, frzL, Qu, frzL_T _ (Qy _)]; try omega)⟩
  ·have ek : k = l.length / 2 := by omega
   subst ek
   have tS : S.take (l.length / 2) = S := List.take_of_length_le (by omega)
   have tw : l.length / 2 * 2 = l.length := by omega
   rw [tS, tw]
   simp (maxSteps := 4000000) (disch := omega) only [rq, simprocAttr]
   simp [QS, QF, frzL, Qu, frzL_T _ (QD _ _), il, hL]
 ·simp only [Jj, h] at hR'
  rw [if_neg (by omega)] at hR'
  have hw : ((24 : Int) / 8).toNat = 3 := rfl
  simp only [JH, hw, h]
  rw [if_neg (by omega)]
  have hL := XT 24 l
  have hT := fun i => @Qfg 24 l i
  rw [hw] at hL hT
  generalize hS : ZY 24 l = S at *
  have m1 : (l.length : Int).tmod 3 = ((l.length % 3 : Nat) : Int) := by rw [Int.tmod_eq_emod_of_nonneg (by omega)]; omega
  have m2 : (l.length : Int).tdiv 3 = ((l.length / 3 : Nat) : Int) := by rw [Int.tdiv_eq_ediv_of_nonneg (by omega)]; omega
  simp (maxSteps := 4000000) (disch := omega) only [rq, simprocAttr, Za, bs]
  refine Qb.vc hR' ?_
  by_cases h3 : l.length % 3 ≠ 0
  ·rw [if_pos h3]
   simp (maxSteps := 4000000) (disch := omega) only [rq, simprocAttr, m1]
   simp [QS, QF, frzL, Qu]
  rw [if_neg h3]
  have h3' : l.length % 3 = 0 := by omega
  by_cases h4 : 4000 < l.length / 3
  ·rw [if_pos h4]
   simp (maxSteps := 4000000) (disch := omega) only [rq, simprocAttr, m1, m2]
   simp [QS, QF, frzL, Qu]
  rw [if_neg h4]
  simp (maxSteps := 4000000) (disch := omega) only [rq, simprocAttr, m1, m2]
  refine QP.by (ι := Nat) (fun k => ⟨[(11, .int .i64 ((k * 3 : Nat) : Int)), (10, .own 0 k), (9, .int .i64 3), (0, .int .i64 24), (1, .list l.length (u8 l))], [⟨t0, 1, k, ks .i32 (S.take k), 0⟩]⟩) (fun k => k ≤ l.length / 3) (fun k => l.length / 3 - k) 0 (Le.trans (Le.virt 10 t0 1 (by omega) rfl) (Le.slots (by simp [Am.look]))) (by omega) ?_
  intro k hk
  have lk : (ks .i32 (S.take k)).length = k := by rw [Qh, List.length_take]; omega
  by_cases hlt : k < l.length / 3
  ·have eT := hT k hlt
   have g : k * 3 + 3 ≤ l.length := by omega
   rw [QsW, Qwm (by omega)] at eT
   have e0 := QdV (l := l) (k := k * 3 + 0) (by omega)
   have b0 := (l[k * 3 + 0]).toNat_lt
   have e1 := QdV (l := l) (k := k * 3 + 1) (by omega)
   have b1 := (l[k * 3 + 1]).toNat_lt
   have e2 := QdV (l := l) (k := k * 3 + 2) (by omega)
   have b2 := (l[k * 3 + 2]).toNat_lt
   simp only [Nat.add_zero] at e0 b0
   generalize l[k * 3] = y0 at *
   generalize l[k * 3 + 1] = y1 at *
   generalize l[k * 3 + 2] = y2 at *
   generalize hat : k * 3 = at_ at *
   obtain ⟨X, hX⟩ : ∃ X, X = y0.toNat + y1.toNat * 256 := ⟨_, rfl⟩
   rw [← hX] at eT
   obtain ⟨Y, hY⟩ : ∃ Y, Y = X + y2.toNat * 65536 := ⟨_, rfl⟩
   rw [← hY] at eT
   simp (maxSteps := 4000000) (disch := omega) only [rq, simprocAttr]
   refine QP.by (ι := Nat) (fun j => ⟨[(54, .int .i64 j), (53, .int .i64 3), (12, .int .i32 (match j with | 0 => 0 | 1 => (y0.toNat : Int) | 2 => (X : Int) | _ => (Y : Int))), (11, .int .i64 (at_ : Int)), (10, .own 0 k), (9, .int .i64 3), (0, .int .i64 24), (1, .list l.length (u8 l))], [⟨t0, 1, k, ks .i32 (S.take k), 0⟩]⟩) (fun j => j ≤ 3) (fun j => 3 - j) 0 (Le.slots (by simp [Am.look])) (by omega) ?_
   intro j hj
   have o1 := @QjU y0.toNat y1.toNat 8 (by omega) (by omega)
   rw [show y1.toNat * 2 ^ 8 = y1.toNat * 256 by rfl, ← hX] at o1
   have o2 := @QjU X y2.toNat 16 (by omega) (by omega)
   rw [show y2.toNat * 2 ^ 16 = y2.toNat * 65536 by rfl, ← hY] at o2
   generalize hq2 : y2.toNat * 65536 = q2 at *
   generalize hq1 : y1.toNat * 256 = q1 at *
   have o0 : IntKind.i32.wrap (BitVec.ofInt IntKind.i32.bits 0 ||| BitVec.ofInt IntKind.i32.bits (y0.toNat : Int)).toNat = (y0.toNat : Int) := by
    have := @QjU 0 y0.toNat 0 (by omega) (by omega)
    simpa using this
   have s0 : Ql true .i32 (y0.toNat : Int) 0 = some (.int .i32 (y0.toNat : Int)) := by simp [Ql]; rw [Qao] <;> omega
   have s1 : Ql true .i32 (y1.toNat : Int) 8 = some (.int .i32 (q1 : Int)) := by simp [Ql, IntKind.bits]; rw [Qao] <;> omega
   have s2 : Ql true .i32 (y2.toNat : Int) 16 = some (.int .i32 (q2 : Int)) := by simp [Ql, IntKind.bits]; rw [Qao] <;> omega
   have hj3 : j = 0 ∨ j = 1 ∨ j = 2 ∨ j = 3 := by omega
   rcases hj3 with rfl | rfl | rfl | rfl
   ·simp (maxSteps := 4000000) (disch := omega) only [rq, simprocAttr, e0, o0, s0]
    exact ⟨1, by omega, by omega, Le.slots (by simp [Am.look])⟩
   ·simp (maxSteps := 4000000) (disch := omega) only [rq, simprocAttr, e1, o1, s1]
    exact ⟨2, by omega, by omega, Le.slots (by simp [Am.look])⟩
   ·simp (maxSteps := 4000000) (disch := omega) only [rq, simprocAttr, e2, o2, s2]
    exact ⟨3, by omega, by omega, Le.slots (by simp [Am.look])⟩
   ·have z1 : ∀ x : Int, Ql true .i32 x 8 = some (.int .i32 (IntKind.i32.wrap (x * 256))) := fun x => rfl
    have z2 : ∀ x : Int, Ql false .i32 x 8 = some (.int .i32 (x.fdiv 256)) := fun x => rfl
    have z3 := QuU (n := Y) (by omega)
    rw [show QjE 24 [] = 0 by decide, Int.zero_add] at z3
    rw [← z3] at eT
    have z4 : (IntKind.i32.wrap ((Y : Int) * 256)).fdiv 256 ≤ 2147483647 := by rw [z3]; split <;> omega
    have z5 : -2147483648 ≤ (IntKind.i32.wrap ((Y : Int) * 256)).fdiv 256 := by rw [z3]; split <;> omega
    simp (maxSteps := 4000000) (disch := omega) only [rq, simprocAttr, z1, z2, lk, Qh8]
    rw [← eT, ← hat]
    exact ⟨k + 1, by omega, by omega, Le.drop1 (QD _ _) (by simp [Am.look, QF, frzL, Qu, frzL_T _ (Qy _)]; try omega)⟩
  ·have ek : k = l.length / 3 := by omega
   subst ek
   have tS : S.take (l.length / 3) = S := List.take_of_length_le (by omega)
   have tw : l.length / 3 * 3 = l.length := by omega
   rw [tS, tw]
   simp (maxSteps := 4000000) (disch := omega) only [rq, simprocAttr]
   simp [QS, QF, frzL, Qu, frzL_T _ (QD _ _), il, hL]
theorem QnS {x : Int} (hx : Xk x ≠ 0) {s : List UInt8} (hs : s.length = (x / 8).toNat) : -Xk x ≤ QjE x s ∧ QjE x s < Xk x := by
 have h1 := Qs4 s
 rw [hs] at h1
 rcases ZH x with ⟨rfl, h⟩ | ⟨rfl, h⟩ | ⟨rfl, h⟩ | ⟨_, _, _, h⟩
 ·have e : (2 : Nat) ^ (8 * ((8 : Int) / 8).toNat) = 256 := by decide
  rw [e] at h1
  rw [QuR, h]; omega
 ·have e : (2 : Nat) ^ (8 * ((16 : Int) / 8).toNat) = 65536 := by decide
  rw [e] at h1
  rw [QsX, h]; split <;> omega
 ·have e : (2 : Nat) ^ (8 * ((24 : Int) / 8).toNat) = 16777216 := by decide
  rw [e] at h1
  rw [QsW, h]; split <;> omega
 ·exact absurd h hx
theorem QdI {x : Int} (hx : Xk x ≠ 0) (l : List UInt8) : ∀ y ∈ ZY x l, -Xk x ≤ y ∧ y < Xk x := by
 intro y hy
 simp only [ZY, List.mem_map, List.mem_range] at hy
 obtain ⟨i, hi, rfl⟩ := hy
 refine QnS hx ?_
 generalize (x / 8).toNat = w at *
 have h0 : 0 < w := by
  rcases Nat.eq_zero_or_pos w with h | h
  ·subst h; simp at hi
  ·exact h
 have : (i + 1) * w ≤ l.length := Nat.le_trans (Nat.mul_le_mul_right w (by omega : i + 1 ≤ l.length / w)) (Nat.div_mul_le_self _ _)
 rw [Nat.add_mul, Nat.one_mul] at this
 rw [List.length_take, List.length_drop]
 omega
theorem QhM {x : Int} (hx : Xk x ≠ 0) (l : List UInt8) : I32 (ZY x l) := by
 intro y hy
 have h1 := QdI hx l y hy
 rcases ZH x with ⟨_, h⟩ | ⟨_, h⟩ | ⟨_, h⟩ | ⟨_, _, _, h⟩ <;> omega
theorem Qcj {w n : Nat} (h : n < 2 ^ w) : BitVec.ofInt w (n : Int) = BitVec.ofNat w n := by
 apply BitVec.eq_of_toNat_eq
 rw [BitVec.toNat_ofInt, BitVec.toNat_ofNat]
 omega
theorem QeJ {K : IntKind} (hs : K.signed = false) {n : Nat} (h : n < 2 ^ K.bits) : K.wrap (n : Int) = n := by
 have h1 : (n : Int) % 2 ^ K.bits = n := by
  rw [Int.emod_eq_of_lt (by omega)]
  exact_mod_cast h
 unfold IntKind.wrap
 simp [hs, h1]
theorem Qrw {K : IntKind} (hs : K.signed = false) {a b : Nat} (ha : a < 2 ^ K.bits) (hb : b < 2 ^ K.bits) : K.wrap (BitVec.ofInt K.bits (a : Int) ^^^ BitVec.ofInt K.bits (b : Int)).toNat = ((a ^^^ b : Nat) : Int) := by
 rw [Qcj ha, Qcj hb, BitVec.toNat_xor, BitVec.toNat_ofNat, BitVec.toNat_ofNat, Nat.mod_eq_of_lt ha, Nat.mod_eq_of_lt hb]
 exact QeJ hs (Nat.xor_lt_two_pow ha hb)
theorem Qv1 {K : IntKind} (hs : K.signed = false) {a b : Nat} (ha : a < 2 ^ K.bits) (hb : b < 2 ^ K.bits) : K.wrap (BitVec.ofInt K.bits (a : Int) &&& BitVec.ofInt K.bits (b : Int)).toNat = ((a &&& b : Nat) : Int) := by
 rw [Qcj ha, Qcj hb, BitVec.toNat_and, BitVec.toNat_ofNat, BitVec.toNat_ofNat, Nat.mod_eq_of_lt ha, Nat.mod_eq_of_lt hb]
 exact QeJ hs (Nat.and_lt_two_pow _ hb)
theorem orK {K : IntKind} (hs : K.signed = false) {a b : Nat} (ha : a < 2 ^ K.bits) (hb : b < 2 ^ K.bits) : K.wrap (BitVec.ofInt K.bits (a : Int) ||| BitVec.ofInt K.bits (b : Int)).toNat = ((a ||| b : Nat) : Int) := by
 rw [Qcj ha, Qcj hb, BitVec.toNat_or, BitVec.toNat_ofNat, BitVec.toNat_ofNat, Nat.mod_eq_of_lt ha, Nat.mod_eq_of_lt hb]
 exact QeJ hs (Nat.or_lt_two_pow ha hb)
theorem Qlu {K : IntKind} {n k : Nat} (hk : k ≤ K.bits) : Ql false K (n : Int) (k : Int) = some (.int K ((n / 2 ^ k : Nat) : Int)) := by
 have h3 : ¬ ((k : Int) < 0) := by omega
 have h5 : min k K.bits = k := by omega
 have h6 : (n : Int).fdiv (2 ^ k) = ((n / 2 ^ k : Nat) : Int) := by
  rw [Int.fdiv_eq_ediv_of_nonneg _ (Int.pow_nonneg (by decide))]
  simp [Int.natCast_ediv, Int.natCast_pow]
 simp only [Ql, if_neg h3, Bool.false_eq_true, if_false, Int.toNat_natCast, h5, h6]
theorem Qro {K : IntKind} (hs : K.signed = false) {c s : Nat} (h : s ≤ K.bits) (h2 : c * 2 ^ s < 2 ^ K.bits) : Ql true K (c : Int) (s : Int) = some (.int K ((c * 2 ^ s : Nat) : Int)) := by
 have h3 : ¬ ((s : Int) < 0) := by omega
 have h5 : min s K.bits = s := by omega
 have h6 : (c : Int) * 2 ^ s = ((c * 2 ^ s : Nat) : Int) := by simp
 simp only [Ql, if_neg h3, if_true, Int.toNat_natCast, h5, h6]
 rw [QeJ hs h2]
def QsD (c : Nat) : Nat := (c / 2) ^^^ (if c % 2 = 1 then 3988292384 else 0)
def Qe0 : Nat → Nat → Nat
 | 0, c => c
 | k + 1, c => Qe0 k (QsD c)
theorem Qus {c : Nat} (h : c < 4294967296) : QsD c < 4294967296 := by
 unfold QsD
 have : (if c % 2 = 1 then 3988292384 else 0) < 2 ^ 32 := by split <;> decide
 exact Nat.xor_lt_two_pow (n := 32) (by omega) this
theorem Qis : ∀ (k : Nat) {c : Nat}, c < 4294967296 → Qe0 k c < 4294967296
 | 0, _, h => h
 | k + 1, _, h => Qis k (Qus h)
theorem Qkr : ∀ (k c : Nat), Qe0 (k + 1) c = QsD (Qe0 k c)
 | 0, _ => rfl
 | k + 1, c => by rw [Qe0, Qkr k, Qe0]
theorem QsC (x h : Nat) : QsD (x ^^^ 2 * h) = QsD x ^^^ h := by
 have e1 : (x ^^^ 2 * h) % 2 = x % 2 := by
  have := Nat.xor_mod_two_pow (a := x) (b := 2 * h) (n := 1)
  simpa using this
 have e2 : (x ^^^ 2 * h) / 2 = x / 2 ^^^ h := by rw [Nat.xor_div_two, Nat.mul_div_cancel_left _ (by omega)]
 unfold QsD
 rw [e1, e2, Nat.xor_assoc, Nat.xor_assoc, Nat.xor_comm h]
theorem Qnp : ∀ (k x h : Nat), Qe0 k (x ^^^ 2 ^ k * h) = Qe0 k x ^^^ h
 | 0, x, h => by simp [Qe0]
 | k + 1, x, h => by
  rw [Qe0, Nat.pow_succ, Nat.mul_comm (2 ^ k) 2, Nat.mul_assoc, QsC, Qnp k, Qe0]
theorem Qjj (b k : Nat) : b = b % 2 ^ k ^^^ 2 ^ k * (b / 2 ^ k) := by
 apply Nat.eq_of_testBit_eq
 intro i
 rw [Nat.testBit_xor, Nat.testBit_mod_two_pow, Nat.testBit_two_pow_mul, Nat.testBit_div_two_pow]
 by_cases h : i < k
 ·have : ¬ k ≤ i := by omega
  simp [h, this]
 ·have h' : k ≤ i := by omega
  simp [h, h', show i - k + k = i by omega]
def Qvc (s b : Nat) : Nat := Qe0 8 (s ^^^ b)
theorem Qom (s b : Nat) : Qvc s b = s / 256 ^^^ Qe0 8 (s % 256 ^^^ b) := by
 have h : s ^^^ b = (s % 256 ^^^ b) ^^^ 2 ^ 8 * (s / 256) := by
  have := Qjj s 8
  rw [show (2 : Nat) ^ 8 = 256 from rfl] at this ⊢
  rw [Nat.xor_assoc, Nat.xor_comm b, ← Nat.xor_assoc, ← this]
 rw [Qvc, h, Qnp, Nat.xor_comm]
theorem Qut {s b : Nat} (hs : s < 4294967296) (hb : b < 256) : Qvc s b < 4294967296 := Qis 8 (Nat.xor_lt_two_pow (n := 32) (by omega) (by omega))
def QoK (s : Nat) (l : List UInt8) : Nat := l.foldl (fun s b => Qvc s b.toNat) s
theorem Qqz {s : Nat} {l : List UInt8} {k : Nat} (h : k < l.length) : QoK s (l.take (k + 1)) = Qvc (QoK s (l.take k)) (l[k]).toNat := by
 rw [List.take_succ_eq_append_getElem h, QoK, List.foldl_append]; rfl
theorem Qmc : ∀ {l : List UInt8} {s : Nat}, s < 4294967296 → QoK s l < 4294967296
 | [], _, h => h
 | b :: l, s, h => Qmc (l := l) (Qut h (UInt8.toNat_lt b))
def QjC (i : Nat) : List Int := (List.range 256).map fun j => if j < i then ((Qe0 8 j : Nat) : Int) else 0
theorem Xo (i : Nat) : (QjC i).length = 256 := by simp [QjC]
theorem QeM {i j : Nat} (h : j < 256) : (QjC i)[j]'(by rw [Xo]; exact h) = if j < i then ((Qe0 8 j : Nat) : Int) else 0 := by simp [QjC]
theorem QrD {i : Nat} (h : i < 256) : (QjC i).set i ((Qe0 8 i : Nat) : Int) = QjC (i + 1) := by
 refine List.ext_getElem (by simp [Xo]) fun j h1 h2 => ?_
 have hj : j < 256 := by simpa [Xo] using h2
 rw [List.getElem_set, QeM hj]
 split
 ·rename_i e; subst e; rw [QeM hj, if_pos (by omega)]
 ·rename_i e; rw [QeM hj]
  by_cases h3 : j < i
  ·rw [if_pos h3, if_pos (by omega)]
  ·rw [if_neg h3, if_neg (by omega)]
def QmG (P : Prg) (f : Nat) : Prop := VC P f [] (.cell (ks .u32 (QjC 256)))
theorem Qeg {l : List UInt8} {k : Nat} (h : k < l.length) : (u8 l).drop k = .int .u8 (l[k]).toNat :: u8 (l.drop (k + 1)) := by
 rw [QhI, List.drop_eq_getElem_cons h]; rfl
set_option maxRecDepth 40000 in
theorem Qme {P : Prg} {f t0 : Nat} (bd : Qk P f 24 [.tmp 0] (QaU t0)) : QmG P f := by
 refine VC.of_walk 1 rfl (by simp [isD, QpY (QD _ _)]) (ACall.of_body bd (by simp) ?_)
 unfold QaU
 have z0 : ([.int .u32 0, .int .u32 0] : List AV) = [.int .u32 0, .int .u32 0] := rfl
 simp (maxSteps := 4000000) (disch := omega) only [rq, simprocAttr]
 refine QP.by (ι := Nat) (fun i => ⟨[(5, .int .i64 i), (1, .ref 0 1 0)], [⟨t0, 256, 1, ks .u32 (QjC i), 0⟩]⟩) (fun i => i ≤ 256) (fun i => 256 - i) 0 (Le.slots (by simp [Am.look])) (by omega) ?_
 intro i hi
 by_cases hlt : i < 256
 ·simp (maxSteps := 4000000) (disch := omega) only [rq, simprocAttr]
  refine QP.by (ι := Nat) (fun j => ⟨[(10, .int .i64 j), (3, .int .u32 (Qe0 j i)), (5, .int .i64 i), (2, .int .i64 i), (1, .ref 0 1 0)], [⟨t0, 256, 1, ks .u32 (QjC i), 0⟩]⟩) (fun j => j ≤ 8) (fun j => 8 - j) 0 (Le.slots (by simp [Am.look, Qe0])) (by omega) ?_
  intro j hj
  by_cases hjl : j < 8
  ·have hc := Qis j (c := i) (by omega)
   have hn := Qkr j i
   generalize Qe0 j i = c at *
   have a1 : IntKind.u32.wrap (BitVec.ofInt IntKind.u32.bits (c : Int) &&& BitVec.ofInt IntKind.u32.bits 1).toNat = ((c % 2 : Nat) : Int) := by
    have h := Qv1 (K := .u32) rfl (a := c) (b := 1) (by exact hc) (by decide)
    rw [Nat.and_one_is_mod] at h
    exact h
   have a2 : Ql false .u32 (c : Int) 1 = some (.int .u32 ((c / 2 : Nat) : Int)) := Qlu (K := .u32) (n := c) (k := 1) (by decide)
   rcases Nat.mod_two_eq_zero_or_one c with h2 | h2
   ·have a3 : IntKind.u32.wrap (BitVec.ofInt IntKind.u32.bits ((c / 2 : Nat) : Int) ^^^ BitVec.ofInt IntKind.u32.bits 0).toNat = ((Qe0 (j + 1) i : Nat) : Int) := by
     rw [hn, QsD, h2, if_neg (by decide)]
     exact Qrw (K := .u32) rfl (a := c / 2) (b := 0) (by show c / 2 < 4294967296; omega) (by decide)
    have a1' : IntKind.u32.wrap (BitVec.ofInt IntKind.u32.bits (c : Int) &&& BitVec.ofInt IntKind.u32.bits 1).toNat = 0 := by rw [a1, h2]; rfl
    simp (maxSteps := 4000000) (disch := omega) only [rq, simprocAttr, a1', a2, a3]
    exact ⟨j + 1, by omega, by omega, Le.slots (by simp [Am.look])⟩
   ·have a3 : IntKind.u32.wrap (BitVec.ofInt IntKind.u32.bits ((c / 2 : Nat) : Int) ^^^ BitVec.ofInt IntKind.u32.bits 3988292384).toNat = ((Qe0 (j + 1) i : Nat) : Int) := by
     rw [hn, QsD, h2, if_pos rfl]
     exact Qrw (K := .u32) rfl (a := c / 2) (b := 3988292384) (by show c / 2 < 4294967296; omega) (by decide)
    have a1' : IntKind.u32.wrap (BitVec.ofInt IntKind.u32.bits (c : Int) &&& BitVec.ofInt IntKind.u32.bits 1).toNat = 1 := by rw [a1, h2]; rfl
    simp (maxSteps := 4000000) (disch := omega) only [rq, simprocAttr, a1', a2, a3]
    exact ⟨j + 1, by omega, by omega, Le.slots (by simp [Am.look])⟩
  ·obtain rfl : j = 8 := by omega
   have e1 := Xo i
   have e2 := Qh .u32 (QjC i)
   have e3 : (ks .u32 (QjC i)).take i ++ [.int .u32 (Qe0 8 i)] ++ (ks .u32 (QjC i)).drop (i + 1) = ks .u32 (QjC (i + 1)) := by
    rw [← QrD hlt, List.set_eq_take_append_cons_drop, if_pos (by rw [Xo]; exact hlt)]; simp [ks, List.map_take, List.map_drop]
   simp (maxSteps := 4000000) (disch := omega) only [rq, simprocAttr, e1, e2, e3]
   exact ⟨i + 1, by omega, by omega, Le.slots (by simp [Am.look])⟩
 ·obtain rfl : i = 256 := by omega
  simp (maxSteps := 4000000) (disch := omega) only [rq, simprocAttr]
  simp [QS, QF, frzL, Qu, frzL_T _ (QD _ _)]
def QmS (P : Prg) (f : Nat) : Prop := ∀ (s : Nat) (l : List UInt8), s < 4294967296 → VC P f [.int .u32 s, bs l] (if 100000 < l.length then .tup [.int .u32 0, .int .i64 4] else .tup [.int .u32 (QoK s l), .int .i64 0])
set_option maxRecDepth 40000 in
theorem Qoo {P : Prg} {f fT : Nat} (bd : Qk P f 32 [.tmp 4, .tmp 5] (JP fT)) (hT : QmG P fT) : QmS P f := by
 intro s l hs
 refine VC.of_acall (by simp [isDL, isD, Zi]) (by split <;> rfl) (ACall.of_body bd (by simp) ?_)
 by_cases hl : 100000 < l.length
 ·rw [if_pos hl]
  simp (maxSteps := 4000000) (disch := omega) only [rq, simprocAttr, JP, bs]
 ·rw [if_neg hl]
  have hT' := hT
  have t0 := Qh .u32 (QjC 256)
  rw [Xo] at t0
  simp (maxSteps := 4000000) (disch := omega) only [rq, simprocAttr, JP, bs]
  refine Qb.vc hT' ?_
  simp (maxSteps := 4000000) (disch := omega) only [rq, simprocAttr]
  refine QP.by (ι := Nat) (fun k => ⟨[(15, .int .i64 k), (14, .int .i64 l.length), (13, .list l.length (u8 l)), (6, .cell (ks .u32 (QjC 256))), (0, .int .u32 (QoK s (l.take k)))], []⟩) (fun k => k ≤ l.length) (fun k => l.length - k) 0 (Le.slots (by simp [Am.look, QoK])) (by omega) ?_
  intro k hk
  have hc := Qmc (l := l.take k) hs
  by_cases hlt : k < l.length
  ·have e1 := Qeg hlt
   have hn := Qqz (s := s) hlt
   generalize QoK s (l.take k) = c at *
   rw [Qom] at hn
   have hb := (l[k]).toNat_lt
   have h0 : (c % 256 ^^^ (l[k]).toNat) < 256 := Nat.xor_lt_two_pow (n := 8) (Nat.mod_lt _ (by decide)) hb
   have h1 := Qis 8 (c := c % 256 ^^^ (l[k]).toNat) (by omega)
   have a1 : Ql false .u32 (c : Int) 8 = some (.int .u32 ((c / 256 : Nat) : Int)) := Qlu (K := .u32) (n := c) (k := 8) (by decide)
   have a2 : IntKind.u8.wrap (c : Int) = ((c % 256 : Nat) : Int) := by rw [QcB]; omega
   have a3 : IntKind.u8.wrap (BitVec.ofInt IntKind.u8.bits ((c % 256 : Nat) : Int) ^^^ BitVec.ofInt IntKind.u8.bits ((l[k]).toNat : Int)).toNat = ((c % 256 ^^^ (l[k]).toNat : Nat) : Int) :=
    Qrw (K := .u8) rfl (a := c % 256) (b := (l[k]).toNat) (Nat.mod_lt _ (by decide)) hb
   have a4 : IntKind.u32.wrap (BitVec.ofInt IntKind.u32.bits ((c / 256 : Nat) : Int) ^^^ BitVec.ofInt IntKind.u32.bits ((Qe0 8 (c % 256 ^^^ (l[k]).toNat) : Nat) : Int)).toNat = ((QoK s (l.take (k + 1)) : Nat) : Int) := by
    rw [hn]; exact Qrw (K := .u32) rfl (by show c / 256 < 4294967296; omega) h1
   generalize c % 256 ^^^ (l[k]).toNat = x at *
   have e2 : (ks .u32 (QjC 256)).drop x = .int .u32 ((Qe0 8 x : Nat) : Int) :: ks .u32 ((QjC 256).drop (x + 1)) := by
    rw [Qbl, List.drop_eq_getElem_cons (by rw [Xo]; exact h0), Qfw, QeM h0, if_pos h0]
   simp (maxSteps := 4000000) (disch := omega) only [rq, simprocAttr, e1, a1, a2, a3, a4, e2, t0]
   exact ⟨k + 1, by omega, by omega, Le.slots (by simp [Am.look])⟩
  ·have ek : k = l.length := by omega
   subst ek
   rw [List.take_length]
   simp (maxSteps := 4000000) (disch := omega) only [rq, simprocAttr]
def Qhj (P : Prg) (f : Nat) : Prop := ∀ (l : List UInt8), VC P f [bs l] (if 100000 < l.length then .tup [.int .u32 0, .int .i64 4] else .tup [.int .u32 ((4294967295 - QoK 4294967295 l : Nat) : Int), .int .i64 0])
theorem Qtn {c : Nat} (h : c < 4294967296) : 4294967295 ^^^ c = 4294967295 - c := by
 have h1 : BitVec.allOnes 32 ^^^ BitVec.ofNat 32 c = ~~~ BitVec.ofNat 32 c := by
  apply BitVec.eq_of_getElem_eq
  intro i hi
  rw [BitVec.getElem_xor, BitVec.getElem_allOnes, BitVec.getElem_not, Bool.true_xor]
 have h2 := congrArg BitVec.toNat h1
 rw [BitVec.toNat_xor, BitVec.toNat_not, BitVec.toNat_allOnes, BitVec.toNat_ofNat, Nat.mod_eq_of_lt h] at h2
 exact h2
theorem QqB {P : Prg} {f fN : Nat} (bd : Qk P f 16 [.tmp 2, .tmp 3] (QaC fN)) (hN : QmS P fN) : Qhj P f := by
 intro l
 refine VC.of_acall (by simp [isDL, isD, Zi]) (by split <;> rfl) (ACall.of_body bd (by simp) ?_)
 have hN' := hN 4294967295 l (by decide)
 have hc := Qmc (l := l) (s := 4294967295) (by decide)
 generalize QoK 4294967295 l = c at *
 simp only [bs] at hN'
 by_cases hl : 100000 < l.length
 ·rw [if_pos hl] at hN' ⊢
  simp (maxSteps := 4000000) (disch := omega) only [rq, simprocAttr, QaC, bs]
  refine Qb.vc hN' ?_
  simp (maxSteps := 4000000) (disch := omega) only [rq, simprocAttr]
 ·rw [if_neg hl] at hN' ⊢
  have a1 : IntKind.u32.wrap (BitVec.ofInt IntKind.u32.bits IntKind.u32.max ^^^ BitVec.ofInt IntKind.u32.bits (c : Int)).toNat = ((4294967295 - c : Nat) : Int) := by
   rw [← Qtn hc]
   exact Qrw (K := .u32) rfl (a := 4294967295) (b := c) (by decide) hc
  have a2 : IntKind.u32.signed = false := rfl
  simp (maxSteps := 4000000) (disch := omega) only [rq, simprocAttr, QaC, bs]
  refine Qb.vc hN' ?_
  simp (maxSteps := 4000000) (disch := omega) only [rq, simprocAttr, a1, a2]
def nB (N : Nat) : Nat := (N + 7) / 8
theorem Qsf (V i : Nat) : leB V (i + 1) = leB V i ++ [UInt8.ofNat (V / 256 ^ i % 256)] := by
 have h1 : (leB V (i + 1)).take (i + 1) = (leB V (i + 1)).take i ++ [UInt8.ofNat (V / 256 ^ i % 256)] := Qdi (by omega)
 have h2 : ∀ k j n : Nat, k ≤ j → (leB n j).take k = leB n k := by
  intro k
  induction k with
  | zero => intro j n _; simp [leB]
  | succ k ih =>
   intro j n h
   obtain ⟨j, rfl⟩ : ∃ j', j = j' + 1 := ⟨j - 1, by omega⟩
   simp [leB, ih j (n / 256) (by omega)]
 rw [h2 (i + 1) (i + 1) V (by omega), h2 i (i + 1) V (by omega)] at h1
 exact h1
theorem QpT : ∀ (i V u : Nat), leB (V + 256 ^ i * u) i = leB V i
 | 0, _, _ => rfl
 | i + 1, V, u => by
  have e : 256 ^ (i + 1) * u = 256 * (256 ^ i * u) := by rw [Nat.pow_succ, Nat.mul_comm (256 ^ i) 256, Nat.mul_assoc]
  have e1 : (V + 256 ^ (i + 1) * u) % 256 = V % 256 := by rw [e]; omega
  have e2 : (V + 256 ^ (i + 1) * u) / 256 = V / 256 + 256 ^ i * u := by rw [e]; omega
  simp only [leB, e1, e2, QpT i]
theorem QpB (i : Nat) : (256 : Nat) ^ i = 2 ^ (8 * i) := by rw [Nat.pow_mul]
theorem QbW {V i at_ : Nat} (h : V < 2 ^ (8 * i + at_)) (ha : at_ ≤ 8) : leB V (i + 1) = leB V i ++ [UInt8.ofNat (V / 256 ^ i)] ∧ V / 256 ^ i < 2 ^ at_ := by
 have h1 : V / 256 ^ i < 2 ^ at_ := Nat.div_lt_of_lt_mul (by rw [QpB, ← Nat.pow_add]; exact h)
 have h2 : 2 ^ at_ ≤ 2 ^ 8 := Nat.pow_le_pow_right (by omega) ha
 exact ⟨by rw [Qsf, Nat.mod_eq_of_lt (by omega)], h1⟩
theorem Qcw {V i at_ w r : Nat} (h : V < 2 ^ (8 * i + at_)) (hw : w < 2 ^ r) (hr : at_ + r ≤ 8) :
  leB (V + 2 ^ (8 * i + at_) * w) (i + 1) = leB V i ++ [UInt8.ofNat (V / 256 ^ i + 2 ^ at_ * w)] ∧ V / 256 ^ i + 2 ^ at_ * w < 2 ^ (at_ + r) ∧ V + 2 ^ (8 * i + at_) * w < 2 ^ (8 * i + (at_ + r)) := by
 obtain ⟨_, h1⟩ := QbW h (by omega)
 have e : 2 ^ (8 * i + at_) * w = 256 ^ i * (2 ^ at_ * w) := by rw [QpB, Nat.pow_add, Nat.mul_assoc]
 have h2 : V / 256 ^ i + 2 ^ at_ * w < 2 ^ (at_ + r) := by
  have : 2 ^ at_ * (w + 1) ≤ 2 ^ at_ * 2 ^ r := Nat.mul_le_mul_left _ hw
  rw [Nat.pow_add]; rw [Nat.mul_add, Nat.mul_one] at this; omega
 have h3 : V + 2 ^ (8 * i + at_) * w < 2 ^ (8 * i + (at_ + r)) := by
  have : 2 ^ (8 * i + at_) * (w + 1) ≤ 2 ^ (8 * i + at_) * 2 ^ r := Nat.mul_le_mul_left _ hw
  rw [← Nat.add_assoc, Nat.pow_add 2 (8 * i + at_)]; rw [Nat.mul_add, Nat.mul_one] at this; omega
 refine ⟨?_, h2, h3⟩
 have h4 := (QbW (V := V + 2 ^ (8 * i + at_) * w) (i := i) (at_ := at_ + r) h3 hr).1
 rw [h4, e, QpT, Nat.add_mul_div_left _ _ (Nat.pow_pos (by omega))]
theorem Qvj (V q r : Nat) (hr : r < 8) : V / 256 ^ q % 256 / 2 ^ r % 2 = V / 2 ^ (8 * q + r) % 2 := by
 rw [QpB, show (256 : Nat) = 2 ^ r * 2 ^ (8 - r) by rw [← Nat.pow_add, show r + (8 - r) = 8 by omega], Nat.mod_mul_right_div_self, Nat.div_div_eq_div_mul, ← Nat.pow_add]
 rw [Nat.mod_mod_of_dvd]
 exact ⟨2 ^ (8 - r - 1), by rw [← Nat.pow_succ']; congr 1; omega⟩
def bA (N V : Nat) : AV := .agg [.list (nB N) (u8 (leB V (nB N))), .int .i64 N]
theorem Qdk (N V : Nat) : isD (bA N V) = true := by simp [bA, isD, isDL, QR]
theorem Qnz {n : Nat} (h : n < 9223372036854775808) : IntKind.i64.wrap (BitVec.ofInt IntKind.i64.bits (n : Int) &&& BitVec.ofInt IntKind.i64.bits 7).toNat = ((n % 8 : Nat) : Int) := by
 have e1 : (BitVec.ofInt 64 (n : Int)).toNat = n := by
  rw [BitVec.toNat_ofInt]
  show ((n : Int) % 18446744073709551616).toNat = n
  omega
 have e2 : (BitVec.ofInt 64 7).toNat = 7 := by decide
 have : (BitVec.ofInt 64 (n : Int) &&& BitVec.ofInt 64 7).toNat = n % 8 := by
  rw [BitVec.toNat_and, e1, e2]
  exact Nat.and_two_pow_sub_one_eq_mod n 3
 show IntKind.i64.wrap ((BitVec.ofInt 64 (n : Int) &&& BitVec.ofInt 64 7).toNat : Int) = _
 rw [this, Qa7] <;> omega
theorem QuL {l : List UInt8} {k : Nat} (h : k < l.length) : (u8 l).drop k = .int .u8 (l[k]).toNat :: u8 (l.drop (k + 1)) := by
 rw [QhI, List.drop_eq_getElem_cons h]; rfl
theorem Qs5 {V k i : Nat} (h : i < k) : (u8 (leB V k)).drop i = .int .u8 ((V / 256 ^ i % 256 : Nat) : Int) :: u8 ((leB V k).drop (i + 1)) := by
 rw [QuL (by rw [Qc]; exact h)]
 have := QlL k V i h
 rw [List.getElem?_eq_getElem (by rw [Qc]; exact h)] at this
 rw [Option.some.inj this]
 have : (UInt8.ofNat (V / 256 ^ i % 256)).toNat = V / 256 ^ i % 256 := by simp
 rw [this]
def Qck (P : Prg) (f : Nat) : Prop := ∀ N V : Nat, V < 2 ^ N → N ≤ 330000 → VC P f [bA N V] (.int .i64 0)
theorem QoB {P : Prg} {f t0 : Nat} (bd : Qk P f 40 [.tmp 2] (JQ t0)) : Qck P f := by
 intro N V hV hN
 refine VC.of_acall (by simp [isDL, Qdk]) rfl (ACall.of_body bd (by simp) ?_)
 have e1 : Ql false .i64 ((N : Int) + 7) 3 = some (.int .i64 ((nB N : Nat) : Int)) := by
  rw [show (N : Int) + 7 = ((N + 7 : Nat) : Int) by omega]
  exact Qlu (K := .i64) (n := N + 7) (k := 3) (by decide)
 have e2 := Qnz (n := N) (by omega)
 have e3 : (u8 (leB V (nB N))).length = nB N := by simp [u8, Qc]
 by_cases h0 : N % 8 = 0
 ·rw [h0] at e2
  have e2' : IntKind.i64.wrap (BitVec.ofInt IntKind.i64.bits (N : Int) &&& BitVec.ofInt IntKind.i64.bits 7).toNat = 0 := e2
  simp (maxSteps := 4000000) (disch := omega) only [rq, simprocAttr, JQ, bA, e1, e2', e3]
 ·have hn : nB N = N / 8 + 1 := by unfold nB; omega
  have h8 : N = 8 * (N / 8) + N % 8 := by omega
  obtain ⟨l1, l2⟩ := QbW (V := V) (i := N / 8) (at_ := N % 8) (by rw [← h8]; exact hV) (by omega)
  have e4 := Qs5 (V := V) (k := nB N) (i := N / 8) (by omega)
  have h256 : V / 256 ^ (N / 8) % 256 = V / 256 ^ (N / 8) := Nat.mod_eq_of_lt (by
   have : 2 ^ (N % 8) ≤ 2 ^ 8 := Nat.pow_le_pow_right (by omega) (by omega)
   omega)
  rw [h256] at e4
  have e5 : Ql false .u8 ((V / 256 ^ (N / 8) : Nat) : Int) ((N % 8 : Nat) : Int) = some (.int .u8 0) := by
   have := Qlu (K := .u8) (n := V / 256 ^ (N / 8)) (k := N % 8) (by show N % 8 ≤ 8; omega)
   rw [this, Nat.div_eq_of_lt l2]; rfl
  have e6 : nB N - 1 = N / 8 := by omega
  have hq : ((N % 8 : Nat) : Int) = (N : Int) % 8 := by omega
  generalize V / 256 ^ (N / 8) = y at *
  obtain ⟨a, ha⟩ : ∃ a, a = N % 8 := ⟨_, rfl⟩
  rw [← ha] at e2 e5 hq
  simp (maxSteps := 4000000) (disch := omega) only [rq, simprocAttr, JQ, bA, e1, e2, e3, e4, e5, e6]
structure Dl where
 k0 : Nat
 k1 : Nat
 s0 : Nat
 s1 : Nat
def dlC (d : Dl) : List AV := [.int .i64 d.k0, .int .i64 d.k1, .int .u64 d.s0, .int .u64 d.s1]
def dlA (d : Dl) : AV := .agg (dlC d)
def okD (d : Dl) : Prop := d.k0 ≤ 24 ∧ d.k1 ≤ 24 ∧ d.s0 ≤ 68719476735 ∧ d.s1 ≤ 68719476735
def QL : Dl := ⟨10, 10, 16384, 16384⟩
def QbD (k s n : Nat) : Nat × Nat :=
 if 0 < k ∧ s + n - s / 16 < 2 ^ (k + 4) then (k - 1, s + n - s / 16) else if k < 24 ∧ 2 ^ (k + 5) < s + n - s / 16 then (k + 1, s + n - s / 16) else (k, s + n - s / 16)
def JC (d : Dl) (v : Nat) : Dl :=
 if v < 2 ^ d.k0 then ⟨(QbD d.k0 d.s0 v).1, d.k1, (QbD d.k0 d.s0 v).2, d.s1⟩
 else ⟨(QbD d.k0 d.s0 v).1, (QbD d.k1 d.s1 (v - 2 ^ d.k0)).1, (QbD d.k0 d.s0 v).2, (QbD d.k1 d.s1 (v - 2 ^ d.k0)).2⟩
theorem QlE {k s n : Nat} (hk : k ≤ 24) (hs : s ≤ 68719476735) (hn : n < 4294967296) : (QbD k s n).1 ≤ 24 ∧ (QbD k s n).2 ≤ 68719476735 := by
 unfold QbD
 have ht : s + n - s / 16 ≤ 68719476735 := by omega
 generalize s + n - s / 16 = t at *
 split
 ·exact ⟨by simp only; omega, ht⟩
 ·split
  ·rename_i h; exact ⟨by have := h.1; simp only; omega, ht⟩
  ·exact ⟨hk, ht⟩
theorem Qsd {d : Dl} {v : Nat} (h : okD d) (hv : v < 4294967296) : okD (JC d v) := by
 obtain ⟨h1, h2, h3, h4⟩ := h
 have p0 := QlE h1 h3 hv
 have p1 := QlE (n := v - 2 ^ d.k0) h2 h4 (Nat.lt_of_le_of_lt (Nat.sub_le _ _) hv)
 unfold JC
 split
 ·exact ⟨p0.1, h2, p0.2, h4⟩
 ·exact ⟨p0.1, p1.1, p0.2, p1.2⟩
theorem QrH : okD QL := by unfold okD QL; decide
theorem Qp0 (d : Dl) : isD (dlA d) = true := rfl
theorem p24 {k : Nat} (h : k ≤ 24) : 2 ^ k ≤ 16777216 ∧ 2 ^ (k + 4) = 16 * 2 ^ k ∧ 2 ^ (k + 5) = 32 * 2 ^ k := by
 have := Nat.pow_le_pow_right (n := 2) (by omega) h
 refine ⟨by simpa using this, ?_, ?_⟩ <;> rw [Nat.pow_add, Nat.mul_comm]
def Qi0 (P : Prg) (f : Nat) : Prop := VC P f [] (dlA QL)
theorem Qok {P : Prg} {f t0 : Nat} (bd : Qk P f 2 [.cell 0 t0] (Qbu t0)) (ht : ZP P t0 = some (some 4)) : Qi0 P f := by
 refine VC.of_acall rfl rfl (ACall.of_body bd (by simp) ?_)
 simp (maxSteps := 4000000) (disch := omega) only [rq, simprocAttr, Qbu, ZG, ht, QU, dlA, dlC, QL]
 try rfl
def Qjb (P : Prg) (f : Nat) : Prop := ∀ d : Dl, okD d → VC P f [dlA d] (.int .i64 0)
theorem Qol {P : Prg} {f t0 : Nat} (bd : Qk P f 26 [.tmp 2] (Qbv t0)) : Qjb P f := by
 intro d h
 obtain ⟨k0, k1, s0, s1⟩ := d
 obtain ⟨h1, h2, h3, h4⟩ := h
 simp only at h1 h2 h3 h4
 refine VC.of_acall rfl rfl (ACall.of_cut 1 bd (by simp) ?_)
 simp (maxSteps := 4000000) (disch := omega) only [rq, simprocAttr, Qbv, dlA, dlC, XY]
 refine ⟨⟨[(2, .int .i64 0), (1, .cell [.int .i64 k0, .int .i64 k1, .int .u64 s0, .int .u64 s1])], []⟩, Le.dropT [] (by simp) (by simp [Am.look, QF, frzL, Qu]), ?_⟩
 simp (maxSteps := 4000000) (disch := omega) only [rq, simprocAttr]
def Qf4 (P : Prg) (f : Nat) : Prop := ∀ (d : Dl) (v : Nat), okD d → v < 4294967296 → VC P f [dlA d, .int .u32 v] (if v < 2 ^ d.k0 then .tup [.int .i64 0, .int .u32 v] else .tup [.int .i64 1, .int .u32 ((v - 2 ^ d.k0 : Nat) : Int)])
theorem Qoh {P : Prg} {f t0 : Nat} (bd : Qk P f 17 [.tmp 4, .tmp 5] (JM t0)) : Qf4 P f := by
 intro d v h hv
 obtain ⟨k0, k1, s0, s1⟩ := d
 obtain ⟨h1, h2, h3, h4⟩ := h
 simp only at h1 h2 h3 h4
 refine VC.of_acall rfl (by simp only; split <;> rfl) (ACall.of_body bd (by simp) ?_)
 have e1 : Ql false .u32 (v : Int) (k0 : Int) = some (.int .u32 ((v / 2 ^ k0 : Nat) : Int)) := Qlu (K := .u32) (by show k0 ≤ 32; omega)
 obtain ⟨q1, _⟩ := p24 h1
 have e2 : Ql true .u32 1 (k0 : Int) = some (.int .u32 ((2 ^ k0 : Nat) : Int)) := by
  have := Qro (K := .u32) rfl (c := 1) (s := k0) (by show k0 ≤ 32; omega) (by show 1 * 2 ^ k0 < 4294967296; omega)
  rw [Nat.one_mul] at this
  exact this
 simp only
 by_cases c : v < 2 ^ k0
 ·rw [if_pos c]
  rw [Nat.div_eq_of_lt c] at e1
  have e1' : Ql false .u32 (v : Int) (k0 : Int) = some (.int .u32 0) := e1
  simp (maxSteps := 4000000) (disch := omega) only [rq, simprocAttr, JM, dlA, dlC, e1']
 ·rw [if_neg c]
  have hpos : 0 < v / 2 ^ k0 := Nat.div_pos (by omega) (Nat.pow_pos (by omega))
  have hle : v / 2 ^ k0 ≤ v := Nat.div_le_self _ _
  have e3 : ((v - 2 ^ k0 : Nat) : Int) = (v : Int) - ((2 ^ k0 : Nat) : Int) := by omega
  generalize v / 2 ^ k0 = w at *
  generalize 2 ^ k0 = p at *
  simp (maxSteps := 4000000) (disch := omega) only [rq, simprocAttr, JM, dlA, dlC, e1, e2, e3]
theorem QdR {P : Prg} {f : Nat} (bd : Qk P f 58 [] Qp) {ob : List Ob} {p : Nat} {t : Nat} {d : Dl} (hp : ob[p]? = some ⟨t, 4, 1, dlC d, 0⟩) (hd : okD d) {n : Nat} (hn : n < 4294967296) (b : Bool) {K : AV → List Ob → Prop}
  (hK : K (.tup []) (ob.set p ⟨t, 4, 1, dlC (if b then ⟨d.k0, (QbD d.k1 d.s1 n).1, d.s0, (QbD d.k1 d.s1 n).2⟩ else ⟨(QbD d.k0 d.s0 n).1, d.k1, (QbD d.k0 d.s0 n).2, d.s1⟩), 0⟩)) :
  ACall P f [.ref p 1 (if b then 1 else 0), .ref p 1 (if b then 3 else 2), .int .u32 n] ob K := by
 have hpl : p < ob.length := (List.getElem?_eq_some_iff.1 hp).1
 have g1 : ∀ x, (ob.set p x)[p]? = some x := fun x => by simp [hpl]
 have g2 : ∀ x y, (ob.set p x).set p y = ob.set p y := fun x y => List.set_set _
 have key : ∀ k s : Nat, k ≤ 24 → s ≤ 68719476735 → ∃ t p4 p5 : Nat, t ≤ 68719476735 ∧ IntKind.u64.wrap ((s : Int) + IntKind.u64.wrap ((n : Int) - ((s / 16 : Nat) : Int))) = (t : Int) ∧ Ql false .u64 (s : Int) 4 = some (.int .u64 ((s / 16 : Nat) : Int)) ∧
   Ql true .u64 16 (k : Int) = some (.int .u64 (p4 : Int)) ∧ Ql true .u64 32 (k : Int) = some (.int .u64 (p5 : Int)) ∧
   Ql true .u64 16 (k : Int) = some (.int .u64 (p4 : Int)) ∧ QbD k s n = if 0 < k ∧ t < p4 then (k - 1, t) else if k < 24 ∧ p5 < t then (k + 1, t) else (k, t) := by
  intro k s hk hs
  obtain ⟨q1, q2, q3⟩ := p24 hk
  refine ⟨s + n - s / 16, 2 ^ (k + 4), 2 ^ (k + 5), by omega, ?_, Qlu (K := .u64) (k := 4) (by decide), ?_, ?_, ?_, rfl⟩
  ·rw [Xs, Xs]; omega
  ·rw [q2]; exact Qro (K := .u64) rfl (c := 16) (by show k ≤ 64; omega) (by show 16 * 2 ^ k < 18446744073709551616; omega)
  ·rw [q3]; exact Qro (K := .u64) rfl (c := 32) (by show k ≤ 64; omega) (by show 32 * 2 ^ k < 18446744073709551616; omega)
  ·rw [q2]; exact Qro (K := .u64) rfl (c := 16) (by show k ≤ 64; omega) (by show 16 * 2 ^ k < 18446744073709551616; omega)
 obtain ⟨k0, k1, s0, s1⟩ := d
 obtain ⟨h1, h2, h3, h4⟩ := hd
 simp only at h1 h2 h3 h4
 refine ACall.of_body bd (by simp) ?_
 simp only [dlC] at hp hK
 cases b with
 | false =>
  obtain ⟨u, p4, p5, hu, e1, e2, e3, e4, _, e5⟩ := key k0 s0 h1 h3
  simp only [e5, Bool.false_eq_true, if_false] at hK ⊢
  by_cases c1 : 0 < k0
  ·by_cases c2 : u < p4
   ·rw [if_pos ⟨c1, c2⟩] at hK
    have e6 : ((k0 - 1 : Nat) : Int) = (k0 : Int) - 1 := by omega
    simp only [e6] at hK
    simp (maxSteps := 4000000) (disch := omega) only [rq, simprocAttr, Qp, hp, g1, g2, e1, e2, e3, e4, e6]
    exact hK
   ·rw [if_neg (fun h => c2 h.2)] at hK
    by_cases c3 : k0 < 24
    ·by_cases c4 : p5 < u
     ·rw [if_pos ⟨c3, c4⟩] at hK
      simp only [Int.natCast_add] at hK
      simp (maxSteps := 4000000) (disch := omega) only [rq, simprocAttr, Qp, hp, g1, g2, e1, e2, e3, e4]
      exact hK
     ·rw [if_neg (fun h => c4 h.2)] at hK
      simp (maxSteps := 4000000) (disch := omega) only [rq, simprocAttr, Qp, hp, g1, g2, e1, e2, e3, e4]
      exact hK
    ·rw [if_neg (fun h => c3 h.1)] at hK
     simp (maxSteps := 4000000) (disch := omega) only [rq, simprocAttr, Qp, hp, g1, g2, e1, e2, e3, e4]
     exact hK
  ·rw [if_neg (fun h => c1 h.1)] at hK
   by_cases c4 : p5 < u
   ·rw [if_pos ⟨by omega, c4⟩] at hK
    simp only [Int.natCast_add] at hK
    simp (maxSteps := 4000000) (disch := omega) only [rq, simprocAttr, Qp, hp, g1, g2, e1, e2, e3, e4]
    exact hK
   ·rw [if_neg (fun h => c4 h.2)] at hK
    simp (maxSteps := 4000000) (disch := omega) only [rq, simprocAttr, Qp, hp, g1, g2, e1, e2, e3, e4]
    exact hK
 | true =>
  obtain ⟨u, p4, p5, hu, e1, e2, e3, e4, _, e5⟩ := key k1 s1 h2 h4
  simp only [e5, if_true] at hK ⊢
  by_cases c1 : 0 < k1
  ·by_cases c2 : u < p4
   ·rw [if_pos ⟨c1, c2⟩] at hK
    have e6 : ((k1 - 1 : Nat) : Int) = (k1 : Int) - 1 := by omega
    simp only [e6] at hK
    simp (maxSteps := 4000000) (disch := omega) only [rq, simprocAttr, Qp, hp, g1, g2, e1, e2, e3, e4, e6]
    exact hK
   ·rw [if_neg (fun h => c2 h.2)] at hK
    by_cases c3 : k1 < 24
    ·by_cases c4 : p5 < u
     ·rw [if_pos ⟨c3, c4⟩] at hK
      simp only [Int.natCast_add] at hK
      simp (maxSteps := 4000000) (disch := omega) only [rq, simprocAttr, Qp, hp, g1, g2, e1, e2, e3, e4]
      exact hK
     ·rw [if_neg (fun h => c4 h.2)] at hK
      simp (maxSteps := 4000000) (disch := omega) only [rq, simprocAttr, Qp, hp, g1, g2, e1, e2, e3, e4]
      exact hK
    ·rw [if_neg (fun h => c3 h.1)] at hK
     simp (maxSteps := 4000000) (disch := omega) only [rq, simprocAttr, Qp, hp, g1, g2, e1, e2, e3, e4]
     exact hK
  ·rw [if_neg (fun h => c1 h.1)] at hK
   by_cases c4 : p5 < u
   ·rw [if_pos ⟨by omega, c4⟩] at hK
    simp only [Int.natCast_add] at hK
    simp (maxSteps := 4000000) (disch := omega) only [rq, simprocAttr, Qp, hp, g1, g2, e1, e2, e3, e4]
    exact hK
   ·rw [if_neg (fun h => c4 h.2)] at hK
    simp (maxSteps := 4000000) (disch := omega) only [rq, simprocAttr, Qp, hp, g1, g2, e1, e2, e3, e4]
    exact hK
def bO (t o N : Nat) : Ob := ⟨t, 2, 1, [.own o (nB N), .int .i64 N], 0⟩
def bY (t N V : Nat) : Ob := ⟨t, 1, nB N, u8 (leB V (nB N)), 0⟩
theorem Qau (V n : Nat) : isDL (u8 (leB V n)) = true := QR _
theorem Low.put {ob : List Ob} (h : Low ob.length ob) {t t0 o p N V N' : Nat} (ho : o < ob.length) : Low ob.length (XR ob o p (bY t0 N V) (bO t o N')) := by
 unfold XR
 refine (h.set ?_).set ?_
 ·exact lowL_D _ (Qau _ _)
 ·simp [bO, lowL, Ja, ho]
theorem Low.drop {ob : List Ob} (h : Low ob.length ob) {t t0 o p N V : Nat} (ho : o < ob.length) {M : Nat} (hM : M ≤ ob.length) {J : List Ob} {fr fr' : List (Nat × AV)}
  (hfr : ∀ q ∈ fr', q.2 = .any ∨ (q.2 = Am.look fr q.1 ∧ Ja ob.length q.2 = true)) :
  Le M ⟨fr, XR ob o p (bY t0 N V) (bO t o N) ++ J⟩ ⟨fr', XR ob o p (bY t0 N V) (bO t o N)⟩ := by
 have hl : (XR ob o p (bY t0 N V) (bO t o N)).length = ob.length := Ze
 refine Le.low (by omega) (by rw [hl]; exact h.put ho) ?_
 rw [hl]
 exact hfr
theorem Qv9 {V N v j r : Nat} : V + 2 ^ N * (v % 2 ^ (j + r)) = V + 2 ^ N * (v % 2 ^ j) + 2 ^ (N + j) * (v / 2 ^ j % 2 ^ r) := by
 rw [Nat.pow_add, Nat.mod_mul, Nat.mul_add, Nat.pow_add, Nat.mul_assoc, Nat.add_assoc]
set_option maxHeartbeats 1000000 in
theorem QsN {P : Prg} {f t0 t : Nat} (bd : Qk P f 75 [] (Qby t0)) {ob : List Ob} {p o N V v n : Nat} (hp : ob[p]? = some (bO t o N)) (ho : ob[o]? = some (bY t0 N V)) (hpo : p ≠ o) (hV : V < 2 ^ N) (hv : v < 2 ^ n) (hn : n ≤ 64) (hN : N + n ≤ 400000) (hfz : Low ob.length ob)
  {K : AV → List Ob → Prop} (hK : K (.tup []) (XR ob o p (bY t0 (N + n) (V + 2 ^ N * v)) (bO t o (N + n)))) : ACall P f [.ref p 1 0, .int .u64 v, .int .i64 n] ob K := by
 have hol : o < ob.length := (List.getElem?_eq_some_iff.1 ho).1
 have hpl : p < ob.length := (List.getElem?_eq_some_iff.1 hp).1
 refine ACall.of_body bd (by simp) ?_
 have g0 : ∀ x y J, (XR ob o p x y ++ J)[p]? = some y := fun x y J => by rw [List.getElem?_append_left (by rw [Ze]; exact hpl)]; exact Qli hpl
 have g1 : ∀ x y J, (XR ob o p x y ++ J)[o]? = some x := fun x y J => by rw [List.getElem?_append_left (by rw [Ze]; exact hol)]; exact Qlj hol hpo
 have g2 : ∀ x y J y', (XR ob o p x y ++ J).set p y' = XR ob o p x y' ++ J := fun x y J y' => by rw [List.set_append_left _ _ (by rw [Ze]; exact hpl), QoW]
 have g3 : ∀ x y J x', (XR ob o p x y ++ J).set o x' = XR ob o p x' y ++ J := fun x y J x' => by rw [List.set_append_left _ _ (by rw [Ze]; exact hol), QoX hpo]
 have g4 : ∀ x y j, (XR ob o p x y ++ [j])[ob.length]? = some j := fun x y j => by rw [List.getElem?_append_right (by rw [Ze]; exact Nat.le_refl _), Ze, Nat.sub_self]; rfl
 have gp : ∀ x y, (XR ob o p x y)[p]? = some y := fun x y => Qli hpl
 have go : ∀ x y, (XR ob o p x y)[o]? = some x := fun x y => Qlj hol hpo
 have sp : ∀ x y y', (XR ob o p x y).set p y' = XR ob o p x y' := fun x y y' => QoW
 have so : ∀ x y x', (XR ob o p x y).set o x' = XR ob o p x' y := fun x y x' => QoX hpo
 have ln : ∀ x y, (XR ob o p x y).length = ob.length := fun x y => Ze
 simp (maxSteps := 4000000) (disch := omega) only [rq, simprocAttr, Qby]
 refine QP.by (ι := Nat) (fun j => ⟨[(2, .int .i64 ((n - j : Nat) : Int)), (1, .int .u64 ((v / 2 ^ j : Nat) : Int)), (0, .ref p 1 0)], XR ob o p (bY t0 (N + j) (V + 2 ^ N * (v % 2 ^ j))) (bO t o (N + j))⟩) (fun j => j ≤ n) (fun j => n - j) 0 ?_ (by omega) ?_
 ·have : XR ob o p (bY t0 (N + 0) (V + 2 ^ N * (v % 2 ^ 0))) (bO t o (N + 0)) = ob := by
   rw [Nat.add_zero, Nat.pow_zero, Nat.mod_one, Nat.mul_zero, Nat.add_zero]
   exact QjA ho hp hpo
  rw [this]
  exact Le.slots (by simp [Am.look])
 intro j hj
 by_cases hlt : j < n
 ·obtain ⟨M, hM⟩ : ∃ M, M = N + j := ⟨_, rfl⟩
  obtain ⟨i, hi⟩ : ∃ i, i = M / 8 := ⟨_, rfl⟩
  obtain ⟨a, ha⟩ : ∃ a, a = M % 8 := ⟨_, rfl⟩
  obtain ⟨r, hr⟩ : ∃ r, r = min (n - j) (8 - a) := ⟨_, rfl⟩
  have hM8 : M = 8 * i + a := by omega
  have hW : V + 2 ^ N * (v % 2 ^ j) < 2 ^ M := by
   have h1 : v % 2 ^ j < 2 ^ j := Nat.mod_lt _ (Nat.pow_pos (by omega))
   have h2 : 2 ^ N * (v % 2 ^ j + 1) ≤ 2 ^ N * 2 ^ j := Nat.mul_le_mul_left _ h1
   rw [hM, Nat.pow_add]; rw [Nat.mul_add, Nat.mul_one] at h2; omega
  have hstep := Qv9 (V := V) (N := N) (v := v) (j := j) (r := r)
  rw [← hM] at hstep ⊢
  have hx : v / 2 ^ j < 18446744073709551616 := by
   have h1 : v / 2 ^ j ≤ v := Nat.div_le_self _ _
   have h2 : 2 ^ n ≤ 2 ^ 64 := Nat.pow_le_pow_right (by omega) hn
   omega
  have hxr : v / 2 ^ (j + r) = v / 2 ^ j / 2 ^ r := by rw [Nat.pow_add, Nat.div_div_eq_div_mul]
  generalize V + 2 ^ N * (v % 2 ^ j) = W at *
  generalize hWW : V + 2 ^ N * (v % 2 ^ (j + r)) = W' at *
  generalize hxx : v / 2 ^ j = x at *
  have h2r : 2 ^ r ≤ 2 ^ 8 := Nat.pow_le_pow_right (by omega) (by omega)
  have h2a : 2 ^ a * 2 ^ r ≤ 2 ^ 8 := by rw [← Nat.pow_add]; exact Nat.pow_le_pow_right (by omega) (by omega)
  have hpos : 0 < 2 ^ r := Nat.pow_pos (by omega)
  have hc : x % 2 ^ r < 2 ^ r := Nat.mod_lt _ hpos
  obtain ⟨l1, l2⟩ := QbW (V := W) (i := i) (at_ := a) (by rw [← hM8]; exact hW) (by omega)
  obtain ⟨b1, b2, _⟩ := Qcw (V := W) (i := i) (at_ := a) (w := x % 2 ^ r) (r := r) (by rw [← hM8]; exact hW) hc (by omega)
  rw [← hM8, ← hstep] at b1
  have hyb : W / 256 ^ i < 256 := by
   have : 2 ^ a ≤ 2 ^ 8 := Nat.pow_le_pow_right (by omega) (by omega)
   omega
  have hyb2 : W / 256 ^ i + 2 ^ a * (x % 2 ^ r) < 256 := by
   have : 2 ^ (a + r) ≤ 2 ^ 8 := Nat.pow_le_pow_right (by omega) (by omega)
   omega
  have hca : x % 2 ^ r * 2 ^ a < 2 ^ 8 := by
   rw [Nat.mul_comm]
   exact Nat.lt_of_lt_of_le (Nat.mul_lt_mul_of_pos_left hc (Nat.pow_pos (by omega))) h2a
  have hu : ∀ y, y < 256 → u8 [UInt8.ofNat y] = [.int .u8 (y : Int)] := fun y hy => by simp [u8]; omega
  have e8 : IntKind.u8.wrap (BitVec.ofInt IntKind.u8.bits ((W / 256 ^ i : Nat) : Int) ||| BitVec.ofInt IntKind.u8.bits ((x % 2 ^ r * 2 ^ a : Nat) : Int)).toNat = ((W / 256 ^ i + 2 ^ a * (x % 2 ^ r) : Nat) : Int) := by
   rw [orK (K := .u8) rfl hyb hca, QpF l2, Nat.mul_comm]
  have e7 : Ql true .u8 ((x % 2 ^ r : Nat) : Int) (a : Int) = some (.int .u8 ((x % 2 ^ r * 2 ^ a : Nat) : Int)) := Qro rfl (by show a ≤ 8; omega) hca
  have e6 : IntKind.u8.wrap ((x % 2 ^ r : Nat) : Int) = ((x % 2 ^ r : Nat) : Int) := by rw [QcB]; omega
  have e5 : IntKind.u64.wrap (BitVec.ofInt IntKind.u64.bits (x : Int) &&& BitVec.ofInt IntKind.u64.bits ((2 ^ r - 1 : Nat) : Int)).toNat = ((x % 2 ^ r : Nat) : Int) := by
   rw [Qq4 _ _ hx (by omega), Nat.and_two_pow_sub_one_eq_mod]
  have e4 : IntKind.u64.wrap (((2 ^ r : Nat) : Int) - 1) = ((2 ^ r - 1 : Nat) : Int) := by rw [Xs]; omega
  have e3 : Ql true .u64 1 (r : Int) = some (.int .u64 ((2 ^ r : Nat) : Int)) := by
   have := Qro (K := .u64) rfl (c := 1) (s := r) (by show r ≤ 64; omega) (by show 1 * 2 ^ r < 18446744073709551616; omega)
   rw [Nat.one_mul] at this
   exact this
  have e9 : Ql false .u64 (x : Int) (r : Int) = some (.int .u64 ((x / 2 ^ r : Nat) : Int)) := Qlu (K := .u64) (by show r ≤ 64; omega)
  have e1 := Qnz (n := M) (by omega)
  rw [← ha] at e1
  have e2 : (if (8 : Int) - a < ((n - j : Nat) : Int) then (8 : Int) - a else ((n - j : Nat) : Int)) = (r : Int) := by split <;> omega
  have hnB : nB (M + r) = i + 1 := by unfold nB; omega
  have hcell : u8 (leB W' (i + 1)) = u8 (leB W i) ++ [.int .u8 ((W / 256 ^ i + 2 ^ a * (x % 2 ^ r) : Nat) : Int)] := by
   rw [b1, show u8 (leB W i ++ [UInt8.ofNat (W / 256 ^ i + 2 ^ a * (x % 2 ^ r))]) = u8 (leB W i) ++ u8 [UInt8.ofNat (W / 256 ^ i + 2 ^ a * (x % 2 ^ r))] by simp [u8]]
   rw [hu _ hyb2]
  have hlen : (u8 (leB W i)).length = i := by simp [u8, Qc]
  rw [← hxr] at e9
  generalize W / 256 ^ i + 2 ^ a * (x % 2 ^ r) = y' at *
  generalize x % 2 ^ r * 2 ^ a = ca at *
  generalize x % 2 ^ r = c at *
  generalize 2 ^ r - 1 = mk at *
  generalize 2 ^ r = pr at *
  have d1 : ∀ z : AV, (u8 (leB W i) ++ [z]).drop i = [z] := fun z => by rw [List.drop_left' hlen]
  have d2 : ∀ z : AV, (u8 (leB W i) ++ [z]).take i = u8 (leB W i) := fun z => by rw [List.take_left' hlen]
  have d3 : ∀ z : AV, (u8 (leB W i) ++ [z]).drop (i + 1) = [] := fun z => List.drop_of_length_le (by simp [hlen])
  have jr : n - j - r = n - (j + r) := by omega
  have el : (⟨t0, 1, i + 1, u8 (leB W i) ++ [.int .u8 (y' : Int)], 0⟩ : Ob) = bY t0 (M + r) W' := by rw [bY, hnB, hcell]
  have er : (⟨t, 2, 1, [.own o (i + 1), .int .i64 ((M : Int) + r)], 0⟩ : Ob) = bO t o (M + r) := by rw [bO, hnB, Int.natCast_add]
  have hMr : N + (j + r) = M + r := by omega
  have e10 : ((n - j : Nat) : Int) - r = ((n - (j + r) : Nat) : Int) := by omega
  have e11 : (M : Int) + r = ((M + r : Nat) : Int) := by omega
  by_cases h0 : a = 0
  ·subst h0
   have hnM : nB M = i := by unfold nB; omega
   have hW0 : W / 256 ^ i = 0 := by
    have := l2
    rw [Nat.pow_zero] at this
    exact Nat.lt_one_iff.1 this
   rw [hW0] at e8
   have e8' : IntKind.u8.wrap (BitVec.ofInt IntKind.u8.bits 0 ||| BitVec.ofInt IntKind.u8.bits (ca : Int)).toNat = (y' : Int) := e8
   have e1' : IntKind.i64.wrap (BitVec.ofInt IntKind.i64.bits (M : Int) &&& BitVec.ofInt IntKind.i64.bits 7).toNat = 0 := e1
   have e2' : (if (8 : Int) < ((n - j : Nat) : Int) then (8 : Int) else ((n - j : Nat) : Int)) = (r : Int) := by split <;> omega
   have e12 : i + 1 - 1 = i := by omega
   have e7' : Ql true .u8 (c : Int) 0 = some (.int .u8 (ca : Int)) := e7
   have e13 : (i : Int) + 1 - 1 = i := by omega
   simp (maxSteps := 4000000) (disch := omega) only [rq, simprocAttr, e2', e12, e13, bO, bY, gp, go, sp, so, ln, g0, g1, g2, g3, g4, hnM, hlen, e1', e2, e3, e4, e5, e6, e7', e8', e9, d1, d2, d3]
   refine ⟨j + r, by omega, by omega, ?_⟩
   show Le ob.length _ ⟨[(2, .int .i64 ((n - (j + r) : Nat) : Int)), (1, .int .u64 ((v / 2 ^ (j + r) : Nat) : Int)), (0, .ref p 1 0)], XR ob o p (bY t0 (N + (j + r)) (V + 2 ^ N * (v % 2 ^ (j + r)))) (bO t o (N + (j + r)))⟩
   rw [hWW, hMr, el, er]
   exact hfz.drop hol (Nat.le_refl _) (by simp [Am.look, Ja, hpl, e10])
  ·have hnM : nB M = i + 1 := by unfold nB; omega
   have l3 : u8 (leB W (i + 1)) = u8 (leB W i) ++ [.int .u8 ((W / 256 ^ i : Nat) : Int)] := by
    rw [l1, show u8 (leB W i ++ [UInt8.ofNat (W / 256 ^ i)]) = u8 (leB W i) ++ u8 [UInt8.ofNat (W / 256 ^ i)] by simp [u8], hu _ hyb]
   have e12 : i + 1 - 1 = i := by omega
   have e13 : (i : Int) + 1 - 1 = i := by omega
   have ha0 : (a : Int) ≠ 0 := by omega
   generalize W / 256 ^ i = y at *
   simp (maxSteps := 4000000) (disch := omega) only [rq, simprocAttr, e12, e13, bO, bY, gp, go, sp, so, ln, hnM, hlen, l3, e1, e2, e3, e4, e5, e6, e7, e8, e9, d1, d2, d3]
   refine ⟨j + r, by omega, by omega, ?_⟩
   show Le ob.length _ ⟨[(2, .int .i64 ((n - (j + r) : Nat) : Int)), (1, .int .u64 ((v / 2 ^ (j + r) : Nat) : Int)), (0, .ref p 1 0)], XR ob o p (bY t0 (N + (j + r)) (V + 2 ^ N * (v % 2 ^ (j + r)))) (bO t o (N + (j + r)))⟩
   rw [hWW, hMr, el, er]
   exact Le.slots (by simp [Am.look, e10])
 ·obtain rfl : j = n := by omega
  rw [Nat.mod_eq_of_lt hv]
  simp (maxSteps := 4000000) (disch := omega) only [rq, simprocAttr]
  exact hK
theorem Qoi {P : Prg} {f f1 fL t : Nat} (bd : Qk P f 36 [] (XI f1 fL)) (b1 : Qk P f1 58 [] Qp) (hL : Qf4 P fL) {ob : List Ob} {p : Nat} {d : Dl} (hp : ob[p]? = some ⟨t, 4, 1, dlC d, 0⟩) (hd : okD d) {v : Nat} (hv : v < 4294967296) {K : AV → List Ob → Prop}
  (hK : K (.tup []) (ob.set p ⟨t, 4, 1, dlC (JC d v), 0⟩)) : ACall P f [.ref p 1 0, .int .u32 v] ob K := by
 have hpl : p < ob.length := (List.getElem?_eq_some_iff.1 hp).1
 have hL' := hL d v hd hv
 have nph : ∀ cs, (⟨t, 4, 1, cs, 0⟩ : Ob) ≠ ph := fun cs e => by have := congrArg Ob.sz e; simp [ph] at this
 refine ACall.of_body bd (by simp) ?_
 unfold JC at hK
 have hp0 := hp
 obtain ⟨k0, k1, s0, s1⟩ := d
 simp only [dlC] at hp
 simp only [dlA, dlC] at hL' hK
 by_cases c : v < 2 ^ k0
 ·rw [if_pos c] at hL' hK
  simp (maxSteps := 4000000) (disch := omega) only [rq, simprocAttr, XI, hp]
  refine Qb.vc hL' ?_
  simp (maxSteps := 4000000) (disch := omega) only [rq, simprocAttr, hp]
  refine callE.by hp0 (nph _) (fun K hK => QdR b1 hp0 hd hv false hK) ?_
  simp (maxSteps := 4000000) (disch := omega) only [rq, simprocAttr]
  exact hK
 ·rw [if_neg c] at hL' hK
  have hv2 : v - 2 ^ k0 < 4294967296 := Nat.lt_of_le_of_lt (Nat.sub_le _ _) hv
  obtain ⟨h1, h2, h3, h4⟩ := hd
  have pk := QlE h2 h4 hv2
  simp only at h1 h2 h3 h4 pk
  generalize v - 2 ^ k0 = w at *
  simp (maxSteps := 4000000) (disch := omega) only [rq, simprocAttr, XI, hp]
  refine Qb.vc hL' ?_
  simp (maxSteps := 4000000) (disch := omega) only [rq, simprocAttr, hp]
  refine callE.by hp0 (nph _) (fun K hK => QdR b1 hp0 ⟨h1, h2, h3, h4⟩ hv2 true hK) ?_
  have hp1 : (ob.set p ⟨t, 4, 1, dlC ⟨k0, (QbD k1 s1 w).1, s0, (QbD k1 s1 w).2⟩, 0⟩)[p]? = some ⟨t, 4, 1, dlC ⟨k0, (QbD k1 s1 w).1, s0, (QbD k1 s1 w).2⟩, 0⟩ := by simp [hpl]
  have hp2 := hp1
  simp only [dlC] at hp2
  simp (maxSteps := 4000000) (disch := omega) only [rq, simprocAttr, dlC, hp2]
  refine callE.by hp1 (nph _) (fun K hK => QdR b1 hp1 ⟨h1, pk.1, h3, pk.2⟩ hv false hK) ?_
  rw [List.set_set]
  simp (maxSteps := 4000000) (disch := omega) only [rq, simprocAttr]
  exact hK
theorem QjK {P : Prg} {f : Nat} (bd : Qk P f 9 [.tmp 4] XE) {v k : Nat} (hk : k ≤ 24) (hv : v < 4294967296) : VC P f [.int .u32 v, .int .i64 k] (.bool (decide (48 ≤ v / 2 ^ k))) := by
 refine VC.of_acall rfl rfl (ACall.of_body bd (by simp) ?_)
 have e1 : Ql false .u32 (v : Int) (k : Int) = some (.int .u32 ((v / 2 ^ k : Nat) : Int)) := Qlu (K := .u32) (by show k ≤ 32; omega)
 generalize v / 2 ^ k = w at *
 have e2 : decide ((48 : Int) ≤ (w : Int)) = decide (48 ≤ w) := decide_eq_decide.2 (by omega)
 simp (maxSteps := 4000000) (disch := omega) only [rq, simprocAttr, XE, e1, e2]
def QuD (P : Prg) (f : Nat) : Prop := ∀ v k : Nat, k ≤ 24 → v < 4294967296 → VC P f [.int .u32 v, .int .i64 k] (.bool (decide (48 ≤ v / 2 ^ k)))
theorem QrX {P : Prg} {f : Nat} (bd : Qk P f 9 [.tmp 4] XE) : QuD P f := by
 exact fun _ _ h1 h2 => QjK bd h1 h2
def Xq (c r : Nat) (v : List Nat) : Dl := ((List.range v.length).filter fun j => j % c == r).foldl (fun d j => JC d (v.getD j 0)) QL
theorem Qkv {c r x : Nat} {v : List Nat} : Xq c r (v ++ [x]) = if v.length % c = r then JC (Xq c r v) x else Xq c r v := by
 have h1 : ∀ (l : List Nat) (d : Dl), (∀ j ∈ l, j < v.length) → l.foldl (fun d j => JC d ((v ++ [x]).getD j 0)) d = l.foldl (fun d j => JC d (v.getD j 0)) d := by
  intro l
  induction l with
  | nil => intro d _; rfl
  | cons a l ih =>
   intro d h
   simp only [List.foldl_cons]
   have ha : a < v.length := h a (by simp)
   rw [ih _ fun j hj => h j (by simp [hj])]
   congr 2
   rw [List.getD_eq_getElem?_getD, List.getD_eq_getElem?_getD, List.getElem?_append_left ha]
 unfold Xq
 rw [List.length_append, List.length_cons, List.length_nil, Nat.zero_add, List.range_succ, List.filter_append, List.foldl_append]
 have hf := h1 ((List.range v.length).filter fun j => j % c == r) QL (fun j hj => by
  have := (List.mem_filter.1 hj).1
  simpa using this)
 rw [hf]
 have hx : (v ++ [x]).getD v.length 0 = x := by simp [List.getD_eq_getElem?_getD]
 by_cases h : v.length % c = r
 ·rw [if_pos h]
  have : (List.filter (fun j => j % c == r) [v.length]) = [v.length] := by simp [h]
  rw [this]
  simp only [List.foldl_cons, List.foldl_nil]
  rw [hx]
 ·rw [if_neg h]
  have : (List.filter (fun j => j % c == r) [v.length]) = [] := by simp [h]
  rw [this]
  rfl
def N32 (v : List Nat) : Prop := ∀ x ∈ v, x < 4294967296
theorem QqI {c r : Nat} {v : List Nat} (h : N32 v) : okD (Xq c r v) := by
 unfold Xq
 have key : ∀ (l : List Nat) (d : Dl), okD d → (∀ j ∈ l, j < v.length) → okD (l.foldl (fun d j => JC d (v.getD j 0)) d) := by
  intro l
  induction l with
  | nil => intro d h _; exact h
  | cons a l ih =>
   intro d hd hl
   have ha : a < v.length := hl a (by simp)
   refine ih _ (Qsd hd ?_) fun j hj => hl j (by simp [hj])
   rw [List.getD_eq_getElem?_getD, List.getElem?_eq_getElem ha]
   exact h _ (List.getElem_mem ha)
 exact key _ _ QrH fun j hj => by
  have := (List.mem_filter.1 hj).1
  simpa using this
def QbN (p : List UInt8) : Nat := 4294967295 - QoK 4294967295 p
theorem Qtv (p : List UInt8) : QbN p < 4294967296 := by unfold QbN; omega
def Qc5 (F : Nat → Dl) : List AV := dlC (F 0) ++ dlC (F 1) ++ dlC (F 2) ++ dlC (F 3) ++ dlC (F 4) ++ dlC (F 5)
theorem QpW (F : Nat → Dl) : isTL (Qc5 F) = true := rfl
theorem Qc4 (F : Nat → Dl) : (Qc5 F).length = 24 := rfl
theorem QrQ (F : Nat → Dl) {j : Nat} (h : j < 6) : ∃ r, (Qc5 F).drop (j * 4) = .int .i64 (F j).k0 :: .int .i64 (F j).k1 :: .int .u64 (F j).s0 :: .int .u64 (F j).s1 :: r := by
 rcases (by omega : j = 0 ∨ j = 1 ∨ j = 2 ∨ j = 3 ∨ j = 4 ∨ j = 5) with rfl | rfl | rfl | rfl | rfl | rfl <;> exact ⟨_, rfl⟩
def QuJ (F : Nat → Dl) (j : Nat) (d : Dl) : Nat → Dl := fun i => if i = j then d else F i
theorem Qm2 (F : Nat → Dl) {j : Nat} (h : j < 6) (d : Dl) : (Qc5 F).take (j * 4) ++ [.int .i64 d.k0, .int .i64 d.k1, .int .u64 d.s0, .int .u64 d.s1] ++ (Qc5 F).drop (j * 4 + 4) = Qc5 (QuJ F j d) := by
 rcases (by omega : j = 0 ∨ j = 1 ∨ j = 2 ∨ j = 3 ∨ j = 4 ∨ j = 5) with rfl | rfl | rfl | rfl | rfl | rfl <;> rfl
def iL (o : List Nat) : List Int := o.map fun n : Nat => (n : Int)
theorem mod_mul (m c : Nat) : (m * c) % c = 0 := Nat.mul_mod_left m c
def QjL (v k : Nat) : Nat := if 48 ≤ v / 2 ^ k then 80 else v / 2 ^ k + 1 + k
def QjM (v k : Nat) : Nat := if 48 ≤ v / 2 ^ k then 2 ^ 48 - 1 + 2 ^ 48 * v else 2 ^ (v / 2 ^ k) - 1 + 2 ^ (v / 2 ^ k + 1) * (v % 2 ^ k)
def QeA (d : Dl) (v : Nat) : Nat := if v < 2 ^ d.k0 then 1 + d.k0 else 1 + QjL (v - 2 ^ d.k0) d.k1
def Qmg (d : Dl) (v : Nat) : Nat := if v < 2 ^ d.k0 then 2 * v else 1 + 2 * QjM (v - 2 ^ d.k0) d.k1
theorem J3 {V N W n : Nat} (hV : V < 2 ^ N) (hW : W < 2 ^ n) : V + 2 ^ N * W < 2 ^ (N + n) := by
 have h1 : 2 ^ N * (W + 1) ≤ 2 ^ N * 2 ^ n := Nat.mul_le_mul_left _ hW
 rw [Nat.pow_add]
 rw [Nat.mul_add, Nat.mul_one] at h1
 omega
theorem QrZ {v k : Nat} (hv : v < 4294967296) : QjM v k < 2 ^ QjL v k := by
 unfold QjM QjL
 split
 ·exact J3 (N := 48) (n := 32) (by decide) hv
 ·have h1 : v % 2 ^ k < 2 ^ k := Nat.mod_lt _ (Nat.pow_pos (by omega))
  refine J3 ?_ h1
  have : 0 < 2 ^ (v / 2 ^ k) := Nat.pow_pos (by omega)
  rw [Nat.pow_succ]
  omega
theorem QrY {v k : Nat} (hk : k ≤ 24) : QjL v k ≤ 80 := by unfold QjL; split <;> omega
theorem Qnq {d : Dl} {v : Nat} (hd : okD d) : QeA d v ≤ 81 := by
 have := QrY (v := v - 2 ^ d.k0) hd.2.1
 have := hd.1
 unfold QeA
 split <;> omega
theorem QqD (d : Dl) (v : Nat) : 1 ≤ QeA d v := by unfold QeA; split <;> omega
theorem Qnr {d : Dl} {v : Nat} (hv : v < 4294967296) : Qmg d v < 2 ^ QeA d v := by
 unfold Qmg QeA
 split
 ·rename_i h
  rw [Nat.pow_add, Nat.pow_one]
  omega
 ·have h := QrZ (v := v - 2 ^ d.k0) (k := d.k1) (Nat.lt_of_le_of_lt (Nat.sub_le _ _) hv)
  exact J3 (N := 1) (V := 1) (by decide) h
def Qu8 (c : Nat) (v : List Nat) : Nat → Nat × Nat
 | 0 => (0, 0)
 | i + 1 => ((Qu8 c v i).1 + QeA (Xq c (i % c) (v.take i)) (v.getD i 0), (Qu8 c v i).2 + 2 ^ (Qu8 c v i).1 * Qmg (Xq c (i % c) (v.take i)) (v.getD i 0))
def Qg3 (c : Nat) (v : List Nat) (i : Nat) : Nat := (Qu8 c v i).1
def Qsr (c : Nat) (v : List Nat) (i : Nat) : Nat := (Qu8 c v i).2
theorem Qkb (c : Nat) (v : List Nat) : Qg3 c v 0 = 0 := rfl
theorem Qj9 (c : Nat) (v : List Nat) : Qsr c v 0 = 0 := rfl
theorem Qkc (c : Nat) (v : List Nat) (i : Nat) : Qg3 c v (i + 1) = Qg3 c v i + QeA (Xq c (i % c) (v.take i)) (v.getD i 0) := rfl
theorem Qka (c : Nat) (v : List Nat) (i : Nat) : Qsr c v (i + 1) = Qsr c v i + 2 ^ Qg3 c v i * Qmg (Xq c (i % c) (v.take i)) (v.getD i 0) := rfl
theorem N32.take {v : List Nat} (h : N32 v) (i : Nat) : N32 (v.take i) := fun x hx => h x (List.mem_of_mem_take hx)
theorem N32.getD {v : List Nat} (h : N32 v) (i : Nat) : v.getD i 0 < 4294967296 := by
 rw [List.getD_eq_getElem?_getD]
 cases hx : v[i]? with
 | none => simp
 | some x => exact h x (List.mem_of_getElem? hx)
theorem Qa3 {c : Nat} {v : List Nat} (h : N32 v) : ∀ i, Qsr c v i < 2 ^ Qg3 c v i ∧ Qg3 c v i ≤ 81 * i ∧ i ≤ Qg3 c v i
 | 0 => by rw [Qkb, Qj9]; decide
 | i + 1 => by
  obtain ⟨h1, h2, h3⟩ := Qa3 h i
  have hd := QqI (c := c) (r := i % c) (h.take i)
  have h4 := Qnq (v := v.getD i 0) hd
  have h5 := QqD (Xq c (i % c) (v.take i)) (v.getD i 0)
  rw [Qkc, Qka]
  exact ⟨J3 h1 (Qnr (h.getD i)), by omega, by omega⟩
def Qgt (c : Nat) (v : List Nat) : List UInt8 := leB (Qsr c v v.length) (nB (Qg3 c v v.length))
def Zh (p : List UInt8) : List UInt8 := p ++ leB (QbN p) 4
theorem Qfk (p : List UInt8) : (Zh p).length = p.length + 4 := by simp [Zh, Qc]
theorem QeV (c : Nat) (v : List Nat) : (Qgt c v).length = nB (Qg3 c v v.length) := by simp [Qgt, Qc]
theorem Qj8 (ob J : List Ob) (k : Nat) : (ob ++ J)[ob.length + k]? = J[k]? := by rw [List.getElem?_append_right (by omega), Nat.add_sub_cancel_left]
theorem QbE (ob J : List Ob) : (ob ++ J)[ob.length]? = J[0]? := Qj8 ob J 0
theorem Qk1 (ob J : List Ob) (k : Nat) (y : Ob) : (ob ++ J).set (ob.length + k) y = ob ++ J.set k y := by rw [List.set_append_right _ _ (by omega), Nat.add_sub_cancel_left]
theorem QcE (ob J : List Ob) (y : Ob) : (ob ++ J).set ob.length y = ob ++ J.set 0 y := Qk1 ob J 0 y
def JR (t : Nat) (P : Prg) (f : Nat) : Prop := ∀ l : List UInt8, l.length ≤ 1000000 → VO P f [bs l] (.own 0 l.length) ⟨t, 1, l.length, u8 l, 0⟩
theorem Quu {P : Prg} {f t0 : Nat} (b : Qk P f 8 [.tmp 2] (QQ t0)) : JR t0 P f := by
 intro l hl
 refine VO.of_walk (by simp [isDL, Zi]) (QR l) (by simp [okr]) (ACall.virtR t0 1 (by decide) (ACall.of_body b (by simp) ?_))
 by_cases h0 : l = []
 ·subst h0
  simp (maxSteps := 4000000) (disch := omega) only [rq, simprocAttr, QQ, bs, Qna, JZ]
  exact ⟨.inr ⟨true, rfl, 0, rfl, rfl⟩, .inl ⟨0, rfl, rfl⟩⟩
 ·have h1 : l.length ≠ 0 := by simpa using h0
  simp (maxSteps := 4000000) (disch := omega) only [rq, simprocAttr, QQ, bs, Qna, h1]
  exact .inl ⟨0, rfl, rfl⟩
theorem QqU {P : Prg} {f fC t0 tb : Nat} (bd : Qk P f 9 [.cell 2 t0] (QaD fC t0)) (hC : JR tb P fC) (ht : ZP P t0 = some (some 2)) {N V : Nat} (hN : N ≤ 400000) {ob : List Ob} (hl : Low ob.length ob) {K : AV → List Ob → Prop}
  (hK : K (.agg [.own ob.length (nB N), .int .i64 N]) (ob ++ [bY tb N V])) : ACall P f [bA N V] ob K := by
 refine ACall.low (ACall.pad (ACall.of_body bd (by simp) ?_))
 have hC' := hC (leB V (nB N)) (by rw [Qc]; unfold nB; omega)
 rw [bs, Qc] at hC'
 have hlow : Low (ob.length + 1) (ob ++ [bY tb N V]) := (hl.mono (by omega)).append (Low.cons (lowL_D _ (Qau _ _)) Low.nil)
 simp (maxSteps := 4000000) (disch := omega) only [rq, simprocAttr, QaD, bA, List.append_assoc, List.cons_append, List.nil_append, Qj8, QbE, Qk1, QcE]
 refine Q2.vo hC' ob.length (by rw [QbE]; rfl) Nat.one_ne_zero ?_
 simp (maxSteps := 4000000) (disch := omega) only [rq, simprocAttr, shr, List.append_assoc, List.cons_append, List.nil_append, Qj8, QbE, Qk1, QcE, ZG, ht, QU]
 exact ⟨ob ++ [bY tb N V], [_, _], by simp [bY]; exact ⟨rfl, rfl⟩, by simp, by simpa using hlow, by simp [Ja, lowL], hK⟩
def QkW (P : Prg) (f : Nat) : Prop := ∀ N V v n : Nat, V < 2 ^ N → v < 2 ^ n → n ≤ 64 → N + n ≤ 330000 → VC P f [bA N V, .int .u64 v, .int .i64 n] (.tup [bA (N + n) (V + 2 ^ N * v), .int .i64 0])
theorem QsO {P : Prg} {f fC fT fK fP t0 t1 tb : Nat} (bd : Qk P f 44 [.cell 6 t0, .tmp 7] (Qbz fC fT fP t0)) (hC : Qck P fC) (bT : Qk P fT 9 [.cell 2 t1] (QaD fK t1)) (bP : Qk P fP 75 [] (Qby tb)) (hK : JR tb P fK) (ht : ZP P t0 = some (some 2)) (ht1 : ZP P t1 = some (some 2)) : QkW P f := by
 intro N V v n hV hv hn hN
 refine VC.of_walk 2 (by simp [isDL, Qdk, isD]) (by simp [isD, isDL, Qdk]) (ACall.of_body bd (by simp) ?_)
 have hC' := hC N V hV (by omega)
 rw [bA] at hC'
 have e1 : n < 64 → Ql false .u64 (v : Int) (n : Int) = some (.int .u64 0) := fun h => by
  rw [Qlu (K := .u64) (by show n ≤ 64; omega), Nat.div_eq_of_lt hv]; rfl
 have tu : isTL (u8 (leB V (nB N))) = true := Qy _
 have tl : ∀ W M, isTL (u8 (leB W M)) = true := fun W M => Qy _
 have tw : ∀ (Q : Exit → St → Prop) os fr dst, wpQ P os Q ⟨Zn fr dst (.agg [.own 2 (nB N), .int .i64 N]), [⟨t0, 2, 1, [.list (nB N) (u8 (leB V (nB N))), .int .i64 N], 0⟩, ⟨t0, 2, 1, [.emp true, .int .i64 0], 0⟩, bY tb N V]⟩ →
   Qb P fT [.agg [.list (nB N) (u8 (leB V (nB N))), .int .i64 N]] [⟨t0, 2, 1, [.list (nB N) (u8 (leB V (nB N))), .int .i64 N], 0⟩, ⟨t0, 2, 1, [.emp true, .int .i64 0], 0⟩] os Q fr dst := fun Q os fr dst h =>
  QqU bT hK ht1 (N := N) (V := V) (by omega) (Low.cons (by simp [lowL, Ja, lowL_D _ (Qau _ _)]) (Low.cons (by simp [lowL, Ja]) Low.nil)) h
 have pt : ∀ (Q : Exit → St → Prop) os fr dst, wpQ P os Q ⟨Zn fr dst (.tup []), [⟨t0, 2, 1, [.own 2 (nB (N + n)), .int .i64 ((N + n : Nat) : Int)], 0⟩, ⟨t0, 2, 1, [.emp true, .int .i64 0], 0⟩, bY tb (N + n) (V + 2 ^ N * v)]⟩ →
   Qb P fP [.ref 0 1 0, .int .u64 v, .int .i64 n] [⟨t0, 2, 1, [.own 2 (nB N), .int .i64 N], 0⟩, ⟨t0, 2, 1, [.emp true, .int .i64 0], 0⟩, bY tb N V] os Q fr dst := fun Q os fr dst h =>
  QsN bP (ob := [⟨t0, 2, 1, [.own 2 (nB N), .int .i64 N], 0⟩, ⟨t0, 2, 1, [.emp true, .int .i64 0], 0⟩, bY tb N V]) (p := 0) (o := 2) (t := t0) rfl rfl (by decide) hV hv hn (by omega)
   (Low.cons (by simp [lowL, Ja]) (Low.cons (by simp [lowL, Ja]) (Low.cons (lowL_D _ (Qau _ _)) Low.nil))) h
 have tu' := tl (V + 2 ^ N * v) (nB (N + n))
 generalize V + 2 ^ N * v = W at *
 by_cases h64 : n < 64
 ·have e1' := e1 h64
  simp (maxSteps := 4000000) (disch := omega) only [rq, simprocAttr, Qbz, bA]
  refine Qb.vc hC' ?_
  simp (maxSteps := 4000000) (disch := omega) only [rq, simprocAttr, e1']
  refine tw _ _ _ _ ?_
  simp (maxSteps := 4000000) (disch := omega) only [rq, simprocAttr]
  refine pt _ _ _ _ ?_
  simp (maxSteps := 4000000) (disch := omega) only [rq, simprocAttr, ZG, ht, QU]
  simp [QS, QF, frzL, Qu, bY, frzL_T _ tu']
 ·simp (maxSteps := 4000000) (disch := omega) only [rq, simprocAttr, Qbz, bA]
  refine Qb.vc hC' ?_
  simp (maxSteps := 4000000) (disch := omega) only [rq, simprocAttr]
  refine tw _ _ _ _ ?_
  simp (maxSteps := 4000000) (disch := omega) only [rq, simprocAttr]
  refine pt _ _ _ _ ?_
  simp (maxSteps := 4000000) (disch := omega) only [rq, simprocAttr, ZG, ht, QU]
  simp [QS, QF, frzL, Qu, bY, frzL_T _ tu']
def uN (n : Nat) : Nat := min (n + 1) 48
def Qq5 (P : Prg) (f : Nat) : Prop := ∀ n : Nat, n ≤ 48 → VC P f [.int .i64 n] (.tup [.int .i64 (uN n), .int .i64 0])
theorem QjB {P : Prg} {f : Nat} (bd : Qk P f 13 [.tmp 2, .tmp 3] Qab) : Qq5 P f := by
 intro n hn
 refine VC.of_acall rfl rfl (ACall.of_body bd (by simp) ?_)
 have e1 : (if (48 : Int) < (n : Int) + 1 then (48 : Int) else (n : Int) + 1) = (uN n : Nat) := by unfold uN; split <;> omega
 simp (maxSteps := 4000000) (disch := omega) only [rq, simprocAttr, Qab, e1]
theorem QpA {n : Nat} (h : n ≤ 48) : 2 ^ n ≤ 281474976710656 := Nat.pow_le_pow_right (by omega) h
def QiU (P : Prg) (f : Nat) : Prop := ∀ N V n : Nat, V < 2 ^ N → n ≤ 48 → N + uN n ≤ 330000 → VC P f [bA N V, .int .i64 n] (.tup [bA (N + uN n) (V + 2 ^ N * (2 ^ n - 1)), .int .i64 0])
theorem Qlk {P : Prg} {f fC fL fP t0 : Nat} (bd : Qk P f 32 [.cell 4 t0, .tmp 5] (QaN fC fL fP t0)) (hC : Qck P fC) (hL : Qq5 P fL) (hP : QkW P fP) (ht : ZP P t0 = some (some 2)) : QiU P f := by
 intro N V n hV hn hN
 refine VC.of_walk 1 (by simp [isDL, Qdk, isD]) (by simp [isD, isDL, Qdk]) (ACall.of_body bd (by simp) ?_)
 have hC' := hC N V hV (by omega)
 have hL' := hL n hn
 have hp := QpA hn
 have hpos : 0 < 2 ^ n := Nat.pow_pos (by omega)
 have hlt : 2 ^ n - 1 < 2 ^ uN n := by
  unfold uN
  rcases Nat.lt_or_ge n 48 with h | h
  ·rw [Nat.min_eq_left (by omega), Nat.pow_succ]; omega
  ·obtain rfl : n = 48 := by omega
   decide
 have hP' := hP N V (2 ^ n - 1) (uN n) hV hlt (by unfold uN; omega) hN
 have e3 : Ql true .u64 1 (n : Int) = some (.int .u64 ((2 ^ n : Nat) : Int)) := by
  have := Qro (K := .u64) rfl (c := 1) (s := n) (by show n ≤ 64; omega) (by show 1 * 2 ^ n < 18446744073709551616; omega)
  rw [Nat.one_mul] at this
  exact this
 have e4 : IntKind.u64.wrap (((2 ^ n : Nat) : Int) - 1) = ((2 ^ n - 1 : Nat) : Int) := by rw [Xs]; omega
 generalize V + 2 ^ N * (2 ^ n - 1) = W at *
 generalize 2 ^ n - 1 = x at *
 generalize 2 ^ n = p at *
 generalize uN n = u at *
 have tl : isTL (u8 (leB W (nB (N + u)))) = true := Qy _
 simp only [bA] at hC' hP' ⊢
 simp (maxSteps := 4000000) (disch := omega) only [rq, simprocAttr, QaN]
 refine Qb.vc hC' ?_
 simp (maxSteps := 4000000) (disch := omega) only [rq, simprocAttr]
 refine Qb.vc hL' ?_
 simp (maxSteps := 4000000) (disch := omega) only [rq, simprocAttr, e3, e4]
 refine Q2.vc hP' ?_
 simp (maxSteps := 4000000) (disch := omega) only [rq, simprocAttr, ZG, ht, QU]
 simp [QS, QF, frzL, Qu, frzL_T _ tl]
def QiW (P : Prg) (f : Nat) : Prop := ∀ N V v k : Nat, V < 2 ^ N → v < 4294967296 → k ≤ 24 → N + 80 ≤ 330000 → VC P f [bA N V, .int .u32 v, .int .i64 k] (.tup [bA (N + QjL v k) (V + 2 ^ N * QjM v k), .int .i64 0])
theorem QnY {P : Prg} {f fC fE fU fP t0 : Nat} (bd : Qk P f 57 [.cell 6 t0, .tmp 7] (JL fC fE fU fP t0)) (hC : Qck P fC) (hE : QuD P fE) (hU : QiU P fU) (hP : QkW P fP) (ht : ZP P t0 = some (some 2)) : QiW P f := by
 intro N V v k hV hv hk hN
 refine VC.of_walk 1 (by simp [isDL, Qdk, isD]) (by simp [isD, isDL, Qdk]) (ACall.of_body bd (by simp) ?_)
 have hC' := hC N V hV (by omega)
 have hE' := hE v k hk hv
 obtain ⟨q1, _⟩ := p24 hk
 have hpk : 0 < 2 ^ k := Nat.pow_pos (by omega)
 have e1 : Ql false .u32 (v : Int) (k : Int) = some (.int .u32 ((v / 2 ^ k : Nat) : Int)) := Qlu (K := .u32) (by show k ≤ 32; omega)
 have e2 : Ql true .u32 1 (k : Int) = some (.int .u32 ((2 ^ k : Nat) : Int)) := by
  have := Qro (K := .u32) rfl (c := 1) (s := k) (by show k ≤ 32; omega) (by show 1 * 2 ^ k < 4294967296; omega)
  rw [Nat.one_mul] at this
  exact this
 have e3 : IntKind.u32.wrap (((2 ^ k : Nat) : Int) - 1) = ((2 ^ k - 1 : Nat) : Int) := by rw [Qan]; omega
 have e4 : IntKind.u32.wrap (BitVec.ofInt IntKind.u32.bits (v : Int) &&& BitVec.ofInt IntKind.u32.bits ((2 ^ k - 1 : Nat) : Int)).toNat = ((v % 2 ^ k : Nat) : Int) := by
  rw [Qv1 (K := .u32) rfl hv (by show 2 ^ k - 1 < 4294967296; omega), Nat.and_two_pow_sub_one_eq_mod]
 have hqv : v / 2 ^ k ≤ v := Nat.div_le_self _ _
 have hrv : v % 2 ^ k < 2 ^ k := Nat.mod_lt _ hpk
 unfold QjL QjM
 by_cases hq : 48 ≤ v / 2 ^ k
 ·rw [if_pos hq, if_pos hq]
  simp only [hq, decide_true] at hE'
  have hU' := hU N V 48 hV (Nat.le_refl _) (by unfold uN; omega)
  have hu : uN 48 = 48 := rfl
  rw [hu] at hU'
  have hV1 : V + 2 ^ N * (2 ^ 48 - 1) < 2 ^ (N + 48) := J3 hV (by decide)
  have hP' := hP (N + 48) (V + 2 ^ N * (2 ^ 48 - 1)) v 32 hV1 hv (by omega) (by omega)
  have hW : V + 2 ^ N * (2 ^ 48 - 1) + 2 ^ (N + 48) * v = V + 2 ^ N * (2 ^ 48 - 1 + 2 ^ 48 * v) := by rw [Nat.pow_add, Nat.mul_add, Nat.mul_assoc, Nat.add_assoc]
  rw [hW] at hP'
  generalize V + 2 ^ N * (2 ^ 48 - 1 + 2 ^ 48 * v) = W at *
  generalize V + 2 ^ N * (2 ^ 48 - 1) = W1 at *
  have hNN : N + 48 + 32 = N + 80 := by omega
  rw [hNN] at hP'
  have tl : isTL (u8 (leB W (nB (N + 80)))) = true := Qy _
  simp only [bA] at hC' hP' hU' ⊢
  have hU'' : VC P fU [.agg [.list (nB N) (u8 (leB V (nB N))), .int .i64 N], .int .i64 48] (.tup [.agg [.list (nB (N + 48)) (u8 (leB W1 (nB (N + 48)))), .int .i64 ((N + 48 : Nat) : Int)], .int .i64 0]) := hU'
  have hP'' : VC P fP [.agg [.list (nB (N + 48)) (u8 (leB W1 (nB (N + 48)))), .int .i64 ((N + 48 : Nat) : Int)], .int .u64 v, .int .i64 32] (.tup [.agg [.list (nB (N + 80)) (u8 (leB W (nB (N + 80)))), .int .i64 ((N + 80 : Nat) : Int)], .int .i64 0]) := hP'
  generalize v / 2 ^ k = q at *
  generalize v % 2 ^ k = r at *
  generalize 2 ^ k - 1 = mk at *
  generalize 2 ^ k = pk at *
  simp (maxSteps := 4000000) (disch := omega) only [rq, simprocAttr, JL]
  refine Qb.vc hC' ?_
  simp (maxSteps := 4000000) (disch := omega) only [rq, simprocAttr, e1, e2, e3, e4]
  refine Qb.vc hE' ?_
  simp (maxSteps := 4000000) (disch := omega) only [rq, simprocAttr]
  refine Qb.vc hU'' ?_
  simp (maxSteps := 4000000) (disch := omega) only [rq, simprocAttr]
  refine Qb.vc hP'' ?_
  simp (maxSteps := 4000000) (disch := omega) only [rq, simprocAttr, ZG, ht, QU]
  simp [QS, QF, frzL, Qu, frzL_T _ tl]
 ·rw [if_neg hq, if_neg hq]
  simp only [hq, decide_false] at hE'
  have hu : uN (v / 2 ^ k) = v / 2 ^ k + 1 := by unfold uN; omega
  have hU' := hU N V (v / 2 ^ k) hV (by omega) (by rw [hu]; omega)
  rw [hu] at hU'
  have hlt : 2 ^ (v / 2 ^ k) - 1 < 2 ^ (v / 2 ^ k + 1) := by
   have : 0 < 2 ^ (v / 2 ^ k) := Nat.pow_pos (by omega)
   rw [Nat.pow_succ]; omega
  have hV1 : V + 2 ^ N * (2 ^ (v / 2 ^ k) - 1) < 2 ^ (N + (v / 2 ^ k + 1)) := J3 hV hlt
  have hP' := hP (N + (v / 2 ^ k + 1)) (V + 2 ^ N * (2 ^ (v / 2 ^ k) - 1)) (v % 2 ^ k) k hV1 hrv (by omega) (by omega)
  have hW : V + 2 ^ N * (2 ^ (v / 2 ^ k) - 1) + 2 ^ (N + (v / 2 ^ k + 1)) * (v % 2 ^ k) = V + 2 ^ N * (2 ^ (v / 2 ^ k) - 1 + 2 ^ (v / 2 ^ k + 1) * (v % 2 ^ k)) := by rw [Nat.pow_add 2 N, Nat.mul_add, Nat.mul_assoc, Nat.add_assoc]
  rw [hW] at hP'
  generalize V + 2 ^ N * (2 ^ (v / 2 ^ k) - 1 + 2 ^ (v / 2 ^ k + 1) * (v % 2 ^ k)) = W at *
  generalize V + 2 ^ N * (2 ^ (v / 2 ^ k) - 1) = W1 at *
  have hNN : N + (v / 2 ^ k + 1) + k = N + (v / 2 ^ k + 1 + k) := by omega
  rw [hNN] at hP'
  have tl : isTL (u8 (leB W (nB (N + (v / 2 ^ k + 1 + k))))) = true := Qy _
  simp only [bA] at hC' hP' hU' ⊢
  generalize v / 2 ^ k = q at *
  generalize v % 2 ^ k = r at *
  generalize 2 ^ k - 1 = mk at *
  generalize 2 ^ k = pk at *
  generalize hM : N + (q + 1 + k) = M at *
  generalize hM1 : N + (q + 1) = M1 at *
  simp (maxSteps := 4000000) (disch := omega) only [rq, simprocAttr, JL]
  refine Qb.vc hC' ?_
  simp (maxSteps := 4000000) (disch := omega) only [rq, simprocAttr, e1, e2, e3, e4]
  refine Qb.vc hE' ?_
  simp (maxSteps := 4000000) (disch := omega) only [rq, simprocAttr]
  refine Qb.vc hU' ?_
  simp (maxSteps := 4000000) (disch := omega) only [rq, simprocAttr]
  refine Qb.vc hP' ?_
  simp (maxSteps := 4000000) (disch := omega) only [rq, simprocAttr, ZG, ht, QU]
  simp [QS, QF, frzL, Qu, frzL_T _ tl]
def QiX (P : Prg) (f : Nat) : Prop := ∀ (N V v : Nat) (d : Dl), V < 2 ^ N → v < 4294967296 → okD d → N + 81 ≤ 330000 → VC P f [bA N V, dlA d, .int .u32 v] (.tup [bA (N + QeA d v) (V + 2 ^ N * Qmg d v), dlA (JC d v), .int .i64 0])
theorem Qoj {P : Prg} {f fC fD fV fP fR fL fl1 fll t0 t1 : Nat} (bd : Qk P f 69 [.cell 6 t0, .cell 7 t1, .tmp 8] (JN fC fD fV fP fR fL t0 t1)) (hC : Qck P fC) (hD : Qjb P fD) (hLv : Qf4 P fV) (hP : QkW P fP) (hR : QiW P fR)
  (bL : Qk P fL 36 [] (XI fl1 fll)) (b1 : Qk P fl1 58 [] Qp) (hL : Qf4 P fll) (ht0 : ZP P t0 = some (some 2)) (ht : ZP P t1 = some (some 4)) : QiX P f := by
 intro N V v d hV hv hd hN
 refine VC.of_walk 1 (by simp [isDL, Qdk, Qp0, isD]) (by simp [isD, isDL, Qdk, Qp0]) (ACall.of_cut 7 bd (by simp) ?_)
 have hd' := hd
 have hC' := hC N V hV (by omega)
 have hD' := hD d hd
 have hLv' := hLv d v hd hv
 have hL1 : ∀ {ob : List Ob} {p : Nat} {v : Nat} {K : AV → List Ob → Prop}, ob[p]? = some ⟨t1, 4, 1, dlC d, 0⟩ → v < 4294967296 → K (.tup []) (ob.set p ⟨t1, 4, 1, dlC (JC d v), 0⟩) → ACall P fL [.ref p 1 0, .int .u32 v] ob K :=
  fun hp hv hK => Qoi bL b1 hL hp hd hv hK
 obtain ⟨k0, k1, s0, s1⟩ := d
 obtain ⟨h1, h2, h3, h4⟩ := hd'
 simp only at h1 h2 h3 h4
 obtain ⟨pk, _⟩ := p24 h1
 simp only [bA] at hC'
 simp only [dlA, dlC] at hD' hLv'
 unfold QeA Qmg
 by_cases c : v < 2 ^ k0
 ·simp only [c, if_true] at hLv' ⊢
  have hP1 := hP N V 0 1 hV (by decide) (by omega) (by omega)
  rw [Nat.mul_zero, Nat.add_zero] at hP1
  have hV1 : V < 2 ^ (N + 1) := Nat.lt_of_lt_of_le hV (Nat.pow_le_pow_right (by omega) (by omega))
  have hP2 := hP (N + 1) V v k0 hV1 c (by omega) (by omega)
  have hW : V + 2 ^ (N + 1) * v = V + 2 ^ N * (2 * v) := by rw [Nat.pow_succ, Nat.mul_assoc]
  rw [hW, Nat.add_assoc] at hP2
  generalize V + 2 ^ N * (2 * v) = W at *
  have tl : isTL (u8 (leB W (nB (N + (1 + k0))))) = true := Qy _
  simp only [bA] at hP1 hP2 ⊢
  have hP1' : VC P fP [.agg [.list (nB N) (u8 (leB V (nB N))), .int .i64 N], .int .u64 0, .int .i64 1] (.tup [.agg [.list (nB (N + 1)) (u8 (leB V (nB (N + 1)))), .int .i64 ((N + 1 : Nat) : Int)], .int .i64 0]) := hP1
  simp (maxSteps := 4000000) (disch := omega) only [rq, simprocAttr, XY, JN, dlA, dlC]
  refine Qb.vc hC' ?_
  simp (maxSteps := 4000000) (disch := omega) only [rq, simprocAttr, XY]
  refine Qb.vc hD' ?_
  simp (maxSteps := 4000000) (disch := omega) only [rq, simprocAttr, XY]
  refine Qb.vc hLv' ?_
  simp (maxSteps := 4000000) (disch := omega) only [rq, simprocAttr, XY]
  refine Qb.vc hP1' ?_
  simp (maxSteps := 4000000) (disch := omega) only [rq, simprocAttr, XY]
  refine Qb.vc hP2 ?_
  simp (maxSteps := 4000000) (disch := omega) only [rq, simprocAttr, XY]
  refine hL1 (v := v) rfl hv ?_
  generalize JC ⟨k0, k1, s0, s1⟩ v = d'
  obtain ⟨l0, l1, l2, l3⟩ := d'
  simp (maxSteps := 4000000) (disch := omega) only [rq, simprocAttr, XY]
  refine ⟨⟨[(8, .int .i64 0), (7, .ref 3 1 0), (6, .ref 2 1 0), (4, .cell [.int .i64 l0, .int .i64 l1, .int .u64 l2, .int .u64 l3]), (3, .ref 0 1 0)], _⟩, Le.still [1] 1 (by simp [Am.look, QF, frzL, Qu, dlC, isDL, isD]), ?_⟩
  simp (maxSteps := 4000000) (disch := omega) only [rq, simprocAttr, ZG, ht, ht0, QU, dlC, Qm]
  simp [QS, QF, frzL, Qu, frzL_T _ tl]
 ·simp only [c, if_false] at hLv' ⊢
  have hP1 := hP N V 1 1 hV (by decide) (by omega) (by omega)
  rw [Nat.mul_one] at hP1
  have hV1 : V + 2 ^ N < 2 ^ (N + 1) := by rw [Nat.pow_succ]; omega
  have hl : v - 2 ^ k0 < 4294967296 := Nat.lt_of_le_of_lt (Nat.sub_le _ _) hv
  have hR2 := hR (N + 1) (V + 2 ^ N) (v - 2 ^ k0) k1 hV1 hl h2 (by omega)
  have hW : V + 2 ^ N + 2 ^ (N + 1) * QjM (v - 2 ^ k0) k1 = V + 2 ^ N * (1 + 2 * QjM (v - 2 ^ k0) k1) := by rw [Nat.pow_succ, Nat.mul_assoc, Nat.mul_add, Nat.mul_one, Nat.add_assoc]
  rw [hW, Nat.add_assoc] at hR2
  generalize V + 2 ^ N * (1 + 2 * QjM (v - 2 ^ k0) k1) = W at *
  generalize QjL (v - 2 ^ k0) k1 = rn at *
  generalize v - 2 ^ k0 = lf at *
  generalize V + 2 ^ N = W1 at *
  have tl : isTL (u8 (leB W (nB (N + (1 + rn))))) = true := Qy _
  simp only [bA] at hP1 hR2 ⊢
  have hP1' : VC P fP [.agg [.list (nB N) (u8 (leB V (nB N))), .int .i64 N], .int .u64 1, .int .i64 1] (.tup [.agg [.list (nB (N + 1)) (u8 (leB W1 (nB (N + 1)))), .int .i64 ((N + 1 : Nat) : Int)], .int .i64 0]) := hP1
  simp (maxSteps := 4000000) (disch := omega) only [rq, simprocAttr, XY, JN, dlA, dlC]
  refine Qb.vc hC' ?_
  simp (maxSteps := 4000000) (disch := omega) only [rq, simprocAttr, XY]
  refine Qb.vc hD' ?_
  simp (maxSteps := 4000000) (disch := omega) only [rq, simprocAttr, XY]
  refine Qb.vc hLv' ?_
  simp (maxSteps := 4000000) (disch := omega) only [rq, simprocAttr, XY]
  refine Qb.vc hP1' ?_
  simp (maxSteps := 4000000) (disch := omega) only [rq, simprocAttr, XY]
  refine Qb.vc hR2 ?_
  simp (maxSteps := 4000000) (disch := omega) only [rq, simprocAttr, XY]
  refine hL1 (v := v) rfl hv ?_
  generalize JC ⟨k0, k1, s0, s1⟩ v = d'
  obtain ⟨l0, l1, l2, l3⟩ := d'
  simp (maxSteps := 4000000) (disch := omega) only [rq, simprocAttr, XY]
  refine ⟨⟨[(8, .int .i64 0), (7, .ref 3 1 0), (6, .ref 2 1 0), (4, .cell [.int .i64 l0, .int .i64 l1, .int .u64 l2, .int .u64 l3]), (3, .ref 0 1 0)], _⟩, Le.still [1] 1 (by simp [Am.look, QF, frzL, Qu, dlC, isDL, isD]), ?_⟩
  simp (maxSteps := 4000000) (disch := omega) only [rq, simprocAttr, ZG, ht, ht0, QU, dlC, Qm]
  simp [QS, QF, frzL, Qu, frzL_T _ tl]
theorem Low.putB {ob : List Ob} (h : Low ob.length ob) {t t0 t2 o p N V N' n C : Nat} (ho : o < ob.length) : Low (ob.length + 1) (XR ob o p (bY t0 N V) (bO t o N') ++ [⟨t2, 2, 1, [.list (nB n) (u8 (leB C (nB n))), .int .i64 n], 0⟩]) :=
 ((h.put ho).mono (by omega)).append (Low.cons (by simp [lowL, Ja, lowL_D _ (Qau _ _)]) Low.nil)
set_option maxHeartbeats 1000000 in
theorem Ql0 {P : Prg} {f t0 t1 : Nat} (bd : Qk P f 64 [] (Jf t0 t1)) {ob : List Ob} {t p o N V C n : Nat} (hp : ob[p]? = some (bO t o N)) (ho : ob[o]? = some (bY t1 N V)) (hpo : p ≠ o) (hV : V < 2 ^ N) (hC : C < 2 ^ n) (hn : n ≤ 1000) (hN : N + n ≤ 400000) (hfz : Low ob.length ob)
  {K : AV → List Ob → Prop} (hK : K (.tup []) (XR ob o p (bY t1 (N + n) (V + 2 ^ N * C)) (bO t o (N + n)))) : ACall P f [.ref p 1 0, bA n C] ob K := by
 have hol : o < ob.length := (List.getElem?_eq_some_iff.1 ho).1
 have hpl : p < ob.length := (List.getElem?_eq_some_iff.1 hp).1
 refine ACall.low (ACall.of_body bd (by simp) ?_)
 have g0 : ∀ x y J, (XR ob o p x y ++ J)[p]? = some y := fun x y J => by rw [List.getElem?_append_left (by rw [Ze]; exact hpl)]; exact Qli hpl
 have g1 : ∀ x y J, (XR ob o p x y ++ J)[o]? = some x := fun x y J => by rw [List.getElem?_append_left (by rw [Ze]; exact hol)]; exact Qlj hol hpo
 have g2 : ∀ x y J y', (XR ob o p x y ++ J).set p y' = XR ob o p x y' ++ J := fun x y J y' => by rw [List.set_append_left _ _ (by rw [Ze]; exact hpl), QoW]
 have g3 : ∀ x y J x', (XR ob o p x y ++ J).set o x' = XR ob o p x' y ++ J := fun x y J x' => by rw [List.set_append_left _ _ (by rw [Ze]; exact hol), QoX hpo]
 have g4 : ∀ x y (J : List Ob), (XR ob o p x y ++ J)[ob.length]? = J[0]? := fun x y J => by rw [List.getElem?_append_right (by rw [Ze]; exact Nat.le_refl _), Ze, Nat.sub_self]
 have g5 : ∀ x y (J : List Ob), (XR ob o p x y ++ J)[ob.length + 1]? = J[1]? := fun x y J => by rw [List.getElem?_append_right (by rw [Ze]; omega), Ze, Nat.add_sub_cancel_left]
 have ln : ∀ x y, (XR ob o p x y).length = ob.length := fun x y => Ze
 have hs : ob = XR ob o p (bY t1 N V) (bO t o N) := (QjA ho hp hpo).symm
 simp (maxSteps := 4000000) (disch := omega) only [rq, simprocAttr, Jf, bA, QbE]
 refine QP.by (ι := Nat) (fun j => ⟨[(8, .int .i64 j), (7, .int .i64 n), (3, .ref ob.length 1 0), (0, .ref p 1 0)], XR ob o p (bY t1 (N + j) (V + 2 ^ N * (C % 2 ^ j))) (bO t o (N + j)) ++ [⟨t0, 2, 1, [.list (nB n) (u8 (leB C (nB n))), .int .i64 n], 0⟩]⟩) (fun j => j ≤ n) (fun j => n - j) 0 ?_ (by omega) ?_
 ·rw [Nat.add_zero, Nat.pow_zero, Nat.mod_one, Nat.mul_zero, Nat.add_zero, ← hs]
  exact Le.slots (by simp [Am.look])
 intro j hj
 by_cases hlt : j < n
 ·obtain ⟨M, hM⟩ : ∃ M, M = N + j := ⟨_, rfl⟩
  obtain ⟨i, hi⟩ : ∃ i, i = M / 8 := ⟨_, rfl⟩
  obtain ⟨a, ha⟩ : ∃ a, a = M % 8 := ⟨_, rfl⟩
  obtain ⟨q, hq⟩ : ∃ q, q = j / 8 := ⟨_, rfl⟩
  obtain ⟨r, hr⟩ : ∃ r, r = j % 8 := ⟨_, rfl⟩
  obtain ⟨b, hb0⟩ : ∃ b, b = C / 2 ^ j % 2 := ⟨_, rfl⟩
  have hM8 : M = 8 * i + a := by omega
  have hj8 : 8 * q + r = j := by omega
  have hb : b < 2 := by rw [hb0]; exact Nat.mod_lt _ (by decide)
  have hW : V + 2 ^ N * (C % 2 ^ j) < 2 ^ M := by
   rw [hM]
   exact J3 hV (Nat.mod_lt _ (Nat.pow_pos (by omega)))
  have hstep := Qv9 (V := V) (N := N) (v := C) (j := j) (r := 1)
  rw [← hM, Nat.pow_one, ← hb0] at hstep
  have hat := Qs5 (V := C) (k := nB n) (i := q) (by unfold nB; omega)
  have hbit := Qvj C q r (by omega)
  rw [hj8, ← hb0] at hbit
  have hby : C / 256 ^ q % 256 < 256 := Nat.mod_lt _ (by decide)
  have s1 : Ql false .u8 ((C / 256 ^ q % 256 : Nat) : Int) (r : Int) = some (.int .u8 ((C / 256 ^ q % 256 / 2 ^ r : Nat) : Int)) := Qlu (K := .u8) (by show r ≤ 8; omega)
  have hle : C / 256 ^ q % 256 / 2 ^ r ≤ C / 256 ^ q % 256 := Nat.div_le_self _ _
  have s2 : IntKind.u8.wrap (BitVec.ofInt IntKind.u8.bits ((C / 256 ^ q % 256 / 2 ^ r : Nat) : Int) &&& BitVec.ofInt IntKind.u8.bits ((1 : Nat) : Int)).toNat = ((b : Nat) : Int) := by
   rw [Qv1 (K := .u8) rfl (by show _ < 256; omega) (by decide), Nat.and_one_is_mod, hbit]
  have s2' : IntKind.u8.wrap (BitVec.ofInt IntKind.u8.bits ((C / 256 ^ q % 256 / 2 ^ r : Nat) : Int) &&& BitVec.ofInt IntKind.u8.bits 1).toNat = ((b : Nat) : Int) := s2
  generalize C / 256 ^ q % 256 / 2 ^ r = y1 at *
  generalize C / 256 ^ q % 256 = y0 at *
  rw [← hM]
  have hq1 : (j : Int) / 8 = (q : Int) := by omega
  have hr1 : (j : Int) % 8 = (r : Int) := by omega
  have hi1 : (M : Int) / 8 = (i : Int) := by omega
  have ha1 : (M : Int) % 8 = (a : Int) := by omega
  have hnq : q < nB n := by unfold nB; omega
  generalize V + 2 ^ N * (C % 2 ^ j) = W at *
  generalize hWW : V + 2 ^ N * (C % 2 ^ (j + 1)) = W' at *
  have h2a : 2 ^ a ≤ 2 ^ 7 := Nat.pow_le_pow_right (by omega) (by omega)
  have hpos : 0 < 2 ^ a := Nat.pow_pos (by omega)
  obtain ⟨l1, l2⟩ := QbW (V := W) (i := i) (at_ := a) (by rw [← hM8]; exact hW) (by omega)
  obtain ⟨b1, b2, _⟩ := Qcw (V := W) (i := i) (at_ := a) (w := b) (r := 1) (by rw [← hM8]; exact hW) (by omega) (by omega)
  rw [← hM8, ← hstep] at b1
  have hyb : W / 256 ^ i < 256 := by omega
  have hyb2 : W / 256 ^ i + 2 ^ a * b < 256 := by
   have : 2 ^ (a + 1) ≤ 2 ^ 8 := Nat.pow_le_pow_right (by omega) (by omega)
   omega
  have hca : b * 2 ^ a < 2 ^ 8 := by
   rcases (by omega : b = 0 ∨ b = 1) with rfl | rfl <;> omega
  have hu : ∀ y, y < 256 → u8 [UInt8.ofNat y] = [.int .u8 (y : Int)] := fun y hy => by simp [u8]; omega
  have e8 : IntKind.u8.wrap (BitVec.ofInt IntKind.u8.bits ((W / 256 ^ i : Nat) : Int) ||| BitVec.ofInt IntKind.u8.bits ((b * 2 ^ a : Nat) : Int)).toNat = ((W / 256 ^ i + 2 ^ a * b : Nat) : Int) := by
   rw [orK (K := .u8) rfl hyb hca, QpF l2, Nat.mul_comm]
  have e7 : Ql true .u8 (b : Int) (a : Int) = some (.int .u8 ((b * 2 ^ a : Nat) : Int)) := Qro rfl (by show a ≤ 8; omega) hca
  have hnB : nB (M + 1) = i + 1 := by unfold nB; omega
  have hcell : u8 (leB W' (i + 1)) = u8 (leB W i) ++ [.int .u8 ((W / 256 ^ i + 2 ^ a * b : Nat) : Int)] := by
   rw [b1, show u8 (leB W i ++ [UInt8.ofNat (W / 256 ^ i + 2 ^ a * b)]) = u8 (leB W i) ++ u8 [UInt8.ofNat (W / 256 ^ i + 2 ^ a * b)] by simp [u8]]
   rw [hu _ hyb2]
  have hlen : (u8 (leB W i)).length = i := by simp [u8, Qc]
  generalize W / 256 ^ i + 2 ^ a * b = y' at *
  generalize b * 2 ^ a = ca at *
  have d1 : ∀ z : AV, (u8 (leB W i) ++ [z]).drop i = [z] := fun z => by rw [List.drop_left' hlen]
  have d2 : ∀ z : AV, (u8 (leB W i) ++ [z]).take i = u8 (leB W i) := fun z => by rw [List.take_left' hlen]
  have d3 : ∀ z : AV, (u8 (leB W i) ++ [z]).drop (i + 1) = [] := fun z => List.drop_of_length_le (by simp [hlen])
  have el : (⟨t1, 1, i + 1, u8 (leB W i) ++ [.int .u8 (y' : Int)], 0⟩ : Ob) = bY t1 (M + 1) W' := by rw [bY, hnB, hcell]
  have er : (⟨t, 2, 1, [.own o (i + 1), .int .i64 ((M : Int) + 1)], 0⟩ : Ob) = bO t o (M + 1) := by rw [bO, hnB, Int.natCast_add]; rfl
  have hMr : N + (j + 1) = M + 1 := by omega
  have hcl : (u8 (leB C (nB n))).length = nB n := by simp [u8, Qc]
  by_cases h0 : a = 0
  ·subst h0
   have hnM : nB M = i := by unfold nB; omega
   have hW0 : W / 256 ^ i = 0 := by
    have := l2
    rw [Nat.pow_zero] at this
    exact Nat.lt_one_iff.1 this
   rw [hW0] at e8
   have e8' : IntKind.u8.wrap (BitVec.ofInt IntKind.u8.bits 0 ||| BitVec.ofInt IntKind.u8.bits (ca : Int)).toNat = (y' : Int) := e8
   have e7' : Ql true .u8 (b : Int) 0 = some (.int .u8 (ca : Int)) := e7
   have ha1' : (M : Int) % 8 = 0 := ha1
   simp (maxSteps := 4000000) (disch := omega) only [rq, simprocAttr, bO, bY, g0, g1, g2, g3, g4, g5, ln, hnM, hlen, hcl, hat, s1, s2', e7', e8', hq1, hr1, hi1, ha1', d1, d2, d3, List.append_assoc, List.cons_append, List.nil_append]
   refine ⟨j + 1, by omega, by omega, ?_⟩
   show Le ob.length _ ⟨[(8, .int .i64 ((j + 1 : Nat) : Int)), (7, .int .i64 n), (3, .ref ob.length 1 0), (0, .ref p 1 0)], XR ob o p (bY t1 (N + (j + 1)) (V + 2 ^ N * (C % 2 ^ (j + 1)))) (bO t o (N + (j + 1))) ++ [⟨t0, 2, 1, [.list (nB n) (u8 (leB C (nB n))), .int .i64 n], 0⟩]⟩
   rw [hWW, hMr, el, er, List.append_cons]
   have hl : (XR ob o p (bY t1 (M + 1) W') (bO t o (M + 1)) ++ [⟨t0, 2, 1, [.list (nB n) (u8 (leB C (nB n))), .int .i64 n], 0⟩] : List Ob).length = ob.length + 1 := by simp [ln]
   exact Le.low (by rw [hl]; omega) (by rw [hl]; exact hfz.putB hol) (by rw [hl]; simp [Am.look, Ja, Nat.lt_succ_of_lt hpl])
  ·have hnM : nB M = i + 1 := by unfold nB; omega
   have l3 : u8 (leB W (i + 1)) = u8 (leB W i) ++ [.int .u8 ((W / 256 ^ i : Nat) : Int)] := by
    rw [l1, show u8 (leB W i ++ [UInt8.ofNat (W / 256 ^ i)]) = u8 (leB W i) ++ u8 [UInt8.ofNat (W / 256 ^ i)] by simp [u8], hu _ hyb]
   have ha0 : (a : Int) ≠ 0 := by omega
   generalize W / 256 ^ i = y at *
   simp (maxSteps := 4000000) (disch := omega) only [rq, simprocAttr, bO, bY, g0, g1, g2, g3, g4, g5, ln, hnM, hlen, hcl, l3, hat, s1, s2', e7, e8, hq1, hr1, hi1, ha1, d1, d2, d3, List.append_assoc, List.cons_append, List.nil_append]
   refine ⟨j + 1, by omega, by omega, ?_⟩
   show Le ob.length _ ⟨[(8, .int .i64 ((j + 1 : Nat) : Int)), (7, .int .i64 n), (3, .ref ob.length 1 0), (0, .ref p 1 0)], XR ob o p (bY t1 (N + (j + 1)) (V + 2 ^ N * (C % 2 ^ (j + 1)))) (bO t o (N + (j + 1))) ++ [⟨t0, 2, 1, [.list (nB n) (u8 (leB C (nB n))), .int .i64 n], 0⟩]⟩
   rw [hWW, hMr, el, er]
   exact Le.slots (by simp [Am.look])
 ·obtain rfl : j = n := by omega
  rw [Nat.mod_eq_of_lt hC]
  simp (maxSteps := 4000000) (disch := omega) only [rq, simprocAttr]
  exact ⟨XR ob o p (bY t1 (N + j) (V + 2 ^ N * C)) (bO t o (N + j)), _, rfl, by rw [ln]; exact Nat.le_refl _, by rw [ln]; exact hfz.put hol, by rfl, hK⟩
end Go.Am
