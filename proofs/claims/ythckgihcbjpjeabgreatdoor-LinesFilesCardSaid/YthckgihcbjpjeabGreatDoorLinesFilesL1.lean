/- What the functions that the law reaches return, for every program that has their code; the conditions stand in each statement. -/
import Derived.Lib.ItoaLen
import Derived.Test.YthckgihcbjpjeabGreatDoorLinesFilesD1
set_option linter.unusedSectionVars false
set_option linter.unusedSimpArgs false
set_option linter.unusedVariables false
namespace Go.Am
open Go.RowKit
def leN : List UInt8 → Nat
 | [] => 0
 | b :: l => b.toNat + 256 * leN l
theorem QiS : ∀ l : List UInt8, leN l < 2 ^ (8 * l.length)
 | [] => by simp [leN]
 | b :: l => by
  have h1 := QiS l
  have h2 := b.toNat_lt
  have h3 : 2 ^ (8 * (b :: l).length) = 256 * 2 ^ (8 * l.length) := by
   rw [qo, js, yt, yi]
  rw [h3]
  simp only [leN]
  omega
theorem QiT : ∀ (a b : List UInt8), leN (a ++ b) = leN a + 2 ^ (8 * a.length) * leN b
 | [], b => by simp [leN]
 | x :: a, b => by
  have h3 : 2 ^ (8 * (x :: a).length) = 256 * 2 ^ (8 * a.length) := by
   rw [qo, js, yt, yi]
  rw [h3]
  simp only [qR, leN, QiT a b, js, ja]
  omega
theorem Qvz {l : List UInt8} (h : l.length ≤ 8) : leN l < 18446744073709551616 := by
 have h1 := QiS l
 have h2 : 2 ^ (8 * l.length) ≤ 2 ^ 64 := qy (by omega) (by omega)
 omega
theorem Qvy {l : List UInt8} {k : Nat} (h : k < l.length) : leN (l.take (k + 1)) = leN (l.take k) + l[k].toNat * 2 ^ (8 * k) := by
 rw [qm h, QiT]
 simp [leN, qG (Nat.le_of_lt h), yi]
def QcE (P : Prg) (f : Nat) : Prop := ∀ l : List UInt8, 1 ≤ l.length → l.length ≤ 8 → VC P f [bs l] (.tup [.int .u64 (leN l), .int .i64 0])
set_option maxRecDepth 10000 in
theorem Qvw {P : Prg} {f : Nat} (b : Body P f 31 [.tmp 2, .tmp 3] QbG) : QcE P f := by
 intro l h1 h2
 refine QJ (by simp [isDL, QM]) rfl b ?_
 have d1 : ¬ ((l.length : Int) < 1) := by omega
 have d2 : ¬ ((8 : Int) < l.length) := by omega
 simp only [rv, okW, Qw, aop, cV, cV1, AV.one, Qo, Jg, Qh, Qd, Zg, Qgh, app, jU, jE, yo, yC, y8, simprocAttr, QbG, bs, d1, d2]
 refine Qj (ι := Nat) (fun k => ⟨[(17, .int .i64 k), (16, .int .i64 l.length), (15, .list l.length (u8 l)), (4, .int .u64 (leN (l.take k)))], []⟩) (fun k => k ≤ l.length) (fun k => l.length - k) 0 (QB (by simp [Am.look, leN])) (by omega) ?_
 intro k hk
 by_cases hlt : k < l.length
 ·have e1 : (k : Int) < l.length := by omega
  have e2 : (0 : Int) ≤ k := by omega
  have e4 := Qyi hlt
  have e5 : IntKind.u64.wrap ((l[k].toNat : Nat) : Int) = (l[k].toNat : Nat) := wrap_u64 (by omega) (by have := l[k].toNat_lt; omega)
  have e6 : IntKind.i64.wrap (8 * (k : Int)) = (8 * k : Nat) := by rw [Xk] <;> omega
  have e7 : Ql true .u64 ((l[k].toNat : Nat) : Int) ((8 * k : Nat) : Int) = some (.int .u64 ((l[k].toNat * 2 ^ (8 * k) : Nat) : Int)) := Qsa (by omega) (by
   have h1 := l[k].toNat_lt
   have h2 : 2 ^ (8 * k) ≤ 2 ^ 56 := qy (by omega) (by omega)
   calc l[k].toNat * 2 ^ (8 * k) ≤ 255 * 2 ^ 56 := j6 (by omega) h2
    _ < _ := by omega)
  have e8 : leN (l.take (k + 1)) < 18446744073709551616 := Qvz (by simp; omega)
  have e9 := Qvy hlt
  have e10 : leN (l.take k) < 2 ^ (8 * k) := by have := QiS (l.take k); rwa [qu, qG hk] at this
  have e11 : IntKind.u64.wrap (BitVec.ofInt IntKind.u64.bits (leN (l.take k) : Nat) ||| BitVec.ofInt IntKind.u64.bits (l[k].toNat * 2 ^ (8 * k) : Nat)).toNat = (leN (l.take (k + 1)) : Nat) := by
   rw [QwA _ _ (by omega) (by omega), QlR e10, e9]
  have e12 : IntKind.i64.wrap ((k : Int) + 1) = ((k + 1 : Nat) : Int) := by rw [Xk] <;> omega
  simp only [rv, okW, Qw, aop, cV, cV1, AV.one, Qo, Jg, Qh, Qd, Zg, Qgh, app, jU, jE, yo, yC, y8, simprocAttr, e1, e2, hlt, e4, e5, e6, e7, e11, e12]
  exact ⟨k + 1, by omega, by omega, Qe⟩
 ·have e1 : ¬ (k : Int) < l.length := by omega
  have e2 : k = l.length := by omega
  subst e2
  simp only [rv, okW, Qw, aop, cV, cV1, AV.one, Qo, Jg, Qh, Qd, Zg, Qgh, app, jU, jE, yo, yC, y8, simprocAttr, e1, yn]
def QhI (P : Prg) (f : Nat) : Prop := ∀ (l : List UInt8) (a w : Nat), l.length < 4611686018427387904 → 1 ≤ w → w ≤ 8 → a < 4611686018427387904 →
 VC P f [bs l, .int .i64 a, .int .i64 w] (if a + w ≤ l.length then .tup [.int .u64 (leN ((l.drop a).take w)), .int .i64 0] else .tup [.int .u64 0, .int .i64 24])
set_option maxRecDepth 10000 in
theorem QAT {P : Prg} {f g : Nat} (b : Body P f 33 [.tmp 6, .tmp 7] (QeA g)) (hg : QcE P g) : QhI P f := by
 intro l a w hl h1 h2 ha
 have d1 : ¬ ((w : Int) < 1) := by omega
 have d2 : ¬ ((8 : Int) < w) := by omega
 have d3 : ¬ ((a : Int) < 0) := by omega
 have d4 : IntKind.i64.wrap ((l.length : Int) - w) = (l.length : Int) - w := by rw [Xk] <;> omega
 have d5 : IntKind.i64.wrap ((a : Int) + w) = (a : Int) + w := by rw [Xk] <;> omega
 by_cases hle : a + w ≤ l.length
 ·rw [qh hle]
  refine QJ (by simp [isDL, QM, isD]) rfl b ?_
  have d6 : ¬ ((l.length : Int) - w < a) := by omega
  have d7 := Qy3 (ob := []) (l := l) (a := a) (b := (a : Int) + w) (i := a) (j := a + w) rfl (by omega) (by omega) hle
  simp only [rv, okW, Qw, aop, cV, cV1, AV.one, Qo, Jg, Qh, Qd, Zg, Qgh, app, jU, jE, yo, yC, y8, simprocAttr, QeA, bs, d1, d2, d3, d4, d5, d6, d7]
  have hlen : ((l.drop a).take w).length = w := by simp; omega
  have e : a + w - a = w := by omega
  rw [e]
  have := hg ((l.drop a).take w) (by omega) (by omega)
  rw [bs, hlen] at this
  refine Qa this ?_
  simp only [rv, okW, Qw, aop, cV, cV1, AV.one, Qo, Jg, Qh, Qd, Zg, Qgh, app, jU, jE, yo, yC, y8, simprocAttr]
 ·rw [qe hle]
  refine QJ (by simp [isDL, QM, isD]) rfl b ?_
  have d6 : ((l.length : Int) - w < a) := by omega
  simp only [rv, okW, Qw, aop, cV, cV1, AV.one, Qo, Jg, Qh, Qd, Zg, Qgh, app, jU, jE, yo, yC, y8, simprocAttr, QeA, bs, d1, d2, d3, d4, d6]
theorem Zx (l : List UInt8) : isTL (u8 l) = true := by
 induction l with
 | nil => rfl
 | cons x l ih => simp [QeR, isTL, isT, ih]
def Qaj (P : Prg) (f : Nat) : Prop := ∀ l : List UInt8, l.length < 140737488355328 → VC P f [bs l] (bs l)
set_option maxRecDepth 10000 in
theorem Qol {P : Prg} {f t0 : Nat} (b : Body P f 8 [.tmp 2] (QaY t0)) : Qaj P f := by
 intro l hl
 refine Qi 1 (by simp [isDL, QM]) (QM l) (Qb b (by simp) ?_)
 have fin : ∀ ob, ob = [⟨t0, 1, l.length, u8 l, 0⟩] → QK (fun _ => true) ob (1 + 1) [.own 0 l.length] = some [bs l] := by
  rintro ob rfl
  simp only [QK, Qx, frzL, Qu, qY, yC, yF, and_self, yo, frzL_T _ (Zx l), yb]
  rfl
 have d1 : l.length * 1 ≤ 140737488355328 := by omega
 have d2 : l.length ≤ 9223372036854775807 := by omega
 by_cases h0 : l = []
 ·subst h0
  simp only [rv, okW, Qw, aop, cV, cV1, AV.one, Qo, Jg, Qh, Qd, Zg, Qgh, app, jU, jE, yo, yC, y8, simprocAttr, QaY, bs, Qrh, Qo2]
  simp [QK, Qx, frzL, Qu, isDL]
 ·have h1 : l.length ≠ 0 := by simpa using h0
  have d3 : l.length ≤ 140737488355328 := by omega
  simp only [rv, okW, Qw, aop, cV, cV1, AV.one, Qo, Jg, Qh, Qd, Zg, Qgh, app, jU, jE, yo, yC, y8, simprocAttr, QaY, bs, Qrh, h1, d2, d3]
  exact fin _ rfl
def QaU (b : Int) : Int := if b = 8 then 128 else if b = 16 then 32768 else if b = 24 then 8388608 else 0
theorem Qa7 (b : Int) : (b = 8 ∧ QaU b = 128) ∨ (b = 16 ∧ QaU b = 32768) ∨ (b = 24 ∧ QaU b = 8388608) ∨ (b ≠ 8 ∧ b ≠ 16 ∧ b ≠ 24 ∧ QaU b = 0) := by
 unfold QaU; split <;> (try split) <;> (try split) <;> omega
def Qa6 (b : Int) : AV := if QaU b = 0 then .tup [.int .i32 0, .int .i32 0, .int .i64 2] else .tup [.int .i32 (-QaU b), .int .i32 (QaU b - 1), .int .i64 0]
def QkH (P : Prg) (f : Nat) : Prop := ∀ b : Int, VC P f [.int .i64 b] (Qa6 b)
theorem Qm2 {P : Prg} {f : Nat} (b : Body P f 18 [.tmp 2, .tmp 3, .tmp 4] Zs) : QkH P f := by
 intro x
 refine QJ rfl (by unfold Qa6; split <;> rfl) b ?_
 rcases Qa7 x with ⟨rfl, h⟩ | ⟨rfl, h⟩ | ⟨rfl, h⟩ | ⟨h1, h2, h3, h⟩
 ·simp (disch := omega) only [rq, simprocAttr, Zs, Qa6, h]
  rfl
 ·simp (disch := omega) only [rq, simprocAttr, Zs, Qa6, h]
  rfl
 ·simp (disch := omega) only [rq, simprocAttr, Zs, Qa6, h]
  rfl
 ·simp (disch := omega) only [rq, simprocAttr, Zs, Qa6, h]
def il (l : List Int) : AV := .list l.length (ks .i32 l)
theorem Qar (l : List Int) : isD (il l) = true := by simp [il, isD, Zf]
def inR (b x : Int) : Bool := decide (-QaU b ≤ x) && decide (x < QaU b)
def ZF (b : Int) (l : List Int) : Int := if QaU b = 0 then 2 else if 4000 < l.length then 4 else if l.all (inR b) then 0 else 16
def I32 (l : List Int) : Prop := ∀ x ∈ l, -2147483648 ≤ x ∧ x ≤ 2147483647
def Qgt (P : Prg) (f : Nat) : Prop := ∀ (b : Int) (l : List Int), I32 l → VC P f [.int .i64 b, il l] (.int .i64 (ZF b l))
theorem Qkw {l : List Int} {k : Nat} (h : k < l.length) {p : Int → Bool} : (l.take (k + 1)).all p = ((l.take k).all p && p l[k]) := by
 rw [qm h, Yf]; simp
theorem Qqs {l : List Int} {k : Nat} (h : k < l.length) {p : Int → Bool} (hp : p l[k] = false) : l.all p = false := by
 rw [List.all_eq_false]
 exact ⟨l[k], qS h, by simp [hp]⟩
set_option maxRecDepth 10000 in
theorem Qm3 {P : Prg} {f fR : Nat} (b : Body P f 37 [.tmp 4] (JA fR)) (hR : QkH P fR) : Qgt P f := by
 intro x l hl
 refine QJ (by simp [isDL, isD, Qar]) rfl b ?_
 simp (disch := omega) only [rq, simprocAttr, JA]
 refine Qa (hR x) ?_
 by_cases h0 : QaU x = 0
 ·simp (disch := omega) only [rq, simprocAttr, Qa6, ZF, h0]
 have h3 : QaU x = 128 ∨ QaU x = 32768 ∨ QaU x = 8388608 := by rcases Qa7 x with h | h | h | h <;> omega
 by_cases h1 : 4000 < l.length
 ·simp (disch := omega) only [rq, simprocAttr, Qa6, ZF, h0, il, h1]
 simp (disch := omega) only [rq, simprocAttr, Qa6, il, qe h0]
 refine Qj (ι := Nat) (fun k => ⟨[(24, .int .i64 k), (23, .int .i64 l.length), (22, il l), (6, .int .i32 (QaU x - 1)), (5, .int .i32 (-QaU x))], []⟩) (fun k => k ≤ l.length ∧ (l.take k).all (inR x) = true) (fun k => l.length - k) 0 (QB (by simp [Am.look, il])) ⟨by omega, by simp⟩ ?_
 intro k ⟨hk, hg⟩
 by_cases hlt : k < l.length
 ·by_cases hp : -QaU x ≤ l[k] ∧ l[k] < QaU x
  ·have hs := Qkw hlt (p := inR x)
   simp (disch := omega) only [rq, simprocAttr, il, Qbv, hlt]
   exact ⟨k + 1, ⟨by omega, by rw [hs, hg]; simp [inR, hp]⟩, by omega, QB (by simp [Am.look, il])⟩
  ·have e : ZF x l = 16 := by simp [ZF, h0, h1, Qqs hlt (p := inR x) (by simp [inR]; omega)]
   by_cases hq : l[k] < -QaU x
   ·simp (disch := omega) only [rq, simprocAttr, il, Qbv, hlt, e]
   ·simp (disch := omega) only [rq, simprocAttr, il, Qbv, hlt, e]
 ·have e2 : k = l.length := by omega
  subst e2
  rw [yn] at hg
  simp (disch := omega) only [rq, simprocAttr, il, ZF, h0, h1, hg]
theorem QsT {n : Nat} {c : Int} (h : 1 ≤ c) : 0 ≤ (n : Int) % c ∧ (n : Int) % c < c := ⟨Int.emod_nonneg _ (by omega), Int.emod_lt_of_pos _ (by omega)⟩
def Q5 (r : Int) : Int := if 256 * r / 245 < 1 then 1 else 256 * r / 245
theorem Qcc (r : Int) : 1 ≤ Q5 r := by unfold Q5; split <;> omega
theorem Qvq {r : Int} (h : r ≤ 1048576) : Q5 r ≤ 1095654 := by unfold Q5; split <;> omega
def Qg6 (r : Int) : AV := if r < 1 ∨ 1048576 < r then .tup [.int .i64 0, .int .i64 2] else .tup [.int .i64 (Q5 r), .int .i64 0]
def QgA (P : Prg) (f : Nat) : Prop := ∀ r : Int, VC P f [.int .i64 r] (Qg6 r)
theorem QvO (r : Int) : isD (Qg6 r) = true := by unfold Qg6; split <;> rfl
theorem QlZ {P : Prg} {f : Nat} (b : Body P f 14 [.tmp 2, .tmp 3] ZG) : QgA P f := by
 intro r
 refine QJ rfl (QvO r) b ?_
 by_cases h1 : r < 1
 ·simp (disch := omega) only [rq, simprocAttr, ZG, Qg6, true_or]
 by_cases h2 : 1048576 < r
 ·simp (disch := omega) only [rq, simprocAttr, ZG, Qg6, or_true]
 have h3 : 1 ≤ 256 * r / 245 := by omega
 simp (disch := omega) only [rq, simprocAttr, ZG, Qg6, or_self, Q5]
 rw [show (if (1 : Int) < 256 * r / 245 then 256 * r / 245 else 1) = 256 * r / 245 by split <;> omega]
def QbM (c b : Int) : Int := if QaU b = 0 ∨ c < 1 ∨ 6 < c then 2 else 0
def shA (c b : Int) : AV := .agg [.int .i64 c, .int .i64 b]
def QkR (P : Prg) (f : Nat) : Prop := ∀ c b : Int, VC P f [shA c b] (.int .i64 (QbM c b))
theorem Qj5 {P : Prg} {f fR t0 : Nat} (b : Body P f 25 [.tmp 2] (XH fR t0)) (hR : QkH P fR) : QkR P f := by
 intro c x
 refine QJ rfl rfl b ?_
 simp (disch := omega) only [rq, simprocAttr, XH, shA]
 refine Qa (hR x) ?_
 by_cases h0 : QaU x = 0
 ·simp (disch := omega) only [rq, simprocAttr, Qa6, h0, QbM, true_or]
 by_cases h1 : c < 1
 ·simp (disch := omega) only [rq, simprocAttr, Qa6, qe h0, QbM, h0, or_true, true_or]
 by_cases h2 : 6 < c
 ·simp (disch := omega) only [rq, simprocAttr, Qa6, qe h0, QbM, h0, or_true]
 ·simp (disch := omega) only [rq, simprocAttr, Qa6, qe h0, QbM, h0, or_self]
def bss (l : List (List UInt8)) : AV := .list l.length (l.map bs)
theorem Qpw : ∀ l : List (List UInt8), isDL (l.map bs) = true
 | [] => rfl
 | x :: l => by simp [isDL, QM, Qpw l]
theorem Qx5 (l : List (List UInt8)) : isD (bss l) = true := by simp [bss, isD, Qpw]
theorem QjY : ∀ l : List (List UInt8), isTL (l.map bs) = true
 | [] => rfl
 | x :: l => by
  have : isT (bs x) = true := by simp [bs, isT]; induction x with | nil => rfl | cons y x ih => simp [QeR, isTL, isT, ih]
  simp [isTL, this, QjY l]
def w32 (x : Int) : Int := IntKind.i32.wrap x
theorem Qru (x : Int) : w32 x = (x + 2147483648) % 4294967296 - 2147483648 := by
 simp [w32, IntKind.wrap, IntKind.bits, IntKind.signed]; split <;> omega
theorem Qw4 (a b : Int) : w32 (w32 a + w32 b) = w32 (a + b) := by simp only [Qru]; omega
theorem Qrt {a : Int} (h1 : -2147483648 ≤ a) (h2 : a ≤ 2147483647) : w32 a = a := QoX h1 h2
theorem Qc8 (a : Int) : -2147483648 ≤ w32 a ∧ w32 a ≤ 2147483647 := by simp only [Qru]; omega
theorem Qal (x : Int) : IntKind.i32.wrap x = w32 x := rfl
theorem QaK {l : List Int} (h : I32 l) (k : Nat) : -2147483648 ≤ l.getD k 0 ∧ l.getD k 0 ≤ 2147483647 := by
 rw [qd]
 cases hk : l[k]? with
 | none => simp
 | some v => exact h v (yk hk)
theorem QwJ {K : IntKind} {l : List Int} {k : Nat} (h : k < l.length) : (ks K l)[k]? = some (.int K (l.getD k 0)) := by
 simp [ks, qd, qc h]
structure JU where
 sh : Int
 tp : List Int
 ps : List Int
def Qt (f : JU) : List AV := .int .i64 f.sh :: (ks .i32 f.tp ++ ks .i32 f.ps)
def Qb9 (f : JU) : Prop := f.tp.length = 16 ∧ f.ps.length = 16 ∧ I32 f.tp ∧ I32 f.ps
theorem Zm {f : JU} (h : Qb9 f) : (Qt f).length = 33 := by
 obtain ⟨h1, h2, _⟩ := h
 simp [Qt, Qc, h1, h2]
theorem ZA (f : JU) : (Qt f).all AV.one = true := by
 simp only [Qt, List.all_cons, Yf, Jl]; rfl
theorem ZU (f : JU) : isDL (Qt f) = true := by
 have : ∀ a b, isDL (ks .i32 a ++ ks .i32 b) = true := fun a b => by rw [Qg7]; exact Zf _ _
 simp [Qt, isDL, isD, this]
theorem Qma {f : JU} (h : Qb9 f) : ((Qt f).drop 1).take 16 = ks .i32 f.tp := by
 obtain ⟨h1, h2, _⟩ := h
 simp only [Qt, yM, List.drop_zero]
 rw [jB (by simp [Qc, h1])]
theorem QiX {f : JU} (h : Qb9 f) : ((Qt f).drop 17).take 16 = ks .i32 f.ps := by
 obtain ⟨h1, h2, _⟩ := h
 simp only [Qt, yM]
 rw [Yg (by simp [Qc, h1]), qi (by simp [Qc, h2])]
theorem QvY {f : JU} (h : Qb9 f) {k : Nat} (hk : k < 16) : (Qt f).drop (1 + k) = .int .i32 (f.tp.getD k 0) :: ((ks .i32 f.tp).drop (k + 1) ++ ks .i32 f.ps) := by
 obtain ⟨h1, h2, _⟩ := h
 rw [j8]
 simp only [Qt, yM]
 rw [List.drop_append_of_le_length (by simp [Qc, h1]; omega), Qbv (by omega), ← Jr]
 simp [qd, qc (show k < f.tp.length by omega)]
theorem Qtr {f : JU} (h : Qb9 f) {k : Nat} (hk : k < 16) : (Qt f).drop (17 + k) = .int .i32 (f.ps.getD k 0) :: (ks .i32 f.ps).drop (k + 1) := by
 obtain ⟨h1, h2, _⟩ := h
 rw [show 17 + k = (16 + k) + 1 by omega]
 simp only [Qt, yM]
 rw [← jy, Yg (by simp [Qc, h1]), Qbv (by omega), ← Jr]
 simp [qd, qc (show k < f.ps.length by omega)]
theorem Qn1 {f : JU} (h : Qb9 f) {k : Nat} (hk : k < 16) (v : Int) : (Qt f).take (1 + k) ++ [.int .i32 v] ++ (Qt f).drop (1 + k + 1) = Qt { f with tp := f.tp.set k v } := by
 obtain ⟨h1, h2, _⟩ := h
 rw [j8 1 k]
 simp only [Qt, jq, yM, qR]
 congr 1
 rw [List.take_append_of_le_length (by simp [Qc, h1]; omega), List.drop_append_of_le_length (by simp [Qc, h1]; omega), ← qz]
 congr 1
 rw [yr, qh (by omega)]
 simp [ks]
theorem Qmb {f : JU} (h : Qb9 f) {k : Nat} (hk : k < 16) (v : Int) : (Qt f).take (17 + k) ++ [.int .i32 v] ++ (Qt f).drop (17 + k + 1) = Qt { f with ps := f.ps.set k v } := by
 obtain ⟨h1, h2, _⟩ := h
 rw [show 17 + k = (16 + k) + 1 by omega]
 simp only [Qt, jq, yM, qR]
 congr 1
 have e : (ks .i32 f.tp).length = 16 := by simp [Qc, h1]
 rw [y7, qi (by omega), e, show 16 + k + 1 = 16 + (k + 1) by omega, ← jy, Yg e, show 16 + k - 16 = k by omega, qz, qz]
 congr 1
 rw [yr, qh (by omega)]
 simp [ks]
theorem QQ {α : Type} {l : List α} {n : Nat} (h : l.length ≤ n) : l.take n = l := qi h
def Qbo (b : Int) : Int := if b = 16 then 9 else 10
def z16 : List Int := List.replicate 16 0
def QjR (b : Int) (t : List Int) : JU := ⟨Qbo b, t, z16⟩
def Qk1 : JU := ⟨0, z16, z16⟩
def Qh8 (b : Int) (t : List Int) : AV := if QaU b = 0 then .tup [.agg (Qt Qk1), .int .i64 2] else .tup [.agg (Qt (QjR b t)), .int .i64 0]
def QpO (P : Prg) (f : Nat) : Prop := ∀ (b : Int) (t : List Int), t.length = 16 → VC P f [.int .i64 b, .agg (ks .i32 t)] (Qh8 b t)
theorem QvG (b : Int) (t : List Int) : isD (Qh8 b t) = true := by
 unfold Qh8; split <;> simp [isD, isDL, ZU]
theorem Qcp : Qt Qk1 = z1L := rfl
theorem QuL {P : Prg} {f t0 t1 : Nat} (b : Body P f 18 [.cell 4 t1, .tmp 5] (XM t0 t1)) (ht : Zq P t1 = some (some 33)) : QpO P f := by
 intro x t hl
 have hk : (ks .i32 t).length = 16 := by simp [Qc, hl]
 have h1 := Jl .i32 t
 have tk16 : (ks .i32 t).take 16 = ks .i32 t := QQ (by omega)
 refine QJ (by simp [isDL, isD, Zf]) (QvG _ _) b ?_
 have fin : ∀ s : Int, .int .i64 s :: (ks .i32 t ++ [.int .i32 0, .int .i32 0, .int .i32 0, .int .i32 0, .int .i32 0, .int .i32 0, .int .i32 0, .int .i32 0, .int .i32 0, .int .i32 0, .int .i32 0, .int .i32 0, .int .i32 0, .int .i32 0, .int .i32 0, .int .i32 0]) = Qt ⟨s, t, z16⟩ := fun _ => rfl
 have hl33 : ∀ s : Int, (Qt ⟨s, t, z16⟩).length = 33 := fun s => by simp [Qt, Qc, hl, z16]
 have ho := fun s => ZA ⟨s, t, z16⟩
 have tk : ∀ s : Int, (Qt ⟨s, t, z16⟩).take 33 = Qt ⟨s, t, z16⟩ := fun s => QQ (by rw [hl33]; omega)
 have st9 : ([] : List AV) ++ [.int .i64 9] ++ (Qt ⟨10, t, z16⟩).drop 1 = Qt ⟨9, t, z16⟩ := rfl
 have d9 : AV.int .i64 9 :: (Qt ⟨10, t, z16⟩).drop 1 = Qt ⟨9, t, z16⟩ := rfl
 rcases Qa7 x with ⟨rfl, h⟩ | ⟨rfl, h⟩ | ⟨rfl, h⟩ | ⟨h2, h3, h4, h⟩
 ·simp (disch := omega) only [rq, simprocAttr, XM, Qh8, h, hk, h1, tk16, fin, hl33, ho, tk, QP, ht, QjR, Qbo]
 ·simp (disch := omega) only [rq, simprocAttr, XM, Qh8, h, hk, h1, tk16, fin, hl33, ho, tk, QP, ht, QjR, Qbo, d9]
 ·simp (disch := omega) only [rq, simprocAttr, XM, Qh8, h, hk, h1, tk16, fin, hl33, ho, tk, QP, ht, QjR, Qbo]
 ·simp (disch := omega) only [rq, simprocAttr, XM, Qh8, h, hk, h1, tk16, fin, hl33, ho, tk, QP, ht, Qcp]
def Quv (s : Int) : Int := if s = 9 ∨ s = 10 then 0 else 8
def QeE (P : Prg) (f : Nat) : Prop := ∀ x : JU, Qb9 x → VC P f [.agg (Qt x)] (.int .i64 (Quv x.sh))
theorem QAz : Quv 9 = 0 := rfl
theorem Qy1 : Quv 10 = 0 := rfl
def QwS (a b : List Int) : Nat → Int
 | 0 => 0
 | k + 1 => QwS a b k + a.getD k 0 * b.getD k 0
def QdS (s : Int) : Int := if s = 9 then 512 else 1024
def Ql8 (f : JU) : Int := w32 (QdS f.sh / 2 + QwS f.tp f.ps 16) / QdS f.sh
def QkF (P : Prg) (f : Nat) : Prop := ∀ x : JU, Qb9 x → x.sh = 9 ∨ x.sh = 10 → VC P f [.agg (Qt x)] (.tup [.int .i32 (Ql8 x), .int .i64 0])
theorem Qxt : Ql true .i32 1 8 = some (.int .i32 256) := rfl
theorem Qxs : Ql true .i32 1 9 = some (.int .i32 512) := rfl
theorem Qxn (s : Int) : Ql false .i32 s 9 = some (.int .i32 (s / 512)) := by
 show some (AV.int .i32 (s.fdiv 512)) = _
 rw [qQ _ (by omega)]
theorem Qu2 (s : Int) : Ql false .i32 s 10 = some (.int .i32 (s / 1024)) := by
 show some (AV.int .i32 (s.fdiv 1024)) = _
 rw [qQ _ (by omega)]
theorem Qp9 {P : Prg} {f fC t0 : Nat} (b : Body P f 36 [.tmp 2, .tmp 3] (Qaa fC t0)) (hC : QeE P fC) : QkF P f := by
 intro x hx hs
 have l33 := Zm hx
 have tk : (Qt x).take 33 = Qt x := QQ (by omega)
 have ho := ZA x
 have e1 := Qma hx
 have e0 : (Qt x).drop 0 = .int .i64 x.sh :: (ks .i32 x.tp ++ ks .i32 x.ps) := rfl
 have ht : Quv x.sh = 0 := by simp [Quv, hs]
 have hl := hx.1
 refine QJ (by simp [isDL, isD, ZU]) rfl b ?_
 simp (disch := omega) only [rq, simprocAttr, Qaa, l33, tk, ho]
 refine Qa (hC x hx) ?_
 rcases hs with h | h
 all_goals
  have z0 : w32 (QdS x.sh / 2 + QwS x.tp x.ps 0) = QdS x.sh / 2 := by simp only [QwS, Yp]; exact Qrt (by simp [QdS, h]) (by simp [QdS, h])
  have z1 : QdS x.sh = 512 ∧ x.sh = 9 ∨ QdS x.sh = 1024 ∧ x.sh = 10 := by simp [QdS, h]
  simp (disch := omega) only [rq, simprocAttr, l33, tk, ho, QAz, Qy1, e1, ↓e0, h, Qxt, Qxs]
  refine Qj (ι := Nat) (fun k => ⟨[(19, .int .i64 k), (18, .agg (ks .i32 x.tp)), (5, .int .i32 (w32 (QdS x.sh / 2 + QwS x.tp x.ps k))), (1, .ref 0 1 0)], [⟨t0, 33, 1, Qt x, 0⟩]⟩) (fun k => k ≤ 16) (fun k => 16 - k) 0 (QB (by rw [z0]; simp [Am.look, h, QdS])) (by omega) ?_
  intro k hk
  by_cases hlt : k < 16
  ·have e2 := Qtr hx hlt
   have e3 := QwJ (K := .i32) (l := x.tp) (k := k) (by omega)
   have e4 : w32 (w32 (QdS x.sh / 2 + QwS x.tp x.ps k) + w32 (x.tp.getD k 0 * x.ps.getD k 0)) = w32 (QdS x.sh / 2 + QwS x.tp x.ps (k + 1)) := by
    rw [Qw4]; simp only [QwS]; congr 1; omega
   simp (disch := omega) only [rq, simprocAttr, l33, e2, e3, Qal, e4]
   exact ⟨k + 1, by omega, by omega, Qe⟩
  ·have e : k = 16 := by omega
   subst e
   simp (disch := omega) only [rq, simprocAttr, ↓e0, h, Qxn, Qu2, Ql8, QdS]
theorem Qqa {P : Prg} {f t0 : Nat} (b : Body P f 11 [.tmp 2] (Xo t0)) : QeE P f := by
 intro x hx
 have l33 := Zm hx
 have ho := ZA x
 have e0 : (Qt x).drop 0 = .int .i64 x.sh :: (ks .i32 x.tp ++ ks .i32 x.ps) := rfl
 refine QJ (by simp [isDL, isD, ZU]) rfl b ?_
 by_cases h9 : x.sh = 9
 ·simp (disch := omega) only [rq, simprocAttr, Xo, l33, ho, ↓e0, h9, Quv]
 by_cases h10 : x.sh = 10
 ·simp (disch := omega) only [rq, simprocAttr, Xo, l33, ho, ↓e0, h10, Quv]
 ·simp (disch := omega) only [rq, simprocAttr, Xo, l33, ho, ↓e0, Quv]
def Qnp (i : Nat) : Int := if i = 0 then 4 else if i < 4 then 2 else 1
def QoI (P : Prg) (f : Nat) : Prop := ∀ i : Nat, VC P f [.int .i64 i] (.int .i32 (Qnp i))
theorem QrR {P : Prg} {f : Nat} (b : Body P f 9 [.tmp 2] JO) : QoI P f := by
 intro i
 refine QJ rfl rfl b ?_
 by_cases h0 : i = 0
 ·subst h0; simp (disch := omega) only [rq, simprocAttr, JO, Qnp, Int.natCast_zero]
 by_cases h1 : i < 4
 ·simp (disch := omega) only [rq, simprocAttr, JO, Qnp, h0]
 ·simp (disch := omega) only [rq, simprocAttr, JO, Qnp, h0]
def sgn (x : Int) : Int := if x < 0 then -1 else if 0 < x then 1 else 0
def QuH (x : JU) (w : Int) (k : Nat) : Int := w32 (x.tp.getD k 0 + Qnp k * sgn (x.ps.getD k 0) * sgn w)
def Jk (x : JU) (w : Int) (k : Nat) : List Int := (List.range 16).map fun i => if i < k then QuH x w i else x.tp.getD i 0
def lf (x : JU) (w : Int) (k : Nat) : JU := { x with tp := Jk x w k }
def QaJ (x : JU) (w : Int) : JU := lf x w 16
theorem Qqp {l : List Int} (h : l.length = 16) : (List.range 16).map (fun i => l.getD i 0) = l := by
 apply yK (by simp [h])
 intro i h1 h2
 simp [qd, qc h2]
theorem QsZ (x : JU) (w : Int) (k : Nat) : (Jk x w k).length = 16 := by simp [Jk]
theorem QiQ {x : JU} (h : Qb9 x) (w : Int) : Jk x w 0 = x.tp := by
 have := Qqp h.1
 simpa [Jk] using this
theorem Qqz (x : JU) (w : Int) {k : Nat} (hk : k < 16) : (Jk x w k).getD k 0 = x.tp.getD k 0 := by
 simp [Jk, qd, hk]
theorem QsY (x : JU) (w : Int) {k : Nat} (hk : k < 16) : (Jk x w k).set k (QuH x w k) = Jk x w (k + 1) := by
 apply yK (by simp [Jk])
 intro i h1 h2
 rw [j9]
 simp only [Jk, List.getElem_map, List.getElem_range]
 by_cases e : k = i
 ·subst e; simp
 ·rw [qe e]
  by_cases h : i < k
  ·rw [qh h, qh (by omega)]
  ·rw [qe h, qe (by omega)]
theorem QiR (x : JU) (w : Int) {k : Nat} (h : QuH x w k = x.tp.getD k 0) : Jk x w (k + 1) = Jk x w k := by
 simp only [Jk]
 apply yu
 intro i _
 by_cases e : i = k
 ·subst e; simp [h]
 ·by_cases h : i < k
  ·rw [qh h, qh (by omega)]
  ·rw [qe h, qe (by omega)]
theorem Qut {x : JU} (h : Qb9 x) (w : Int) (k : Nat) : I32 (Jk x w k) := by
 intro v hv
 simp only [Jk, qO] at hv
 obtain ⟨i, _, rfl⟩ := hv
 split
 ·exact Qc8 _
 ·exact QaK h.2.2.1 i
theorem QlT {x : JU} (h : Qb9 x) (w : Int) (k : Nat) : Qb9 (lf x w k) := ⟨QsZ x w k, h.2.1, Qut h w k, h.2.2.2⟩
theorem Qgk {x : JU} (h : Qb9 x) (w : Int) : Qb9 (QaJ x w) := QlT h w 16
theorem Qvu {x : JU} (h : Qb9 x) : QaJ x 0 = x := by
 have key : ∀ k, Jk x 0 k = x.tp := fun k => by
  induction k with
  | zero => exact QiQ h 0
  | succ k ih =>
   rw [QiR x 0, ih]
   have := QaK h.2.2.1 k
   simp only [QuH, sgn]
   simp
   exact Qrt (by simpa using this.1) (by simpa using this.2)
 simp [QaJ, lf, key]
def QkE (P : Prg) (f : Nat) : Prop := ∀ (x : JU) (w : Int), Qb9 x → x.sh = 9 ∨ x.sh = 10 → VC P f [.agg (Qt x), .int .i32 w] (.tup [.agg (Qt (QaJ x w)), .int .i64 0])
theorem QrQ {s : Int} (h : s = 9 ∨ s = 10) : Quv s = 0 := by simp [Quv, h]
theorem Qp8 {P : Prg} {f fC fS t0 : Nat} (b : Body P f 53 [.cell 4 t0, .tmp 5] (J9 fC fS t0)) (ht : Zq P t0 = some (some 33)) (hC : QeE P fC) (hS : QoI P fS) : QkE P f := by
 intro x w hx hs
 have l33 := Zm hx
 have tk : (Qt x).take 33 = Qt x := QQ (by omega)
 have ho := ZA x
 have hc := QrQ hs
 have pp := QiX hx
 have lw := Zm (Qgk hx w)
 have tkw : (Qt (QaJ x w)).take 33 = Qt (QaJ x w) := QQ (by omega)
 have how := ZA (QaJ x w)
 refine QJ (by simp [isDL, isD, ZU]) (by simp [isD, isDL, ZU]) b ?_
 simp (disch := omega) only [rq, simprocAttr, J9, l33, tk, ho]
 refine Qa (hC x hx) ?_
 by_cases hw : w = 0
 ·subst hw
  have e := Qvu hx
  simp (disch := omega) only [rq, simprocAttr, l33, tk, ho, hc, QP, ht, e]
 simp (disch := omega) only [rq, simprocAttr, l33, tk, ho, hc, pp]
 refine Qj (ι := Nat) (fun k => ⟨[(20, .int .i64 k), (19, .agg (ks .i32 x.ps)), (4, .ref 1 1 0), (2, .ref 0 1 0), (1, .int .i32 w), (5, .int .i64 0)], [⟨t0, 33, 1, Qt (lf x w k), 0⟩, ⟨t0, 33, 1, Qt Qk1, 0⟩]⟩) (fun k => k ≤ 16) (fun k => 16 - k) 0 (by rw [show lf x w 0 = x by simp [lf, QiQ hx]]; exact Qe) (by omega) ?_
 intro k hk
 by_cases hlt : k < 16
 ·have hok := QlT hx w k
  have e1 := QwJ (K := .i32) (l := x.ps) (k := k) (by have := hx.2.1; omega)
  have e2 := QvY hok hlt
  have e3 := fun v => Qn1 hok hlt v
  have e4 := Qqz x w hlt
  have e5 := Zm hok
  have hu := QsY x w hlt
  have hp := QaK hx.2.2.2 k
  have htp := QaK hx.2.2.1 k
  have ef : ∀ v, ({ lf x w k with tp := (lf x w k).tp.set k v } : JU) = { x with tp := (Jk x w k).set k v } := fun _ => rfl
  have e7 : (lf x w k).tp.getD k 0 = x.tp.getD k 0 := e4
  by_cases p0 : x.ps.getD k 0 = 0
  ·have e6 := QiR x w (k := k) (by simp only [QuH, p0, sgn]; simp; exact Qrt (by simpa using htp.1) (by simpa using htp.2))
   simp (disch := omega) only [rq, simprocAttr, e1, p0]
   exact ⟨k + 1, by omega, by omega, by rw [show lf x w (k + 1) = lf x w k by simp [lf, e6]]; exact Qe⟩
  ·by_cases hsame : (x.ps.getD k 0 < 0 ↔ w < 0)
   ·have e6 : QuH x w k = w32 (x.tp.getD k 0 + Qnp k) := by
     simp only [QuH, sgn]; congr 1
     by_cases q : w < 0
     ·rw [qh q, qh (hsame.2 q)]; omega
     ·rw [qe q, qe (fun h => q (hsame.1 h)), qh (by omega), qh (by omega)]; omega
    rw [e6] at hu
    by_cases q : w < 0
    ·have q2 := hsame.2 q
     simp (disch := omega) only [rq, simprocAttr, e1, e2, e7]
     refine QN (hS k) ?_
     simp (disch := omega) only [rq, simprocAttr, e3, e5, Qal, ef, hu]
     exact ⟨k + 1, by omega, by omega, Qe⟩
    ·have q2 : ¬ x.ps.getD k 0 < 0 := fun h => q (hsame.1 h)
     simp (disch := omega) only [rq, simprocAttr, e1, e2, e7]
     refine QN (hS k) ?_
     simp (disch := omega) only [rq, simprocAttr, e3, e5, Qal, ef, hu]
     exact ⟨k + 1, by omega, by omega, Qe⟩
   ·have e6 : QuH x w k = w32 (x.tp.getD k 0 - Qnp k) := by
     simp only [QuH, sgn]; congr 1
     by_cases q : w < 0
     ·rw [qh q, qe (fun h => hsame ⟨fun _ => q, fun _ => h⟩), qh (by omega)]; omega
     ·rw [qe q, qh (Classical.byContradiction fun h => hsame ⟨fun h' => absurd h' h, fun h' => absurd h' q⟩), qh (by omega)]; omega
    rw [e6] at hu
    by_cases q : w < 0
    ·have q2 : ¬ x.ps.getD k 0 < 0 := fun h => hsame ⟨fun _ => q, fun _ => h⟩
     simp (disch := omega) only [rq, simprocAttr, e1, e2, e7]
     refine QN (hS k) ?_
     simp (disch := omega) only [rq, simprocAttr, e3, e5, Qal, ef, hu]
     exact ⟨k + 1, by omega, by omega, Qe⟩
    ·have q2 : x.ps.getD k 0 < 0 := Classical.byContradiction fun h => hsame ⟨fun h' => absurd h' h, fun h' => absurd h' q⟩
     simp (disch := omega) only [rq, simprocAttr, e1, e2, e7]
     refine QN (hS k) ?_
     simp (disch := omega) only [rq, simprocAttr, e3, e5, Qal, ef, hu]
     exact ⟨k + 1, by omega, by omega, Qe⟩
 ·have e : k = 16 := by omega
  subst e
  have hF : lf x w 16 = QaJ x w := rfl
  rw [hF]
  simp (disch := omega) only [rq, simprocAttr, lw, tkw, how, QP, ht, Qcp]
def Qic (x : JU) (v : Int) : JU := { x with ps := v :: x.ps.take 15 }
theorem QsH {x : JU} (h : Qb9 x) {v : Int} (hv : -2147483648 ≤ v ∧ v ≤ 2147483647) : Qb9 (Qic x v) := by
 obtain ⟨h1, h2, h3, h4⟩ := h
 refine ⟨h1, by simp [Qic, h2], h3, fun y hy => ?_⟩
 simp only [Qic, qx] at hy
 rcases hy with rfl | hy
 ·exact hv
 ·exact h4 y (qP hy)
def QoJ (P : Prg) (f : Nat) : Prop := ∀ (x : JU) (v : Int), Qb9 x → x.sh = 9 ∨ x.sh = 10 → VC P f [.agg (Qt x), .int .i32 v] (.tup [.agg (Qt (Qic x v)), .int .i64 0])
theorem QrS {P : Prg} {f fC t0 : Nat} (b : Body P f 22 [.cell 4 t0, .tmp 5] (QaN fC t0)) (ht : Zq P t0 = some (some 33)) (hC : QeE P fC) : QoJ P f := by
 intro x v hx hs
 have l33 := Zm hx
 have tk : (Qt x).take 33 = Qt x := QQ (by omega)
 have ho := ZA x
 have hc := QrQ hs
 have pp := QiX hx
 have h16 : (ks .i32 x.ps).length = 16 := by simp [Qc, hx.2.1]
 have o16 := Jl .i32 x.ps
 refine QJ (by simp [isDL, isD, ZU]) (by simp [isD, isDL, ZU]) b ?_
 simp (disch := omega) only [rq, simprocAttr, QaN, l33, tk, ho]
 refine Qa (hC x hx) ?_
 have hm : Nat.min 16 15 = 15 := rfl
 let y : JU := { x with ps := x.ps.getD 0 0 :: x.ps.take 15 }
 have hy : Qb9 y := QsH hx (QaK hx.2.2.2 0)
 have hcp : (Qt x).take 18 ++ (ks .i32 x.ps).take 15 ++ (Qt x).drop 33 = Qt y := by
  have e1 : (Qt x).drop 33 = [] := yw (by omega)
  have e2 : (ks .i32 x.tp).length = 16 := by simp [Qc, hx.1]
  have e3 : (ks .i32 x.ps).take 1 = [.int .i32 (x.ps.getD 0 0)] := by
   have h1 : 0 < x.ps.length := by have := hx.2.1; omega
   match hps : x.ps, h1 with
   | a :: l, _ => rfl
  rw [e1, yA]
  simp only [Qt, jq, qR, y]
  congr 1
  rw [y7, qi (by omega), e2, e3, qz, Qs2]
  rfl
 have hset : (Qt y).take 17 ++ [.int .i32 v] ++ (Qt y).drop 18 = Qt (Qic x v) := Qmb hy (k := 0) (by omega) v
 have ly := Zm hy
 have lp : (Qt (Qic x v)).length = 33 := by rw [← hset]; simp [ly]
 have tkp : (Qt (Qic x v)).take 33 = Qt (Qic x v) := QQ (by omega)
 have op := ZA (Qic x v)
 simp (disch := omega) only [rq, simprocAttr, l33, tk, ho, hc, pp, h16, o16, hm, hcp, hset, ly, lp, tkp, op, QP, ht, Qcp]
def Qau (x : JU) (v y : Int) : JU := Qic (QaJ x y) v
theorem Qg0 {x : JU} (h : Qb9 x) {v : Int} (hv : -2147483648 ≤ v ∧ v ≤ 2147483647) (y : Int) : Qb9 (Qau x v y) := QsH (Qgk h y) hv
def QhO (P : Prg) (f : Nat) : Prop := ∀ (x : JU) (v y : Int), Qb9 x → x.sh = 9 ∨ x.sh = 10 → -2147483648 ≤ v ∧ v ≤ 2147483647 → VC P f [.agg (Qt x), .int .i32 v, .int .i32 y] (.agg (Qt (Qau x v y)))
theorem Qqv {P : Prg} {f fL fP t0 : Nat} (b : Body P f 20 [.cell 6 t0] (Qac fL fP t0)) (ht : Zq P t0 = some (some 33)) (hL : QkE P fL) (hP : QoJ P fP) : QhO P f := by
 intro x v y hx hs hv
 have l1 := Zm hx
 have t1 : (Qt x).take 33 = Qt x := QQ (by omega)
 have o1 := ZA x
 have l2 := Zm (Qgk hx y)
 have t2 : (Qt (QaJ x y)).take 33 = Qt (QaJ x y) := QQ (by omega)
 have o2 := ZA (QaJ x y)
 have l3 := Zm (Qg0 hx hv y)
 have t3 : (Qt (Qau x v y)).take 33 = Qt (Qau x v y) := QQ (by omega)
 have o3 := ZA (Qau x v y)
 have d1 : (Qt x).drop 33 = [] := yw (by omega)
 have d2 : (Qt (QaJ x y)).drop 33 = [] := yw (by omega)
 refine QJ (by simp [isDL, isD, ZU]) (by simp [isD, ZU]) b ?_
 simp (disch := omega) only [rq, simprocAttr, Qac, l1, t1, o1]
 refine Qa (hL x y hx hs) ?_
 simp (disch := omega) only [rq, simprocAttr, l1, t1, o1, l2, t2, o2, d1]
 refine Qa (hP (QaJ x y) v (Qgk hx y) hs) ?_
 rw [← Qau]
 simp (disch := omega) only [rq, simprocAttr, l1, t1, o1, l2, t2, o2, l3, t3, o3, d1, d2, QP, ht, Qcp]
def QBx (x : JU) (v : Int) : Int := w32 (v - Ql8 x)
def QBy (x : JU) (v : Int) : JU := Qau x v (QBx x v)
def Qt1 (x : JU) (y : Int) : Int := w32 (y + Ql8 x)
def QAt (x : JU) (y : Int) : JU := Qau x (Qt1 x y) y
def QoO (P : Prg) (f : Nat) : Prop := ∀ (x : JU) (y : Int), Qb9 x → x.sh = 9 ∨ x.sh = 10 → VC P f [.agg (Qt x), .int .i32 y] (.tup [.int .i32 (Qt1 x y), .agg (Qt (QAt x y)), .int .i64 0])
theorem Qvr {P : Prg} {f fG fB t0 : Nat} (b : Body P f 27 [.tmp 4, .cell 5 t0, .tmp 6] (QbF fG fB t0)) (ht : Zq P t0 = some (some 33)) (hG : QkF P fG) (hB : QhO P fB) : QoO P f := by
 intro x y hx hs
 have hv := Qc8 (y + Ql8 x)
 have l1 := Zm hx
 have t1 : (Qt x).take 33 = Qt x := QQ (by omega)
 have o1 := ZA x
 have l3 := Zm (Qg0 hx hv y)
 have t3 : (Qt (Qau x (Qt1 x y) y)).take 33 = Qt (Qau x (Qt1 x y) y) := QQ (by unfold Qt1; omega)
 have o3 := ZA (Qau x (Qt1 x y) y)
 refine QJ (by simp [isDL, isD, ZU]) (by simp [isD, isDL, ZU]) b ?_
 simp (disch := omega) only [rq, simprocAttr, QbF, l1, t1, o1]
 refine Qa (hG x hx hs) ?_
 simp (disch := omega) only [rq, simprocAttr, l1, t1, o1, Qal]
 refine Qa (hB x (Qt1 x y) y hx hs hv) ?_
 simp only [Qt1] at l3 t3 o3
 simp (disch := omega) only [rq, simprocAttr, l1, t1, o1, l3, t3, o3, QP, ht, Qcp, QAt, Qt1]
def Qhf (b last : Int) : Int := if b = 8 then 15 * last / 16 else 31 * last / 32
def QkP (P : Prg) (f : Nat) : Prop := ∀ b : Int, QaU b ≠ 0 → VC P f [.int .i64 b] (.tup [.int .i64 (if b = 8 then 4 else 5), .int .i64 0])
theorem QnZ {P : Prg} {f : Nat} (b : Body P f 10 [.tmp 2, .tmp 3] Z0) : QkP P f := by
 intro x hx
 refine QJ rfl rfl b ?_
 rcases Qa7 x with ⟨rfl, h⟩ | ⟨rfl, h⟩ | ⟨rfl, h⟩ | ⟨h2, h3, h4, h⟩
 ·simp (disch := omega) only [rq, simprocAttr, Z0]
 ·simp (disch := omega) only [rq, simprocAttr, Z0]
 ·simp (disch := omega) only [rq, simprocAttr, Z0]
 ·exact absurd h hx
theorem Qxr {x : Int} (h : -2147483648 ≤ x ∧ x ≤ 2147483647) : Ql true .i64 x 4 = some (.int .i64 (x * 16)) := by
 show some (AV.int .i64 (IntKind.i64.wrap (x * 16))) = _
 rw [Xk (by omega) (by omega)]
theorem Qxq {x : Int} (h : -2147483648 ≤ x ∧ x ≤ 2147483647) : Ql true .i64 x 5 = some (.int .i64 (x * 32)) := by
 show some (AV.int .i64 (IntKind.i64.wrap (x * 32))) = _
 rw [Xk (by omega) (by omega)]
theorem Qxm (x : Int) : Ql false .i64 x 4 = some (.int .i64 (x / 16)) := by
 show some (AV.int .i64 (x.fdiv 16)) = _
 rw [qQ _ (by omega)]
theorem Qxl (x : Int) : Ql false .i64 x 5 = some (.int .i64 (x / 32)) := by
 show some (AV.int .i64 (x.fdiv 32)) = _
 rw [qQ _ (by omega)]
def QkO (P : Prg) (f : Nat) : Prop := ∀ (b l : Int), -2147483648 ≤ l ∧ l ≤ 2147483647 → VC P f [.int .i64 (if b = 8 then 4 else 5), .int .i32 l] (.int .i32 (Qhf b l))
theorem QnY {P : Prg} {f : Nat} (b : Body P f 16 [.tmp 4] XA) : QkO P f := by
 intro x l hl
 refine QJ rfl rfl b ?_
 have e1 : l * 16 - l = 15 * l := by omega
 have e2 : l * 32 - l = 31 * l := by omega
 have a := Qxr hl
 have c := Qxq hl
 by_cases h : x = 8
 ·simp (disch := omega) only [rq, simprocAttr, XA, h, Qhf, a, Qxm, e1]
 ·simp (disch := omega) only [rq, simprocAttr, XA, qe h, Qhf, c, Qxl, e2]
def QkQ (P : Prg) (f : Nat) : Prop := ∀ (b l : Int), QaU b ≠ 0 → -2147483648 ≤ l ∧ l ≤ 2147483647 → VC P f [.int .i64 b, .int .i32 l] (.tup [.int .i32 (Qhf b l), .int .i64 0])
theorem Qn0 {P : Prg} {f fS fg : Nat} (b : Body P f 19 [.tmp 4, .tmp 5] (JD fS fg)) (hS : QkP P fS) (hg : QkO P fg) : QkQ P f := by
 intro x l hx hl
 refine QJ rfl rfl b ?_
 simp (disch := omega) only [rq, simprocAttr, JD]
 refine Qa (hS x hx) ?_
 simp (disch := omega) only [rq, simprocAttr]
 refine Qa (hg x l hl) ?_
 simp (disch := omega) only [rq, simprocAttr]
structure JJ where
 bits : Int
 last : Int
 fl : JU
def ZJ (c : JJ) : List AV := .int .i64 c.bits :: .int .i32 c.last :: Qt c.fl
def QwB (c : JJ) : Prop := QaU c.bits ≠ 0 ∧ c.fl.sh = Qbo c.bits ∧ Qb9 c.fl ∧ (-2147483648 ≤ c.last ∧ c.last ≤ 2147483647)
def Qdr : JJ := ⟨0, 0, Qk1⟩
theorem Jz {c : JJ} (h : Qb9 c.fl) : (ZJ c).length = 35 := by simp [ZJ, Zm h]
theorem QaL (c : JJ) : (ZJ c).all AV.one = true := by simp [ZJ, AV.one, ZA]
theorem Qd3 (c : JJ) : isDL (ZJ c) = true := by simp [ZJ, isDL, isD, ZU]
theorem Qu5 (b : Int) : Qbo b = 9 ∨ Qbo b = 10 := by unfold Qbo; split <;> simp
theorem QsI {b : Int} {t : List Int} (h1 : t.length = 16) (h2 : I32 t) : Qb9 (QjR b t) := ⟨h1, by simp [QjR, z16], h2, fun x hx => by simp [QjR, z16] at hx; omega⟩
theorem Qgb : ZJ Qdr = z2L := rfl
def Qf1 (b : Int) (t : List Int) : JJ := ⟨b, 0, QjR b t⟩
def QqX (b : Int) (t : List Int) : AV := if QaU b = 0 then .tup [.agg (ZJ Qdr), .int .i64 2] else .tup [.agg (ZJ (Qf1 b t)), .int .i64 0]
def Qum (P : Prg) (f : Nat) : Prop := ∀ (b : Int) (t : List Int), t.length = 16 → I32 t → VC P f [.int .i64 b, .agg (ks .i32 t)] (QqX b t)
theorem QvS (b : Int) (t : List Int) : isD (QqX b t) = true := by unfold QqX; split <;> simp [isD, isDL, Qd3]
theorem QtQ {P : Prg} {f fT t0 t1 t2 : Nat} (b : Body P f 21 [.cell 4 t1, .tmp 5] (QaQ fT t0 t1 t2)) (ht : Zq P t1 = some (some 35)) (hT : QpO P fT) : Qum P f := by
 intro x t hl hI
 have hk : (ks .i32 t).length = 16 := by simp [Qc, hl]
 have h1 := Jl .i32 t
 have tk16 : (ks .i32 t).take 16 = ks .i32 t := QQ (by omega)
 have hok : Qb9 (QjR x t) := QsI hl hI
 have l1 := Zm hok
 have t1' : (Qt (QjR x t)).take 33 = Qt (QjR x t) := QQ (by omega)
 have o1 := ZA (QjR x t)
 have lc := Jz (c := Qf1 x t) hok
 have tc : (ZJ (Qf1 x t)).take 35 = ZJ (Qf1 x t) := QQ (by omega)
 have oc := QaL (Qf1 x t)
 have mk : AV.int .i64 x :: .int .i32 0 :: Qt (QjR x t) = ZJ (Qf1 x t) := rfl
 refine QJ (by simp [isDL, isD, Zf]) (QvS _ _) b ?_
 simp (disch := omega) only [rq, simprocAttr, QaQ, hk, h1, tk16]
 refine Qa (hT x t hl) ?_
 by_cases h0 : QaU x = 0
 ·simp (disch := omega) only [rq, simprocAttr, Qh8, h0, QqX, Qcp, Qgb, QP, ht]
 ·simp (disch := omega) only [rq, simprocAttr, Qh8, qe h0, QqX, l1, t1', o1, lc, tc, oc, mk, Qgb, QP, ht]
theorem Qyv {c : JJ} (h : Qb9 c.fl) : ((ZJ c).drop 2).take 33 = Qt c.fl := by
 simp only [ZJ, yM, List.drop_zero]
 exact QQ (by rw [Zm h]; omega)
theorem QtO {c : JJ} (h : Qb9 c.fl) : ((ZJ c).drop 3).take 16 = ks .i32 c.fl.tp := Qma h
def QkV (P : Prg) (f : Nat) : Prop := ∀ c : JJ, QwB c → VC P f [.agg (ZJ c)] (.int .i64 0)
theorem Qoh {P : Prg} {f fT t0 t1 : Nat} (b : Body P f 24 [.tmp 2] (JI fT t0 t1)) (hT : QpO P fT) : QkV P f := by
 intro c ⟨h1, h2, h3, h4⟩
 have lc := Jz h3
 have oc := QaL c
 have e0 : (ZJ c).drop 0 = .int .i64 c.bits :: .int .i32 c.last :: Qt c.fl := rfl
 have e2 : (ZJ c).drop 2 = .int .i64 c.fl.sh :: (ks .i32 c.fl.tp ++ ks .i32 c.fl.ps) := rfl
 have et := QtO h3
 have hk : (ks .i32 c.fl.tp).length = 16 := by simp [Qc, h3.1]
 have hok : Qb9 (QjR c.bits c.fl.tp) := QsI h3.1 h3.2.2.1
 have l1 := Zm hok
 have t1' : (Qt (QjR c.bits c.fl.tp)).take 33 = Qt (QjR c.bits c.fl.tp) := QQ (by omega)
 have o1 := ZA (QjR c.bits c.fl.tp)
 have en : (Qt (QjR c.bits c.fl.tp)).drop 0 = .int .i64 (Qbo c.bits) :: (ks .i32 c.fl.tp ++ ks .i32 z16) := rfl
 have dn : (Qt (QjR c.bits c.fl.tp)).drop 33 = [] := yw (by omega)
 refine QJ (by simp [isDL, isD, Qd3]) rfl b ?_
 simp (disch := omega) only [rq, simprocAttr, JI, lc, oc, ↓e0, et]
 refine Qa (hT c.bits c.fl.tp h3.1) ?_
 simp (disch := omega) only [rq, simprocAttr, Qh8, qe h1, l1, t1', o1, ↓en, ↓e2, h2, dn]
def QA2 (c : JJ) (x : Int) : Int := w32 (x - Qhf c.bits c.last)
def QA3 (c : JJ) (x : Int) : JJ := ⟨c.bits, x, QBy c.fl (QA2 c x)⟩
def Qq1 (c : JJ) (y : Int) : Int := w32 (Qt1 c.fl y + Qhf c.bits c.last)
def QbX (c : JJ) (y : Int) : JJ := ⟨c.bits, Qq1 c y, QAt c.fl y⟩
theorem QnK {c : JJ} (h : QwB c) (y : Int) : QwB (QbX c y) := ⟨h.1, h.2.1, Qg0 h.2.2.1 (Qc8 _) _, Qc8 _⟩
def QoS (P : Prg) (f : Nat) : Prop := ∀ (c : JJ) (y : Int), QwB c → VC P f [.agg (ZJ c), .int .i32 y] (.tup [.int .i32 (Qq1 c y), .agg (ZJ (QbX c y)), .int .i64 0])
theorem Qq0 {P : Prg} {f fC fG fF t0 t1 : Nat} (b : Body P f 46 [.tmp 4, .cell 5 t0, .tmp 6] (Qah fC fG fF t0 t1)) (ht : Zq P t0 = some (some 35)) (hC : QkV P fC) (hG : QkQ P fG) (hF : QoO P fF) : QoS P f := by
 intro c x hc
 obtain ⟨h1, h2, h3, h4⟩ := id hc
 have hs : c.fl.sh = 9 ∨ c.fl.sh = 10 := by rw [h2]; exact Qu5 _
 have lc := Jz h3
 have tc : (ZJ c).take 35 = ZJ c := QQ (by omega)
 have oc := QaL c
 have e0 : (ZJ c).drop 0 = .int .i64 c.bits :: .int .i32 c.last :: Qt c.fl := rfl
 have e1 : (ZJ c).drop 1 = .int .i32 c.last :: Qt c.fl := rfl
 have e2 := Qyv h3
 have hok := QnK hc x
 have l1 := Zm hok.2.2.1
 have t1' : (Qt (QbX c x).fl).take 33 = Qt (QbX c x).fl := QQ (by omega)
 have o1 := ZA (QbX c x).fl
 have d1 : (Qt (QbX c x).fl).drop 33 = [] := yw (by omega)
 have l2 := Jz hok.2.2.1
 have t2 : (ZJ (QbX c x)).take 35 = ZJ (QbX c x) := QQ (by omega)
 have o2 := QaL (QbX c x)
 have mk : AV.int .i64 c.bits :: .int .i32 (Qq1 c x) :: Qt (QbX c x).fl = ZJ (QbX c x) := rfl
 have hfe : QAt c.fl x = (QbX c x).fl := rfl
 have hye : w32 (Qt1 c.fl x + Qhf c.bits c.last) = Qq1 c x := rfl
 refine QJ (by simp [isDL, isD, Qd3]) (by simp [isD, isDL, Qd3]) b ?_
 simp (disch := omega) only [rq, simprocAttr, Qah, lc, tc, oc]
 refine Qa (hC c hc) ?_
 simp (disch := omega) only [rq, simprocAttr, lc, tc, oc, ↓e0, ↓e1]
 refine Qa (hG c.bits c.last h1 h4) ?_
 simp (disch := omega) only [rq, simprocAttr, lc, tc, oc, e2, Qal]
 refine Qa (hF c.fl x h3 hs) ?_
 rw [hfe]
 simp (disch := omega) only [rq, simprocAttr, lc, tc, oc, ↓e0, l1, t1', o1, d1, l2, t2, o2, mk, QP, ht, Qgb, Qal, hye]
theorem QrO {x : Int} (h : x < 0) (n : Int) : x.tdiv n = -(-x / n) ∧ x.tmod n = -(-x % n) := by
 have e : x = -(-x) := by omega
 constructor
 ·rw [e, Int.neg_tdiv, ym (by omega)]; simp
 ·rw [e, Int.neg_tmod, jI (by omega)]; simp
def QAH (x : JU) (k : Nat) : List Int := (List.range 16).map fun j => if k < j then x.ps.getD (j - 1) 0 else x.ps.getD j 0
def pf (x : JU) (k : Nat) : JU := { x with ps := QAH x k }
theorem QuD {a : Nat} (h : a < 4294967296) : (BitVec.ofInt 32 (a : Int) ^^^ BitVec.ofInt 32 4294967295).toNat = 4294967295 - a := by
 have e : BitVec.ofInt 32 4294967295 = BitVec.allOnes 32 := by decide
 rw [e, BitVec.xor_allOnes, BitVec.toNat_not]
 have : (BitVec.ofInt 32 (a : Int)).toNat = a := by simp; omega
 rw [this]
theorem Qrm {a : Nat} (h : a < 4294967296) : (BitVec.ofInt 32 (a : Int) ^^^ BitVec.ofInt 32 0).toNat = a := by
 have : (BitVec.ofInt 32 (a : Int)).toNat = a := by simp; omega
 rw [Yb, this]
 simp
def Jh (n : Int) : Int := if n % 2 = 0 then n / 2 else -(n / 2) - 1
def QoG (P : Prg) (f : Nat) : Prop := ∀ n : Int, 0 ≤ n ∧ n < 4294967296 → VC P f [.int .u32 n] (.int .i32 (Jh n))
theorem QyB {a : Nat} (h : a < 4294967296) : (BitVec.ofInt 32 (a : Int) &&& BitVec.ofInt 32 1).toNat = a % 2 := by
 have : (BitVec.ofInt 32 (a : Int)).toNat = a := by simp; omega
 rw [Ya, this]
 exact Nat.and_one_is_mod a
theorem Qtp {P : Prg} {f : Nat} (b : Body P f 11 [.tmp 2] JQ) : QoG P f := by
 intro n hn
 refine QJ rfl rfl b ?_
 have a1 : Ql false .u32 n 1 = some (.int .u32 (n / 2)) := by
  show some (AV.int .u32 (n.fdiv 2)) = _
  rw [qQ _ (by omega)]
 have a2 : (((BitVec.ofInt IntKind.u32.bits n &&& BitVec.ofInt IntKind.u32.bits 1).toNat : Nat) : Int) = n % 2 := by
  show (((BitVec.ofInt 32 n &&& BitVec.ofInt 32 1).toNat : Nat) : Int) = n % 2
  have := QyB (a := n.toNat) (by omega)
  rw [show ((n.toNat : Nat) : Int) = n by omega] at this
  rw [this]; omega
 by_cases h : n % 2 = 0
 ·have a3 : (((BitVec.ofInt IntKind.i32.bits (n / 2) ^^^ BitVec.ofInt IntKind.i32.bits 0).toNat : Nat) : Int) = n / 2 := by
   show (((BitVec.ofInt 32 (n / 2) ^^^ BitVec.ofInt 32 0).toNat : Nat) : Int) = n / 2
   have := Qrm (a := (n / 2).toNat) (by omega)
   rw [show (((n / 2).toNat : Nat) : Int) = n / 2 by omega] at this
   rw [this]; omega
  simp (disch := omega) only [rq, simprocAttr, JQ, a1, a2, h, a3, Jh]
 ·have h1 : n % 2 = 1 := by omega
  have a3 : (((BitVec.ofInt IntKind.i32.bits (n / 2) ^^^ BitVec.ofInt IntKind.i32.bits (-1)).toNat : Nat) : Int) = 4294967295 - n / 2 := by
   show (((BitVec.ofInt 32 (n / 2) ^^^ BitVec.ofInt 32 (-1)).toNat : Nat) : Int) = 4294967295 - n / 2
   have := QuD (a := (n / 2).toNat) (by omega)
   rw [show (((n / 2).toNat : Nat) : Int) = n / 2 by omega] at this
   rw [show BitVec.ofInt 32 (-1) = BitVec.ofInt 32 4294967295 by decide, this]; omega
  have a4 : IntKind.i32.wrap (4294967295 - n / 2) = -(n / 2) - 1 := by rw [Qal, Qru]; omega
  simp (disch := omega) only [rq, simprocAttr, JQ, a1, a2, h1, a3, a4, Jh]
theorem QwH {K : IntKind} {l : List Int} {i : Nat} (h : i < l.length) (v : Int) : (ks K l).take i ++ [.int K v] ++ (ks K l).drop (i + 1) = ks K (l.set i v) := by
 rw [yr, qh h]
 simp [ks]
theorem Qbu {K : IntKind} {l : List Int} {i : Nat} (h : i < l.length) : (ks K l).drop i = .int K (l.getD i 0) :: ks K (l.drop (i + 1)) := by
 rw [Qbv h]; simp [qd, qc h]
theorem Qya {α : Type} (l : List α) (x : α) : (l ++ [x])[l.length]? = some x := by simp
theorem Qxu {α : Type} (l : List α) (x y : α) : (l ++ [x]).set l.length y = l ++ [y] := by simp
def QkU (t : Nat) (P : Prg) (f : Nat) : Prop := ∀ (l : List Int) (ob : List Ob) (K : AV → List Ob → Prop), 0 < l.length → l.length ≤ 1000000 → K (.own ob.length l.length) (ob ++ [⟨t, 1, l.length, ks .i32 l, 0⟩]) → ACall P f [il l] ob K
theorem QtM {P : Prg} {f t0 : Nat} (b : Body P f 8 [.tmp 2] (QS t0)) : QkU t0 P f := by
 intro l ob K h0 h1 hK
 refine Qb b (by simp) ?_
 have g1 := fun x : Ob => Qya ob x
 have g2 := fun x y : Ob => Qxu ob x y
 have n0 : l.length ≠ 0 := by omega
 simp (disch := omega) only [rq, simprocAttr, QS, il, Qrh, n0, g1, g2, QwI]
 exact hK
theorem Qd5 {a b : List Int} (h : a.length = b.length) (h2 : ∀ j, j < a.length → a.getD j 0 = b.getD j 0) : a = b := by
 apply yK h
 intro i h1 h3
 have := h2 i h1
 simpa [qd, qc h1, qc h3] using this
theorem XV {g : Nat → Int} {n j : Nat} (h : j < n) : ((List.range n).map g).getD j 0 = g j := by
 simp [qd, h]
theorem Qpc {l : List Int} {i j : Nat} {v : Int} (h : j < l.length) : (l.set i v).getD j 0 = if i = j then v else l.getD j 0 := by
 simp only [qd, qZ]
 split
 ·subst_vars; simp [h]
 ·rfl
theorem QrP {x : Int} (h : -2147483648 ≤ x ∧ x ≤ 2147483647) : -2147483648 ≤ x.tdiv 2 ∧ x.tdiv 2 ≤ 2147483647 := by
 by_cases hx : x < 0
 ·rw [(QrO hx 2).1]; omega
 ·rw [ym (by omega)]; omega
def Qcb (c : Int) (n : Nat) : Int := if c < 1 ∨ 6 < c then 2 else if 4000 < n then 4 else if (n : Int) % c ≠ 0 then 2 else 0
def QkI (P : Prg) (f : Nat) : Prop := ∀ (c : Int) (l : List Int), VC P f [.int .i64 c, il l] (.int .i64 (Qcb c l.length))
theorem QsV {P : Prg} {f : Nat} (b : Body P f 22 [.tmp 4] ZN) : QkI P f := by
 intro c l
 refine QJ (by simp [isDL, isD, Qar]) rfl b ?_
 by_cases h1 : c < 1
 ·simp (disch := omega) only [rq, simprocAttr, ZN, il, Qcb]
 by_cases h2 : 6 < c
 ·simp (disch := omega) only [rq, simprocAttr, ZN, il, Qcb]
 by_cases h3 : 4000 < l.length
 ·simp (disch := omega) only [rq, simprocAttr, ZN, il, Qcb]
 have hm := QsT (n := l.length) (c := c) (by omega)
 by_cases h4 : (l.length : Int) % c = 0
 ·simp (disch := omega) only [rq, simprocAttr, ZN, il, Qcb, h4]
 ·simp (disch := omega) only [rq, simprocAttr, ZN, il, Qcb, h4]
def okM (c : Nat) (l : List Int) : Prop := 1 ≤ c ∧ c ≤ 6 ∧ 0 < l.length ∧ l.length ≤ 4000 ∧ l.length % c = 0 ∧ I32 l
theorem QsJ {c : Nat} {l : List Int} (h : okM c l) : Qcb c l.length = 0 := by
 obtain ⟨h1, h2, h3, h4, h5, _⟩ := h
 unfold Qcb
 rw [qe (by omega), qe (by omega), qe (by rw [← Int.natCast_emod, h5]; simp)]
theorem Qvn {c m q : Nat} (h : c * m < c * q) : c * m + c ≤ c * q := by
 have : m < q := jN h
 have := yL c (show m + 1 ≤ q by omega)
 rw [js, jD] at this
 exact this
theorem Qce (c x : Int) : QbM c x = 2 ∨ (QbM c x = 0 ∧ QaU x ≠ 0 ∧ 1 ≤ c ∧ c ≤ 6) := by unfold QbM; split <;> omega
def six (S : Nat → JJ) : List AV := ZJ (S 0) ++ (ZJ (S 1) ++ (ZJ (S 2) ++ (ZJ (S 3) ++ (ZJ (S 4) ++ ZJ (S 5)))))
def okS (S : Nat → JJ) : Prop := ∀ k, Qb9 (S k).fl
theorem Qnv {S : Nat → JJ} (h : okS S) : (six S).length = 210 := by simp [six, Jz (h _)]
theorem QBb {k : Nat} (h : k < 6) : k = 0 ∨ k = 1 ∨ k = 2 ∨ k = 3 ∨ k = 4 ∨ k = 5 := by omega
theorem Qy9 {S : Nat → JJ} (h : okS S) {k : Nat} (hk : k < 6) : ((six S).drop (k * 35)).take 35 = ZJ (S k) := by
 have l := fun k => Jz (h k)
 rcases QBb hk with rfl | rfl | rfl | rfl | rfl | rfl <;> simp [six, jP, y7, l, yw, QQ]
def upd (S : Nat → JJ) (k : Nat) (c : JJ) : Nat → JJ := fun j => if j = k then c else S j
theorem Qr7 {S : Nat → JJ} (h : okS S) {k : Nat} (hk : k < 6) (c : JJ) : (six S).take (k * 35) ++ ZJ c ++ (six S).drop (k * 35 + 35) = six (upd S k c) := by
 have l := fun k => Jz (h k)
 rcases QBb hk with rfl | rfl | rfl | rfl | rfl | rfl <;> simp [six, upd, jP, y7, l, yw, QQ]
theorem Qs7 (c : JJ) : isTL (ZJ c) = true := by simp [ZJ, Qt, isTL, isT, Xd, Qp]
theorem QvD (S : Nat → JJ) : isTL (six S) = true := by simp [six, Xd, Qs7]
theorem QyD (S : Nat → JJ) : (six S).all AV.one = true := by simp only [six, Yf, QaL, Yc]
def stC (c : Nat) (L : List Int) (z : JJ) (k : Nat) : Nat → JJ
 | 0 => z
 | n + 1 => QA3 (stC c L z k n) (L.getD (k + n * c) 0)
def cnt (c k i : Nat) : Nat := if k < i % c then i / c + 1 else i / c
theorem QA1 (c k : Nat) : cnt c k 0 = 0 := by simp [cnt]
theorem Qwc (c i : Nat) : cnt c (i % c) i = i / c := by simp [cnt]
theorem Qwb {c k i : Nat} (hk : k < c) : cnt c k (i + 1) = if k = i % c then i / c + 1 else cnt c k i := by
 have hc : 0 < c := by omega
 have hr := yc i hc
 have hi := Yi i c
 unfold cnt
 by_cases h : i % c + 1 < c
 ·have e1 : (i + 1) % c = i % c + 1 := by
   rw [show i + 1 = c * (i / c) + (i % c + 1) by omega, Nat.mul_add_mod, qV h]
  have e2 : (i + 1) / c = i / c := by
   rw [show i + 1 = (i % c + 1) + c * (i / c) by omega, Nat.add_mul_div_left _ _ hc, jw h, ya]
  rw [e1, e2]
  split <;> split <;> (try split) <;> omega
 ·have e0 : i + 1 = c * (i / c + 1) := by rw [js]; omega
  have e1 : (i + 1) % c = 0 := by rw [e0, Nat.mul_mod_right]
  have e2 : (i + 1) / c = i / c + 1 := by rw [e0, Nat.mul_div_cancel_left _ hc]
  rw [e1, e2]
  split <;> split <;> (try split) <;> omega
def stA (c : Nat) (L : List Int) (z : JJ) (i : Nat) : Nat → JJ := fun k => if k < c then stC c L z k (cnt c k i) else z
def Qnl (l : List Int) : AV := .list l.length (ks .u32 l)
theorem QvF (l : List Int) : isD (Qnl l) = true := by simp [Qnl, isD, Zf]
theorem XI (os : List Ob) {xs : List Ob} {fr fr' : List (Nat × AV)} (h : ∀ o ∈ os, isTL o.cs = true)
  (hfr : ∀ p ∈ fr', p.2 = .any ∨ Qx (fun o => decide (o < os.length)) (fun o => decide (os.length ≤ o)) (os ++ xs) 2 [look fr p.1] = some [p.2]) : Le 0 ⟨fr, os ++ xs⟩ ⟨fr', os⟩ := by
 refine Le.drop os.length 2 (by omega) rfl hfr ?_
 intro i y hy
 have hi : i < os.length := by
  rcases jW i os.length with h | h
  ·exact h
  ·rw [qU h] at hy; cases hy
 refine ⟨y.cs, by rw [qp hi]; exact hy, ?_⟩
 simp only [Qx]
 exact frzL_T _ (h y (yk hy))
theorem QjP : Qb9 Qdr.fl := ⟨by simp [Qdr, Qk1, z16], by simp [Qdr, Qk1, z16], fun x hx => by simp [Qdr, Qk1, z16] at hx; omega, fun x hx => by simp [Qdr, Qk1, z16] at hx; omega⟩
def Qux (z : JJ) (i : Nat) : Nat → JJ := fun k => if k < i then z else Qdr
theorem Qzs (z : JJ) : Qux z 0 = fun _ => Qdr := by funext k; simp [Qux]
theorem QsR (z : JJ) (i : Nat) : upd (Qux z i) i z = Qux z (i + 1) := by
 funext k
 simp only [upd, Qux]
 split <;> split <;> (try split) <;> first | rfl | omega
theorem QxG {z : JJ} (h : Qb9 z.fl) (i : Nat) : okS (Qux z i) := fun k => by
 unfold Qux; split
 ·exact h
 ·exact QjP
theorem QAC (z : JJ) : six (Qux z 6) = six (fun _ => z) := by simp [six, Qux]
theorem QxH {x : Int} (hx : QaU x ≠ 0) {t : List Int} (hl : t.length = 16) (hI : I32 t) : QwB (Qf1 x t) := ⟨hx, rfl, QsI hl hI, by simp [Qf1]⟩
theorem Qsp (K : IntKind) : ∀ n : Nat, Qo [.int K 0] n = ks K (List.replicate n 0)
 | 0 => rfl
 | n + 1 => by rw [Qo, Qsp K n]; simp [ks, ju]
def ud (l : List Int) (b c : Nat) : Nat → Int
 | 0 => if c = 1 then l.getD b 0 else w32 (l.getD (b + (c - 1)) 0 + (l.getD (b + (c - 2)) 0).tdiv 2)
 | d + 1 => w32 (ud l b c d - l.getD (b + (c - 2 - d)) 0)
theorem Qo1 {l l' : List Int} {b b' c : Nat} (hc : 1 ≤ c) (h : ∀ j, j < c → l.getD (b + j) 0 = l'.getD (b' + j) 0) : ∀ d, ud l b c d = ud l' b' c d
 | 0 => by
  unfold ud
  have h0 := h 0 (by omega)
  simp only [yI] at h0
  rw [h0, h (c - 1) (by omega), h (c - 2) (by omega)]
 | d + 1 => by
  unfold ud
  rw [Qo1 hc h d, h (c - 2 - d) (by omega)]
theorem QyX {l : List Int} (h : I32 l) (b c : Nat) : ∀ d, -2147483648 ≤ ud l b c d ∧ ud l b c d ≤ 2147483647
 | 0 => by
  unfold ud; split
  ·exact QaK h b
  ·exact Qc8 _
 | d + 1 => by unfold ud; exact Qc8 _
def QhY (L : List Int) (k n d : Nat) : List Int := (List.range L.length).map fun j => if k + (n - 1 - d) ≤ j ∧ j < k + n then ud L k n (k + n - 1 - j) else L.getD j 0
theorem J4 (L : List Int) (k n d : Nat) : (QhY L k n d).length = L.length := by simp [QhY]
theorem Qxv {L : List Int} {k n d j : Nat} (h : j < L.length) (h1 : k + (n - 1 - d) ≤ j) (h2 : j < k + n) : (QhY L k n d).getD j 0 = ud L k n (k + n - 1 - j) := by
 rw [QhY, XV h, qh ⟨h1, h2⟩]
theorem Qu6 {L : List Int} {k n d j : Nat} (h : j < L.length) (h1 : j < k + (n - 1 - d)) : (QhY L k n d).getD j 0 = L.getD j 0 := by
 rw [QhY, XV h, qe (by omega)]
theorem Qzd {L : List Int} {k n : Nat} (h1 : 1 ≤ n) (h : k + n ≤ L.length) : L.set (k + (n - 1)) (ud L k n 0) = QhY L k n 0 := Qd5 (by simp [J4]) fun j hj => by
 have hj' : j < L.length := by simpa using hj
 rw [Qpc hj', QhY, XV hj']
 by_cases e : k + (n - 1) = j
 ·subst e
  rw [qh rfl, qh (by omega), show k + n - 1 - (k + (n - 1)) = 0 by omega]
 ·rw [qe e, qe (by omega)]
theorem Qzc {L : List Int} {k : Nat} : QhY L k 1 0 = L := Qd5 (by simp [J4]) fun j hj => by
 rw [J4] at hj
 rw [QhY, XV hj]
 split
 ·rw [show j = k by omega, show k + 1 - 1 - k = 0 by omega]; simp [ud]
 ·rfl
theorem Qse {L : List Int} {k n d : Nat} (hd : d + 1 < n) (h : k + n ≤ L.length) : (QhY L k n d).set (k + (n - 2 - d)) (w32 (ud L k n d - L.getD (k + (n - 2 - d)) 0)) = QhY L k n (d + 1) := Qd5 (by simp [J4]) fun j hj => by
 have hj' : j < L.length := by simpa [J4] using hj
 rw [Qpc (by rw [J4]; exact hj'), QhY, QhY, XV hj', XV hj']
 by_cases e : k + (n - 2 - d) = j
 ·subst e
  rw [qh rfl, qh (by omega), show k + n - 1 - (k + (n - 2 - d)) = d + 1 by omega]
  rfl
 ·rw [qe e]
  by_cases q : k + (n - 1 - d) ≤ j ∧ j < k + n
  ·rw [qh q, qh (by omega)]
  ·rw [qe q, qe (by omega)]
def QoF (P : Prg) (f : Nat) : Prop := ∀ (t : Nat) (L : List Int) (k n : Nat) (K : AV → List Ob → Prop), I32 L → 1 ≤ n → k + n ≤ L.length → L.length ≤ 1000000 →
 K (.tup []) [⟨t, 1, L.length, ks .i32 (QhY L k n (n - 1)), 0⟩] → ACall P f [.view 0 L.length k n] [⟨t, 1, L.length, ks .i32 L, 0⟩] K
theorem QsU {P : Prg} {f : Nat} (b : Body P f 40 [] JP) : QoF P f := by
 intro t L k n K hL h1 h2 h3 hK
 refine Qb b (by simp) ?_
 by_cases hn : n = 1
 ·subst hn
  simp (disch := omega) only [rq, simprocAttr, JP]
  refine Qj (ι := Nat) (fun d => ⟨[(3, .int .i64 (-1)), (0, .view 0 L.length k 1)], [⟨t, 1, L.length, ks .i32 (QhY L k 1 0), 0⟩]⟩) (fun _ => True) (fun d => d) 0 (by rw [Qzc]; exact Qe) trivial ?_
  intro d _
  simp (disch := omega) only [rq, simprocAttr]
  exact hK
 ·have e1 := Qbu (K := .i32) (l := L) (i := k + (n - 1)) (by omega)
  have e2 := Qbu (K := .i32) (l := L) (i := k + (n - 1 - 1)) (by omega)
  have e3 := fun v => QwH (K := .i32) (l := L) (i := k + (n - 1)) (by omega) v
  have hr := QrP (QaK hL (k + (n - 2)))
  have a0 := Qzd (L := L) (k := k) h1 h2
  have u0 : ud L k n 0 = w32 (L.getD (k + (n - 1)) 0 + (L.getD (k + (n - 2)) 0).tdiv 2) := by rw [ud, qe hn]
  rw [u0] at a0
  rw [show n - 1 - 1 = n - 2 by omega] at e2
  have en : n - 1 - 1 = n - 2 := by omega
  simp (disch := omega) only [rq, simprocAttr, JP, e1, en, e2, e3, Qal, a0]
  refine Qj (ι := Nat) (fun d => ⟨[(3, .int .i64 ((n : Int) - 2 - d)), (0, .view 0 L.length k n)], [⟨t, 1, L.length, ks .i32 (QhY L k n d), 0⟩]⟩) (fun d => d ≤ n - 1) (fun d => n - 1 - d) 0 (QB (by simp [Am.look]; omega)) (by omega) ?_
  intro d hd
  have ls := J4 L k n d
  by_cases hlt : d < n - 1
  ·have f1 := Qbu (K := .i32) (l := QhY L k n d) (i := k + (n - 1 - d)) (by omega)
   have f2 := Qbu (K := .i32) (l := QhY L k n d) (i := k + (n - 2 - d)) (by omega)
   have f3 := fun v => QwH (K := .i32) (l := QhY L k n d) (i := k + (n - 2 - d)) (by omega) v
   rw [Qxv (by omega) (by omega) (by omega), show k + n - 1 - (k + (n - 1 - d)) = d by omega, show n - 1 - d = n - 2 - d + 1 by omega] at f1
   rw [Qu6 (by omega) (by omega)] at f2
   have a3 := Qse (L := L) (k := k) (n := n) (d := d) (by omega) h2
   simp (disch := omega) only [rq, simprocAttr, f1, f2, f3, Qal, a3, ls]
   exact ⟨d + 1, by omega, by omega, QB (by simp [Am.look]; omega)⟩
  ·have e : d = n - 1 := by omega
   subst e
   simp (disch := omega) only [rq, simprocAttr]
   exact hK
def QyV (c : Nat) (l : List Int) (j : Nat) : Int := ud l (c * (j / c)) c (c - 1 - j % c)
def QAx (c : Nat) (l : List Int) (a : Nat) : List Int := (List.range a).map (QyV c l)
def Qnk (c : Nat) (l : List Int) (a : Nat) : List Int := (List.range l.length).map fun j => if j < a then QyV c l j else l.getD j 0
def Qfl (c : Nat) (l : List Int) : List Int := QAx c l l.length
theorem Qcr (c : Nat) (l : List Int) (a : Nat) : (Qnk c l a).length = l.length := by simp [Qnk]
theorem QyW (c : Nat) (l : List Int) : Qnk c l 0 = l := Qd5 (Qcr _ _ _) fun j hj => by
 rw [Qcr] at hj; rw [Qnk, XV hj, qe (by omega)]
theorem Qo0 (c : Nat) (l : List Int) : Qnk c l l.length = Qfl c l := by
 simp only [Qnk, Qfl, QAx]
 apply yu
 intro j hj
 rw [qh (by simpa using hj)]
theorem QuI {c : Nat} {l : List Int} (h : I32 l) (j : Nat) : -2147483648 ≤ QyV c l j ∧ QyV c l j ≤ 2147483647 := QyX h _ _ _
theorem QpS {c : Nat} {l : List Int} (h : I32 l) (a : Nat) : I32 (Qnk c l a) := by
 intro v hv
 simp only [Qnk, qO] at hv
 obtain ⟨j, _, rfl⟩ := hv
 split
 ·exact QuI h j
 ·exact QaK h j
theorem Qrf {c : Nat} {l : List Int} (h : I32 l) : I32 (Qfl c l) := by rw [← Qo0]; exact QpS h _
theorem QiI (c : Nat) (l : List Int) : (Qfl c l).length = l.length := by simp [Qfl, QAx]
theorem QqS {c m r : Nat} (h : r < c) : (c * m + r) / c = m ∧ (c * m + r) % c = r := by
 rw [Nat.mul_add_mod, qV h, Nat.mul_add_div (by omega), jw h]; simp
theorem Qw6 {c : Nat} {l : List Int} {m : Nat} (hc : 1 ≤ c) (h : c * m + c ≤ l.length) : QhY (Qnk c l (c * m)) (c * m) c (c - 1) = Qnk c l (c * m + c) := Qd5 (by simp [J4, Qcr]) fun j hj => by
 have hj' : j < l.length := by simpa [J4, Qcr] using hj
 rw [QhY, Qcr, XV hj']
 conv => rhs; rw [Qnk, XV hj']
 by_cases q : c * m ≤ j ∧ j < c * m + c
 ·rw [qh (by omega), qh q.2]
  have e := QqS (c := c) (m := m) (r := j - c * m) (by omega)
  rw [show c * m + (j - c * m) = j by omega] at e
  rw [QyV, e.1, e.2, show c * m + c - 1 - j = c - 1 - (j - c * m) by omega]
  refine Qo1 hc (fun i hi => ?_) _
  rw [Qnk, XV (by omega), qe (by omega)]
 ·rw [qe (by omega), Qnk, XV hj']
  by_cases r : j < c * m
  ·rw [qh r, qh (by omega)]
  ·rw [qe r, qe (by omega)]
def QhN (P : Prg) (f : Nat) : Prop := ∀ (c : Nat) (l : List Int), okM c l → VC P f [.int .i64 c, il l] (.tup [il (Qfl c l), .int .i64 0])
theorem Qvo {P : Prg} {f fC fK fM t : Nat} (b : Body P f 32 [.tmp 4, .tmp 5] (QbE fC fK fM)) (hC : QkI P fC) (hK : QkU t P fK) (hM : QoF P fM) : QhN P f := by
 intro c l hok
 obtain ⟨h1, h2, h3, h4, h5, h6⟩ := id hok
 have hc := QsJ hok
 obtain ⟨q, hq⟩ : ∃ q, l.length = c * q := ⟨l.length / c, by have := Yi l.length c; omega⟩
 refine Qi 1 (by simp [isDL, isD, Qar]) (by simp [isD, isDL, Qar]) (Qb b (by simp) ?_)
 simp (disch := omega) only [rq, simprocAttr, QbE]
 refine Qa (hC c l) ?_
 have n0 : l.length ≠ 0 := by omega
 simp (disch := omega) only [rq, simprocAttr, hc, n0]
 refine hK l [] _ h3 (by omega) ?_
 simp (disch := omega) only [rq, simprocAttr, n0]
 refine Qj (ι := Nat) (fun m => ⟨[(8, .int .i64 (c * m : Nat)), (7, .own 0 l.length), (0, .int .i64 c)], [⟨t, 1, l.length, ks .i32 (Qnk c l (c * m)), 0⟩]⟩) (fun m => m ≤ q) (fun m => q - m) 0 (by rw [Nat.mul_zero, QyW]; exact Qe) (by omega) ?_
 intro m hm
 by_cases hlt : c * m < l.length
 ·have hs := Qvn (c := c) (m := m) (q := q) (by rw [← hq]; exact hlt)
  rw [← hq] at hs
  have hmq : m < q := jN (a := c) (b := m) (c := q) (by rw [← hq]; exact hlt)
  have e0 : c * m + c - c * m = c := by omega
  have hM' := hM t (Qnk c l (c * m)) (c * m) c
  rw [Qcr, Qw6 h1 hs] at hM'
  simp (disch := omega) only [rq, simprocAttr, e0, n0]
  refine hM' _ (QpS h6 _) h1 hs (by omega) ?_
  simp (disch := omega) only [rq, simprocAttr]
  exact ⟨m + 1, by omega, by omega, by rw [show c * (m + 1) = c * m + c by rw [js, jD]]; exact Qe⟩
 ·have e : c * m = l.length := by
   have := yL c hm
   omega
  rw [e, Qo0]
  have lm := QiI c l
  simp (disch := omega) only [rq, simprocAttr]
  simp [QK, Qx, frzL, Qu, isDL, isD, il, lm, frzL_T _ (Qp .i32 (Qfl c l))]
def stB (c : Nat) (L : List Int) (z : JJ) (k : Nat) : Nat → JJ
 | 0 => z
 | n + 1 => QbX (stB c L z k n) (L.getD (k + n * c) 0)
def QBi (c : Nat) (L : List Int) (z : JJ) (j : Nat) : Int := Qq1 (stB c L z (j % c) (j / c)) (L.getD j 0)
def Qoo (c : Nat) (L : List Int) (z : JJ) (a : Nat) : List Int := (List.range a).map (QBi c L z)
theorem Qed (c : Nat) (L : List Int) (z : JJ) (a : Nat) : (Qoo c L z a).length = a := by simp [Qoo]
theorem Qt2 (c : Nat) (L : List Int) (z : JJ) (a : Nat) : Qoo c L z a ++ [QBi c L z a] = Qoo c L z (a + 1) := by simp [Qoo, List.range_succ]
theorem QpT (c : Nat) (L : List Int) (z : JJ) (a : Nat) : I32 (Qoo c L z a) := by
 intro v hv
 simp only [Qoo, qO] at hv
 obtain ⟨j, _, rfl⟩ := hv
 exact Qc8 _
theorem QsG {c : Nat} {L : List Int} {z : JJ} (hz : QwB z) (k : Nat) : ∀ n, QwB (stB c L z k n)
 | 0 => hz
 | n + 1 => QnK (QsG hz k n) _
def QrU (c : Nat) (L : List Int) (z : JJ) (i : Nat) : Nat → JJ := fun k => if k < c then stB c L z k (cnt c k i) else z
theorem Qy5 (c : Nat) (L : List Int) (z : JJ) : QrU c L z 0 = fun _ => z := by
 funext k; simp [QrU, QA1, stB]
theorem Qxd {c : Nat} (hc : 1 ≤ c) (L : List Int) (z : JJ) (i : Nat) : QrU c L z i (i % c) = stB c L z (i % c) (i / c) := by
 rw [QrU, qh (yc _ (by omega)), Qwc]
theorem QrT {c : Nat} (hc : 1 ≤ c) (L : List Int) (z : JJ) (i : Nat) : upd (QrU c L z i) (i % c) (QbX (stB c L z (i % c) (i / c)) (L.getD i 0)) = QrU c L z (i + 1) := by
 funext k
 have hr := yc i (show 0 < c by omega)
 by_cases hk : k < c
 ·simp only [upd, QrU, qh hk, Qwb hk]
  by_cases e : k = i % c
  ·rw [qh e, qh e, e, stB]
   rw [show i % c + i / c * c = i by have := Yi i c; rw [yi]; omega]
  ·rw [qe e, qe e]
 ·simp only [upd, QrU, qe hk]
  rw [qe (by omega)]
theorem QxF {c : Nat} {L : List Int} {z : JJ} (hz : QwB z) (i : Nat) : okS (QrU c L z i) := fun k => by
 unfold QrU; split
 ·exact (QsG hz k _).2.2.1
 ·exact hz.2.2.1
def U32 (l : List Int) : Prop := ∀ x ∈ l, 0 ≤ x ∧ x < 4294967296
theorem Qwr {l : List Int} (h : U32 l) (j : Nat) : 0 ≤ l.getD j 0 ∧ l.getD j 0 < 4294967296 := by
 by_cases hj : j < l.length
 ·rw [qd, qc hj]
  exact h _ (qS hj)
 ·rw [qd, qU (by omega)]; simp
theorem Qq8 {v : List Int} {j : Nat} (h : j < v.length) : (v.map Jh).getD j 0 = Jh (v.getD j 0) := by
 simp [qd, qI, qc h]
def unB (c : Nat) (x : Int) (t v : List Int) : List Int := Qfl c (Qoo c (v.map Jh) (Qf1 x t) v.length)
theorem Qw7 (c : Nat) (x : Int) (t v : List Int) : (unB c x t v).length = v.length := by simp [unB, QiI, Qed]
def okV (c : Nat) (v : List Int) : Prop := 1 ≤ c ∧ c ≤ 6 ∧ 0 < v.length ∧ v.length ≤ 4000 ∧ v.length % c = 0 ∧ U32 v
theorem QAL {c : Nat} {v : List Int} (h : okV c v) (x : Int) (t : List Int) : okM c (Qoo c (v.map Jh) (Qf1 x t) v.length) := by
 obtain ⟨h1, h2, h3, h4, h5, _⟩ := h
 exact ⟨h1, h2, by rw [Qed]; omega, by rw [Qed]; omega, by rw [Qed]; exact h5, QpT _ _ _ _⟩
def Qrg (x : Int) (l : List Int) : AV := if ZF x l ≠ 0 then .tup [.list 0 [], .int .i64 (ZF x l)] else .tup [il l, .int .i64 0]
theorem Qs8 (x : Int) (l : List Int) : isD (Qrg x l) = true := by unfold Qrg; split <;> simp [isD, isDL, Qar]
def Quk (P : Prg) (f : Nat) : Prop := ∀ (c : Nat) (x : Int) (t v : List Int), t.length = 16 → I32 t → okV c v → QaU x ≠ 0 → VC P f [shA c x, .agg (ks .i32 t), Qnl v] (Qrg x (unB c x t v))
set_option maxRecDepth 20000 in
theorem Qhl {P : Prg} {f fN fO fB fU fW t0 t1 t2 t3 t4 : Nat} (b : Body P f 84 [.tmp 6, .tmp 7] (Z5 fN fO fB fU fW t0 t1 t2 t3 t4)) (hN : Qum P fN) (hO : QoG P fO) (hB : QoS P fB) (hU : QhN P fU) (hW : Qgt P fW) : Quk P f := by
 intro k x t v hl hI hok hx
 have hk : (ks .i32 t).length = 16 := by simp [Qc, hl]
 have ot := Jl .i32 t
 have tt : (ks .i32 t).take 16 = ks .i32 t := QQ (by omega)
 refine Qi 1 (by simp [isDL, isD, QvF, Zf, shA]) (Qs8 _ _) (ACall.of_cut 5 b (by simp) ?_)
 have hz := QxH hx hl hI
 have l0 := Qnv (S := fun _ => Qdr) (fun _ => QjP)
 have o0 := QyD (fun _ => Qdr)
 obtain ⟨h1, h2, h3, h4, h5, h6⟩ := id hok
 unfold Z5
 rw [show (z6L : List AV) = six (fun _ => Qdr) from rfl, ← Qgb]
 simp (disch := omega) only [rq, simprocAttr, Qyo, shA, Qnl, hk, ot, tt, l0, o0]
 refine Qj (ι := Nat) (fun i => ⟨[(20, .int .i64 i), (8, .ref 2 1 0), (4, .ref 1 1 0), (3, .ref 0 1 0), (2, Qnl v)], [⟨t0, 2, 1, [.int .i64 k, .int .i64 x], 0⟩, ⟨t1, 16, 1, ks .i32 t, 0⟩, ⟨t2, 210, 1, six (Qux (Qf1 x t) i), 0⟩]⟩) (fun i => i ≤ 6) (fun i => 6 - i) 0 (by rw [Qzs]; exact QB (by simp [Am.look, Qnl])) (by omega) ?_
 intro i hi
 have oS := QxG hz.2.2.1 i
 have lS := Qnv oS
 by_cases hlt : i < 6
 ·have e1 := Qr7 oS hlt (Qf1 x t)
  rw [QsR] at e1
  have lc := Jz hz.2.2.1
  have oc := QaL (Qf1 x t)
  simp (disch := omega) only [rq, simprocAttr, hk, tt]
  refine Qa (hN x t hl hI) ?_
  simp (disch := omega) only [rq, simprocAttr, QqX, qe hx, lS, lc, oc, e1]
  exact ⟨i + 1, by omega, by omega, Qe⟩
 ·have : i = 6 := by omega
  subst this
  simp (disch := omega) only [rq, simprocAttr, Qyo, Qnl]
  have tv : isTL (ks .u32 v) = true := Qp _ _
  refine Qj (ι := Nat) (fun i => ⟨[(35, .int .i64 i), (34, .int .i64 v.length), (33, Qnl v), (10, .own 3 i), (8, .ref 2 1 0), (3, .ref 0 1 0)], [⟨t0, 2, 1, [.int .i64 k, .int .i64 x], 0⟩, ⟨t1, 16, 1, ks .i32 t, 0⟩, ⟨t2, 210, 1, six (QrU k (v.map Jh) (Qf1 x t) i), 0⟩, ⟨t4, 1, i, ks .i32 (Qoo k (v.map Jh) (Qf1 x t) i), 0⟩]⟩) (fun i => i ≤ v.length) (fun i => v.length - i) 0 (by rw [Qy5, ← QAC]; exact Le.trans (Qfe 10 t4 1 (by omega) rfl) (QB (by simp [Am.look, Qoo, Qnl]))) (by omega) ?_
  intro i hi
  have lo := Qed k (v.map Jh) (Qf1 x t) i
  have to : isTL (ks .i32 (Qoo k (v.map Jh) (Qf1 x t) i)) = true := Qp _ _
  by_cases hlt : i < v.length
  ·have oS := QxF hz (c := k) (L := v.map Jh) i
   have lS := Qnv oS
   have hr := yc i (show 0 < k by omega)
   have e0 := Qy9 oS (k := i % k) (by omega)
   rw [Qxd h1] at e0
   have e1 := Qr7 oS (k := i % k) (by omega) (QbX (stB k (v.map Jh) (Qf1 x t) (i % k) (i / k)) ((v.map Jh).getD i 0))
   rw [QrT h1] at e1
   have hok2 := QsG (c := k) (L := v.map Jh) hz (i % k) (i / k)
   have eb := Qq8 hlt
   have hO' := hO (v.getD i 0) (Qwr h6 i)
   rw [← eb] at hO'
   have hB' := hB _ ((v.map Jh).getD i 0) hok2
   have hok3 := QnK hok2 ((v.map Jh).getD i 0)
   have e2 := Qbu (K := .u32) (l := v) (i := i) hlt
   have e3 : ks .i32 (Qoo k (v.map Jh) (Qf1 x t) i) ++ [.int .i32 (Qq1 (stB k (v.map Jh) (Qf1 x t) (i % k) (i / k)) ((v.map Jh).getD i 0))] = ks .i32 (Qoo k (v.map Jh) (Qf1 x t) (i + 1)) := by rw [QxP, ← Qt2]; rfl
   have lc := Jz hok3.2.2.1
   have oc := QaL (QbX (stB k (v.map Jh) (Qf1 x t) (i % k) (i / k)) ((v.map Jh).getD i 0))
   have tc : (ZJ (QbX (stB k (v.map Jh) (Qf1 x t) (i % k) (i / k)) ((v.map Jh).getD i 0))).take 35 = ZJ (QbX (stB k (v.map Jh) (Qf1 x t) (i % k) (i / k)) ((v.map Jh).getD i 0)) := QQ (by omega)
   have lz := Jz QjP
   have oz := QaL Qdr
   have dz : (ZJ Qdr).drop 35 = [] := yw (by omega)
   have em : (i : Int) % k = (i % k : Nat) := by omega
   simp (disch := omega) only [rq, simprocAttr, Qnl, e2, em, e0]
   refine QN hO' ?_
   simp (disch := omega) only [rq, simprocAttr]
   refine QN hB' ?_
   simp (disch := omega) only [rq, simprocAttr, lz, oz, lc, oc, tc, e1, lS, dz, e3, yA, jx, jl]
   exact ⟨i + 1, by omega, by omega, XI [_, _, _, _] (by simp [QvD, Qp, isTL, isT]) (by simp [Am.look, Qx, frzL, Qu, frzL_T _ tv])⟩
  ·have e : i = v.length := by omega
   subst e
   simp (disch := omega) only [rq, simprocAttr, Qyo]
   refine ⟨⟨[(10, il (Qoo k (v.map Jh) (Qf1 x t) v.length)), (3, .ref 0 1 0)], [⟨t0, 2, 1, [.int .i64 k, .int .i64 x], 0⟩]⟩, XI [_] (by simp [isTL, isT]) (by simp [Am.look, Qx, frzL, Qu, il, lo, frzL_T _ to]), ?_⟩
   simp (disch := omega) only [rq, simprocAttr]
   refine Qa (hU k _ (QAL hok x t)) ?_
   simp (disch := omega) only [rq, simprocAttr]
   refine Qa (hW x (unB k x t v) (Qrf (QpT _ _ _ _))) ?_
   have lu := Qw7 k x t v
   by_cases h9 : ZF x (unB k x t v) = 0
   ·have e9 : Qrg x (unB k x t v) = .tup [il (unB k x t v), .int .i64 0] := by simp [Qrg, h9]
    simp (disch := omega) only [rq, simprocAttr, h9, e9]
    simp only [unB] at *
    simp [QK, Qx, frzL, Qu, isDL, isD, il, frzL_T _ (Qp .i32 _)]
   ·have e9 : Qrg x (unB k x t v) = .tup [.list 0 [], .int .i64 (ZF x (unB k x t v))] := by simp [Qrg, h9]
    simp (disch := omega) only [rq, simprocAttr, h9, e9]
    simp [QK, Qx, frzL, Qu, isDL, isD]
def erA (e : Int) : AV := .tup [.list 0 [], .int .i64 e]
def Qmr (r n : Int) : AV := if r < 1 ∨ 1048576 < r then .tup [.int .i64 0, .int .i64 2] else if n < 1 ∨ 4000 < n then .tup [.int .i64 0, .int .i64 2] else if 1000 < (n + Q5 r - 1) / Q5 r then .tup [.int .i64 0, .int .i64 4] else .tup [.int .i64 ((n + Q5 r - 1) / Q5 r), .int .i64 0]
theorem Qx4 (r n : Int) : isD (Qmr r n) = true := by unfold Qmr; split <;> (try split) <;> (try split) <;> rfl
def QeL (P : Prg) (f : Nat) : Prop := ∀ r n : Int, VC P f [.int .i64 r, .int .i64 n] (Qmr r n)
theorem QjU {P : Prg} {f fL : Nat} (b : Body P f 32 [.tmp 4, .tmp 5] (XF fL)) (hL : QgA P fL) : QeL P f := by
 intro r n
 refine QJ rfl (Qx4 _ _) b ?_
 have hL' := hL r
 simp (disch := omega) only [rq, simprocAttr, XF]
 refine Qa hL' ?_
 by_cases h1 : r < 1 ∨ 1048576 < r
 ·have e1 : Qg6 r = .tup [.int .i64 0, .int .i64 2] := by rw [Qg6, qh h1]
  have e2 : Qmr r n = .tup [.int .i64 0, .int .i64 2] := by rw [Qmr, qh h1]
  simp (disch := omega) only [rq, simprocAttr, e1, e2]
 have e1 : Qg6 r = .tup [.int .i64 (Q5 r), .int .i64 0] := by rw [Qg6, qe h1]
 have p1 := Qcc r
 have p2 := Qvq (r := r) (by omega)
 by_cases h2 : n < 1
 ·have e2 : Qmr r n = .tup [.int .i64 0, .int .i64 2] := by rw [Qmr, qe h1, qh (.inl h2)]
  simp (disch := omega) only [rq, simprocAttr, e1, e2]
 by_cases h3 : 4000 < n
 ·have e2 : Qmr r n = .tup [.int .i64 0, .int .i64 2] := by rw [Qmr, qe h1, qh (.inr h3)]
  simp (disch := omega) only [rq, simprocAttr, e1, e2]
 have e2 : Qmr r n = if 1000 < (n + Q5 r - 1) / Q5 r then .tup [.int .i64 0, .int .i64 4] else .tup [.int .i64 ((n + Q5 r - 1) / Q5 r), .int .i64 0] := by
  rw [Qmr, qe h1, qe (by omega)]
 generalize Q5 r = L at *
 have q0 : (n + L - 1).tdiv L = (n + L - 1) / L := ym (by omega)
 have q1 : 0 ≤ (n + L - 1) / L := Ye (by omega) (by omega)
 have q2 : (n + L - 1) / L ≤ n + L - 1 := jQ _ (by omega)
 generalize hq : (n + L - 1) / L = Q at *
 by_cases h4 : 1000 < Q
 ·rw [qh h4] at e2
  simp (disch := omega) only [rq, simprocAttr, e1, q0, hq, e2]
 ·rw [qe h4] at e2
  simp (disch := omega) only [rq, simprocAttr, e1, q0, hq, e2]
def QeF (P : Prg) (f : Nat) : Prop := ∀ (c x r : Int) (l : List Int), VC P f [.agg [.int .i64 c, .int .i64 x, .int .i64 r, il l]] (shA c x)
theorem QqY {P : Prg} {f t0 t1 : Nat} (b : Body P f 8 [.cell 2 t1] (Qag t0 t1)) (ht : Zq P t1 = some (some 2)) : QeF P f := by
 intro c x r l
 refine QJ (by simp [isDL, isD, Qar]) rfl b ?_
 simp (disch := omega) only [rq, simprocAttr, Qag, il, QP, ht, shA]
def QtL (r n : Int) : Int := if r < 1 ∨ 1048576 < r then 2 else if n < 1 ∨ 4000 < n then 2 else if 1000 < (n + Q5 r - 1) / Q5 r then 4 else 0
theorem Qwd (r n : Int) : ∃ k : Int, Qmr r n = .tup [.int .i64 k, .int .i64 (QtL r n)] := by
 unfold Qmr QtL
 split
 ·exact ⟨_, rfl⟩
 split
 ·exact ⟨_, rfl⟩
 split
 ·exact ⟨_, rfl⟩
 ·exact ⟨_, rfl⟩
def Qx6 (c x r n : Int) : Int := if QbM c x ≠ 0 then 8 else if n < 1 then 8 else if 4000 / c < n then 8 else if QtL r n ≠ 0 then 8 else 0
def Qwf (c x r : Int) (l : List Int) : Int := if c < 1 then 8 else if (l.length : Int) % c ≠ 0 then 8 else if Qx6 c x r (l.length / c) ≠ 0 then 8 else if ZF x l ≠ 0 then 8 else 0
def QmP (c x n : Int) : Int := if QbM c x ≠ 0 then 2 else if n < 1 then 2 else if 4000 / c < n then 2 else 0
def Zl (L n : Nat) : List Int := List.replicate ((n - 1) / L) (L : Int) ++ [(n : Int) - ((n - 1) / L * L : Nat)]
theorem Qaq (L n : Nat) : (Zl L n).length = (n - 1) / L + 1 := by simp [Zl]
def Q6 (l : List Int) : AV := .list l.length (ks .i64 l)
theorem XX (l : List Int) : isD (Q6 l) = true := by simp [Q6, isD, Zf]
def clA (c x r : Int) (l : List Int) : AV := .agg [.int .i64 c, .int .i64 x, .int .i64 r, il l]
def leB (n : Nat) : Nat → List UInt8
 | 0 => []
 | k + 1 => UInt8.ofNat (n % 256) :: leB (n / 256) k
theorem QY : ∀ (k n : Nat), (leB n k).length = k
 | 0, _ => rfl
 | k + 1, n => by simp [leB, QY k]
theorem QnS : ∀ (k n i : Nat) (h : i < k), (leB n k)[i]? = some (UInt8.ofNat (n / 256 ^ i % 256))
 | k + 1, n, 0, _ => by simp [leB]
 | k + 1, n, i + 1, h => by
  simp only [leB, List.getElem?_cons_succ]
  rw [QnS k (n / 256) i (by omega), jb, yV, yi]
theorem Qd1 {n k i : Nat} (h : i < k) : (leB n k).take (i + 1) = (leB n k).take i ++ [UInt8.ofNat (n / 256 ^ i % 256)] := by
 rw [List.take_add_one, QnS k n i h]
 rfl
theorem QBc {K : IntKind} {n k : Nat} (hk : k ≤ K.bits) : Ql false K (n : Int) (k : Int) = some (.int K ((n / 2 ^ k : Nat) : Int)) := by
 have h3 : ¬ ((k : Int) < 0) := by omega
 have h5 : min k K.bits = k := by omega
 have h6 : (n : Int).fdiv (2 ^ k) = ((n / 2 ^ k : Nat) : Int) := by
  rw [qQ _ (Int.pow_nonneg (by decide))]
  simp [jv, Int.natCast_pow]
 simp only [Ql, qe h3, qY, yC, qw, h5, h6]
def Quf (P : Prg) (f : Nat) : Prop := ∀ n w : Nat, 1 ≤ w → w ≤ 8 → VC P f [.int .u64 n, .int .i64 w] (.bool (decide (w = 8) || decide (n / 2 ^ (8 * w) = 0)))
theorem QxN {P : Prg} {f : Nat} (b : Body P f 14 [.tmp 4] Qak) : Quf P f := by
 intro n w h1 h2
 refine QJ rfl rfl b ?_
 by_cases h8 : w = 8
 ·subst h8
  simp (disch := omega) only [rq, simprocAttr, Qak]
 ·have e1 : (decide (w = 8)) = false := by simpa using h8
  have e2 : Ql false .u64 (n : Int) (8 * (w : Int)) = some (.int .u64 ((n / 2 ^ (8 * w) : Nat) : Int)) := by
   have := QBc (K := .u64) (n := n) (k := 8 * w) (by simp [IntKind.bits]; omega)
   rwa [Yk] at this
  have e3 : (((n / 2 ^ (8 * w) : Nat) : Int) == 0) = decide (n / 2 ^ (8 * w) = 0) := by rw [Yj]; simp only [beq_iff_eq, qv]; omega
  have e4 : ((w : Int) = 8) = False := eq_false (by omega)
  by_cases h9 : n / 2 ^ (8 * w) = 0
  ·have e5 : (decide (n / 2 ^ (8 * w) = 0)) = true := by simpa using h9
   have e6 : (((n / 2 ^ (8 * w) : Nat) : Int) = 0) = True := eq_true (by omega)
   rw [e5]
   simp (disch := omega) only [rq, simprocAttr, Qak, e1, e2, e4, e6]
  ·have e5 : (decide (n / 2 ^ (8 * w) = 0)) = false := by simpa using h9
   have e6 : (((n / 2 ^ (8 * w) : Nat) : Int) = 0) = False := eq_false (by omega)
   rw [e5]
   simp (disch := omega) only [rq, simprocAttr, Qak, e1, e2, e4, e6]
def QeD (P : Prg) (f : Nat) : Prop := ∀ n w : Nat, 1 ≤ w → w ≤ 8 → n < 256 ^ w → VC P f [.int .u64 n, .int .i64 w] (.tup [bs (leB n w), .int .i64 0])
theorem QvU {t n : Nat} {l : List UInt8} (h : n = l.length) {e : Int} : QK (fun _ => true) [⟨t, 1, n, u8 l, 0⟩] 2 [.tup [.own 0 n, .int .i64 e]] = some [.tup [bs l, .int .i64 e]] := by
 subst h
 simp only [QK, Qx, frzL, Qu, qY, yC, yF, and_self, yo, frzL_T _ (Zx l), yb, bs]
theorem Qvx {P : Prg} {f fF t0 : Nat} (b : Body P f 35 [.tmp 4, .tmp 5] (QaA fF t0)) (hF : Quf P fF) : QeD P f := by
 intro n w h1 h2 hn
 refine Qi 1 (by simp [isDL, isD]) (by simp [isD, isDL, QM]) (Qb b (by simp) ?_)
 have hn8 : n < 18446744073709551616 := yg hn (qX (qy (by omega) h2) (by decide))
 simp (disch := omega) only [rq, simprocAttr, QaA]
 refine Qa (hF n w h1 h2) ?_
 have e0 : (decide (w = 8) || decide (n / 2 ^ (8 * w) = 0)) = true := by
  have : n / 2 ^ (8 * w) = 0 := jw (by rw [Nat.pow_mul]; exact hn)
  simp [this]
 rw [e0]
 have r0 : Qo [.int .u8 0] w = u8 ([] : List UInt8) ++ List.replicate w (.int .u8 0) := by
  have : ∀ k, Qo [AV.int .u8 0] k = List.replicate k (.int .u8 0) := fun k => by
   induction k with
   | zero => rfl
   | succ k ih => simp [Qo, ih, ju]
  rw [this]; rfl
 simp (disch := omega) only [rq, simprocAttr, QaA]
 rw [r0]
 refine Qj (ι := Nat) (fun k => ⟨[(22, .int .i64 k), (21, .int .i64 w), (6, .own 0 w), (0, .int .u64 n)], [⟨t0, 1, w, u8 ((leB n w).take k) ++ List.replicate (w - k) (.int .u8 0), 0⟩]⟩) (fun k => k ≤ w) (fun k => w - k) 0 (Qe) (by omega) ?_
 intro k hk
 by_cases hlt : k < w
 ·have e2 : Ql false .u64 (n : Int) (8 * (k : Int)) = some (.int .u64 ((n / 256 ^ k : Nat) : Int)) := by
   have := QBc (K := .u64) (n := n) (k := 8 * k) (by simp [IntKind.bits]; omega)
   rwa [Yk, Nat.pow_mul] at this
  have e3 : IntKind.u8.wrap ((n / 256 ^ k : Nat) : Int) = ((UInt8.ofNat (n / 256 ^ k % 256)).toNat : Int) := by
   simp [IntKind.wrap, IntKind.signed, IntKind.bits]
  have hl : (u8 ((leB n w).take k)).length = k := by simp [Qk, QY]; omega
  have e4 : (u8 ((leB n w).take k) ++ List.replicate (w - k) (AV.int .u8 0)).take k = u8 ((leB n w).take k) := by rw [jB hl]
  have e5 : (u8 ((leB n w).take k) ++ List.replicate (w - k) (AV.int .u8 0)).drop (k + 1) = List.replicate (w - (k + 1)) (.int .u8 0) := by
   rw [jP, j2 (by omega), hl]
   simp
   omega
  have e6 : u8 ((leB n w).take k) ++ [AV.int .u8 ((UInt8.ofNat (n / 256 ^ k % 256)).toNat : Int)] = u8 ((leB n w).take (k + 1)) := by
   rw [Qd1 hlt, ← Qb4]; rfl
  simp (disch := omega) only [rq, simprocAttr, e2, e3, hl, e4, e5, e6]
  refine ⟨k + 1, by omega, by omega, ?_⟩
  refine QB ?_
  simp [Am.look]
 ·have ek : k = w := by omega
  subst ek
  have e7 : (leB n k).take k = leB n k := qi (by rw [QY]; exact qj _)
  have e8 : u8 (leB n k) ++ List.replicate (k - k) (AV.int .u8 0) = u8 (leB n k) := by simp
  simp (disch := omega) only [rq, simprocAttr, e7]
  rw [e8, QvU (QY k n).symm]
theorem Qs1 : ∀ l : List UInt8, leB (leN l) l.length = l
 | [] => rfl
 | b :: l => by
  have h1 := b.toNat_lt
  have e1 : (b.toNat + 256 * leN l) % 256 = b.toNat := by omega
  have e2 : (b.toNat + 256 * leN l) / 256 = leN l := by omega
  simp only [leN, qo, leB, e1, e2, Qs1 l]
  simp
def Qy6 (c b r : Int) : Prop := 1 ≤ c ∧ c ≤ 6 ∧ QaU b ≠ 0 ∧ 1 ≤ r ∧ r ≤ 1048576
instance (c b r : Int) : Decidable (Qy6 c b r) := by unfold Qy6; exact inferInstance
def QaR (P : Prg) (f : Nat) : Prop := ∀ a b : List UInt8, VC P f [bs a, bs b] (.bool (a == b))
theorem Qok {P : Prg} {f : Nat} (bd : Body P f 10 [.tmp 4] QaX) : QaR P f := by
 intro a b
 refine QJ (by simp [isDL, QM]) rfl bd ?_
 simp (disch := omega) only [rq, simprocAttr, QaX, bs, Qa4]
def QAh (b x : Int) : Nat := (if b = 8 then x + 128 else if x < 0 then x + 2 * QaU b else x).toNat
def QuV (b x : Int) : List UInt8 := leB (QAh b x) (b / 8).toNat
def QeN (b : Int) (l : List Int) : List UInt8 := l.flatMap (QuV b)
def QkA (P : Prg) (f : Nat) : Prop := ∀ (b : Int) (l : List Int), I32 l → VC P f [.int .i64 b, il l] (if ZF b l ≠ 0 then .tup [.list 0 [], .int .i64 (ZF b l)] else .tup [bs (QeN b l), .int .i64 0])
theorem Qns (b x : Int) : (QuV b x).length = (b / 8).toNat := QY _ _
theorem Qdc (b : Int) : ∀ l : List Int, (QeN b l).length = l.length * (b / 8).toNat
 | [] => by simp [QeN]
 | x :: l => by
  have := Qdc b l
  simp only [QeN, List.flatMap_cons, qt, Qns, qo] at this ⊢
  rw [this, yG]; omega
theorem Qr5 {b : Int} {l : List Int} {k : Nat} (h : k < l.length) : QeN b (l.take (k + 1)) = QeN b (l.take k) ++ QuV b l[k] := by
 simp only [QeN]
 rw [qm h, List.flatMap_append]; simp
theorem QzE {b : Int} {l : List Int} (h : ZF b l = 0) {k : Nat} (hk : k < l.length) : -QaU b ≤ l[k] ∧ l[k] < QaU b := by
 unfold ZF at h
 split at h
 ·omega
 split at h
 ·omega
 split at h
 ·rename_i h2
  have := qW.1 h2 _ (qS hk)
  simp [inR] at this
  exact this
 ·omega
theorem QtN {b : Int} {l : List Int} (h : ZF b l = 0) : l.length ≤ 4000 ∧ QaU b ≠ 0 := by
 unfold ZF at h
 split at h
 ·omega
 rename_i h0
 split at h
 ·omega
 ·exact ⟨by omega, h0⟩
theorem Qcs {n : Nat} (h : n < 256) : (UInt8.ofNat n).toNat = n := by simp; omega
theorem QAB {x : Int} (h1 : -128 ≤ x) (h2 : x < 128) : u8 (QuV 8 x) = [.int .u8 (x + 128)] := by
 have e : (8 : Int) / 8 = 1 := rfl
 simp only [QuV, QAh, yo, e, Int.toNat_one, leB, QeR, Qo2]
 rw [Qcs (by omega)]
 have : (((x + 128).toNat % 256 : Nat) : Int) = x + 128 := by omega
 rw [this]
theorem Qy8 {x : Int} (h1 : -32768 ≤ x) (h2 : x < 32768) : u8 (QuV 16 x) = [.int .u8 (x % 256), .int .u8 (x / 256 % 256)] := by
 have e : ((16 : Int) / 8).toNat = 2 := rfl
 have e2 : QaU 16 = 32768 := rfl
 simp only [QuV, QAh, e, e2, leB, QeR, Qo2]
 rw [Qcs (by omega), Qcs (by omega), qe (by decide)]
 generalize hq : (if x < 0 then x + 2 * 32768 else x).toNat = n
 have h3 : (n : Int) = if x < 0 then x + 65536 else x := by rw [← hq]; split <;> omega
 have a1 : ((n % 256 : Nat) : Int) = x % 256 := by split at h3 <;> omega
 have a2 : ((n / 256 % 256 : Nat) : Int) = x / 256 % 256 := by split at h3 <;> omega
 rw [a1, a2]
theorem Qy7 {x : Int} (h1 : -8388608 ≤ x) (h2 : x < 8388608) : u8 (QuV 24 x) = [.int .u8 (x % 256), .int .u8 (x / 256 % 256), .int .u8 (x / 65536 % 256)] := by
 have e : ((24 : Int) / 8).toNat = 3 := rfl
 have e2 : QaU 24 = 8388608 := rfl
 simp only [QuV, QAh, e, e2, leB, QeR, Qo2]
 rw [Qcs (by omega), Qcs (by omega), Qcs (by omega), qe (by decide)]
 generalize hq : (if x < 0 then x + 2 * 8388608 else x).toNat = n
 have h3 : (n : Int) = if x < 0 then x + 16777216 else x := by rw [← hq]; split <;> omega
 have a1 : ((n % 256 : Nat) : Int) = x % 256 := by split at h3 <;> omega
 have a2 : ((n / 256 % 256 : Nat) : Int) = x / 256 % 256 := by split at h3 <;> omega
 have a3 : ((n / 256 / 256 % 256 : Nat) : Int) = x / 65536 % 256 := by split at h3 <;> omega
 rw [a1, a2, a3]
set_option maxRecDepth 20000 in
set_option maxHeartbeats 2000000 in
theorem Qm4 {P : Prg} {f fC t0 : Nat} (bd : Body P f 43 [.tmp 4, .tmp 5] (ZX fC t0)) (hC : Qgt P fC) : QkA P f := by
 intro b l hI
 have hC' := hC b l hI
 refine Qi 1 (by simp [isDL, isD, Qar]) (by split <;> simp [isD, isDL, QM]) (Qb bd (by simp) ?_)
 by_cases h0 : ZF b l ≠ 0
 ·rw [qh h0]
  rw [il] at hC'
  simp (disch := omega) only [rq, simprocAttr, ZX, il]
  refine Qa hC' ?_
  simp (disch := omega) only [rq, simprocAttr]
  simp [QK, Qx, frzL, Qu]
 rw [qe h0]
 have h0' : ZF b l = 0 := by omega
 rw [h0', il] at hC'
 obtain ⟨h4, hh⟩ := QtN h0'
 have hin := fun k hk => @QzE b l h0' k hk
 have hS := fun k => @Qr5 b l k
 have hB := fun k => Qdc b (l.take k)
 have hB0 := Qdc b l
 have hk0 := Qc .i32 l
 rcases Qa7 b with ⟨rfl, h⟩ | ⟨rfl, h⟩ | ⟨rfl, h⟩ | ⟨h1, h2, h3, h⟩
 case inr.inr.inr => omega
 ·have hw : ((8 : Int) / 8).toNat = 1 := rfl
  simp only [hw] at hB hB0
  rw [h] at hin
  simp (disch := omega) only [rq, simprocAttr, ZX, il]
  refine Qa hC' ?_
  simp (disch := omega) only [rq, simprocAttr]
  refine Qj (ι := Nat) (fun k => ⟨[(19, .int .i64 k), (18, .int .i64 l.length), (17, .list l.length (ks .i32 l)), (7, .own 0 (QeN 8 (l.take k)).length), (0, .int .i64 8), (1, .list l.length (ks .i32 l))], [⟨t0, 1, (QeN 8 (l.take k)).length, u8 (QeN 8 (l.take k)), 0⟩]⟩) (fun k => k ≤ l.length) (fun k => l.length - k) 0 (Le.trans (Qfe 7 t0 1 (by omega) rfl) (QB (by simp [Am.look, QeN]))) (by omega) ?_
  intro k hk
  have hBk := hB k
  rw [qu, qG hk] at hBk
  by_cases hlt : k < l.length
  ·have e1 := Qbv (K := .i32) hlt
   obtain ⟨i1, i2⟩ := hin k hlt
   have eT := hS k hlt
   have eE := QAB (x := l[k]) (by omega) (by omega)
   have eL := hB (k + 1)
   rw [qu, qG (by omega : k + 1 ≤ l.length)] at eL
   generalize l[k] = x at *
   generalize hp : QeN 8 (l.take k) = pre at *
   generalize hp2 : QeN 8 (l.take (k + 1)) = pre2 at *
   have eU : u8 pre2 = u8 pre ++ [.int .u8 (x + 128)] := by rw [eT, ← Qb4, eE]
   have lp := Qk pre
   simp (disch := omega) only [rq, simprocAttr, e1, hk0]
   refine Qj (ι := Nat) (fun j => ⟨[(29, .int .i64 j), (28, .int .i64 1), (9, .int .i32 (x + 128)), (7, .own 0 (pre.length + j)), (19, .int .i64 k), (18, .int .i64 l.length), (17, .list l.length (ks .i32 l)), (0, .int .i64 8), (1, .list l.length (ks .i32 l))], [⟨t0, 1, pre.length + j, (match j with | 0 => u8 pre | _ => u8 pre ++ [.int .u8 (x + 128)]), 0⟩]⟩) (fun j => j ≤ 1) (fun j => 1 - j) 0 (Qe) (by omega) ?_
   intro j hj
   have s0 : Ql false .i32 (x + 128) 0 = some (.int .i32 (x + 128)) := by simp [Ql, Int.fdiv_one]
   have hj3 : j = 0 ∨ j = 1 := by omega
   rcases hj3 with rfl | rfl
   ·simp (disch := omega) only [rq, simprocAttr, s0, lp, qz]
    exact ⟨1, by omega, by omega, XI [_] (by simp [Xd, Zx, isTL, isT]) (by simp [Am.look, Qx, frzL, Qu, frzL_T _ (Qp _ _)])⟩
   ·simp (disch := omega) only [rq, simprocAttr]
    rw [← eU, show pre.length + 1 = pre2.length by omega]
    refine ⟨k + 1, by omega, by omega, ?_⟩
    rw [hp2]
    exact Qe
  ·have ek : k = l.length := by omega
   subst ek
   rw [yn]
   simp (disch := omega) only [rq, simprocAttr, hk0]
   simp [QK, Qx, frzL, Qu, frzL_T _ (Zx _), bs]
 ·have hw : ((16 : Int) / 8).toNat = 2 := rfl
  simp only [hw] at hB hB0
  rw [h] at hin
  simp (disch := omega) only [rq, simprocAttr, ZX, il]
  refine Qa hC' ?_
  simp (disch := omega) only [rq, simprocAttr]
  refine Qj (ι := Nat) (fun k => ⟨[(19, .int .i64 k), (18, .int .i64 l.length), (17, .list l.length (ks .i32 l)), (7, .own 0 (QeN 16 (l.take k)).length), (0, .int .i64 16), (1, .list l.length (ks .i32 l))], [⟨t0, 1, (QeN 16 (l.take k)).length, u8 (QeN 16 (l.take k)), 0⟩]⟩) (fun k => k ≤ l.length) (fun k => l.length - k) 0 (Le.trans (Qfe 7 t0 1 (by omega) rfl) (QB (by simp [Am.look, QeN]))) (by omega) ?_
  intro k hk
  have hBk := hB k
  rw [qu, qG hk] at hBk
  by_cases hlt : k < l.length
  ·have e1 := Qbv (K := .i32) hlt
   obtain ⟨i1, i2⟩ := hin k hlt
   have eT := hS k hlt
   have eE := Qy8 (x := l[k]) (by omega) (by omega)
   have eL := hB (k + 1)
   rw [qu, qG (by omega : k + 1 ≤ l.length)] at eL
   generalize l[k] = x at *
   generalize hp : QeN 16 (l.take k) = pre at *
   generalize hp2 : QeN 16 (l.take (k + 1)) = pre2 at *
   have eU : u8 pre2 = u8 pre ++ [.int .u8 (x % 256), .int .u8 (x / 256 % 256)] := by rw [eT, ← Qb4, eE]
   have lp := Qk pre
   simp (disch := omega) only [rq, simprocAttr, e1, hk0]
   refine Qj (ι := Nat) (fun j => ⟨[(29, .int .i64 j), (28, .int .i64 2), (9, .int .i32 (x)), (7, .own 0 (pre.length + j)), (19, .int .i64 k), (18, .int .i64 l.length), (17, .list l.length (ks .i32 l)), (0, .int .i64 16), (1, .list l.length (ks .i32 l))], [⟨t0, 1, pre.length + j, (match j with | 0 => u8 pre | 1 => u8 pre ++ [.int .u8 (x % 256)] | _ => u8 pre ++ [.int .u8 (x % 256), .int .u8 (x / 256 % 256)]), 0⟩]⟩) (fun j => j ≤ 2) (fun j => 2 - j) 0 (Qe) (by omega) ?_
   intro j hj
   have s0 : Ql false .i32 x 0 = some (.int .i32 x) := by simp [Ql, Int.fdiv_one]
   have s1 : Ql false .i32 x 8 = some (.int .i32 (x / 256)) := by simp [Ql, IntKind.bits, qQ]
   have s2 : Ql false .i32 x 16 = some (.int .i32 (x / 65536)) := by simp [Ql, IntKind.bits, qQ]
   have w0 := ZP x
   have w1 := ZP (x / 256)
   have w2 := ZP (x / 65536)
   have hj3 : j = 0 ∨ j = 1 ∨ j = 2 := by omega
   rcases hj3 with rfl | rfl | rfl
   ·simp (disch := omega) only [rq, simprocAttr, s0, s1, s2, w0, w1, w2, lp, qz]
    exact ⟨1, by omega, by omega, XI [_] (by simp [Xd, Zx, isTL, isT]) (by simp [Am.look, Qx, frzL, Qu, frzL_T _ (Qp _ _)])⟩
   ·simp (disch := omega) only [rq, simprocAttr, s0, s1, s2, w0, w1, w2, lp, qz]
    exact ⟨2, by omega, by omega, XI [_] (by simp [Xd, Zx, isTL, isT]) (by simp [Am.look, Qx, frzL, Qu, frzL_T _ (Qp _ _)])⟩
   ·simp (disch := omega) only [rq, simprocAttr]
    rw [← eU, show pre.length + 2 = pre2.length by omega]
    refine ⟨k + 1, by omega, by omega, ?_⟩
    rw [hp2]
    exact Qe
  ·have ek : k = l.length := by omega
   subst ek
   rw [yn]
   simp (disch := omega) only [rq, simprocAttr, hk0]
   simp [QK, Qx, frzL, Qu, frzL_T _ (Zx _), bs]
 ·have hw : ((24 : Int) / 8).toNat = 3 := rfl
  simp only [hw] at hB hB0
  rw [h] at hin
  simp (disch := omega) only [rq, simprocAttr, ZX, il]
  refine Qa hC' ?_
  simp (disch := omega) only [rq, simprocAttr]
  refine Qj (ι := Nat) (fun k => ⟨[(19, .int .i64 k), (18, .int .i64 l.length), (17, .list l.length (ks .i32 l)), (7, .own 0 (QeN 24 (l.take k)).length), (0, .int .i64 24), (1, .list l.length (ks .i32 l))], [⟨t0, 1, (QeN 24 (l.take k)).length, u8 (QeN 24 (l.take k)), 0⟩]⟩) (fun k => k ≤ l.length) (fun k => l.length - k) 0 (Le.trans (Qfe 7 t0 1 (by omega) rfl) (QB (by simp [Am.look, QeN]))) (by omega) ?_
  intro k hk
  have hBk := hB k
  rw [qu, qG hk] at hBk
  by_cases hlt : k < l.length
  ·have e1 := Qbv (K := .i32) hlt
   obtain ⟨i1, i2⟩ := hin k hlt
   have eT := hS k hlt
   have eE := Qy7 (x := l[k]) (by omega) (by omega)
   have eL := hB (k + 1)
   rw [qu, qG (by omega : k + 1 ≤ l.length)] at eL
   generalize l[k] = x at *
   generalize hp : QeN 24 (l.take k) = pre at *
   generalize hp2 : QeN 24 (l.take (k + 1)) = pre2 at *
   have eU : u8 pre2 = u8 pre ++ [.int .u8 (x % 256), .int .u8 (x / 256 % 256), .int .u8 (x / 65536 % 256)] := by rw [eT, ← Qb4, eE]
   have lp := Qk pre
   simp (disch := omega) only [rq, simprocAttr, e1, hk0]
   refine Qj (ι := Nat) (fun j => ⟨[(29, .int .i64 j), (28, .int .i64 3), (9, .int .i32 (x)), (7, .own 0 (pre.length + j)), (19, .int .i64 k), (18, .int .i64 l.length), (17, .list l.length (ks .i32 l)), (0, .int .i64 24), (1, .list l.length (ks .i32 l))], [⟨t0, 1, pre.length + j, (match j with | 0 => u8 pre | 1 => u8 pre ++ [.int .u8 (x % 256)] | 2 => u8 pre ++ [.int .u8 (x % 256), .int .u8 (x / 256 % 256)] | _ => u8 pre ++ [.int .u8 (x % 256), .int .u8 (x / 256 % 256), .int .u8 (x / 65536 % 256)]), 0⟩]⟩) (fun j => j ≤ 3) (fun j => 3 - j) 0 (Qe) (by omega) ?_
   intro j hj
   have s0 : Ql false .i32 x 0 = some (.int .i32 x) := by simp [Ql, Int.fdiv_one]
   have s1 : Ql false .i32 x 8 = some (.int .i32 (x / 256)) := by simp [Ql, IntKind.bits, qQ]
   have s2 : Ql false .i32 x 16 = some (.int .i32 (x / 65536)) := by simp [Ql, IntKind.bits, qQ]
   have w0 := ZP x
   have w1 := ZP (x / 256)
   have w2 := ZP (x / 65536)
   have hj3 : j = 0 ∨ j = 1 ∨ j = 2 ∨ j = 3 := by omega
   rcases hj3 with rfl | rfl | rfl | rfl
   ·simp (disch := omega) only [rq, simprocAttr, s0, s1, s2, w0, w1, w2, lp, qz]
    exact ⟨1, by omega, by omega, XI [_] (by simp [Xd, Zx, isTL, isT]) (by simp [Am.look, Qx, frzL, Qu, frzL_T _ (Qp _ _)])⟩
   ·simp (disch := omega) only [rq, simprocAttr, s0, s1, s2, w0, w1, w2, lp, qz]
    exact ⟨2, by omega, by omega, XI [_] (by simp [Xd, Zx, isTL, isT]) (by simp [Am.look, Qx, frzL, Qu, frzL_T _ (Qp _ _)])⟩
   ·simp (disch := omega) only [rq, simprocAttr, s0, s1, s2, w0, w1, w2, lp, qz]
    exact ⟨3, by omega, by omega, XI [_] (by simp [Xd, Zx, isTL, isT]) (by simp [Am.look, Qx, frzL, Qu, frzL_T _ (Qp _ _)])⟩
   ·simp (disch := omega) only [rq, simprocAttr]
    rw [← eU, show pre.length + 3 = pre2.length by omega]
    refine ⟨k + 1, by omega, by omega, ?_⟩
    rw [hp2]
    exact Qe
  ·have ek : k = l.length := by omega
   subst ek
   rw [yn]
   simp (disch := omega) only [rq, simprocAttr, hk0]
   simp [QK, Qx, frzL, Qu, frzL_T _ (Zx _), bs]
theorem QcC {w n : Nat} (h : n < 2 ^ w) : BitVec.ofInt w (n : Int) = BitVec.ofNat w n := by
 apply BitVec.eq_of_toNat_eq
 rw [BitVec.toNat_ofInt, yy]
 omega
theorem Qgc {K : IntKind} (hs : K.signed = false) {n : Nat} (h : n < 2 ^ K.bits) : K.wrap (n : Int) = n := by
 have h1 : (n : Int) % 2 ^ K.bits = n := by
  rw [Int.emod_eq_of_lt (by omega)]
  exact_mod_cast h
 unfold IntKind.wrap
 simp [hs, h1]
theorem Quu {K : IntKind} (hs : K.signed = false) {a b : Nat} (ha : a < 2 ^ K.bits) (hb : b < 2 ^ K.bits) : K.wrap (BitVec.ofInt K.bits (a : Int) ^^^ BitVec.ofInt K.bits (b : Int)).toNat = ((a ^^^ b : Nat) : Int) := by
 rw [QcC ha, QcC hb, Yb, yy, yy, qV ha, qV hb]
 exact Qgc hs (yH ha hb)
theorem QBj {K : IntKind} (hs : K.signed = false) {a b : Nat} (ha : a < 2 ^ K.bits) (hb : b < 2 ^ K.bits) : K.wrap (BitVec.ofInt K.bits (a : Int) &&& BitVec.ofInt K.bits (b : Int)).toNat = ((a &&& b : Nat) : Int) := by
 rw [QcC ha, QcC hb, Ya, yy, yy, qV ha, qV hb]
 exact Qgc hs (Nat.and_lt_two_pow _ hb)
theorem orK {K : IntKind} (hs : K.signed = false) {a b : Nat} (ha : a < 2 ^ K.bits) (hb : b < 2 ^ K.bits) : K.wrap (BitVec.ofInt K.bits (a : Int) ||| BitVec.ofInt K.bits (b : Int)).toNat = ((a ||| b : Nat) : Int) := by
 rw [QcC ha, QcC hb, BitVec.toNat_or, yy, yy, qV ha, qV hb]
 exact Qgc hs (Nat.or_lt_two_pow ha hb)
theorem Qnw {K : IntKind} {n k : Nat} (hk : k ≤ K.bits) : Ql false K (n : Int) (k : Int) = some (.int K ((n / 2 ^ k : Nat) : Int)) := by
 have h3 : ¬ ((k : Int) < 0) := by omega
 have h5 : min k K.bits = k := by omega
 have h6 : (n : Int).fdiv (2 ^ k) = ((n / 2 ^ k : Nat) : Int) := by
  rw [qQ _ (Int.pow_nonneg (by decide))]
  simp [jv, Int.natCast_pow]
 simp only [Ql, qe h3, qY, yC, qw, h5, h6]
theorem Qu4 {K : IntKind} (hs : K.signed = false) {c s : Nat} (h : s ≤ K.bits) (h2 : c * 2 ^ s < 2 ^ K.bits) : Ql true K (c : Int) (s : Int) = some (.int K ((c * 2 ^ s : Nat) : Int)) := by
 have h3 : ¬ ((s : Int) < 0) := by omega
 have h5 : min s K.bits = s := by omega
 have h6 : (c : Int) * 2 ^ s = ((c * 2 ^ s : Nat) : Int) := by simp
 simp only [Ql, qe h3, yo, qw, h5, h6]
 rw [Qgc hs h2]
def Qwa (c : Nat) : Nat := (c / 2) ^^^ (if c % 2 = 1 then 3988292384 else 0)
def Qgr : Nat → Nat → Nat
 | 0, c => c
 | k + 1, c => Qgr k (Qwa c)
theorem Qyq {c : Nat} (h : c < 4294967296) : Qwa c < 4294967296 := by
 unfold Qwa
 have : (if c % 2 = 1 then 3988292384 else 0) < 2 ^ 32 := by split <;> decide
 exact yH (n := 32) (by omega) this
theorem Qkd : ∀ (k : Nat) {c : Nat}, c < 4294967296 → Qgr k c < 4294967296
 | 0, _, h => h
 | k + 1, _, h => Qkd k (Qyq h)
theorem Qmp : ∀ (k c : Nat), Qgr (k + 1) c = Qwa (Qgr k c)
 | 0, _ => rfl
 | k + 1, c => by rw [Qgr, Qmp k, Qgr]
theorem Qv9 (x h : Nat) : Qwa (x ^^^ 2 * h) = Qwa x ^^^ h := by
 have e1 : (x ^^^ 2 * h) % 2 = x % 2 := by
  have := Nat.xor_mod_two_pow (a := x) (b := 2 * h) (n := 1)
  simpa using this
 have e2 : (x ^^^ 2 * h) / 2 = x / 2 ^^^ h := by rw [Nat.xor_div_two, Nat.mul_div_cancel_left _ (by omega)]
 unfold Qwa
 rw [e1, e2, je, je, jo h]
theorem QpF : ∀ (k x h : Nat), Qgr k (x ^^^ 2 ^ k * h) = Qgr k x ^^^ h
 | 0, x, h => by simp [Qgr]
 | k + 1, x, h => by
  rw [Qgr, yV, yi (2 ^ k) 2, ja, Qv9, QpF k, Qgr]
theorem Qk2 (b k : Nat) : b = b % 2 ^ k ^^^ 2 ^ k * (b / 2 ^ k) := by
 apply jM
 intro i
 rw [jG, jZ, yp, Nat.testBit_div_two_pow]
 by_cases h : i < k
 ·have : ¬ k ≤ i := by omega
  simp [h, this]
 ·have h' : k ≤ i := by omega
  simp [h, h', show i - k + k = i by omega]
def QzU (s b : Nat) : Nat := Qgr 8 (s ^^^ b)
theorem QqT (s b : Nat) : QzU s b = s / 256 ^^^ Qgr 8 (s % 256 ^^^ b) := by
 have h : s ^^^ b = (s % 256 ^^^ b) ^^^ 2 ^ 8 * (s / 256) := by
  have := Qk2 s 8
  rw [show (2 : Nat) ^ 8 = 256 from rfl] at this ⊢
  rw [je, jo b, ← je, ← this]
 rw [QzU, h, QpF, jo]
theorem Qyr {s b : Nat} (hs : s < 4294967296) (hb : b < 256) : QzU s b < 4294967296 := Qkd 8 (yH (n := 32) (by omega) (by omega))
def Qrk (s : Nat) (l : List UInt8) : Nat := l.foldl (fun s b => QzU s b.toNat) s
theorem QtH {s : Nat} {l : List UInt8} {k : Nat} (h : k < l.length) : Qrk s (l.take (k + 1)) = QzU (Qrk s (l.take k)) (l[k]).toNat := by
 rw [qm h, Qrk, j3]; rfl
theorem Qoc : ∀ {l : List UInt8} {s : Nat}, s < 4294967296 → Qrk s l < 4294967296
 | [], _, h => h
 | b :: l, s, h => Qoc (l := l) (Qyr h (UInt8.toNat_lt b))
def QkY (i : Nat) : List Int := (List.range 256).map fun j => if j < i then ((Qgr 8 j : Nat) : Int) else 0
theorem XJ (i : Nat) : (QkY i).length = 256 := by simp [QkY]
theorem Qge {i j : Nat} (h : j < 256) : (QkY i)[j]'(by rw [XJ]; exact h) = if j < i then ((Qgr 8 j : Nat) : Int) else 0 := by simp [QkY]
theorem QuM {i : Nat} (h : i < 256) : (QkY i).set i ((Qgr 8 i : Nat) : Int) = QkY (i + 1) := by
 refine yK (by simp [XJ]) fun j h1 h2 => ?_
 have hj : j < 256 := by simpa [XJ] using h2
 rw [j9, Qge hj]
 split
 ·rename_i e; subst e; rw [Qge hj, qh (by omega)]
 ·rename_i e; rw [Qge hj]
  by_cases h3 : j < i
  ·rw [qh h3, qh (by omega)]
  ·rw [qe h3, qe (by omega)]
def QoB (P : Prg) (f : Nat) : Prop := VC P f [] (.cell (ks .u32 (QkY 256)))
theorem Qfm {l : List UInt8} {k : Nat} (h : k < l.length) : (u8 l).drop k = .int .u8 (l[k]).toNat :: u8 (l.drop (k + 1)) := by
 rw [Zr, qK h]; rfl
set_option maxRecDepth 40000 in
theorem Qoe {P : Prg} {f t0 : Nat} (bd : Body P f 24 [.tmp 0] (JG t0)) : QoB P f := by
 refine Qi 1 rfl (by simp [isD, QwM (Qp _ _)]) (Qb bd (by simp) ?_)
 unfold JG
 have z0 : ([.int .u32 0, .int .u32 0] : List AV) = [.int .u32 0, .int .u32 0] := rfl
 simp (disch := omega) only [rq, simprocAttr]
 refine Qj (ι := Nat) (fun i => ⟨[(5, .int .i64 i), (1, .ref 0 1 0)], [⟨t0, 256, 1, ks .u32 (QkY i), 0⟩]⟩) (fun i => i ≤ 256) (fun i => 256 - i) 0 (Qe) (by omega) ?_
 intro i hi
 by_cases hlt : i < 256
 ·simp (disch := omega) only [rq, simprocAttr]
  refine Qj (ι := Nat) (fun j => ⟨[(10, .int .i64 j), (3, .int .u32 (Qgr j i)), (5, .int .i64 i), (2, .int .i64 i), (1, .ref 0 1 0)], [⟨t0, 256, 1, ks .u32 (QkY i), 0⟩]⟩) (fun j => j ≤ 8) (fun j => 8 - j) 0 (QB (by simp [Am.look, Qgr])) (by omega) ?_
  intro j hj
  by_cases hjl : j < 8
  ·have hc := Qkd j (c := i) (by omega)
   have hn := Qmp j i
   generalize Qgr j i = c at *
   have a1 : IntKind.u32.wrap (BitVec.ofInt IntKind.u32.bits (c : Int) &&& BitVec.ofInt IntKind.u32.bits 1).toNat = ((c % 2 : Nat) : Int) := by
    have h := QBj (K := .u32) rfl (a := c) (b := 1) (by exact hc) (by decide)
    rw [Nat.and_one_is_mod] at h
    exact h
   have a2 : Ql false .u32 (c : Int) 1 = some (.int .u32 ((c / 2 : Nat) : Int)) := Qnw (K := .u32) (n := c) (k := 1) (by decide)
   rcases Nat.mod_two_eq_zero_or_one c with h2 | h2
   ·have a3 : IntKind.u32.wrap (BitVec.ofInt IntKind.u32.bits ((c / 2 : Nat) : Int) ^^^ BitVec.ofInt IntKind.u32.bits 0).toNat = ((Qgr (j + 1) i : Nat) : Int) := by
     rw [hn, Qwa, h2, qe (by decide)]
     exact Quu (K := .u32) rfl (a := c / 2) (b := 0) (by show c / 2 < 4294967296; omega) (by decide)
    have a1' : IntKind.u32.wrap (BitVec.ofInt IntKind.u32.bits (c : Int) &&& BitVec.ofInt IntKind.u32.bits 1).toNat = 0 := by rw [a1, h2]; rfl
    simp (disch := omega) only [rq, simprocAttr, a1', a2, a3]
    exact ⟨j + 1, by omega, by omega, Qe⟩
   ·have a3 : IntKind.u32.wrap (BitVec.ofInt IntKind.u32.bits ((c / 2 : Nat) : Int) ^^^ BitVec.ofInt IntKind.u32.bits 3988292384).toNat = ((Qgr (j + 1) i : Nat) : Int) := by
     rw [hn, Qwa, h2, qh rfl]
     exact Quu (K := .u32) rfl (a := c / 2) (b := 3988292384) (by show c / 2 < 4294967296; omega) (by decide)
    have a1' : IntKind.u32.wrap (BitVec.ofInt IntKind.u32.bits (c : Int) &&& BitVec.ofInt IntKind.u32.bits 1).toNat = 1 := by rw [a1, h2]; rfl
    simp (disch := omega) only [rq, simprocAttr, a1', a2, a3]
    exact ⟨j + 1, by omega, by omega, Qe⟩
  ·obtain rfl : j = 8 := by omega
   have e1 := XJ i
   have e2 := Qc .u32 (QkY i)
   have e3 : (ks .u32 (QkY i)).take i ++ [.int .u32 (Qgr 8 i)] ++ (ks .u32 (QkY i)).drop (i + 1) = ks .u32 (QkY (i + 1)) := by
    rw [← QuM hlt, yr, qh (by rw [XJ]; exact hlt)]; simp [ks, jc, jf]
   simp (disch := omega) only [rq, simprocAttr, e1, e2, e3]
   exact ⟨i + 1, by omega, by omega, Qe⟩
 ·obtain rfl : i = 256 := by omega
  simp (disch := omega) only [rq, simprocAttr]
  simp [QK, Qx, frzL, Qu, frzL_T _ (Qp _ _)]
def QoR (P : Prg) (f : Nat) : Prop := ∀ (s : Nat) (l : List UInt8), s < 4294967296 → VC P f [.int .u32 s, bs l] (if 100000 < l.length then .tup [.int .u32 0, .int .i64 4] else .tup [.int .u32 (Qrk s l), .int .i64 0])
set_option maxRecDepth 40000 in
theorem QqV {P : Prg} {f fT : Nat} (bd : Body P f 32 [.tmp 4, .tmp 5] (Jd fT)) (hT : QoB P fT) : QoR P f := by
 intro s l hs
 refine QJ (by simp [isDL, isD, QM]) (by split <;> rfl) bd ?_
 by_cases hl : 100000 < l.length
 ·rw [qh hl]
  simp (disch := omega) only [rq, simprocAttr, Jd, bs]
 ·rw [qe hl]
  have hT' := hT
  have t0 := Qc .u32 (QkY 256)
  rw [XJ] at t0
  simp (disch := omega) only [rq, simprocAttr, Jd, bs]
  refine Qa hT' ?_
  simp (disch := omega) only [rq, simprocAttr]
  refine Qj (ι := Nat) (fun k => ⟨[(15, .int .i64 k), (14, .int .i64 l.length), (13, .list l.length (u8 l)), (6, .cell (ks .u32 (QkY 256))), (0, .int .u32 (Qrk s (l.take k)))], []⟩) (fun k => k ≤ l.length) (fun k => l.length - k) 0 (QB (by simp [Am.look, Qrk])) (by omega) ?_
  intro k hk
  have hc := Qoc (l := l.take k) hs
  by_cases hlt : k < l.length
  ·have e1 := Qfm hlt
   have hn := QtH (s := s) hlt
   generalize Qrk s (l.take k) = c at *
   rw [QqT] at hn
   have hb := (l[k]).toNat_lt
   have h0 : (c % 256 ^^^ (l[k]).toNat) < 256 := yH (n := 8) (yc _ (by decide)) hb
   have h1 := Qkd 8 (c := c % 256 ^^^ (l[k]).toNat) (by omega)
   have a1 : Ql false .u32 (c : Int) 8 = some (.int .u32 ((c / 256 : Nat) : Int)) := Qnw (K := .u32) (n := c) (k := 8) (by decide)
   have a2 : IntKind.u8.wrap (c : Int) = ((c % 256 : Nat) : Int) := by rw [ZP]; omega
   have a3 : IntKind.u8.wrap (BitVec.ofInt IntKind.u8.bits ((c % 256 : Nat) : Int) ^^^ BitVec.ofInt IntKind.u8.bits ((l[k]).toNat : Int)).toNat = ((c % 256 ^^^ (l[k]).toNat : Nat) : Int) :=
    Quu (K := .u8) rfl (a := c % 256) (b := (l[k]).toNat) (yc _ (by decide)) hb
   have a4 : IntKind.u32.wrap (BitVec.ofInt IntKind.u32.bits ((c / 256 : Nat) : Int) ^^^ BitVec.ofInt IntKind.u32.bits ((Qgr 8 (c % 256 ^^^ (l[k]).toNat) : Nat) : Int)).toNat = ((Qrk s (l.take (k + 1)) : Nat) : Int) := by
    rw [hn]; exact Quu (K := .u32) rfl (by show c / 256 < 4294967296; omega) h1
   generalize c % 256 ^^^ (l[k]).toNat = x at *
   have e2 : (ks .u32 (QkY 256)).drop x = .int .u32 ((Qgr 8 x : Nat) : Int) :: ks .u32 ((QkY 256).drop (x + 1)) := by
    rw [Jr, qK (by rw [XJ]; exact h0), Qdh, Qge h0, qh h0]
   simp (disch := omega) only [rq, simprocAttr, e1, a1, a2, a3, a4, e2, t0]
   exact ⟨k + 1, by omega, by omega, Qe⟩
  ·have ek : k = l.length := by omega
   subst ek
   rw [yn]
   simp (disch := omega) only [rq, simprocAttr]
def QmT (P : Prg) (f : Nat) : Prop := ∀ (l : List UInt8), VC P f [bs l] (if 100000 < l.length then .tup [.int .u32 0, .int .i64 4] else .tup [.int .u32 ((4294967295 - Qrk 4294967295 l : Nat) : Int), .int .i64 0])
theorem QwZ {c : Nat} (h : c < 4294967296) : 4294967295 ^^^ c = 4294967295 - c := by
 have h1 : BitVec.allOnes 32 ^^^ BitVec.ofNat 32 c = ~~~ BitVec.ofNat 32 c := by
  apply BitVec.eq_of_getElem_eq
  intro i hi
  rw [BitVec.getElem_xor, BitVec.getElem_allOnes, BitVec.getElem_not, Bool.true_xor]
 have h2 := congrArg BitVec.toNat h1
 rw [Yb, BitVec.toNat_not, BitVec.toNat_allOnes, yy, qV h] at h2
 exact h2
theorem QtJ {P : Prg} {f fN : Nat} (bd : Body P f 16 [.tmp 2, .tmp 3] (JS fN)) (hN : QoR P fN) : QmT P f := by
 intro l
 refine QJ (by simp [isDL, isD, QM]) (by split <;> rfl) bd ?_
 have hN' := hN 4294967295 l (by decide)
 have hc := Qoc (l := l) (s := 4294967295) (by decide)
 generalize Qrk 4294967295 l = c at *
 simp only [bs] at hN'
 by_cases hl : 100000 < l.length
 ·rw [qh hl] at hN' ⊢
  simp (disch := omega) only [rq, simprocAttr, JS, bs]
  refine Qa hN' ?_
  simp (disch := omega) only [rq, simprocAttr]
 ·rw [qe hl] at hN' ⊢
  have a1 : IntKind.u32.wrap (BitVec.ofInt IntKind.u32.bits IntKind.u32.max ^^^ BitVec.ofInt IntKind.u32.bits (c : Int)).toNat = ((4294967295 - c : Nat) : Int) := by
   rw [← QwZ hc]
   exact Quu (K := .u32) rfl (a := 4294967295) (b := c) (by decide) hc
  have a2 : IntKind.u32.signed = false := rfl
  simp (disch := omega) only [rq, simprocAttr, JS, bs]
  refine Qa hN' ?_
  simp (disch := omega) only [rq, simprocAttr, a1, a2]
def nB (N : Nat) : Nat := (N + 7) / 8
theorem QvA (V i : Nat) : leB V (i + 1) = leB V i ++ [UInt8.ofNat (V / 256 ^ i % 256)] := by
 have h1 : (leB V (i + 1)).take (i + 1) = (leB V (i + 1)).take i ++ [UInt8.ofNat (V / 256 ^ i % 256)] := Qd1 (by omega)
 have h2 : ∀ k j n : Nat, k ≤ j → (leB n j).take k = leB n k := by
  intro k
  induction k with
  | zero => intro j n _; simp [leB]
  | succ k ih =>
   intro j n h
   obtain ⟨j, rfl⟩ : ∃ j', j = j' + 1 := ⟨j - 1, by omega⟩
   simp [leB, ih j (n / 256) (by omega)]
 rw [h2 (i + 1) (i + 1) V (by omega), h2 i (i + 1) V (by omega)] at h1
 exact h1
theorem Qs0 : ∀ (i V u : Nat), leB (V + 256 ^ i * u) i = leB V i
 | 0, _, _ => rfl
 | i + 1, V, u => by
  have e : 256 ^ (i + 1) * u = 256 * (256 ^ i * u) := by rw [yV, yi (256 ^ i) 256, ja]
  have e1 : (V + 256 ^ (i + 1) * u) % 256 = V % 256 := by rw [e]; omega
  have e2 : (V + 256 ^ (i + 1) * u) / 256 = V / 256 + 256 ^ i * u := by rw [e]; omega
  simp only [leB, e1, e2, Qs0 i]
theorem Qsz (i : Nat) : (256 : Nat) ^ i = 2 ^ (8 * i) := by rw [Nat.pow_mul]
theorem Qec {V i at_ : Nat} (h : V < 2 ^ (8 * i + at_)) (ha : at_ ≤ 8) : leB V (i + 1) = leB V i ++ [UInt8.ofNat (V / 256 ^ i)] ∧ V / 256 ^ i < 2 ^ at_ := by
 have h1 : V / 256 ^ i < 2 ^ at_ := Nat.div_lt_of_lt_mul (by rw [Qsz, ← yt]; exact h)
 have h2 : 2 ^ at_ ≤ 2 ^ 8 := qy (by omega) ha
 exact ⟨by rw [QvA, qV (by omega)], h1⟩
theorem Qin {V i at_ w r : Nat} (h : V < 2 ^ (8 * i + at_)) (hw : w < 2 ^ r) (hr : at_ + r ≤ 8) :
  leB (V + 2 ^ (8 * i + at_) * w) (i + 1) = leB V i ++ [UInt8.ofNat (V / 256 ^ i + 2 ^ at_ * w)] ∧ V / 256 ^ i + 2 ^ at_ * w < 2 ^ (at_ + r) ∧ V + 2 ^ (8 * i + at_) * w < 2 ^ (8 * i + (at_ + r)) := by
 obtain ⟨_, h1⟩ := Qec h (by omega)
 have e : 2 ^ (8 * i + at_) * w = 256 ^ i * (2 ^ at_ * w) := by rw [Qsz, yt, ja]
 have h2 : V / 256 ^ i + 2 ^ at_ * w < 2 ^ (at_ + r) := by
  have : 2 ^ at_ * (w + 1) ≤ 2 ^ at_ * 2 ^ r := yL _ hw
  rw [yt]; rw [js, jD] at this; omega
 have h3 : V + 2 ^ (8 * i + at_) * w < 2 ^ (8 * i + (at_ + r)) := by
  have : 2 ^ (8 * i + at_) * (w + 1) ≤ 2 ^ (8 * i + at_) * 2 ^ r := yL _ hw
  rw [← j1, yt 2 (8 * i + at_)]; rw [js, jD] at this; omega
 refine ⟨?_, h2, h3⟩
 have h4 := (Qec (V := V + 2 ^ (8 * i + at_) * w) (i := i) (at_ := at_ + r) h3 hr).1
 rw [h4, e, Qs0, Nat.add_mul_div_left _ _ (yx (by omega))]
theorem Qyw {V q r n : Nat} (hr : r + n ≤ 8) : V / 256 ^ q % 256 / 2 ^ r % 2 ^ n = V / 2 ^ (8 * q + r) % 2 ^ n := by
 rw [Qsz, show (256 : Nat) = 2 ^ r * 2 ^ (8 - r) by rw [← yt, show r + (8 - r) = 8 by omega], Nat.mod_mul_right_div_self, jb, ← yt]
 rw [Nat.mod_mod_of_dvd]
 exact ⟨2 ^ (8 - r - n), by rw [← yt]; congr 1; omega⟩
def bA (N V : Nat) : AV := .agg [.list (nB N) (u8 (leB V (nB N))), .int .i64 N]
theorem QcT (N V : Nat) : isD (bA N V) = true := by simp [bA, isD, isDL, Qhb]
theorem Qkv {n : Nat} (h : n < 9223372036854775808) : IntKind.i64.wrap (BitVec.ofInt IntKind.i64.bits (n : Int) &&& BitVec.ofInt IntKind.i64.bits 7).toNat = ((n % 8 : Nat) : Int) := by
 have e1 : (BitVec.ofInt 64 (n : Int)).toNat = n := by
  rw [BitVec.toNat_ofInt]
  show ((n : Int) % 18446744073709551616).toNat = n
  omega
 have e2 : (BitVec.ofInt 64 7).toNat = 7 := by decide
 have : (BitVec.ofInt 64 (n : Int) &&& BitVec.ofInt 64 7).toNat = n % 8 := by
  rw [Ya, e1, e2]
  exact yX n 3
 show IntKind.i64.wrap ((BitVec.ofInt 64 (n : Int) &&& BitVec.ofInt 64 7).toNat : Int) = _
 rw [this, Xk] <;> omega
theorem QyY {l : List UInt8} {k : Nat} (h : k < l.length) : (u8 l).drop k = .int .u8 (l[k]).toNat :: u8 (l.drop (k + 1)) := by
 rw [Zr, qK h]; rfl
theorem QwF {V k i : Nat} (h : i < k) : (u8 (leB V k)).drop i = .int .u8 ((V / 256 ^ i % 256 : Nat) : Int) :: u8 ((leB V k).drop (i + 1)) := by
 rw [QyY (by rw [QY]; exact h)]
 have := QnS k V i h
 rw [qc (by rw [QY]; exact h)] at this
 rw [Yh this]
 have : (UInt8.ofNat (V / 256 ^ i % 256)).toNat = V / 256 ^ i % 256 := by simp
 rw [this]
def QbK (P : Prg) (f : Nat) : Prop := ∀ N V : Nat, V < 2 ^ N → N ≤ 330000 → VC P f [bA N V] (.int .i64 0)
theorem Qq6 {P : Prg} {f t0 : Nat} (bd : Body P f 40 [.tmp 2] (Je t0)) : QbK P f := by
 intro N V hV hN
 refine QJ (by simp [isDL, QcT]) rfl bd ?_
 have e1 : Ql false .i64 ((N : Int) + 7) 3 = some (.int .i64 ((nB N : Nat) : Int)) := by
  rw [show (N : Int) + 7 = ((N + 7 : Nat) : Int) by omega]
  exact Qnw (K := .i64) (n := N + 7) (k := 3) (by decide)
 have e2 := Qkv (n := N) (by omega)
 have e3 : (u8 (leB V (nB N))).length = nB N := by simp [u8, QY]
 by_cases h0 : N % 8 = 0
 ·rw [h0] at e2
  have e2' : IntKind.i64.wrap (BitVec.ofInt IntKind.i64.bits (N : Int) &&& BitVec.ofInt IntKind.i64.bits 7).toNat = 0 := e2
  simp (disch := omega) only [rq, simprocAttr, Je, bA, e1, e2', e3]
 ·have hn : nB N = N / 8 + 1 := by unfold nB; omega
  have h8 : N = 8 * (N / 8) + N % 8 := by omega
  obtain ⟨l1, l2⟩ := Qec (V := V) (i := N / 8) (at_ := N % 8) (by rw [← h8]; exact hV) (by omega)
  have e4 := QwF (V := V) (k := nB N) (i := N / 8) (by omega)
  have h256 : V / 256 ^ (N / 8) % 256 = V / 256 ^ (N / 8) := qV (by
   have : 2 ^ (N % 8) ≤ 2 ^ 8 := qy (by omega) (by omega)
   omega)
  rw [h256] at e4
  have e5 : Ql false .u8 ((V / 256 ^ (N / 8) : Nat) : Int) ((N % 8 : Nat) : Int) = some (.int .u8 0) := by
   have := Qnw (K := .u8) (n := V / 256 ^ (N / 8)) (k := N % 8) (by show N % 8 ≤ 8; omega)
   rw [this, jw l2]; rfl
  have e6 : nB N - 1 = N / 8 := by omega
  have hq : ((N % 8 : Nat) : Int) = (N : Int) % 8 := by omega
  generalize V / 256 ^ (N / 8) = y at *
  obtain ⟨a, ha⟩ : ∃ a, a = N % 8 := ⟨_, rfl⟩
  rw [← ha] at e2 e5 hq
  simp (disch := omega) only [rq, simprocAttr, Je, bA, e1, e2, e3, e4, e5, e6]
theorem QxM {t : Nat} (h : t ≤ 8) : Ql true .u8 1 (t : Int) = some (.int .u8 ((2 ^ t % 256 : Nat) : Int)) ∧ IntKind.u8.wrap (((2 ^ t % 256 : Nat) : Int) - 1) = ((2 ^ t - 1 : Nat) : Int) := by
 rcases (by omega : t = 0 ∨ t = 1 ∨ t = 2 ∨ t = 3 ∨ t = 4 ∨ t = 5 ∨ t = 6 ∨ t = 7 ∨ t = 8) with rfl | rfl | rfl | rfl | rfl | rfl | rfl | rfl | rfl <;> exact ⟨rfl, by decide⟩
theorem Qu3 {c s : Nat} (hs : s ≤ 64) (h : c * 2 ^ s < 18446744073709551616) : Ql true .u64 (c : Int) (s : Int) = some (.int .u64 ((c * 2 ^ s : Nat) : Int)) := Qsa hs h
theorem Qpz {X h t : Nat} : X % 2 ^ (h + t) = X % 2 ^ h + X / 2 ^ h % 2 ^ t * 2 ^ h := by
 rw [yt, Nat.mod_mul, yi]
def QpL (P : Prg) (f : Nat) : Prop := ∀ N V a n : Nat, V < 2 ^ N → N ≤ 400000 → a + n ≤ N → n ≤ 64 → VC P f [bA N V, .int .i64 a, .int .i64 n] (.int .u64 ((V / 2 ^ a % 2 ^ n : Nat) : Int))
theorem Qwk {P : Prg} {f t0 : Nat} (bd : Body P f 47 [.tmp 6] (QbI t0)) : QpL P f := by
 intro N V a n hV hN han hn
 refine QJ (by simp [isDL, QcT, isD]) rfl bd ?_
 simp (disch := omega) only [rq, simprocAttr, QbI, bA]
 refine Qj (ι := Nat) (fun h => ⟨[(8, .int .i64 h), (7, .int .u64 ((V / 2 ^ a % 2 ^ h : Nat) : Int)), (1, .int .i64 a), (2, .int .i64 n), (3, .ref 0 1 0)], [⟨t0, 2, 1, [.list (nB N) (u8 (leB V (nB N))), .int .i64 N], 0⟩]⟩) (fun h => h ≤ n) (fun h => n - h) 0 (QB (by simp [Am.look, Nat.mod_one])) (by omega) ?_
 intro h hh
 by_cases hlt : h < n
 ·obtain ⟨q, hq⟩ : ∃ q, q = (a + h) / 8 := ⟨_, rfl⟩
  obtain ⟨o, ho⟩ : ∃ o, o = (a + h) % 8 := ⟨_, rfl⟩
  obtain ⟨t, ht⟩ : ∃ t, t = min (n - h) (8 - o) := ⟨_, rfl⟩
  have e1 : IntKind.i64.wrap (BitVec.ofInt IntKind.i64.bits ((a : Int) + h) &&& BitVec.ofInt IntKind.i64.bits 7).toNat = (o : Int) := by
   rw [show (a : Int) + h = ((a + h : Nat) : Int) by omega, Qkv (by omega), ho]
  have e2 : Ql false .i64 ((a : Int) + h) 3 = some (.int .i64 (q : Int)) := by
   rw [show (a : Int) + h = ((a + h : Nat) : Int) by omega, hq]
   exact Qnw (K := .i64) (n := a + h) (k := 3) (by decide)
  have hqn : q < nB N := by unfold nB; omega
  have e3 := QwF (V := V) (k := nB N) (i := q) hqn
  have e4 : (u8 (leB V (nB N))).length = nB N := by simp [u8, QY]
  have hy : V / 256 ^ q % 256 < 256 := yc _ (by decide)
  have e5 : Ql false .u8 ((V / 256 ^ q % 256 : Nat) : Int) (o : Int) = some (.int .u8 ((V / 256 ^ q % 256 / 2 ^ o : Nat) : Int)) := Qnw (K := .u8) (k := o) (by show o ≤ 8; omega)
  obtain ⟨e6, e7⟩ := QxM (t := t) (by omega)
  have hz : V / 256 ^ q % 256 / 2 ^ o < 256 := Nat.lt_of_le_of_lt (Nat.div_le_self _ _) hy
  have h2t : 2 ^ t - 1 < 256 := by
   have : 2 ^ t ≤ 2 ^ 8 := qy (by omega) (by omega)
   omega
  have e8 : IntKind.u8.wrap (BitVec.ofInt IntKind.u8.bits ((V / 256 ^ q % 256 / 2 ^ o : Nat) : Int) &&& BitVec.ofInt IntKind.u8.bits ((2 ^ t - 1 : Nat) : Int)).toNat = ((V / 2 ^ a / 2 ^ h % 2 ^ t : Nat) : Int) := by
   rw [QBj (K := .u8) rfl hz h2t, yX, Qyw (by omega), show 8 * q + o = a + h by omega, yt, jb]
  have hc : V / 2 ^ a / 2 ^ h % 2 ^ t < 2 ^ t := yc _ (yx (by omega))
  have hmul : V / 2 ^ a / 2 ^ h % 2 ^ t * 2 ^ h < 2 ^ (h + t) := by
   rw [yt, yi]; exact Nat.mul_lt_mul_of_pos_left hc (yx (by omega))
  have h64 : 2 ^ (h + t) ≤ 2 ^ 64 := qy (by omega) (by omega)
  have hv0 : V / 2 ^ a % 2 ^ h < 2 ^ h := yc _ (yx (by omega))
  have h65 : 2 ^ h ≤ 2 ^ 64 := qy (by omega) (by omega)
  have e9 := Qpz (X := V / 2 ^ a) (h := h) (t := t)
  generalize hcc : V / 2 ^ a / 2 ^ h % 2 ^ t = c at *
  have e10 : Ql true .u64 (c : Int) (h : Int) = some (.int .u64 ((c * 2 ^ h : Nat) : Int)) := Qu3 (by omega) (by omega)
  have e11 : IntKind.u64.wrap (BitVec.ofInt IntKind.u64.bits ((V / 2 ^ a % 2 ^ h : Nat) : Int) ||| BitVec.ofInt IntKind.u64.bits ((c * 2 ^ h : Nat) : Int)).toNat = ((V / 2 ^ a % 2 ^ (h + t) : Nat) : Int) := by
   rw [QwA _ _ (by omega) (by omega), QlR hv0, e9]
  generalize V / 2 ^ a % 2 ^ h = v0 at *
  generalize V / 256 ^ q % 256 / 2 ^ o = z at *
  generalize V / 256 ^ q % 256 = y at *
  have hc8 : c < 256 := by
   have : 2 ^ t ≤ 2 ^ 8 := qy (by omega) (by omega)
   omega
  have e12 : (if (8 : Int) - o < n - h then (8 : Int) - o else n - h) = (t : Int) := by split <;> omega
  simp (disch := omega) only [rq, simprocAttr, e1, e2, e3, e4, e5, e6, e7, e8, e10, e11, e12]
  exact ⟨h + t, by omega, by omega, Qe⟩
 ·obtain rfl : h = n := by omega
  simp (disch := omega) only [rq, simprocAttr]
def Qjg (P : Prg) (f : Nat) : Prop := ∀ N V a n : Nat, V < 2 ^ N → N ≤ 330000 → n ≤ 64 → a ≤ 400000 → VC P f [bA N V, .int .i64 a, .int .i64 n] (if N < a + n then .tup [.int .u64 0, .int .i64 24] else .tup [.int .u64 ((V / 2 ^ a % 2 ^ n : Nat) : Int), .int .i64 0])
theorem Qwl {P : Prg} {f fC fG t0 : Nat} (bd : Body P f 34 [.tmp 6, .tmp 7] (QaC fC fG t0)) (hC : QbK P fC) (hG : QpL P fG) : Qjg P f := by
 intro N V a n hV hN hn ha
 refine QJ (by simp [isDL, QcT, isD]) (by split <;> rfl) bd ?_
 have hC' := hC N V hV hN
 rw [bA] at hC'
 by_cases hlt : N < a + n
 ·rw [qh hlt]
  simp (disch := omega) only [rq, simprocAttr, QaC, bA]
  refine Qa hC' ?_
  simp (disch := omega) only [rq, simprocAttr]
 ·rw [qe hlt]
  have hG' := hG N V a n hV (by omega) (by omega) hn
  rw [bA] at hG'
  generalize V / 2 ^ a % 2 ^ n = v at *
  simp (disch := omega) only [rq, simprocAttr, QaC, bA]
  iterate 2 (refine Qa (by assumption) ?_; simp (disch := omega) only [rq, simprocAttr])
theorem QpW {X n : Nat} : X % 2 ^ (n + 1) = 2 * (X / 2 % 2 ^ n) + X % 2 := by
 rw [yV, yi, Nat.mod_mul]; omega
def dbT : List Nat := [0, 1, 56, 2, 57, 49, 28, 3, 61, 58, 42, 50, 38, 29, 17, 4, 62, 47, 59, 36, 45, 43, 51, 22, 53, 39, 33, 30, 24, 18, 12, 5,
 63, 55, 48, 27, 60, 41, 37, 16, 46, 35, 44, 21, 52, 32, 23, 11, 54, 26, 40, 15, 34, 20, 31, 10, 25, 14, 19, 9, 13, 8, 7, 6]
def dbG : List AV := ks .u8 (dbT.map fun n : Nat => (n : Int))
theorem QA0 {i : Nat} (h : i < 64) : 2 ^ i * 285870213051353865 % 18446744073709551616 / 288230376151711744 < 64 ∧ dbT[2 ^ i * 285870213051353865 % 18446744073709551616 / 288230376151711744]? = some i := by
 revert i; decide
theorem QyC {i m : Nat} (h : 2 ^ i * (2 * m + 1) < 18446744073709551616) : (2 ^ i * (2 * m + 1)) &&& (18446744073709551616 - 2 ^ i * (2 * m + 1)) = 2 ^ i := by
 have hi : i < 64 := by
  rcases jW i 64 with h' | h'
  ·exact h'
  ·have : 2 ^ 64 ≤ 2 ^ i := qy (by omega) h'
   have : 2 ^ i * 1 ≤ 2 ^ i * (2 * m + 1) := yL _ (by omega)
   omega
 have hm : 2 * m + 1 < 2 ^ (64 - i) := by
  have e : 2 ^ i * 2 ^ (64 - i) = 18446744073709551616 := by rw [← yt, show i + (64 - i) = 64 by omega]
  rw [← e] at h
  exact jN h
 have e : 18446744073709551616 - 2 ^ i * (2 * m + 1) = 2 ^ i * (2 ^ (64 - i) - (2 * m + 1)) := by
  rw [Nat.mul_sub, ← yt, show i + (64 - i) = 64 by omega]
 rw [e]
 apply jM
 intro j
 rw [Nat.testBit_and, yp, yp, Nat.testBit_two_pow]
 by_cases hj : i ≤ j
 ·rw [show 2 * m + 1 = 2 * m + 1 from rfl]
  have h0 : 2 * m < 2 ^ (64 - i) := by omega
  rw [Nat.testBit_two_pow_sub_succ h0]
  by_cases hj0 : j = i
  ·subst hj0
   simp
   omega
  ·obtain ⟨k, hk⟩ : ∃ k, j - i = k + 1 := ⟨j - i - 1, by omega⟩
   have e1 : (2 * m + 1).testBit (k + 1) = m.testBit k := by rw [Nat.testBit_succ]; congr 1; omega
   have e2 : (2 * m).testBit (k + 1) = m.testBit k := by rw [Nat.testBit_succ]; congr 1; omega
   rw [hk, e1, e2]
   have : ¬ i = j := fun e => hj0 e.symm
   simp [this]
   intro _ h1 _ _
   exact h1
 ·have : ¬ i = j := by omega
  simp [hj, this]
def QA8 (P : Prg) (f : Nat) : Prop := ∀ i m : Nat, 2 ^ i * (2 * m + 1) < 18446744073709551616 → VC P f [.int .u64 ((2 ^ i * (2 * m + 1) : Nat) : Int)] (.int .i64 i)
theorem Qyx {P : Prg} {f g0 : Nat} (bd : Body P f 14 [.tmp 2] (Q8 g0)) (h0 : P.G.lookup g0 = some dbG) : QA8 P f := by
 intro i m h
 refine QJ rfl rfl bd ?_
 have ha := QyC h
 have hp : 0 < 2 ^ i * (2 * m + 1) := j5 (yx (by omega)) (by omega)
 have hi : i < 64 := by
  rcases jW i 64 with h' | h'
  ·exact h'
  ·have : 2 ^ 64 ≤ 2 ^ i := qy (by omega) h'
   have : 2 ^ i * 1 ≤ 2 ^ i * (2 * m + 1) := yL _ (by omega)
   omega
 obtain ⟨d1, d2⟩ := QA0 hi
 generalize 2 ^ i * (2 * m + 1) = x at *
 have e1 : IntKind.u64.wrap (0 - (x : Int)) = ((18446744073709551616 - x : Nat) : Int) := by rw [Z7]; omega
 have e2 : IntKind.u64.wrap (BitVec.ofInt IntKind.u64.bits (x : Int) &&& BitVec.ofInt IntKind.u64.bits ((18446744073709551616 - x : Nat) : Int)).toNat = ((2 ^ i : Nat) : Int) := by
  rw [Qoz _ _ h (by omega), ha]
 have e3 : IntKind.u64.wrap (((2 ^ i : Nat) : Int) * 285870213051353865) = ((2 ^ i * 285870213051353865 % 18446744073709551616 : Nat) : Int) := by
  rw [Z7]; omega
 have e4 : Ql false .u64 ((2 ^ i * 285870213051353865 % 18446744073709551616 : Nat) : Int) 58 = some (.int .u64 ((2 ^ i * 285870213051353865 % 18446744073709551616 / 288230376151711744 : Nat) : Int)) :=
  Qnw (K := .u64) (k := 58) (by decide)
 generalize 2 ^ i * 285870213051353865 % 18446744073709551616 / 288230376151711744 = k at *
 generalize 2 ^ i * 285870213051353865 % 18446744073709551616 = y at *
 generalize 2 ^ i = p at *
 have e5 : dbG.drop k = .int .u8 (i : Int) :: dbG.drop (k + 1) := by
  have hl : k < dbT.length := d1
  have : dbT[k] = i := by rw [qc hl] at d2; exact Yh d2
  unfold dbG
  rw [Jr, Jr, qK (by rw [jm]; exact hl), Qdh, List.getElem_map, this]
 have e6 : dbG.length = 64 := rfl
 have g0' : Qx9 P.G g0 = .cell dbG := by simp [Qx9, h0]
 simp (disch := omega) only [rq, simprocAttr, Q8, e1, e2, e3, e4, e5, e6, g0']
def QfZ : Nat → Nat → Nat
 | 0, _ => 0
 | m + 1, X => if X % 2 = 1 then QfZ m (X / 2) + 1 else 0
theorem QnJ : ∀ (m X : Nat), QfZ m X ≤ m
 | 0, _ => qj _
 | m + 1, X => by
  unfold QfZ
  have := QnJ m (X / 2)
  split <;> omega
theorem Qpl : ∀ (m K X : Nat), m < K → ∃ t, 2 ^ K - 1 - X % 2 ^ m = 2 ^ QfZ m X * (2 * t + 1)
 | 0, K, X, h => by
  obtain ⟨k, rfl⟩ : ∃ k, K = k + 1 := ⟨K - 1, by omega⟩
  refine ⟨2 ^ k - 1, ?_⟩
  have : 0 < 2 ^ k := yx (by omega)
  simp only [QfZ, Nat.pow_zero, Nat.mod_one, jp, yV]
  omega
 | m + 1, K, X, h => by
  obtain ⟨k, rfl⟩ : ∃ k, K = k + 1 := ⟨K - 1, by omega⟩
  obtain ⟨t, ht⟩ := Qpl m k (X / 2) (by omega)
  have hs := QpW (X := X) (n := m)
  have hp : 0 < 2 ^ k := yx (by omega)
  have hy : X / 2 % 2 ^ m < 2 ^ m := yc _ (yx (by omega))
  have hm : 2 ^ m ≤ 2 ^ k := qy (by omega) (by omega)
  rw [hs]
  unfold QfZ
  split
  ·rename_i hx
   refine ⟨t, ?_⟩
   rw [hx, yV 2 k, yV 2 (QfZ m (X / 2)), ja, Nat.mul_left_comm, ← ht]
   generalize X / 2 % 2 ^ m = y at *
   omega
  ·rename_i hx
   refine ⟨2 ^ k - 1 - X / 2 % 2 ^ m, ?_⟩
   rw [show X % 2 = 0 by omega, yV]
   generalize X / 2 % 2 ^ m = y at *
   simp
   omega
def Qkx (P : Prg) (f : Nat) : Prop := ∀ (N a n : Nat) (cs : List AV), isDL cs = true → a < N → N ≤ 400000 → VC P f [.cell [.list n cs, .int .i64 N], .cell [.int .i64 a]] (.int .i64 (min 48 (N - a) : Nat))
theorem Qp5 {P : Prg} {f : Nat} (bd : Body P f 8 [.tmp 2] Qax) : Qkx P f := by
 intro N a n cs hcs ha hN
 refine QJ (by simp [isDL, isD, hcs]) rfl bd ?_
 obtain ⟨m, hm⟩ : ∃ m, m = min 48 (N - a) := ⟨_, rfl⟩
 have e1 : (if (N : Int) - a < 48 then (N : Int) - a else 48) = (m : Int) := by split <;> omega
 rw [← hm]
 simp (disch := omega) only [rq, simprocAttr, Qax, e1]
def QdO (V N a : Nat) : Nat ⊕ (Nat × Nat) :=
 if N ≤ a then .inl 24
 else if QfZ (min 48 (N - a)) (V / 2 ^ a) < min 48 (N - a) then .inr (QfZ (min 48 (N - a)) (V / 2 ^ a), a + QfZ (min 48 (N - a)) (V / 2 ^ a) + 1)
 else if min 48 (N - a) = 48 then .inr (48, a + 48) else .inl 24
def QrG : Nat ⊕ (Nat × Nat) → AV
 | .inl e => .tup [.int .i64 0, .int .i64 0, .int .i64 e]
 | .inr (q, n) => .tup [.int .i64 q, .int .i64 n, .int .i64 0]
def QoA (P : Prg) (f : Nat) : Prop := ∀ N V a : Nat, V < 2 ^ N → N ≤ 330000 → a ≤ 400000 → VC P f [bA N V, .int .i64 a] (QrG (QdO V N a))
theorem Qrn {c : Nat} (h : c < 18446744073709551616) : 18446744073709551615 ^^^ c = 18446744073709551615 - c := by
 have h1 : BitVec.allOnes 64 ^^^ BitVec.ofNat 64 c = ~~~ BitVec.ofNat 64 c := by
  apply BitVec.eq_of_getElem_eq
  intro i hi
  rw [BitVec.getElem_xor, BitVec.getElem_allOnes, BitVec.getElem_not, Bool.true_xor]
 have h2 := congrArg BitVec.toNat h1
 rw [Yb, BitVec.toNat_not, BitVec.toNat_allOnes, yy, qV h] at h2
 exact h2
theorem Qp6 {P : Prg} {f fC fT fG fZ t0 t1 : Nat} (bd : Body P f 53 [.tmp 4, .tmp 5, .tmp 6] (QbC fC fT fG fZ t0 t1)) (hC : QbK P fC) (hT : Qkx P fT) (hG : Qjg P fG) (hZ : QA8 P fZ) : QoA P f := by
 intro N V a hV hN ha
 refine QaD (by simp [isDL, QcT, isD]) (by cases QdO V N a <;> rfl) (ACall.of_cut 1 bd (by simp) ?_)
 have hC' := hC N V hV hN
 rw [bA] at hC'
 have td : isTL (u8 (leB V (nB N))) = true := Zx _
 simp (disch := omega) only [rq, simprocAttr, QbC, Qyo, bA]
 refine ⟨⟨[(6, .int .i64 0), (5, .int .i64 0), (4, .int .i64 0), (3, .cell [.int .i64 a]), (2, .cell [.list (nB N) (u8 (leB V (nB N))), .int .i64 N])], []⟩, XI [] (by simp) (by simp [Am.look, Qx, frzL, Qu, frzL_T _ td]), ?_⟩
 simp (disch := omega) only [rq, simprocAttr]
 refine Qa hC' ?_
 simp (disch := omega) only [rq, simprocAttr]
 by_cases hlt : N ≤ a
 ·have e0 : QdO V N a = .inl 24 := by simp [QdO, hlt]
  rw [e0, QrG]
  simp (disch := omega) only [rq, simprocAttr]
 ·have hT' := hT N a (nB N) (u8 (leB V (nB N))) (Qhb _) (by omega) (by omega)
  obtain ⟨m, hm⟩ : ∃ m, m = min 48 (N - a) := ⟨_, rfl⟩
  have hG' := hG N V a m hV hN (by omega) ha
  rw [qe (by omega), bA] at hG'
  obtain ⟨q, hq⟩ : ∃ q, q = QfZ m (V / 2 ^ a) := ⟨_, rfl⟩
  have hqm := QnJ m (V / 2 ^ a)
  obtain ⟨t, ht⟩ := Qpl m 64 (V / 2 ^ a) (by omega)
  have hv : V / 2 ^ a % 2 ^ m < 2 ^ m := yc _ (yx (by omega))
  have h48 : 2 ^ m ≤ 2 ^ 48 := qy (by omega) (by omega)
  have hZ' := hZ (QfZ m (V / 2 ^ a)) t (by rw [← ht]; omega)
  rw [← ht] at hZ'
  rw [← hm] at hT'
  have e1 : QdO V N a = if q < m then .inr (q, a + q + 1) else if m = 48 then .inr (48, a + 48) else .inl 24 := by
   rw [QdO, qe hlt, ← hm, ← hq]
  rw [e1]
  rw [← hq] at hZ' hqm
  generalize V / 2 ^ a % 2 ^ m = v at *
  have e2 : IntKind.u64.wrap (BitVec.ofInt IntKind.u64.bits IntKind.u64.max ^^^ BitVec.ofInt IntKind.u64.bits (v : Int)).toNat = ((2 ^ 64 - 1 - v : Nat) : Int) := by
   have h1 := Qrn (c := v) (by omega)
   rw [show 2 ^ 64 - 1 - v = 18446744073709551615 - v by omega, ← h1]
   exact Quu (K := .u64) rfl (a := 18446744073709551615) (b := v) (by decide) (by show v < 18446744073709551616; omega)
  have e3 : IntKind.u64.signed = false := rfl
  generalize 2 ^ 64 - 1 - v = w at *
  simp (disch := omega) only [rq, simprocAttr]
  refine QN hT' ?_
  simp (disch := omega) only [rq, simprocAttr]
  refine QN hG' ?_
  simp (disch := omega) only [rq, simprocAttr, e2, e3]
  refine Qa hZ' ?_
  simp (disch := omega) only [rq, simprocAttr]
  refine Qa hT' ?_
  by_cases hqlt : q < m
  ·rw [qh hqlt, QrG]
   have e9 : (1 : Int) + (a + q) = a + q + 1 := by omega
   simp (disch := omega) only [rq, simprocAttr, e9]
  ·obtain rfl : q = m := by omega
   rw [qe hqlt]
   by_cases h4 : q = 48
   ·subst h4
    rw [qh rfl, QrG]
    simp (disch := omega) only [rq, simprocAttr, Int.zero_add]
   ·rw [qe h4, QrG]
    simp (disch := omega) only [rq, simprocAttr]
structure Dl where
 k0 : Nat
 k1 : Nat
 s0 : Nat
 s1 : Nat
def dlC (d : Dl) : List AV := [.int .i64 d.k0, .int .i64 d.k1, .int .u64 d.s0, .int .u64 d.s1]
def dlA (d : Dl) : AV := .agg (dlC d)
def okD (d : Dl) : Prop := d.k0 ≤ 24 ∧ d.k1 ≤ 24 ∧ d.s0 ≤ 68719476735 ∧ d.s1 ≤ 68719476735
def Zk : Dl := ⟨10, 10, 16384, 16384⟩
def QbW (k s n : Nat) : Nat × Nat :=
 if 0 < k ∧ s + n - s / 16 < 2 ^ (k + 4) then (k - 1, s + n - s / 16) else if k < 24 ∧ 2 ^ (k + 5) < s + n - s / 16 then (k + 1, s + n - s / 16) else (k, s + n - s / 16)
def J1 (d : Dl) (v : Nat) : Dl :=
 if v < 2 ^ d.k0 then ⟨(QbW d.k0 d.s0 v).1, d.k1, (QbW d.k0 d.s0 v).2, d.s1⟩
 else ⟨(QbW d.k0 d.s0 v).1, (QbW d.k1 d.s1 (v - 2 ^ d.k0)).1, (QbW d.k0 d.s0 v).2, (QbW d.k1 d.s1 (v - 2 ^ d.k0)).2⟩
theorem QnI {k s n : Nat} (hk : k ≤ 24) (hs : s ≤ 68719476735) (hn : n < 4294967296) : (QbW k s n).1 ≤ 24 ∧ (QbW k s n).2 ≤ 68719476735 := by
 unfold QbW
 have ht : s + n - s / 16 ≤ 68719476735 := by omega
 generalize s + n - s / 16 = t at *
 split
 ·exact ⟨by simp only; omega, ht⟩
 ·split
  ·rename_i h; exact ⟨by have := h.1; simp only; omega, ht⟩
  ·exact ⟨hk, ht⟩
theorem Qvv {d : Dl} {v : Nat} (h : okD d) (hv : v < 4294967296) : okD (J1 d v) := by
 obtain ⟨h1, h2, h3, h4⟩ := h
 have p0 := QnI h1 h3 hv
 have p1 := QnI (n := v - 2 ^ d.k0) h2 h4 (Nat.lt_of_le_of_lt (Nat.sub_le _ _) hv)
 unfold J1
 split
 ·exact ⟨p0.1, h2, p0.2, h4⟩
 ·exact ⟨p0.1, p1.1, p0.2, p1.2⟩
theorem QuR : okD Zk := by unfold okD Zk; decide
theorem Qx2 (d : Dl) : isD (dlA d) = true := rfl
theorem p24 {k : Nat} (h : k ≤ 24) : 2 ^ k ≤ 16777216 ∧ 2 ^ (k + 4) = 16 * 2 ^ k ∧ 2 ^ (k + 5) = 32 * 2 ^ k := by
 have := qy (n := 2) (by omega) h
 refine ⟨by simpa using this, ?_, ?_⟩ <;> rw [yt, yi]
def QkG (P : Prg) (f : Nat) : Prop := VC P f [] (dlA Zk)
theorem QqQ {P : Prg} {f t0 : Nat} (bd : Body P f 2 [.cell 0 t0] (Qae t0)) (ht : Zq P t0 = some (some 4)) : QkG P f := by
 refine QJ rfl rfl bd ?_
 simp (disch := omega) only [rq, simprocAttr, Qae, QP, ht, Qr, dlA, dlC, Zk]
 try rfl
def QkT (P : Prg) (f : Nat) : Prop := ∀ d : Dl, okD d → VC P f [dlA d] (.int .i64 0)
theorem QqR {P : Prg} {f t0 : Nat} (bd : Body P f 26 [.tmp 2] (Qaf t0)) : QkT P f := by
 intro d h
 obtain ⟨k0, k1, s0, s1⟩ := d
 obtain ⟨h1, h2, h3, h4⟩ := h
 simp only at h1 h2 h3 h4
 refine QaD rfl rfl (ACall.of_cut 1 bd (by simp) ?_)
 simp (disch := omega) only [rq, simprocAttr, Qaf, dlA, dlC, Qyo]
 refine ⟨⟨[(2, .int .i64 0), (1, .cell [.int .i64 k0, .int .i64 k1, .int .u64 s0, .int .u64 s1])], []⟩, XI [] (by simp) (by simp [Am.look, Qx, frzL, Qu]), ?_⟩
 simp (disch := omega) only [rq, simprocAttr]
def QkK (P : Prg) (f : Nat) : Prop := ∀ (d : Dl) (v : Nat), okD d → v < 4294967296 → VC P f [dlA d, .int .u32 v] (if v < 2 ^ d.k0 then .tup [.int .i64 0, .int .u32 v] else .tup [.int .i64 1, .int .u32 ((v - 2 ^ d.k0 : Nat) : Int)])
theorem QqO {P : Prg} {f t0 : Nat} (bd : Body P f 17 [.tmp 4, .tmp 5] (X9 t0)) : QkK P f := by
 intro d v h hv
 obtain ⟨k0, k1, s0, s1⟩ := d
 obtain ⟨h1, h2, h3, h4⟩ := h
 simp only at h1 h2 h3 h4
 refine QJ rfl (by simp only; split <;> rfl) bd ?_
 have e1 : Ql false .u32 (v : Int) (k0 : Int) = some (.int .u32 ((v / 2 ^ k0 : Nat) : Int)) := Qnw (K := .u32) (by show k0 ≤ 32; omega)
 obtain ⟨q1, _⟩ := p24 h1
 have e2 : Ql true .u32 1 (k0 : Int) = some (.int .u32 ((2 ^ k0 : Nat) : Int)) := by
  have := Qu4 (K := .u32) rfl (c := 1) (s := k0) (by show k0 ≤ 32; omega) (by show 1 * 2 ^ k0 < 4294967296; omega)
  rw [jp] at this
  exact this
 simp only
 by_cases c : v < 2 ^ k0
 ·rw [qh c]
  rw [jw c] at e1
  have e1' : Ql false .u32 (v : Int) (k0 : Int) = some (.int .u32 0) := e1
  simp (disch := omega) only [rq, simprocAttr, X9, dlA, dlC, e1']
 ·rw [qe c]
  have hpos : 0 < v / 2 ^ k0 := Nat.div_pos (by omega) (yx (by omega))
  have hle : v / 2 ^ k0 ≤ v := Nat.div_le_self _ _
  have e3 : ((v - 2 ^ k0 : Nat) : Int) = (v : Int) - ((2 ^ k0 : Nat) : Int) := by omega
  generalize v / 2 ^ k0 = w at *
  generalize 2 ^ k0 = p at *
  simp (disch := omega) only [rq, simprocAttr, X9, dlA, dlC, e1, e2, e3]
theorem Qe1 {P : Prg} {f : Nat} (bd : Body P f 58 [] Qq) {ob : List Ob} {p : Nat} {t : Nat} {d : Dl} (hp : ob[p]? = some ⟨t, 4, 1, dlC d, 0⟩) (hd : okD d) {n : Nat} (hn : n < 4294967296) (b : Bool) {K : AV → List Ob → Prop}
  (hK : K (.tup []) (ob.set p ⟨t, 4, 1, dlC (if b then ⟨d.k0, (QbW d.k1 d.s1 n).1, d.s0, (QbW d.k1 d.s1 n).2⟩ else ⟨(QbW d.k0 d.s0 n).1, d.k1, (QbW d.k0 d.s0 n).2, d.s1⟩), 0⟩)) :
  ACall P f [.ref p 1 (if b then 1 else 0), .ref p 1 (if b then 3 else 2), .int .u32 n] ob K := by
 have hpl : p < ob.length := (qb.1 hp).1
 have g1 : ∀ x, (ob.set p x)[p]? = some x := fun x => by simp [hpl]
 have g2 : ∀ x y, (ob.set p x).set p y = ob.set p y := fun x y => Ym _
 have key : ∀ k s : Nat, k ≤ 24 → s ≤ 68719476735 → ∃ t p4 p5 : Nat, t ≤ 68719476735 ∧ IntKind.u64.wrap ((s : Int) + IntKind.u64.wrap ((n : Int) - ((s / 16 : Nat) : Int))) = (t : Int) ∧ Ql false .u64 (s : Int) 4 = some (.int .u64 ((s / 16 : Nat) : Int)) ∧
   Ql true .u64 16 (k : Int) = some (.int .u64 (p4 : Int)) ∧ Ql true .u64 32 (k : Int) = some (.int .u64 (p5 : Int)) ∧
   Ql true .u64 16 (k : Int) = some (.int .u64 (p4 : Int)) ∧ QbW k s n = if 0 < k ∧ t < p4 then (k - 1, t) else if k < 24 ∧ p5 < t then (k + 1, t) else (k, t) := by
  intro k s hk hs
  obtain ⟨q1, q2, q3⟩ := p24 hk
  refine ⟨s + n - s / 16, 2 ^ (k + 4), 2 ^ (k + 5), by omega, ?_, Qnw (K := .u64) (k := 4) (by decide), ?_, ?_, ?_, rfl⟩
  ·rw [Z7, Z7]; omega
  ·rw [q2]; exact Qu4 (K := .u64) rfl (c := 16) (by show k ≤ 64; omega) (by show 16 * 2 ^ k < 18446744073709551616; omega)
  ·rw [q3]; exact Qu4 (K := .u64) rfl (c := 32) (by show k ≤ 64; omega) (by show 32 * 2 ^ k < 18446744073709551616; omega)
  ·rw [q2]; exact Qu4 (K := .u64) rfl (c := 16) (by show k ≤ 64; omega) (by show 16 * 2 ^ k < 18446744073709551616; omega)
 obtain ⟨k0, k1, s0, s1⟩ := d
 obtain ⟨h1, h2, h3, h4⟩ := hd
 simp only at h1 h2 h3 h4
 refine Qb bd (by simp) ?_
 simp only [dlC] at hp hK
 cases b with
 | false =>
  obtain ⟨u, p4, p5, hu, e1, e2, e3, e4, _, e5⟩ := key k0 s0 h1 h3
  simp only [e5, qY, yC] at hK ⊢
  by_cases c1 : 0 < k0
  ·by_cases c2 : u < p4
   ·rw [qh ⟨c1, c2⟩] at hK
    have e6 : ((k0 - 1 : Nat) : Int) = (k0 : Int) - 1 := by omega
    simp only [e6] at hK
    simp (disch := omega) only [rq, simprocAttr, Qq, hp, g1, g2, e1, e2, e3, e4, e6]
    exact hK
   ·rw [qe (fun h => c2 h.2)] at hK
    by_cases c3 : k0 < 24
    ·by_cases c4 : p5 < u
     ·rw [qh ⟨c3, c4⟩] at hK
      simp only [yU] at hK
      simp (disch := omega) only [rq, simprocAttr, Qq, hp, g1, g2, e1, e2, e3, e4]
      exact hK
     ·rw [qe (fun h => c4 h.2)] at hK
      simp (disch := omega) only [rq, simprocAttr, Qq, hp, g1, g2, e1, e2, e3, e4]
      exact hK
    ·rw [qe (fun h => c3 h.1)] at hK
     simp (disch := omega) only [rq, simprocAttr, Qq, hp, g1, g2, e1, e2, e3, e4]
     exact hK
  ·rw [qe (fun h => c1 h.1)] at hK
   by_cases c4 : p5 < u
   ·rw [qh ⟨by omega, c4⟩] at hK
    simp only [yU] at hK
    simp (disch := omega) only [rq, simprocAttr, Qq, hp, g1, g2, e1, e2, e3, e4]
    exact hK
   ·rw [qe (fun h => c4 h.2)] at hK
    simp (disch := omega) only [rq, simprocAttr, Qq, hp, g1, g2, e1, e2, e3, e4]
    exact hK
 | true =>
  obtain ⟨u, p4, p5, hu, e1, e2, e3, e4, _, e5⟩ := key k1 s1 h2 h4
  simp only [e5, yo] at hK ⊢
  by_cases c1 : 0 < k1
  ·by_cases c2 : u < p4
   ·rw [qh ⟨c1, c2⟩] at hK
    have e6 : ((k1 - 1 : Nat) : Int) = (k1 : Int) - 1 := by omega
    simp only [e6] at hK
    simp (disch := omega) only [rq, simprocAttr, Qq, hp, g1, g2, e1, e2, e3, e4, e6]
    exact hK
   ·rw [qe (fun h => c2 h.2)] at hK
    by_cases c3 : k1 < 24
    ·by_cases c4 : p5 < u
     ·rw [qh ⟨c3, c4⟩] at hK
      simp only [yU] at hK
      simp (disch := omega) only [rq, simprocAttr, Qq, hp, g1, g2, e1, e2, e3, e4]
      exact hK
     ·rw [qe (fun h => c4 h.2)] at hK
      simp (disch := omega) only [rq, simprocAttr, Qq, hp, g1, g2, e1, e2, e3, e4]
      exact hK
    ·rw [qe (fun h => c3 h.1)] at hK
     simp (disch := omega) only [rq, simprocAttr, Qq, hp, g1, g2, e1, e2, e3, e4]
     exact hK
  ·rw [qe (fun h => c1 h.1)] at hK
   by_cases c4 : p5 < u
   ·rw [qh ⟨by omega, c4⟩] at hK
    simp only [yU] at hK
    simp (disch := omega) only [rq, simprocAttr, Qq, hp, g1, g2, e1, e2, e3, e4]
    exact hK
   ·rw [qe (fun h => c4 h.2)] at hK
    simp (disch := omega) only [rq, simprocAttr, Qq, hp, g1, g2, e1, e2, e3, e4]
    exact hK
def bO (t o N : Nat) : Ob := ⟨t, 2, 1, [.own o (nB N), .int .i64 N], 0⟩
def bY (t N V : Nat) : Ob := ⟨t, 1, nB N, u8 (leB V (nB N)), 0⟩
theorem Qpu (V n : Nat) : isDL (u8 (leB V n)) = true := Qhb _
theorem Low.put {ob : List Ob} (h : Low ob.length ob) {t t0 o p N V N' : Nat} (ho : o < ob.length) : Low ob.length (Qbm ob o p (bY t0 N V) (bO t o N')) := by
 unfold Qbm
 refine (h.set ?_).set ?_
 ·exact lowL_D _ (Qpu _ _)
 ·simp [bO, lowL, Qgo, ho]
theorem Low.drop {ob : List Ob} (h : Low ob.length ob) {t t0 o p N V : Nat} (ho : o < ob.length) {M : Nat} (hM : M ≤ ob.length) {J : List Ob} {fr fr' : List (Nat × AV)}
  (hfr : ∀ q ∈ fr', q.2 = .any ∨ (q.2 = Am.look fr q.1 ∧ Qgo ob.length q.2 = true)) :
  Le M ⟨fr, Qbm ob o p (bY t0 N V) (bO t o N) ++ J⟩ ⟨fr', Qbm ob o p (bY t0 N V) (bO t o N)⟩ := by
 have hl : (Qbm ob o p (bY t0 N V) (bO t o N)).length = ob.length := QaF
 refine Le.low (by omega) (by rw [hl]; exact h.put ho) ?_
 rw [hl]
 exact hfr
theorem QBo {V N v j r : Nat} : V + 2 ^ N * (v % 2 ^ (j + r)) = V + 2 ^ N * (v % 2 ^ j) + 2 ^ (N + j) * (v / 2 ^ j % 2 ^ r) := by
 rw [yt, Nat.mod_mul, js, yt, ja, j1]
set_option maxHeartbeats 1000000 in
theorem Qwj {P : Prg} {f t0 t : Nat} (bd : Body P f 75 [] (QaB t0)) {ob : List Ob} {p o N V v n : Nat} (hp : ob[p]? = some (bO t o N)) (ho : ob[o]? = some (bY t0 N V)) (hpo : p ≠ o) (hV : V < 2 ^ N) (hv : v < 2 ^ n) (hn : n ≤ 64) (hN : N + n ≤ 400000) (hfz : Low ob.length ob)
  {K : AV → List Ob → Prop} (hK : K (.tup []) (Qbm ob o p (bY t0 (N + n) (V + 2 ^ N * v)) (bO t o (N + n)))) : ACall P f [.ref p 1 0, .int .u64 v, .int .i64 n] ob K := by
 have hol : o < ob.length := (qb.1 ho).1
 have hpl : p < ob.length := (qb.1 hp).1
 refine Qb bd (by simp) ?_
 have g0 : ∀ x y J, (Qbm ob o p x y ++ J)[p]? = some y := fun x y J => by rw [qp (by rw [QaF]; exact hpl)]; exact QrD hpl
 have g1 : ∀ x y J, (Qbm ob o p x y ++ J)[o]? = some x := fun x y J => by rw [qp (by rw [QaF]; exact hol)]; exact QrE hol hpo
 have g2 : ∀ x y J y', (Qbm ob o p x y ++ J).set p y' = Qbm ob o p x y' ++ J := fun x y J y' => by rw [jK _ _ (by rw [QaF]; exact hpl), Qwv]
 have g3 : ∀ x y J x', (Qbm ob o p x y ++ J).set o x' = Qbm ob o p x' y ++ J := fun x y J x' => by rw [jK _ _ (by rw [QaF]; exact hol), Qww hpo]
 have g4 : ∀ x y j, (Qbm ob o p x y ++ [j])[ob.length]? = some j := fun x y j => by rw [yl (by rw [QaF]; exact qj _), QaF, Yo]; rfl
 have gp : ∀ x y, (Qbm ob o p x y)[p]? = some y := fun x y => QrD hpl
 have go : ∀ x y, (Qbm ob o p x y)[o]? = some x := fun x y => QrE hol hpo
 have sp : ∀ x y y', (Qbm ob o p x y).set p y' = Qbm ob o p x y' := fun x y y' => Qwv
 have so : ∀ x y x', (Qbm ob o p x y).set o x' = Qbm ob o p x' y := fun x y x' => Qww hpo
 have ln : ∀ x y, (Qbm ob o p x y).length = ob.length := fun x y => QaF
 simp (disch := omega) only [rq, simprocAttr, QaB]
 refine Qj (ι := Nat) (fun j => ⟨[(2, .int .i64 ((n - j : Nat) : Int)), (1, .int .u64 ((v / 2 ^ j : Nat) : Int)), (0, .ref p 1 0)], Qbm ob o p (bY t0 (N + j) (V + 2 ^ N * (v % 2 ^ j))) (bO t o (N + j))⟩) (fun j => j ≤ n) (fun j => n - j) 0 ?_ (by omega) ?_
 ·have : Qbm ob o p (bY t0 (N + 0) (V + 2 ^ N * (v % 2 ^ 0))) (bO t o (N + 0)) = ob := by
   rw [yI, Nat.pow_zero, Nat.mod_one, Nat.mul_zero, yI]
   exact QrC ho hp hpo
  rw [this]
  exact Qe
 intro j hj
 by_cases hlt : j < n
 ·obtain ⟨M, hM⟩ : ∃ M, M = N + j := ⟨_, rfl⟩
  obtain ⟨i, hi⟩ : ∃ i, i = M / 8 := ⟨_, rfl⟩
  obtain ⟨a, ha⟩ : ∃ a, a = M % 8 := ⟨_, rfl⟩
  obtain ⟨r, hr⟩ : ∃ r, r = min (n - j) (8 - a) := ⟨_, rfl⟩
  have hM8 : M = 8 * i + a := by omega
  have hW : V + 2 ^ N * (v % 2 ^ j) < 2 ^ M := by
   have h1 : v % 2 ^ j < 2 ^ j := yc _ (yx (by omega))
   have h2 : 2 ^ N * (v % 2 ^ j + 1) ≤ 2 ^ N * 2 ^ j := yL _ h1
   rw [hM, yt]; rw [js, jD] at h2; omega
  have hstep := QBo (V := V) (N := N) (v := v) (j := j) (r := r)
  rw [← hM] at hstep ⊢
  have hx : v / 2 ^ j < 18446744073709551616 := by
   have h1 : v / 2 ^ j ≤ v := Nat.div_le_self _ _
   have h2 : 2 ^ n ≤ 2 ^ 64 := qy (by omega) hn
   omega
  have hxr : v / 2 ^ (j + r) = v / 2 ^ j / 2 ^ r := by rw [yt, jb]
  generalize V + 2 ^ N * (v % 2 ^ j) = W at *
  generalize hWW : V + 2 ^ N * (v % 2 ^ (j + r)) = W' at *
  generalize hxx : v / 2 ^ j = x at *
  have h2r : 2 ^ r ≤ 2 ^ 8 := qy (by omega) (by omega)
  have h2a : 2 ^ a * 2 ^ r ≤ 2 ^ 8 := by rw [← yt]; exact qy (by omega) (by omega)
  have hpos : 0 < 2 ^ r := yx (by omega)
  have hc : x % 2 ^ r < 2 ^ r := yc _ hpos
  obtain ⟨l1, l2⟩ := Qec (V := W) (i := i) (at_ := a) (by rw [← hM8]; exact hW) (by omega)
  obtain ⟨b1, b2, _⟩ := Qin (V := W) (i := i) (at_ := a) (w := x % 2 ^ r) (r := r) (by rw [← hM8]; exact hW) hc (by omega)
  rw [← hM8, ← hstep] at b1
  have hyb : W / 256 ^ i < 256 := by
   have : 2 ^ a ≤ 2 ^ 8 := qy (by omega) (by omega)
   omega
  have hyb2 : W / 256 ^ i + 2 ^ a * (x % 2 ^ r) < 256 := by
   have : 2 ^ (a + r) ≤ 2 ^ 8 := qy (by omega) (by omega)
   omega
  have hca : x % 2 ^ r * 2 ^ a < 2 ^ 8 := by
   rw [yi]
   exact yg (Nat.mul_lt_mul_of_pos_left hc (yx (by omega))) h2a
  have hu : ∀ y, y < 256 → u8 [UInt8.ofNat y] = [.int .u8 (y : Int)] := fun y hy => by simp [u8]; omega
  have e8 : IntKind.u8.wrap (BitVec.ofInt IntKind.u8.bits ((W / 256 ^ i : Nat) : Int) ||| BitVec.ofInt IntKind.u8.bits ((x % 2 ^ r * 2 ^ a : Nat) : Int)).toNat = ((W / 256 ^ i + 2 ^ a * (x % 2 ^ r) : Nat) : Int) := by
   rw [orK (K := .u8) rfl hyb hca, QlR l2, yi]
  have e7 : Ql true .u8 ((x % 2 ^ r : Nat) : Int) (a : Int) = some (.int .u8 ((x % 2 ^ r * 2 ^ a : Nat) : Int)) := Qu4 rfl (by show a ≤ 8; omega) hca
  have e6 : IntKind.u8.wrap ((x % 2 ^ r : Nat) : Int) = ((x % 2 ^ r : Nat) : Int) := by rw [ZP]; omega
  have e5 : IntKind.u64.wrap (BitVec.ofInt IntKind.u64.bits (x : Int) &&& BitVec.ofInt IntKind.u64.bits ((2 ^ r - 1 : Nat) : Int)).toNat = ((x % 2 ^ r : Nat) : Int) := by
   rw [Qoz _ _ hx (by omega), yX]
  have e4 : IntKind.u64.wrap (((2 ^ r : Nat) : Int) - 1) = ((2 ^ r - 1 : Nat) : Int) := by rw [Z7]; omega
  have e3 : Ql true .u64 1 (r : Int) = some (.int .u64 ((2 ^ r : Nat) : Int)) := by
   have := Qu4 (K := .u64) rfl (c := 1) (s := r) (by show r ≤ 64; omega) (by show 1 * 2 ^ r < 18446744073709551616; omega)
   rw [jp] at this
   exact this
  have e9 : Ql false .u64 (x : Int) (r : Int) = some (.int .u64 ((x / 2 ^ r : Nat) : Int)) := Qnw (K := .u64) (by show r ≤ 64; omega)
  have e1 := Qkv (n := M) (by omega)
  rw [← ha] at e1
  have e2 : (if (8 : Int) - a < ((n - j : Nat) : Int) then (8 : Int) - a else ((n - j : Nat) : Int)) = (r : Int) := by split <;> omega
  have hnB : nB (M + r) = i + 1 := by unfold nB; omega
  have hcell : u8 (leB W' (i + 1)) = u8 (leB W i) ++ [.int .u8 ((W / 256 ^ i + 2 ^ a * (x % 2 ^ r) : Nat) : Int)] := by
   rw [b1, show u8 (leB W i ++ [UInt8.ofNat (W / 256 ^ i + 2 ^ a * (x % 2 ^ r))]) = u8 (leB W i) ++ u8 [UInt8.ofNat (W / 256 ^ i + 2 ^ a * (x % 2 ^ r))] by simp [u8]]
   rw [hu _ hyb2]
  have hlen : (u8 (leB W i)).length = i := by simp [u8, QY]
  rw [← hxr] at e9
  generalize W / 256 ^ i + 2 ^ a * (x % 2 ^ r) = y' at *
  generalize x % 2 ^ r * 2 ^ a = ca at *
  generalize x % 2 ^ r = c at *
  generalize 2 ^ r - 1 = mk at *
  generalize 2 ^ r = pr at *
  have d1 : ∀ z : AV, (u8 (leB W i) ++ [z]).drop i = [z] := fun z => by rw [Yg hlen]
  have d2 : ∀ z : AV, (u8 (leB W i) ++ [z]).take i = u8 (leB W i) := fun z => by rw [jB hlen]
  have d3 : ∀ z : AV, (u8 (leB W i) ++ [z]).drop (i + 1) = [] := fun z => j2 (by simp [hlen])
  have jr : n - j - r = n - (j + r) := by omega
  have el : (⟨t0, 1, i + 1, u8 (leB W i) ++ [.int .u8 (y' : Int)], 0⟩ : Ob) = bY t0 (M + r) W' := by rw [bY, hnB, hcell]
  have er : (⟨t, 2, 1, [.own o (i + 1), .int .i64 ((M : Int) + r)], 0⟩ : Ob) = bO t o (M + r) := by rw [bO, hnB, yU]
  have hMr : N + (j + r) = M + r := by omega
  have e10 : ((n - j : Nat) : Int) - r = ((n - (j + r) : Nat) : Int) := by omega
  have e11 : (M : Int) + r = ((M + r : Nat) : Int) := by omega
  by_cases h0 : a = 0
  ·subst h0
   have hnM : nB M = i := by unfold nB; omega
   have hW0 : W / 256 ^ i = 0 := by
    have := l2
    rw [Nat.pow_zero] at this
    exact Nat.lt_one_iff.1 this
   rw [hW0] at e8
   have e8' : IntKind.u8.wrap (BitVec.ofInt IntKind.u8.bits 0 ||| BitVec.ofInt IntKind.u8.bits (ca : Int)).toNat = (y' : Int) := e8
   have e1' : IntKind.i64.wrap (BitVec.ofInt IntKind.i64.bits (M : Int) &&& BitVec.ofInt IntKind.i64.bits 7).toNat = 0 := e1
   have e2' : (if (8 : Int) < ((n - j : Nat) : Int) then (8 : Int) else ((n - j : Nat) : Int)) = (r : Int) := by split <;> omega
   have e12 : i + 1 - 1 = i := by omega
   have e7' : Ql true .u8 (c : Int) 0 = some (.int .u8 (ca : Int)) := e7
   have e13 : (i : Int) + 1 - 1 = i := by omega
   simp (disch := omega) only [rq, simprocAttr, e2', e12, e13, bO, bY, gp, go, sp, so, ln, g0, g1, g2, g3, g4, hnM, hlen, e1', e2, e3, e4, e5, e6, e7', e8', e9, d1, d2, d3]
   refine ⟨j + r, by omega, by omega, ?_⟩
   show Le ob.length _ ⟨[(2, .int .i64 ((n - (j + r) : Nat) : Int)), (1, .int .u64 ((v / 2 ^ (j + r) : Nat) : Int)), (0, .ref p 1 0)], Qbm ob o p (bY t0 (N + (j + r)) (V + 2 ^ N * (v % 2 ^ (j + r)))) (bO t o (N + (j + r)))⟩
   rw [hWW, hMr, el, er]
   exact hfz.drop hol (qj _) (by simp [Am.look, Qgo, hpl, e10])
  ·have hnM : nB M = i + 1 := by unfold nB; omega
   have l3 : u8 (leB W (i + 1)) = u8 (leB W i) ++ [.int .u8 ((W / 256 ^ i : Nat) : Int)] := by
    rw [l1, show u8 (leB W i ++ [UInt8.ofNat (W / 256 ^ i)]) = u8 (leB W i) ++ u8 [UInt8.ofNat (W / 256 ^ i)] by simp [u8], hu _ hyb]
   have e12 : i + 1 - 1 = i := by omega
   have e13 : (i : Int) + 1 - 1 = i := by omega
   have ha0 : (a : Int) ≠ 0 := by omega
   generalize W / 256 ^ i = y at *
   simp (disch := omega) only [rq, simprocAttr, e12, e13, bO, bY, gp, go, sp, so, ln, hnM, hlen, l3, e1, e2, e3, e4, e5, e6, e7, e8, e9, d1, d2, d3]
   refine ⟨j + r, by omega, by omega, ?_⟩
   show Le ob.length _ ⟨[(2, .int .i64 ((n - (j + r) : Nat) : Int)), (1, .int .u64 ((v / 2 ^ (j + r) : Nat) : Int)), (0, .ref p 1 0)], Qbm ob o p (bY t0 (N + (j + r)) (V + 2 ^ N * (v % 2 ^ (j + r)))) (bO t o (N + (j + r)))⟩
   rw [hWW, hMr, el, er]
   exact QB (by simp [Am.look, e10])
 ·obtain rfl : j = n := by omega
  rw [qV hv]
  simp (disch := omega) only [rq, simprocAttr]
  exact hK
theorem QqP {P : Prg} {f f1 fL t : Nat} (bd : Body P f 36 [] (Xt f1 fL)) (b1 : Body P f1 58 [] Qq) (hL : QkK P fL) {ob : List Ob} {p : Nat} {d : Dl} (hp : ob[p]? = some ⟨t, 4, 1, dlC d, 0⟩) (hd : okD d) {v : Nat} (hv : v < 4294967296) {K : AV → List Ob → Prop}
  (hK : K (.tup []) (ob.set p ⟨t, 4, 1, dlC (J1 d v), 0⟩)) : ACall P f [.ref p 1 0, .int .u32 v] ob K := by
 have hpl : p < ob.length := (qb.1 hp).1
 have hL' := hL d v hd hv
 have nph : ∀ cs, (⟨t, 4, 1, cs, 0⟩ : Ob) ≠ ph := fun cs e => by have := congrArg Ob.sz e; simp [ph] at this
 refine Qb bd (by simp) ?_
 unfold J1 at hK
 have hp0 := hp
 obtain ⟨k0, k1, s0, s1⟩ := d
 simp only [dlC] at hp
 simp only [dlA, dlC] at hL' hK
 by_cases c : v < 2 ^ k0
 ·rw [qh c] at hL' hK
  simp (disch := omega) only [rq, simprocAttr, Xt, hp]
  refine Qa hL' ?_
  simp (disch := omega) only [rq, simprocAttr, hp]
  refine callE.by hp0 (nph _) (fun K hK => Qe1 b1 hp0 hd hv false hK) ?_
  simp (disch := omega) only [rq, simprocAttr]
  exact hK
 ·rw [qe c] at hL' hK
  have hv2 : v - 2 ^ k0 < 4294967296 := Nat.lt_of_le_of_lt (Nat.sub_le _ _) hv
  obtain ⟨h1, h2, h3, h4⟩ := hd
  have pk := QnI h2 h4 hv2
  simp only at h1 h2 h3 h4 pk
  generalize v - 2 ^ k0 = w at *
  simp (disch := omega) only [rq, simprocAttr, Xt, hp]
  refine Qa hL' ?_
  simp (disch := omega) only [rq, simprocAttr, hp]
  refine callE.by hp0 (nph _) (fun K hK => Qe1 b1 hp0 ⟨h1, h2, h3, h4⟩ hv2 true hK) ?_
  have hp1 : (ob.set p ⟨t, 4, 1, dlC ⟨k0, (QbW k1 s1 w).1, s0, (QbW k1 s1 w).2⟩, 0⟩)[p]? = some ⟨t, 4, 1, dlC ⟨k0, (QbW k1 s1 w).1, s0, (QbW k1 s1 w).2⟩, 0⟩ := by simp [hpl]
  have hp2 := hp1
  simp only [dlC] at hp2
  simp (disch := omega) only [rq, simprocAttr, dlC, hp2]
  refine callE.by hp1 (nph _) (fun K hK => Qe1 b1 hp1 ⟨h1, pk.1, h3, pk.2⟩ hv false hK) ?_
  rw [Ym]
  simp (disch := omega) only [rq, simprocAttr]
  exact hK
theorem QlK {P : Prg} {f : Nat} (bd : Body P f 9 [.tmp 4] X4) {v k : Nat} (hk : k ≤ 24) (hv : v < 4294967296) : VC P f [.int .u32 v, .int .i64 k] (.bool (decide (48 ≤ v / 2 ^ k))) := by
 refine QJ rfl rfl bd ?_
 have e1 : Ql false .u32 (v : Int) (k : Int) = some (.int .u32 ((v / 2 ^ k : Nat) : Int)) := Qnw (K := .u32) (by show k ≤ 32; omega)
 generalize v / 2 ^ k = w at *
 have e2 : decide ((48 : Int) ≤ (w : Int)) = decide (48 ≤ w) := decide_eq_decide.2 (by omega)
 simp (disch := omega) only [rq, simprocAttr, X4, e1, e2]
def QyG (P : Prg) (f : Nat) : Prop := ∀ v k : Nat, k ≤ 24 → v < 4294967296 → VC P f [.int .u32 v, .int .i64 k] (.bool (decide (48 ≤ v / 2 ^ k)))
theorem Qvd {P : Prg} {f : Nat} (bd : Body P f 9 [.tmp 4] X4) : QyG P f := by
 exact fun _ _ h1 h2 => QlK bd h1 h2
def QgY (V N a k : Nat) : Nat ⊕ (Nat × Nat) :=
 match QdO V N a with
 | .inl e => .inl e
 | .inr (q, nx) =>
  if N < nx + (if q = 48 then 32 else k) then .inl 24
  else if q < 48 then .inr (q * 2 ^ k + V / 2 ^ nx % 2 ^ k, nx + k)
  else if V / 2 ^ nx % 2 ^ 32 / 2 ^ k < 48 then .inl 12 else .inr (V / 2 ^ nx % 2 ^ 32, nx + 32)
def rcA : Nat ⊕ (Nat × Nat) → AV
 | .inl e => .tup [.int .u32 0, .int .i64 0, .int .i64 e]
 | .inr (v, n) => .tup [.int .u32 v, .int .i64 n, .int .i64 0]
theorem QxZ (o : Nat ⊕ (Nat × Nat)) : isD (rcA o) = true := by cases o <;> rfl
theorem Qpi {V N a q nx : Nat} (h : QdO V N a = .inr (q, nx)) : q ≤ 48 ∧ nx ≤ N ∧ a ≤ nx := by
 unfold QdO at h
 split at h
 ·cases h
 split at h
 ·cases h
  have := QnJ (min 48 (N - a)) (V / 2 ^ a)
  omega
 split at h
 ·cases h; omega
 ·cases h
theorem QlM {V N a e : Nat} (h : QdO V N a = .inl e) : e = 24 := by
 unfold QdO at h
 split at h
 ·cases h; rfl
 split at h
 ·cases h
 split at h
 ·cases h
 ·cases h; rfl
def QoC (P : Prg) (f : Nat) : Prop := ∀ N V a k : Nat, V < 2 ^ N → N ≤ 330000 → a ≤ 400000 → k ≤ 24 → VC P f [bA N V, .int .i64 a, .int .i64 k] (rcA (QgY V N a k))
theorem Qsk {P : Prg} {f fC fU fG fE t0 : Nat} (bd : Body P f 68 [.tmp 6, .tmp 7, .tmp 8] (ZM fC fU fG fE t0)) (hC : QbK P fC) (hU : QoA P fU) (hG : Qjg P fG) (hE : QyG P fE) : QoC P f := by
 intro N V a k hV hN ha hk
 refine QJ (by simp [isDL, QcT, isD]) (QxZ _) bd ?_
 have hC' := hC N V hV hN
 have hU' := hU N V a hV hN ha
 rw [bA] at hC' hU'
 unfold QgY
 cases hu : QdO V N a with
 | inl e =>
  have he := QlM hu
  rw [hu] at hU'
  subst he
  simp (disch := omega) only [rq, simprocAttr, ZM, bA, rcA]
  refine Qa hC' ?_
  simp (disch := omega) only [rq, simprocAttr]
  refine Qa hU' ?_
  simp (disch := omega) only [rq, simprocAttr, QrG]
 | inr w =>
  obtain ⟨q, nx⟩ := w
  obtain ⟨u1, u2, u3⟩ := Qpi hu
  rw [hu] at hU'
  simp only
  by_cases hq : q = 48
  ·have hG' := hG N V nx 32 hV hN (by omega) (by omega)
   subst hq
   rw [bA] at hG'
   simp only [yo]
   by_cases hs : N < nx + 32
   ·rw [qh hs] at hG' ⊢
    simp (disch := omega) only [rq, simprocAttr, ZM, bA, rcA]
    refine Qa hC' ?_
    simp (disch := omega) only [rq, simprocAttr]
    refine Qa hU' ?_
    simp (disch := omega) only [rq, simprocAttr, QrG]
    refine Qa hG' ?_
    simp (disch := omega) only [rq, simprocAttr]
   ·rw [qe hs] at hG' ⊢
    have hx : V / 2 ^ nx % 2 ^ 32 < 4294967296 := yc _ (by decide)
    generalize V / 2 ^ nx % 2 ^ 32 = x at *
    have hE' := hE x k hk hx
    rw [qe (by omega)]
    have e1 : IntKind.u32.wrap (x : Int) = x := QoW (by omega) (by omega)
    by_cases h4 : x / 2 ^ k < 48
    ·rw [qh h4]
     rw [decide_eq_false (by omega)] at hE'
     simp (disch := omega) only [rq, simprocAttr, ZM, bA, rcA]
     refine Qa hC' ?_
     simp (disch := omega) only [rq, simprocAttr]
     refine Qa hU' ?_
     simp (disch := omega) only [rq, simprocAttr, QrG]
     iterate 2 (refine Qa (by assumption) ?_; simp (disch := omega) only [rq, simprocAttr])
    ·rw [qe h4]
     rw [decide_eq_true (by omega)] at hE'
     simp (disch := omega) only [rq, simprocAttr, ZM, bA, rcA]
     refine Qa hC' ?_
     simp (disch := omega) only [rq, simprocAttr]
     refine Qa hU' ?_
     simp (disch := omega) only [rq, simprocAttr, QrG]
     iterate 2 (refine Qa (by assumption) ?_; simp (disch := omega) only [rq, simprocAttr])
  ·have hG' := hG N V nx k hV hN (by omega) (by omega)
   rw [bA] at hG'
   rw [qe hq]
   by_cases hs : N < nx + k
   ·rw [qh hs] at hG' ⊢
    simp (disch := omega) only [rq, simprocAttr, ZM, bA, rcA]
    refine Qa hC' ?_
    simp (disch := omega) only [rq, simprocAttr]
    refine Qa hU' ?_
    simp (disch := omega) only [rq, simprocAttr, QrG]
    refine Qa hG' ?_
    simp (disch := omega) only [rq, simprocAttr]
   ·rw [qe hs] at hG' ⊢
    rw [qh (by omega)]
    have hx : V / 2 ^ nx % 2 ^ k < 2 ^ k := yc _ (yx (by omega))
    obtain ⟨pk, _⟩ := p24 hk
    have hqk : q * 2 ^ k ≤ 47 * 16777216 := j6 (by omega) pk
    have e1 : Ql true .u32 (q : Int) (k : Int) = some (.int .u32 ((q * 2 ^ k : Nat) : Int)) := Qu4 (K := .u32) rfl (by show k ≤ 32; omega) (by show q * 2 ^ k < 4294967296; omega)
    have e2 : IntKind.u32.wrap (BitVec.ofInt IntKind.u32.bits ((q * 2 ^ k : Nat) : Int) ||| BitVec.ofInt IntKind.u32.bits ((V / 2 ^ nx % 2 ^ k : Nat) : Int)).toNat = ((q * 2 ^ k + V / 2 ^ nx % 2 ^ k : Nat) : Int) := by
     rw [orK (K := .u32) rfl (by show q * 2 ^ k < 4294967296; omega) (by show V / 2 ^ nx % 2 ^ k < 4294967296; omega), Nat.or_comm, QlR hx, j8]
    generalize V / 2 ^ nx % 2 ^ k = x at *
    generalize q * 2 ^ k + x = y at *
    generalize q * 2 ^ k = qk at *
    simp (disch := omega) only [rq, simprocAttr, ZM, bA, rcA]
    refine Qa hC' ?_
    simp (disch := omega) only [rq, simprocAttr]
    refine Qa hU' ?_
    simp (disch := omega) only [rq, simprocAttr, QrG]
    refine Qa hG' ?_
    simp (disch := omega) only [rq, simprocAttr, e1, e2]
def QqC (V N a : Nat) (d : Dl) : Nat ⊕ (Nat × Nat) :=
 if N ≤ a then .inl 24
 else if V / 2 ^ a % 2 = 0 then (if N < a + 1 + d.k0 then .inl 24 else .inr (V / 2 ^ (a + 1) % 2 ^ d.k0, a + 1 + d.k0))
 else match QgY V N (a + 1) d.k1 with
  | .inl e => .inl e
  | .inr (l, nx) => if 4294967295 < l + 2 ^ d.k0 then .inl 12 else .inr (l + 2 ^ d.k0, nx)
theorem Qsj {V N a k v nx : Nat} (hk : k ≤ 24) (h : QgY V N a k = .inr (v, nx)) : v < 4294967296 ∧ nx ≤ N := by
 unfold QgY at h
 cases hu : QdO V N a with
 | inl e => rw [hu] at h; cases h
 | inr w =>
  obtain ⟨q, n⟩ := w
  obtain ⟨u1, u2, u3⟩ := Qpi hu
  rw [hu] at h
  simp only at h
  by_cases hs : N < n + (if q = 48 then 32 else k)
  ·rw [qh hs] at h; cases h
  rw [qe hs] at h
  by_cases hq : q < 48
  ·rw [qh hq] at h
   cases h
   obtain ⟨pk, _⟩ := p24 hk
   have hx : V / 2 ^ n % 2 ^ k < 2 ^ k := yc _ (yx (by omega))
   have hqk : q * 2 ^ k ≤ 47 * 16777216 := j6 (by omega) pk
   rw [qe (show ¬ q = 48 by omega)] at hs
   exact ⟨by omega, by omega⟩
  ·rw [qe hq] at h
   rw [qh (show q = 48 by omega)] at hs
   by_cases h4 : V / 2 ^ n % 2 ^ 32 / 2 ^ k < 48
   ·rw [qh h4] at h; cases h
   ·rw [qe h4] at h
    cases h
    exact ⟨yc _ (by decide), by omega⟩
theorem Qpf {V N a k e : Nat} (h : QgY V N a k = .inl e) : e = 24 ∨ e = 12 := by
 unfold QgY at h
 cases hu : QdO V N a with
 | inl e' => rw [hu] at h; cases h; exact .inl (QlM hu)
 | inr w =>
  obtain ⟨q, n⟩ := w
  rw [hu] at h
  simp only at h
  by_cases hs : N < n + (if q = 48 then 32 else k)
  ·rw [qh hs] at h; cases h; exact .inl rfl
  rw [qe hs] at h
  by_cases hq : q < 48
  ·rw [qh hq] at h; cases h
  ·rw [qe hq] at h
   by_cases h4 : V / 2 ^ n % 2 ^ 32 / 2 ^ k < 48
   ·rw [qh h4] at h; cases h; exact .inr rfl
   ·rw [qe h4] at h; cases h
theorem Qti {V N a v nx : Nat} {d : Dl} (hd : okD d) (h : QqC V N a d = .inr (v, nx)) : v < 4294967296 ∧ nx ≤ N := by
 obtain ⟨pk, _⟩ := p24 hd.1
 unfold QqC at h
 split at h
 ·cases h
 split at h
 ·split at h
  ·cases h
  ·cases h
   have : V / 2 ^ (a + 1) % 2 ^ d.k0 < 2 ^ d.k0 := yc _ (yx (by omega))
   exact ⟨by omega, by omega⟩
 ·cases hr : QgY V N (a + 1) d.k1 with
  | inl e => rw [hr] at h; cases h
  | inr w =>
   obtain ⟨l, n⟩ := w
   rw [hr] at h
   simp only at h
   split at h
   ·cases h
   ·cases h
    exact ⟨by omega, (Qsj hd.2.1 hr).2⟩
theorem Qtj {V N a e : Nat} {d : Dl} (h : QqC V N a d = .inl e) : e = 24 ∨ e = 12 := by
 unfold QqC at h
 split at h
 ·cases h; exact .inl rfl
 split at h
 ·split at h
  ·cases h; exact .inl rfl
  ·cases h
 ·cases hr : QgY V N (a + 1) d.k1 with
  | inl e' => rw [hr] at h; cases h; exact Qpf hr
  | inr w =>
   obtain ⟨l, n⟩ := w
   rw [hr] at h
   simp only at h
   split at h
   ·cases h; exact .inr rfl
   ·cases h
def drA (d : Dl) : Nat ⊕ (Nat × Nat) → AV
 | .inl e => .tup [.int .u32 0, .int .i64 0, dlA ⟨0, 0, 0, 0⟩, .int .i64 e]
 | .inr (v, nx) => .tup [.int .u32 v, .int .i64 nx, dlA (J1 d v), .int .i64 0]
def QoE (P : Prg) (f : Nat) : Prop := ∀ (N V a : Nat) (d : Dl), V < 2 ^ N → N ≤ 330000 → a ≤ 300000 → okD d → VC P f [bA N V, .int .i64 a, dlA d] (drA d (QqC V N a d))
theorem QtC {P : Prg} {f fC fD fG fR fL fl1 fll t0 t1 : Nat} (bd : Body P f 86 [.tmp 6, .tmp 7, .cell 8 t1, .tmp 9] (Zp fC fD fG fR fL t0 t1)) (hC : QbK P fC) (hD : QkT P fD) (hG : Qjg P fG) (hR : QoC P fR)
  (bL : Body P fL 36 [] (Xt fl1 fll)) (b1 : Body P fl1 58 [] Qq) (hL : QkK P fll) (ht : Zq P t1 = some (some 4)) : QoE P f := by
 intro N V a d hV hN ha hd
 refine QJ (by simp [isDL, QcT, Qx2, isD]) (by cases QqC V N a d <;> rfl) bd ?_
 have hd' := hd
 have hC' := hC N V hV hN
 have hD' := hD d hd
 have hgl := fun v nx (h : QqC V N a d = .inr (v, nx)) => Qti hd h
 have hL1 : ∀ {ob : List Ob} {p : Nat} {v : Nat} {K : AV → List Ob → Prop}, ob[p]? = some ⟨t1, 4, 1, dlC d, 0⟩ → v < 4294967296 → K (.tup []) (ob.set p ⟨t1, 4, 1, dlC (J1 d v), 0⟩) → ACall P fL [.ref p 1 0, .int .u32 v] ob K :=
  fun hp hv hK => QqP bL b1 hL hp hd hv hK
 rw [bA] at hC'
 obtain ⟨k0, k1, s0, s1⟩ := d
 obtain ⟨h1, h2, h3, h4⟩ := hd'
 simp only at h1 h2 h3 h4
 obtain ⟨pk, _⟩ := p24 h1
 have hG1 := hG N V a 1 hV hN (by omega) (by omega)
 rw [bA] at hG1
 simp only [dlA, dlC] at hD'
 unfold QqC at hgl ⊢
 by_cases hlt : N ≤ a
 ·rw [qh hlt]
  rw [qh (by omega)] at hG1
  simp (disch := omega) only [rq, simprocAttr, Zp, bA, drA, dlA, dlC]
  iterate 2 (refine Qa (by assumption) ?_; simp (disch := omega) only [rq, simprocAttr])
  refine Qa hG1 ?_
  simp (disch := omega) only [rq, simprocAttr, QP, ht, Qr]
 rw [qe hlt] at hgl ⊢
 rw [qe (by omega)] at hG1
 have hb : V / 2 ^ a % 2 < 2 := yc _ (by decide)
 rw [Nat.pow_one] at hG1
 by_cases h0 : V / 2 ^ a % 2 = 0
 ·rw [qh h0] at hgl ⊢
  rw [h0] at hG1
  simp only at hgl ⊢
  have hG2 : VC P fG [bA N V, .int .i64 ((a : Int) + 1), .int .i64 k0] (if N < a + 1 + k0 then .tup [.int .u64 0, .int .i64 24] else .tup [.int .u64 ((V / 2 ^ (a + 1) % 2 ^ k0 : Nat) : Int), .int .i64 0]) := hG N V (a + 1) k0 hV hN (by omega) (by omega)
  rw [bA] at hG2
  by_cases hs : N < a + 1 + k0
  ·rw [qh hs] at hG2 ⊢
   simp (disch := omega) only [rq, simprocAttr, Zp, bA, drA, dlA, dlC]
   iterate 3 (refine Qa (by assumption) ?_; simp (disch := omega) only [rq, simprocAttr])
   refine Qa hG2 ?_
   simp (disch := omega) only [rq, simprocAttr, QP, ht, Qr]
  ·rw [qe hs] at hG2 hgl ⊢
   have hx : V / 2 ^ (a + 1) % 2 ^ k0 < 2 ^ k0 := yc _ (yx (by omega))
   generalize V / 2 ^ (a + 1) % 2 ^ k0 = x at *
   simp (disch := omega) only [rq, simprocAttr, Zp, bA, drA, dlA, dlC]
   iterate 4 (refine Qa (by assumption) ?_; simp (disch := omega) only [rq, simprocAttr])
   refine hL1 (v := x) rfl (by omega) ?_
   generalize J1 ⟨k0, k1, s0, s1⟩ x = d'
   obtain ⟨l0, l1, l2, l3⟩ := d'
   simp (disch := omega) only [rq, simprocAttr, QP, ht, Qr, dlC]
 ·rw [qe h0] at hgl ⊢
  rw [show V / 2 ^ a % 2 = 1 by omega] at hG1
  have hR' : VC P fR [bA N V, .int .i64 ((a : Int) + 1), .int .i64 k1] (rcA (QgY V N (a + 1) k1)) := hR N V (a + 1) k1 hV hN (by omega) h2
  rw [bA] at hR'
  simp only at hgl ⊢
  cases hr : QgY V N (a + 1) k1 with
  | inl e =>
   have he := Qpf hr
   rw [hr] at hR'
   have he0 : (e : Int) ≠ 0 := by omega
   simp (disch := omega) only [rq, simprocAttr, Zp, bA, drA, dlA, dlC]
   iterate 3 (refine Qa (by assumption) ?_; simp (disch := omega) only [rq, simprocAttr])
   refine Qa hR' ?_
   simp (disch := omega) only [rq, simprocAttr, rcA, QP, ht, Qr]
  | inr w =>
   obtain ⟨l, nx⟩ := w
   obtain ⟨r1, r2⟩ := Qsj h2 hr
   rw [hr] at hR' hgl
   simp only at hgl ⊢
   have e2 : Ql true .u32 1 (k0 : Int) = some (.int .u32 ((2 ^ k0 : Nat) : Int)) := by
    have := Qu4 (K := .u32) rfl (c := 1) (s := k0) (by show k0 ≤ 32; omega) (by show 1 * 2 ^ k0 < 4294967296; omega)
    rw [jp] at this
    exact this
   have hp0 : 0 < 2 ^ k0 := yx (by omega)
   generalize 2 ^ k0 = p at *
   by_cases ho : 4294967295 < l + p
   ·rw [qh ho]
    have e3 : IntKind.u32.wrap ((l : Int) + p) = (l : Int) + p - 4294967296 := by rw [Qk3]; omega
    simp (disch := omega) only [rq, simprocAttr, Zp, bA, drA, dlA, dlC]
    iterate 3 (refine Qa (by assumption) ?_; simp (disch := omega) only [rq, simprocAttr])
    refine Qa hR' ?_
    simp (disch := omega) only [rq, simprocAttr, rcA, e2, e3, QP, ht, Qr]
   ·rw [qe ho]
    simp (disch := omega) only [rq, simprocAttr, Zp, bA, drA, dlA, dlC]
    iterate 3 (refine Qa (by assumption) ?_; simp (disch := omega) only [rq, simprocAttr])
    refine Qa hR' ?_
    simp (disch := omega) only [rq, simprocAttr, rcA, e2]
    refine hL1 (v := l + p) rfl (by omega) ?_
    generalize J1 ⟨k0, k1, s0, s1⟩ (l + p) = d'
    obtain ⟨l0, l1, l2, l3⟩ := d'
    simp (disch := omega) only [rq, simprocAttr, QP, ht, Qr, dlC]
theorem Qlz {P : Prg} {f t0 : Nat} (b : Body P f 8 [.tmp 2] (Zt t0)) : Qaj P f := by
 exact Qol b
theorem Qzt (l : List UInt8) : nB (8 * l.length) = l.length := by unfold nB; omega
theorem Qz1 (l : List UInt8) : bA (8 * l.length) (leN l) = .agg [bs l, .int .i64 ((8 * l.length : Nat) : Int)] := by
 rw [bA, Qzt, Qs1]; rfl
theorem QxO (l : List UInt8) : leN l < 2 ^ (8 * l.length) := QiS l
def ofA (l : List UInt8) : AV := if 41250 < l.length then .tup [bA 0 0, .int .i64 4] else .tup [bA (8 * l.length) (leN l), .int .i64 0]
def QyH (P : Prg) (f : Nat) : Prop := ∀ l : List UInt8, l.length ≤ 1000000 → VC P f [bs l] (ofA l)
theorem Qyy {P : Prg} {f fC t0 : Nat} (bd : Body P f 14 [.cell 2 t0, .tmp 3] (Qbg fC t0)) (hC : Qaj P fC) (ht : Zq P t0 = some (some 2)) : QyH P f := by
 intro l hl
 refine Qi 2 (by simp [isDL, QM]) (by unfold ofA; split <;> simp [isD, isDL, QcT]) (Qb bd (by simp) ?_)
 have hC' := hC l (by omega)
 simp only [bs] at hC'
 unfold ofA
 by_cases h : 41250 < l.length
 ·rw [qh h]
  simp (disch := omega) only [rq, simprocAttr, Qbg, bs, QP, ht, Qr]
  simp [QK, Qx, frzL, Qu, bA, nB, leB, u8]
 ·rw [qe h, Qz1]
  simp (disch := omega) only [rq, simprocAttr, Qbg, bs]
  refine Qa hC' ?_
  simp (disch := omega) only [rq, simprocAttr, QP, ht, Qr]
  simp [QK, Qx, frzL, Qu, frzL_T _ (Zx _), bs]
def QyM (P : Prg) (f : Nat) : Prop := ∀ N V a b : Nat, V < 2 ^ N → N ≤ 330000 → a ≤ b → b ≤ N → VC P f [bA N V, .int .i64 a, .int .i64 b] (.tup [bA (b - a) (V / 2 ^ a % 2 ^ (b - a)), .int .i64 0])
set_option maxHeartbeats 1000000 in
theorem Qwm {P : Prg} {f fC fG fP t0 tp : Nat} (bd : Body P f 46 [.cell 6 t0, .tmp 7] (QbJ fC fG fP t0)) (hC : QbK P fC) (hG : QpL P fG) (bP : Body P fP 75 [] (QaB tp)) (ht : Zq P t0 = some (some 2)) : QyM P f := by
 intro N V a b hV hN hab hbN
 refine Qi 2 (by simp [isDL, QcT, isD]) (by simp [isD, isDL, QcT]) (Qb bd (by simp) ?_)
 have hC' := hC N V hV hN
 rw [bA] at hC'
 have tu : isTL (u8 (leB V (nB N))) = true := Zx _
 simp (disch := omega) only [rq, simprocAttr, QbJ, bA]
 refine Qa hC' ?_
 simp (disch := omega) only [rq, simprocAttr]
 refine Qj (ι := Nat) (fun k => ⟨[(9, .int .i64 ((a + 64 * k : Nat) : Int)), (8, .ref 2 1 0), (7, .int .i64 0), (6, .ref 1 1 0), (3, .ref 0 1 0), (2, .int .i64 b)],
   [⟨t0, 2, 1, [.list (nB N) (u8 (leB V (nB N))), .int .i64 N], 0⟩, ⟨t0, 2, 1, [.own 3 0, .int .i64 0], 0⟩, bO t0 4 (min (64 * k) (b - a)), ⟨tp, 1, 0, [], 0⟩, bY tp (min (64 * k) (b - a)) (V / 2 ^ a % 2 ^ min (64 * k) (b - a))]⟩)
  (fun k => 64 * k < b - a + 64) (fun k => b - a + 64 - 64 * k) 0 ?_ (by omega) ?_
 ·refine Le.trans (Le.virtF 1 tp 1 (by decide) rfl rfl) ?_
  refine Le.trans (Le.virtF 2 tp 1 (by decide) rfl rfl) ?_
  simp only [qo, qC, List.set_cons_succ, List.set_cons_zero, qR, jl, qt]
  rw [Nat.mul_zero, Nat.zero_min, Nat.pow_zero, Nat.mod_one]
  exact Qe
 intro k hk
 by_cases hlt : a + 64 * k < b
 ·obtain ⟨n, hn⟩ : ∃ n, n = min 64 (b - (a + 64 * k)) := ⟨_, rfl⟩
  have hm : min (64 * k) (b - a) = 64 * k := by omega
  have hG' := hG N V (a + 64 * k) n hV (by omega) (by omega) (by omega)
  rw [bA] at hG'
  have e1 : (if (b : Int) - ((a + 64 * k : Nat) : Int) < 64 then (b : Int) - ((a + 64 * k : Nat) : Int) else 64) = (n : Int) := by split <;> omega
  have hv : V / 2 ^ (a + 64 * k) % 2 ^ n < 2 ^ n := yc _ (yx (by omega))
  have hW : V / 2 ^ a % 2 ^ (64 * k) < 2 ^ (64 * k) := yc _ (yx (by omega))
  have hs := Qpz (X := V / 2 ^ a) (h := 64 * k) (t := n)
  rw [jb, ← yt, yi (V / 2 ^ (a + 64 * k) % 2 ^ n)] at hs
  rw [hm]
  generalize hvv : V / 2 ^ (a + 64 * k) % 2 ^ n = v at *
  generalize hWW : V / 2 ^ a % 2 ^ (64 * k) = W at *
  obtain ⟨s, hs0⟩ : ∃ s, s = a + 64 * k := ⟨_, rfl⟩
  rw [← hs0] at hG' e1 ⊢
  simp (disch := omega) only [rq, simprocAttr, e1]
  refine Qa hG' ?_
  simp (disch := omega) only [rq, simprocAttr]
  refine Qwj bP (ob := [⟨t0, 2, 1, [.list (nB N) (u8 (leB V (nB N))), .int .i64 N], 0⟩, ⟨t0, 2, 1, [.own 3 0, .int .i64 0], 0⟩, bO t0 4 (64 * k), ⟨tp, 1, 0, [], 0⟩, bY tp (64 * k) W]) (p := 2) (o := 4) (t := t0) rfl rfl (by decide) hW hv (by omega) (by omega) ?_ ?_
  ·refine Low.cons ?_ (Low.cons ?_ (Low.cons ?_ (Low.cons ?_ (Low.cons ?_ Low.nil)))) <;> simp [bO, bY, lowL, Qgo, lowL_D _ (Qpu _ _)]
  ·simp only [Qbm, List.set_cons_succ, List.set_cons_zero]
   rw [← hs]
   have hm2 : min (64 * (k + 1)) (b - a) = 64 * k + n := by omega
   simp (disch := omega) only [rq, simprocAttr]
   refine ⟨k + 1, by omega, by omega, ?_⟩
   rw [hm2]
   exact QB (by simp [Am.look, hs0]; omega)
 ·have hm : min (64 * k) (b - a) = b - a := by omega
  rw [hm]
  generalize V / 2 ^ a % 2 ^ (b - a) = W at *
  obtain ⟨s, hs0⟩ : ∃ s, s = a + 64 * k := ⟨_, rfl⟩
  rw [← hs0]
  simp (disch := omega) only [rq, simprocAttr, bO, bY, QP, ht, Qr]
  simp [QK, Qx, frzL, Qu, frzL_T _ (Zx _)]
def Js (c r : Nat) (v : List Nat) : Dl := ((List.range v.length).filter fun j => j % c == r).foldl (fun d j => J1 d (v.getD j 0)) Zk
theorem Qmu {c r x : Nat} {v : List Nat} : Js c r (v ++ [x]) = if v.length % c = r then J1 (Js c r v) x else Js c r v := by
 have h1 : ∀ (l : List Nat) (d : Dl), (∀ j ∈ l, j < v.length) → l.foldl (fun d j => J1 d ((v ++ [x]).getD j 0)) d = l.foldl (fun d j => J1 d (v.getD j 0)) d := by
  intro l
  induction l with
  | nil => intro d _; rfl
  | cons a l ih =>
   intro d h
   simp only [jX]
   have ha : a < v.length := h a (by simp)
   rw [ih _ fun j hj => h j (by simp [hj])]
   congr 2
   rw [qd, qd, qp ha]
 unfold Js
 rw [qt, qo, qC, ya, List.range_succ, List.filter_append, j3]
 have hf := h1 ((List.range v.length).filter fun j => j % c == r) Zk (fun j hj => by
  have := (yP.1 hj).1
  simpa using this)
 rw [hf]
 have hx : (v ++ [x]).getD v.length 0 = x := by simp [qd]
 by_cases h : v.length % c = r
 ·rw [qh h]
  have : (List.filter (fun j => j % c == r) [v.length]) = [v.length] := by simp [h]
  rw [this]
  simp only [jX, List.foldl_nil]
  rw [hx]
 ·rw [qe h]
  have : (List.filter (fun j => j % c == r) [v.length]) = [] := by simp [h]
  rw [this]
  rfl
def N32 (v : List Nat) : Prop := ∀ x ∈ v, x < 4294967296
theorem QtP {c r : Nat} {v : List Nat} (h : N32 v) : okD (Js c r v) := by
 unfold Js
 have key : ∀ (l : List Nat) (d : Dl), okD d → (∀ j ∈ l, j < v.length) → okD (l.foldl (fun d j => J1 d (v.getD j 0)) d) := by
  intro l
  induction l with
  | nil => intro d h _; exact h
  | cons a l ih =>
   intro d hd hl
   have ha : a < v.length := hl a (by simp)
   refine ih _ (Qvv hd ?_) fun j hj => hl j (by simp [hj])
   rw [qd, qc ha]
   exact h _ (qS ha)
 exact key _ _ QuR fun j hj => by
  have := (yP.1 hj).1
  simpa using this
def QmW (N a : Nat) : Nat := min (a + 81) N - a
def Qwz (V N a : Nat) : Nat := V / 2 ^ a % 2 ^ QmW N a
def QcI (V N c : Nat) : Nat → List Nat → Nat → (Nat × List Nat) ⊕ (List Nat × Nat)
 | 0, out, a => .inr (out, a)
 | k + 1, out, a =>
  match QqC (Qwz V N a) (QmW N a) 0 (Js c (out.length % c) out) with
  | .inl e => .inl (e, out)
  | .inr (v, nx) => QcI V N c k (out ++ [v]) (a + nx)
theorem QxD (V N a : Nat) : Qwz V N a < 2 ^ QmW N a := yc _ (yx (by omega))
def Qsl (V N a : Nat) : Nat := if 7 < N - a then 12 else if V / 2 ^ a = 0 then 0 else 12
theorem Qdu {V N c : Nat} : ∀ (k : Nat) (out : List Nat) (a : Nat), a ≤ N → N32 out → (∀ e o, QcI V N c k out a = .inl (e, o) → (e = 24 ∨ e = 12) ∧ N32 o ∧ o.length ≤ out.length + k) ∧ (∀ o b, QcI V N c k out a = .inr (o, b) → N32 o ∧ b ≤ N ∧ o.length = out.length + k)
 | 0, out, a, ha, ho => by
  refine ⟨fun e o h => (by simp only [QcI] at h; cases h), fun o b h => ?_⟩
  simp only [QcI] at h
  cases h
  exact ⟨ho, ha, rfl⟩
 | k + 1, out, a, ha, ho => by
  have hd := QtP (c := c) (r := out.length % c) ho
  cases hg : QqC (Qwz V N a) (QmW N a) 0 (Js c (out.length % c) out) with
  | inl e =>
   have he := Qtj hg
   simp only [QcI, hg]
   refine ⟨fun e' o h => ?_, fun o b h => (by cases h)⟩
   cases h
   exact ⟨he, ho, by omega⟩
  | inr p =>
   obtain ⟨v, nx⟩ := p
   obtain ⟨h1, h2⟩ := Qti hd hg
   have hp : QmW N a ≤ N - a := by unfold QmW; omega
   have ho' : N32 (out ++ [v]) := fun x hx => by
    rcases qA.1 hx with h | h
    ·exact ho x h
    ·simp at h; subst h; exact h1
   obtain ⟨r1, r2⟩ := Qdu (V := V) (N := N) (c := c) k (out ++ [v]) (a + nx) (by omega) ho'
   simp only [QcI, hg]
   refine ⟨fun e o h => ?_, fun o b h => ?_⟩
   ·obtain ⟨q1, q2, q3⟩ := r1 e o h
    refine ⟨q1, q2, ?_⟩
    rw [qt, qo, qC] at q3
    omega
   ·obtain ⟨q1, q2, q3⟩ := r2 o b h
    refine ⟨q1, q2, ?_⟩
    rw [qt, qo, qC] at q3
    omega
def QkZ (p : List UInt8) : Nat := 4294967295 - Qrk 4294967295 p
def QdU (b : List UInt8) : Nat := if b.length < 5 then 24 else if 41254 < b.length then 4 else if leN (b.drop (b.length - 4)) = QkZ (b.take (b.length - 4)) then 0 else 22
def Qzu (v : List Nat) : AV := Qnl (v.map fun n : Nat => (n : Int))
theorem QvN (v : List Nat) : isD (Qzu v) = true := by simp [Qzu, Qnl, isD, Zf]
theorem Qxb (p : List UInt8) : QkZ p < 4294967296 := by unfold QkZ; omega
def opA (b : List UInt8) : AV := if QdU b = 0 then .tup [bs (b.take (b.length - 4)), .int .i64 0] else .tup [.list 0 [], .int .i64 (QdU b : Nat)]
def Qkz (P : Prg) (f : Nat) : Prop := ∀ b : List UInt8, b.length ≤ 1000000 → VC P f [bs b] (opA b)
theorem Qil {P : Prg} {f fS fV : Nat} (bd : Body P f 46 [.tmp 2, .tmp 3] (Q0 fS fV)) (hS : QmT P fS) (hV : QcE P fV) : Qkz P f := by
 intro b hb
 refine Qi 1 (by simp [isDL, QM]) (by unfold opA; split <;> simp [isD, isDL, QM]) (Qb bd (by simp) ?_)
 unfold opA QdU
 by_cases h1 : b.length < 5
 ·simp only [h1, yo]
  simp (disch := omega) only [rq, simprocAttr, Q0, bs]
  simp [QK, Qx, frzL, Qu]
 simp only [h1, yC]
 by_cases h2 : 41254 < b.length
 ·simp only [h2, yo]
  simp (disch := omega) only [rq, simprocAttr, Q0, bs]
  simp [QK, Qx, frzL, Qu]
 simp only [h2, yC]
 have hS' := hS (b.take (b.length - 4))
 rw [qe (by simp; omega), ← QkZ] at hS'
 have hl1 : (b.take (b.length - 4)).length = b.length - 4 := by simp
 have hl2 : (b.drop (b.length - 4)).length = 4 := by simp; omega
 have hs := Qxb (b.take (b.length - 4))
 have hV' := hV (b.drop (b.length - 4)) (by omega) (by omega)
 have tk : (u8 b).take (b.length - 4) = u8 (b.take (b.length - 4)) := by simp [u8, jc]
 have dk : (u8 b).drop (b.length - 4) = u8 (b.drop (b.length - 4)) := by simp [u8, jf]
 simp only [bs, hl1, hl2] at hS' hV'
 have hq : leN (b.drop (b.length - 4)) < 4294967296 := by
  have := QiS (b.drop (b.length - 4))
  rw [hl2] at this
  exact this
 have hpl : (u8 (b.take (b.length - 4))).length = b.length - 4 := by rw [Qk, hl1]
 have hql : (u8 (b.drop (b.length - 4))).length = 4 := by rw [Qk, hl2]
 have tq : (u8 (b.drop (b.length - 4))).take 4 = u8 (b.drop (b.length - 4)) := qi (by omega)
 generalize b.take (b.length - 4) = p at *
 generalize b.drop (b.length - 4) = q at *
 generalize QkZ p = s at *
 generalize leN q = w at *
 have n4 : b.length - (b.length - 4) = 4 := by omega
 have n5 : b.length - 4 - 0 = b.length - 4 := by omega
 have n6 : min (b.length - 4) b.length = b.length - 4 := by omega
 have tp : isTL (u8 p) = true := Zx _
 by_cases h3 : w = s
 ·subst h3
  simp only [yo]
  simp (disch := omega) only [rq, simprocAttr, Q0, bs, tk, dk, n4, n5, tq]
  refine Qa hS' ?_
  simp (disch := omega) only [rq, simprocAttr, tk, dk, n4, n5, tq]
  refine Qa hV' ?_
  simp (disch := omega) only [rq, simprocAttr, tk, dk, n4, n5, tq]
  simp [QK, Qx, frzL, Qu, frzL_T _ tp, bs, hl1]
  try omega
 ·simp only [h3, yC]
  simp (disch := omega) only [rq, simprocAttr, Q0, bs, tk, dk, n4, n5, tq]
  refine Qa hS' ?_
  simp (disch := omega) only [rq, simprocAttr, tk, dk, n4, n5, tq]
  refine Qa hV' ?_
  simp (disch := omega) only [rq, simprocAttr, tk, dk, n4, n5, tq]
  simp [QK, Qx, frzL, Qu]
def Qpb (F : Nat → Dl) : List AV := dlC (F 0) ++ dlC (F 1) ++ dlC (F 2) ++ dlC (F 3) ++ dlC (F 4) ++ dlC (F 5)
theorem Qs6 (F : Nat → Dl) : isTL (Qpb F) = true := rfl
theorem Qpa (F : Nat → Dl) : (Qpb F).length = 24 := rfl
theorem Qu0 (F : Nat → Dl) {j : Nat} (h : j < 6) : ∃ r, (Qpb F).drop (j * 4) = .int .i64 (F j).k0 :: .int .i64 (F j).k1 :: .int .u64 (F j).s0 :: .int .u64 (F j).s1 :: r := by
 rcases (by omega : j = 0 ∨ j = 1 ∨ j = 2 ∨ j = 3 ∨ j = 4 ∨ j = 5) with rfl | rfl | rfl | rfl | rfl | rfl <;> exact ⟨_, rfl⟩
def QyT (F : Nat → Dl) (j : Nat) (d : Dl) : Nat → Dl := fun i => if i = j then d else F i
theorem Qo9 (F : Nat → Dl) {j : Nat} (h : j < 6) (d : Dl) : (Qpb F).take (j * 4) ++ [.int .i64 d.k0, .int .i64 d.k1, .int .u64 d.s0, .int .u64 d.s1] ++ (Qpb F).drop (j * 4 + 4) = Qpb (QyT F j d) := by
 rcases (by omega : j = 0 ∨ j = 1 ∨ j = 2 ∨ j = 3 ∨ j = 4 ∨ j = 5) with rfl | rfl | rfl | rfl | rfl | rfl <;> rfl
def vlA : (Nat × List Nat) ⊕ (List Nat × Nat) → AV
 | .inl (e, _) => .tup [.list 0 [], .int .i64 0, .int .i64 e]
 | .inr (o, a) => .tup [Qzu o, .int .i64 a, .int .i64 0]
def QoD (P : Prg) (f : Nat) : Prop := ∀ N V c n : Nat, V < 2 ^ N → N ≤ 330000 → 1 ≤ c → c ≤ 6 → n * c ≤ 4000 → VC P f [.int .i64 c, .int .i64 n, bA N V] (vlA (QcI V N c (n * c) [] 0))
set_option maxHeartbeats 2000000 in
theorem Qik {P : Prg} {f fS fC fR t0 t1 t2 t3 : Nat} (bd : Body P f 76 [.tmp 6, .tmp 7, .tmp 8] (Xu fS fC fR t0 t1 t2 t3)) (hS : QkG P fS) (hC : QyM P fC) (hR : QoE P fR) : QoD P f := by
 intro N V c n hV hN hc hc6 hnc
 refine Qi 1 (by simp [isDL, QcT, isD]) (by unfold vlA; split <;> simp [isD, isDL, QvN]) (Qb bd (by simp) ?_)
 simp only [QkG, Zk, dlA, dlC] at hS
 have hn4 : n ≤ 4000 := by
  have : n * 1 ≤ n * c := yL _ hc
  omega
 have tu : isTL (u8 (leB V (nB N))) = true := Zx _
 obtain ⟨T, hT⟩ : ∃ T, T = n * c := ⟨_, rfl⟩
 obtain ⟨R, hR0⟩ : ∃ R, R = QcI V N c (n * c) [] 0 := ⟨_, rfl⟩
 have eT : (n : Int) * c = (T : Int) := by rw [hT]; simp
 rw [← hR0]
 simp (disch := omega) only [rq, simprocAttr, Xu, bA]
 refine Qj (ι := Nat) (fun i => ⟨[(19, .int .i64 i), (9, .ref 1 1 0), (8, .int .i64 0), (7, .int .i64 0), (6, .emp true), (5, .ref 0 1 0), (0, .int .i64 c), (1, .int .i64 n)],
   [⟨t0, 2, 1, [.list (nB N) (u8 (leB V (nB N))), .int .i64 N], 0⟩, ⟨t1, 24, 1, Qpb (fun j => if j < i then Zk else ⟨0, 0, 0, 0⟩), 0⟩]⟩) (fun i => i ≤ 6) (fun i => 6 - i) 0 (Qe) (by omega) ?_
 intro i hi
 by_cases hlt : i < 6
 ·have e1 := Qo9 (fun j => if j < i then Zk else ⟨0, 0, 0, 0⟩) hlt Zk
  have e2 : QyT (fun j => if j < i then Zk else ⟨0, 0, 0, 0⟩) i Zk = fun j => if j < i + 1 then Zk else ⟨0, 0, 0, 0⟩ := by
   funext j
   unfold QyT
   by_cases h1 : j = i
   ·subst h1; simp
   ·by_cases h2 : j < i
    ·simp [h1, h2, show j < i + 1 by omega]
    ·simp [h1, h2, show ¬ j < i + 1 by omega]
  rw [e2] at e1
  have e3 := Qpa (fun j => if j < i then Zk else ⟨0, 0, 0, 0⟩)
  simp (disch := omega) only [rq, simprocAttr]
  refine Qa hS ?_
  generalize hF : Qpb (fun j => if j < i then Zk else ⟨0, 0, 0, 0⟩) = F at *
  have e1' : F.take (i * 4) ++ [.int .i64 10, .int .i64 10, .int .u64 16384, .int .u64 16384] ++ F.drop (i * 4 + 4) = Qpb fun j => if j < i + 1 then Zk else ⟨0, 0, 0, 0⟩ := e1
  simp (disch := omega) only [rq, simprocAttr, e3]
  refine ⟨i + 1, by omega, by omega, ?_⟩
  rw [e1']
  exact Qe
 obtain rfl : i = 6 := by omega
 have hk0 : ∀ o : List Nat, (ks .u32 (o.map fun n : Nat => (n : Int))).length = o.length := fun o => by simp [ks]
 simp (disch := omega) only [rq, simprocAttr, eT]
 refine Qj (ι := Nat × List Nat × Nat) (fun s => ⟨[(29, .int .i64 s.1), (28, .int .i64 T), (12, .int .i64 s.2.2), (11, .own 2 s.2.1.length), (9, .ref 1 1 0), (5, .ref 0 1 0), (0, .int .i64 c)],
   [⟨t0, 2, 1, [.list (nB N) (u8 (leB V (nB N))), .int .i64 N], 0⟩, ⟨t1, 24, 1, Qpb (fun j => if j < c then Js c j s.2.1 else Zk), 0⟩, ⟨t3, 1, s.2.1.length, ks .u32 (s.2.1.map fun n : Nat => (n : Int)), 0⟩]⟩)
  (fun s => s.1 ≤ T ∧ s.2.1.length = s.1 ∧ s.2.2 ≤ N ∧ N32 s.2.1 ∧ QcI V N c (T - s.1) s.2.1 s.2.2 = R) (fun s => T - s.1) (0, [], 0) ?_ ⟨yd _, rfl, yd _, fun x hx => (by simp at hx), (by rw [hR0, hT]; rfl)⟩ ?_
 ·have z1 : Qpb (fun j => if j < 6 then Zk else ⟨0, 0, 0, 0⟩) = Qpb (fun _ => Zk) := rfl
  have z2 : (fun j => if j < c then Js c j [] else Zk) = fun _ => Zk := by
   funext j
   split <;> rfl
  simp only [z2]
  rw [z1]
  exact Le.trans (Qfe 11 t3 1 (by decide) rfl) (Qe)
 rintro ⟨k, out, a⟩ ⟨h1, h2, h3, h4, h5⟩
 simp only at h1 h2 h3 h4 h5 ⊢
 by_cases hlt : k < T
 ·obtain ⟨r, hr⟩ : ∃ r, r = k % c := ⟨_, rfl⟩
  have hrc : r < c := by rw [hr]; exact yc _ (by omega)
  have e1 : (k : Int) % c = (r : Int) := by rw [hr]; simp [Int.natCast_emod]
  have e1' : ((k : Int)).tmod (c : Int) = (r : Int) := by rw [jI (by omega), e1]
  have hc0 : (c : Int) ≠ 0 := by omega
  obtain ⟨b, hb⟩ : ∃ b, b = min (a + 81) N := ⟨_, rfl⟩
  have e2 : (if (N : Int) < (a : Int) + 81 then (N : Int) else (a : Int) + 81) = (b : Int) := by split <;> omega
  have hpn : b - a = QmW N a := by rw [hb]; rfl
  have hC' : VC P fC [bA N V, .int .i64 a, .int .i64 b] (.tup [bA (QmW N a) (Qwz V N a), .int .i64 0]) := by
   have := hC N V a b hV hN (by omega) (by omega)
   rw [hpn] at this
   exact this
  have hpl : QmW N a ≤ 81 := by unfold QmW; omega
  have hd := QtP (c := c) (r := r) h4
  have hR' := hR (QmW N a) (Qwz V N a) 0 (Js c r out) (QxD V N a) (by omega) (by omega) hd
  have hF : (fun j => if j < c then Js c j out else Zk) r = Js c r out := by simp [hrc]
  obtain ⟨rest, hg⟩ := Qu0 (fun j => if j < c then Js c j out else Zk) (j := r) (by omega)
  simp only [hrc, yo] at hg
  have hst := fun d => Qo9 (fun j => if j < c then Js c j out else Zk) (j := r) (by omega) d
  have hln := Qpa (fun j => if j < c then Js c j out else Zk)
  have hupd : ∀ v : Nat, QyT (fun j => if j < c then Js c j out else Zk) r (J1 (Js c r out) v) = fun j => if j < c then Js c j (out ++ [v]) else Zk := by
   intro v
   funext j
   unfold QyT
   by_cases hj : j = r
   ·subst hj
    rw [qh rfl, qh hrc, Qmu, qh (by rw [h2, hr])]
   ·rw [qe hj]
    by_cases hjc : j < c
    ·simp only [hjc, yo]
     rw [Qmu, qe (by rw [h2, ← hr]; exact fun e => hj e.symm)]
    ·simp only [hjc, yC]
  have hkT : T - k = (T - k - 1) + 1 := by omega
  rw [hkT, QcI, h2, ← hr] at h5
  have hgl := fun v nx (h : QqC (Qwz V N a) (QmW N a) 0 (Js c r out) = .inr (v, nx)) => Qti hd h
  have hge := fun e (h : QqC (Qwz V N a) (QmW N a) 0 (Js c r out) = .inl e) => Qtj h
  have hpN : QmW N a ≤ N - a := by unfold QmW; omega
  simp only [bA] at hC' hR'
  have hk1 := hk0 out
  have tk : isTL (ks .u32 (out.map fun n : Nat => (n : Int))) = true := Qp _ _
  cases hgm : QqC (Qwz V N a) (QmW N a) 0 (Js c r out) with
  | inl e =>
   have he := hge e hgm
   rw [hgm] at hR' h5
   simp only at h5
   have he0 : (e : Int) ≠ 0 := by omega
   rw [← h5, vlA]
   generalize Qpb (fun j => if j < c then Js c j out else Zk) = F at *
   generalize Js c r out = d at *
   obtain ⟨d0, d1, d2, d3⟩ := d
   simp only [dlA, dlC, drA] at hR'
   simp only at hg
   simp (disch := omega) only [rq, simprocAttr, e2]
   refine Qa hC' ?_
   simp (disch := omega) only [rq, simprocAttr, e1, e1', hc0, hg, hln]
   refine QN hR' ?_
   simp (disch := omega) only [rq, simprocAttr]
   simp [QK, Qx, frzL, Qu]
  | inr w =>
   obtain ⟨v, nx⟩ := w
   obtain ⟨v1, v2⟩ := hgl v nx hgm
   rw [hgm] at hR' h5
   simp only at h5
   have hset := hst (J1 (Js c r out) v)
   rw [hupd v] at hset
   generalize hFF : Qpb (fun j => if j < c then Js c j out else Zk) = F at *
   generalize Js c r out = d at *
   obtain ⟨d0, d1, d2, d3⟩ := d
   simp only [drA] at hR'
   generalize J1 ⟨d0, d1, d2, d3⟩ v = d' at *
   obtain ⟨m0, m1, m2, m3⟩ := d'
   simp only [dlA, dlC] at hR'
   simp only at hg hset
   simp (disch := omega) only [rq, simprocAttr, e2]
   refine Qa hC' ?_
   simp (disch := omega) only [rq, simprocAttr, e1, e1', hc0, hg, hln]
   refine QN hR' ?_
   simp (disch := omega) only [rq, simprocAttr, e1, e1', hc0, hg, hln, hk1, h2]
   have hap : ks .u32 (out.map fun n : Nat => (n : Int)) ++ [.int .u32 (v : Int)] = ks .u32 ((out ++ [v]).map fun n : Nat => (n : Int)) := by simp [ks]
   have hol : (out ++ [v]).length = k + 1 := by simp [h2]
   refine ⟨(k + 1, out ++ [v], a + nx), ⟨by omega, hol, by simp only; omega, fun x hx => ?_, ?_⟩, by simp only; omega, ?_⟩
   ·rcases qA.1 hx with h | h
    ·exact h4 x h
    ·simp at h; subst h; exact v1
   ·simp only
    rw [show T - (k + 1) = T - k - 1 by omega]
    exact h5
   ·simp only [hol]
    rw [hset, hap]
    exact XI [_, _, _] (by simp [Qs6, Qp, isTL, isT, Zx]) (by simp [Am.look, Qx, frzL, Qu])
 ·obtain rfl : k = T := by omega
  rw [Yo, QcI] at h5
  rw [← h5, vlA, Qzu, Qnl, jm]
  simp (disch := omega) only [rq, simprocAttr]
  simp [QK, Qx, frzL, Qu, frzL_T _ (Qp _ _)]
def iL (o : List Nat) : List Int := o.map fun n : Nat => (n : Int)
def Qyk (V N c : Nat) (x : Int) (t : List Int) (w : (Nat × List Nat) ⊕ (List Nat × Nat)) : AV :=
 match w with
 | .inl (e, _) => erA e
 | .inr (o, a) => if Qsl V N a ≠ 0 then erA 12 else Qrg x (unB c x t (iL o))
def QuB (c x : Int) (t : List Int) (n : Int) (b : List UInt8) : AV :=
 if QmP c x n ≠ 0 then erA 2 else if QdU b ≠ 0 then erA (QdU b : Nat) else
  Qyk (leN (b.take (b.length - 4))) (8 * (b.take (b.length - 4)).length) c.toNat x t (QcI (leN (b.take (b.length - 4))) (8 * (b.take (b.length - 4)).length) c.toNat (n.toNat * c.toNat) [] 0)
theorem QvQ (V N c : Nat) (x : Int) (t : List Int) (w : (Nat × List Nat) ⊕ (List Nat × Nat)) : isD (Qyk V N c x t w) = true := by
 unfold Qyk
 split
 ·rfl
 ·split
  ·rfl
  ·exact Qs8 _ _
theorem QvR (c x : Int) (t : List Int) (n : Int) (b : List UInt8) : isD (QuB c x t n b) = true := by
 unfold QuB
 split
 ·rfl
 split
 ·rfl
 ·exact QvQ _ _ _ _ _ _
theorem Qox {c x n : Int} (h : QmP c x n = 0) : QbM c x = 0 ∧ ∃ c' n' : Nat, c = c' ∧ n = n' ∧ 1 ≤ c' ∧ c' ≤ 6 ∧ 1 ≤ n' ∧ n' * c' ≤ 4000 ∧ QaU x ≠ 0 := by
 unfold QmP at h
 rcases Qce c x with h1 | ⟨h1, h2, h3, h4⟩
 ·rw [qh (by omega)] at h; omega
 ·rw [qe (by omega)] at h
  split at h
  ·omega
  split at h
  ·omega
  rename_i h5 h6
  refine ⟨h1, c.toNat, n.toNat, by omega, by omega, by omega, by omega, by omega, ?_, h2⟩
  have h7 : n.toNat ≤ 4000 / c.toNat := by
   have : ((4000 / c.toNat : Nat) : Int) = 4000 / c := by rw [jv, Int.toNat_of_nonneg (by omega)]; rfl
   omega
  exact (Nat.le_div_iff_mul_le (by omega)).1 h7
theorem Qzp {V N c n : Nat} {o : List Nat} {a : Nat} (hc : 1 ≤ c) (hc6 : c ≤ 6) (hn : 1 ≤ n) (hnc : n * c ≤ 4000) (h : QcI V N c (n * c) [] 0 = .inr (o, a)) : okV c (iL o) ∧ a ≤ N ∧ o.length = n * c := by
 obtain ⟨_, h2⟩ := Qdu (V := V) (N := N) (c := c) (n * c) [] 0 (yd _) (fun x hx => by simp at hx)
 obtain ⟨q1, q2, q3⟩ := h2 o a h
 rw [qC, ya] at q3
 have hpos : 0 < n * c := j5 hn hc
 refine ⟨⟨hc, hc6, by simp [iL]; omega, by simp [iL]; omega, by simp [iL, q3], fun x hx => ?_⟩, q2, q3⟩
 simp only [iL, qO] at hx
 obtain ⟨y, hy, rfl⟩ := hx
 have := q1 y hy
 omega
def QgB (P : Prg) (f : Nat) : Prop := ∀ (c x n : Int) (t : List Int) (b : List UInt8), t.length = 16 → I32 t → b.length ≤ 1000000 → VC P f [shA c x, .agg (ks .i32 t), .int .i64 n, bs b] (QuB c x t n b)
set_option maxHeartbeats 2000000 in
theorem Qim {P : Prg} {f fE fO fF fV fG fS t0 t1 t2 : Nat} (bd : Body P f 87 [.tmp 8, .tmp 9] (QE fE fO fF fV fG fS t0 t1 t2)) (hE0 : QkR P fE) (hO : Qkz P fO) (hF : QyH P fF) (hV : QoD P fV) (hG : Qjg P fG) (hS : Quk P fS) : QgB P f := by
 intro c x n t b ht hI hb
 refine Qi 1 (by simp [isDL, QM, Zf, isD, shA]) (QvR _ _ _ _ _) (Qb bd (by simp) ?_)
 have hE' := hE0 c x
 have hO' := hO b hb
 have hk : (ks .i32 t).length = 16 := by simp [Qc, ht]
 have tt : (ks .i32 t).take 16 = ks .i32 t := QQ (by omega)
 have ot := Jl .i32 t
 rw [shA] at hE'
 simp only [bs] at hO'
 unfold QuB
 rcases Qce c x with g1 | ⟨g1, g2, g3, g4⟩
 ·have h1 : QmP c x n = 2 := by unfold QmP; rw [qh (by omega)]
  rw [g1] at hE'
  rw [qh (by omega), erA]
  simp (disch := omega) only [rq, simprocAttr, QE, shA, bs, hk, tt, ot]
  refine Qa hE' ?_
  simp (disch := omega) only [rq, simprocAttr]
  simp [QK, Qx, frzL, Qu]
 rw [g1] at hE'
 have ed : ((4000 : Int)).tdiv c = 4000 / c := ym (by omega)
 have hc0 : c ≠ 0 := by omega
 have hd1 : 4000 / c ≤ 4000 := by
  have := jQ c (show (0 : Int) ≤ 4000 by omega)
  exact this
 have hd0 : 0 ≤ 4000 / c := Ye (by omega) (by omega)
 by_cases h1 : QmP c x n = 0
 case neg =>
  rw [qh h1, erA]
  have h1' : n < 1 ∨ 4000 / c < n := by
   unfold QmP at h1
   rw [qe (by omega)] at h1
   split at h1
   ·exact .inl (by assumption)
   split at h1
   ·exact .inr (by assumption)
   ·omega
  obtain ⟨q, hq⟩ : ∃ q, q = 4000 / c := ⟨_, rfl⟩
  rw [← hq] at hd0 hd1 h1' ed
  have ed2 : (4000 : Int) / c = q := hq.symm
  clear hq
  by_cases h1'' : n < 1
  ·simp (disch := omega) only [rq, simprocAttr, QE, shA, bs, hk, tt, ot]
   refine Qa hE' ?_
   simp (disch := omega) only [rq, simprocAttr]
   simp [QK, Qx, frzL, Qu]
  ·have h1''' : q < n := by omega
   simp (disch := omega) only [rq, simprocAttr, QE, shA, bs, hk, tt, ot]
   refine Qa hE' ?_
   simp (disch := omega) only [rq, simprocAttr, ed, ed2, hc0]
   simp [QK, Qx, frzL, Qu]
 rw [qe (by omega)]
 obtain ⟨_, c', n', rfl, rfl, q1, q2, q3, q4, q5⟩ := Qox h1
 have hnq : (n' : Int) ≤ 4000 / (c' : Int) := by
  unfold QmP at h1
  rw [qe (by omega)] at h1
  split at h1
  ·omega
  split at h1
  ·omega
  ·omega
 obtain ⟨q, hq⟩ : ∃ q, q = (4000 : Int) / (c' : Int) := ⟨_, rfl⟩
 rw [← hq] at hd0 hd1 hnq ed
 have ed2 : (4000 : Int) / (c' : Int) = q := hq.symm
 clear hq
 by_cases h2 : QdU b = 0
 case neg =>
  have h2' : ((QdU b : Nat) : Int) ≠ 0 := by omega
  rw [opA, qe h2] at hO'
  rw [qh h2, erA]
  generalize QdU b = m at *
  simp (disch := omega) only [rq, simprocAttr, QE, shA, bs, hk, tt, ot]
  refine Qa hE' ?_
  simp (disch := omega) only [rq, simprocAttr, ed, ed2, hc0]
  refine Qa hO' ?_
  simp (disch := omega) only [rq, simprocAttr]
  simp [QK, Qx, frzL, Qu]
 rw [qe (by omega)]
 have hbl : 5 ≤ b.length ∧ b.length ≤ 41254 := by
  unfold QdU at h2
  split at h2
  ·omega
  split at h2
  ·omega
  ·omega
 rw [opA, qh h2] at hO'
 have hpl : (b.take (b.length - 4)).length = b.length - 4 := by simp
 have hF' := hF (b.take (b.length - 4)) (by omega)
 have hVlt := QxO (b.take (b.length - 4))
 have hbA := Qz1 (b.take (b.length - 4))
 rw [ofA, qe (by omega), hbA] at hF'
 simp only [qw]
 have hV' := hV (8 * (b.take (b.length - 4)).length) (leN (b.take (b.length - 4))) c' n' hVlt (by omega) q1 q2 q4
 have hG0 := fun a m => hG (8 * (b.take (b.length - 4)).length) (leN (b.take (b.length - 4))) a m hVlt (by omega)
 rw [hbA] at hV'
 simp only [hbA] at hG0
 simp only [bs, hpl] at hF' hV' hG0 hO' hVlt ⊢
 have hNN : 8 * (b.length - 4) ≤ 330000 := by omega
 generalize hp : b.take (b.length - 4) = p at *
 generalize leN p = V at *
 obtain ⟨N, hN⟩ : ∃ N, N = 8 * (b.length - 4) := ⟨_, rfl⟩
 rw [← hN] at hF' hV' hG0 hVlt hNN ⊢
 have hokv := fun o a (h : QcI V N c' (n' * c') [] 0 = .inr (o, a)) => Qzp q1 q2 q3 q4 h
 have hspec := Qdu (V := V) (N := N) (c := c') (n' * c') [] 0 (yd _) (fun x hx => by simp at hx)
 cases hw : QcI V N c' (n' * c') [] 0 with
 | inl w =>
  obtain ⟨e, o⟩ := w
  have he := (hspec.1 e o hw).1
  have he0 : (e : Int) ≠ 0 := by omega
  rw [hw, vlA] at hV'
  simp only [Qyk, erA]
  simp (disch := omega) only [rq, simprocAttr, QE, shA, bs, hk, tt, ot]
  refine Qa hE' ?_
  simp (disch := omega) only [rq, simprocAttr, ed, ed2, hc0]
  iterate 3 (refine Qa (by assumption) ?_; simp (disch := omega) only [rq, simprocAttr])
  simp [QK, Qx, frzL, Qu]
 | inr w =>
  obtain ⟨o, a⟩ := w
  obtain ⟨hv, ha, hol⟩ := hokv o a hw
  rw [hw, vlA, Qzu, Qnl, jm] at hV'
  simp only [Qyk]
  have hS' := hS c' x t (iL o) ht hI hv q5
  rw [shA, Qnl, iL, jm] at hS'
  by_cases h8 : 7 < N - a
  ·have h12 : Qsl V N a = 12 := by unfold Qsl; rw [qh h8]
   rw [h12, qh (by omega), erA]
   simp (disch := omega) only [rq, simprocAttr, QE, shA, bs, hk, tt, ot]
   refine Qa hE' ?_
   simp (disch := omega) only [rq, simprocAttr, ed, ed2, hc0]
   iterate 3 (refine Qa (by assumption) ?_; simp (disch := omega) only [rq, simprocAttr])
   simp [QK, Qx, frzL, Qu]
  ·have hG' := hG0 a (N - a) (by omega) (by omega)
   rw [qe (by omega)] at hG'
   have hlt : V / 2 ^ a < 2 ^ (N - a) := Nat.div_lt_of_lt_mul (by rw [← yt, show a + (N - a) = N by omega]; exact hVlt)
   rw [qV hlt] at hG'
   have eNa : (N : Int) - a = ((N - a : Nat) : Int) := by omega
   have h7 : 2 ^ (N - a) ≤ 2 ^ 7 := qy (by omega) (by omega)
   have hr : Qsl V N a = if V / 2 ^ a = 0 then 0 else 12 := by unfold Qsl; rw [qe h8]
   rw [hr]
   generalize V / 2 ^ a = y at *
   obtain ⟨m, hm⟩ : ∃ m, m = N - a := ⟨_, rfl⟩
   rw [← hm] at hG' eNa
   have hm7 : m ≤ 7 := by omega
   by_cases h0 : y = 0
   ·subst h0
    rw [qh rfl, qe (by omega)]
    have hG'' : VC P fG [.agg [.list (b.length - 4) (u8 p), .int .i64 N], .int .i64 a, .int .i64 m] (.tup [.int .u64 0, .int .i64 0]) := hG'
    simp (disch := omega) only [rq, simprocAttr, QE, shA, bs, hk, tt, ot]
    refine Qa hE' ?_
    simp (disch := omega) only [rq, simprocAttr, ed, ed2, hc0]
    iterate 2 (refine Qa (by assumption) ?_; simp (disch := omega) only [rq, simprocAttr])
    refine Qa hV' ?_
    simp (disch := omega) only [rq, simprocAttr, eNa]
    refine Qa hG'' ?_
    simp (disch := omega) only [rq, simprocAttr, hk, tt, ot]
    refine Qa hS' ?_
    simp only [iL]
    generalize unB c' x t (o.map fun n : Nat => (n : Int)) = z at *
    unfold Qrg
    by_cases h4 : ZF x z = 0
    ·rw [qe (by omega)]
     simp (disch := omega) only [rq, simprocAttr, il]
     simp [QK, Qx, frzL, Qu, frzL_T _ (Qp _ _)]
    ·rw [qh h4]
     simp (disch := omega) only [rq, simprocAttr]
     simp [QK, Qx, frzL, Qu]
   ·rw [qe h0, qh (by omega), erA]
    simp (disch := omega) only [rq, simprocAttr, QE, shA, bs, hk, tt, ot]
    refine Qa hE' ?_
    simp (disch := omega) only [rq, simprocAttr, ed, ed2, hc0]
    iterate 2 (refine Qa (by assumption) ?_; simp (disch := omega) only [rq, simprocAttr])
    refine Qa hV' ?_
    simp (disch := omega) only [rq, simprocAttr, eNa]
    refine Qa hG' ?_
    simp (disch := omega) only [rq, simprocAttr]
    simp [QK, Qx, frzL, Qu]
theorem mod_mul (m c : Nat) : (m * c) % c = 0 := Nat.mul_mod_left m c
def QAG (p : List UInt8) : List UInt8 := p ++ leB (QkZ p) 4
def QmS (t : Nat) (P : Prg) (f : Nat) : Prop := ∀ (ob : List Ob) (n : Nat) (z : Bool) (K : AV → List Ob → Prop), 0 < n → n ≤ 140737488355328 → K (.own ob.length 0) (ob ++ [⟨t, 1, 0, [], 0⟩]) → ACall P f [.emp z, .int .i64 n] ob K
theorem grow_nil {P : Prg} {f t : Nat} {ρ : Go.Shelf.Ren} (L : Go.Proofs.Lays8.n4 P.prog ρ) (hf : ρ.f 4 = f) (ht : ρ.t 25 = t) (h25 : (P.prog.info? t).map (fun i => (i.zero, i.size, i.bytes)) = some (some (.int .u8 0), 1, 1)) : QmS t P f := by
 intro ob n z K h1 h2 hK
 subst hf; subst ht
 exact ACall.grow_nil L h25 h1 h2 hK
theorem Zy (o : List Nat) : (iL o).length = o.length := by simp [iL]
def nl (l : List Int) : AV := .list l.length (ks .i64 l)
theorem Qtb (l : List Int) : isD (nl l) = true := by simp [nl, isD, Zf]
def nls (L : List (List Int)) : AV := .list L.length (L.map nl)
theorem Qpt : ∀ L : List (List Int), isDL (L.map nl) = true
 | [] => rfl
 | l :: L => by simp [isDL, Qtb, Qpt L]
def QhR (t : Nat) (P : Prg) (f : Nat) : Prop := ∀ L : List (List Int), L.length ≤ 1000000 → 0 < L.flatten.length → L.flatten.length ≤ 1000000 → VO P f [nls L] (.own 0 L.flatten.length) ⟨t, 1, L.flatten.length, ks .i64 L.flatten, 0⟩
theorem grow_nilI {P : Prg} {f t : Nat} {ρ : Go.Shelf.Ren} (L : Go.Proofs.Lays8.n4 P.prog ρ) (hf : ρ.f 4 = f) (ht : ρ.t 25 = t) (h25 : (P.prog.info? t).map (fun i => (i.zero, i.size, i.bytes)) = some (some (.int .i64 0), 1, 8)) : ∀ (ob : List Ob) (n : Nat) (z : Bool) (K : AV → List Ob → Prop), 0 < n → n ≤ 1000000 → K (.own ob.length 0) (ob ++ [⟨t, 1, 0, [], 0⟩]) → ACall P f [.emp z, .int .i64 n] ob K := by
 intro ob n z K h1 h2 hK
 subst hf; subst ht
 exact ACall.grow_nilI (by omega) L h25 h1 (by omega) hK
def Qjh (t : Nat) (P : Prg) (f : Nat) : Prop := ∀ (ob : List Ob) (n : Nat) (z : Bool) (K : AV → List Ob → Prop), 0 < n → n ≤ 1000000 → K (.own ob.length 0) (ob ++ [⟨t, 1, 0, [], 0⟩]) → ACall P f [.emp z, .int .i64 n] ob K
theorem QiW {L : List (List Int)} {k : Nat} (h : k < L.length) : (L.take (k + 1)).flatten = (L.take k).flatten ++ L.getD k [] := by
 rw [qm h, List.flatten_append, qd, qc h]
 simp
theorem QpC (L : List (List Int)) (k : Nat) : (L.take k).flatten.length ≤ L.flatten.length := by
 conv => rhs; rw [← yD k L, List.flatten_append, qt]
 omega
theorem Qia {P : Prg} {f fG t0 : Nat} (bd : Body P f 36 [.tmp 2] (Q4 fG t0)) (hG : Qjh t0 P fG) : QhR t0 P f := by
 intro L hL h0 h1
 refine VO.of_walk (by simp [isDL, isD, nls, Qpt]) (Zf _ _) (by simp [okr]) (Qb bd (by simp) ?_)
 have hat : ∀ k, k < L.length → (L.map nl).drop k = nl (L.getD k []) :: (L.map nl).drop (k + 1) := fun k hk => by
  rw [qK (by simpa using hk)]
  simp [qd, qc hk]
 have hml : (L.map nl).length = L.length := by simp
 simp only [nl] at hat
 simp (disch := omega) only [rq, simprocAttr, Q4, nls]
 refine Qj (ι := Nat) (fun k => ⟨[(11, .int .i64 k), (10, .int .i64 L.length), (9, .list L.length (L.map nl)), (3, .int .i64 (L.take k).flatten.length), (0, .list L.length (L.map nl))], []⟩) (fun k => k ≤ L.length) (fun k => L.length - k) 0 (Qe) (by omega) ?_
 intro k hk
 by_cases hlt : k < L.length
 ·have ha := hat k hlt
  have hf := QiW hlt
  have hle := QpC L (k + 1)
  rw [hf, qt] at hle
  have hl : ((L.take (k + 1)).flatten.length : Int) = (L.take k).flatten.length + (L.getD k []).length := by rw [hf]; simp
  generalize (L.take k).flatten.length = s at *
  generalize L.getD k [] = x at *
  simp (disch := omega) only [rq, simprocAttr, ha, hml]
  exact ⟨k + 1, by omega, by omega, by simp only [hl]; exact Qe⟩
 obtain rfl : k = L.length := by omega
 rw [yn]
 have hG' := fun K hK => hG [] L.flatten.length true K h0 h1 hK
 simp (disch := omega) only [rq, simprocAttr]
 refine hG' _ ?_
 simp (disch := omega) only [rq, simprocAttr]
 refine Qj (ι := Nat) (fun k => ⟨[(27, .int .i64 k), (26, .int .i64 L.length), (25, .list L.length (L.map nl)), (6, .own 0 (L.take k).flatten.length)], [⟨t0, 1, (L.take k).flatten.length, ks .i64 (L.take k).flatten, 0⟩]⟩) (fun k => k ≤ L.length) (fun k => L.length - k) 0 (QB (by simp [Am.look, ks])) (by omega) ?_
 intro k hk
 by_cases hlt : k < L.length
 ·have ha := hat k hlt
  have hf := QiW hlt
  have hle := QpC L (k + 1)
  rw [hf, qt] at hle
  have hl : (L.take (k + 1)).flatten.length = (L.take k).flatten.length + (L.getD k []).length := by rw [hf]; simp
  have hu : ks .i64 (L.take (k + 1)).flatten = ks .i64 (L.take k).flatten ++ ks .i64 (L.getD k []) := by rw [hf]; simp [ks]
  have hc : (ks .i64 (L.take k).flatten).length = (L.take k).flatten.length := Qc _ _
  have hx : (ks .i64 (L.getD k [])).length = (L.getD k []).length := Qc _ _
  generalize ks .i64 (L.take k).flatten = cs at *
  generalize (L.take k).flatten.length = s at *
  generalize ks .i64 (L.getD k []) = us at *
  generalize (L.getD k []).length = xl at *
  simp (disch := omega) only [rq, simprocAttr, ha, hml, hc, hx]
  exact ⟨k + 1, by omega, by omega, by rw [hl, hu]; exact Qe⟩
 obtain rfl : k = L.length := by omega
 rw [yn]
 simp (disch := omega) only [rq, simprocAttr]
 exact ⟨0, rfl, rfl⟩
end Go.Am
