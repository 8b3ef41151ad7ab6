/- What the functions that the law reaches return, for every program that has their code; the conditions stand in each statement. -/
import Derived.Test.YtkilhchobbfjhabGreatDoorEncodeFilesD1
set_option linter.unusedSectionVars false
set_option linter.unusedSimpArgs false
set_option linter.unusedVariables false
namespace Go.Am
open Go.RowKit

theorem QT (l : List UInt8) : isTL (u8 l) = true := by
  induction l with
  | nil => rfl
  | cons x l ih => simp [Qi4, isTL, isT, ih]
end Go.Am

namespace Go.Am
open Go.RowKit

def Qaf (b : Int) : Int := if b = 8 then 128 else if b = 16 then 32768 else if b = 24 then 8388608 else 0

theorem ZW (b : Int) : (b = 8 ∧ Qaf b = 128) ∨ (b = 16 ∧ Qaf b = 32768) ∨ (b = 24 ∧ Qaf b = 8388608) ∨ (b ≠ 8 ∧ b ≠ 16 ∧ b ≠ 24 ∧ Qaf b = 0) := by
  unfold Qaf; split <;> (try split) <;> (try split) <;> omega

def Qbk (b : Int) : AV := if Qaf b = 0 then .tup [.int .i32 0, .int .i32 0, .int .i64 2] else .tup [.int .i32 (-Qaf b), .int .i32 (Qaf b - 1), .int .i64 0]

def Qko (P : Prg) (f : Nat) : Prop := ∀ b : Int, VC P f [.int .i64 b] (Qbk b)

theorem QmT {P : Prg} {f : Nat} (b : Qj P f 18 [.tmp 2, .tmp 3, .tmp 4] ZX) : Qko P f := by
  intro x
  refine VC.of_acall rfl (by unfold Qbk; split <;> rfl) (ACall.of_body b (by simp) ?_)
  rcases ZW x with ⟨rfl, h⟩ | ⟨rfl, h⟩ | ⟨rfl, h⟩ | ⟨h1, h2, h3, h⟩
  · simp (maxSteps := 4000000) (disch := omega) only [rr, aop, cV, cV1, AV.one, Qb, okW, Qd, app, Qa, Qc, Qf, Qe, Qg, simprocAttr, ZX, Qbk, h]
    rfl
  · simp (maxSteps := 4000000) (disch := omega) only [rr, aop, cV, cV1, AV.one, Qb, okW, Qd, app, Qa, Qc, Qf, Qe, Qg, simprocAttr, ZX, Qbk, h]
    rfl
  · simp (maxSteps := 4000000) (disch := omega) only [rr, aop, cV, cV1, AV.one, Qb, okW, Qd, app, Qa, Qc, Qf, Qe, Qg, simprocAttr, ZX, Qbk, h]
    rfl
  · simp (maxSteps := 4000000) (disch := omega) only [rr, aop, cV, cV1, AV.one, Qb, okW, Qd, app, Qa, Qc, Qf, Qe, Qg, simprocAttr, ZX, Qbk, h]

end Go.Am

namespace Go.Am
open Go.RowKit

def il (l : List Int) : AV := .list l.length (ks .i32 l)
theorem QO (l : List Int) : isD (il l) = true := by simp [il, isD, QM]

def inR (b x : Int) : Bool := decide (-Qaf b ≤ x) && decide (x < Qaf b)
def Q3 (b : Int) (l : List Int) : Int := if Qaf b = 0 then 2 else if 4000 < l.length then 4 else if l.all (inR b) then 0 else 16
def I32 (l : List Int) : Prop := ∀ x ∈ l, -2147483648 ≤ x ∧ x ≤ 2147483647
def QbU (P : Prg) (f : Nat) : Prop := ∀ (b : Int) (l : List Int), I32 l → VC P f [.int .i64 b, il l] (.int .i64 (Q3 b l))

theorem QeH {l : List Int} {k : Nat} (h : k < l.length) {p : Int → Bool} : (l.take (k + 1)).all p = ((l.take k).all p && p l[k]) := by
  rw [List.take_succ_eq_append_getElem h, List.all_append]; simp

theorem Qia {l : List Int} {k : Nat} (h : k < l.length) {p : Int → Bool} (hp : p l[k] = false) : l.all p = false := by
  rw [List.all_eq_false]
  exact ⟨l[k], List.getElem_mem h, by simp [hp]⟩

set_option maxRecDepth 10000 in
theorem QmU {P : Prg} {f fR : Nat} (b : Qj P f 37 [.tmp 4] (Qa6 fR)) (hR : Qko P fR) : QbU P f := by
  intro x l hl
  refine VC.of_acall (by simp [isDL, isD, QO]) rfl (ACall.of_body b (by simp) ?_)
  simp (maxSteps := 4000000) (disch := omega) only [rr, aop, cV, cV1, AV.one, Qb, okW, Qd, app, Qa, Qc, Qf, Qe, Qg, simprocAttr, Qa6]
  refine Qh.vc (hR x) ?_
  by_cases h0 : Qaf x = 0
  · simp (maxSteps := 4000000) (disch := omega) only [rr, aop, cV, cV1, AV.one, Qb, okW, Qd, app, Qa, Qc, Qf, Qe, Qg, simprocAttr, Qbk, Q3, h0]
  have h3 : Qaf x = 128 ∨ Qaf x = 32768 ∨ Qaf x = 8388608 := by rcases ZW x with h | h | h | h <;> omega
  by_cases h1 : 4000 < l.length
  · simp (maxSteps := 4000000) (disch := omega) only [rr, aop, cV, cV1, AV.one, Qb, okW, Qd, app, Qa, Qc, Qf, Qe, Qg, simprocAttr, Qbk, Q3, h0, il, h1]
  simp (maxSteps := 4000000) (disch := omega) only [rr, aop, cV, cV1, AV.one, Qb, okW, Qd, app, Qa, Qc, Qf, Qe, Qg, simprocAttr, Qbk, il, if_neg h0]
  refine QJ.by (ι := Nat) (fun k => ⟨[(24, .int .i64 k), (23, .int .i64 l.length), (22, il l), (6, .int .i32 (Qaf x - 1)), (5, .int .i32 (-Qaf x))], []⟩) (fun k => k ≤ l.length ∧ (l.take k).all (inR x) = true) (fun k => l.length - k) 0 (Le.slots (by simp [Am.look, il])) ⟨by omega, by simp⟩ ?_
  intro k ⟨hk, hg⟩
  by_cases hlt : k < l.length
  · by_cases hp : -Qaf x ≤ l[k] ∧ l[k] < Qaf x
    · have hs := QeH hlt (p := inR x)
      simp (maxSteps := 4000000) (disch := omega) only [rr, aop, cV, cV1, AV.one, Qb, okW, Qd, app, Qa, Qc, Qf, Qe, Qg, simprocAttr, il, QaC, hlt]
      exact ⟨k + 1, ⟨by omega, by rw [hs, hg]; simp [inR, hp]⟩, by omega, Le.slots (by simp [Am.look, il])⟩
    · have e : Q3 x l = 16 := by simp [Q3, h0, h1, Qia hlt (p := inR x) (by simp [inR]; omega)]
      by_cases hq : l[k] < -Qaf x
      · simp (maxSteps := 4000000) (disch := omega) only [rr, aop, cV, cV1, AV.one, Qb, okW, Qd, app, Qa, Qc, Qf, Qe, Qg, simprocAttr, il, QaC, hlt, e]
      · simp (maxSteps := 4000000) (disch := omega) only [rr, aop, cV, cV1, AV.one, Qb, okW, Qd, app, Qa, Qc, Qf, Qe, Qg, simprocAttr, il, QaC, hlt, e]
  · have e2 : k = l.length := by omega
    subst e2
    rw [List.take_length] at hg
    simp (maxSteps := 4000000) (disch := omega) only [rr, aop, cV, cV1, AV.one, Qb, okW, Qd, app, Qa, Qc, Qf, Qe, Qg, simprocAttr, il, Q3, h0, h1, hg]

def QpR (P : Prg) (f : Nat) : Prop := ∀ x : Int, VC P f [.int .i64 x] (.int .i64 (Qaf x))

theorem Qqq {P : Prg} {f : Nat} (b : Qj P f 10 [.tmp 2] XH) : QpR P f := by
  intro x
  refine VC.of_acall rfl rfl (ACall.of_body b (by simp) ?_)
  rcases ZW x with ⟨rfl, h⟩ | ⟨rfl, h⟩ | ⟨rfl, h⟩ | ⟨h1, h2, h3, h⟩ <;> simp (maxSteps := 4000000) (disch := omega) only [rr, aop, cV, cV1, AV.one, Qb, okW, Qd, app, Qa, Qc, Qf, Qe, Qg, simprocAttr, XH, h]

set_option maxRecDepth 10000 in
theorem QnG {P : Prg} {f fH : Nat} (b : Qj P f 37 [.tmp 4] (Xs fH)) (hH : QpR P fH) : QbU P f := by
  intro x l hl
  refine VC.of_acall (by simp [isDL, isD, QO]) rfl (ACall.of_body b (by simp) ?_)
  simp (maxSteps := 4000000) (disch := omega) only [rr, aop, cV, cV1, AV.one, Qb, okW, Qd, app, Qa, Qc, Qf, Qe, Qg, simprocAttr, Xs]
  refine Qh.vc (hH x) ?_
  by_cases h0 : Qaf x = 0
  · simp (maxSteps := 4000000) (disch := omega) only [rr, aop, cV, cV1, AV.one, Qb, okW, Qd, app, Qa, Qc, Qf, Qe, Qg, simprocAttr, Q3, h0]
  have h3 : Qaf x = 128 ∨ Qaf x = 32768 ∨ Qaf x = 8388608 := by rcases ZW x with h | h | h | h <;> omega
  by_cases h1 : 4000 < l.length
  · simp (maxSteps := 4000000) (disch := omega) only [rr, aop, cV, cV1, AV.one, Qb, okW, Qd, app, Qa, Qc, Qf, Qe, Qg, simprocAttr, Q3, h0, il, h1]
  simp (maxSteps := 4000000) (disch := omega) only [rr, aop, cV, cV1, AV.one, Qb, okW, Qd, app, Qa, Qc, Qf, Qe, Qg, simprocAttr, il]
  refine QJ.by (ι := Nat) (fun k => ⟨[(6, .int .i64 k), (1, il l), (5, .int .i64 (Qaf x))], []⟩) (fun k => k ≤ l.length ∧ (l.take k).all (inR x) = true) (fun k => l.length - k) 0 (Le.slots (by simp [Am.look, il])) ⟨by omega, by simp⟩ ?_
  intro k ⟨hk, hg⟩
  by_cases hlt : k < l.length
  · have hb := hl _ (List.getElem_mem hlt)
    by_cases hp : -Qaf x ≤ l[k] ∧ l[k] < Qaf x
    · have hs := QeH hlt (p := inR x)
      simp (maxSteps := 4000000) (disch := omega) only [rr, aop, cV, cV1, AV.one, Qb, okW, Qd, app, Qa, Qc, Qf, Qe, Qg, simprocAttr, il, QaC, hlt]
      exact ⟨k + 1, ⟨by omega, by rw [hs, hg]; simp [inR, hp]⟩, by omega, Le.slots (by simp [Am.look, il])⟩
    · have e : Q3 x l = 16 := by simp [Q3, h0, h1, Qia hlt (p := inR x) (by simp [inR]; omega)]
      by_cases hq : l[k] < -Qaf x
      · simp (maxSteps := 4000000) (disch := omega) only [rr, aop, cV, cV1, AV.one, Qb, okW, Qd, app, Qa, Qc, Qf, Qe, Qg, simprocAttr, il, QaC, hlt, e]
      · simp (maxSteps := 4000000) (disch := omega) only [rr, aop, cV, cV1, AV.one, Qb, okW, Qd, app, Qa, Qc, Qf, Qe, Qg, simprocAttr, il, QaC, hlt, e]
  · have e2 : k = l.length := by omega
    subst e2
    rw [List.take_length] at hg
    simp (maxSteps := 4000000) (disch := omega) only [rr, aop, cV, cV1, AV.one, Qb, okW, Qd, app, Qa, Qc, Qf, Qe, Qg, simprocAttr, il, Q3, h0, h1, hg]

theorem Qmf {n : Nat} {c : Int} (h : 1 ≤ c) : 0 ≤ (n : Int) / c ∧ (n : Int) / c ≤ n :=
  ⟨Int.ediv_nonneg (by omega) (by omega), Int.ediv_le_self _ (by omega)⟩

theorem Qay {n : Nat} {c : Int} (h : 1 ≤ c) : 0 ≤ (n : Int) % c ∧ (n : Int) % c < c := ⟨Int.emod_nonneg _ (by omega), Int.emod_lt_of_pos _ (by omega)⟩

end Go.Am

namespace Go.Am
open Go.RowKit

def QC (r : Int) : Int := if 256 * r / 245 < 1 then 1 else 256 * r / 245
theorem Xd (r : Int) : 1 ≤ QC r := by unfold QC; split <;> omega
theorem Qjl {r : Int} (h : r ≤ 1048576) : QC r ≤ 1095654 := by unfold QC; split <;> omega
def Qb0 (r : Int) : AV := if r < 1 ∨ 1048576 < r then .tup [.int .i64 0, .int .i64 2] else .tup [.int .i64 (QC r), .int .i64 0]
def QbV (P : Prg) (f : Nat) : Prop := ∀ r : Int, VC P f [.int .i64 r] (Qb0 r)

theorem Qpw (r : Int) : isD (Qb0 r) = true := by unfold Qb0; split <;> rfl

theorem QlV {P : Prg} {f : Nat} (b : Qj P f 14 [.tmp 2, .tmp 3] Xg) : QbV P f := by
  intro r
  refine VC.of_acall rfl (Qpw r) (ACall.of_body b (by simp) ?_)
  by_cases h1 : r < 1
  · simp (maxSteps := 4000000) (disch := omega) only [rr, aop, cV, cV1, AV.one, Qb, okW, Qd, app, Qa, Qc, Qf, Qe, Qg, simprocAttr, Xg, Qb0, true_or]
  by_cases h2 : 1048576 < r
  · simp (maxSteps := 4000000) (disch := omega) only [rr, aop, cV, cV1, AV.one, Qb, okW, Qd, app, Qa, Qc, Qf, Qe, Qg, simprocAttr, Xg, Qb0, or_true]
  have h3 : 1 ≤ 256 * r / 245 := by omega
  simp (maxSteps := 4000000) (disch := omega) only [rr, aop, cV, cV1, AV.one, Qb, okW, Qd, app, Qa, Qc, Qf, Qe, Qg, simprocAttr, Xg, Qb0, or_self, QC]
  rw [show (if (1 : Int) < 256 * r / 245 then 256 * r / 245 else 1) = 256 * r / 245 by split <;> omega]

theorem Qqo {P : Prg} {f : Nat} (b : Qj P f 17 [.tmp 2, .tmp 3] Q6) : QbV P f := by
  intro r
  refine VC.of_acall rfl (Qpw r) (ACall.of_body b (by simp) ?_)
  by_cases h1 : r < 1
  · simp (maxSteps := 4000000) (disch := omega) only [rr, aop, cV, cV1, AV.one, Qb, okW, Qd, app, Qa, Qc, Qf, Qe, Qg, simprocAttr, Q6, Qb0, true_or]
  by_cases h2 : 1048576 < r
  · simp (maxSteps := 4000000) (disch := omega) only [rr, aop, cV, cV1, AV.one, Qb, okW, Qd, app, Qa, Qc, Qf, Qe, Qg, simprocAttr, Q6, Qb0, or_true]
  have e : r * 256 / 245 = 256 * r / 245 := by rw [Int.mul_comm]
  have h3 : 1 ≤ 256 * r / 245 := by omega
  simp (maxSteps := 4000000) (disch := omega) only [rr, aop, cV, cV1, AV.one, Qb, okW, Qd, app, Qa, Qc, Qf, Qe, Qg, simprocAttr, Q6, Qb0, or_self, QC, e]

def ZD (c b : Int) : Int := if Qaf b = 0 ∨ c < 1 ∨ 6 < c then 2 else 0
def shA (c b : Int) : AV := .agg [.int .i64 c, .int .i64 b]
def Qa0 (P : Prg) (f : Nat) : Prop := ∀ c b : Int, VC P f [shA c b] (.int .i64 (ZD c b))

theorem Qjv {P : Prg} {f fR t0 : Nat} (b : Qj P f 25 [.tmp 2] (Qab fR t0)) (hR : Qko P fR) : Qa0 P f := by
  intro c x
  refine VC.of_acall rfl rfl (ACall.of_body b (by simp) ?_)
  simp (maxSteps := 4000000) (disch := omega) only [rr, aop, cV, cV1, AV.one, Qb, okW, Qd, app, Qa, Qc, Qf, Qe, Qg, simprocAttr, Qab, shA]
  refine Qh.vc (hR x) ?_
  by_cases h0 : Qaf x = 0
  · simp (maxSteps := 4000000) (disch := omega) only [rr, aop, cV, cV1, AV.one, Qb, okW, Qd, app, Qa, Qc, Qf, Qe, Qg, simprocAttr, Qbk, h0, ZD, true_or]
  by_cases h1 : c < 1
  · simp (maxSteps := 4000000) (disch := omega) only [rr, aop, cV, cV1, AV.one, Qb, okW, Qd, app, Qa, Qc, Qf, Qe, Qg, simprocAttr, Qbk, if_neg h0, ZD, h0, or_true, true_or]
  by_cases h2 : 6 < c
  · simp (maxSteps := 4000000) (disch := omega) only [rr, aop, cV, cV1, AV.one, Qb, okW, Qd, app, Qa, Qc, Qf, Qe, Qg, simprocAttr, Qbk, if_neg h0, ZD, h0, or_true]
  · simp (maxSteps := 4000000) (disch := omega) only [rr, aop, cV, cV1, AV.one, Qb, okW, Qd, app, Qa, Qc, Qf, Qe, Qg, simprocAttr, Qbk, if_neg h0, ZD, h0, or_self]

theorem QnD {P : Prg} {f fH t0 : Nat} (b : Qj P f 17 [.tmp 2] (Q1 fH t0)) (hH : QpR P fH) : Qa0 P f := by
  intro c x
  refine VC.of_acall rfl rfl (ACall.of_body b (by simp) ?_)
  have hx := ZW x
  by_cases h1 : c < 1
  · simp (maxSteps := 4000000) (disch := omega) only [rr, aop, cV, cV1, AV.one, Qb, okW, Qd, app, Qa, Qc, Qf, Qe, Qg, simprocAttr, Q1, shA, ZD, or_true, true_or]
  by_cases h2 : 6 < c
  · simp (maxSteps := 4000000) (disch := omega) only [rr, aop, cV, cV1, AV.one, Qb, okW, Qd, app, Qa, Qc, Qf, Qe, Qg, simprocAttr, Q1, shA, ZD, or_true]
  simp (maxSteps := 4000000) (disch := omega) only [rr, aop, cV, cV1, AV.one, Qb, okW, Qd, app, Qa, Qc, Qf, Qe, Qg, simprocAttr, Q1, shA]
  refine Qh.vc (hH x) ?_
  by_cases h0 : Qaf x = 0
  · simp (maxSteps := 4000000) (disch := omega) only [rr, aop, cV, cV1, AV.one, Qb, okW, Qd, app, Qa, Qc, Qf, Qe, Qg, simprocAttr, h0, ZD, true_or]
  · simp (maxSteps := 4000000) (disch := omega) only [rr, aop, cV, cV1, AV.one, Qb, okW, Qd, app, Qa, Qc, Qf, Qe, Qg, simprocAttr, h0, ZD, or_self]
end Go.Am

namespace Go.Am
open Go.RowKit

structure Enc where
  ch : Int
  bits : Int
  rate : Int
  pw : List UInt8
  rest : List UInt8
  smp : List Int
  frs : List (List UInt8)
  out : List UInt8
  done : Bool
  err : Int

def bss (l : List (List UInt8)) : AV := .list l.length (l.map bs)
def Qyb (e : Enc) : List AV := [.int .i64 e.ch, .int .i64 e.bits, .int .i64 e.rate, .str e.pw, bs e.rest, il e.smp, bss e.frs, bs e.out, .bool e.done, .int .i64 e.err]
theorem Qjq : ∀ l : List (List UInt8), isDL (l.map bs) = true
  | [] => rfl
  | x :: l => by simp [isDL, Zq, Qjq l]
theorem Qjp (l : List (List UInt8)) : isD (bss l) = true := by simp [bss, isD, Qjq]
end Go.Am

namespace Go.Am
open Go.RowKit

/-! ### slices.IndexFunc, slices.ContainsFunc at elements of one cell -/

theorem QaU : ∀ l : List (List UInt8), isTL (l.map bs) = true
  | [] => rfl
  | x :: l => by
    have : isT (bs x) = true := by simp [bs, isT]; induction x with | nil => rfl | cons y x ih => simp [Qi4, isTL, isT, ih]
    simp [isTL, this, QaU l]

/-! ### feeding -/

end Go.Am

namespace Go.Am
open Go.RowKit

theorem QbF {α : Type} (f : α → AV) : ∀ l : List α, (l.map fun x => [f x]).flatten = l.map f
  | [] => rfl
  | x :: l => by simp [QbF f l]

theorem Qjs {L : List (List AV)} (h : ∀ c ∈ L, QbW (.int .u8) c) : ∃ l : List UInt8, L.length = l.length ∧ AV.list L.length L.flatten = bs l := by
  obtain ⟨l, rfl, _⟩ := QcF (f := fun b : UInt8 => [AV.int .u8 b.toNat]) (q := fun _ => True) h (fun c hc => by
    simp only [QbW] at hc
    obtain ⟨n, rfl, h1, h2⟩ := hc
    simp only [IntKind.min, IntKind.max, IntKind.signed, IntKind.bits] at h1 h2
    refine ⟨UInt8.ofNat n.toNat, ?_, trivial⟩
    simp at h1 h2
    simp; omega)
  exact ⟨l, by simp, by simp [bs, u8, QbF]⟩

theorem Qs5 {K : IntKind} {L : List (List AV)} (h : ∀ c ∈ L, QbW (.int K) c) : ∃ l : List Int, L.length = l.length ∧ AV.list L.length L.flatten = .list l.length (ks K l) ∧ ∀ x ∈ l, K.min ≤ x ∧ x ≤ K.max := by
  obtain ⟨l, rfl, h2⟩ := QcF (f := fun n : Int => [AV.int K n]) (q := fun x => K.min ≤ x ∧ x ≤ K.max) h (fun c hc => by
    simp only [QbW] at hc
    obtain ⟨n, rfl, h1, h2⟩ := hc
    exact ⟨n, rfl, h1, h2⟩)
  exact ⟨l, by simp, by simp [ks, QbF], h2⟩

def Qxa (P : Program) (t : TypeId) : Bool := match P.underlying t with | some (.struct _) => true | _ => false
def Qxb (P : Program) (t : TypeId) : Bool := match P.underlying t with | some (.array _ _) => true | _ => false
def Qya (P : Program) (t : TypeId) : Bool := match P.underlying t with | some (.slice _) => true | _ => false
theorem Qu5 {P : Program} {t : TypeId} (h : Qxa P t = true) : ∃ fs, P.underlying t = some (.struct fs) := by
  unfold Qxa at h; split at h
  · exact ⟨_, by assumption⟩
  · cases h
theorem QxE {P : Program} {t : TypeId} (h : Qxb P t = true) : ∃ n e, P.underlying t = some (.array n e) := by
  unfold Qxb at h; split at h
  · exact ⟨_, _, by assumption⟩
  · cases h
theorem QxY {P : Program} {t : TypeId} (h : Qya P t = true) : ∃ e, P.underlying t = some (.slice e) := by
  unfold Qya at h; split at h
  · exact ⟨_, by assumption⟩
  · cases h

end Go.Am

namespace Go.Am
open Go.RowKit

theorem Ql7 {L : List (List AV)} (h : ∀ c ∈ L, QbW (.int .i32) c) : ∃ l : List Int, L.length = l.length ∧ AV.list L.length L.flatten = il l ∧ I32 l := by
  obtain ⟨l, h1, h2, h3⟩ := Qs5 h
  exact ⟨l, h1, h2, fun x hx => by have := h3 x hx; simpa [IntKind.min, IntKind.max, IntKind.signed, IntKind.bits] using this⟩

theorem Qu9 {L : List (List AV)} (h : ∀ c ∈ L, QbW (.slice (.int .u8)) c) : ∃ l : List (List UInt8), L.length = l.length ∧ AV.list L.length L.flatten = bss l ∧ ∀ x ∈ l, x.length ≤ maxLen := by
  obtain ⟨l, rfl, h2⟩ := QcF (f := fun b : List UInt8 => [bs b]) (q := fun x => x.length ≤ maxLen) h (fun c hc => by
    simp only [QbW] at hc
    obtain ⟨L', rfl, h1, h2⟩ := hc
    obtain ⟨l, h3, h4⟩ := Qjs h2
    exact ⟨l, by rw [h4], by omega⟩)
  exact ⟨l, by simp, by simp [bss, QbF], h2⟩

def QxP : Sh := .tuple [.int .i64, .int .i64]
def Qxh : Sh := .tuple [QxP, .int .i64, .str, .slice (.int .u8), .slice (.int .i32), .slice (.slice (.int .u8)), .slice (.int .u8), .bool, .int .i64]

theorem QqO {cs0 : List AV} (h : QbW QxP cs0) : ∃ c b : Int, cs0 = [.int .i64 c, .int .i64 b] := by
  simp only [QxP, QbW, FitsL] at h
  obtain ⟨_, _, rfl, ⟨c, rfl, _⟩, _, _, rfl, ⟨b, rfl, _⟩, rfl⟩ := h
  exact ⟨c, b, rfl⟩

theorem QxG {cs0 : List AV} (h : QbW Qxh cs0) : ∃ e : Enc, cs0 = Qyb e ∧ I32 e.smp := by
  simp only [Qxh, QbW, FitsL] at h
  obtain ⟨_, _, rfl, h1, _, _, rfl, ⟨r, rfl, _⟩, _, _, rfl, ⟨p, rfl, _⟩, _, _, rfl, ⟨L1, rfl, _, h2⟩, _, _, rfl, ⟨L2, rfl, _, h3⟩, _, _, rfl, ⟨L3, rfl, _, h4⟩, _, _, rfl, ⟨L4, rfl, _, h5⟩, _, _, rfl, ⟨d, rfl⟩, _, _, rfl, ⟨x, rfl, _⟩, rfl⟩ := h
  obtain ⟨c, b, rfl⟩ := QqO h1
  obtain ⟨l1, _, e1⟩ := Qjs (L := L1) (fun c hc => by simp only [QbW]; exact h2 c hc)
  obtain ⟨l2, _, e2, hi⟩ := Ql7 (L := L2) (fun c hc => by simp only [QbW]; exact h3 c hc)
  obtain ⟨l3, _, e3, _⟩ := Qu9 (L := L3) (fun c hc => by simp only [QbW]; exact h4 c hc)
  obtain ⟨l4, _, e4⟩ := Qjs (L := L4) (fun c hc => by simp only [QbW]; exact h5 c hc)
  exact ⟨⟨c, b, r, p, l1, l2, l3, l4, d, x⟩, by simp [Qyb, e1, e2, e3, e4], hi⟩
end Go.Am

namespace Go.Am
open Go.RowKit

def w32 (x : Int) : Int := IntKind.i32.wrap x
theorem QkO (x : Int) : w32 x = (x + 2147483648) % 4294967296 - 2147483648 := by
  simp [w32, IntKind.wrap, IntKind.bits, IntKind.signed]; split <;> omega
theorem Qrx (a b : Int) : w32 (w32 a + w32 b) = w32 (a + b) := by simp only [QkO]; omega
theorem QoY (a b : Int) : w32 (w32 a + b) = w32 (a + b) := by simp only [QkO]; omega
theorem Qrw {a : Int} (h1 : -2147483648 ≤ a) (h2 : a ≤ 2147483647) : w32 a = a := QoX h1 h2
theorem X6 (a : Int) : -2147483648 ≤ w32 a ∧ w32 a ≤ 2147483647 := by simp only [QkO]; omega
theorem Qat (x : Int) : IntKind.i32.wrap x = w32 x := rfl

theorem Zf {l : List Int} (h : I32 l) (k : Nat) : -2147483648 ≤ l.getD k 0 ∧ l.getD k 0 ≤ 2147483647 := by
  rw [List.getD_eq_getElem?_getD]
  cases hk : l[k]? with
  | none => simp
  | some v => exact h v (List.mem_of_getElem? hk)

theorem Qvt {K : IntKind} {l : List Int} {k : Nat} (h : k < l.length) : (ks K l)[k]? = some (.int K (l.getD k 0)) := by
  simp [ks, List.getD_eq_getElem?_getD, List.getElem?_eq_getElem h]

structure Jf where
  sh : Int
  tp : List Int
  ps : List Int

def Ql (f : Jf) : List AV := .int .i64 f.sh :: (ks .i32 f.tp ++ ks .i32 f.ps)
def QaK (f : Jf) : Prop := f.tp.length = 16 ∧ f.ps.length = 16 ∧ I32 f.tp ∧ I32 f.ps

theorem QB {f : Jf} (h : QaK f) : (Ql f).length = 33 := by
  obtain ⟨h1, h2, _⟩ := h
  simp [Ql, Qk, h1, h2]
theorem QG (f : Jf) : (Ql f).all AV.one = true := by
  simp only [Ql, List.all_cons, List.all_append, XA]; rfl
theorem QP (f : Jf) : isDL (Ql f) = true := by
  have : ∀ a b, isDL (ks .i32 a ++ ks .i32 b) = true := fun a b => by rw [Qen]; exact QM _ _
  simp [Ql, isDL, isD, this]
theorem Ql8 {f : Jf} (h : QaK f) : ((Ql f).drop 1).take 16 = ks .i32 f.tp := by
  obtain ⟨h1, h2, _⟩ := h
  simp only [Ql, List.drop_succ_cons, List.drop_zero]
  rw [List.take_left' (by simp [Qk, h1])]
theorem Qih {f : Jf} (h : QaK f) : ((Ql f).drop 17).take 16 = ks .i32 f.ps := by
  obtain ⟨h1, h2, _⟩ := h
  simp only [Ql, List.drop_succ_cons]
  rw [List.drop_left' (by simp [Qk, h1]), List.take_of_length_le (by simp [Qk, h2])]
theorem Qjt {f : Jf} (h : QaK f) {k : Nat} (hk : k < 16) : (Ql f).drop (1 + k) = .int .i32 (f.tp.getD k 0) :: ((ks .i32 f.tp).drop (k + 1) ++ ks .i32 f.ps) := by
  obtain ⟨h1, h2, _⟩ := h
  rw [Nat.add_comm]
  simp only [Ql, List.drop_succ_cons]
  rw [List.drop_append_of_le_length (by simp [Qk, h1]; omega), QaC (by omega), ← J6]
  simp [List.getD_eq_getElem?_getD, List.getElem?_eq_getElem (show k < f.tp.length by omega)]
theorem Qep {f : Jf} (h : QaK f) {k : Nat} (hk : k < 16) : (Ql f).drop (17 + k) = .int .i32 (f.ps.getD k 0) :: (ks .i32 f.ps).drop (k + 1) := by
  obtain ⟨h1, h2, _⟩ := h
  rw [show 17 + k = (16 + k) + 1 by omega]
  simp only [Ql, List.drop_succ_cons]
  rw [← List.drop_drop, List.drop_left' (by simp [Qk, h1]), QaC (by omega), ← J6]
  simp [List.getD_eq_getElem?_getD, List.getElem?_eq_getElem (show k < f.ps.length by omega)]
theorem Qgz {f : Jf} (h : QaK f) {k : Nat} (hk : k < 16) (v : Int) : (Ql f).take (1 + k) ++ [.int .i32 v] ++ (Ql f).drop (1 + k + 1) = Ql { f with tp := f.tp.set k v } := by
  obtain ⟨h1, h2, _⟩ := h
  rw [Nat.add_comm 1 k]
  simp only [Ql, List.take_succ_cons, List.drop_succ_cons, List.cons_append]
  congr 1
  rw [List.take_append_of_le_length (by simp [Qk, h1]; omega), List.drop_append_of_le_length (by simp [Qk, h1]; omega), ← List.append_assoc]
  congr 1
  rw [List.set_eq_take_append_cons_drop, if_pos (by omega)]
  simp [ks]
theorem Qce {f : Jf} (h : QaK f) {k : Nat} (hk : k < 16) (v : Int) : (Ql f).take (17 + k) ++ [.int .i32 v] ++ (Ql f).drop (17 + k + 1) = Ql { f with ps := f.ps.set k v } := by
  obtain ⟨h1, h2, _⟩ := h
  rw [show 17 + k = (16 + k) + 1 by omega]
  simp only [Ql, List.take_succ_cons, List.drop_succ_cons, List.cons_append]
  congr 1
  have e : (ks .i32 f.tp).length = 16 := by simp [Qk, h1]
  rw [List.take_append, List.take_of_length_le (by omega), e, show 16 + k + 1 = 16 + (k + 1) by omega, ← List.drop_drop, List.drop_left' e, show 16 + k - 16 = k by omega, List.append_assoc, List.append_assoc]
  congr 1
  rw [List.set_eq_take_append_cons_drop, if_pos (by omega)]
  simp [ks]

theorem Qn {α : Type} {l : List α} {n : Nat} (h : l.length ≤ n) : l.take n = l := List.take_of_length_le h

/-! ### taps.New, taps.Check -/

def J4 (b : Int) : Int := if b = 16 then 9 else 10
def z16 : List Int := List.replicate 16 0
def QeV (b : Int) (t : List Int) : Jf := ⟨J4 b, t, z16⟩
def Qhp : Jf := ⟨0, z16, z16⟩
def QcU (b : Int) (t : List Int) : AV := if Qaf b = 0 then .tup [.agg (Ql Qhp), .int .i64 2] else .tup [.agg (Ql (QeV b t)), .int .i64 0]
def QgU (P : Prg) (f : Nat) : Prop := ∀ (b : Int) (t : List Int), t.length = 16 → VC P f [.int .i64 b, .agg (ks .i32 t)] (QcU b t)

theorem Qpt (b : Int) (t : List Int) : isD (QcU b t) = true := by
  unfold QcU; split <;> simp [isD, isDL, QP]
theorem Jn : Ql Qhp = [.int .i64 0, .int .i32 0, .int .i32 0, .int .i32 0, .int .i32 0, .int .i32 0, .int .i32 0, .int .i32 0, .int .i32 0, .int .i32 0, .int .i32 0, .int .i32 0, .int .i32 0, .int .i32 0, .int .i32 0, .int .i32 0, .int .i32 0, .int .i32 0, .int .i32 0, .int .i32 0, .int .i32 0, .int .i32 0, .int .i32 0, .int .i32 0, .int .i32 0, .int .i32 0, .int .i32 0, .int .i32 0, .int .i32 0, .int .i32 0, .int .i32 0, .int .i32 0, .int .i32 0] := rfl

theorem Quq {P : Prg} {f t0 t1 : Nat} (b : Qj P f 18 [.cell 4 t1, .tmp 5] (JK t0 t1)) (ht : Q4 P t1 = some (some 33)) : QgU P f := by
  intro x t hl
  have hk : (ks .i32 t).length = 16 := by simp [Qk, hl]
  have h1 := XA .i32 t
  have tk16 : (ks .i32 t).take 16 = ks .i32 t := Qn (by omega)
  refine VC.of_acall (by simp [isDL, isD, QM]) (Qpt _ _) (ACall.of_body b (by simp) ?_)
  have fin : ∀ s : Int, .int .i64 s :: (ks .i32 t ++ [.int .i32 0, .int .i32 0, .int .i32 0, .int .i32 0, .int .i32 0, .int .i32 0, .int .i32 0, .int .i32 0, .int .i32 0, .int .i32 0, .int .i32 0, .int .i32 0, .int .i32 0, .int .i32 0, .int .i32 0, .int .i32 0]) = Ql ⟨s, t, z16⟩ := fun _ => rfl
  have hl33 : ∀ s : Int, (Ql ⟨s, t, z16⟩).length = 33 := fun s => by simp [Ql, Qk, hl, z16]
  have ho := fun s => QG ⟨s, t, z16⟩
  have tk : ∀ s : Int, (Ql ⟨s, t, z16⟩).take 33 = Ql ⟨s, t, z16⟩ := fun s => Qn (by rw [hl33]; omega)
  have st9 : ([] : List AV) ++ [.int .i64 9] ++ (Ql ⟨10, t, z16⟩).drop 1 = Ql ⟨9, t, z16⟩ := rfl
  have d9 : AV.int .i64 9 :: (Ql ⟨10, t, z16⟩).drop 1 = Ql ⟨9, t, z16⟩ := rfl
  rcases ZW x with ⟨rfl, h⟩ | ⟨rfl, h⟩ | ⟨rfl, h⟩ | ⟨h2, h3, h4, h⟩
  · simp (maxSteps := 4000000) (disch := omega) only [rr, aop, cV, cV1, AV.one, Qb, okW, Qd, app, Qa, Qc, Qf, Qe, Qg, simprocAttr, JK, QcU, h, hk, h1, tk16, fin, hl33, ho, tk, ZK, ht, QeV, J4]
  · simp (maxSteps := 4000000) (disch := omega) only [rr, aop, cV, cV1, AV.one, Qb, okW, Qd, app, Qa, Qc, Qf, Qe, Qg, simprocAttr, JK, QcU, h, hk, h1, tk16, fin, hl33, ho, tk, ZK, ht, QeV, J4, d9]
  · simp (maxSteps := 4000000) (disch := omega) only [rr, aop, cV, cV1, AV.one, Qb, okW, Qd, app, Qa, Qc, Qf, Qe, Qg, simprocAttr, JK, QcU, h, hk, h1, tk16, fin, hl33, ho, tk, ZK, ht, QeV, J4]
  · simp (maxSteps := 4000000) (disch := omega) only [rr, aop, cV, cV1, AV.one, Qb, okW, Qd, app, Qa, Qc, Qf, Qe, Qg, simprocAttr, JK, QcU, h, hk, h1, tk16, fin, hl33, ho, tk, ZK, ht, Jn]

def Quf (s : Int) : Int := if s = 9 ∨ s = 10 then 0 else 8
def QeJ (P : Prg) (f : Nat) : Prop := ∀ x : Jf, QaK x → VC P f [.agg (Ql x)] (.int .i64 (Quf x.sh))

theorem QxK : Quf 9 = 0 := rfl
theorem QwP : Quf 10 = 0 := rfl

/-! ### taps.Guess -/

def QfX (a b : List Int) : Nat → Int
  | 0 => 0
  | k + 1 => QfX a b k + a.getD k 0 * b.getD k 0
def Qa3 (s : Int) : Int := if s = 9 then 512 else 1024
def Qdn (f : Jf) : Int := w32 (Qa3 f.sh / 2 + QfX f.tp f.ps 16) / Qa3 f.sh
def Qkk (P : Prg) (f : Nat) : Prop := ∀ x : Jf, QaK x → x.sh = 9 ∨ x.sh = 10 → VC P f [.agg (Ql x)] (.tup [.int .i32 (Qdn x), .int .i64 0])

theorem Ql3 (f : Jf) (h : f.sh = 9 ∨ f.sh = 10) : -2147483648 ≤ Qdn f ∧ Qdn f ≤ 2147483647 := by
  have := X6 (Qa3 f.sh / 2 + QfX f.tp f.ps 16)
  unfold Qdn Qa3 at *
  rcases h with h | h <;> simp [h] at * <;> omega

theorem Qv0 : Qs true .i32 1 8 = some (.int .i32 256) := rfl
theorem QvZ : Qs true .i32 1 9 = some (.int .i32 512) := rfl
theorem QvV (s : Int) : Qs false .i32 s 9 = some (.int .i32 (s / 512)) := by
  show some (AV.int .i32 (s.fdiv 512)) = _
  rw [Int.fdiv_eq_ediv_of_nonneg _ (by omega)]
theorem QuF (s : Int) : Qs false .i32 s 10 = some (.int .i32 (s / 1024)) := by
  show some (AV.int .i32 (s.fdiv 1024)) = _
  rw [Int.fdiv_eq_ediv_of_nonneg _ (by omega)]

theorem Qp4 {P : Prg} {f fC t0 : Nat} (b : Qj P f 36 [.tmp 2, .tmp 3] (QbL fC t0)) (hC : QeJ P fC) : Qkk P f := by
  intro x hx hs
  have l33 := QB hx
  have tk : (Ql x).take 33 = Ql x := Qn (by omega)
  have ho := QG x
  have e1 := Ql8 hx
  have e0 : (Ql x).drop 0 = .int .i64 x.sh :: (ks .i32 x.tp ++ ks .i32 x.ps) := rfl
  have ht : Quf x.sh = 0 := by simp [Quf, hs]
  have hl := hx.1
  refine VC.of_acall (by simp [isDL, isD, QP]) rfl (ACall.of_body b (by simp) ?_)
  simp (maxSteps := 4000000) (disch := omega) only [rr, aop, cV, cV1, AV.one, Qb, okW, Qd, app, Qa, Qc, Qf, Qe, Qg, simprocAttr, QbL, l33, tk, ho]
  refine Qh.vc (hC x hx) ?_
  rcases hs with h | h
  all_goals
    have z0 : w32 (Qa3 x.sh / 2 + QfX x.tp x.ps 0) = Qa3 x.sh / 2 := by simp only [QfX, Int.add_zero]; exact Qrw (by simp [Qa3, h]) (by simp [Qa3, h])
    have z1 : Qa3 x.sh = 512 ∧ x.sh = 9 ∨ Qa3 x.sh = 1024 ∧ x.sh = 10 := by simp [Qa3, h]
    simp (maxSteps := 4000000) (disch := omega) only [rr, aop, cV, cV1, AV.one, Qb, okW, Qd, app, Qa, Qc, Qf, Qe, Qg, simprocAttr, l33, tk, ho, QxK, QwP, e1, ↓e0, h, Qv0, QvZ]
    refine QJ.by (ι := Nat) (fun k => ⟨[(19, .int .i64 k), (18, .agg (ks .i32 x.tp)), (5, .int .i32 (w32 (Qa3 x.sh / 2 + QfX x.tp x.ps k))), (1, .ref 0 1 0)], [⟨t0, 33, 1, Ql x, 0⟩]⟩) (fun k => k ≤ 16) (fun k => 16 - k) 0 (Le.slots (by rw [z0]; simp [Am.look, h, Qa3])) (by omega) ?_
    intro k hk
    by_cases hlt : k < 16
    · have e2 := Qep hx hlt
      have e3 := Qvt (K := .i32) (l := x.tp) (k := k) (by omega)
      have e4 : w32 (w32 (Qa3 x.sh / 2 + QfX x.tp x.ps k) + w32 (x.tp.getD k 0 * x.ps.getD k 0)) = w32 (Qa3 x.sh / 2 + QfX x.tp x.ps (k + 1)) := by
        rw [Qrx]; simp only [QfX]; congr 1; omega
      simp (maxSteps := 4000000) (disch := omega) only [rr, aop, cV, cV1, AV.one, Qb, okW, Qd, app, Qa, Qc, Qf, Qe, Qg, simprocAttr, l33, e2, e3, Qat, e4]
      exact ⟨k + 1, by omega, by omega, Le.slots (by simp [Am.look])⟩
    · have e : k = 16 := by omega
      subst e
      simp (maxSteps := 4000000) (disch := omega) only [rr, aop, cV, cV1, AV.one, Qb, okW, Qd, app, Qa, Qc, Qf, Qe, Qg, simprocAttr, ↓e0, h, QvV, QuF, Qdn, Qa3]
/-! ### taps.Learn, taps.Push -/

theorem Qp5 {P : Prg} {f t0 : Nat} (b : Qj P f 11 [.tmp 2] (Js t0)) : QeJ P f := by
  intro x hx
  have l33 := QB hx
  have ho := QG x
  have e0 : (Ql x).drop 0 = .int .i64 x.sh :: (ks .i32 x.tp ++ ks .i32 x.ps) := rfl
  refine VC.of_acall (by simp [isDL, isD, QP]) rfl (ACall.of_body b (by simp) ?_)
  by_cases h9 : x.sh = 9
  · simp (maxSteps := 4000000) (disch := omega) only [rr, aop, cV, cV1, AV.one, Qb, okW, Qd, app, Qa, Qc, Qf, Qe, Qg, simprocAttr, Js, l33, ho, ↓e0, h9, Quf]
  by_cases h10 : x.sh = 10
  · simp (maxSteps := 4000000) (disch := omega) only [rr, aop, cV, cV1, AV.one, Qb, okW, Qd, app, Qa, Qc, Qf, Qe, Qg, simprocAttr, Js, l33, ho, ↓e0, h10, Quf]
  · simp (maxSteps := 4000000) (disch := omega) only [rr, aop, cV, cV1, AV.one, Qb, okW, Qd, app, Qa, Qc, Qf, Qe, Qg, simprocAttr, Js, l33, ho, ↓e0, Quf]

def QbZ (i : Nat) : Int := if i = 0 then 4 else if i < 4 then 2 else 1
def Qki (P : Prg) (f : Nat) : Prop := ∀ i : Nat, VC P f [.int .i64 i] (.int .i32 (QbZ i))
theorem QrL {P : Prg} {f : Nat} (b : Qj P f 9 [.tmp 2] J0) : Qki P f := by
  intro i
  refine VC.of_acall rfl rfl (ACall.of_body b (by simp) ?_)
  by_cases h0 : i = 0
  · subst h0; simp (maxSteps := 4000000) (disch := omega) only [rr, aop, cV, cV1, AV.one, Qb, okW, Qd, app, Qa, Qc, Qf, Qe, Qg, simprocAttr, J0, QbZ, Int.natCast_zero]
  by_cases h1 : i < 4
  · simp (maxSteps := 4000000) (disch := omega) only [rr, aop, cV, cV1, AV.one, Qb, okW, Qd, app, Qa, Qc, Qf, Qe, Qg, simprocAttr, J0, QbZ, h0]
  · simp (maxSteps := 4000000) (disch := omega) only [rr, aop, cV, cV1, AV.one, Qb, okW, Qd, app, Qa, Qc, Qf, Qe, Qg, simprocAttr, J0, QbZ, h0]

end Go.Am

namespace Go.Am
open Go.RowKit

def sgn (x : Int) : Int := if x < 0 then -1 else if 0 < x then 1 else 0
def Que (x : Jf) (w : Int) (k : Nat) : Int := w32 (x.tp.getD k 0 + QbZ k * sgn (x.ps.getD k 0) * sgn w)
def Jq (x : Jf) (w : Int) (k : Nat) : List Int := (List.range 16).map fun i => if i < k then Que x w i else x.tp.getD i 0
def lf (x : Jf) (w : Int) (k : Nat) : Jf := { x with tp := Jq x w k }
def Jk (x : Jf) (w : Int) : Jf := lf x w 16

theorem Qh6 {l : List Int} (h : l.length = 16) : (List.range 16).map (fun i => l.getD i 0) = l := by
  apply List.ext_getElem (by simp [h])
  intro i h1 h2
  simp [List.getD_eq_getElem?_getD, List.getElem?_eq_getElem h2]
theorem QsN (x : Jf) (w : Int) (k : Nat) : (Jq x w k).length = 16 := by simp [Jq]
theorem QeX {x : Jf} (h : QaK x) (w : Int) : Jq x w 0 = x.tp := by
  have := Qh6 h.1
  simpa [Jq] using this
theorem Qic (x : Jf) (w : Int) {k : Nat} (hk : k < 16) : (Jq x w k).getD k 0 = x.tp.getD k 0 := by
  simp [Jq, List.getD_eq_getElem?_getD, hk]
theorem QlW (x : Jf) (w : Int) {k : Nat} (hk : k < 16) : (Jq x w k).set k (Que x w k) = Jq x w (k + 1) := by
  apply List.ext_getElem (by simp [Jq])
  intro i h1 h2
  rw [List.getElem_set]
  simp only [Jq, List.getElem_map, List.getElem_range]
  by_cases e : k = i
  · subst e; simp
  · rw [if_neg e]
    by_cases h : i < k
    · rw [if_pos h, if_pos (by omega)]
    · rw [if_neg h, if_neg (by omega)]
theorem Qib (x : Jf) (w : Int) {k : Nat} (h : Que x w k = x.tp.getD k 0) : Jq x w (k + 1) = Jq x w k := by
  simp only [Jq]
  apply List.map_congr_left
  intro i _
  by_cases e : i = k
  · subst e; simp [h]
  · by_cases h : i < k
    · rw [if_pos h, if_pos (by omega)]
    · rw [if_neg h, if_neg (by omega)]
theorem Quc {x : Jf} (h : QaK x) (w : Int) (k : Nat) : I32 (Jq x w k) := by
  intro v hv
  simp only [Jq, List.mem_map] at hv
  obtain ⟨i, _, rfl⟩ := hv
  split
  · exact X6 _
  · exact Zf h.2.2.1 i
theorem Qgj {x : Jf} (h : QaK x) (w : Int) (k : Nat) : QaK (lf x w k) := ⟨QsN x w k, h.2.1, Quc h w k, h.2.2.2⟩
theorem QcD {x : Jf} (h : QaK x) (w : Int) : QaK (Jk x w) := Qgj h w 16
theorem QuZ {x : Jf} (h : QaK x) : Jk x 0 = x := by
  have key : ∀ k, Jq x 0 k = x.tp := fun k => by
    induction k with
    | zero => exact QeX h 0
    | succ k ih =>
      rw [Qib x 0, ih]
      have := Zf h.2.2.1 k
      simp only [Que, sgn]
      simp
      exact Qrw (by simpa using this.1) (by simpa using this.2)
  simp [Jk, lf, key]

def Qkj (P : Prg) (f : Nat) : Prop := ∀ (x : Jf) (w : Int), QaK x → x.sh = 9 ∨ x.sh = 10 → VC P f [.agg (Ql x), .int .i32 w] (.tup [.agg (Ql (Jk x w)), .int .i64 0])

theorem QrK {s : Int} (h : s = 9 ∨ s = 10) : Quf s = 0 := by simp [Quf, h]

theorem Qp3 {P : Prg} {f fC fS t0 : Nat} (b : Qj P f 53 [.cell 4 t0, .tmp 5] (QbK fC fS t0)) (ht : Q4 P t0 = some (some 33)) (hC : QeJ P fC) (hS : Qki P fS) : Qkj P f := by
  intro x w hx hs
  have l33 := QB hx
  have tk : (Ql x).take 33 = Ql x := Qn (by omega)
  have ho := QG x
  have hc := QrK hs
  have pp := Qih hx
  have lw := QB (QcD hx w)
  have tkw : (Ql (Jk x w)).take 33 = Ql (Jk x w) := Qn (by omega)
  have how := QG (Jk x w)
  refine VC.of_acall (by simp [isDL, isD, QP]) (by simp [isD, isDL, QP]) (ACall.of_body b (by simp) ?_)
  simp (maxSteps := 4000000) (disch := omega) only [rr, aop, cV, cV1, AV.one, Qb, okW, Qd, app, Qa, Qc, Qf, Qe, Qg, simprocAttr, QbK, l33, tk, ho]
  refine Qh.vc (hC x hx) ?_
  by_cases hw : w = 0
  · subst hw
    have e := QuZ hx
    simp (maxSteps := 4000000) (disch := omega) only [rr, aop, cV, cV1, AV.one, Qb, okW, Qd, app, Qa, Qc, Qf, Qe, Qg, simprocAttr, l33, tk, ho, hc, ZK, ht, e]
  simp (maxSteps := 4000000) (disch := omega) only [rr, aop, cV, cV1, AV.one, Qb, okW, Qd, app, Qa, Qc, Qf, Qe, Qg, simprocAttr, l33, tk, ho, hc, pp]
  refine QJ.by (ι := Nat) (fun k => ⟨[(20, .int .i64 k), (19, .agg (ks .i32 x.ps)), (4, .ref 1 1 0), (2, .ref 0 1 0), (1, .int .i32 w), (5, .int .i64 0)], [⟨t0, 33, 1, Ql (lf x w k), 0⟩, ⟨t0, 33, 1, Ql Qhp, 0⟩]⟩) (fun k => k ≤ 16) (fun k => 16 - k) 0 (by rw [show lf x w 0 = x by simp [lf, QeX hx]]; exact Le.slots (by simp [Am.look])) (by omega) ?_
  intro k hk
  by_cases hlt : k < 16
  · have hok := Qgj hx w k
    have e1 := Qvt (K := .i32) (l := x.ps) (k := k) (by have := hx.2.1; omega)
    have e2 := Qjt hok hlt
    have e3 := fun v => Qgz hok hlt v
    have e4 := Qic x w hlt
    have e5 := QB hok
    have hu := QlW x w hlt
    have hp := Zf hx.2.2.2 k
    have htp := Zf hx.2.2.1 k
    have ef : ∀ v, ({ lf x w k with tp := (lf x w k).tp.set k v } : Jf) = { x with tp := (Jq x w k).set k v } := fun _ => rfl
    have e7 : (lf x w k).tp.getD k 0 = x.tp.getD k 0 := e4
    by_cases p0 : x.ps.getD k 0 = 0
    · have e6 := Qib x w (k := k) (by simp only [Que, p0, sgn]; simp; exact Qrw (by simpa using htp.1) (by simpa using htp.2))
      simp (maxSteps := 4000000) (disch := omega) only [rr, aop, cV, cV1, AV.one, Qb, okW, Qd, app, Qa, Qc, Qf, Qe, Qg, simprocAttr, e1, p0]
      exact ⟨k + 1, by omega, by omega, by rw [show lf x w (k + 1) = lf x w k by simp [lf, e6]]; exact Le.slots (by simp [Am.look])⟩
    · by_cases hsame : (x.ps.getD k 0 < 0 ↔ w < 0)
      · have e6 : Que x w k = w32 (x.tp.getD k 0 + QbZ k) := by
          simp only [Que, sgn]; congr 1
          by_cases q : w < 0
          · rw [if_pos q, if_pos (hsame.2 q)]; omega
          · rw [if_neg q, if_neg (fun h => q (hsame.1 h)), if_pos (by omega), if_pos (by omega)]; omega
        rw [e6] at hu
        by_cases q : w < 0
        · have q2 := hsame.2 q
          simp (maxSteps := 4000000) (disch := omega) only [rr, aop, cV, cV1, AV.one, Qb, okW, Qd, app, Qa, Qc, Qf, Qe, Qg, simprocAttr, e1, e2, e7]
          refine Q2.vc (hS k) ?_
          simp (maxSteps := 4000000) (disch := omega) only [rr, aop, cV, cV1, AV.one, Qb, okW, Qd, app, Qa, Qc, Qf, Qe, Qg, simprocAttr, e3, e5, Qat, ef, hu]
          exact ⟨k + 1, by omega, by omega, Le.slots (by simp [Am.look])⟩
        · have q2 : ¬ x.ps.getD k 0 < 0 := fun h => q (hsame.1 h)
          simp (maxSteps := 4000000) (disch := omega) only [rr, aop, cV, cV1, AV.one, Qb, okW, Qd, app, Qa, Qc, Qf, Qe, Qg, simprocAttr, e1, e2, e7]
          refine Q2.vc (hS k) ?_
          simp (maxSteps := 4000000) (disch := omega) only [rr, aop, cV, cV1, AV.one, Qb, okW, Qd, app, Qa, Qc, Qf, Qe, Qg, simprocAttr, e3, e5, Qat, ef, hu]
          exact ⟨k + 1, by omega, by omega, Le.slots (by simp [Am.look])⟩
      · have e6 : Que x w k = w32 (x.tp.getD k 0 - QbZ k) := by
          simp only [Que, sgn]; congr 1
          by_cases q : w < 0
          · rw [if_pos q, if_neg (fun h => hsame ⟨fun _ => q, fun _ => h⟩), if_pos (by omega)]; omega
          · rw [if_neg q, if_pos (Classical.byContradiction fun h => hsame ⟨fun h' => absurd h' h, fun h' => absurd h' q⟩), if_pos (by omega)]; omega
        rw [e6] at hu
        by_cases q : w < 0
        · have q2 : ¬ x.ps.getD k 0 < 0 := fun h => hsame ⟨fun _ => q, fun _ => h⟩
          simp (maxSteps := 4000000) (disch := omega) only [rr, aop, cV, cV1, AV.one, Qb, okW, Qd, app, Qa, Qc, Qf, Qe, Qg, simprocAttr, e1, e2, e7]
          refine Q2.vc (hS k) ?_
          simp (maxSteps := 4000000) (disch := omega) only [rr, aop, cV, cV1, AV.one, Qb, okW, Qd, app, Qa, Qc, Qf, Qe, Qg, simprocAttr, e3, e5, Qat, ef, hu]
          exact ⟨k + 1, by omega, by omega, Le.slots (by simp [Am.look])⟩
        · have q2 : x.ps.getD k 0 < 0 := Classical.byContradiction fun h => hsame ⟨fun h' => absurd h' h, fun h' => absurd h' q⟩
          simp (maxSteps := 4000000) (disch := omega) only [rr, aop, cV, cV1, AV.one, Qb, okW, Qd, app, Qa, Qc, Qf, Qe, Qg, simprocAttr, e1, e2, e7]
          refine Q2.vc (hS k) ?_
          simp (maxSteps := 4000000) (disch := omega) only [rr, aop, cV, cV1, AV.one, Qb, okW, Qd, app, Qa, Qc, Qf, Qe, Qg, simprocAttr, e3, e5, Qat, ef, hu]
          exact ⟨k + 1, by omega, by omega, Le.slots (by simp [Am.look])⟩
  · have e : k = 16 := by omega
    subst e
    have hF : lf x w 16 = Jk x w := rfl
    rw [hF]
    simp (maxSteps := 4000000) (disch := omega) only [rr, aop, cV, cV1, AV.one, Qb, okW, Qd, app, Qa, Qc, Qf, Qe, Qg, simprocAttr, lw, tkw, how, ZK, ht, Jn]
/-! ### taps.Push -/

def QcX (x : Jf) (v : Int) : Jf := { x with ps := v :: x.ps.take 15 }
theorem QnN {x : Jf} (h : QaK x) {v : Int} (hv : -2147483648 ≤ v ∧ v ≤ 2147483647) : QaK (QcX x v) := by
  obtain ⟨h1, h2, h3, h4⟩ := h
  refine ⟨h1, by simp [QcX, h2], h3, fun y hy => ?_⟩
  simp only [QcX, List.mem_cons] at hy
  rcases hy with rfl | hy
  · exact hv
  · exact h4 y (List.mem_of_mem_take hy)

def QoI (P : Prg) (f : Nat) : Prop := ∀ (x : Jf) (v : Int), QaK x → x.sh = 9 ∨ x.sh = 10 → VC P f [.agg (Ql x), .int .i32 v] (.tup [.agg (Ql (QcX x v)), .int .i64 0])

theorem QrM {P : Prg} {f fC t0 : Nat} (b : Qj P f 22 [.cell 4 t0, .tmp 5] (Qcs fC t0)) (ht : Q4 P t0 = some (some 33)) (hC : QeJ P fC) : QoI P f := by
  intro x v hx hs
  have l33 := QB hx
  have tk : (Ql x).take 33 = Ql x := Qn (by omega)
  have ho := QG x
  have hc := QrK hs
  have pp := Qih hx
  have h16 : (ks .i32 x.ps).length = 16 := by simp [Qk, hx.2.1]
  have o16 := XA .i32 x.ps
  refine VC.of_acall (by simp [isDL, isD, QP]) (by simp [isD, isDL, QP]) (ACall.of_body b (by simp) ?_)
  simp (maxSteps := 4000000) (disch := omega) only [rr, aop, cV, cV1, AV.one, Qb, okW, Qd, app, Qa, Qc, Qf, Qe, Qg, simprocAttr, Qcs, l33, tk, ho]
  refine Qh.vc (hC x hx) ?_
  have hm : Nat.min 16 15 = 15 := rfl
  let y : Jf := { x with ps := x.ps.getD 0 0 :: x.ps.take 15 }
  have hy : QaK y := QnN hx (Zf hx.2.2.2 0)
  have hcp : (Ql x).take 18 ++ (ks .i32 x.ps).take 15 ++ (Ql x).drop 33 = Ql y := by
    have e1 : (Ql x).drop 33 = [] := List.drop_eq_nil_of_le (by omega)
    have e2 : (ks .i32 x.tp).length = 16 := by simp [Qk, hx.1]
    have e3 : (ks .i32 x.ps).take 1 = [.int .i32 (x.ps.getD 0 0)] := by
      have h1 : 0 < x.ps.length := by have := hx.2.1; omega
      match hps : x.ps, h1 with
      | a :: l, _ => rfl
    rw [e1, List.append_nil]
    simp only [Ql, List.take_succ_cons, List.cons_append, y]
    congr 1
    rw [List.take_append, List.take_of_length_le (by omega), e2, e3, List.append_assoc, QnS]
    rfl
  have hset : (Ql y).take 17 ++ [.int .i32 v] ++ (Ql y).drop 18 = Ql (QcX x v) := Qce hy (k := 0) (by omega) v
  have ly := QB hy
  have lp : (Ql (QcX x v)).length = 33 := by rw [← hset]; simp [ly]
  have tkp : (Ql (QcX x v)).take 33 = Ql (QcX x v) := Qn (by omega)
  have op := QG (QcX x v)
  simp (maxSteps := 4000000) (disch := omega) only [rr, aop, cV, cV1, AV.one, Qb, okW, Qd, app, Qa, Qc, Qf, Qe, Qg, simprocAttr, l33, tk, ho, hc, pp, h16, o16, hm, hcp, hset, ly, lp, tkp, op, ZK, ht, Jn]
end Go.Am

namespace Go.Am
open Go.RowKit

def Qa4 (x : Jf) (v y : Int) : Jf := QcX (Jk x y) v
theorem Qei {x : Jf} (h : QaK x) {v : Int} (hv : -2147483648 ≤ v ∧ v ≤ 2147483647) (y : Int) : QaK (Qa4 x v y) := QnN (QcD h y) hv
def Qha (P : Prg) (f : Nat) : Prop := ∀ (x : Jf) (v y : Int), QaK x → x.sh = 9 ∨ x.sh = 10 → -2147483648 ≤ v ∧ v ≤ 2147483647 → VC P f [.agg (Ql x), .int .i32 v, .int .i32 y] (.agg (Ql (Qa4 x v y)))

theorem QqI {P : Prg} {f fL fP t0 : Nat} (b : Qj P f 20 [.cell 6 t0] (QbM fL fP t0)) (ht : Q4 P t0 = some (some 33)) (hL : Qkj P fL) (hP : QoI P fP) : Qha P f := by
  intro x v y hx hs hv
  have l1 := QB hx
  have t1 : (Ql x).take 33 = Ql x := Qn (by omega)
  have o1 := QG x
  have l2 := QB (QcD hx y)
  have t2 : (Ql (Jk x y)).take 33 = Ql (Jk x y) := Qn (by omega)
  have o2 := QG (Jk x y)
  have l3 := QB (Qei hx hv y)
  have t3 : (Ql (Qa4 x v y)).take 33 = Ql (Qa4 x v y) := Qn (by omega)
  have o3 := QG (Qa4 x v y)
  have d1 : (Ql x).drop 33 = [] := List.drop_eq_nil_of_le (by omega)
  have d2 : (Ql (Jk x y)).drop 33 = [] := List.drop_eq_nil_of_le (by omega)
  refine VC.of_acall (by simp [isDL, isD, QP]) (by simp [isD, QP]) (ACall.of_body b (by simp) ?_)
  simp (maxSteps := 4000000) (disch := omega) only [rr, aop, cV, cV1, AV.one, Qb, okW, Qd, app, Qa, Qc, Qf, Qe, Qg, simprocAttr, QbM, l1, t1, o1]
  refine Qh.vc (hL x y hx hs) ?_
  simp (maxSteps := 4000000) (disch := omega) only [rr, aop, cV, cV1, AV.one, Qb, okW, Qd, app, Qa, Qc, Qf, Qe, Qg, simprocAttr, l1, t1, o1, l2, t2, o2, d1]
  refine Qh.vc (hP (Jk x y) v (QcD hx y) hs) ?_
  rw [← Qa4]
  simp (maxSteps := 4000000) (disch := omega) only [rr, aop, cV, cV1, AV.one, Qb, okW, Qd, app, Qa, Qc, Qf, Qe, Qg, simprocAttr, l1, t1, o1, l2, t2, o2, l3, t3, o3, d1, d2, ZK, ht, Jn]

def QmO (x : Jf) (v : Int) : Int := w32 (v - Qdn x)
def Qro (x : Jf) (v : Int) : Jf := Qa4 x v (QmO x v)
def Qfj (P : Prg) (f : Nat) : Prop := ∀ (x : Jf) (v : Int), QaK x → x.sh = 9 ∨ x.sh = 10 → -2147483648 ≤ v ∧ v ≤ 2147483647 → VC P f [.agg (Ql x), .int .i32 v] (.tup [.int .i32 (QmO x v), .agg (Ql (Qro x v)), .int .i64 0])

theorem QnP {P : Prg} {f fG fB t0 : Nat} (b : Qj P f 27 [.tmp 4, .cell 5 t0, .tmp 6] (Qa8 fG fB t0)) (ht : Q4 P t0 = some (some 33)) (hG : Qkk P fG) (hB : Qha P fB) : Qfj P f := by
  intro x v hx hs hv
  have l1 := QB hx
  have t1 : (Ql x).take 33 = Ql x := Qn (by omega)
  have o1 := QG x
  have l3 := QB (Qei hx hv (QmO x v))
  have t3 : (Ql (Qa4 x v (QmO x v))).take 33 = Ql (Qa4 x v (QmO x v)) := Qn (by omega)
  have o3 := QG (Qa4 x v (QmO x v))
  refine VC.of_acall (by simp [isDL, isD, QP]) (by simp [isD, isDL, QP]) (ACall.of_body b (by simp) ?_)
  simp (maxSteps := 4000000) (disch := omega) only [rr, aop, cV, cV1, AV.one, Qb, okW, Qd, app, Qa, Qc, Qf, Qe, Qg, simprocAttr, Qa8, l1, t1, o1]
  refine Qh.vc (hG x hx hs) ?_
  simp (maxSteps := 4000000) (disch := omega) only [rr, aop, cV, cV1, AV.one, Qb, okW, Qd, app, Qa, Qc, Qf, Qe, Qg, simprocAttr, l1, t1, o1, Qat]
  refine Qh.vc (hB x v (QmO x v) hx hs hv) ?_
  simp only [QmO] at l3 t3 o3
  simp (maxSteps := 4000000) (disch := omega) only [rr, aop, cV, cV1, AV.one, Qb, okW, Qd, app, Qa, Qc, Qf, Qe, Qg, simprocAttr, l1, t1, o1, l3, t3, o3, ZK, ht, Jn, Qro, QmO]

/-! ### first -/

def Z8 (b last : Int) : Int := if b = 8 then 15 * last / 16 else 31 * last / 32
theorem Qe2 (b : Int) {l : Int} (h : -2147483648 ≤ l ∧ l ≤ 2147483647) : -2147483648 ≤ Z8 b l ∧ Z8 b l ≤ 2147483647 := by unfold Z8; split <;> omega

def Qkz (P : Prg) (f : Nat) : Prop := ∀ b : Int, Qaf b ≠ 0 → VC P f [.int .i64 b] (.tup [.int .i64 (if b = 8 then 4 else 5), .int .i64 0])
theorem Qn0 {P : Prg} {f : Nat} (b : Qj P f 10 [.tmp 2, .tmp 3] X2) : Qkz P f := by
  intro x hx
  refine VC.of_acall rfl rfl (ACall.of_body b (by simp) ?_)
  rcases ZW x with ⟨rfl, h⟩ | ⟨rfl, h⟩ | ⟨rfl, h⟩ | ⟨h2, h3, h4, h⟩
  · simp (maxSteps := 4000000) (disch := omega) only [rr, aop, cV, cV1, AV.one, Qb, okW, Qd, app, Qa, Qc, Qf, Qe, Qg, simprocAttr, X2]
  · simp (maxSteps := 4000000) (disch := omega) only [rr, aop, cV, cV1, AV.one, Qb, okW, Qd, app, Qa, Qc, Qf, Qe, Qg, simprocAttr, X2]
  · simp (maxSteps := 4000000) (disch := omega) only [rr, aop, cV, cV1, AV.one, Qb, okW, Qd, app, Qa, Qc, Qf, Qe, Qg, simprocAttr, X2]
  · exact absurd h hx

theorem QvY {x : Int} (h : -2147483648 ≤ x ∧ x ≤ 2147483647) : Qs true .i64 x 4 = some (.int .i64 (x * 16)) := by
  show some (AV.int .i64 (IntKind.i64.wrap (x * 16))) = _
  rw [QaP (by omega) (by omega)]
theorem QvX {x : Int} (h : -2147483648 ≤ x ∧ x ≤ 2147483647) : Qs true .i64 x 5 = some (.int .i64 (x * 32)) := by
  show some (AV.int .i64 (IntKind.i64.wrap (x * 32))) = _
  rw [QaP (by omega) (by omega)]
theorem QvU (x : Int) : Qs false .i64 x 4 = some (.int .i64 (x / 16)) := by
  show some (AV.int .i64 (x.fdiv 16)) = _
  rw [Int.fdiv_eq_ediv_of_nonneg _ (by omega)]
theorem QvT (x : Int) : Qs false .i64 x 5 = some (.int .i64 (x / 32)) := by
  show some (AV.int .i64 (x.fdiv 32)) = _
  rw [Int.fdiv_eq_ediv_of_nonneg _ (by omega)]

def Qky (P : Prg) (f : Nat) : Prop := ∀ (b l : Int), -2147483648 ≤ l ∧ l ≤ 2147483647 → VC P f [.int .i64 (if b = 8 then 4 else 5), .int .i32 l] (.int .i32 (Z8 b l))
theorem QnZ {P : Prg} {f : Nat} (b : Qj P f 16 [.tmp 4] JS) : Qky P f := by
  intro x l hl
  refine VC.of_acall rfl rfl (ACall.of_body b (by simp) ?_)
  have e1 : l * 16 - l = 15 * l := by omega
  have e2 : l * 32 - l = 31 * l := by omega
  have a := QvY hl
  have c := QvX hl
  by_cases h : x = 8
  · simp (maxSteps := 4000000) (disch := omega) only [rr, aop, cV, cV1, AV.one, Qb, okW, Qd, app, Qa, Qc, Qf, Qe, Qg, simprocAttr, JS, h, Z8, a, QvU, e1]
  · simp (maxSteps := 4000000) (disch := omega) only [rr, aop, cV, cV1, AV.one, Qb, okW, Qd, app, Qa, Qc, Qf, Qe, Qg, simprocAttr, JS, if_neg h, Z8, c, QvT, e2]

def QkA (P : Prg) (f : Nat) : Prop := ∀ (b l : Int), Qaf b ≠ 0 → -2147483648 ≤ l ∧ l ≤ 2147483647 → VC P f [.int .i64 b, .int .i32 l] (.tup [.int .i32 (Z8 b l), .int .i64 0])
theorem Qn1 {P : Prg} {f fS fg : Nat} (b : Qj P f 19 [.tmp 4, .tmp 5] (Qba fS fg)) (hS : Qkz P fS) (hg : Qky P fg) : QkA P f := by
  intro x l hx hl
  refine VC.of_acall rfl rfl (ACall.of_body b (by simp) ?_)
  simp (maxSteps := 4000000) (disch := omega) only [rr, aop, cV, cV1, AV.one, Qb, okW, Qd, app, Qa, Qc, Qf, Qe, Qg, simprocAttr, Qba]
  refine Qh.vc (hS x hx) ?_
  simp (maxSteps := 4000000) (disch := omega) only [rr, aop, cV, cV1, AV.one, Qb, okW, Qd, app, Qa, Qc, Qf, Qe, Qg, simprocAttr]
  refine Qh.vc (hg x l hl) ?_
  simp (maxSteps := 4000000) (disch := omega) only [rr, aop, cV, cV1, AV.one, Qb, okW, Qd, app, Qa, Qc, Qf, Qe, Qg, simprocAttr]
/-! ### chain -/

structure JE where
  bits : Int
  last : Int
  fl : Jf

def QR (c : JE) : List AV := .int .i64 c.bits :: .int .i32 c.last :: Ql c.fl
def Quh (c : JE) : Prop := Qaf c.bits ≠ 0 ∧ c.fl.sh = J4 c.bits ∧ QaK c.fl ∧ (-2147483648 ≤ c.last ∧ c.last ≤ 2147483647)
def QcT : JE := ⟨0, 0, Qhp⟩

theorem Zg {c : JE} (h : QaK c.fl) : (QR c).length = 35 := by simp [QR, QB h]
theorem Zy (c : JE) : (QR c).all AV.one = true := by simp [QR, AV.one, QG]
theorem Qaz (c : JE) : isDL (QR c) = true := by simp [QR, isDL, isD, QP]
theorem Qo8 (b : Int) : J4 b = 9 ∨ J4 b = 10 := by unfold J4; split <;> simp
theorem Qpj {b : Int} {t : List Int} (h1 : t.length = 16) (h2 : I32 t) : QaK (QeV b t) := ⟨h1, by simp [QeV, z16], h2, fun x hx => by simp [QeV, z16] at hx; omega⟩
theorem QaO : QR QcT = [.int .i64 0, .int .i32 0, .int .i64 0, .int .i32 0, .int .i32 0, .int .i32 0, .int .i32 0, .int .i32 0, .int .i32 0, .int .i32 0, .int .i32 0, .int .i32 0, .int .i32 0, .int .i32 0, .int .i32 0, .int .i32 0, .int .i32 0, .int .i32 0, .int .i32 0, .int .i32 0, .int .i32 0, .int .i32 0, .int .i32 0, .int .i32 0, .int .i32 0, .int .i32 0, .int .i32 0, .int .i32 0, .int .i32 0, .int .i32 0, .int .i32 0, .int .i32 0, .int .i32 0, .int .i32 0, .int .i32 0] := rfl

def JO (b : Int) (t : List Int) : JE := ⟨b, 0, QeV b t⟩
def QjK (b : Int) (t : List Int) : AV := if Qaf b = 0 then .tup [.agg (QR QcT), .int .i64 2] else .tup [.agg (QR (JO b t)), .int .i64 0]
def Qit (P : Prg) (f : Nat) : Prop := ∀ (b : Int) (t : List Int), t.length = 16 → I32 t → VC P f [.int .i64 b, .agg (ks .i32 t)] (QjK b t)
theorem Qpy (b : Int) (t : List Int) : isD (QjK b t) = true := by unfold QjK; split <;> simp [isD, isDL, Qaz]

theorem Qtv {P : Prg} {f fT t0 t1 t2 : Nat} (b : Qj P f 21 [.cell 4 t1, .tmp 5] (Qcv fT t0 t1 t2)) (ht : Q4 P t1 = some (some 35)) (hT : QgU P fT) : Qit P f := by
  intro x t hl hI
  have hk : (ks .i32 t).length = 16 := by simp [Qk, hl]
  have h1 := XA .i32 t
  have tk16 : (ks .i32 t).take 16 = ks .i32 t := Qn (by omega)
  have hok : QaK (QeV x t) := Qpj hl hI
  have l1 := QB hok
  have t1' : (Ql (QeV x t)).take 33 = Ql (QeV x t) := Qn (by omega)
  have o1 := QG (QeV x t)
  have lc := Zg (c := JO x t) hok
  have tc : (QR (JO x t)).take 35 = QR (JO x t) := Qn (by omega)
  have oc := Zy (JO x t)
  have mk : AV.int .i64 x :: .int .i32 0 :: Ql (QeV x t) = QR (JO x t) := rfl
  refine VC.of_acall (by simp [isDL, isD, QM]) (Qpy _ _) (ACall.of_body b (by simp) ?_)
  simp (maxSteps := 4000000) (disch := omega) only [rr, aop, cV, cV1, AV.one, Qb, okW, Qd, app, Qa, Qc, Qf, Qe, Qg, simprocAttr, Qcv, hk, h1, tk16]
  refine Qh.vc (hT x t hl) ?_
  by_cases h0 : Qaf x = 0
  · simp (maxSteps := 4000000) (disch := omega) only [rr, aop, cV, cV1, AV.one, Qb, okW, Qd, app, Qa, Qc, Qf, Qe, Qg, simprocAttr, QcU, h0, QjK, Jn, QaO, ZK, ht]
  · simp (maxSteps := 4000000) (disch := omega) only [rr, aop, cV, cV1, AV.one, Qb, okW, Qd, app, Qa, Qc, Qf, Qe, Qg, simprocAttr, QcU, if_neg h0, QjK, l1, t1', o1, lc, tc, oc, mk, QaO, ZK, ht]

theorem Qtt {c : JE} (h : QaK c.fl) : ((QR c).drop 2).take 33 = Ql c.fl := by
  simp only [QR, List.drop_succ_cons, List.drop_zero]
  exact Qn (by rw [QB h]; omega)
theorem Qts {c : JE} (h : QaK c.fl) : ((QR c).drop 3).take 16 = ks .i32 c.fl.tp := Ql8 h

def QkF (P : Prg) (f : Nat) : Prop := ∀ c : JE, Quh c → VC P f [.agg (QR c)] (.int .i64 0)
theorem Qom {P : Prg} {f fT t0 t1 : Nat} (b : Qj P f 24 [.tmp 2] (Qbg fT t0 t1)) (hT : QgU P fT) : QkF P f := by
  intro c ⟨h1, h2, h3, h4⟩
  have lc := Zg h3
  have oc := Zy c
  have e0 : (QR c).drop 0 = .int .i64 c.bits :: .int .i32 c.last :: Ql c.fl := rfl
  have e2 : (QR c).drop 2 = .int .i64 c.fl.sh :: (ks .i32 c.fl.tp ++ ks .i32 c.fl.ps) := rfl
  have et := Qts h3
  have hk : (ks .i32 c.fl.tp).length = 16 := by simp [Qk, h3.1]
  have hok : QaK (QeV c.bits c.fl.tp) := Qpj h3.1 h3.2.2.1
  have l1 := QB hok
  have t1' : (Ql (QeV c.bits c.fl.tp)).take 33 = Ql (QeV c.bits c.fl.tp) := Qn (by omega)
  have o1 := QG (QeV c.bits c.fl.tp)
  have en : (Ql (QeV c.bits c.fl.tp)).drop 0 = .int .i64 (J4 c.bits) :: (ks .i32 c.fl.tp ++ ks .i32 z16) := rfl
  have dn : (Ql (QeV c.bits c.fl.tp)).drop 33 = [] := List.drop_eq_nil_of_le (by omega)
  refine VC.of_acall (by simp [isDL, isD, Qaz]) rfl (ACall.of_body b (by simp) ?_)
  simp (maxSteps := 4000000) (disch := omega) only [rr, aop, cV, cV1, AV.one, Qb, okW, Qd, app, Qa, Qc, Qf, Qe, Qg, simprocAttr, Qbg, lc, oc, ↓e0, et]
  refine Qh.vc (hT c.bits c.fl.tp h3.1) ?_
  simp (maxSteps := 4000000) (disch := omega) only [rr, aop, cV, cV1, AV.one, Qb, okW, Qd, app, Qa, Qc, Qf, Qe, Qg, simprocAttr, QcU, if_neg h1, l1, t1', o1, ↓en, ↓e2, h2, dn]

def Qon (c : JE) (x : Int) : Int := w32 (x - Z8 c.bits c.last)
def QgG (c : JE) (x : Int) : Int := QmO c.fl (Qon c x)
def Jm (c : JE) (x : Int) : JE := ⟨c.bits, x, Qro c.fl (Qon c x)⟩
theorem Qjj {c : JE} (h : Quh c) {x : Int} (hx : -2147483648 ≤ x ∧ x ≤ 2147483647) : Quh (Jm c x) := ⟨h.1, h.2.1, Qei h.2.2.1 (X6 _) _, hx⟩

def Qfm (P : Prg) (f : Nat) : Prop := ∀ (c : JE) (x : Int), Quh c → -2147483648 ≤ x ∧ x ≤ 2147483647 → VC P f [.agg (QR c), .int .i32 x] (.tup [.int .i32 (QgG c x), .agg (QR (Jm c x)), .int .i64 0])

theorem QjM {P : Prg} {f fC fG fF t0 t1 : Nat} (b : Qj P f 44 [.tmp 4, .cell 5 t0, .tmp 6] (Qad fC fG fF t0 t1)) (ht : Q4 P t0 = some (some 35)) (hC : QkF P fC) (hG : QkA P fG) (hF : Qfj P fF) : Qfm P f := by
  intro c x hc hx
  obtain ⟨h1, h2, h3, h4⟩ := id hc
  have hs : c.fl.sh = 9 ∨ c.fl.sh = 10 := by rw [h2]; exact Qo8 _
  have lc := Zg h3
  have tc : (QR c).take 35 = QR c := Qn (by omega)
  have oc := Zy c
  have e0 : (QR c).drop 0 = .int .i64 c.bits :: .int .i32 c.last :: Ql c.fl := rfl
  have e1 : (QR c).drop 1 = .int .i32 c.last :: Ql c.fl := rfl
  have e2 := Qtt h3
  have hzr := X6 (x - Z8 c.bits c.last)
  have hok := Qjj hc hx
  have l1 := QB hok.2.2.1
  have t1' : (Ql (Jm c x).fl).take 33 = Ql (Jm c x).fl := Qn (by omega)
  have o1 := QG (Jm c x).fl
  have d1 : (Ql (Jm c x).fl).drop 33 = [] := List.drop_eq_nil_of_le (by omega)
  have l2 := Zg hok.2.2.1
  have t2 : (QR (Jm c x)).take 35 = QR (Jm c x) := Qn (by omega)
  have o2 := Zy (Jm c x)
  have mk : AV.int .i64 c.bits :: .int .i32 x :: Ql (Jm c x).fl = QR (Jm c x) := rfl
  have hfe : Qro c.fl (w32 (x - Z8 c.bits c.last)) = (Jm c x).fl := rfl
  have hye : QmO c.fl (w32 (x - Z8 c.bits c.last)) = QgG c x := rfl
  refine VC.of_acall (by simp [isDL, isD, Qaz]) (by simp [isD, isDL, Qaz]) (ACall.of_body b (by simp) ?_)
  simp (maxSteps := 4000000) (disch := omega) only [rr, aop, cV, cV1, AV.one, Qb, okW, Qd, app, Qa, Qc, Qf, Qe, Qg, simprocAttr, Qad, lc, tc, oc]
  refine Qh.vc (hC c hc) ?_
  simp (maxSteps := 4000000) (disch := omega) only [rr, aop, cV, cV1, AV.one, Qb, okW, Qd, app, Qa, Qc, Qf, Qe, Qg, simprocAttr, lc, tc, oc, ↓e0, ↓e1]
  refine Qh.vc (hG c.bits c.last h1 h4) ?_
  simp (maxSteps := 4000000) (disch := omega) only [rr, aop, cV, cV1, AV.one, Qb, okW, Qd, app, Qa, Qc, Qf, Qe, Qg, simprocAttr, lc, tc, oc, e2, Qat]
  refine Qh.vc (hF c.fl _ h3 hs hzr) ?_
  rw [hfe, hye]
  simp (maxSteps := 4000000) (disch := omega) only [rr, aop, cV, cV1, AV.one, Qb, okW, Qd, app, Qa, Qc, Qf, Qe, Qg, simprocAttr, lc, tc, oc, ↓e0, l1, t1', o1, d1, l2, t2, o2, mk, ZK, ht, QaO]
end Go.Am

namespace Go.Am
open Go.RowKit

/-! ### chain.Back -/

/-! ### The references -/

def QgT (P : Prg) (f : Nat) : Prop := ∀ x : Int, VC P f [.int .i64 x] (.int .i32 (w32 x))
theorem Qqw {P : Prg} {f : Nat} (b : Qj P f 7 [.tmp 2] XL) : QgT P f := by
  intro x
  have e : IntKind.i32.wrap (IntKind.u32.wrap (IntKind.u64.wrap x)) = w32 x := by
    rw [ZH, JU, Qat, QkO, QkO]; omega
  refine VC.of_acall rfl rfl (ACall.of_body b (by simp) ?_)
  simp (maxSteps := 4000000) (disch := omega) only [rr, aop, cV, cV1, AV.one, Qb, okW, Qd, app, Qa, Qc, Qf, Qe, Qg, simprocAttr, XL, e]

theorem Qcb {x : Int} (h : x < 0) (n : Int) : x.tdiv n = -(-x / n) ∧ x.tmod n = -(-x % n) := by
  have e : x = -(-x) := by omega
  constructor
  · rw [e, Int.neg_tdiv, Int.tdiv_eq_ediv_of_nonneg (by omega)]; simp
  · rw [e, Int.neg_tmod, Int.tmod_eq_emod_of_nonneg (by omega)]; simp

def QkG (P : Prg) (f : Nat) : Prop := ∀ (b l : Int), -2147483648 ≤ l ∧ l ≤ 2147483647 → VC P f [.int .i64 (if b = 8 then 4 else 5), .int .i32 l] (.int .i32 (Z8 b l))
theorem QlK {P : Prg} {f : Nat} (b : Qj P f 26 [.tmp 4] Qw) : QkG P f := by
  intro x l hl
  have hr := Qe2 x hl
  refine VC.of_acall rfl rfl (ACall.of_body b (by simp) ?_)
  by_cases hn : l < 0
  · have e1 := Qcb (x := 15 * l) (by omega) 16
    have e2 := Qcb (x := 31 * l) (by omega) 32
    by_cases h : x = 8
    · by_cases hm : -(15 * l) % 16 = 0
      · have e3 : -(-(15 * l) / 16) = Z8 x l := by unfold Z8; rw [if_pos h]; omega
        rw [← e3] at hr
        simp (maxSteps := 4000000) (disch := omega) only [rr, aop, cV, cV1, AV.one, Qb, okW, Qd, app, Qa, Qc, Qf, Qe, Qg, simprocAttr, Qw, h, e1.1, e1.2, hm]
        rw [h] at e3; rw [e3]
      · have e3 : -(-(15 * l) / 16) - 1 = Z8 x l := by unfold Z8; rw [if_pos h]; omega
        rw [← e3] at hr
        simp (maxSteps := 4000000) (disch := omega) only [rr, aop, cV, cV1, AV.one, Qb, okW, Qd, app, Qa, Qc, Qf, Qe, Qg, simprocAttr, Qw, h, e1.1, e1.2, hm]
        rw [h] at e3; rw [e3]
    · by_cases hm : -(31 * l) % 32 = 0
      · have e3 : -(-(31 * l) / 32) = Z8 x l := by unfold Z8; rw [if_neg h]; omega
        rw [← e3] at hr
        simp (maxSteps := 4000000) (disch := omega) only [rr, aop, cV, cV1, AV.one, Qb, okW, Qd, app, Qa, Qc, Qf, Qe, Qg, simprocAttr, Qw, if_neg h, e2.1, e2.2, hm, e3]
      · have e3 : -(-(31 * l) / 32) - 1 = Z8 x l := by unfold Z8; rw [if_neg h]; omega
        rw [← e3] at hr
        simp (maxSteps := 4000000) (disch := omega) only [rr, aop, cV, cV1, AV.one, Qb, okW, Qd, app, Qa, Qc, Qf, Qe, Qg, simprocAttr, Qw, if_neg h, e2.1, e2.2, hm, e3]
  · by_cases h : x = 8
    · simp (maxSteps := 4000000) (disch := omega) only [rr, aop, cV, cV1, AV.one, Qb, okW, Qd, app, Qa, Qc, Qf, Qe, Qg, simprocAttr, Qw, h, Z8]
    · simp (maxSteps := 4000000) (disch := omega) only [rr, aop, cV, cV1, AV.one, Qb, okW, Qd, app, Qa, Qc, Qf, Qe, Qg, simprocAttr, Qw, if_neg h, Z8]

def QgZ (P : Prg) (f : Nat) : Prop := ∀ x : Int, VC P f [.int .i64 x] (if Qaf x = 0 then .tup [.int .i64 0, .int .i64 2] else .tup [.int .i64 (if x = 8 then 4 else 5), .int .i64 0])
theorem QnJ {P : Prg} {f : Nat} (b : Qj P f 12 [.tmp 2, .tmp 3] Xu) : QgZ P f := by
  intro x
  refine VC.of_acall rfl (by split <;> rfl) (ACall.of_body b (by simp) ?_)
  rcases ZW x with ⟨rfl, h⟩ | ⟨rfl, h⟩ | ⟨rfl, h⟩ | ⟨h2, h3, h4, h⟩ <;> simp (maxSteps := 4000000) (disch := omega) only [rr, aop, cV, cV1, AV.one, Qb, okW, Qd, app, Qa, Qc, Qf, Qe, Qg, simprocAttr, Xu, h]

def Qg5 (P : Prg) (f : Nat) : Prop := Qki P f
theorem Qqu {P : Prg} {f : Nat} (b : Qj P f 7 [.tmp 2] Q7) : Qg5 P f := by
  intro i
  refine VC.of_acall rfl rfl (ACall.of_body b (by simp) ?_)
  by_cases h0 : i = 0
  · subst h0; simp (maxSteps := 4000000) (disch := omega) only [rr, aop, cV, cV1, AV.one, Qb, okW, Qd, app, Qa, Qc, Qf, Qe, Qg, simprocAttr, Q7, QbZ, Int.natCast_zero]
  by_cases h1 : i < 4
  · simp (maxSteps := 4000000) (disch := omega) only [rr, aop, cV, cV1, AV.one, Qb, okW, Qd, app, Qa, Qc, Qf, Qe, Qg, simprocAttr, Q7, QbZ, h0]
  · simp (maxSteps := 4000000) (disch := omega) only [rr, aop, cV, cV1, AV.one, Qb, okW, Qd, app, Qa, Qc, Qf, Qe, Qg, simprocAttr, Q7, QbZ, h0]

def QtY (P : Prg) (f : Nat) : Prop := ∀ x : Int, VC P f [.int .i32 x] (.int .i32 (sgn x))
theorem Qqv {P : Prg} {f : Nat} (b : Qj P f 7 [.tmp 2] Q8) : QtY P f := by
  intro x
  refine VC.of_acall rfl rfl (ACall.of_body b (by simp) ?_)
  by_cases h0 : x < 0
  · simp (maxSteps := 4000000) (disch := omega) only [rr, aop, cV, cV1, AV.one, Qb, okW, Qd, app, Qa, Qc, Qf, Qe, Qg, simprocAttr, Q8, sgn]
  by_cases h1 : 0 < x
  · simp (maxSteps := 4000000) (disch := omega) only [rr, aop, cV, cV1, AV.one, Qb, okW, Qd, app, Qa, Qc, Qf, Qe, Qg, simprocAttr, Q8, sgn]
  · simp (maxSteps := 4000000) (disch := omega) only [rr, aop, cV, cV1, AV.one, Qb, okW, Qd, app, Qa, Qc, Qf, Qe, Qg, simprocAttr, Q8, sgn]

def QtZ (P : Prg) (f : Nat) : Prop := ∀ x : Jf, QaK x → VC P f [.agg (Ql x)] (.int .i32 (w32 (QfX x.tp x.ps 16)))
theorem Qv9 {a b : Int} (ha : -2147483648 ≤ a ∧ a ≤ 2147483647) (hb : -2147483648 ≤ b ∧ b ≤ 2147483647) : -4611686018427387904 ≤ a * b ∧ a * b ≤ 4611686018427387904 := by
  have h : (a * b).natAbs ≤ 2147483648 * 2147483648 := by rw [Int.natAbs_mul]; exact Nat.mul_le_mul (by omega) (by omega)
  omega
theorem Qsk {P : Prg} {f fW t0 : Nat} (b : Qj P f 28 [.tmp 2] (Jb fW t0)) (hW : QgT P fW) : QtZ P f := by
  intro x hx
  have l33 := QB hx
  have tk : (Ql x).take 33 = Ql x := Qn (by omega)
  have ho := QG x
  refine VC.of_acall (by simp [isDL, isD, QP]) rfl (ACall.of_body b (by simp) ?_)
  simp (maxSteps := 4000000) (disch := omega) only [rr, aop, cV, cV1, AV.one, Qb, okW, Qd, app, Qa, Qc, Qf, Qe, Qg, simprocAttr, Jb, l33, tk, ho]
  have z : w32 (QfX x.tp x.ps 0) = 0 := rfl
  refine QJ.by (ι := Nat) (fun k => ⟨[(4, .int .i64 k), (3, .int .i64 (w32 (QfX x.tp x.ps k))), (1, .ref 0 1 0)], [⟨t0, 33, 1, Ql x, 0⟩]⟩) (fun k => k ≤ 16) (fun k => 16 - k) 0 (Le.slots (by rw [z]; simp [Am.look])) (by omega) ?_
  intro k hk
  have hr := X6 (QfX x.tp x.ps k)
  by_cases hlt : k < 16
  · have e1 := Qjt hx hlt
    have e2 := Qep hx hlt
    have h1 := Zf hx.2.2.1 k
    have h2 := Zf hx.2.2.2 k
    have h3 := Qv9 h1 h2
    have h4 := X6 (x.tp.getD k 0 * x.ps.getD k 0)
    have h5 := X6 (QfX x.tp x.ps (k + 1))
    have e4 : w32 (w32 (QfX x.tp x.ps k) + w32 (x.tp.getD k 0 * x.ps.getD k 0)) = w32 (QfX x.tp x.ps (k + 1)) := by rw [Qrx]; rfl
    simp (maxSteps := 4000000) (disch := omega) only [rr, aop, cV, cV1, AV.one, Qb, okW, Qd, app, Qa, Qc, Qf, Qe, Qg, simprocAttr, l33, e1, e2]
    refine Q2.vc (hW _) ?_
    simp (maxSteps := 4000000) (disch := omega) only [rr, aop, cV, cV1, AV.one, Qb, okW, Qd, app, Qa, Qc, Qf, Qe, Qg, simprocAttr]
    refine Q2.vc (hW _) ?_
    rw [e4]
    simp (maxSteps := 4000000) (disch := omega) only [rr, aop, cV, cV1, AV.one, Qb, okW, Qd, app, Qa, Qc, Qf, Qe, Qg, simprocAttr]
    exact ⟨k + 1, by omega, by omega, Le.slots (by simp [Am.look])⟩
  · have e : k = 16 := by omega
    subst e
    simp (maxSteps := 4000000) (disch := omega) only [rr, aop, cV, cV1, AV.one, Qb, okW, Qd, app, Qa, Qc, Qf, Qe, Qg, simprocAttr]

def QoK (P : Prg) (f : Nat) : Prop := ∀ x : Jf, QaK x → x.sh = 9 ∨ x.sh = 10 → VC P f [.agg (Ql x)] (.int .i32 (Qdn x))
theorem Qqt {P : Prg} {f fS fW t0 : Nat} (b : Qj P f 28 [.tmp 2] (ZA fS fW t0)) (hS : QtZ P fS) (hW : QgT P fW) : QoK P f := by
  intro x hx hs
  have l33 := QB hx
  have tk : (Ql x).take 33 = Ql x := Qn (by omega)
  have ho := QG x
  have e0 : (Ql x).drop 0 = .int .i64 x.sh :: (ks .i32 x.tp ++ ks .i32 x.ps) := rfl
  have hg := Ql3 x hs
  have q1 := hx.1
  have q2 := hx.2.1
  have tk32 : (ks .i32 (x.tp ++ x.ps)).take 32 = ks .i32 (x.tp ++ x.ps) := Qn (by simp [Qk]; omega)
  have hr := X6 (QfX x.tp x.ps 16)
  have hr2 := X6 (Qa3 x.sh / 2 + QfX x.tp x.ps 16)
  refine VC.of_acall (by simp [isDL, isD, QP]) rfl (ACall.of_body b (by simp) ?_)
  rcases hs with h | h
  · have hp : Qa3 x.sh = 512 := by simp [Qa3, h]
    have back : AV.int .i64 9 :: ks .i32 (x.tp ++ x.ps) = Ql x := by simp only [Ql, h, Qen]
    simp only [Qdn, hp] at hg hr2 ⊢
    have e4 : w32 (w32 (QfX x.tp x.ps 16) + 256) = w32 (512 / 2 + QfX x.tp x.ps 16) := by rw [QoY]; congr 1; omega
    generalize hG : w32 (512 / 2 + QfX x.tp x.ps 16) = G at *
    simp (maxSteps := 4000000) (disch := omega) only [rr, aop, cV, cV1, AV.one, Qb, okW, Qd, app, Qa, Qc, Qf, Qe, Qg, simprocAttr, ZA, l33, tk, ho, ↓e0, h, tk32]
    simp only [back]
    refine Qh.vc (hS x hx) ?_
    simp (maxSteps := 4000000) (disch := omega) only [rr, aop, cV, cV1, AV.one, Qb, okW, Qd, app, Qa, Qc, Qf, Qe, Qg, simprocAttr]
    refine Qh.vc (hW _) ?_
    rw [e4]
    by_cases hn : G < 0
    · have e5 := Qcb hn 512
      by_cases hm : -G % 512 = 0
      · have e6 : -(-G / 512) = G / 512 := by omega
        simp (maxSteps := 4000000) (disch := omega) only [rr, aop, cV, cV1, AV.one, Qb, okW, Qd, app, Qa, Qc, Qf, Qe, Qg, simprocAttr, e5.1, e5.2, hm, e6]
      · have e6 : -(-G / 512) - 1 = G / 512 := by omega
        simp (maxSteps := 4000000) (disch := omega) only [rr, aop, cV, cV1, AV.one, Qb, okW, Qd, app, Qa, Qc, Qf, Qe, Qg, simprocAttr, e5.1, e5.2, hm, e6]
    · simp (maxSteps := 4000000) (disch := omega) only [rr, aop, cV, cV1, AV.one, Qb, okW, Qd, app, Qa, Qc, Qf, Qe, Qg, simprocAttr]
  · have hp : Qa3 x.sh = 1024 := by simp [Qa3, h]
    have back : AV.int .i64 10 :: ks .i32 (x.tp ++ x.ps) = Ql x := by simp only [Ql, h, Qen]
    simp only [Qdn, hp] at hg hr2 ⊢
    have e4 : w32 (w32 (QfX x.tp x.ps 16) + 512) = w32 (1024 / 2 + QfX x.tp x.ps 16) := by rw [QoY]; congr 1; omega
    generalize hG : w32 (1024 / 2 + QfX x.tp x.ps 16) = G at *
    simp (maxSteps := 4000000) (disch := omega) only [rr, aop, cV, cV1, AV.one, Qb, okW, Qd, app, Qa, Qc, Qf, Qe, Qg, simprocAttr, ZA, l33, tk, ho, ↓e0, h, tk32]
    simp only [back]
    refine Qh.vc (hS x hx) ?_
    simp (maxSteps := 4000000) (disch := omega) only [rr, aop, cV, cV1, AV.one, Qb, okW, Qd, app, Qa, Qc, Qf, Qe, Qg, simprocAttr]
    refine Qh.vc (hW _) ?_
    rw [e4]
    by_cases hn : G < 0
    · have e5 := Qcb hn 1024
      by_cases hm : -G % 1024 = 0
      · have e6 : -(-G / 1024) = G / 1024 := by omega
        simp (maxSteps := 4000000) (disch := omega) only [rr, aop, cV, cV1, AV.one, Qb, okW, Qd, app, Qa, Qc, Qf, Qe, Qg, simprocAttr, e5.1, e5.2, hm, e6]
      · have e6 : -(-G / 1024) - 1 = G / 1024 := by omega
        simp (maxSteps := 4000000) (disch := omega) only [rr, aop, cV, cV1, AV.one, Qb, okW, Qd, app, Qa, Qc, Qf, Qe, Qg, simprocAttr, e5.1, e5.2, hm, e6]
    · simp (maxSteps := 4000000) (disch := omega) only [rr, aop, cV, cV1, AV.one, Qb, okW, Qd, app, Qa, Qc, Qf, Qe, Qg, simprocAttr]
theorem Qly (x : Int) : sgn x = -1 ∨ sgn x = 0 ∨ sgn x = 1 := by unfold sgn; split <;> (try split) <;> omega
theorem Qp6 (i : Nat) : QbZ i = 1 ∨ QbZ i = 2 ∨ QbZ i = 4 := by unfold QbZ; split <;> (try split) <;> omega
theorem Quu (i : Nat) (a b : Int) : (-4 ≤ QbZ i * sgn a ∧ QbZ i * sgn a ≤ 4) ∧ (-4 ≤ QbZ i * sgn a * sgn b ∧ QbZ i * sgn a * sgn b ≤ 4) := by
  rcases Qp6 i with h | h | h <;> rcases Qly a with g | g | g <;> rcases Qly b with k | k | k <;> rw [h, g, k] <;> decide

def Qfh (P : Prg) (f : Nat) : Prop := ∀ (x : Jf) (w : Int), QaK x → VC P f [.agg (Ql x), .int .i32 w] (.agg (Ql (Jk x w)))
theorem Qjf {P : Prg} {f fS fG t0 : Nat} (b : Qj P f 29 [.cell 4 t0] (ZP fS fG t0)) (ht : Q4 P t0 = some (some 33)) (hS : Qg5 P fS) (hG : QtY P fG) : Qfh P f := by
  intro x w hx
  have l33 := QB hx
  have tk : (Ql x).take 33 = Ql x := Qn (by omega)
  have ho := QG x
  have lw := QB (QcD hx w)
  have tkw : (Ql (Jk x w)).take 33 = Ql (Jk x w) := Qn (by omega)
  have how := QG (Jk x w)
  refine VC.of_acall (by simp [isDL, isD, QP]) (by simp [isD, QP]) (ACall.of_body b (by simp) ?_)
  simp (maxSteps := 4000000) (disch := omega) only [rr, aop, cV, cV1, AV.one, Qb, okW, Qd, app, Qa, Qc, Qf, Qe, Qg, simprocAttr, ZP, l33, tk, ho]
  refine QJ.by (ι := Nat) (fun k => ⟨[(5, .int .i64 k), (4, .ref 1 1 0), (2, .ref 0 1 0), (1, .int .i32 w)], [⟨t0, 33, 1, Ql (lf x w k), 0⟩, ⟨t0, 33, 1, Ql Qhp, 0⟩]⟩) (fun k => k ≤ 16) (fun k => 16 - k) 0 (by rw [show lf x w 0 = x by simp [lf, QeX hx]]; exact Le.slots (by simp [Am.look])) (by omega) ?_
  intro k hk
  by_cases hlt : k < 16
  · have hok := Qgj hx w k
    have e2 := Qjt hok hlt
    have e2p := Qep hok hlt
    have e3 := fun v => Qgz hok hlt v
    have e4 := Qic x w hlt
    have e5 := QB hok
    have hu := QlW x w hlt
    have ef : ∀ v, ({ lf x w k with tp := (lf x w k).tp.set k v } : Jf) = { x with tp := (Jq x w k).set k v } := fun _ => rfl
    have e7 : (lf x w k).tp.getD k 0 = x.tp.getD k 0 := e4
    have e8 : (lf x w k).ps.getD k 0 = x.ps.getD k 0 := rfl
    have hr := Quu k (x.ps.getD k 0) w
    simp only [Que] at hu
    simp (maxSteps := 4000000) (disch := omega) only [rr, aop, cV, cV1, AV.one, Qb, okW, Qd, app, Qa, Qc, Qf, Qe, Qg, simprocAttr, e2, e7]
    refine Q2.vc (hS k) ?_
    simp (maxSteps := 4000000) (disch := omega) only [rr, aop, cV, cV1, AV.one, Qb, okW, Qd, app, Qa, Qc, Qf, Qe, Qg, simprocAttr, e2p, e8, e5]
    refine Q2.vc (hG _) ?_
    simp (maxSteps := 4000000) (disch := omega) only [rr, aop, cV, cV1, AV.one, Qb, okW, Qd, app, Qa, Qc, Qf, Qe, Qg, simprocAttr]
    refine Q2.vc (hG _) ?_
    simp (maxSteps := 4000000) (disch := omega) only [rr, aop, cV, cV1, AV.one, Qb, okW, Qd, app, Qa, Qc, Qf, Qe, Qg, simprocAttr, e3, e5, Qat, ef, hu]
    exact ⟨k + 1, by omega, by omega, Le.slots (by simp [Am.look])⟩
  · have e : k = 16 := by omega
    subst e
    have hF : lf x w 16 = Jk x w := rfl
    rw [hF]
    simp (maxSteps := 4000000) (disch := omega) only [rr, aop, cV, cV1, AV.one, Qb, okW, Qd, app, Qa, Qc, Qf, Qe, Qg, simprocAttr, lw, tkw, how, ZK, ht, Jn]

def Qdt (x : Jf) (k : Nat) : List Int := (List.range 16).map fun j => if k < j then x.ps.getD (j - 1) 0 else x.ps.getD j 0
def pf (x : Jf) (k : Nat) : Jf := { x with ps := Qdt x k }
theorem Qv5 {x : Jf} (h : QaK x) : pf x 15 = x := by
  have := Qh6 h.2.1
  have e : Qdt x 15 = x.ps := by
    refine Eq.trans ?_ this
    simp only [Qdt]
    apply List.map_congr_left
    intro j hj
    rw [if_neg (by simp at hj; omega)]
  simp [pf, e]
theorem Qw1 {x : Jf} (h : QaK x) (v : Int) : (Qdt x 0).set 0 v = v :: x.ps.take 15 := by
  apply List.ext_getElem (by simp [Qdt, h.2.1])
  intro i h1 h2
  rw [List.getElem_set]
  simp only [Qdt, List.getElem_map, List.getElem_range]
  cases i with
  | zero => simp
  | succ i =>
    have hi : i < x.ps.length := by simp [Qdt] at h1; have := h.2.1; omega
    simp [List.getD_eq_getElem?_getD, List.getElem?_eq_getElem hi]
theorem Qsv (x : Jf) {k : Nat} (h0 : 0 < k) (hk : k < 16) : (Qdt x k).set k (x.ps.getD (k - 1) 0) = Qdt x (k - 1) := by
  apply List.ext_getElem (by simp [Qdt])
  intro i h1 h2
  rw [List.getElem_set]
  simp only [Qdt, List.getElem_map, List.getElem_range]
  by_cases e : k = i
  · subst e; rw [if_pos rfl, if_pos (by omega)]
  · rw [if_neg e]
    by_cases h : k < i
    · rw [if_pos h, if_pos (by omega)]
    · rw [if_neg h, if_neg (by omega)]
theorem QxT {x : Jf} (h : QaK x) (k : Nat) : QaK (pf x k) := by
  refine ⟨h.1, by simp [pf, Qdt], h.2.2.1, fun v hv => ?_⟩
  simp only [pf, Qdt, List.mem_map] at hv
  obtain ⟨i, _, rfl⟩ := hv
  split
  · exact Zf h.2.2.2 _
  · exact Zf h.2.2.2 _
theorem Qv6 (x : Jf) {k j : Nat} (hj : j < 16) (h : j ≤ k) : (pf x k).ps.getD j 0 = x.ps.getD j 0 := by
  simp only [pf, Qdt]
  rw [List.getD_eq_getElem?_getD]
  simp [hj]
  omega

def Qg3 (P : Prg) (f : Nat) : Prop := ∀ (x : Jf) (v : Int), QaK x → -2147483648 ≤ v ∧ v ≤ 2147483647 → VC P f [.agg (Ql x), .int .i32 v] (.agg (Ql (QcX x v)))
theorem QlJ {P : Prg} {f t0 : Nat} (b : Qj P f 22 [.cell 4 t0] (Z4 t0)) (ht : Q4 P t0 = some (some 33)) : Qg3 P f := by
  intro x v hx hv
  have l33 := QB hx
  have ho := QG x
  have lw := QB (QnN hx hv)
  have tkw : (Ql (QcX x v)).take 33 = Ql (QcX x v) := Qn (by omega)
  have how := QG (QcX x v)
  refine VC.of_acall (by simp [isDL, isD, QP]) (by simp [isD, QP]) (ACall.of_body b (by simp) ?_)
  simp (maxSteps := 4000000) (disch := omega) only [rr, aop, cV, cV1, AV.one, Qb, okW, Qd, app, Qa, Qc, Qf, Qe, Qg, simprocAttr, Z4, l33, ho]
  refine QJ.by (ι := Nat) (fun k => ⟨[(5, .int .i64 k), (4, .ref 1 1 0), (2, .ref 0 1 0), (1, .int .i32 v)], [⟨t0, 33, 1, Ql (pf x k), 0⟩, ⟨t0, 33, 1, Ql Qhp, 0⟩]⟩) (fun k => k ≤ 15) (fun k => k) 15 (by rw [Qv5 hx]; exact Le.slots (by simp [Am.look])) (by omega) ?_
  intro k hk
  have hok := QxT hx k
  have e5 := QB hok
  by_cases h0 : 0 < k
  · have e2 := Qep hok (k := k - 1) (by omega)
    have e3 := fun v => Qce hok (k := k) (by omega) v
    have e7 := Qv6 x (k := k) (j := k - 1) (by omega) (by omega)
    have hu := Qsv x h0 (by omega)
    have ef : ∀ v, ({ pf x k with ps := (pf x k).ps.set k v } : Jf) = { x with ps := (Qdt x k).set k v } := fun _ => rfl
    simp (maxSteps := 4000000) (disch := omega) only [rr, aop, cV, cV1, AV.one, Qb, okW, Qd, app, Qa, Qc, Qf, Qe, Qg, simprocAttr, e2, e7, e3, e5, ef, hu]
    exact ⟨k - 1, by omega, by omega, by rw [show ((k - 1 : Nat) : Int) = (k : Int) - 1 by omega]; exact Le.slots (by simp [Am.look])⟩
  · have e : k = 0 := by omega
    subst e
    have e3 : (Ql (pf x 0)).take 17 ++ [.int .i32 v] ++ (Ql (pf x 0)).drop 18 = Ql (QcX x v) := by
      have := Qce hok (k := 0) (by omega) v
      simp only [Nat.add_zero, pf, Qw1 hx] at this
      exact this
    simp (maxSteps := 4000000) (disch := omega) only [rr, aop, cV, cV1, AV.one, Qb, okW, Qd, app, Qa, Qc, Qf, Qe, Qg, simprocAttr, Int.natCast_zero, e3, e5, lw, tkw, how, ZK, ht, Jn]
end Go.Am

namespace Go.Am
open Go.RowKit

def Qg2 (P : Prg) (f : Nat) : Prop := ∀ (x : Jf) (v : Int), QaK x → x.sh = 9 ∨ x.sh = 10 → -2147483648 ≤ v ∧ v ≤ 2147483647 → VC P f [.agg (Ql x), .int .i32 v] (.tup [.int .i32 (QmO x v), .agg (Ql (Qro x v))])
theorem Qqs {P : Prg} {f fT fW fL fP t0 : Nat} (b : Qj P f 20 [.tmp 4, .cell 5 t0] (XJ fT fW fL fP t0)) (ht : Q4 P t0 = some (some 33)) (hT : QoK P fT) (hW : QgT P fW) (hL : Qfh P fL) (hP : Qg3 P fP) : Qg2 P f := by
  intro x v hx hs hv
  have l1 := QB hx
  have t1 : (Ql x).take 33 = Ql x := Qn (by omega)
  have o1 := QG x
  have l3 := QB (Qei hx hv (QmO x v))
  have t3 : (Ql (Qro x v)).take 33 = Ql (Qro x v) := Qn (by unfold Qro; omega)
  have o3 := QG (Qro x v)
  have hg := Ql3 x hs
  have hw : w32 (v - Qdn x) = QmO x v := rfl
  have hf : QcX (Jk x (QmO x v)) v = Qro x v := rfl
  rw [← Qro] at l3
  refine VC.of_acall (by simp [isDL, isD, QP]) (by simp [isD, isDL, QP]) (ACall.of_body b (by simp) ?_)
  simp (maxSteps := 4000000) (disch := omega) only [rr, aop, cV, cV1, AV.one, Qb, okW, Qd, app, Qa, Qc, Qf, Qe, Qg, simprocAttr, XJ, l1, t1, o1]
  refine Qh.vc (hT x hx hs) ?_
  simp (maxSteps := 4000000) (disch := omega) only [rr, aop, cV, cV1, AV.one, Qb, okW, Qd, app, Qa, Qc, Qf, Qe, Qg, simprocAttr]
  refine Qh.vc (hW _) ?_
  rw [hw]
  simp (maxSteps := 4000000) (disch := omega) only [rr, aop, cV, cV1, AV.one, Qb, okW, Qd, app, Qa, Qc, Qf, Qe, Qg, simprocAttr, l1, t1, o1]
  refine Qh.vc (hL x _ hx) ?_
  simp (maxSteps := 4000000) (disch := omega) only [rr, aop, cV, cV1, AV.one, Qb, okW, Qd, app, Qa, Qc, Qf, Qe, Qg, simprocAttr]
  refine Qh.vc (hP _ v (QcD hx _) hv) ?_
  rw [hf]
  simp (maxSteps := 4000000) (disch := omega) only [rr, aop, cV, cV1, AV.one, Qb, okW, Qd, app, Qa, Qc, Qf, Qe, Qg, simprocAttr, l3, t3, o3, ZK, ht, Jn]

def QdX (P : Prg) (f : Nat) : Prop := ∀ c : JE, Quh c → VC P f [.agg (QR c)] (.int .i64 (Z8 c.bits c.last))
theorem QlI {P : Prg} {f fB t0 : Nat} (b : Qj P f 12 [.tmp 2] (Zi fB t0)) (hB : QkG P fB) : QdX P f := by
  intro c ⟨h1, h2, h3, h4⟩
  have lc := Zg h3
  have oc := Zy c
  have e0 : (QR c).drop 0 = .int .i64 c.bits :: .int .i32 c.last :: Ql c.fl := rfl
  have e1 : (QR c).drop 1 = .int .i32 c.last :: Ql c.fl := rfl
  have hr := Qe2 c.bits h4
  have hb := hB c.bits c.last h4
  refine VC.of_acall (by simp [isDL, isD, Qaz]) rfl (ACall.of_body b (by simp) ?_)
  by_cases h8 : c.bits = 8
  · rw [if_pos h8] at hb
    simp (maxSteps := 4000000) (disch := omega) only [rr, aop, cV, cV1, AV.one, Qb, okW, Qd, app, Qa, Qc, Qf, Qe, Qg, simprocAttr, Zi, lc, oc, ↓e0, ↓e1]
    refine Qh.vc hb ?_
    simp (maxSteps := 4000000) (disch := omega) only [rr, aop, cV, cV1, AV.one, Qb, okW, Qd, app, Qa, Qc, Qf, Qe, Qg, simprocAttr]
  · rw [if_neg h8] at hb
    simp (maxSteps := 4000000) (disch := omega) only [rr, aop, cV, cV1, AV.one, Qb, okW, Qd, app, Qa, Qc, Qf, Qe, Qg, simprocAttr, Zi, lc, oc, ↓e0, ↓e1, h8]
    refine Qh.vc hb ?_
    simp (maxSteps := 4000000) (disch := omega) only [rr, aop, cV, cV1, AV.one, Qb, okW, Qd, app, Qa, Qc, Qf, Qe, Qg, simprocAttr]

def Qg1 (P : Prg) (f : Nat) : Prop := ∀ (c : JE) (x : Int), Quh c → -2147483648 ≤ x ∧ x ≤ 2147483647 → VC P f [.agg (QR c), .int .i32 x] (.tup [.int .i32 (QgG c x), .agg (QR (Jm c x))])
theorem Qqp {P : Prg} {f fB fW fS t0 t1 : Nat} (b : Qj P f 28 [.tmp 4, .cell 5 t0] (XG fB fW fS t0 t1)) (ht : Q4 P t0 = some (some 35)) (hB : QdX P fB) (hW : QgT P fW) (hS : Qg2 P fS) : Qg1 P f := by
  intro c x hc hx
  obtain ⟨h1, h2, h3, h4⟩ := id hc
  have hs : c.fl.sh = 9 ∨ c.fl.sh = 10 := by rw [h2]; exact Qo8 _
  have lc := Zg h3
  have tc : (QR c).take 35 = QR c := Qn (by omega)
  have oc := Zy c
  have e0 : (QR c).drop 0 = .int .i64 c.bits :: .int .i32 c.last :: Ql c.fl := rfl
  have e2 := Qtt h3
  have hr := Qe2 c.bits h4
  have hok := Qjj hc hx
  have l1 := QB hok.2.2.1
  have t1' : (Ql (Jm c x).fl).take 33 = Ql (Jm c x).fl := Qn (by omega)
  have o1 := QG (Jm c x).fl
  have d1 : (Ql (Jm c x).fl).drop 33 = [] := List.drop_eq_nil_of_le (by omega)
  have l2 := Zg hok.2.2.1
  have t2 : (QR (Jm c x)).take 35 = QR (Jm c x) := Qn (by omega)
  have o2 := Zy (Jm c x)
  have mk : AV.int .i64 c.bits :: .int .i32 x :: Ql (Jm c x).fl = QR (Jm c x) := rfl
  have hz : w32 (x - Z8 c.bits c.last) = Qon c x := rfl
  have hzr : -2147483648 ≤ Qon c x ∧ Qon c x ≤ 2147483647 := X6 _
  have hfe : Qro c.fl (Qon c x) = (Jm c x).fl := rfl
  have hye : QmO c.fl (Qon c x) = QgG c x := rfl
  refine VC.of_acall (by simp [isDL, isD, Qaz]) (by simp [isD, isDL, Qaz]) (ACall.of_body b (by simp) ?_)
  simp (maxSteps := 4000000) (disch := omega) only [rr, aop, cV, cV1, AV.one, Qb, okW, Qd, app, Qa, Qc, Qf, Qe, Qg, simprocAttr, XG, lc, tc, oc]
  refine Qh.vc (hB c hc) ?_
  simp (maxSteps := 4000000) (disch := omega) only [rr, aop, cV, cV1, AV.one, Qb, okW, Qd, app, Qa, Qc, Qf, Qe, Qg, simprocAttr]
  refine Qh.vc (hW _) ?_
  rw [hz]
  simp (maxSteps := 4000000) (disch := omega) only [rr, aop, cV, cV1, AV.one, Qb, okW, Qd, app, Qa, Qc, Qf, Qe, Qg, simprocAttr, lc, tc, oc, e2]
  refine Qh.vc (hS c.fl _ h3 hs hzr) ?_
  rw [hfe, hye]
  simp (maxSteps := 4000000) (disch := omega) only [rr, aop, cV, cV1, AV.one, Qb, okW, Qd, app, Qa, Qc, Qf, Qe, Qg, simprocAttr, lc, tc, oc, ↓e0, l1, t1', o1, d1, l2, t2, o2, mk, ZK, ht, QaO]

/-! ### New -/


theorem Qsl {P : Prg} {f fS t0 t1 : Nat} (b : Qj P f 22 [.cell 4 t1, .tmp 5] (Jc fS t0 t1)) (ht : Q4 P t1 = some (some 33)) (hS : QgZ P fS) : QgU P f := by
  intro x t hl
  have hk : (ks .i32 t).length = 16 := by simp [Qk, hl]
  have h1 := XA .i32 t
  have tk16 : (ks .i32 t).take 16 = ks .i32 t := Qn (by omega)
  have hs := hS x
  have fin : ∀ s : Int, .int .i64 s :: (ks .i32 t ++ [.int .i32 0, .int .i32 0, .int .i32 0, .int .i32 0, .int .i32 0, .int .i32 0, .int .i32 0, .int .i32 0, .int .i32 0, .int .i32 0, .int .i32 0, .int .i32 0, .int .i32 0, .int .i32 0, .int .i32 0, .int .i32 0]) = Ql ⟨s, t, z16⟩ := fun _ => rfl
  have hl33 : ∀ s : Int, (Ql ⟨s, t, z16⟩).length = 33 := fun s => by simp [Ql, Qk, hl, z16]
  have ho := fun s => QG ⟨s, t, z16⟩
  have tk : ∀ s : Int, (Ql ⟨s, t, z16⟩).take 33 = Ql ⟨s, t, z16⟩ := fun s => Qn (by rw [hl33]; omega)
  refine VC.of_acall (by simp [isDL, isD, QM]) (Qpt _ _) (ACall.of_body b (by simp) ?_)
  simp (maxSteps := 4000000) (disch := omega) only [rr, aop, cV, cV1, AV.one, Qb, okW, Qd, app, Qa, Qc, Qf, Qe, Qg, simprocAttr, Jc, hk, h1, tk16]
  refine Qh.vc hs ?_
  rcases ZW x with ⟨rfl, h⟩ | ⟨rfl, h⟩ | ⟨rfl, h⟩ | ⟨h2, h3, h4, h⟩
  · simp (maxSteps := 4000000) (disch := omega) only [rr, aop, cV, cV1, AV.one, Qb, okW, Qd, app, Qa, Qc, Qf, Qe, Qg, simprocAttr, QcU, h, hk, h1, tk16, fin, hl33, ho, tk, ZK, ht, QeV, J4]
  · simp (maxSteps := 4000000) (disch := omega) only [rr, aop, cV, cV1, AV.one, Qb, okW, Qd, app, Qa, Qc, Qf, Qe, Qg, simprocAttr, QcU, h, hk, h1, tk16, fin, hl33, ho, tk, ZK, ht, QeV, J4]
  · simp (maxSteps := 4000000) (disch := omega) only [rr, aop, cV, cV1, AV.one, Qb, okW, Qd, app, Qa, Qc, Qf, Qe, Qg, simprocAttr, QcU, h, hk, h1, tk16, fin, hl33, ho, tk, ZK, ht, QeV, J4]
  · simp (maxSteps := 4000000) (disch := omega) only [rr, aop, cV, cV1, AV.one, Qb, okW, Qd, app, Qa, Qc, Qf, Qe, Qg, simprocAttr, QcU, h, hk, h1, tk16, fin, hl33, ho, tk, ZK, ht, Jn]

theorem Qsi {P : Prg} {f fT t0 t1 t2 : Nat} (b : Qj P f 20 [.cell 4 t1, .tmp 5] (X9 fT t0 t1 t2)) (ht : Q4 P t1 = some (some 35)) (hT : QgU P fT) : Qit P f := by
  intro x t hl hI
  have hk : (ks .i32 t).length = 16 := by simp [Qk, hl]
  have h1 := XA .i32 t
  have tk16 : (ks .i32 t).take 16 = ks .i32 t := Qn (by omega)
  have hok : QaK (QeV x t) := Qpj hl hI
  have l1 := QB hok
  have t1' : (Ql (QeV x t)).take 33 = Ql (QeV x t) := Qn (by omega)
  have o1 := QG (QeV x t)
  have lc := Zg (c := JO x t) hok
  have tc : (QR (JO x t)).take 35 = QR (JO x t) := Qn (by omega)
  have oc := Zy (JO x t)
  have mk : AV.int .i64 x :: .int .i32 0 :: Ql (QeV x t) = QR (JO x t) := rfl
  refine VC.of_acall (by simp [isDL, isD, QM]) (Qpy _ _) (ACall.of_body b (by simp) ?_)
  simp (maxSteps := 4000000) (disch := omega) only [rr, aop, cV, cV1, AV.one, Qb, okW, Qd, app, Qa, Qc, Qf, Qe, Qg, simprocAttr, X9, hk, h1, tk16]
  refine Qh.vc (hT x t hl) ?_
  by_cases h0 : Qaf x = 0
  · simp (maxSteps := 4000000) (disch := omega) only [rr, aop, cV, cV1, AV.one, Qb, okW, Qd, app, Qa, Qc, Qf, Qe, Qg, simprocAttr, QcU, h0, QjK, Jn, QaO, ZK, ht]
  · simp (maxSteps := 4000000) (disch := omega) only [rr, aop, cV, cV1, AV.one, Qb, okW, Qd, app, Qa, Qc, Qf, Qe, Qg, simprocAttr, QcU, if_neg h0, QjK, l1, t1', o1, lc, tc, oc, mk, QaO, ZK, ht]

/-! ### fold -/

def Qgy (x : Int) : Int := if x < 0 then -2 * x - 1 else 2 * x
def Qis (P : Prg) (f : Nat) : Prop := ∀ x : Int, -2147483648 ≤ x ∧ x ≤ 2147483647 → VC P f [.int .i32 x] (.int .u32 (Qgy x))
theorem Qs2 {x : Int} (h : -2147483648 ≤ x ∧ x ≤ 2147483647) : 0 ≤ Qgy x ∧ Qgy x < 4294967296 := by unfold Qgy; split <;> omega

theorem Qul {a : Nat} (h : a < 4294967296) : (BitVec.ofInt 32 (a : Int) ^^^ BitVec.ofInt 32 4294967295).toNat = 4294967295 - a := by
  have e : BitVec.ofInt 32 4294967295 = BitVec.allOnes 32 := by decide
  rw [e, BitVec.xor_allOnes, BitVec.toNat_not]
  have : (BitVec.ofInt 32 (a : Int)).toNat = a := by simp; omega
  rw [this]
theorem Qrq {a : Nat} (h : a < 4294967296) : (BitVec.ofInt 32 (a : Int) ^^^ BitVec.ofInt 32 0).toNat = a := by
  have : (BitVec.ofInt 32 (a : Int)).toNat = a := by simp; omega
  rw [BitVec.toNat_xor, this]
  simp

theorem Qs1 {P : Prg} {f : Nat} (b : Qj P f 10 [.tmp 2] QaV) : Qis P f := by
  intro x hx
  refine VC.of_acall rfl rfl (ACall.of_body b (by simp) ?_)
  by_cases h : x < 0
  · have a1 : IntKind.u32.wrap x = x + 4294967296 := by rw [JU]; omega
    have a2 : Qs true .u32 (x + 4294967296) 1 = some (.int .u32 (2 * x + 4294967296)) := by
      show some (AV.int .u32 (IntKind.u32.wrap ((x + 4294967296) * 2))) = _
      rw [JU]; congr 2; omega
    have a3 : Qs false .i32 x 31 = some (.int .i32 (-1)) := by
      show some (AV.int .i32 (x.fdiv 2147483648)) = _
      rw [Int.fdiv_eq_ediv_of_nonneg _ (by omega)]; congr 2; omega
    have a4 : IntKind.u32.wrap (-1) = 4294967295 := rfl
    have a5 : (BitVec.ofInt IntKind.u32.bits (2 * x + 4294967296) ^^^ BitVec.ofInt IntKind.u32.bits 4294967295).toNat = (-2 * x - 1).toNat := by
      show (BitVec.ofInt 32 (2 * x + 4294967296) ^^^ BitVec.ofInt 32 4294967295).toNat = (-2 * x - 1).toNat
      have := Qul (a := (2 * x + 4294967296).toNat) (by omega)
      rw [show (((2 * x + 4294967296).toNat : Nat) : Int) = 2 * x + 4294967296 by omega] at this
      rw [this]; omega
    have a6 : (((BitVec.ofInt IntKind.u32.bits (2 * x + 4294967296) ^^^ BitVec.ofInt IntKind.u32.bits 4294967295).toNat : Nat) : Int) = -2 * x - 1 := by rw [a5]; omega
    simp (maxSteps := 4000000) (disch := omega) only [rr, aop, cV, cV1, AV.one, Qb, okW, Qd, app, Qa, Qc, Qf, Qe, Qg, simprocAttr, QaV, a1, a2, a3, a4, a6, Qgy]
  · have a2 : Qs true .u32 x 1 = some (.int .u32 (2 * x)) := by
      show some (AV.int .u32 (IntKind.u32.wrap (x * 2))) = _
      rw [JU]; congr 2; omega
    have a3 : Qs false .i32 x 31 = some (.int .i32 0) := by
      show some (AV.int .i32 (x.fdiv 2147483648)) = _
      rw [Int.fdiv_eq_ediv_of_nonneg _ (by omega)]; congr 2; omega
    have a5 : (BitVec.ofInt IntKind.u32.bits (2 * x) ^^^ BitVec.ofInt IntKind.u32.bits 0).toNat = (2 * x).toNat := by
      show (BitVec.ofInt 32 (2 * x) ^^^ BitVec.ofInt 32 0).toNat = (2 * x).toNat
      have := Qrq (a := (2 * x).toNat) (by omega)
      rwa [show (((2 * x).toNat : Nat) : Int) = 2 * x by omega] at this
    have a6 : (((BitVec.ofInt IntKind.u32.bits (2 * x) ^^^ BitVec.ofInt IntKind.u32.bits 0).toNat : Nat) : Int) = 2 * x := by rw [a5]; omega
    simp (maxSteps := 4000000) (disch := omega) only [rr, aop, cV, cV1, AV.one, Qb, okW, Qd, app, Qa, Qc, Qf, Qe, Qg, simprocAttr, QaV, a2, a3, a6, Qgy]

theorem QqA {P : Prg} {f : Nat} (b : Qj P f 13 [.tmp 2] ZB) : Qis P f := by
  intro x hx
  refine VC.of_acall rfl rfl (ACall.of_body b (by simp) ?_)
  by_cases h : x < 0
  · simp (maxSteps := 4000000) (disch := omega) only [rr, aop, cV, cV1, AV.one, Qb, okW, Qd, app, Qa, Qc, Qf, Qe, Qg, simprocAttr, ZB, Qgy]
  · simp (maxSteps := 4000000) (disch := omega) only [rr, aop, cV, cV1, AV.one, Qb, okW, Qd, app, Qa, Qc, Qf, Qe, Qg, simprocAttr, ZB, Qgy]

end Go.Am

namespace Go.Am
open Go.RowKit

theorem QsQ {K : IntKind} {l : List Int} {i : Nat} (h : i < l.length) (v : Int) : (ks K l).take i ++ [.int K v] ++ (ks K l).drop (i + 1) = ks K (l.set i v) := by
  rw [List.set_eq_take_append_cons_drop, if_pos h]
  simp [ks]
theorem Qbn {K : IntKind} {l : List Int} {i : Nat} (h : i < l.length) : (ks K l).drop i = .int K (l.getD i 0) :: ks K (l.drop (i + 1)) := by
  rw [QaC h]; simp [List.getD_eq_getElem?_getD, List.getElem?_eq_getElem h]

theorem Qwo {α : Type} (l : List α) (x : α) : (l ++ [x])[l.length]? = some x := by simp
theorem Qv1 {α : Type} (l : List α) (x y : α) : (l ++ [x]).set l.length y = l ++ [y] := by simp

/-! ### slices.Clone of numbers -/

def QkE (t : Nat) (P : Prg) (f : Nat) : Prop := ∀ (l : List Int) (ob : List Ob) (K : AV → List Ob → Prop), 0 < l.length → l.length ≤ 1000000 → K (.own ob.length l.length) (ob ++ [⟨t, 1, l.length, ks .i32 l, 0⟩]) → ACall P f [il l] ob K

theorem Qtq {P : Prg} {f t0 : Nat} (b : Qj P f 8 [.tmp 2] (Zc t0)) : QkE t0 P f := by
  intro l ob K h0 h1 hK
  refine ACall.of_body b (by simp) ?_
  have g1 := fun x : Ob => Qwo ob x
  have g2 := fun x y : Ob => Qv1 ob x y
  have n0 : l.length ≠ 0 := by omega
  simp (maxSteps := 4000000) (disch := omega) only [rr, aop, cV, cV1, AV.one, Qb, okW, Qd, app, Qa, Qc, Qf, Qe, Qg, simprocAttr, Zc, il, Qrn, n0, g1, g2, Qw9]
  exact hK

/-! ### mix.mix: in its place -/

def Qhl (L : List Int) (k i : Nat) : List Int := (List.range L.length).map fun j => if k ≤ j ∧ j < k + i then w32 (L.getD (j + 1) 0 - L.getD j 0) else L.getD j 0
def Qgl (L : List Int) (k n : Nat) : List Int := if n = 1 then L else (Qhl L k (n - 1)).set (k + (n - 1)) (w32 (L.getD (k + (n - 1)) 0 - (w32 (L.getD (k + (n - 1)) 0 - L.getD (k + (n - 2)) 0)).tdiv 2))

theorem QcI {a b : List Int} (h : a.length = b.length) (h2 : ∀ j, j < a.length → a.getD j 0 = b.getD j 0) : a = b := by
  apply List.ext_getElem h
  intro i h1 h3
  have := h2 i h1
  simpa [List.getD_eq_getElem?_getD, List.getElem?_eq_getElem h1, List.getElem?_eq_getElem h3] using this
theorem Qbx (L : List Int) (k i : Nat) : (Qhl L k i).length = L.length := by simp [Qhl]
theorem Zw {g : Nat → Int} {n j : Nat} (h : j < n) : ((List.range n).map g).getD j 0 = g j := by
  simp [List.getD_eq_getElem?_getD, h]
theorem Qja {l : List Int} {i j : Nat} {v : Int} (h : j < l.length) : (l.set i v).getD j 0 = if i = j then v else l.getD j 0 := by
  simp only [List.getD_eq_getElem?_getD, List.getElem?_set]
  split
  · subst_vars; simp [h]
  · rfl
theorem QwY (L : List Int) (k : Nat) : Qhl L k 0 = L := QcI (Qbx _ _ _) fun j hj => by
  rw [Qbx] at hj
  rw [Qhl, Zw hj, if_neg (by omega)]
theorem Qr8 {L : List Int} {k i j : Nat} (h : j < L.length) (h2 : k + i ≤ j) : (Qhl L k i).getD j 0 = L.getD j 0 := by
  rw [Qhl, Zw h, if_neg (by omega)]
theorem QuG {L : List Int} {k i : Nat} (h : k + i < L.length) : (Qhl L k i).set (k + i) (w32 (L.getD (k + i + 1) 0 - L.getD (k + i) 0)) = Qhl L k (i + 1) := QcI (by simp [Qbx]) fun j hj => by
  have hj' : j < L.length := by simpa [Qbx] using hj
  rw [Qja (by rw [Qbx]; exact hj'), Qhl, Qhl, Zw hj', Zw hj']
  by_cases e : k + i = j
  · subst e; rw [if_pos rfl, if_pos (by omega)]
  · rw [if_neg e]
    by_cases q : k ≤ j ∧ j < k + i
    · rw [if_pos q, if_pos (by omega)]
    · rw [if_neg q, if_neg (by omega)]

def QwH (P : Prg) (f : Nat) : Prop := ∀ (t : Nat) (L : List Int) (k n : Nat) (K : AV → List Ob → Prop), I32 L → 1 ≤ n → k + n ≤ L.length → L.length ≤ 1000000 →
  K (.tup []) [⟨t, 1, L.length, ks .i32 (Qgl L k n), 0⟩] → ACall P f [.view 0 L.length k n] [⟨t, 1, L.length, ks .i32 L, 0⟩] K

theorem Qlp {x : Int} (h : -2147483648 ≤ x ∧ x ≤ 2147483647) : -2147483648 ≤ x.tdiv 2 ∧ x.tdiv 2 ≤ 2147483647 := by
  by_cases hx : x < 0
  · rw [(Qcb hx 2).1]; omega
  · rw [Int.tdiv_eq_ediv_of_nonneg (by omega)]; omega

theorem Qwb {P : Prg} {f : Nat} (b : Qj P f 39 [] Qff) : QwH P f := by
  intro t L k n K hL h1 h2 h3 hK
  refine ACall.of_body b (by simp) ?_
  simp (maxSteps := 4000000) (disch := omega) only [rr, aop, cV, cV1, AV.one, Qb, okW, Qd, app, Qa, Qc, Qf, Qe, Qg, simprocAttr, Qff]
  refine QJ.by (ι := Nat) (fun i => ⟨[(8, .int .i64 i), (7, .int .i64 ((n : Int) - 1)), (2, .int .i64 ((n : Int) - 1)), (0, .view 0 L.length k n)], [⟨t, 1, L.length, ks .i32 (Qhl L k i), 0⟩]⟩) (fun i => i ≤ n - 1) (fun i => n - 1 - i) 0 (by rw [QwY]; exact Le.slots (by simp [Am.look])) (by omega) ?_
  intro i hi
  have ls := Qbx L k i
  by_cases hlt : i < n - 1
  · have e1 := Qbn (K := .i32) (l := Qhl L k i) (i := k + i) (by omega)
    have e2 := Qbn (K := .i32) (l := Qhl L k i) (i := k + (i + 1)) (by omega)
    have e3 := fun v => QsQ (K := .i32) (l := Qhl L k i) (i := k + i) (by omega) v
    have a1 := Qr8 (L := L) (k := k) (i := i) (j := k + i) (by omega) (by omega)
    have a2 := Qr8 (L := L) (k := k) (i := i) (j := k + (i + 1)) (by omega) (by omega)
    have a3 := QuG (L := L) (k := k) (i := i) (by omega)
    rw [show k + i + 1 = k + (i + 1) by omega] at a3
    rw [a1] at e1
    rw [a2] at e2
    simp (maxSteps := 4000000) (disch := omega) only [rr, aop, cV, cV1, AV.one, Qb, okW, Qd, app, Qa, Qc, Qf, Qe, Qg, simprocAttr, e1, e2, e3, Qat, a3, ls]
    exact ⟨i + 1, by omega, by omega, Le.slots (by simp [Am.look])⟩
  · have e : i = n - 1 := by omega
    subst e
    by_cases hn : n = 1
    · subst hn
      have e0 : Qgl L k 1 = Qhl L k (1 - 1) := by simp [Qgl, QwY]
      rw [e0] at hK
      simp (maxSteps := 4000000) (disch := omega) only [rr, aop, cV, cV1, AV.one, Qb, okW, Qd, app, Qa, Qc, Qf, Qe, Qg, simprocAttr]
      exact hK
    · have e1 := Qbn (K := .i32) (l := Qhl L k (n - 1)) (i := k + (n - 1)) (by omega)
      have e2 := Qbn (K := .i32) (l := Qhl L k (n - 1)) (i := k + (n - 2)) (by omega)
      have e3 := fun v => QsQ (K := .i32) (l := Qhl L k (n - 1)) (i := k + (n - 1)) (by omega) v
      have a1 := Qr8 (L := L) (k := k) (i := n - 1) (j := k + (n - 1)) (by omega) (by omega)
      have a2 : (Qhl L k (n - 1)).getD (k + (n - 2)) 0 = w32 (L.getD (k + (n - 1)) 0 - L.getD (k + (n - 2)) 0) := by
        rw [Qhl, Zw (by omega), if_pos (by omega), show k + (n - 2) + 1 = k + (n - 1) by omega]
      rw [a1] at e1
      rw [a2] at e2
      have hr := Qlp (X6 (L.getD (k + (n - 1)) 0 - L.getD (k + (n - 2)) 0))
      simp only [Qgl, if_neg hn] at hK
      rw [show k + (n - 2) = k + (n - 1 - 1) by omega] at e2 hK hr
      simp (maxSteps := 4000000) (disch := omega) only [rr, aop, cV, cV1, AV.one, Qb, okW, Qd, app, Qa, Qc, Qf, Qe, Qg, simprocAttr, e1, e2, e3, Qat, ls]
      exact hK
end Go.Am

namespace Go.Am
open Go.RowKit

def JJ (c : Int) (n : Nat) : Int := if c < 1 ∨ 6 < c then 2 else if 4000 < n then 4 else if (n : Int) % c ≠ 0 then 2 else 0
def QcS (P : Prg) (f : Nat) : Prop := ∀ (c : Int) (l : List Int), VC P f [.int .i64 c, il l] (.int .i64 (JJ c l.length))

theorem QsI {P : Prg} {f : Nat} (b : Qj P f 22 [.tmp 4] Xf) : QcS P f := by
  intro c l
  refine VC.of_acall (by simp [isDL, isD, QO]) rfl (ACall.of_body b (by simp) ?_)
  by_cases h1 : c < 1
  · simp (maxSteps := 4000000) (disch := omega) only [rr, aop, cV, cV1, AV.one, Qb, okW, Qd, app, Qa, Qc, Qf, Qe, Qg, simprocAttr, Xf, il, JJ]
  by_cases h2 : 6 < c
  · simp (maxSteps := 4000000) (disch := omega) only [rr, aop, cV, cV1, AV.one, Qb, okW, Qd, app, Qa, Qc, Qf, Qe, Qg, simprocAttr, Xf, il, JJ]
  by_cases h3 : 4000 < l.length
  · simp (maxSteps := 4000000) (disch := omega) only [rr, aop, cV, cV1, AV.one, Qb, okW, Qd, app, Qa, Qc, Qf, Qe, Qg, simprocAttr, Xf, il, JJ]
  have hm := Qay (n := l.length) (c := c) (by omega)
  by_cases h4 : (l.length : Int) % c = 0
  · simp (maxSteps := 4000000) (disch := omega) only [rr, aop, cV, cV1, AV.one, Qb, okW, Qd, app, Qa, Qc, Qf, Qe, Qg, simprocAttr, Xf, il, JJ, h4]
  · simp (maxSteps := 4000000) (disch := omega) only [rr, aop, cV, cV1, AV.one, Qb, okW, Qd, app, Qa, Qc, Qf, Qe, Qg, simprocAttr, Xf, il, JJ, h4]

theorem QnI {P : Prg} {f : Nat} (b : Qj P f 19 [.tmp 4] QD) : QcS P f := by
  intro c l
  refine VC.of_acall (by simp [isDL, isD, QO]) rfl (ACall.of_body b (by simp) ?_)
  by_cases h1 : c < 1
  · simp (maxSteps := 4000000) (disch := omega) only [rr, aop, cV, cV1, AV.one, Qb, okW, Qd, app, Qa, Qc, Qf, Qe, Qg, simprocAttr, QD, il, JJ]
  by_cases h2 : 6 < c
  · simp (maxSteps := 4000000) (disch := omega) only [rr, aop, cV, cV1, AV.one, Qb, okW, Qd, app, Qa, Qc, Qf, Qe, Qg, simprocAttr, QD, il, JJ]
  by_cases h3 : 4000 < l.length
  · simp (maxSteps := 4000000) (disch := omega) only [rr, aop, cV, cV1, AV.one, Qb, okW, Qd, app, Qa, Qc, Qf, Qe, Qg, simprocAttr, QD, il, JJ]
  have hm := Qay (n := l.length) (c := c) (by omega)
  by_cases h4 : (l.length : Int) % c = 0
  · simp (maxSteps := 4000000) (disch := omega) only [rr, aop, cV, cV1, AV.one, Qb, okW, Qd, app, Qa, Qc, Qf, Qe, Qg, simprocAttr, QD, il, JJ, h4]
  · have h5 : 0 < (l.length : Int) % c := by omega
    simp (maxSteps := 4000000) (disch := omega) only [rr, aop, cV, cV1, AV.one, Qb, okW, Qd, app, Qa, Qc, Qf, Qe, Qg, simprocAttr, QD, il, JJ, h4]

def Qhm (c : Nat) (l : List Int) (j : Nat) : Int :=
  if c = 1 then l.getD j 0
  else if j % c + 1 < c then w32 (l.getD (j + 1) 0 - l.getD j 0)
  else w32 (l.getD j 0 - (w32 (l.getD j 0 - l.getD (j - 1) 0)).tdiv 2)
def QkI (c : Nat) (l : List Int) (a : Nat) : List Int := (List.range l.length).map fun j => if j < a then Qhm c l j else l.getD j 0
def Z7 (c : Nat) (l : List Int) : List Int := (List.range l.length).map (Qhm c l)

theorem Qai (c : Nat) (l : List Int) (a : Nat) : (QkI c l a).length = l.length := by simp [QkI]
theorem Qw5 (c : Nat) (l : List Int) : QkI c l 0 = l := QcI (Qai _ _ _) fun j hj => by
  rw [Qai] at hj; rw [QkI, Zw hj, if_neg (by omega)]
theorem Qpp (c : Nat) (l : List Int) : QkI c l l.length = Z7 c l := by
  simp only [QkI, Z7]
  apply List.map_congr_left
  intro j hj
  rw [if_pos (by simpa using hj)]
theorem Qpm {c : Nat} {l : List Int} (h : I32 l) (j : Nat) : -2147483648 ≤ Qhm c l j ∧ Qhm c l j ≤ 2147483647 := by
  unfold Qhm
  split
  · exact Zf h j
  · split <;> exact X6 _
theorem QpT {c : Nat} {l : List Int} (h : I32 l) (a : Nat) : I32 (QkI c l a) := by
  intro v hv
  simp only [QkI, List.mem_map] at hv
  obtain ⟨j, _, rfl⟩ := hv
  split
  · exact Qpm h j
  · exact Zf h j
theorem Qiu {c : Nat} {l : List Int} (h : I32 l) : I32 (Z7 c l) := by rw [← Qpp]; exact QpT h _
theorem Qar (c : Nat) (l : List Int) : (Z7 c l).length = l.length := by simp [Z7]

theorem Qwa {c : Nat} {l : List Int} {m : Nat} (hc : 1 ≤ c) (h : c * m + c ≤ l.length) : Qgl (QkI c l (c * m)) (c * m) c = QkI c l (c * m + c) := by
  have mod : ∀ j, c * m ≤ j → j < c * m + c → j % c = j - c * m := fun j h1 h2 => by
    rw [show j = c * m + (j - c * m) by omega, Nat.mul_add_mod]
    rw [Nat.mod_eq_of_lt (by omega)]; omega
  have at' : ∀ j, j < l.length → c * m ≤ j → (QkI c l (c * m)).getD j 0 = l.getD j 0 := fun j h1 h2 => by rw [QkI, Zw h1, if_neg (by omega)]
  by_cases h1 : c = 1
  · subst h1
    simp only [Qgl, if_true]
    refine QcI (by simp [Qai]) fun j hj => ?_
    rw [Qai] at hj
    rw [QkI, QkI, Zw hj, Zw hj]
    by_cases q : j < 1 * m
    · rw [if_pos q, if_pos (by omega)]
    · rw [if_neg q]; split
      · simp [Qhm]
      · rfl
  · simp only [Qgl, if_neg h1]
    refine QcI (by simp [Qbx, Qai]) fun j hj => ?_
    have hj' : j < l.length := by simpa [Qbx, Qai] using hj
    rw [Qja (by simpa [Qbx, Qai] using hj')]
    rw [Qhl, Qai, Zw hj']
    conv => rhs; rw [QkI, Zw hj']
    by_cases e : c * m + (c - 1) = j
    · rw [if_pos e, if_pos (by omega), at' _ (by omega) (by omega), at' _ (by omega) (by omega)]
      subst e
      have := mod (c * m + (c - 1)) (by omega) (by omega)
      unfold Qhm
      rw [if_neg h1, if_neg (by rw [this]; omega), show c * m + (c - 1) - 1 = c * m + (c - 2) by omega]
    · rw [if_neg e]
      by_cases q : c * m ≤ j ∧ j < c * m + (c - 1)
      · rw [if_pos q, if_pos (by omega), at' _ (by omega) (by omega), at' _ (by omega) (by omega)]
        have := mod j (by omega) (by omega)
        unfold Qhm
        rw [if_neg h1, if_pos (by rw [this]; omega)]
      · rw [if_neg q, QkI, Zw hj']
        by_cases r : j < c * m
        · rw [if_pos r, if_pos (by omega)]
        · rw [if_neg r, if_neg (by omega)]

def okM (c : Nat) (l : List Int) : Prop := 1 ≤ c ∧ c ≤ 6 ∧ 0 < l.length ∧ l.length ≤ 4000 ∧ l.length % c = 0 ∧ I32 l
theorem QlT {c : Nat} {l : List Int} (h : okM c l) : JJ c l.length = 0 := by
  obtain ⟨h1, h2, h3, h4, h5, _⟩ := h
  unfold JJ
  rw [if_neg (by omega), if_neg (by omega), if_neg (by rw [← Int.natCast_emod, h5]; simp)]

def QcR (P : Prg) (f : Nat) : Prop := ∀ (c : Nat) (l : List Int), okM c l → VC P f [.int .i64 c, il l] (.tup [il (Z7 c l), .int .i64 0])

theorem Qpl {c m q : Nat} (h : c * m < c * q) : c * m + c ≤ c * q := by
  have : m < q := Nat.lt_of_mul_lt_mul_left h
  have := Nat.mul_le_mul_left c (show m + 1 ≤ q by omega)
  rw [Nat.mul_add, Nat.mul_one] at this
  exact this

theorem Qwc {P : Prg} {f fC fK fM t : Nat} (b : Qj P f 32 [.tmp 4, .tmp 5] (Qfg fC fK fM)) (hC : QcS P fC) (hK : QkE t P fK) (hM : QwH P fM) : QcR P f := by
  intro c l hok
  obtain ⟨h1, h2, h3, h4, h5, h6⟩ := id hok
  have hc := QlT hok
  obtain ⟨q, hq⟩ : ∃ q, l.length = c * q := ⟨l.length / c, by have := Nat.div_add_mod l.length c; omega⟩
  refine VC.of_walk 1 (by simp [isDL, isD, QO]) (by simp [isD, isDL, QO]) (ACall.of_body b (by simp) ?_)
  simp (maxSteps := 4000000) (disch := omega) only [rr, aop, cV, cV1, AV.one, Qb, okW, Qd, app, Qa, Qc, Qf, Qe, Qg, simprocAttr, Qfg]
  refine Qh.vc (hC c l) ?_
  have n0 : l.length ≠ 0 := by omega
  simp (maxSteps := 4000000) (disch := omega) only [rr, aop, cV, cV1, AV.one, Qb, okW, Qd, app, Qa, Qc, Qf, Qe, Qg, simprocAttr, hc, n0]
  refine hK l [] _ h3 (by omega) ?_
  simp (maxSteps := 4000000) (disch := omega) only [rr, aop, cV, cV1, AV.one, Qb, okW, Qd, app, Qa, Qc, Qf, Qe, Qg, simprocAttr, n0]
  refine QJ.by (ι := Nat) (fun m => ⟨[(8, .int .i64 (c * m : Nat)), (7, .own 0 l.length), (0, .int .i64 c)], [⟨t, 1, l.length, ks .i32 (QkI c l (c * m)), 0⟩]⟩) (fun m => m ≤ q) (fun m => q - m) 0 (by rw [Nat.mul_zero, Qw5]; exact Le.slots (by simp [Am.look])) (by omega) ?_
  intro m hm
  by_cases hlt : c * m < l.length
  · have hs := Qpl (c := c) (m := m) (q := q) (by rw [← hq]; exact hlt)
    rw [← hq] at hs
    have hmq : m < q := Nat.lt_of_mul_lt_mul_left (a := c) (b := m) (c := q) (by rw [← hq]; exact hlt)
    have e0 : c * m + c - c * m = c := by omega
    have hM' := hM t (QkI c l (c * m)) (c * m) c
    rw [Qai, Qwa h1 hs] at hM'
    simp (maxSteps := 4000000) (disch := omega) only [rr, aop, cV, cV1, AV.one, Qb, okW, Qd, app, Qa, Qc, Qf, Qe, Qg, simprocAttr, e0, n0]
    refine hM' _ (QpT h6 _) h1 hs (by omega) ?_
    simp (maxSteps := 4000000) (disch := omega) only [rr, aop, cV, cV1, AV.one, Qb, okW, Qd, app, Qa, Qc, Qf, Qe, Qg, simprocAttr]
    exact ⟨m + 1, by omega, by omega, by rw [show c * (m + 1) = c * m + c by rw [Nat.mul_add, Nat.mul_one]]; exact Le.slots (by simp [Am.look])⟩
  · have e : c * m = l.length := by
      have := Nat.mul_le_mul_left c hm
      omega
    rw [e, Qpp]
    have lm := Qar c l
    simp (maxSteps := 4000000) (disch := omega) only [rr, aop, cV, cV1, AV.one, Qb, okW, Qd, app, Qa, Qc, Qf, Qe, Qg, simprocAttr]
    simp [Zu, QS, frzL, QN, isDL, isD, il, lm, frzL_T _ (Qt .i32 (Z7 c l))]
end Go.Am

namespace Go.Am
open Go.RowKit

def QhH (c : Nat) (l : List Int) (a : Nat) : List Int := (List.range a).map (Qhm c l)
theorem Qpn (c : Nat) (l : List Int) (a : Nat) : (QhH c l a).length = a := by simp [QhH]
theorem QsJ (c : Nat) (l : List Int) (a : Nat) : QhH c l (a + 1) = QhH c l a ++ [Qhm c l a] := by simp [QhH, List.range_succ]
theorem Qpo (c : Nat) (l : List Int) : QhH c l l.length = Z7 c l := rfl
theorem QsK {c : Nat} {l : List Int} {a j : Nat} (h : j < a) : (QhH c l a).getD j 0 = Qhm c l j := Zw h

theorem Le.drop1 {o : Ob} {xs : List Ob} {fr fr' : List (Nat × AV)} (h : isTL o.cs = true)
    (hfr : ∀ p ∈ fr', p.2 = .any ∨ QS (fun o => decide (o < 1)) (fun o => decide (1 ≤ o)) (o :: xs) 2 [look fr p.1] = some [p.2]) : Le 0 ⟨fr, o :: xs⟩ ⟨fr', [o]⟩ := by
  refine Le.drop 1 2 (by omega) rfl hfr ?_
  intro i y hy
  match i, hy with
  | 0, hy =>
    simp at hy
    subst hy
    exact ⟨o.cs, by simp, by simp only [QS]; exact frzL_T _ h⟩
  | i + 1, hy => simp at hy

def Qkp (P : Prg) (f : Nat) : Prop := ∀ m : List Int, 0 < m.length → m.length ≤ 4000 → I32 m → VC P f [il m] (il (Z7 m.length m))

theorem QnH {P : Prg} {f fW t0 : Nat} (b : Qj P f 61 [.tmp 2] (Xt fW t0)) (hW : QgT P fW) : Qkp P f := by
  intro m h0 h1 hI
  refine VC.of_walk 1 (by simp [isDL, isD, QO]) (by simp [QO]) (ACall.of_body b (by simp) ?_)
  have n0 : m.length ≠ 0 := by omega
  have n0' : ∀ v : AV, (if m.length = 0 then (none : Option AV) else some v) = some v := fun v => if_neg n0
  simp (maxSteps := 4000000) (disch := omega) only [rr, aop, cV, cV1, AV.one, Qb, okW, Qd, app, Qa, Qc, Qf, Qe, Qg, simprocAttr, Xt, il]
  refine QJ.by (ι := Nat) (fun i => ⟨[(5, .int .i64 i), (4, .int .i64 m.length), (3, .own 0 i), (0, il m)], [⟨t0, 1, i, ks .i32 (QhH m.length m i), 0⟩]⟩) (fun i => i ≤ m.length) (fun i => m.length - i) 0 (Le.trans (Le.virt 3 t0 1 (by omega) rfl) (Le.slots (by simp [Am.look, il, QhH]))) (by omega) ?_
  intro i hi
  have lt := Qpn m.length m i
  have tk : isTL (ks .i32 (QhH m.length m (i + 1))) = true := Qt _ _
  have tm : isTL (ks .i32 m) = true := Qt _ _
  have fin : ∀ v, v = Qhm m.length m i → ks .i32 (QhH m.length m i) ++ [.int .i32 v] = ks .i32 (QhH m.length m (i + 1)) := by
    rintro _ rfl
    rw [Qe0, QsJ]
  by_cases hlt : i < m.length
  · by_cases hn : m.length = 1
    · have e1 := Qbn (K := .i32) (l := m) (i := 0) (by omega)
      have e2 := fin (m.getD 0 0) (by rw [Qhm, if_pos hn, show i = 0 by omega])
      simp (maxSteps := 4000000) (disch := omega) only [rr, aop, cV, cV1, AV.one, Qb, okW, Qd, app, Qa, Qc, Qf, Qe, Qg, simprocAttr, e1, e2, il]
      exact ⟨i + 1, by omega, by omega, Le.drop1 tk (by simp [Am.look, QS, frzL, QN, il, frzL_T _ tm])⟩
    by_cases hi1 : i < m.length - 1
    · have e1 := Qbn (K := .i32) (l := m) (i := i) (by omega)
      have e1' := Qbn (K := .i32) (l := m) (i := i + 1) (by omega)
      have e2 := fin (w32 (m.getD (i + 1) 0 - m.getD i 0)) (by rw [Qhm, if_neg hn, if_pos (by rw [Nat.mod_eq_of_lt hlt]; omega)])
      have r1 := Zf hI i
      have r2 := Zf hI (i + 1)
      simp (maxSteps := 4000000) (disch := omega) only [rr, aop, cV, cV1, AV.one, Qb, okW, Qd, app, Qa, Qc, Qf, Qe, Qg, simprocAttr, e1, e1', il]
      refine Q2.vc (hW _) ?_
      simp (maxSteps := 4000000) (disch := omega) only [rr, aop, cV, cV1, AV.one, Qb, okW, Qd, app, Qa, Qc, Qf, Qe, Qg, simprocAttr, e2]
      exact ⟨i + 1, by omega, by omega, Le.drop1 tk (by simp [Am.look, QS, frzL, QN, il, frzL_T _ tm])⟩
    · have e1 := Qbn (K := .i32) (l := m) (i := i) (by omega)
      have e1' := Qbn (K := .i32) (l := QhH m.length m i) (i := i - 1) (by omega)
      rw [QsK (by omega)] at e1'
      have a1 : Qhm m.length m i = w32 (m.getD i 0 - (w32 (m.getD i 0 - m.getD (i - 1) 0)).tdiv 2) := by
        rw [Qhm, if_neg hn, if_neg (by rw [Nat.mod_eq_of_lt hlt]; omega)]
      have a2 : Qhm m.length m (i - 1) = w32 (m.getD i 0 - m.getD (i - 1) 0) := by
        rw [Qhm, if_neg hn, if_pos (by rw [Nat.mod_eq_of_lt (by omega)]; omega), show i - 1 + 1 = i by omega]
      have e2 := fin (w32 (m.getD i 0 - (Qhm m.length m (i - 1)).tdiv 2)) (by rw [a1, a2])
      have r1 := Zf hI i
      have r2 := Qpm (c := m.length) hI (i - 1)
      have r3 := Qlp r2
      simp (maxSteps := 4000000) (disch := omega) only [rr, aop, cV, cV1, AV.one, Qb, okW, Qd, app, Qa, Qc, Qf, Qe, Qg, simprocAttr, e1, e1', il]
      refine Q2.vc (hW _) ?_
      simp (maxSteps := 4000000) (disch := omega) only [rr, aop, cV, cV1, AV.one, Qb, okW, Qd, app, Qa, Qc, Qf, Qe, Qg, simprocAttr, e2]
      exact ⟨i + 1, by omega, by omega, Le.drop1 tk (by simp [Am.look, QS, frzL, QN, il, frzL_T _ tm])⟩
  · have e : i = m.length := by omega
    subst e
    simp (maxSteps := 4000000) (disch := omega) only [rr, aop, cV, cV1, AV.one, Qb, okW, Qd, app, Qa, Qc, Qf, Qe, Qg, simprocAttr, Qpo]
    simp [Zu, QS, frzL, QN, il, frzL_T _ (Qt .i32 (Z7 m.length m)), Qar]
end Go.Am

namespace Go.Am
open Go.RowKit

theorem Qw8 (K : IntKind) (l : List Int) (a c : Nat) : ((ks K l).drop a).take c = ks K ((l.drop a).take c) := by simp [ks, List.map_drop, List.map_take]
theorem Qef {l : List Int} {a c j : Nat} (h : j < c) : ((l.drop a).take c).getD j 0 = l.getD (a + j) 0 := by
  simp [List.getD_eq_getElem?_getD, List.getElem?_take, h, List.getElem?_drop]
theorem QwJ {l : List Int} (h : I32 l) (a c : Nat) : I32 ((l.drop a).take c) := fun v hv => h v (List.mem_of_mem_drop (List.mem_of_mem_take hv))
theorem QuV {c : Nat} {l : List Int} {m j : Nat} (hj : j < c) : Qhm c ((l.drop (c * m)).take c) j = Qhm c l (c * m + j) := by
  have e : (c * m + j) % c = j := by rw [Nat.mul_add_mod, Nat.mod_eq_of_lt hj]
  unfold Qhm
  rw [e, Nat.mod_eq_of_lt hj]
  by_cases h1 : c = 1
  · rw [if_pos h1, if_pos h1, Qef hj]
  rw [if_neg h1, if_neg h1]
  by_cases h2 : j + 1 < c
  · rw [if_pos h2, if_pos h2, Qef hj, Qef h2, Nat.add_assoc]
  · rw [if_neg h2, if_neg h2, Qef hj, Qef (by omega), show c * m + (j - 1) = c * m + j - 1 by omega]
theorem QuW {c : Nat} {l : List Int} {m : Nat} (h : c * m + c ≤ l.length) : QhH c l (c * m) ++ Z7 c ((l.drop (c * m)).take c) = QhH c l (c * m + c) := by
  have hl : ((l.drop (c * m)).take c).length = c := by simp; omega
  rw [QhH, QhH, Z7, hl, List.range_add, List.map_append, List.map_map]
  congr 1
  apply List.map_congr_left
  intro j hj
  exact QuV (by simpa using hj)

theorem Qsj {P : Prg} {f fC fM t0 : Nat} (b : Qj P f 32 [.tmp 4, .tmp 5] (Ja fC fM t0)) (hC : QcS P fC) (hM : Qkp P fM) : QcR P f := by
  intro c l hok
  obtain ⟨h1, h2, h3, h4, h5, h6⟩ := id hok
  have hc := QlT hok
  obtain ⟨q, hq⟩ : ∃ q, l.length = c * q := ⟨l.length / c, by have := Nat.div_add_mod l.length c; omega⟩
  refine VC.of_walk 1 (by simp [isDL, isD, QO]) (by simp [isD, isDL, QO]) (ACall.of_body b (by simp) ?_)
  simp (maxSteps := 4000000) (disch := omega) only [rr, aop, cV, cV1, AV.one, Qb, okW, Qd, app, Qa, Qc, Qf, Qe, Qg, simprocAttr, Ja]
  refine Qh.vc (hC c l) ?_
  have n0 : l.length ≠ 0 := by omega
  simp (maxSteps := 4000000) (disch := omega) only [rr, aop, cV, cV1, AV.one, Qb, okW, Qd, app, Qa, Qc, Qf, Qe, Qg, simprocAttr, hc, n0]
  refine QJ.by (ι := Nat) (fun m => ⟨[(7, .int .i64 (c * m : Nat)), (6, .own 0 (c * m)), (1, il l), (0, .int .i64 c)], [⟨t0, 1, c * m, ks .i32 (QhH c l (c * m)), 0⟩]⟩) (fun m => m ≤ q) (fun m => q - m) 0 (by rw [Nat.mul_zero]; exact Le.trans (Le.virt 6 t0 1 (by omega) rfl) (Le.slots (by simp [Am.look, QhH]))) (by omega) ?_
  intro m hm
  have tm : isTL (ks .i32 l) = true := Qt _ _
  have lt := Qpn c l (c * m)
  by_cases hlt : c * m < l.length
  · have hs := Qpl (c := c) (m := m) (q := q) (by rw [← hq]; exact hlt)
    rw [← hq] at hs
    have hmq : m < q := Nat.lt_of_mul_lt_mul_left (a := c) (b := m) (c := q) (by rw [← hq]; exact hlt)
    have e0 : c * m + c - c * m = c := by omega
    have hl : ((l.drop (c * m)).take c).length = c := by simp; omega
    have la := Qar c ((l.drop (c * m)).take c)
    have e1 := Qw8 .i32 l (c * m) c
    have hM' := hM ((l.drop (c * m)).take c) (by omega) (by omega) (QwJ h6 _ _)
    rw [il, hl] at hM'
    have e2 : ks .i32 (QhH c l (c * m)) ++ ks .i32 (Z7 c ((l.drop (c * m)).take c)) = ks .i32 (QhH c l (c * m + c)) := by rw [← QuW hs]; simp [ks]
    simp (maxSteps := 4000000) (disch := omega) only [rr, aop, cV, cV1, AV.one, Qb, okW, Qd, app, Qa, Qc, Qf, Qe, Qg, simprocAttr, e0, n0, il, e1]
    refine Qh.vc hM' ?_
    simp (maxSteps := 4000000) (disch := omega) only [rr, aop, cV, cV1, AV.one, Qb, okW, Qd, app, Qa, Qc, Qf, Qe, Qg, simprocAttr, il, la, hl, e2]
    exact ⟨m + 1, by omega, by omega, by rw [show c * (m + 1) = c * m + c by rw [Nat.mul_add, Nat.mul_one]]; exact Le.slots (by simp [Am.look, il])⟩
  · have e : c * m = l.length := by
      have := Nat.mul_le_mul_left c hm
      omega
    rw [e, Qpo]
    have lm := Qar c l
    simp (maxSteps := 4000000) (disch := omega) only [rr, aop, cV, cV1, AV.one, Qb, okW, Qd, app, Qa, Qc, Qf, Qe, Qg, simprocAttr, il]
    simp [Zu, QS, frzL, QN, isDL, isD, il, lm, frzL_T _ (Qt .i32 (Z7 c l))]
end Go.Am

namespace Go.Am
open Go.RowKit

def QcO (c x : Int) (l : List Int) : Int := if ZD c x ≠ 0 then 2 else if Q3 x l ≠ 0 then Q3 x l else if l.length = 0 ∨ (l.length : Int) % c ≠ 0 then 2 else 0
theorem Qj8 {c x : Int} {l : List Int} (h : ZD c x = 2) : QcO c x l = 2 := by simp [QcO, h]
theorem Qj9 {c x : Int} {l : List Int} (h : ZD c x = 0) (h2 : Q3 x l ≠ 0) : QcO c x l = Q3 x l := by simp [QcO, h, h2]
theorem QgR {c x : Int} {l : List Int} (h : ZD c x = 0) (h2 : Q3 x l = 0) (h3 : l.length = 0 ∨ (l.length : Int) % c ≠ 0) : QcO c x l = 2 := by simp only [QcO, h, h2, if_pos h3]; simp
theorem QvD {c x : Int} {l : List Int} (h : ZD c x = 0) (h2 : Q3 x l = 0) (h3 : ¬ (l.length = 0 ∨ (l.length : Int) % c ≠ 0)) : QcO c x l = 0 := by simp only [QcO, h, h2, if_neg h3]; simp
theorem Zr (c x : Int) : ZD c x = 2 ∨ (ZD c x = 0 ∧ Qaf x ≠ 0 ∧ 1 ≤ c ∧ c ≤ 6) := by unfold ZD; split <;> omega
theorem Qe6 (x : Int) (l : List Int) : Q3 x l = 2 ∨ Q3 x l = 4 ∨ Q3 x l = 16 ∨ (Q3 x l = 0 ∧ Qaf x ≠ 0 ∧ l.length ≤ 4000) := by
  unfold Q3
  by_cases h : Qaf x = 0
  · simp [h]
  by_cases h2 : 4000 < l.length
  · simp [h, h2]
  by_cases h3 : l.all (inR x)
  · simp [h, h2, h3]; omega
  · simp [h, h2, h3]
theorem QoC {c x : Int} {l : List Int} (hI : I32 l) (h : QcO c x l = 0) : ∃ k : Nat, c = k ∧ okM k l ∧ Qaf x ≠ 0 := by
  rcases Zr c x with h1 | ⟨h1, h2, h3, h4⟩
  · rw [Qj8 h1] at h; omega
  by_cases h5 : Q3 x l = 0
  · by_cases h6 : l.length = 0 ∨ (l.length : Int) % c ≠ 0
    · rw [QgR h1 h5 h6] at h; omega
    · obtain ⟨k, rfl⟩ : ∃ k : Nat, c = k := ⟨c.toNat, by omega⟩
      refine ⟨k, rfl, ⟨by omega, by omega, by omega, by rcases Qe6 x l with h | h | h | h <;> omega, by omega, hI⟩, h2⟩
  · rw [Qj9 h1 h5] at h; exact absurd h h5

def Qhe (P : Prg) (f : Nat) : Prop := ∀ (c x : Int) (l : List Int), I32 l → VC P f [shA c x, il l] (.int .i64 (QcO c x l))

theorem Qju {P : Prg} {f fE fW t0 : Nat} (b : Qj P f 30 [.tmp 4] (Qaa fE fW t0)) (hE : Qa0 P fE) (hW : QbU P fW) : Qhe P f := by
  intro c x l hI
  refine VC.of_acall (by simp [isDL, isD, QO, shA]) rfl (ACall.of_body b (by simp) ?_)
  have hE' := hE c x
  rw [shA] at hE'
  simp (maxSteps := 4000000) (disch := omega) only [rr, aop, cV, cV1, AV.one, Qb, okW, Qd, app, Qa, Qc, Qf, Qe, Qg, simprocAttr, Qaa, shA]
  refine Qh.vc hE' ?_
  rcases Zr c x with h1 | ⟨h1, h2, h3, h4⟩
  · simp (maxSteps := 4000000) (disch := omega) only [rr, aop, cV, cV1, AV.one, Qb, okW, Qd, app, Qa, Qc, Qf, Qe, Qg, simprocAttr, h1, Qj8 h1]
  simp (maxSteps := 4000000) (disch := omega) only [rr, aop, cV, cV1, AV.one, Qb, okW, Qd, app, Qa, Qc, Qf, Qe, Qg, simprocAttr, h1]
  refine Qh.vc (hW x l hI) ?_
  by_cases h5 : Q3 x l = 0
  · have h9 : l.length ≤ 4000 := by rcases Qe6 x l with h | h | h | h <;> omega
    by_cases h6 : l.length = 0
    · simp (maxSteps := 4000000) (disch := omega) only [rr, aop, cV, cV1, AV.one, Qb, okW, Qd, app, Qa, Qc, Qf, Qe, Qg, simprocAttr, h5, il, h6, QgR h1 h5 (.inl h6)]
    · by_cases h7 : (l.length : Int) % c = 0
      · have hm := Qay (n := l.length) (c := c) (by omega)
        simp (maxSteps := 4000000) (disch := omega) only [rr, aop, cV, cV1, AV.one, Qb, okW, Qd, app, Qa, Qc, Qf, Qe, Qg, simprocAttr, h5, il, h6, h7, QvD h1 h5 (by omega)]
      · have hm := Qay (n := l.length) (c := c) (by omega)
        simp (maxSteps := 4000000) (disch := omega) only [rr, aop, cV, cV1, AV.one, Qb, okW, Qd, app, Qa, Qc, Qf, Qe, Qg, simprocAttr, h5, il, h6, h7, QgR h1 h5 (.inr h7)]
  · simp (maxSteps := 4000000) (disch := omega) only [rr, aop, cV, cV1, AV.one, Qb, okW, Qd, app, Qa, Qc, Qf, Qe, Qg, simprocAttr, h5, Qj9 h1 h5]

theorem QnF {P : Prg} {f fE fW t0 : Nat} (b : Qj P f 28 [.tmp 4] (Xr fE fW t0)) (hE : Qa0 P fE) (hW : QbU P fW) : Qhe P f := by
  intro c x l hI
  refine VC.of_acall (by simp [isDL, isD, QO, shA]) rfl (ACall.of_body b (by simp) ?_)
  have hE' := hE c x
  rw [shA] at hE'
  simp (maxSteps := 4000000) (disch := omega) only [rr, aop, cV, cV1, AV.one, Qb, okW, Qd, app, Qa, Qc, Qf, Qe, Qg, simprocAttr, Xr, shA]
  refine Qh.vc hE' ?_
  rcases Zr c x with h1 | ⟨h1, h2, h3, h4⟩
  · simp (maxSteps := 4000000) (disch := omega) only [rr, aop, cV, cV1, AV.one, Qb, okW, Qd, app, Qa, Qc, Qf, Qe, Qg, simprocAttr, h1, Qj8 h1]
  simp (maxSteps := 4000000) (disch := omega) only [rr, aop, cV, cV1, AV.one, Qb, okW, Qd, app, Qa, Qc, Qf, Qe, Qg, simprocAttr, h1]
  refine Qh.vc (hW x l hI) ?_
  by_cases h5 : Q3 x l = 0
  · have h9 : l.length ≤ 4000 := by rcases Qe6 x l with h | h | h | h <;> omega
    by_cases h6 : l.length = 0
    · simp (maxSteps := 4000000) (disch := omega) only [rr, aop, cV, cV1, AV.one, Qb, okW, Qd, app, Qa, Qc, Qf, Qe, Qg, simprocAttr, h5, il, h6, QgR h1 h5 (.inl h6)]
    · by_cases h7 : (l.length : Int) % c = 0
      · have hm := Qay (n := l.length) (c := c) (by omega)
        simp (maxSteps := 4000000) (disch := omega) only [rr, aop, cV, cV1, AV.one, Qb, okW, Qd, app, Qa, Qc, Qf, Qe, Qg, simprocAttr, h5, il, h6, h7, QvD h1 h5 (by omega)]
      · have hm := Qay (n := l.length) (c := c) (by omega)
        have hp : 0 < (l.length : Int) % c := by omega
        simp (maxSteps := 4000000) (disch := omega) only [rr, aop, cV, cV1, AV.one, Qb, okW, Qd, app, Qa, Qc, Qf, Qe, Qg, simprocAttr, h5, il, h6, h7, QgR h1 h5 (.inr h7)]
  · simp (maxSteps := 4000000) (disch := omega) only [rr, aop, cV, cV1, AV.one, Qb, okW, Qd, app, Qa, Qc, Qf, Qe, Qg, simprocAttr, h5]
    refine Qh.vc (hW x l hI) ?_
    simp (maxSteps := 4000000) (disch := omega) only [rr, aop, cV, cV1, AV.one, Qb, okW, Qd, app, Qa, Qc, Qf, Qe, Qg, simprocAttr, Qj9 h1 h5]

def Qrm (c : Nat) (l : List Int) (k n : Nat) : List Int := (List.range n).map fun i => l.getD (k + i * c) 0
theorem Qjh (c : Nat) (l : List Int) (k n : Nat) : (Qrm c l k n).length = n := by simp [Qrm]
theorem QsA (c : Nat) (l : List Int) (k n : Nat) : Qrm c l k n ++ [l.getD (k + n * c) 0] = Qrm c l k (n + 1) := by simp [Qrm, List.range_succ]
theorem QsB {c : Nat} {l : List Int} {k n i : Nat} (h : i < n) : (Qrm c l k n).getD i 0 = l.getD (k + i * c) 0 := Zw h
def Qhg (P : Prg) (f : Nat) : Prop := ∀ (c k q : Nat) (l : List Int), 1 ≤ c → k < c → l.length = c * q → l.length ≤ 4000 → VC P f [il l, .int .i64 k, .int .i64 c] (il (Qrm c l k q))

theorem Qsz {c k q n : Nat} (hk : k < c) : k + n * c < c * q ↔ n < q := by
  constructor
  · intro h
    refine Nat.lt_of_not_le fun h2 => ?_
    have := Nat.mul_le_mul_right c h2
    rw [Nat.mul_comm c q] at h
    omega
  · intro h
    have := Nat.mul_le_mul_right c (show n + 1 ≤ q from h)
    rw [Nat.add_mul, Nat.one_mul] at this
    rw [Nat.mul_comm c q]
    omega

theorem Qje {P : Prg} {f t0 : Nat} (b : Qj P f 25 [.tmp 6] (ZO t0)) : Qhg P f := by
  intro c k q l hc hk hq h4
  have tm : isTL (ks .i32 l) = true := Qt _ _
  refine VC.of_walk 1 (by simp [isDL, isD, QO]) (by simp [QO]) (ACall.of_body b (by simp) ?_)
  simp (maxSteps := 4000000) (disch := omega) only [rr, aop, cV, cV1, AV.one, Qb, okW, Qd, app, Qa, Qc, Qf, Qe, Qg, simprocAttr, ZO, il]
  refine QJ.by (ι := Nat) (fun n => ⟨[(8, .int .i64 (k + n * c : Nat)), (7, .own 0 n), (2, .int .i64 c), (0, il l)], [⟨t0, 1, n, ks .i32 (Qrm c l k n), 0⟩]⟩) (fun n => n ≤ q) (fun n => q - n) 0 (by rw [Nat.zero_mul]; exact Le.trans (Le.virt 7 t0 1 (by omega) rfl) (Le.slots (by simp [Am.look, il, Qrm]))) (by omega) ?_
  intro n hn
  have ln := Qjh c l k n
  by_cases hlt : n < q
  · have hin : k + n * c < l.length := by rw [hq]; exact (Qsz hk).2 hlt
    have e1 := Qbn (K := .i32) (l := l) (i := k + n * c) hin
    have e2 := QsA c l k n
    have en : k + n * c + c = k + (n + 1) * c := by rw [Nat.add_mul]; omega
    have hc2 : c ≤ 4000 := Nat.le_trans (Nat.le_mul_of_pos_right c (by omega)) (hq ▸ h4)
    have hq2 : n < 4000 := by
      have := Nat.mul_le_mul_left n hc
      omega
    simp (maxSteps := 4000000) (disch := omega) only [rr, aop, cV, cV1, AV.one, Qb, okW, Qd, app, Qa, Qc, Qf, Qe, Qg, simprocAttr, e1, il, Qe0, e2]
    exact ⟨n + 1, by omega, by omega, Le.drop1 (Qt _ _) (by simp [Am.look, QS, frzL, QN, il, frzL_T _ tm, Nat.add_mul, Int.add_mul, Int.add_assoc])⟩
  · have e : n = q := by omega
    subst e
    have hin : l.length ≤ k + n * c := by rw [hq]; exact Nat.le_of_not_lt fun h => hlt ((Qsz hk).1 h)
    simp (maxSteps := 4000000) (disch := omega) only [rr, aop, cV, cV1, AV.one, Qb, okW, Qd, app, Qa, Qc, Qf, Qe, Qg, simprocAttr, il]
    simp [Zu, QS, frzL, QN, il, frzL_T _ (Qt .i32 _), Qjh]
end Go.Am

namespace Go.Am
open Go.RowKit

/-! ### Six channels in one array -/

def six (S : Nat → JE) : List AV := QR (S 0) ++ (QR (S 1) ++ (QR (S 2) ++ (QR (S 3) ++ (QR (S 4) ++ QR (S 5)))))
def okS (S : Nat → JE) : Prop := ∀ k, QaK (S k).fl
theorem Qnj {S : Nat → JE} (h : okS S) : (six S).length = 210 := by simp [six, Zg (h _)]
theorem Qx8 {k : Nat} (h : k < 6) : k = 0 ∨ k = 1 ∨ k = 2 ∨ k = 3 ∨ k = 4 ∨ k = 5 := by omega
theorem QwV {S : Nat → JE} (h : okS S) {k : Nat} (hk : k < 6) : ((six S).drop (k * 35)).take 35 = QR (S k) := by
  have l := fun k => Zg (h k)
  rcases Qx8 hk with rfl | rfl | rfl | rfl | rfl | rfl <;> simp [six, List.drop_append, List.take_append, l, List.drop_eq_nil_of_le, Qn]
def upd (S : Nat → JE) (k : Nat) (c : JE) : Nat → JE := fun j => if j = k then c else S j
theorem Qr1 {S : Nat → JE} (h : okS S) {k : Nat} (hk : k < 6) (c : JE) : (six S).take (k * 35) ++ QR c ++ (six S).drop (k * 35 + 35) = six (upd S k c) := by
  have l := fun k => Zg (h k)
  rcases Qx8 hk with rfl | rfl | rfl | rfl | rfl | rfl <;> simp [six, upd, List.drop_append, List.take_append, l, List.drop_eq_nil_of_le, Qn]
theorem QlY (c : JE) : isTL (QR c) = true := by simp [QR, Ql, isTL, isT, QbE, Qt]
theorem Qu3 (S : Nat → JE) : isTL (six S) = true := by simp [six, QbE, QlY]
theorem QwD (S : Nat → JE) : (six S).all AV.one = true := by simp only [six, List.all_append, Zy, Bool.and_self]

/-! ### What is coded -/

def stC (c : Nat) (L : List Int) (z : JE) (k : Nat) : Nat → JE
  | 0 => z
  | n + 1 => Jm (stC c L z k n) (L.getD (k + n * c) 0)
def Qvq (c : Nat) (L : List Int) (z : JE) (j : Nat) : Int := Qgy (QgG (stC c L z (j % c) (j / c)) (L.getD j 0))
def Qh8 (c : Nat) (L : List Int) (z : JE) (a : Nat) : List Int := (List.range a).map (Qvq c L z)
theorem QfT (c : Nat) (L : List Int) (z : JE) (a : Nat) : (Qh8 c L z a).length = a := by simp [Qh8]
theorem QsC (c : Nat) (L : List Int) (z : JE) (a : Nat) : Qh8 c L z a ++ [Qvq c L z a] = Qh8 c L z (a + 1) := by simp [Qh8, List.range_succ]
theorem QlS {c : Nat} {L : List Int} {z : JE} (hL : I32 L) (hz : Quh z) (k : Nat) : ∀ n, Quh (stC c L z k n)
  | 0 => hz
  | n + 1 => Qjj (QlS hL hz k n) (Zf hL _)

def cnt (c k i : Nat) : Nat := if k < i % c then i / c + 1 else i / c
theorem Qx1 (c k : Nat) : cnt c k 0 = 0 := by simp [cnt]
theorem Qvg (c i : Nat) : cnt c (i % c) i = i / c := by simp [cnt]
theorem Qvf {c k i : Nat} (hk : k < c) : cnt c k (i + 1) = if k = i % c then i / c + 1 else cnt c k i := by
  have hc : 0 < c := by omega
  have hr := Nat.mod_lt i hc
  have hi := Nat.div_add_mod i c
  unfold cnt
  by_cases h : i % c + 1 < c
  · have e1 : (i + 1) % c = i % c + 1 := by
      rw [show i + 1 = c * (i / c) + (i % c + 1) by omega, Nat.mul_add_mod, Nat.mod_eq_of_lt h]
    have e2 : (i + 1) / c = i / c := by
      rw [show i + 1 = (i % c + 1) + c * (i / c) by omega, Nat.add_mul_div_left _ _ hc, Nat.div_eq_of_lt h, Nat.zero_add]
    rw [e1, e2]
    split <;> split <;> (try split) <;> omega
  · have e0 : i + 1 = c * (i / c + 1) := by rw [Nat.mul_add]; omega
    have e1 : (i + 1) % c = 0 := by rw [e0, Nat.mul_mod_right]
    have e2 : (i + 1) / c = i / c + 1 := by rw [e0, Nat.mul_div_cancel_left _ hc]
    rw [e1, e2]
    split <;> split <;> (try split) <;> omega
def stA (c : Nat) (L : List Int) (z : JE) (i : Nat) : Nat → JE := fun k => if k < c then stC c L z k (cnt c k i) else z
theorem QxM (c : Nat) (L : List Int) (z : JE) : stA c L z 0 = fun _ => z := by
  funext k; simp [stA, Qx1, stC]
theorem QwT {c : Nat} (hc : 1 ≤ c) (L : List Int) (z : JE) (i : Nat) : stA c L z i (i % c) = stC c L z (i % c) (i / c) := by
  rw [stA, if_pos (Nat.mod_lt _ (by omega)), Qvg]
theorem Quw {c : Nat} (hc : 1 ≤ c) (L : List Int) (z : JE) (i : Nat) : upd (stA c L z i) (i % c) (Jm (stC c L z (i % c) (i / c)) (L.getD i 0)) = stA c L z (i + 1) := by
  funext k
  have hr := Nat.mod_lt i (show 0 < c by omega)
  by_cases hk : k < c
  · simp only [upd, stA, if_pos hk, Qvf hk]
    by_cases e : k = i % c
    · rw [if_pos e, if_pos e, e, stC]
      rw [show i % c + i / c * c = i by have := Nat.div_add_mod i c; rw [Nat.mul_comm]; omega]
    · rw [if_neg e, if_neg e]
  · simp only [upd, stA, if_neg hk]
    rw [if_neg (by omega)]
theorem Qw2 {c : Nat} {L : List Int} {z : JE} (hL : I32 L) (hz : Quh z) (i : Nat) : okS (stA c L z i) := fun k => by
  unfold stA; split
  · exact (QlS hL hz k _).2.2.1
  · exact hz.2.2.1
def Qne (l : List Int) : AV := .list l.length (ks .u32 l)
theorem Qps (l : List Int) : isD (Qne l) = true := by simp [Qne, isD, QM]
theorem Le.dropT (os : List Ob) {xs : List Ob} {fr fr' : List (Nat × AV)} (h : ∀ o ∈ os, isTL o.cs = true)
    (hfr : ∀ p ∈ fr', p.2 = .any ∨ QS (fun o => decide (o < os.length)) (fun o => decide (os.length ≤ o)) (os ++ xs) 2 [look fr p.1] = some [p.2]) : Le 0 ⟨fr, os ++ xs⟩ ⟨fr', os⟩ := by
  refine Le.drop os.length 2 (by omega) rfl hfr ?_
  intro i y hy
  have hi : i < os.length := by
    rcases Nat.lt_or_ge i os.length with h | h
    · exact h
    · rw [List.getElem?_eq_none h] at hy; cases hy
  refine ⟨y.cs, by rw [List.getElem?_append_left hi]; exact hy, ?_⟩
  simp only [QS]
  exact frzL_T _ (h y (List.mem_of_getElem? hy))
end Go.Am

namespace Go.Am
open Go.RowKit

def Quo (c x : Int) (t l : List Int) : AV := if QcO c x l ≠ 0 then .tup [.list 0 [], .int .i64 (QcO c x l)] else .tup [Qne (Qh8 c.toNat (Z7 c.toNat l) (JO x t) l.length), .int .i64 0]
theorem Qwf (c x : Int) (t l : List Int) : isD (Quo c x t l) = true := by unfold Quo; split <;> simp [isD, isDL, Qps]
def QoN (P : Prg) (f : Nat) : Prop := ∀ (c x : Int) (t l : List Int), t.length = 16 → I32 t → I32 l → VC P f [shA c x, .agg (ks .i32 t), il l] (Quo c x t l)

theorem QfU : QaK QcT.fl := ⟨by simp [QcT, Qhp, z16], by simp [QcT, Qhp, z16], fun x hx => by simp [QcT, Qhp, z16] at hx; omega, fun x hx => by simp [QcT, Qhp, z16] at hx; omega⟩
def Qui (z : JE) (i : Nat) : Nat → JE := fun k => if k < i then z else QcT
theorem Qw3 (z : JE) : Qui z 0 = fun _ => QcT := by funext k; simp [Qui]
theorem QsG (z : JE) (i : Nat) : upd (Qui z i) i z = Qui z (i + 1) := by
  funext k
  simp only [upd, Qui]
  split <;> split <;> (try split) <;> first | rfl | omega
theorem Qv8 {z : JE} (h : QaK z.fl) (i : Nat) : okS (Qui z i) := fun k => by
  unfold Qui; split
  · exact h
  · exact QfU
theorem QxN (z : JE) : six (Qui z 6) = six (fun _ => z) := by simp [six, Qui]
theorem QsD {x : Int} (hx : Qaf x ≠ 0) {t : List Int} (hl : t.length = 16) (hI : I32 t) : Quh (JO x t) := ⟨hx, rfl, Qpj hl hI, by simp [JO]⟩

set_option maxRecDepth 20000 in
theorem QhM {P : Prg} {f fA fM fN fF fO t0 t1 t2 t3 t4 : Nat} (b : Qj P f 83 [.tmp 6, .tmp 7] (JN fA fM fN fF fO t0 t1 t2 t3 t4)) (hA : Qhe P fA) (hM : QcR P fM) (hN : Qit P fN) (hF : Qfm P fF) (hO : Qis P fO) : QoN P f := by
  intro c x t l hl hI hL
  have hk : (ks .i32 t).length = 16 := by simp [Qk, hl]
  have ot := XA .i32 t
  have tt : (ks .i32 t).take 16 = ks .i32 t := Qn (by omega)
  refine VC.of_walk 1 (by simp [isDL, isD, QO, QM, shA]) (Qwf _ _ _ _) (ACall.of_body b (by simp) ?_)
  have hA' := hA c x l hL
  rw [shA] at hA'
  unfold JN
  rw [show ([.int .i64 0, .int .i32 0, .int .i64 0, .int .i32 0, .int .i32 0, .int .i32 0, .int .i32 0, .int .i32 0, .int .i32 0, .int .i32 0, .int .i32 0, .int .i32 0, .int .i32 0, .int .i32 0, .int .i32 0, .int .i32 0, .int .i32 0, .int .i32 0, .int .i32 0, .int .i32 0, .int .i32 0, .int .i32 0, .int .i32 0, .int .i32 0, .int .i32 0, .int .i32 0, .int .i32 0, .int .i32 0, .int .i32 0, .int .i32 0, .int .i32 0, .int .i32 0, .int .i32 0, .int .i32 0, .int .i32 0, .int .i64 0, .int .i32 0, .int .i64 0, .int .i32 0, .int .i32 0, .int .i32 0, .int .i32 0, .int .i32 0, .int .i32 0, .int .i32 0, .int .i32 0, .int .i32 0, .int .i32 0, .int .i32 0, .int .i32 0, .int .i32 0, .int .i32 0, .int .i32 0, .int .i32 0, .int .i32 0, .int .i32 0, .int .i32 0, .int .i32 0, .int .i32 0, .int .i32 0, .int .i32 0, .int .i32 0, .int .i32 0, .int .i32 0, .int .i32 0, .int .i32 0, .int .i32 0, .int .i32 0, .int .i32 0, .int .i32 0, .int .i64 0, .int .i32 0, .int .i64 0, .int .i32 0, .int .i32 0, .int .i32 0, .int .i32 0, .int .i32 0, .int .i32 0, .int .i32 0, .int .i32 0, .int .i32 0, .int .i32 0, .int .i32 0, .int .i32 0, .int .i32 0, .int .i32 0, .int .i32 0, .int .i32 0, .int .i32 0, .int .i32 0, .int .i32 0, .int .i32 0, .int .i32 0, .int .i32 0, .int .i32 0, .int .i32 0, .int .i32 0, .int .i32 0, .int .i32 0, .int .i32 0, .int .i32 0, .int .i32 0, .int .i32 0, .int .i32 0, .int .i64 0, .int .i32 0, .int .i64 0, .int .i32 0, .int .i32 0, .int .i32 0, .int .i32 0, .int .i32 0, .int .i32 0, .int .i32 0, .int .i32 0, .int .i32 0, .int .i32 0, .int .i32 0, .int .i32 0, .int .i32 0, .int .i32 0, .int .i32 0, .int .i32 0, .int .i32 0, .int .i32 0, .int .i32 0, .int .i32 0, .int .i32 0, .int .i32 0, .int .i32 0, .int .i32 0, .int .i32 0, .int .i32 0, .int .i32 0, .int .i32 0, .int .i32 0, .int .i32 0, .int .i32 0, .int .i32 0, .int .i64 0, .int .i32 0, .int .i64 0, .int .i32 0, .int .i32 0, .int .i32 0, .int .i32 0, .int .i32 0, .int .i32 0, .int .i32 0, .int .i32 0, .int .i32 0, .int .i32 0, .int .i32 0, .int .i32 0, .int .i32 0, .int .i32 0, .int .i32 0, .int .i32 0, .int .i32 0, .int .i32 0, .int .i32 0, .int .i32 0, .int .i32 0, .int .i32 0, .int .i32 0, .int .i32 0, .int .i32 0, .int .i32 0, .int .i32 0, .int .i32 0, .int .i32 0, .int .i32 0, .int .i32 0, .int .i32 0, .int .i64 0, .int .i32 0, .int .i64 0, .int .i32 0, .int .i32 0, .int .i32 0, .int .i32 0, .int .i32 0, .int .i32 0, .int .i32 0, .int .i32 0, .int .i32 0, .int .i32 0, .int .i32 0, .int .i32 0, .int .i32 0, .int .i32 0, .int .i32 0, .int .i32 0, .int .i32 0, .int .i32 0, .int .i32 0, .int .i32 0, .int .i32 0, .int .i32 0, .int .i32 0, .int .i32 0, .int .i32 0, .int .i32 0, .int .i32 0, .int .i32 0, .int .i32 0, .int .i32 0, .int .i32 0, .int .i32 0] : List AV) = six (fun _ => QcT) from rfl, ← QaO]
  simp (maxSteps := 4000000) (disch := omega) only [rr, aop, cV, cV1, AV.one, Qb, okW, Qd, app, Qa, Qc, Qf, Qe, Qg, simprocAttr, shA, hk, ot, tt]
  refine Qh.vc hA' ?_
  by_cases h0 : QcO c x l = 0
  · obtain ⟨k, rfl, hok, hx⟩ := QoC hL h0
    have hz := QsD hx hl hI
    have l0 := Qnj (S := fun _ => QcT) (fun _ => QfU)
    have o0 := QwD (fun _ => QcT)
    simp (maxSteps := 4000000) (disch := omega) only [rr, aop, cV, cV1, AV.one, Qb, okW, Qd, app, Qa, Qc, Qf, Qe, Qg, simprocAttr, h0]
    refine Qh.vc (hM k l hok) ?_
    obtain ⟨h1, h2, h3, h4, h5, h6⟩ := id hok
    have lm := Qar k l
    have hI2 := Qiu (c := k) hL
    have tm : isTL (ks .i32 (Z7 k l)) = true := Qt _ _
    generalize hm : Z7 k l = m at lm hI2 tm
    simp (maxSteps := 4000000) (disch := omega) only [rr, aop, cV, cV1, AV.one, Qb, okW, Qd, app, Qa, Qc, Qf, Qe, Qg, simprocAttr, l0, o0]
    refine QJ.by (ι := Nat) (fun i => ⟨[(36, .int .i64 i), (11, .ref 2 1 0), (9, il m), (4, .ref 1 1 0), (3, .ref 0 1 0)], [⟨t0, 2, 1, [.int .i64 k, .int .i64 x], 0⟩, ⟨t1, 16, 1, ks .i32 t, 0⟩, ⟨t2, 210, 1, six (Qui (JO x t) i), 0⟩]⟩) (fun i => i ≤ 6) (fun i => 6 - i) 0 (by rw [Qw3]; exact Le.slots (by simp [Am.look])) (by omega) ?_
    intro i hi
    have oS := Qv8 hz.2.2.1 i
    have lS := Qnj oS
    by_cases hlt : i < 6
    · have e1 := Qr1 oS hlt (JO x t)
      rw [QsG] at e1
      have lc := Zg hz.2.2.1
      have oc := Zy (JO x t)
      simp (maxSteps := 4000000) (disch := omega) only [rr, aop, cV, cV1, AV.one, Qb, okW, Qd, app, Qa, Qc, Qf, Qe, Qg, simprocAttr, hk, tt]
      refine Qh.vc (hN x t hl hI) ?_
      simp (maxSteps := 4000000) (disch := omega) only [rr, aop, cV, cV1, AV.one, Qb, okW, Qd, app, Qa, Qc, Qf, Qe, Qg, simprocAttr, QjK, if_neg hx, lS, lc, oc, e1]
      exact ⟨i + 1, by omega, by omega, Le.slots (by simp [Am.look])⟩
    · have : i = 6 := by omega
      subst this
      simp (maxSteps := 4000000) (disch := omega) only [rr, aop, cV, cV1, AV.one, Qb, okW, Qd, app, Qa, Qc, Qf, Qe, Qg, simprocAttr, il]
      refine QJ.by (ι := Nat) (fun i => ⟨[(51, .int .i64 i), (50, .int .i64 m.length), (49, il m), (13, .own 3 i), (11, .ref 2 1 0), (3, .ref 0 1 0)], [⟨t0, 2, 1, [.int .i64 k, .int .i64 x], 0⟩, ⟨t1, 16, 1, ks .i32 t, 0⟩, ⟨t2, 210, 1, six (stA k m (JO x t) i), 0⟩, ⟨t4, 1, i, ks .u32 (Qh8 k m (JO x t) i), 0⟩]⟩) (fun i => i ≤ m.length) (fun i => m.length - i) 0 (by rw [QxM, ← QxN]; exact Le.trans (Le.virt 13 t4 1 (by omega) rfl) (Le.slots (by simp [Am.look, Qh8, il]))) (by omega) ?_
      intro i hi
      have lo := QfT k m (JO x t) i
      by_cases hlt : i < m.length
      · have oS := Qw2 hI2 hz (c := k) i
        have lS := Qnj oS
        have hr := Nat.mod_lt i (show 0 < k by omega)
        have e0 := QwV oS (k := i % k) (by omega)
        rw [QwT h1] at e0
        have e1 := Qr1 oS (k := i % k) (by omega) (Jm (stC k m (JO x t) (i % k) (i / k)) (m.getD i 0))
        rw [Quw h1] at e1
        have hok2 := QlS (c := k) hI2 hz (i % k) (i / k)
        have hok3 := Qjj hok2 (Zf hI2 i)
        have hF' := hF _ (m.getD i 0) hok2 (Zf hI2 i)
        have hO' := hO (QgG (stC k m (JO x t) (i % k) (i / k)) (m.getD i 0)) (X6 _)
        have e2 := Qbn (K := .i32) (l := m) (i := i) hlt
        have e3 : ks .u32 (Qh8 k m (JO x t) i) ++ [.int .u32 (Qgy (QgG (stC k m (JO x t) (i % k) (i / k)) (m.getD i 0)))] = ks .u32 (Qh8 k m (JO x t) (i + 1)) := by rw [Qe0, ← QsC]; rfl
        have lc := Zg hok3.2.2.1
        have oc := Zy (Jm (stC k m (JO x t) (i % k) (i / k)) (m.getD i 0))
        have tc : (QR (Jm (stC k m (JO x t) (i % k) (i / k)) (m.getD i 0))).take 35 = QR (Jm (stC k m (JO x t) (i % k) (i / k)) (m.getD i 0)) := Qn (by omega)
        have lz := Zg QfU
        have oz := Zy QcT
        have dz : (QR QcT).drop 35 = [] := List.drop_eq_nil_of_le (by omega)
        have em : (i : Int) % k = (i % k : Nat) := by omega
        simp (maxSteps := 4000000) (disch := omega) only [rr, aop, cV, cV1, AV.one, Qb, okW, Qd, app, Qa, Qc, Qf, Qe, Qg, simprocAttr, il, e2, em, e0]
        refine Qh.vc hF' ?_
        simp (maxSteps := 4000000) (disch := omega) only [rr, aop, cV, cV1, AV.one, Qb, okW, Qd, app, Qa, Qc, Qf, Qe, Qg, simprocAttr, lz, oz, lc, oc, tc, e1, lS, dz, List.append_nil]
        refine Qh.vc hO' ?_
        simp (maxSteps := 4000000) (disch := omega) only [rr, aop, cV, cV1, AV.one, Qb, okW, Qd, app, Qa, Qc, Qf, Qe, Qg, simprocAttr, e3]
        exact ⟨i + 1, by omega, by omega, Le.dropT [_, _, _, _] (by simp [Qu3, Qt, isTL, isT]) (by simp [Am.look, QS, frzL, QN, frzL_T _ tm])⟩
      · have : i = m.length := by omega
        subst this
        have e9 : Quo k x t l = .tup [Qne (Qh8 k m (JO x t) m.length), .int .i64 0] := by simp [Quo, h0, hm, lm]
        clear hi hlt
        have hq : ¬ (m.length : Int) < m.length := by omega
        simp (maxSteps := 4000000) (disch := omega) only [rr, aop, cV, cV1, AV.one, Qb, okW, Qd, app, Qa, Qc, Qf, Qe, Qg, simprocAttr, e9]
        simp [Zu, QS, frzL, QN, isDL, isD, Qne, lo, frzL_T _ (Qt .u32 _)]
  · have e9 : Quo c x t l = .tup [.list 0 [], .int .i64 (QcO c x l)] := by simp [Quo, h0]
    simp (maxSteps := 4000000) (disch := omega) only [rr, aop, cV, cV1, AV.one, Qb, okW, Qd, app, Qa, Qc, Qf, Qe, Qg, simprocAttr, h0, e9]
    simp [Zu, QS, frzL, QN, isDL, isD]
end Go.Am

namespace Go.Am
open Go.RowKit

def QkL (c : Nat) (m : List Int) (z : JE) (k n : Nat) : List Int := (List.range m.length).map fun j => if j % c < k ∨ (j % c = k ∧ j / c < n) then Qvq c m z j else 0
theorem QfZ (c : Nat) (m : List Int) (z : JE) (k n : Nat) : (QkL c m z k n).length = m.length := by simp [QkL]
theorem Qwx (c : Nat) (m : List Int) (z : JE) : QkL c m z 0 0 = List.replicate m.length 0 := by
  apply List.ext_getElem (by simp [QkL])
  intro i h1 h2
  simp [QkL]
theorem QtN {c k : Nat} (n : Nat) (hk : k < c) : (k + n * c) % c = k ∧ (k + n * c) / c = n := by
  rw [Nat.mul_comm, Nat.add_mul_mod_self_left, Nat.mod_eq_of_lt hk, Nat.add_mul_div_left _ _ (by omega), Nat.div_eq_of_lt hk]
  omega
theorem Qtn {c k n : Nat} {m : List Int} (hk : k < c) (h : k + n * c < m.length) (z : JE) : (QkL c m z k n).set (k + n * c) (Qvq c m z (k + n * c)) = QkL c m z k (n + 1) := QcI (by simp [QfZ]) fun j hj => by
  have hj' : j < m.length := by simpa [QfZ] using hj
  rw [Qja (by rw [QfZ]; exact hj'), QkL, QkL, Zw hj', Zw hj']
  have ha := QtN n hk
  by_cases e : k + n * c = j
  · subst e
    rw [if_pos rfl, ha.1, ha.2, if_pos (by omega)]
  · rw [if_neg e]
    have hd := Nat.div_add_mod j c
    by_cases q : j % c < k ∨ (j % c = k ∧ j / c < n)
    · rw [if_pos q, if_pos (by omega)]
    · rw [if_neg q, if_neg]
      rintro (h1 | ⟨h1, h2⟩)
      · omega
      · have : j / c = n := by omega
        rw [this, h1, Nat.mul_comm] at hd
        omega
theorem Qto {c k q : Nat} {m : List Int} (hc : 1 ≤ c) (h : m.length = c * q) (z : JE) : QkL c m z k q = QkL c m z (k + 1) 0 := by
  simp only [QkL]
  apply List.map_congr_left
  intro j hj
  have hj' : j < c * q := by rw [← h]; simpa using hj
  have hd : j / c < q := Nat.div_lt_of_lt_mul hj'
  generalize j / c = d at hd
  generalize Qvq c m z j = v
  by_cases e : j % c < k + 1
  · rw [if_pos (by omega), if_pos (.inl e)]
  · rw [if_neg (by omega), if_neg (by omega)]
theorem Qve {c : Nat} {m : List Int} (hc : 1 ≤ c) (z : JE) : QkL c m z c 0 = Qh8 c m z m.length := by
  simp only [QkL, Qh8]
  apply List.map_congr_left
  intro j hj
  rw [if_pos (.inl (Nat.mod_lt _ (by omega)))]
theorem Qv7 {c k : Nat} (n : Nat) (hk : k < c) (m : List Int) (z : JE) : Qvq c m z (k + n * c) = Qgy (QgG (stC c m z k n) (m.getD (k + n * c) 0)) := by
  rw [Qvq, (QtN n hk).1, (QtN n hk).2]

theorem Qpc (K : IntKind) : ∀ n : Nat, Qu [.int K 0] n = ks K (List.replicate n 0)
  | 0 => rfl
  | n + 1 => by rw [Qu, Qpc K n]; simp [ks, List.replicate_succ]

def Qkr (P : Prg) (f : Nat) : Prop := ∀ (c : Nat) (x : Int) (t l : List Int), t.length = 16 → I32 t → okM c l → Qaf x ≠ 0 → VC P f [shA c x, .agg (ks .i32 t), il l] (Qne (Qh8 c (Z7 c l) (JO x t) l.length))

set_option maxRecDepth 20000 in
theorem QnC {P : Prg} {f fM fN fC fS fO t0 t1 t2 t3 : Nat} (b : Qj P f 72 [.tmp 6] (Xp fM fN fC fS fO t0 t1 t2 t3)) (hM : QcR P fM) (hN : Qit P fN) (hC : Qhg P fC) (hS : Qg1 P fS) (hO : Qis P fO) : Qkr P f := by
  intro c x t l hl hI hok hx
  have hk : (ks .i32 t).length = 16 := by simp [Qk, hl]
  have ot := XA .i32 t
  have tt : (ks .i32 t).take 16 = ks .i32 t := Qn (by omega)
  refine VC.of_walk 1 (by simp [isDL, isD, QO, QM, shA]) (by simp [Qps]) (ACall.of_body b (by simp) ?_)
  have hz := QsD hx hl hI
  obtain ⟨h1, h2, h3, h4, h5, h6⟩ := id hok
  obtain ⟨q, hq⟩ : ∃ q, l.length = c * q := ⟨l.length / c, by have := Nat.div_add_mod l.length c; omega⟩
  have hq2 : q ≤ 4000 := Nat.le_trans (Nat.le_mul_of_pos_left q (by omega)) (hq ▸ h4)
  unfold Xp
  rw [← QaO]
  simp (maxSteps := 4000000) (disch := omega) only [rr, aop, cV, cV1, AV.one, Qb, okW, Qd, app, Qa, Qc, Qf, Qe, Qg, simprocAttr, shA, hk, ot, tt]
  refine Qh.vc (hM c l hok) ?_
  have lm := Qar c l
  have hI2 := Qiu (c := c) h6
  have tm : isTL (ks .i32 (Z7 c l)) = true := Qt _ _
  generalize hm : Z7 c l = m at lm hI2 tm
  have e0 : Qu [.int .u32 0] l.length = ks .u32 (QkL c m (JO x t) 0 0) := by rw [Qwx, lm, Qpc]
  simp (maxSteps := 4000000) (disch := omega) only [rr, aop, cV, cV1, AV.one, Qb, okW, Qd, app, Qa, Qc, Qf, Qe, Qg, simprocAttr, il, e0]
  refine QJ.by (ι := Nat) (fun k => ⟨[(10, .int .i64 k), (9, .own 2 l.length), (7, il m), (4, .ref 1 1 0), (3, .ref 0 1 0)], [⟨t0, 2, 1, [.int .i64 c, .int .i64 x], 0⟩, ⟨t1, 16, 1, ks .i32 t, 0⟩, ⟨t2, 1, l.length, ks .u32 (QkL c m (JO x t) k 0), 0⟩]⟩) (fun k => k ≤ c) (fun k => c - k) 0 (Le.slots (by simp [Am.look, il, lm])) (by omega) ?_
  intro k hkc
  by_cases hlt : k < c
  · simp (maxSteps := 4000000) (disch := omega) only [rr, aop, cV, cV1, AV.one, Qb, okW, Qd, app, Qa, Qc, Qf, Qe, Qg, simprocAttr, hk, tt]
    refine Qh.vc (hN x t hl hI) ?_
    have hok0 := hz
    have lz := Zg QfU
    have oz := Zy QcT
    have dz : (QR QcT).drop 35 = [] := List.drop_eq_nil_of_le (by omega)
    have ln := Zg hz.2.2.1
    have on := Zy (JO x t)
    simp (maxSteps := 4000000) (disch := omega) only [rr, aop, cV, cV1, AV.one, Qb, okW, Qd, app, Qa, Qc, Qf, Qe, Qg, simprocAttr, QjK, if_neg hx, lz, oz, dz, ln, on, List.append_nil, List.take_zero, List.nil_append]
    refine Qh.vc (hC c k q m h1 hlt (by omega) (by omega)) ?_
    have lw := Qjh c m k q
    have tw : isTL (ks .i32 (Qrm c m k q)) = true := Qt _ _
    simp (maxSteps := 4000000) (disch := omega) only [rr, aop, cV, cV1, AV.one, Qb, okW, Qd, app, Qa, Qc, Qf, Qe, Qg, simprocAttr, il]
    refine QJ.by (ι := Nat) (fun n => ⟨[(14, .int .i64 n), (13, il (Qrm c m k q)), (11, .ref 3 1 0), (10, .int .i64 k), (9, .own 2 l.length), (7, il m), (4, .ref 1 1 0), (3, .ref 0 1 0)], [⟨t0, 2, 1, [.int .i64 c, .int .i64 x], 0⟩, ⟨t1, 16, 1, ks .i32 t, 0⟩, ⟨t2, 1, l.length, ks .u32 (QkL c m (JO x t) k n), 0⟩, ⟨t3, 35, 1, QR (stC c m (JO x t) k n), 0⟩]⟩) (fun n => n ≤ q) (fun n => q - n) 0 (Le.slots (by simp [Am.look, il])) (by omega) ?_
    intro n hn
    have hst := QlS (c := c) hI2 hz k n
    have lst := Zg hst.2.2.1
    have ost := Zy (stC c m (JO x t) k n)
    have tst : (QR (stC c m (JO x t) k n)).take 35 = QR (stC c m (JO x t) k n) := Qn (by omega)
    have dst : (QR (stC c m (JO x t) k n)).drop 35 = [] := List.drop_eq_nil_of_le (by omega)
    have lcod := QfZ c m (JO x t) k n
    by_cases hnq : n < q
    · have hin : k + n * c < m.length := by rw [lm, hq]; exact (Qsz hlt).2 hnq
      have e1 := Qbn (K := .i32) (l := Qrm c m k q) (i := n) (by omega)
      rw [QsB hnq] at e1
      have hx2 := Zf hI2 (k + n * c)
      have hS' := hS _ (m.getD (k + n * c) 0) hst hx2
      have hO' := hO (QgG (stC c m (JO x t) k n) (m.getD (k + n * c) 0)) (X6 _)
      rw [← Qv7 n hlt] at hO'
      have hst2 := QlS (c := c) hI2 hz k (n + 1)
      have eC : Jm (stC c m (JO x t) k n) (m.getD (k + n * c) 0) = stC c m (JO x t) k (n + 1) := rfl
      rw [eC] at hS'
      have lst2 := Zg hst2.2.2.1
      have ost2 := Zy (stC c m (JO x t) k (n + 1))
      have tst2 : (QR (stC c m (JO x t) k (n + 1))).take 35 = QR (stC c m (JO x t) k (n + 1)) := Qn (by omega)
      have e2 := QsQ (K := .u32) (l := QkL c m (JO x t) k n) (i := k + n * c) (by omega) (Qvq c m (JO x t) (k + n * c))
      rw [Qtn hlt hin] at e2
      simp (maxSteps := 4000000) (disch := omega) only [rr, aop, cV, cV1, AV.one, Qb, okW, Qd, app, Qa, Qc, Qf, Qe, Qg, simprocAttr, il, tst, e1]
      refine Q2.vc hS' ?_
      have en : (n : Int) * c = ((n * c : Nat) : Int) := by simp
      simp (maxSteps := 4000000) (disch := omega) only [rr, aop, cV, cV1, AV.one, Qb, okW, Qd, app, Qa, Qc, Qf, Qe, Qg, simprocAttr, lz, oz, dz, lst2, ost2, tst2, en, List.append_nil, List.take_zero, List.nil_append]
      refine Q2.vc hO' ?_
      simp (maxSteps := 4000000) (disch := omega) only [rr, aop, cV, cV1, AV.one, Qb, okW, Qd, app, Qa, Qc, Qf, Qe, Qg, simprocAttr, lst, lst2, ost2, tst2, dst, e2, List.append_nil, List.take_zero, List.nil_append]
      exact ⟨n + 1, by omega, by omega, Le.dropT [_, _, _, _] (by simp [QlY, Qt, isTL, isT]) (by simp [Am.look, QS, frzL, QN, frzL_T _ tm, frzL_T _ tw])⟩
    · have : n = q := by omega
      subst this
      have e9 := Qto (k := k) h1 (show m.length = c * n by omega) (JO x t)
      rw [e9]
      simp (maxSteps := 4000000) (disch := omega) only [rr, aop, cV, cV1, AV.one, Qb, okW, Qd, app, Qa, Qc, Qf, Qe, Qg, simprocAttr, lw, il]
      exact ⟨k + 1, by omega, by omega, Le.dropT [_, _, _] (by simp [Qt, isTL, isT]) (by simp [Am.look, QS, frzL, QN, frzL_T _ tm])⟩
  · have : k = c := by omega
    subst this
    rw [Qve h1]
    have lo := QfT k m (JO x t) m.length
    rw [lm] at lo ⊢
    simp (maxSteps := 4000000) (disch := omega) only [rr, aop, cV, cV1, AV.one, Qb, okW, Qd, app, Qa, Qc, Qf, Qe, Qg, simprocAttr]
    simp [Zu, QS, frzL, QN, isDL, isD, Qne, lo, frzL_T _ (Qt .u32 _)]
end Go.Am

namespace Go.Am
open Go.RowKit

def QwQ : Sh := .tuple (List.replicate 16 (.int .i32))
theorem Qig (K : IntKind) : ∀ (n : Nat) (cs0 : List AV), FitsL (List.replicate n (.int K)) cs0 → ∃ t : List Int, cs0 = ks K t ∧ t.length = n ∧ ∀ x ∈ t, K.min ≤ x ∧ x ≤ K.max
  | 0, cs0, h => by
    simp only [List.replicate, FitsL] at h
    exact ⟨[], by simpa [ks] using h, rfl, by simp⟩
  | n + 1, cs0, h => by
    simp only [List.replicate, FitsL, QbW] at h
    obtain ⟨_, r, rfl, ⟨x, rfl, h1, h2⟩, h3⟩ := h
    obtain ⟨t, rfl, h4, h5⟩ := Qig K n r h3
    exact ⟨x :: t, by simp [ks], by simp [h4], fun y hy => by
      rcases List.mem_cons.1 hy with rfl | hy
      · exact ⟨h1, h2⟩
      · exact h5 y hy⟩
theorem Qxf {cs0 : List AV} (h : QbW QwQ cs0) : ∃ t : List Int, cs0 = ks .i32 t ∧ t.length = 16 ∧ I32 t := by
  simp only [QwQ, QbW] at h
  obtain ⟨t, h1, h2, h3⟩ := Qig .i32 16 cs0 h
  exact ⟨t, h1, h2, fun x hx => by have := h3 x hx; simpa [IntKind.min, IntKind.max, IntKind.signed, IntKind.bits] using this⟩
end Go.Am

namespace Go.Am
open Go.RowKit

/-! ### What is uncoded -/

def U32 (l : List Int) : Prop := ∀ x ∈ l, 0 ≤ x ∧ x < 4294967296
end Go.Am

namespace Go.Am
open Go.RowKit

def QgE (r n : Int) : AV := if r < 1 ∨ 1048576 < r then .tup [.int .i64 0, .int .i64 2] else if n < 1 ∨ 4000 < n then .tup [.int .i64 0, .int .i64 2] else if 1000 < (n + QC r - 1) / QC r then .tup [.int .i64 0, .int .i64 4] else .tup [.int .i64 ((n + QC r - 1) / QC r), .int .i64 0]
theorem QsV (r n : Int) : isD (QgE r n) = true := by unfold QgE; split <;> (try split) <;> (try split) <;> rfl
def J2 (P : Prg) (f : Nat) : Prop := ∀ r n : Int, VC P f [.int .i64 r, .int .i64 n] (QgE r n)

theorem Qjm {P : Prg} {f fL : Nat} (b : Qj P f 32 [.tmp 4, .tmp 5] (J9 fL)) (hL : QbV P fL) : J2 P f := by
  intro r n
  refine VC.of_acall rfl (QsV _ _) (ACall.of_body b (by simp) ?_)
  have hL' := hL r
  simp (maxSteps := 4000000) (disch := omega) only [rr, aop, cV, cV1, AV.one, Qb, okW, Qd, app, Qa, Qc, Qf, Qe, Qg, simprocAttr, J9]
  refine Qh.vc hL' ?_
  by_cases h1 : r < 1 ∨ 1048576 < r
  · have e1 : Qb0 r = .tup [.int .i64 0, .int .i64 2] := by rw [Qb0, if_pos h1]
    have e2 : QgE r n = .tup [.int .i64 0, .int .i64 2] := by rw [QgE, if_pos h1]
    simp (maxSteps := 4000000) (disch := omega) only [rr, aop, cV, cV1, AV.one, Qb, okW, Qd, app, Qa, Qc, Qf, Qe, Qg, simprocAttr, e1, e2]
  have e1 : Qb0 r = .tup [.int .i64 (QC r), .int .i64 0] := by rw [Qb0, if_neg h1]
  have p1 := Xd r
  have p2 := Qjl (r := r) (by omega)
  by_cases h2 : n < 1
  · have e2 : QgE r n = .tup [.int .i64 0, .int .i64 2] := by rw [QgE, if_neg h1, if_pos (.inl h2)]
    simp (maxSteps := 4000000) (disch := omega) only [rr, aop, cV, cV1, AV.one, Qb, okW, Qd, app, Qa, Qc, Qf, Qe, Qg, simprocAttr, e1, e2]
  by_cases h3 : 4000 < n
  · have e2 : QgE r n = .tup [.int .i64 0, .int .i64 2] := by rw [QgE, if_neg h1, if_pos (.inr h3)]
    simp (maxSteps := 4000000) (disch := omega) only [rr, aop, cV, cV1, AV.one, Qb, okW, Qd, app, Qa, Qc, Qf, Qe, Qg, simprocAttr, e1, e2]
  have e2 : QgE r n = if 1000 < (n + QC r - 1) / QC r then .tup [.int .i64 0, .int .i64 4] else .tup [.int .i64 ((n + QC r - 1) / QC r), .int .i64 0] := by
    rw [QgE, if_neg h1, if_neg (by omega)]
  generalize QC r = L at *
  have q0 : (n + L - 1).tdiv L = (n + L - 1) / L := Int.tdiv_eq_ediv_of_nonneg (by omega)
  have q1 : 0 ≤ (n + L - 1) / L := Int.ediv_nonneg (by omega) (by omega)
  have q2 : (n + L - 1) / L ≤ n + L - 1 := Int.ediv_le_self _ (by omega)
  generalize hq : (n + L - 1) / L = Q at *
  by_cases h4 : 1000 < Q
  · rw [if_pos h4] at e2
    simp (maxSteps := 4000000) (disch := omega) only [rr, aop, cV, cV1, AV.one, Qb, okW, Qd, app, Qa, Qc, Qf, Qe, Qg, simprocAttr, e1, q0, hq, e2]
  · rw [if_neg h4] at e2
    simp (maxSteps := 4000000) (disch := omega) only [rr, aop, cV, cV1, AV.one, Qb, okW, Qd, app, Qa, Qc, Qf, Qe, Qg, simprocAttr, e1, q0, hq, e2]

def J1 (P : Prg) (f : Nat) : Prop := ∀ (c x r : Int) (l : List Int), VC P f [.agg [.int .i64 c, .int .i64 x, .int .i64 r, il l]] (shA c x)
theorem Qq3 {P : Prg} {f t0 t1 : Nat} (b : Qj P f 8 [.cell 2 t1] (QbQ t0 t1)) (ht : Q4 P t1 = some (some 2)) : J1 P f := by
  intro c x r l
  refine VC.of_acall (by simp [isDL, isD, QO]) rfl (ACall.of_body b (by simp) ?_)
  simp (maxSteps := 4000000) (disch := omega) only [rr, aop, cV, cV1, AV.one, Qb, okW, Qd, app, Qa, Qc, Qf, Qe, Qg, simprocAttr, QbQ, il, ZK, ht, shA]
theorem Qny {P : Prg} {f t0 t1 : Nat} (b : Qj P f 8 [.cell 2 t1] (Xm t0 t1)) (ht : Q4 P t1 = some (some 2)) : J1 P f := by
  intro c x r l
  refine VC.of_acall (by simp [isDL, isD, QO]) rfl (ACall.of_body b (by simp) ?_)
  simp (maxSteps := 4000000) (disch := omega) only [rr, aop, cV, cV1, AV.one, Qb, okW, Qd, app, Qa, Qc, Qf, Qe, Qg, simprocAttr, Xm, il, ZK, ht, shA]

def QjJ (r n : Int) : Int := if r < 1 ∨ 1048576 < r then 2 else if n < 1 ∨ 4000 < n then 2 else if 1000 < (n + QC r - 1) / QC r then 4 else 0
theorem QjI (r n : Int) : ∃ k : Int, QgE r n = .tup [.int .i64 k, .int .i64 (QjJ r n)] := by
  unfold QgE QjJ
  split
  · exact ⟨_, rfl⟩
  split
  · exact ⟨_, rfl⟩
  split
  · exact ⟨_, rfl⟩
  · exact ⟨_, rfl⟩
def XT (c x r n : Int) : Int := if ZD c x ≠ 0 then 8 else if n < 1 then 8 else if 4000 / c < n then 8 else if QjJ r n ≠ 0 then 8 else 0
def QoR (P : Prg) (f : Nat) : Prop := ∀ (c x r n : Int) (l : List Int), VC P f [.agg [.int .i64 c, .int .i64 x, .int .i64 r, il l], .int .i64 n] (.int .i64 (XT c x r n))
theorem Qtr {P : Prg} {f fS fE fC t0 : Nat} (b : Qj P f 31 [.tmp 4] (Qcu fS fE fC t0)) (hS : J1 P fS) (hE : Qa0 P fE) (hC : J2 P fC) : QoR P f := by
  intro c x r n l
  refine VC.of_acall (by simp [isDL, isD, QO]) rfl (ACall.of_body b (by simp) ?_)
  have hS' := hS c x r l
  have hE' := hE c x
  rw [shA] at hS' hE'
  rw [il] at hS'
  obtain ⟨k, ek⟩ := QjI r n
  have hC' := hC r n
  rw [ek] at hC'
  simp (maxSteps := 4000000) (disch := omega) only [rr, aop, cV, cV1, AV.one, Qb, okW, Qd, app, Qa, Qc, Qf, Qe, Qg, simprocAttr, Qcu, il]
  refine Qh.vc hS' ?_
  simp (maxSteps := 4000000) (disch := omega) only [rr, aop, cV, cV1, AV.one, Qb, okW, Qd, app, Qa, Qc, Qf, Qe, Qg, simprocAttr]
  refine Qh.vc hE' ?_
  rcases Zr c x with h1 | ⟨h1, h2, h3, h4⟩
  · have e9 : XT c x r n = 8 := by simp [XT, h1]
    simp (maxSteps := 4000000) (disch := omega) only [rr, aop, cV, cV1, AV.one, Qb, okW, Qd, app, Qa, Qc, Qf, Qe, Qg, simprocAttr, h1, e9]
  have q0 : (4000 : Int).tdiv c = 4000 / c := Int.tdiv_eq_ediv_of_nonneg (by omega)
  have q1 : 0 ≤ (4000 : Int) / c := Int.ediv_nonneg (by omega) (by omega)
  have q2 : (4000 : Int) / c ≤ 4000 := Int.ediv_le_self _ (by omega)
  by_cases h5 : n < 1
  · have e9 : XT c x r n = 8 := by simp [XT, h5]
    simp (maxSteps := 4000000) (disch := omega) only [rr, aop, cV, cV1, AV.one, Qb, okW, Qd, app, Qa, Qc, Qf, Qe, Qg, simprocAttr, h1, e9]
  by_cases h6 : 4000 / c < n
  · have e9 : XT c x r n = 8 := by simp [XT, h6]
    simp (maxSteps := 4000000) (disch := omega) only [rr, aop, cV, cV1, AV.one, Qb, okW, Qd, app, Qa, Qc, Qf, Qe, Qg, simprocAttr, h1, e9, q0]
  simp (maxSteps := 4000000) (disch := omega) only [rr, aop, cV, cV1, AV.one, Qb, okW, Qd, app, Qa, Qc, Qf, Qe, Qg, simprocAttr, h1, q0]
  refine Qh.vc hC' ?_
  by_cases h7 : QjJ r n = 0
  · have e9 : XT c x r n = 0 := by simp [XT, h1, h5, h6, h7]
    simp (maxSteps := 4000000) (disch := omega) only [rr, aop, cV, cV1, AV.one, Qb, okW, Qd, app, Qa, Qc, Qf, Qe, Qg, simprocAttr, h7, e9]
  · have e9 : XT c x r n = 8 := by simp [XT, h7]
    simp (maxSteps := 4000000) (disch := omega) only [rr, aop, cV, cV1, AV.one, Qb, okW, Qd, app, Qa, Qc, Qf, Qe, Qg, simprocAttr, h7, e9]

def ZG (c x r : Int) (l : List Int) : Int := if c < 1 then 8 else if (l.length : Int) % c ≠ 0 then 8 else if XT c x r (l.length / c) ≠ 0 then 8 else if Q3 x l ≠ 0 then 8 else 0
theorem QqJ (c x r n : Int) : XT c x r n = 8 ∨ XT c x r n = 0 := by
  unfold XT; split <;> (try split) <;> (try split) <;> (try split) <;> simp
def Je (P : Prg) (f : Nat) : Prop := ∀ (c x r : Int) (l : List Int), I32 l → l.length ≤ 1000000 → VC P f [.agg [.int .i64 c, .int .i64 x, .int .i64 r, il l]] (.int .i64 (ZG c x r l))
theorem Qq6 {P : Prg} {f fH fW t0 : Nat} (b : Qj P f 33 [.tmp 2] (JA fH fW t0)) (hH : QoR P fH) (hW : QbU P fW) : Je P f := by
  intro c x r l hI hl
  · refine VC.of_acall (by simp [isDL, isD, QO]) rfl (ACall.of_body b (by simp) ?_)
    by_cases h1 : c < 1
    · have e9 : ZG c x r l = 8 := by simp [ZG, h1]
      simp (maxSteps := 4000000) (disch := omega) only [rr, aop, cV, cV1, AV.one, Qb, okW, Qd, app, Qa, Qc, Qf, Qe, Qg, simprocAttr, JA, il, e9]
    have hm := Qay (n := l.length) (c := c) (by omega)
    have hd := Qmf (n := l.length) (c := c) (by omega)
    have q0 : (l.length : Int).tdiv c = l.length / c := Int.tdiv_eq_ediv_of_nonneg (by omega)
    by_cases h2 : (l.length : Int) % c = 0
    · have hH' := hH c x r (l.length / c) l
      have hW' := hW x l hI
      rw [il] at hH' hW'
      simp (maxSteps := 4000000) (disch := omega) only [rr, aop, cV, cV1, AV.one, Qb, okW, Qd, app, Qa, Qc, Qf, Qe, Qg, simprocAttr, JA, il, h2, q0]
      refine Q2.vc hH' ?_
      rcases QqJ c x r (l.length / c) with h3 | h3
      · have e9 : ZG c x r l = 8 := by simp [ZG, h3]
        simp (maxSteps := 4000000) (disch := omega) only [rr, aop, cV, cV1, AV.one, Qb, okW, Qd, app, Qa, Qc, Qf, Qe, Qg, simprocAttr, h3, e9]
      · simp (maxSteps := 4000000) (disch := omega) only [rr, aop, cV, cV1, AV.one, Qb, okW, Qd, app, Qa, Qc, Qf, Qe, Qg, simprocAttr, h3]
        refine Qh.vc hW' ?_
        by_cases h4 : Q3 x l = 0
        · have e9 : ZG c x r l = 0 := by simp [ZG, h1, h2, h3, h4]
          simp (maxSteps := 4000000) (disch := omega) only [rr, aop, cV, cV1, AV.one, Qb, okW, Qd, app, Qa, Qc, Qf, Qe, Qg, simprocAttr, h4, e9]
        · have e9 : ZG c x r l = 8 := by simp [ZG, h4]
          simp (maxSteps := 4000000) (disch := omega) only [rr, aop, cV, cV1, AV.one, Qb, okW, Qd, app, Qa, Qc, Qf, Qe, Qg, simprocAttr, h4, e9]
    · have e9 : ZG c x r l = 8 := by simp [ZG, h2]
      simp (maxSteps := 4000000) (disch := omega) only [rr, aop, cV, cV1, AV.one, Qb, okW, Qd, app, Qa, Qc, Qf, Qe, Qg, simprocAttr, JA, il, h2, e9]

def QbJ (c x n : Int) : Int := if ZD c x ≠ 0 then 2 else if n < 1 then 2 else if 4000 / c < n then 2 else 0
def QoT (P : Prg) (f : Nat) : Prop := ∀ c x n : Int, VC P f [shA c x, .int .i64 n] (.int .i64 (QbJ c x n))
theorem QnB {P : Prg} {f fE t0 : Nat} (b : Qj P f 19 [.tmp 4] (Xo fE t0)) (hE : Qa0 P fE) : QoT P f := by
  intro c x n
  refine VC.of_acall (by simp [isDL, isD, shA]) rfl (ACall.of_body b (by simp) ?_)
  have hE' := hE c x
  rw [shA] at hE'
  simp (maxSteps := 4000000) (disch := omega) only [rr, aop, cV, cV1, AV.one, Qb, okW, Qd, app, Qa, Qc, Qf, Qe, Qg, simprocAttr, Xo, shA]
  refine Qh.vc hE' ?_
  rcases Zr c x with h1 | ⟨h1, h2, h3, h4⟩
  · have e9 : QbJ c x n = 2 := by simp [QbJ, h1]
    simp (maxSteps := 4000000) (disch := omega) only [rr, aop, cV, cV1, AV.one, Qb, okW, Qd, app, Qa, Qc, Qf, Qe, Qg, simprocAttr, h1, e9]
  have q0 : (4000 : Int).tdiv c = 4000 / c := Int.tdiv_eq_ediv_of_nonneg (by omega)
  have q1 : 0 ≤ (4000 : Int) / c := Int.ediv_nonneg (by omega) (by omega)
  have q2 : (4000 : Int) / c ≤ 4000 := Int.ediv_le_self _ (by omega)
  by_cases h5 : n < 1
  · have e9 : QbJ c x n = 2 := by simp [QbJ, h5]
    simp (maxSteps := 4000000) (disch := omega) only [rr, aop, cV, cV1, AV.one, Qb, okW, Qd, app, Qa, Qc, Qf, Qe, Qg, simprocAttr, h1, e9]
  by_cases h6 : 4000 / c < n
  · have e9 : QbJ c x n = 2 := by simp [QbJ, h6]
    simp (maxSteps := 4000000) (disch := omega) only [rr, aop, cV, cV1, AV.one, Qb, okW, Qd, app, Qa, Qc, Qf, Qe, Qg, simprocAttr, h1, e9, q0]
  · have e9 : QbJ c x n = 0 := by simp [QbJ, h1, h5, h6]
    simp (maxSteps := 4000000) (disch := omega) only [rr, aop, cV, cV1, AV.one, Qb, okW, Qd, app, Qa, Qc, Qf, Qe, Qg, simprocAttr, h1, e9, q0]
end Go.Am

namespace Go.Am
open Go.RowKit

def QY (L n : Nat) : List Int := List.replicate ((n - 1) / L) (L : Int) ++ [(n : Int) - ((n - 1) / L * L : Nat)]
theorem Xe (L n : Nat) : (QY L n).length = (n - 1) / L + 1 := by simp [QY]
theorem Qpb (k : Nat) (a : Int) : List.replicate k a ++ [a] = List.replicate (k + 1) a := by rw [List.replicate_succ']
def Qhn (l : List Int) : AV := .list l.length (ks .i64 l)
theorem QcH (l : List Int) : isD (Qhn l) = true := by simp [Qhn, isD, QM]
def QmI (r n : Int) : AV := if r < 1 ∨ 1048576 < r ∨ n < 1 ∨ 4000 < n then .tup [.list 0 [], .int .i64 2] else if 1000 < (QY (QC r).toNat n.toNat).length then .tup [.list 0 [], .int .i64 4] else .tup [Qhn (QY (QC r).toNat n.toNat), .int .i64 0]
theorem Qwk (r n : Int) : isD (QmI r n) = true := by unfold QmI; split <;> (try split) <;> simp [isD, isDL, QcH]
def QoU (P : Prg) (f : Nat) : Prop := ∀ r n : Int, VC P f [.int .i64 r, .int .i64 n] (QmI r n)

theorem Qsh {P : Prg} {f fL t0 : Nat} (b : Qj P f 41 [.tmp 4, .tmp 5] (QX fL t0)) (hL : QbV P fL) : QoU P f := by
  intro r n
  refine VC.of_walk 1 rfl (Qwk _ _) (ACall.of_body b (by simp) ?_)
  have hL' := hL r
  by_cases h1 : r < 1 ∨ 1048576 < r
  · have e1 : Qb0 r = .tup [.int .i64 0, .int .i64 2] := by rw [Qb0, if_pos h1]
    have e2 : QmI r n = .tup [.list 0 [], .int .i64 2] := by rw [QmI, if_pos (by omega)]
    simp (maxSteps := 4000000) (disch := omega) only [rr, aop, cV, cV1, AV.one, Qb, okW, Qd, app, Qa, Qc, Qf, Qe, Qg, simprocAttr, QX]
    refine Qh.vc hL' ?_
    simp (maxSteps := 4000000) (disch := omega) only [rr, aop, cV, cV1, AV.one, Qb, okW, Qd, app, Qa, Qc, Qf, Qe, Qg, simprocAttr, e1, e2]
    simp [Zu, QS, frzL, QN, isDL, isD]
  have e1 : Qb0 r = .tup [.int .i64 (QC r), .int .i64 0] := by rw [Qb0, if_neg h1]
  rw [e1] at hL'
  have p1 := Xd r
  have p2 := Qjl (r := r) (by omega)
  by_cases h2 : n < 1
  · have e2 : QmI r n = .tup [.list 0 [], .int .i64 2] := by rw [QmI, if_pos (by omega)]
    simp (maxSteps := 4000000) (disch := omega) only [rr, aop, cV, cV1, AV.one, Qb, okW, Qd, app, Qa, Qc, Qf, Qe, Qg, simprocAttr, QX]
    refine Qh.vc hL' ?_
    simp (maxSteps := 4000000) (disch := omega) only [rr, aop, cV, cV1, AV.one, Qb, okW, Qd, app, Qa, Qc, Qf, Qe, Qg, simprocAttr, e2]
    simp [Zu, QS, frzL, QN, isDL, isD]
  by_cases h3 : 4000 < n
  · have e2 : QmI r n = .tup [.list 0 [], .int .i64 2] := by rw [QmI, if_pos (by omega)]
    simp (maxSteps := 4000000) (disch := omega) only [rr, aop, cV, cV1, AV.one, Qb, okW, Qd, app, Qa, Qc, Qf, Qe, Qg, simprocAttr, QX]
    refine Qh.vc hL' ?_
    simp (maxSteps := 4000000) (disch := omega) only [rr, aop, cV, cV1, AV.one, Qb, okW, Qd, app, Qa, Qc, Qf, Qe, Qg, simprocAttr, e2]
    simp [Zu, QS, frzL, QN, isDL, isD]
  have e2 : QmI r n = if 1000 < (QY (QC r).toNat n.toNat).length then .tup [.list 0 [], .int .i64 4] else .tup [Qhn (QY (QC r).toNat n.toNat), .int .i64 0] := by rw [QmI, if_neg (by omega)]
  generalize QC r = Li at *
  obtain ⟨L, rfl⟩ : ∃ L : Nat, Li = L := ⟨Li.toNat, by omega⟩
  obtain ⟨m, rfl⟩ : ∃ m : Nat, n = m := ⟨n.toNat, by omega⟩
  simp only [Int.toNat_natCast] at e2
  have g1 : (m - 1) / L * L ≤ m - 1 := Nat.div_mul_le_self _ _
  have g2 : m - 1 < ((m - 1) / L + 1) * L := by
    have := Nat.lt_div_mul_add (a := m - 1) (b := L) (by omega)
    rw [Nat.add_mul, Nat.one_mul]; omega
  rw [Nat.add_mul, Nat.one_mul] at g2
  have g3 : (m - 1) / L ≤ m - 1 := Nat.div_le_self _ _
  have ll := Xe L m
  have lf : QY L m = List.replicate ((m - 1) / L) (L : Int) ++ [(m : Int) - ((m - 1) / L * L : Nat)] := rfl
  generalize hq : (m - 1) / L = q at *
  simp (maxSteps := 4000000) (disch := omega) only [rr, aop, cV, cV1, AV.one, Qb, okW, Qd, app, Qa, Qc, Qf, Qe, Qg, simprocAttr, QX]
  refine Qh.vc hL' ?_
  simp (maxSteps := 4000000) (disch := omega) only [rr, aop, cV, cV1, AV.one, Qb, okW, Qd, app, Qa, Qc, Qf, Qe, Qg, simprocAttr]
  refine QJ.by (ι := Option Nat) (fun i => match i with
      | some k => ⟨[(1, .int .i64 ((m : Int) - (k * L : Nat))), (8, .own 0 k), (6, .int .i64 L)], [⟨t0, 1, k, ks .i64 (List.replicate k (L : Int)), 0⟩]⟩
      | none => ⟨[(1, .int .i64 0), (8, .own 0 (q + 1)), (6, .int .i64 L)], [⟨t0, 1, q + 1, ks .i64 (QY L m), 0⟩]⟩)
    (fun i => match i with | some k => k ≤ q | none => True) (fun i => match i with | some k => q - k + 1 | none => 0) (some 0)
    (by simp only [Nat.zero_mul]; exact Le.trans (Le.virt 8 t0 1 (by omega) rfl) (Le.slots (by simp [Am.look]))) (by simp) ?_
  intro i hi
  cases i with
  | some k =>
    simp only at hi
    have g4 : k * L ≤ q * L := Nat.mul_le_mul_right L hi
    have lr : (List.replicate k (L : Int)).length = k := by simp
    by_cases hk : k < q
    · have g5 : (k + 1) * L ≤ q * L := Nat.mul_le_mul_right L (by omega)
      rw [Nat.add_mul, Nat.one_mul] at g5
      simp (maxSteps := 4000000) (disch := omega) only [rr, aop, cV, cV1, AV.one, Qb, okW, Qd, app, Qa, Qc, Qf, Qe, Qg, simprocAttr, Qe0, Qpb, lr]
      refine ⟨some (k + 1), by simp only; omega, by simp only; omega, ?_⟩
      exact Le.drop1 (Qt _ _) (by simp [Am.look, QS, frzL, QN, Nat.add_mul]; omega)
    · have : k = q := by omega
      subst this
      simp (maxSteps := 4000000) (disch := omega) only [rr, aop, cV, cV1, AV.one, Qb, okW, Qd, app, Qa, Qc, Qf, Qe, Qg, simprocAttr, Qe0, lr, ← lf]
      refine ⟨none, trivial, by simp only; omega, ?_⟩
      exact Le.drop1 (Qt _ _) (by simp [Am.look, QS, frzL, QN])
  | none =>
    by_cases h9 : 1000 < (QY L m).length
    · rw [if_pos h9] at e2
      simp (maxSteps := 4000000) (disch := omega) only [rr, aop, cV, cV1, AV.one, Qb, okW, Qd, app, Qa, Qc, Qf, Qe, Qg, simprocAttr, e2]
      simp [Zu, QS, frzL, QN, isDL, isD]
    · rw [if_neg h9] at e2
      simp (maxSteps := 4000000) (disch := omega) only [rr, aop, cV, cV1, AV.one, Qb, okW, Qd, app, Qa, Qc, Qf, Qe, Qg, simprocAttr, e2]
      simp [Zu, QS, frzL, QN, isDL, isD, Qhn, ll, frzL_T _ (Qt .i64 _)]
end Go.Am

namespace Go.Am
open Go.RowKit

theorem QwE (r n : Int) : (∃ k : Int, QmI r n = .tup [.list 0 [], .int .i64 k] ∧ QgE r n = .tup [.int .i64 0, .int .i64 k]) ∨
    (∃ l : List Int, QmI r n = .tup [Qhn l, .int .i64 0] ∧ QgE r n = .tup [.int .i64 l.length, .int .i64 0]) := by
  by_cases h1 : r < 1 ∨ 1048576 < r
  · exact .inl ⟨2, by rw [QmI, if_pos (by omega)], by rw [QgE, if_pos h1]⟩
  by_cases h2 : n < 1 ∨ 4000 < n
  · exact .inl ⟨2, by rw [QmI, if_pos (by omega)], by rw [QgE, if_neg h1, if_pos h2]⟩
  have p1 := Xd r
  have e : (n + QC r - 1) / QC r = (QY (QC r).toNat n.toNat).length := by
    generalize QC r = Li at *
    obtain ⟨L, rfl⟩ : ∃ L : Nat, Li = L := ⟨Li.toNat, by omega⟩
    obtain ⟨m, rfl⟩ : ∃ m : Nat, n = m := ⟨n.toNat, by omega⟩
    rw [Int.toNat_natCast, Int.toNat_natCast, Xe]
    have : (m : Int) + L - 1 = ((m - 1 + L : Nat) : Int) := by omega
    rw [this, ← Int.natCast_ediv, Nat.add_div_right _ (by omega)]
  by_cases h3 : 1000 < (QY (QC r).toNat n.toNat).length
  · exact .inl ⟨4, by rw [QmI, if_neg (by omega), if_pos h3], by rw [QgE, if_neg h1, if_neg h2, e, if_pos (by omega)]⟩
  · exact .inr ⟨_, by rw [QmI, if_neg (by omega), if_neg h3], by rw [QgE, if_neg h1, if_neg h2, e, if_neg (by omega)]⟩

theorem QnA {P : Prg} {f fA : Nat} (b : Qj P f 17 [.tmp 4, .tmp 5] (Zs fA)) (hA : QoU P fA) : J2 P f := by
  intro r n
  refine VC.of_acall rfl (QsV _ _) (ACall.of_body b (by simp) ?_)
  have hA' := hA r n
  rcases QwE r n with ⟨k, e1, e2⟩ | ⟨l, e1, e2⟩
  · rw [e1] at hA'
    simp (maxSteps := 4000000) (disch := omega) only [rr, aop, cV, cV1, AV.one, Qb, okW, Qd, app, Qa, Qc, Qf, Qe, Qg, simprocAttr, Zs]
    refine Qh.vc hA' ?_
    simp (maxSteps := 4000000) (disch := omega) only [rr, aop, cV, cV1, AV.one, Qb, okW, Qd, app, Qa, Qc, Qf, Qe, Qg, simprocAttr, e2, List.length_nil]
    try simp
  · rw [e1] at hA'
    simp (maxSteps := 4000000) (disch := omega) only [rr, aop, cV, cV1, AV.one, Qb, okW, Qd, app, Qa, Qc, Qf, Qe, Qg, simprocAttr, Zs]
    refine Qh.vc hA' ?_
    simp (maxSteps := 4000000) (disch := omega) only [rr, aop, cV, cV1, AV.one, Qb, okW, Qd, app, Qa, Qc, Qf, Qe, Qg, simprocAttr, Qhn, e2]
end Go.Am

namespace Go.Am
open Go.RowKit

theorem Qgr (c x r n : Int) : XT c x r n = if QbJ c x n = 0 ∧ QjJ r n = 0 then 0 else 8 := by
  unfold XT QbJ
  by_cases h1 : ZD c x = 0 <;> by_cases h2 : n < 1 <;> by_cases h3 : 4000 / c < n <;> by_cases h4 : QjJ r n = 0 <;> simp [h1, h2, h3, h4]
theorem Qes {c x r : Int} {l : List Int} : ZG c x r l = if QcO c x l = 0 ∧ XT c x r (l.length / c) = 0 then 0 else 8 := by
  unfold ZG QcO
  by_cases h0 : XT c x r (l.length / c) = 0
  · have h0' := h0
    rw [Qgr] at h0'
    have ha : QbJ c x (l.length / c) = 0 := by
      by_cases h : QbJ c x (l.length / c) = 0 ∧ QjJ r (l.length / c) = 0
      · exact h.1
      · rw [if_neg h] at h0'; cases h0'
    have hE : ZD c x = 0 := by
      by_cases h : ZD c x = 0
      · exact h
      · simp [QbJ, h] at ha
    have hn : ¬ (l.length : Int) / c < 1 := by
      intro h
      simp [QbJ, h] at ha
    have hc : ¬ c < 1 := by
      rcases Zr c x with h | h <;> omega
    have hl : l.length ≠ 0 := by
      intro h
      rw [h] at hn
      simp at hn
    by_cases h2 : (l.length : Int) % c = 0 <;> by_cases h3 : Q3 x l = 0 <;> simp [hE, hc, hl, h0, h2, h3]
  · simp [h0]

def Qg4 (P : Prg) (f : Nat) : Prop := ∀ (c x r n : Int) (l : List Int), VC P f [.agg [.int .i64 c, .int .i64 x, .int .i64 r, il l], .int .i64 n] (.bool (decide (XT c x r n = 0)))
theorem Qqn {P : Prg} {f fS fA fC t0 : Nat} (b : Qj P f 21 [.tmp 4] (XF fS fA fC t0)) (hS : J1 P fS) (hA : QoT P fA) (hC : J2 P fC) : Qg4 P f := by
  intro c x r n l
  refine VC.of_acall (by simp [isDL, isD, QO]) rfl (ACall.of_body b (by simp) ?_)
  have hS' := hS c x r l
  have hA' := hA c x n
  rw [shA] at hS' hA'
  rw [il] at hS'
  obtain ⟨k, ek⟩ := QjI r n
  have hC' := hC r n
  rw [ek] at hC'
  simp (maxSteps := 4000000) (disch := omega) only [rr, aop, cV, cV1, AV.one, Qb, okW, Qd, app, Qa, Qc, Qf, Qe, Qg, simprocAttr, XF, il]
  refine Qh.vc hS' ?_
  simp (maxSteps := 4000000) (disch := omega) only [rr, aop, cV, cV1, AV.one, Qb, okW, Qd, app, Qa, Qc, Qf, Qe, Qg, simprocAttr]
  refine Qh.vc hA' ?_
  by_cases h1 : QbJ c x n = 0
  · simp (maxSteps := 4000000) (disch := omega) only [rr, aop, cV, cV1, AV.one, Qb, okW, Qd, app, Qa, Qc, Qf, Qe, Qg, simprocAttr, h1]
    refine Qh.vc hC' ?_
    by_cases h7 : QjJ r n = 0
    · have e9 : XT c x r n = 0 := by rw [Qgr, if_pos ⟨h1, h7⟩]
      simp (maxSteps := 4000000) (disch := omega) only [rr, aop, cV, cV1, AV.one, Qb, okW, Qd, app, Qa, Qc, Qf, Qe, Qg, simprocAttr, h7, e9]
      try simp
    · have e9 : XT c x r n = 8 := by rw [Qgr, if_neg (by simp [h7])]
      simp (maxSteps := 4000000) (disch := omega) only [rr, aop, cV, cV1, AV.one, Qb, okW, Qd, app, Qa, Qc, Qf, Qe, Qg, simprocAttr, e9]
      try simp [h7]
  · have e9 : XT c x r n = 8 := by rw [Qgr, if_neg (by simp [h1])]
    simp (maxSteps := 4000000) (disch := omega) only [rr, aop, cV, cV1, AV.one, Qb, okW, Qd, app, Qa, Qc, Qf, Qe, Qg, simprocAttr, h1, e9]
    try simp

theorem Qnz {P : Prg} {f fS fA fH t0 : Nat} (b : Qj P f 20 [.tmp 2] (Xn fS fA fH t0)) (hS : J1 P fS) (hA : Qhe P fA) (hH : Qg4 P fH) : Je P f := by
  intro c x r l hI hl
  refine VC.of_acall (by simp [isDL, isD, QO]) rfl (ACall.of_body b (by simp) ?_)
  have hS' := hS c x r l
  have hA' := hA c x l hI
  have hH' := hH c x r (l.length / c) l
  rw [shA] at hS' hA'
  rw [il] at hS' hA' hH'
  simp (maxSteps := 4000000) (disch := omega) only [rr, aop, cV, cV1, AV.one, Qb, okW, Qd, app, Qa, Qc, Qf, Qe, Qg, simprocAttr, Xn, il]
  refine Q2.vc hS' ?_
  simp (maxSteps := 4000000) (disch := omega) only [rr, aop, cV, cV1, AV.one, Qb, okW, Qd, app, Qa, Qc, Qf, Qe, Qg, simprocAttr]
  refine Q2.vc hA' ?_
  by_cases h1 : QcO c x l = 0
  · have hc : 1 ≤ c := by
      obtain ⟨k, rfl, hk, _⟩ := QoC hI h1
      have := hk.1
      omega
    have hd := Qmf (n := l.length) hc
    have q0 : (l.length : Int).tdiv c = l.length / c := Int.tdiv_eq_ediv_of_nonneg (by omega)
    simp (maxSteps := 4000000) (disch := omega) only [rr, aop, cV, cV1, AV.one, Qb, okW, Qd, app, Qa, Qc, Qf, Qe, Qg, simprocAttr, h1, q0]
    refine Q2.vc hH' ?_
    by_cases h2 : XT c x r (l.length / c) = 0
    · have e9 : ZG c x r l = 0 := by rw [Qes, if_pos ⟨h1, h2⟩]
      simp (maxSteps := 4000000) (disch := omega) only [rr, aop, cV, cV1, AV.one, Qb, okW, Qd, app, Qa, Qc, Qf, Qe, Qg, simprocAttr, h2, e9, decide_true, Bool.not_true]
    · have e9 : ZG c x r l = 8 := by rw [Qes, if_neg (by simp [h2])]
      have e8 : decide (XT c x r (l.length / c) = 0) = false := by simp [h2]
      simp (maxSteps := 4000000) (disch := omega) only [rr, aop, cV, cV1, AV.one, Qb, okW, Qd, app, Qa, Qc, Qf, Qe, Qg, simprocAttr, e8, e9, Bool.not_false]
  · have e9 : ZG c x r l = 8 := by rw [Qes, if_neg (by simp [h1])]
    simp (maxSteps := 4000000) (disch := omega) only [rr, aop, cV, cV1, AV.one, Qb, okW, Qd, app, Qa, Qc, Qf, Qe, Qg, simprocAttr, h1, e9]
end Go.Am

namespace Go.Am
open Go.RowKit

def clA (c x r : Int) (l : List Int) : AV := .agg [.int .i64 c, .int .i64 x, .int .i64 r, il l]
end Go.Am

namespace Go.Am
open Go.RowKit

/-! ### le.Bytes -/

def leB (n : Nat) : Nat → List UInt8
  | 0 => []
  | k + 1 => UInt8.ofNat (n % 256) :: leB (n / 256) k

theorem Qi : ∀ (k n : Nat), (leB n k).length = k
  | 0, _ => rfl
  | k + 1, n => by simp [leB, Qi k]

theorem QnR : ∀ (k n i : Nat) (h : i < k), (leB n k)[i]? = some (UInt8.ofNat (n / 256 ^ i % 256))
  | k + 1, n, 0, _ => by simp [leB]
  | k + 1, n, i + 1, h => by
    simp only [leB, List.getElem?_cons_succ]
    rw [QnR k (n / 256) i (by omega), Nat.div_div_eq_div_mul, Nat.pow_succ, Nat.mul_comm]

theorem QbD {n k i : Nat} (h : i < k) : (leB n k).take (i + 1) = (leB n k).take i ++ [UInt8.ofNat (n / 256 ^ i % 256)] := by
  rw [List.take_add_one, QnR k n i h]
  rfl

theorem Qx9 {K : IntKind} {n k : Nat} (hk : k ≤ K.bits) : Qs false K (n : Int) (k : Int) = some (.int K ((n / 2 ^ k : Nat) : Int)) := by
  have h3 : ¬ ((k : Int) < 0) := by omega
  have h5 : min k K.bits = k := by omega
  have h6 : (n : Int).fdiv (2 ^ k) = ((n / 2 ^ k : Nat) : Int) := by
    rw [Int.fdiv_eq_ediv_of_nonneg _ (Int.pow_nonneg (by decide))]
    simp [Int.natCast_ediv, Int.natCast_pow]
  simp only [Qs, if_neg h3, Bool.false_eq_true, if_false, Int.toNat_natCast, h5, h6]

def QtU (P : Prg) (f : Nat) : Prop := ∀ n w : Nat, 1 ≤ w → w ≤ 8 → VC P f [.int .u64 n, .int .i64 w] (.bool (decide (w = 8) || decide (n / 2 ^ (8 * w) = 0)))
theorem Qwe {P : Prg} {f : Nat} (b : Qj P f 14 [.tmp 4] Qbs) : QtU P f := by
  intro n w h1 h2
  refine VC.of_acall rfl rfl (ACall.of_body b (by simp) ?_)
  by_cases h8 : w = 8
  · subst h8
    simp (maxSteps := 4000000) (disch := omega) only [rr, aop, cV, cV1, AV.one, Qb, okW, Qd, app, Qa, Qc, Qf, Qe, Qg, simprocAttr, Qbs]
  · have e1 : (decide (w = 8)) = false := by simpa using h8
    have e2 : Qs false .u64 (n : Int) (8 * (w : Int)) = some (.int .u64 ((n / 2 ^ (8 * w) : Nat) : Int)) := by
      have := Qx9 (K := .u64) (n := n) (k := 8 * w) (by simp [IntKind.bits]; omega)
      rwa [Int.natCast_mul] at this
    have e3 : (((n / 2 ^ (8 * w) : Nat) : Int) == 0) = decide (n / 2 ^ (8 * w) = 0) := by rw [Bool.eq_iff_iff]; simp only [beq_iff_eq, decide_eq_true_eq]; omega
    have e4 : ((w : Int) = 8) = False := eq_false (by omega)
    by_cases h9 : n / 2 ^ (8 * w) = 0
    · have e5 : (decide (n / 2 ^ (8 * w) = 0)) = true := by simpa using h9
      have e6 : (((n / 2 ^ (8 * w) : Nat) : Int) = 0) = True := eq_true (by omega)
      rw [e5]
      simp (maxSteps := 4000000) (disch := omega) only [rr, aop, cV, cV1, AV.one, Qb, okW, Qd, app, Qa, Qc, Qf, Qe, Qg, simprocAttr, Qbs, e1, e2, e4, e6]
    · have e5 : (decide (n / 2 ^ (8 * w) = 0)) = false := by simpa using h9
      have e6 : (((n / 2 ^ (8 * w) : Nat) : Int) = 0) = False := eq_false (by omega)
      rw [e5]
      simp (maxSteps := 4000000) (disch := omega) only [rr, aop, cV, cV1, AV.one, Qb, okW, Qd, app, Qa, Qc, Qf, Qe, Qg, simprocAttr, Qbs, e1, e2, e4, e6]

def Qbt (P : Prg) (f : Nat) : Prop := ∀ n w : Nat, 1 ≤ w → w ≤ 8 → n < 256 ^ w → VC P f [.int .u64 n, .int .i64 w] (.tup [bs (leB n w), .int .i64 0])

theorem Qu8 {t n : Nat} {l : List UInt8} (h : n = l.length) {e : Int} : Zu (fun _ => true) [⟨t, 1, n, u8 l, 0⟩] 2 [.tup [.own 0 n, .int .i64 e]] = some [.tup [bs l, .int .i64 e]] := by
  subst h
  simp only [Zu, QS, frzL, QN, Bool.false_eq_true, if_false, List.getElem?_cons_zero, and_self, if_true, frzL_T _ (QT l), Option.map_some, bs]

theorem Qu1 {P : Prg} {f fF t0 : Nat} (b : Qj P f 35 [.tmp 4, .tmp 5] (QbN fF t0)) (hF : QtU P fF) : Qbt P f := by
  intro n w h1 h2 hn
  refine VC.of_walk 1 (by simp [isDL, isD]) (by simp [isD, isDL, Zq]) (ACall.of_body b (by simp) ?_)
  have hn8 : n < 18446744073709551616 := Nat.lt_of_lt_of_le hn (Nat.le_trans (Nat.pow_le_pow_right (by omega) h2) (by decide))
  simp (maxSteps := 4000000) (disch := omega) only [rr, aop, cV, cV1, AV.one, Qb, okW, Qd, app, Qa, Qc, Qf, Qe, Qg, simprocAttr, QbN]
  refine Qh.vc (hF n w h1 h2) ?_
  have e0 : (decide (w = 8) || decide (n / 2 ^ (8 * w) = 0)) = true := by
    have : n / 2 ^ (8 * w) = 0 := Nat.div_eq_of_lt (by rw [Nat.pow_mul]; exact hn)
    simp [this]
  rw [e0]
  have r0 : Qu [.int .u8 0] w = u8 ([] : List UInt8) ++ List.replicate w (.int .u8 0) := by
    have : ∀ k, Qu [AV.int .u8 0] k = List.replicate k (.int .u8 0) := fun k => by
      induction k with
      | zero => rfl
      | succ k ih => simp [Qu, ih, List.replicate_succ]
    rw [this]; rfl
  simp (maxSteps := 4000000) (disch := omega) only [rr, aop, cV, cV1, AV.one, Qb, okW, Qd, app, Qa, Qc, Qf, Qe, Qg, simprocAttr, QbN]
  rw [r0]
  refine QJ.by (ι := Nat) (fun k => ⟨[(22, .int .i64 k), (21, .int .i64 w), (6, .own 0 w), (0, .int .u64 n)], [⟨t0, 1, w, u8 ((leB n w).take k) ++ List.replicate (w - k) (.int .u8 0), 0⟩]⟩) (fun k => k ≤ w) (fun k => w - k) 0 (Le.slots (by simp [Am.look])) (by omega) ?_
  intro k hk
  by_cases hlt : k < w
  · have e2 : Qs false .u64 (n : Int) (8 * (k : Int)) = some (.int .u64 ((n / 256 ^ k : Nat) : Int)) := by
      have := Qx9 (K := .u64) (n := n) (k := 8 * k) (by simp [IntKind.bits]; omega)
      rwa [Int.natCast_mul, Nat.pow_mul] at this
    have e3 : IntKind.u8.wrap ((n / 256 ^ k : Nat) : Int) = ((UInt8.ofNat (n / 256 ^ k % 256)).toNat : Int) := by
      simp [IntKind.wrap, IntKind.signed, IntKind.bits]
    have hl : (u8 ((leB n w).take k)).length = k := by simp [QA, Qi]; omega
    have e4 : (u8 ((leB n w).take k) ++ List.replicate (w - k) (AV.int .u8 0)).take k = u8 ((leB n w).take k) := by rw [List.take_left' hl]
    have e5 : (u8 ((leB n w).take k) ++ List.replicate (w - k) (AV.int .u8 0)).drop (k + 1) = List.replicate (w - (k + 1)) (.int .u8 0) := by
      rw [List.drop_append, List.drop_of_length_le (by omega), hl]
      simp
      omega
    have e6 : u8 ((leB n w).take k) ++ [AV.int .u8 ((UInt8.ofNat (n / 256 ^ k % 256)).toNat : Int)] = u8 ((leB n w).take (k + 1)) := by
      rw [QbD hlt, ← Qd7]; rfl
    simp (maxSteps := 4000000) (disch := omega) only [rr, aop, cV, cV1, AV.one, Qb, okW, Qd, app, Qa, Qc, Qf, Qe, Qg, simprocAttr, e2, e3, hl, e4, e5, e6]
    refine ⟨k + 1, by omega, by omega, ?_⟩
    refine Le.slots ?_
    simp [Am.look]
  · have ek : k = w := by omega
    subst ek
    have e7 : (leB n k).take k = leB n k := List.take_of_length_le (by rw [Qi]; exact Nat.le_refl _)
    have e8 : u8 (leB n k) ++ List.replicate (k - k) (AV.int .u8 0) = u8 (leB n k) := by simp
    simp (maxSteps := 4000000) (disch := omega) only [rr, aop, cV, cV1, AV.one, Qb, okW, Qd, app, Qa, Qc, Qf, Qe, Qg, simprocAttr, e7]
    rw [e8, Qu8 (Qi k n).symm]

end Go.Am

namespace Go.Am
open Go.RowKit

/-! ### Written -/

def Qcw (P : Prg) (f : Nat) : Prop := ∀ n w : Nat, w ≤ 8 → n < 18446744073709551616 → VC P f [.int .u64 n, .int .i64 w] (bs (leB n w))

theorem Qjg {P : Prg} {f t0 : Nat} (b : Qj P f 21 [.tmp 4] (ZS t0)) : Qcw P f := by
  intro n w hw hn
  refine VC.of_walk 1 rfl (Zq _) (ACall.of_body b (by simp) ?_)
  simp (maxSteps := 4000000) (disch := omega) only [rr, aop, cV, cV1, AV.one, Qb, okW, Qd, app, Qa, Qc, Qf, Qe, Qg, simprocAttr, ZS]
  refine QJ.by (ι := Nat) (fun k => ⟨[(6, .int .i64 k), (5, .own 0 k), (1, .int .i64 w), (0, .int .u64 ((n / 256 ^ k : Nat) : Int))], [⟨t0, 1, k, u8 ((leB n w).take k), 0⟩]⟩) (fun k => k ≤ w) (fun k => w - k) 0
    (Le.trans (Le.virt 5 t0 1 (by omega) rfl) (Le.slots (by simp [Am.look]))) (by omega) ?_
  intro k hk
  have hdiv : n / 256 ^ k ≤ n := Nat.div_le_self _ _
  by_cases hlt : k < w
  · have hl : (u8 ((leB n w).take k)).length = k := by simp [QA, Qi]; omega
    have e6 := QbD (n := n) hlt
    have e2 : n / 256 ^ (k + 1) = n / 256 ^ k / 256 := by rw [Nat.pow_succ, ← Nat.div_div_eq_div_mul]
    generalize hm : n / 256 ^ k = m at *
    have e3 : (UInt8.ofNat (m % 256)).toNat = m % 256 := by simp
    have e5 : ((m : Int) % 256) = ((m % 256 : Nat) : Int) := by omega
    have e7 : u8 ((leB n w).take k) ++ [AV.int .u8 ((m : Int) % 256)] = u8 ((leB n w).take (k + 1)) := by
      rw [e6, ← Qd7, Qi4, QrF, e3, e5]
    simp (maxSteps := 4000000) (disch := omega) only [rr, aop, cV, cV1, AV.one, Qb, okW, Qd, app, Qa, Qc, Qf, Qe, Qg, simprocAttr, hl]
    rw [e7]
    refine ⟨k + 1, by omega, by omega, Le.drop 1 2 (by omega) rfl ?_ ?_⟩
    · rw [e2]; simp [Am.look, QS, frzL, QN]
    · intro i y hy
      match i, hy with
      | 0, hy =>
        simp at hy
        subst hy
        exact ⟨u8 ((leB n w).take (k + 1)), by simp, by simp only [QS]; exact frzL_T _ (QT _)⟩
      | i + 1, hy => simp at hy
  · have ek : k = w := by omega
    subst ek
    have e7 : (leB n k).take k = leB n k := List.take_of_length_le (by rw [Qi]; exact Nat.le_refl _)
    simp (maxSteps := 4000000) (disch := omega) only [rr, aop, cV, cV1, AV.one, Qb, okW, Qd, app, Qa, Qc, Qf, Qe, Qg, simprocAttr, e7]
    have e9 : k = (leB n k).length := (Qi k n).symm
    simp only [Zu, QS, frzL, QN, Bool.false_eq_true, if_false, List.getElem?_cons_zero, and_self, if_true, frzL_T _ (QT _), Option.map_some, bs, Qi]

/-! ### Sizes -/

end Go.Am

namespace Go.Am
open Go.RowKit

/-! ### The chunk that tells the form: without a program -/

def QwU (c b r : Int) : Prop := 1 ≤ c ∧ c ≤ 6 ∧ Qaf b ≠ 0 ∧ 1 ≤ r ∧ r ≤ 1048576
instance (c b r : Int) : Decidable (QwU c b r) := by unfold QwU; exact inferInstance
/-! ### Check, Wide -/

theorem Qwn (b : Int) : Qaf b ≠ 0 ↔ b = 8 ∨ b = 16 ∨ b = 24 := by
  rcases ZW b with ⟨rfl, h⟩ | ⟨rfl, h⟩ | ⟨rfl, h⟩ | ⟨h1, h2, h3, h⟩ <;> simp [h] <;> omega

end Go.Am

namespace Go.Am
open Go.RowKit

/-! ### WAV: writing -/

theorem Qjo (c x r : Int) (l : List Int) : isD (clA c x r l) = true := by simp [clA, isD, isDL, QO]
end Go.Am

namespace Go.Am
open Go.RowKit

def Qkn (P : Prg) (f : Nat) : Prop := ∀ (c x r c' x' r' : Int) (l l' : List Int), l.length ≤ 1000000 → l'.length ≤ 1000000 → VC P f [clA c x r l, clA c' x' r' l'] (.bool (decide (c = c' ∧ x = x' ∧ r = r' ∧ l = l')))

def Qg9 (P : Prg) (f : Nat) : Prop := ∀ (c x r : Int) (l : List Int), VC P f [clA c x r l] (.bool (decide (300 < l.length) && decide (l.length ≤ 4000) || decide (4010 < l.length)))
theorem Qnw {P : Prg} {f t0 : Nat} (bd : Qj P f 19 [.tmp 2] (QQ t0)) : Qg9 P f := by
  intro c x r l
  refine VC.of_acall (by simp [isDL, Qjo]) rfl (ACall.of_body bd (by simp) ?_)
  by_cases h1 : 300 < l.length
  · by_cases h2 : l.length ≤ 4000
    · have e : (decide (300 < l.length) && decide (l.length ≤ 4000) || decide (4010 < l.length)) = true := by simp [h1, h2]
      simp (maxSteps := 4000000) (disch := omega) only [rr, aop, cV, cV1, AV.one, Qb, okW, Qd, app, Qa, Qc, Qf, Qe, Qg, simprocAttr, QQ, clA, il, e]
    · by_cases h3 : 4010 < l.length
      · have e : (decide (300 < l.length) && decide (l.length ≤ 4000) || decide (4010 < l.length)) = true := by simp [h3]
        simp (maxSteps := 4000000) (disch := omega) only [rr, aop, cV, cV1, AV.one, Qb, okW, Qd, app, Qa, Qc, Qf, Qe, Qg, simprocAttr, QQ, clA, il, e]
      · have e : (decide (300 < l.length) && decide (l.length ≤ 4000) || decide (4010 < l.length)) = false := by simp; omega
        simp (maxSteps := 4000000) (disch := omega) only [rr, aop, cV, cV1, AV.one, Qb, okW, Qd, app, Qa, Qc, Qf, Qe, Qg, simprocAttr, QQ, clA, il, e]
  · have e : (decide (300 < l.length) && decide (l.length ≤ 4000) || decide (4010 < l.length)) = false := by simp; omega
    simp (maxSteps := 4000000) (disch := omega) only [rr, aop, cV, cV1, AV.one, Qb, okW, Qd, app, Qa, Qc, Qf, Qe, Qg, simprocAttr, QQ, clA, il, e]

def Qkh (P : Prg) (f : Nat) : Prop := ∀ (c x r : Int) (l : List Int), l.length ≤ 1000000 → VC P f [clA c x r l] (clA c x r l)
theorem Qqj {P : Prg} {f t0 t1 : Nat} (bd : Qj P f 9 [.cell 2 t0] (XD t0 t1)) (ht : Q4 P t0 = some (some 4)) : Qkh P f := by
  intro c x r l hl
  refine VC.of_walk 2 (by simp [isDL, Qjo]) (Qjo _ _ _ _) (ACall.of_body bd (by simp) ?_)
  have hk := Qk .i32 l
  simp (maxSteps := 4000000) (disch := omega) only [rr, aop, cV, cV1, AV.one, Qb, okW, Qd, app, Qa, Qc, Qf, Qe, Qg, simprocAttr, XD, clA, il, hk, ZK, ht, Zk]
  simp [Zu, QS, frzL, QN, frzL_T _ (Qt _ _)]

end Go.Am

namespace Go.Am
open Go.RowKit

set_option maxRecDepth 20000 in
theorem Qqk {P : Prg} {f t0 : Nat} (bd : Qj P f 52 [.tmp 4] (QI t0)) : Qkn P f := by
  intro c x r c' x' r' l l' hl hl'
  refine VC.of_acall (by simp [isDL, Qjo]) rfl (ACall.of_body bd (by simp) ?_)
  have hk := Qk .i32 l
  have hk' := Qk .i32 l'
  by_cases h1 : c = c'
  case neg =>
    have e : decide (c = c' ∧ x = x' ∧ r = r' ∧ l = l') = false := by simp [h1]
    simp (maxSteps := 4000000) (disch := omega) only [rr, aop, cV, cV1, AV.one, Qb, okW, Qd, app, Qa, Qc, Qf, Qe, Qg, simprocAttr, QI, clA, il, e]
  by_cases h2 : x = x'
  case neg =>
    have e : decide (c = c' ∧ x = x' ∧ r = r' ∧ l = l') = false := by simp [h2]
    simp (maxSteps := 4000000) (disch := omega) only [rr, aop, cV, cV1, AV.one, Qb, okW, Qd, app, Qa, Qc, Qf, Qe, Qg, simprocAttr, QI, clA, il, e]
  by_cases h3 : r = r'
  case neg =>
    have e : decide (c = c' ∧ x = x' ∧ r = r' ∧ l = l') = false := by simp [h3]
    simp (maxSteps := 4000000) (disch := omega) only [rr, aop, cV, cV1, AV.one, Qb, okW, Qd, app, Qa, Qc, Qf, Qe, Qg, simprocAttr, QI, clA, il, e]
  subst h1; subst h2; subst h3
  have e0 : decide (c = c ∧ x = x ∧ r = r ∧ l = l') = decide (l = l') := by simp
  rw [e0]
  by_cases h4 : l.length = l'.length
  case neg =>
    have e : decide (l = l') = false := by simp; exact fun h => h4 (by rw [h])
    simp (maxSteps := 4000000) (disch := omega) only [rr, aop, cV, cV1, AV.one, Qb, okW, Qd, app, Qa, Qc, Qf, Qe, Qg, simprocAttr, QI, clA, il, e]
  simp (maxSteps := 4000000) (disch := omega) only [rr, aop, cV, cV1, AV.one, Qb, okW, Qd, app, Qa, Qc, Qf, Qe, Qg, simprocAttr, QI, clA, il]
  refine QJ.by (ι := Nat) (fun k => ⟨[(5, .int .i64 k), (2, .ref 0 1 0), (3, .ref 1 1 0)], [⟨t0, 4, 1, [.int .i64 c, .int .i64 x, .int .i64 r, .list l.length (ks .i32 l)], 0⟩, ⟨t0, 4, 1, [.int .i64 c, .int .i64 x, .int .i64 r, .list l'.length (ks .i32 l')], 0⟩]⟩) (fun k => k ≤ l.length ∧ l.take k = l'.take k) (fun k => l.length - k) 0 (Le.slots (by simp [Am.look])) ⟨by omega, by simp⟩ ?_
  rintro k ⟨hk1, hk2⟩
  by_cases hlt : k < l.length
  · have d1 := QaC (K := .i32) hlt
    have d2 := QaC (K := .i32) (l := l') (k := k) (by omega)
    by_cases he : l[k] = l'[k]'(by omega)
    · rw [← he] at d2
      have e5 : l.take (k + 1) = l'.take (k + 1) := by
        rw [List.take_succ_eq_append_getElem hlt, List.take_succ_eq_append_getElem (by omega : k < l'.length), hk2, he]
      simp (maxSteps := 4000000) (disch := omega) only [rr, aop, cV, cV1, AV.one, Qb, okW, Qd, app, Qa, Qc, Qf, Qe, Qg, simprocAttr, hk, hk', d1, d2]
      exact ⟨k + 1, ⟨by omega, e5⟩, by omega, Le.slots (by simp [Am.look])⟩
    · have e : decide (l = l') = false := by
        simp
        intro h
        subst h
        exact he rfl
      rw [e]
      have he' : (l[k] = l'[k]'(by omega)) = False := eq_false he
      simp (maxSteps := 4000000) (disch := omega) only [rr, aop, cV, cV1, AV.one, Qb, okW, Qd, app, Qa, Qc, Qf, Qe, Qg, simprocAttr, hk, hk', d1, d2, he']
  · have ek : k = l.length := by omega
    subst ek
    have e : decide (l = l') = true := by
      simp
      rw [List.take_length, h4, List.take_length] at hk2
      exact hk2
    rw [e]
    simp (maxSteps := 4000000) (disch := omega) only [rr, aop, cV, cV1, AV.one, Qb, okW, Qd, app, Qa, Qc, Qf, Qe, Qg, simprocAttr, hk, hk']

end Go.Am

namespace Go.Am
open Go.RowKit

/-! ### Numbers: bit by bit -/

theorem QcN {w n : Nat} (h : n < 2 ^ w) : BitVec.ofInt w (n : Int) = BitVec.ofNat w n := by
  apply BitVec.eq_of_toNat_eq
  rw [BitVec.toNat_ofInt, BitVec.toNat_ofNat]
  omega

theorem QfN {K : IntKind} (hs : K.signed = false) {n : Nat} (h : n < 2 ^ K.bits) : K.wrap (n : Int) = n := by
  have h1 : (n : Int) % 2 ^ K.bits = n := by
    rw [Int.emod_eq_of_lt (by omega)]
    exact_mod_cast h
  unfold IntKind.wrap
  simp [hs, h1]

theorem Qrr {K : IntKind} (hs : K.signed = false) {a b : Nat} (ha : a < 2 ^ K.bits) (hb : b < 2 ^ K.bits) : K.wrap (BitVec.ofInt K.bits (a : Int) ^^^ BitVec.ofInt K.bits (b : Int)).toNat = ((a ^^^ b : Nat) : Int) := by
  rw [QcN ha, QcN hb, BitVec.toNat_xor, BitVec.toNat_ofNat, BitVec.toNat_ofNat, Nat.mod_eq_of_lt ha, Nat.mod_eq_of_lt hb]
  exact QfN hs (Nat.xor_lt_two_pow ha hb)
theorem Qx4 {K : IntKind} (hs : K.signed = false) {a b : Nat} (ha : a < 2 ^ K.bits) (hb : b < 2 ^ K.bits) : K.wrap (BitVec.ofInt K.bits (a : Int) &&& BitVec.ofInt K.bits (b : Int)).toNat = ((a &&& b : Nat) : Int) := by
  rw [QcN ha, QcN hb, BitVec.toNat_and, BitVec.toNat_ofNat, BitVec.toNat_ofNat, Nat.mod_eq_of_lt ha, Nat.mod_eq_of_lt hb]
  exact QfN hs (Nat.and_lt_two_pow _ hb)
theorem orK {K : IntKind} (hs : K.signed = false) {a b : Nat} (ha : a < 2 ^ K.bits) (hb : b < 2 ^ K.bits) : K.wrap (BitVec.ofInt K.bits (a : Int) ||| BitVec.ofInt K.bits (b : Int)).toNat = ((a ||| b : Nat) : Int) := by
  rw [QcN ha, QcN hb, BitVec.toNat_or, BitVec.toNat_ofNat, BitVec.toNat_ofNat, Nat.mod_eq_of_lt ha, Nat.mod_eq_of_lt hb]
  exact QfN hs (Nat.or_lt_two_pow ha hb)

theorem Qi8 {K : IntKind} {n k : Nat} (hk : k ≤ K.bits) : Qs false K (n : Int) (k : Int) = some (.int K ((n / 2 ^ k : Nat) : Int)) := by
  have h3 : ¬ ((k : Int) < 0) := by omega
  have h5 : min k K.bits = k := by omega
  have h6 : (n : Int).fdiv (2 ^ k) = ((n / 2 ^ k : Nat) : Int) := by
    rw [Int.fdiv_eq_ediv_of_nonneg _ (Int.pow_nonneg (by decide))]
    simp [Int.natCast_ediv, Int.natCast_pow]
  simp only [Qs, if_neg h3, Bool.false_eq_true, if_false, Int.toNat_natCast, h5, h6]

theorem Qr5 {K : IntKind} (hs : K.signed = false) {c s : Nat} (h : s ≤ K.bits) (h2 : c * 2 ^ s < 2 ^ K.bits) : Qs true K (c : Int) (s : Int) = some (.int K ((c * 2 ^ s : Nat) : Int)) := by
  have h3 : ¬ ((s : Int) < 0) := by omega
  have h5 : min s K.bits = s := by omega
  have h6 : (c : Int) * 2 ^ s = ((c * 2 ^ s : Nat) : Int) := by simp
  simp only [Qs, if_neg h3, if_true, Int.toNat_natCast, h5, h6]
  rw [QfN hs h2]

end Go.Am

namespace Go.Am
open Go.RowKit

/-! ### CRC-32 (plain) -/

def QmP (c : Nat) : Nat := (c / 2) ^^^ (if c % 2 = 1 then 3988292384 else 0)
def Qe4 : Nat → Nat → Nat
  | 0, c => c
  | k + 1, c => Qe4 k (QmP c)

theorem Qtj {c : Nat} (h : c < 4294967296) : QmP c < 4294967296 := by
  unfold QmP
  have : (if c % 2 = 1 then 3988292384 else 0) < 2 ^ 32 := by split <;> decide
  exact Nat.xor_lt_two_pow (n := 32) (by omega) this
theorem QjF : ∀ (k : Nat) {c : Nat}, c < 4294967296 → Qe4 k c < 4294967296
  | 0, _, h => h
  | k + 1, _, h => QjF k (Qtj h)
theorem Qmh : ∀ (k c : Nat), Qe4 (k + 1) c = QmP (Qe4 k c)
  | 0, _ => rfl
  | k + 1, c => by rw [Qe4, Qmh k, Qe4]

theorem QpJ (x h : Nat) : QmP (x ^^^ 2 * h) = QmP x ^^^ h := by
  have e1 : (x ^^^ 2 * h) % 2 = x % 2 := by
    have := Nat.xor_mod_two_pow (a := x) (b := 2 * h) (n := 1)
    simpa using this
  have e2 : (x ^^^ 2 * h) / 2 = x / 2 ^^^ h := by rw [Nat.xor_div_two, Nat.mul_div_cancel_left _ (by omega)]
  unfold QmP
  rw [e1, e2, Nat.xor_assoc, Nat.xor_assoc, Nat.xor_comm h]

theorem QpK : ∀ (k x h : Nat), Qe4 k (x ^^^ 2 ^ k * h) = Qe4 k x ^^^ h
  | 0, x, h => by simp [Qe4]
  | k + 1, x, h => by
    rw [Qe4, Nat.pow_succ, Nat.mul_comm (2 ^ k) 2, Nat.mul_assoc, QpJ, QpK k, Qe4]

theorem Qf2 (b k : Nat) : b = b % 2 ^ k ^^^ 2 ^ k * (b / 2 ^ k) := by
  apply Nat.eq_of_testBit_eq
  intro i
  rw [Nat.testBit_xor, Nat.testBit_mod_two_pow, Nat.testBit_two_pow_mul, Nat.testBit_div_two_pow]
  by_cases h : i < k
  · have : ¬ k ≤ i := by omega
    simp [h, this]
  · have h' : k ≤ i := by omega
    simp [h, h', show i - k + k = i by omega]

theorem Qvd (s b : Nat) : QmP (s ^^^ b) = QmP (s ^^^ b % 2) ^^^ (b / 2) := by
  have h : s ^^^ b = (s ^^^ b % 2) ^^^ 2 * (b / 2) := by
    have := Qf2 b 1
    rw [Nat.pow_one] at this
    rw [Nat.xor_assoc, ← this]
  rw [h, QpJ]

def Qvz (s b : Nat) : Nat := Qe4 8 (s ^^^ b)
theorem QqZ (s b : Nat) : Qvz s b = s / 256 ^^^ Qe4 8 (s % 256 ^^^ b) := by
  have h : s ^^^ b = (s % 256 ^^^ b) ^^^ 2 ^ 8 * (s / 256) := by
    have := Qf2 s 8
    rw [show (2 : Nat) ^ 8 = 256 from rfl] at this ⊢
    rw [Nat.xor_assoc, Nat.xor_comm b, ← Nat.xor_assoc, ← this]
  rw [Qvz, h, QpK, Nat.xor_comm]
theorem Qww {s b : Nat} (hs : s < 4294967296) (hb : b < 256) : Qvz s b < 4294967296 := QjF 8 (Nat.xor_lt_two_pow (n := 32) (by omega) (by omega))

def QkK (s : Nat) (l : List UInt8) : Nat := l.foldl (fun s b => Qvz s b.toNat) s
theorem Qmi {s : Nat} {l : List UInt8} {k : Nat} (h : k < l.length) : QkK s (l.take (k + 1)) = Qvz (QkK s (l.take k)) (l[k]).toNat := by
  rw [List.take_succ_eq_append_getElem h, QkK, List.foldl_append]; rfl
theorem QgD : ∀ {l : List UInt8} {s : Nat}, s < 4294967296 → QkK s l < 4294967296
  | [], _, h => h
  | b :: l, s, h => QgD (l := l) (Qww h (UInt8.toNat_lt b))

end Go.Am
