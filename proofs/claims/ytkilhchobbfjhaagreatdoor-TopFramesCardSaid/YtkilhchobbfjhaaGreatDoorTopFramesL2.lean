/- What the functions that the law reaches return, for every program that has their code; the conditions stand in each statement. -/
import Derived.Test.YtkilhchobbfjhaaGreatDoorTopFramesL1
set_option linter.unusedSectionVars false
set_option linter.unusedSimpArgs false
set_option linter.unusedVariables false
namespace Go.Am
open Go.RowKit

/-! ### Bits: Check, get, Get -/

def bA (N V : Nat) : AV := .agg [.list (nB N) (u8 (leB V (nB N))), .int .i64 N]
theorem XR (N V : Nat) : isD (bA N V) = true := by simp [bA, isD, isDL, QfP]

theorem QiT {n : Nat} (h : n < 9223372036854775808) : IntKind.i64.wrap (BitVec.ofInt IntKind.i64.bits (n : Int) &&& BitVec.ofInt IntKind.i64.bits 7).toNat = ((n % 8 : Nat) : Int) := by
  have e1 : (BitVec.ofInt 64 (n : Int)).toNat = n := by
    rw [BitVec.toNat_ofInt]
    show ((n : Int) % 18446744073709551616).toNat = n
    omega
  have e2 : (BitVec.ofInt 64 7).toNat = 7 := by decide
  have : (BitVec.ofInt 64 (n : Int) &&& BitVec.ofInt 64 7).toNat = n % 8 := by
    rw [BitVec.toNat_and, e1, e2]
    exact Nat.and_two_pow_sub_one_eq_mod n 3
  show IntKind.i64.wrap ((BitVec.ofInt 64 (n : Int) &&& BitVec.ofInt 64 7).toNat : Int) = _
  rw [this, QaW] <;> omega

theorem Qwq {l : List UInt8} {k : Nat} (h : k < l.length) : (u8 l).drop k = .int .u8 (l[k]).toNat :: u8 (l.drop (k + 1)) := by
  rw [Qln, List.drop_eq_getElem_cons h]; rfl

theorem QnC {V k i : Nat} (h : i < k) : (u8 (leB V k)).drop i = .int .u8 ((V / 256 ^ i % 256 : Nat) : Int) :: u8 ((leB V k).drop (i + 1)) := by
  rw [Qwq (by rw [Qu]; exact h)]
  have := QfN k V i h
  rw [List.getElem?_eq_getElem (by rw [Qu]; exact h)] at this
  rw [Option.some.inj this]
  have : (UInt8.ofNat (V / 256 ^ i % 256)).toNat = V / 256 ^ i % 256 := by simp
  rw [this]

def XL (P : Prg) (f : Nat) : Prop := ∀ N V : Nat, V < 2 ^ N → N ≤ 330000 → VC P f [bA N V] (.int .i64 0)
theorem Qpt {P : Prg} {f t0 : Nat} (bd : Ql P f 40 [.tmp 2] (JQ t0)) : XL P f := by
  intro N V hV hN
  refine VC.of_acall (by simp [isDL, XR]) rfl (ACall.of_body bd (by simp) ?_)
  have e1 : Qm false .i64 ((N : Int) + 7) 3 = some (.int .i64 ((nB N : Nat) : Int)) := by
    rw [show (N : Int) + 7 = ((N + 7 : Nat) : Int) by omega]
    exact Qgt (K := .i64) (n := N + 7) (k := 3) (by decide)
  have e2 := QiT (n := N) (by omega)
  have e3 : (u8 (leB V (nB N))).length = nB N := by simp [u8, Qu]
  by_cases h0 : N % 8 = 0
  · rw [h0] at e2
    have e2' : IntKind.i64.wrap (BitVec.ofInt IntKind.i64.bits (N : Int) &&& BitVec.ofInt IntKind.i64.bits 7).toNat = 0 := e2
    simp (maxSteps := 4000000) (disch := omega) only [rr, aop, cV, cV1, AV.one, Qb, okW, Qd, app, Qa, Qc, Qe, Qf, Qg, simprocAttr, JQ, bA, e1, e2', e3]
  · have hn : nB N = N / 8 + 1 := by unfold nB; omega
    have h8 : N = 8 * (N / 8) + N % 8 := by omega
    obtain ⟨l1, l2⟩ := Qb1 (V := V) (i := N / 8) (at_ := N % 8) (by rw [← h8]; exact hV) (by omega)
    have e4 := QnC (V := V) (k := nB N) (i := N / 8) (by omega)
    have h256 : V / 256 ^ (N / 8) % 256 = V / 256 ^ (N / 8) := Nat.mod_eq_of_lt (by
      have : 2 ^ (N % 8) ≤ 2 ^ 8 := Nat.pow_le_pow_right (by omega) (by omega)
      omega)
    rw [h256] at e4
    have e5 : Qm false .u8 ((V / 256 ^ (N / 8) : Nat) : Int) ((N % 8 : Nat) : Int) = some (.int .u8 0) := by
      have := Qgt (K := .u8) (n := V / 256 ^ (N / 8)) (k := N % 8) (by show N % 8 ≤ 8; omega)
      rw [this, Nat.div_eq_of_lt l2]; rfl
    have e6 : nB N - 1 = N / 8 := by omega
    have hq : ((N % 8 : Nat) : Int) = (N : Int) % 8 := by omega
    generalize V / 256 ^ (N / 8) = y at *
    obtain ⟨a, ha⟩ : ∃ a, a = N % 8 := ⟨_, rfl⟩
    rw [← ha] at e2 e5 hq
    simp (maxSteps := 4000000) (disch := omega) only [rr, aop, cV, cV1, AV.one, Qb, okW, Qd, app, Qa, Qc, Qe, Qf, Qg, simprocAttr, JQ, bA, e1, e2, e3, e4, e5, e6]

theorem QvD {t : Nat} (h : t ≤ 8) : Qm true .u8 1 (t : Int) = some (.int .u8 ((2 ^ t % 256 : Nat) : Int)) ∧ IntKind.u8.wrap (((2 ^ t % 256 : Nat) : Int) - 1) = ((2 ^ t - 1 : Nat) : Int) := by
  rcases (by omega : t = 0 ∨ t = 1 ∨ t = 2 ∨ t = 3 ∨ t = 4 ∨ t = 5 ∨ t = 6 ∨ t = 7 ∨ t = 8) with rfl | rfl | rfl | rfl | rfl | rfl | rfl | rfl | rfl <;> exact ⟨rfl, by decide⟩

theorem Qtb {c s : Nat} (hs : s ≤ 64) (h : c * 2 ^ s < 18446744073709551616) : Qm true .u64 (c : Int) (s : Int) = some (.int .u64 ((c * 2 ^ s : Nat) : Int)) := Qqr hs h

theorem QnM {X h t : Nat} : X % 2 ^ (h + t) = X % 2 ^ h + X / 2 ^ h % 2 ^ t * 2 ^ h := by
  rw [Nat.pow_add, Nat.mod_mul, Nat.mul_comm]

def Qn8 (P : Prg) (f : Nat) : Prop := ∀ N V a n : Nat, V < 2 ^ N → N ≤ 400000 → a + n ≤ N → n ≤ 64 → VC P f [bA N V, .int .i64 a, .int .i64 n] (.int .u64 ((V / 2 ^ a % 2 ^ n : Nat) : Int))
theorem Qul {P : Prg} {f t0 : Nat} (bd : Ql P f 47 [.tmp 6] (Qc6 t0)) : Qn8 P f := by
  intro N V a n hV hN han hn
  refine VC.of_acall (by simp [isDL, XR, isD]) rfl (ACall.of_body bd (by simp) ?_)
  simp (maxSteps := 4000000) (disch := omega) only [rr, aop, cV, cV1, AV.one, Qb, okW, Qd, app, Qa, Qc, Qe, Qf, Qg, simprocAttr, Qc6, bA]
  refine QN.by (ι := Nat) (fun h => ⟨[(8, .int .i64 h), (7, .int .u64 ((V / 2 ^ a % 2 ^ h : Nat) : Int)), (1, .int .i64 a), (2, .int .i64 n), (3, .ref 0 1 0)], [⟨t0, 2, 1, [.list (nB N) (u8 (leB V (nB N))), .int .i64 N], 0⟩]⟩) (fun h => h ≤ n) (fun h => n - h) 0 (Le.slots (by simp [Am.look, Nat.mod_one])) (by omega) ?_
  intro h hh
  by_cases hlt : h < n
  · obtain ⟨q, hq⟩ : ∃ q, q = (a + h) / 8 := ⟨_, rfl⟩
    obtain ⟨o, ho⟩ : ∃ o, o = (a + h) % 8 := ⟨_, rfl⟩
    obtain ⟨t, ht⟩ : ∃ t, t = min (n - h) (8 - o) := ⟨_, rfl⟩
    have e1 : IntKind.i64.wrap (BitVec.ofInt IntKind.i64.bits ((a : Int) + h) &&& BitVec.ofInt IntKind.i64.bits 7).toNat = (o : Int) := by
      rw [show (a : Int) + h = ((a + h : Nat) : Int) by omega, QiT (by omega), ho]
    have e2 : Qm false .i64 ((a : Int) + h) 3 = some (.int .i64 (q : Int)) := by
      rw [show (a : Int) + h = ((a + h : Nat) : Int) by omega, hq]
      exact Qgt (K := .i64) (n := a + h) (k := 3) (by decide)
    have hqn : q < nB N := by unfold nB; omega
    have e3 := QnC (V := V) (k := nB N) (i := q) hqn
    have e4 : (u8 (leB V (nB N))).length = nB N := by simp [u8, Qu]
    have hy : V / 256 ^ q % 256 < 256 := Nat.mod_lt _ (by decide)
    have e5 : Qm false .u8 ((V / 256 ^ q % 256 : Nat) : Int) (o : Int) = some (.int .u8 ((V / 256 ^ q % 256 / 2 ^ o : Nat) : Int)) := Qgt (K := .u8) (k := o) (by show o ≤ 8; omega)
    obtain ⟨e6, e7⟩ := QvD (t := t) (by omega)
    have hz : V / 256 ^ q % 256 / 2 ^ o < 256 := Nat.lt_of_le_of_lt (Nat.div_le_self _ _) hy
    have h2t : 2 ^ t - 1 < 256 := by
      have : 2 ^ t ≤ 2 ^ 8 := Nat.pow_le_pow_right (by omega) (by omega)
      omega
    have e8 : IntKind.u8.wrap (BitVec.ofInt IntKind.u8.bits ((V / 256 ^ q % 256 / 2 ^ o : Nat) : Int) &&& BitVec.ofInt IntKind.u8.bits ((2 ^ t - 1 : Nat) : Int)).toNat = ((V / 2 ^ a / 2 ^ h % 2 ^ t : Nat) : Int) := by
      rw [Qxz (K := .u8) rfl hz h2t, Nat.and_two_pow_sub_one_eq_mod, Qv4 (by omega), show 8 * q + o = a + h by omega, Nat.pow_add, Nat.div_div_eq_div_mul]
    have hc : V / 2 ^ a / 2 ^ h % 2 ^ t < 2 ^ t := Nat.mod_lt _ (Nat.pow_pos (by omega))
    have hmul : V / 2 ^ a / 2 ^ h % 2 ^ t * 2 ^ h < 2 ^ (h + t) := by
      rw [Nat.pow_add, Nat.mul_comm]; exact Nat.mul_lt_mul_of_pos_left hc (Nat.pow_pos (by omega))
    have h64 : 2 ^ (h + t) ≤ 2 ^ 64 := Nat.pow_le_pow_right (by omega) (by omega)
    have hv0 : V / 2 ^ a % 2 ^ h < 2 ^ h := Nat.mod_lt _ (Nat.pow_pos (by omega))
    have h65 : 2 ^ h ≤ 2 ^ 64 := Nat.pow_le_pow_right (by omega) (by omega)
    have e9 := QnM (X := V / 2 ^ a) (h := h) (t := t)
    generalize hcc : V / 2 ^ a / 2 ^ h % 2 ^ t = c at *
    have e10 : Qm true .u64 (c : Int) (h : Int) = some (.int .u64 ((c * 2 ^ h : Nat) : Int)) := Qtb (by omega) (by omega)
    have e11 : IntKind.u64.wrap (BitVec.ofInt IntKind.u64.bits ((V / 2 ^ a % 2 ^ h : Nat) : Int) ||| BitVec.ofInt IntKind.u64.bits ((c * 2 ^ h : Nat) : Int)).toNat = ((V / 2 ^ a % 2 ^ (h + t) : Nat) : Int) := by
      rw [QuF _ _ (by omega) (by omega), Qj0 hv0, e9]
    generalize V / 2 ^ a % 2 ^ h = v0 at *
    generalize V / 256 ^ q % 256 / 2 ^ o = z at *
    generalize V / 256 ^ q % 256 = y at *
    have hc8 : c < 256 := by
      have : 2 ^ t ≤ 2 ^ 8 := Nat.pow_le_pow_right (by omega) (by omega)
      omega
    have e12 : (if (8 : Int) - o < n - h then (8 : Int) - o else n - h) = (t : Int) := by split <;> omega
    simp (maxSteps := 4000000) (disch := omega) only [rr, aop, cV, cV1, AV.one, Qb, okW, Qd, app, Qa, Qc, Qe, Qf, Qg, simprocAttr, e1, e2, e3, e4, e5, e6, e7, e8, e10, e11, e12]
    exact ⟨h + t, by omega, by omega, Le.slots (by simp [Am.look])⟩
  · obtain rfl : h = n := by omega
    simp (maxSteps := 4000000) (disch := omega) only [rr, aop, cV, cV1, AV.one, Qb, okW, Qd, app, Qa, Qc, Qe, Qf, Qg, simprocAttr]

def QhB (P : Prg) (f : Nat) : Prop := ∀ N V a n : Nat, V < 2 ^ N → N ≤ 330000 → n ≤ 64 → a ≤ 400000 → VC P f [bA N V, .int .i64 a, .int .i64 n] (if N < a + n then .tup [.int .u64 0, .int .i64 24] else .tup [.int .u64 ((V / 2 ^ a % 2 ^ n : Nat) : Int), .int .i64 0])
theorem Qun {P : Prg} {f fC fG t0 : Nat} (bd : Ql P f 34 [.tmp 6, .tmp 7] (Qbt fC fG t0)) (hC : XL P fC) (hG : Qn8 P fG) : QhB P f := by
  intro N V a n hV hN hn ha
  refine VC.of_acall (by simp [isDL, XR, isD]) (by split <;> rfl) (ACall.of_body bd (by simp) ?_)
  have hC' := hC N V hV hN
  rw [bA] at hC'
  by_cases hlt : N < a + n
  · rw [if_pos hlt]
    simp (maxSteps := 4000000) (disch := omega) only [rr, aop, cV, cV1, AV.one, Qb, okW, Qd, app, Qa, Qc, Qe, Qf, Qg, simprocAttr, Qbt, bA]
    refine Qh.vc hC' ?_
    simp (maxSteps := 4000000) (disch := omega) only [rr, aop, cV, cV1, AV.one, Qb, okW, Qd, app, Qa, Qc, Qe, Qf, Qg, simprocAttr]
  · rw [if_neg hlt]
    have hG' := hG N V a n hV (by omega) (by omega) hn
    rw [bA] at hG'
    generalize V / 2 ^ a % 2 ^ n = v at *
    simp (maxSteps := 4000000) (disch := omega) only [rr, aop, cV, cV1, AV.one, Qb, okW, Qd, app, Qa, Qc, Qe, Qf, Qg, simprocAttr, Qbt, bA]
    refine Qh.vc hC' ?_
    simp (maxSteps := 4000000) (disch := omega) only [rr, aop, cV, cV1, AV.one, Qb, okW, Qd, app, Qa, Qc, Qe, Qf, Qg, simprocAttr]
    refine Qh.vc hG' ?_
    simp (maxSteps := 4000000) (disch := omega) only [rr, aop, cV, cV1, AV.one, Qb, okW, Qd, app, Qa, Qc, Qe, Qf, Qg, simprocAttr]

theorem Qok {X n : Nat} : X % 2 ^ (n + 1) = 2 * (X / 2 % 2 ^ n) + X % 2 := by
  rw [Nat.pow_succ, Nat.mul_comm, Nat.mod_mul]; omega

end Go.Am

namespace Go.Am
open Go.RowKit

/-! ### Trailing zeros -/

def dbT : List Nat := [0, 1, 56, 2, 57, 49, 28, 3, 61, 58, 42, 50, 38, 29, 17, 4, 62, 47, 59, 36, 45, 43, 51, 22, 53, 39, 33, 30, 24, 18, 12, 5,
  63, 55, 48, 27, 60, 41, 37, 16, 46, 35, 44, 21, 52, 32, 23, 11, 54, 26, 40, 15, 34, 20, 31, 10, 25, 14, 19, 9, 13, 8, 7, 6]
def dbG : List AV := ks .u8 (dbT.map fun n : Nat => (n : Int))

theorem QxR {i : Nat} (h : i < 64) : 2 ^ i * 285870213051353865 % 18446744073709551616 / 288230376151711744 < 64 ∧ dbT[2 ^ i * 285870213051353865 % 18446744073709551616 / 288230376151711744]? = some i := by
  revert i; decide

theorem Qwe {i m : Nat} (h : 2 ^ i * (2 * m + 1) < 18446744073709551616) : (2 ^ i * (2 * m + 1)) &&& (18446744073709551616 - 2 ^ i * (2 * m + 1)) = 2 ^ i := by
  have hi : i < 64 := by
    rcases Nat.lt_or_ge i 64 with h' | h'
    · exact h'
    · have : 2 ^ 64 ≤ 2 ^ i := Nat.pow_le_pow_right (by omega) h'
      have : 2 ^ i * 1 ≤ 2 ^ i * (2 * m + 1) := Nat.mul_le_mul_left _ (by omega)
      omega
  have hm : 2 * m + 1 < 2 ^ (64 - i) := by
    have e : 2 ^ i * 2 ^ (64 - i) = 18446744073709551616 := by rw [← Nat.pow_add, show i + (64 - i) = 64 by omega]
    rw [← e] at h
    exact Nat.lt_of_mul_lt_mul_left h
  have e : 18446744073709551616 - 2 ^ i * (2 * m + 1) = 2 ^ i * (2 ^ (64 - i) - (2 * m + 1)) := by
    rw [Nat.mul_sub, ← Nat.pow_add, show i + (64 - i) = 64 by omega]
  rw [e]
  apply Nat.eq_of_testBit_eq
  intro j
  rw [Nat.testBit_and, Nat.testBit_two_pow_mul, Nat.testBit_two_pow_mul, Nat.testBit_two_pow]
  by_cases hj : i ≤ j
  · rw [show 2 * m + 1 = 2 * m + 1 from rfl]
    have h0 : 2 * m < 2 ^ (64 - i) := by omega
    rw [Nat.testBit_two_pow_sub_succ h0]
    by_cases hj0 : j = i
    · subst hj0
      simp
      omega
    · obtain ⟨k, hk⟩ : ∃ k, j - i = k + 1 := ⟨j - i - 1, by omega⟩
      have e1 : (2 * m + 1).testBit (k + 1) = m.testBit k := by rw [Nat.testBit_succ]; congr 1; omega
      have e2 : (2 * m).testBit (k + 1) = m.testBit k := by rw [Nat.testBit_succ]; congr 1; omega
      rw [hk, e1, e2]
      have : ¬ i = j := fun e => hj0 e.symm
      simp [this]
      intro _ h1 _ _
      exact h1
  · have : ¬ i = j := by omega
    simp [hj, this]

def QxW (P : Prg) (f : Nat) : Prop := ∀ i m : Nat, 2 ^ i * (2 * m + 1) < 18446744073709551616 → VC P f [.int .u64 ((2 ^ i * (2 * m + 1) : Nat) : Int)] (.int .i64 i)
theorem Qv5 {P : Prg} {f g0 : Nat} (bd : Ql P f 14 [.tmp 2] (Q2 g0)) (h0 : P.G.lookup g0 = some dbG) : QxW P f := by
  intro i m h
  refine VC.of_acall rfl rfl (ACall.of_body bd (by simp) ?_)
  have ha := Qwe h
  have hp : 0 < 2 ^ i * (2 * m + 1) := Nat.mul_pos (Nat.pow_pos (by omega)) (by omega)
  have hi : i < 64 := by
    rcases Nat.lt_or_ge i 64 with h' | h'
    · exact h'
    · have : 2 ^ 64 ≤ 2 ^ i := Nat.pow_le_pow_right (by omega) h'
      have : 2 ^ i * 1 ≤ 2 ^ i * (2 * m + 1) := Nat.mul_le_mul_left _ (by omega)
      omega
  obtain ⟨d1, d2⟩ := QxR hi
  generalize 2 ^ i * (2 * m + 1) = x at *
  have e1 : IntKind.u64.wrap (0 - (x : Int)) = ((18446744073709551616 - x : Nat) : Int) := by rw [Zn]; omega
  have e2 : IntKind.u64.wrap (BitVec.ofInt IntKind.u64.bits (x : Int) &&& BitVec.ofInt IntKind.u64.bits ((18446744073709551616 - x : Nat) : Int)).toNat = ((2 ^ i : Nat) : Int) := by
    rw [QmH _ _ h (by omega), ha]
  have e3 : IntKind.u64.wrap (((2 ^ i : Nat) : Int) * 285870213051353865) = ((2 ^ i * 285870213051353865 % 18446744073709551616 : Nat) : Int) := by
    rw [Zn]; omega
  have e4 : Qm false .u64 ((2 ^ i * 285870213051353865 % 18446744073709551616 : Nat) : Int) 58 = some (.int .u64 ((2 ^ i * 285870213051353865 % 18446744073709551616 / 288230376151711744 : Nat) : Int)) :=
    Qgt (K := .u64) (k := 58) (by decide)
  generalize 2 ^ i * 285870213051353865 % 18446744073709551616 / 288230376151711744 = k at *
  generalize 2 ^ i * 285870213051353865 % 18446744073709551616 = y at *
  generalize 2 ^ i = p at *
  have e5 : dbG.drop k = .int .u8 (i : Int) :: dbG.drop (k + 1) := by
    have hl : k < dbT.length := d1
    have : dbT[k] = i := by rw [List.getElem?_eq_getElem hl] at d2; exact Option.some.inj d2
    unfold dbG
    rw [J0, J0, List.drop_eq_getElem_cons (by rw [List.length_map]; exact hl), QcR, List.getElem_map, this]
  have e6 : dbG.length = 64 := rfl
  have g0' : QwQ P.G g0 = .cell dbG := by simp [QwQ, h0]
  simp (maxSteps := 4000000) (disch := omega) only [rr, aop, cV, cV1, AV.one, Qb, okW, Qd, app, Qa, Qc, Qe, Qf, Qg, simprocAttr, Q2, e1, e2, e3, e4, e5, e6, g0']

end Go.Am

namespace Go.Am
open Go.RowKit

/-! ### Runs of ones -/

def QbV : Nat → Nat → Nat
  | 0, _ => 0
  | m + 1, X => if X % 2 = 1 then QbV m (X / 2) + 1 else 0

theorem QlM : ∀ (m X : Nat), QbV m X ≤ m
  | 0, _ => Nat.le_refl _
  | m + 1, X => by
    unfold QbV
    have := QlM m (X / 2)
    split <;> omega

theorem Qns : ∀ (m K X : Nat), m < K → ∃ t, 2 ^ K - 1 - X % 2 ^ m = 2 ^ QbV m X * (2 * t + 1)
  | 0, K, X, h => by
    obtain ⟨k, rfl⟩ : ∃ k, K = k + 1 := ⟨K - 1, by omega⟩
    refine ⟨2 ^ k - 1, ?_⟩
    have : 0 < 2 ^ k := Nat.pow_pos (by omega)
    simp only [QbV, Nat.pow_zero, Nat.mod_one, Nat.one_mul, Nat.pow_succ]
    omega
  | m + 1, K, X, h => by
    obtain ⟨k, rfl⟩ : ∃ k, K = k + 1 := ⟨K - 1, by omega⟩
    obtain ⟨t, ht⟩ := Qns m k (X / 2) (by omega)
    have hs := Qok (X := X) (n := m)
    have hp : 0 < 2 ^ k := Nat.pow_pos (by omega)
    have hy : X / 2 % 2 ^ m < 2 ^ m := Nat.mod_lt _ (Nat.pow_pos (by omega))
    have hm : 2 ^ m ≤ 2 ^ k := Nat.pow_le_pow_right (by omega) (by omega)
    rw [hs]
    unfold QbV
    split
    · rename_i hx
      refine ⟨t, ?_⟩
      rw [hx, Nat.pow_succ 2 k, Nat.pow_succ 2 (QbV m (X / 2)), Nat.mul_assoc, Nat.mul_left_comm, ← ht]
      generalize X / 2 % 2 ^ m = y at *
      omega
    · rename_i hx
      refine ⟨2 ^ k - 1 - X / 2 % 2 ^ m, ?_⟩
      rw [show X % 2 = 0 by omega, Nat.pow_succ]
      generalize X / 2 % 2 ^ m = y at *
      simp
      omega

def QiV (P : Prg) (f : Nat) : Prop := ∀ (N a n : Nat) (cs : List AV), isDL cs = true → a < N → N ≤ 400000 → VC P f [.cell [.list n cs, .int .i64 N], .cell [.int .i64 a]] (.int .i64 (min 48 (N - a) : Nat))
theorem Qos {P : Prg} {f : Nat} (bd : Ql P f 8 [.tmp 2] J6) : QiV P f := by
  intro N a n cs hcs ha hN
  refine VC.of_acall (by simp [isDL, isD, hcs]) rfl (ACall.of_body bd (by simp) ?_)
  obtain ⟨m, hm⟩ : ∃ m, m = min 48 (N - a) := ⟨_, rfl⟩
  have e1 : (if (N : Int) - a < 48 then (N : Int) - a else 48) = (m : Int) := by split <;> omega
  rw [← hm]
  simp (maxSteps := 4000000) (disch := omega) only [rr, aop, cV, cV1, AV.one, Qb, okW, Qd, app, Qa, Qc, Qe, Qf, Qg, simprocAttr, J6, e1]

def QbC (V N a : Nat) : Nat ⊕ (Nat × Nat) :=
  if N ≤ a then .inl 24
  else if QbV (min 48 (N - a)) (V / 2 ^ a) < min 48 (N - a) then .inr (QbV (min 48 (N - a)) (V / 2 ^ a), a + QbV (min 48 (N - a)) (V / 2 ^ a) + 1)
  else if min 48 (N - a) = 48 then .inr (48, a + 48) else .inl 24
def Qp4 : Nat ⊕ (Nat × Nat) → AV
  | .inl e => .tup [.int .i64 0, .int .i64 0, .int .i64 e]
  | .inr (q, n) => .tup [.int .i64 q, .int .i64 n, .int .i64 0]
def QmL (P : Prg) (f : Nat) : Prop := ∀ N V a : Nat, V < 2 ^ N → N ≤ 330000 → a ≤ 400000 → VC P f [bA N V, .int .i64 a] (Qp4 (QbC V N a))

theorem QpM {c : Nat} (h : c < 18446744073709551616) : 18446744073709551615 ^^^ c = 18446744073709551615 - c := by
  have h1 : BitVec.allOnes 64 ^^^ BitVec.ofNat 64 c = ~~~ BitVec.ofNat 64 c := by
    apply BitVec.eq_of_getElem_eq
    intro i hi
    rw [BitVec.getElem_xor, BitVec.getElem_allOnes, BitVec.getElem_not, Bool.true_xor]
  have h2 := congrArg BitVec.toNat h1
  rw [BitVec.toNat_xor, BitVec.toNat_not, BitVec.toNat_allOnes, BitVec.toNat_ofNat, Nat.mod_eq_of_lt h] at h2
  exact h2

theorem Qot {P : Prg} {f fC fT fG fZ t0 t1 : Nat} (bd : Ql P f 53 [.tmp 4, .tmp 5, .tmp 6] (Qbi fC fT fG fZ t0 t1)) (hC : XL P fC) (hT : QiV P fT) (hG : QhB P fG) (hZ : QxW P fZ) : QmL P f := by
  intro N V a hV hN ha
  refine VC.of_acall (by simp [isDL, XR, isD]) (by cases QbC V N a <;> rfl) (ACall.of_cut 1 bd (by simp) ?_)
  have hC' := hC N V hV hN
  rw [bA] at hC'
  have td : isTL (u8 (leB V (nB N))) = true := Zx _
  simp (maxSteps := 4000000) (disch := omega) only [rr, aop, cV, cV1, AV.one, Qb, okW, Qd, app, Qa, Qc, Qe, Qf, Qg, simprocAttr, Qbi, XS, bA]
  refine ⟨⟨[(6, .int .i64 0), (5, .int .i64 0), (4, .int .i64 0), (3, .cell [.int .i64 a]), (2, .cell [.list (nB N) (u8 (leB V (nB N))), .int .i64 N])], []⟩, Le.dropT [] (by simp) (by simp [Am.look, QG, frzL, QF, frzL_T _ td]), ?_⟩
  simp (maxSteps := 4000000) (disch := omega) only [rr, aop, cV, cV1, AV.one, Qb, okW, Qd, app, Qa, Qc, Qe, Qf, Qg, simprocAttr]
  refine Qh.vc hC' ?_
  simp (maxSteps := 4000000) (disch := omega) only [rr, aop, cV, cV1, AV.one, Qb, okW, Qd, app, Qa, Qc, Qe, Qf, Qg, simprocAttr]
  by_cases hlt : N ≤ a
  · have e0 : QbC V N a = .inl 24 := by simp [QbC, hlt]
    rw [e0, Qp4]
    simp (maxSteps := 4000000) (disch := omega) only [rr, aop, cV, cV1, AV.one, Qb, okW, Qd, app, Qa, Qc, Qe, Qf, Qg, simprocAttr]
  · have hT' := hT N a (nB N) (u8 (leB V (nB N))) (QfP _) (by omega) (by omega)
    obtain ⟨m, hm⟩ : ∃ m, m = min 48 (N - a) := ⟨_, rfl⟩
    have hG' := hG N V a m hV hN (by omega) ha
    rw [if_neg (by omega), bA] at hG'
    obtain ⟨q, hq⟩ : ∃ q, q = QbV m (V / 2 ^ a) := ⟨_, rfl⟩
    have hqm := QlM m (V / 2 ^ a)
    obtain ⟨t, ht⟩ := Qns m 64 (V / 2 ^ a) (by omega)
    have hv : V / 2 ^ a % 2 ^ m < 2 ^ m := Nat.mod_lt _ (Nat.pow_pos (by omega))
    have h48 : 2 ^ m ≤ 2 ^ 48 := Nat.pow_le_pow_right (by omega) (by omega)
    have hZ' := hZ (QbV m (V / 2 ^ a)) t (by rw [← ht]; omega)
    rw [← ht] at hZ'
    rw [← hm] at hT'
    have e1 : QbC V N a = if q < m then .inr (q, a + q + 1) else if m = 48 then .inr (48, a + 48) else .inl 24 := by
      rw [QbC, if_neg hlt, ← hm, ← hq]
    rw [e1]
    rw [← hq] at hZ' hqm
    generalize V / 2 ^ a % 2 ^ m = v at *
    have e2 : IntKind.u64.wrap (BitVec.ofInt IntKind.u64.bits IntKind.u64.max ^^^ BitVec.ofInt IntKind.u64.bits (v : Int)).toNat = ((2 ^ 64 - 1 - v : Nat) : Int) := by
      have h1 := QpM (c := v) (by omega)
      rw [show 2 ^ 64 - 1 - v = 18446744073709551615 - v by omega, ← h1]
      exact QpI (K := .u64) rfl (a := 18446744073709551615) (b := v) (by decide) (by show v < 18446744073709551616; omega)
    have e3 : IntKind.u64.signed = false := rfl
    generalize 2 ^ 64 - 1 - v = w at *
    simp (maxSteps := 4000000) (disch := omega) only [rr, aop, cV, cV1, AV.one, Qb, okW, Qd, app, Qa, Qc, Qe, Qf, Qg, simprocAttr]
    refine QQ.vc hT' ?_
    simp (maxSteps := 4000000) (disch := omega) only [rr, aop, cV, cV1, AV.one, Qb, okW, Qd, app, Qa, Qc, Qe, Qf, Qg, simprocAttr]
    refine QQ.vc hG' ?_
    simp (maxSteps := 4000000) (disch := omega) only [rr, aop, cV, cV1, AV.one, Qb, okW, Qd, app, Qa, Qc, Qe, Qf, Qg, simprocAttr, e2, e3]
    refine Qh.vc hZ' ?_
    simp (maxSteps := 4000000) (disch := omega) only [rr, aop, cV, cV1, AV.one, Qb, okW, Qd, app, Qa, Qc, Qe, Qf, Qg, simprocAttr]
    refine Qh.vc hT' ?_
    by_cases hqlt : q < m
    · rw [if_pos hqlt, Qp4]
      have e9 : (1 : Int) + (a + q) = a + q + 1 := by omega
      simp (maxSteps := 4000000) (disch := omega) only [rr, aop, cV, cV1, AV.one, Qb, okW, Qd, app, Qa, Qc, Qe, Qf, Qg, simprocAttr, e9]
    · obtain rfl : q = m := by omega
      rw [if_neg hqlt]
      by_cases h4 : q = 48
      · subst h4
        rw [if_pos rfl, Qp4]
        simp (maxSteps := 4000000) (disch := omega) only [rr, aop, cV, cV1, AV.one, Qb, okW, Qd, app, Qa, Qc, Qe, Qf, Qg, simprocAttr, Int.zero_add]
      · rw [if_neg h4, Qp4]
        simp (maxSteps := 4000000) (disch := omega) only [rr, aop, cV, cV1, AV.one, Qb, okW, Qd, app, Qa, Qc, Qe, Qf, Qg, simprocAttr]

end Go.Am

namespace Go.Am
open Go.RowKit

/-! ### The state of the code with two levels -/

structure Dl where
  k0 : Nat
  k1 : Nat
  s0 : Nat
  s1 : Nat
def dlC (d : Dl) : List AV := [.int .i64 d.k0, .int .i64 d.k1, .int .u64 d.s0, .int .u64 d.s1]
def dlA (d : Dl) : AV := .agg (dlC d)
def okD (d : Dl) : Prop := d.k0 ≤ 24 ∧ d.k1 ≤ 24 ∧ d.s0 ≤ 68719476735 ∧ d.s1 ≤ 68719476735
def Qi : Dl := ⟨10, 10, 16384, 16384⟩
def QbD (k s n : Nat) : Nat × Nat :=
  if 0 < k ∧ s + n - s / 16 < 2 ^ (k + 4) then (k - 1, s + n - s / 16) else if k < 24 ∧ 2 ^ (k + 5) < s + n - s / 16 then (k + 1, s + n - s / 16) else (k, s + n - s / 16)
def Q6 (d : Dl) (v : Nat) : Dl :=
  if v < 2 ^ d.k0 then ⟨(QbD d.k0 d.s0 v).1, d.k1, (QbD d.k0 d.s0 v).2, d.s1⟩
  else ⟨(QbD d.k0 d.s0 v).1, (QbD d.k1 d.s1 (v - 2 ^ d.k0)).1, (QbD d.k0 d.s0 v).2, (QbD d.k1 d.s1 (v - 2 ^ d.k0)).2⟩

theorem QlL {k s n : Nat} (hk : k ≤ 24) (hs : s ≤ 68719476735) (hn : n < 4294967296) : (QbD k s n).1 ≤ 24 ∧ (QbD k s n).2 ≤ 68719476735 := by
  unfold QbD
  have ht : s + n - s / 16 ≤ 68719476735 := by omega
  generalize s + n - s / 16 = t at *
  split
  · exact ⟨by simp only; omega, ht⟩
  · split
    · rename_i h; exact ⟨by have := h.1; simp only; omega, ht⟩
    · exact ⟨hk, ht⟩
theorem QtE {d : Dl} {v : Nat} (h : okD d) (hv : v < 4294967296) : okD (Q6 d v) := by
  obtain ⟨h1, h2, h3, h4⟩ := h
  have p0 := QlL h1 h3 hv
  have p1 := QlL (n := v - 2 ^ d.k0) h2 h4 (Nat.lt_of_le_of_lt (Nat.sub_le _ _) hv)
  unfold Q6
  split
  · exact ⟨p0.1, h2, p0.2, h4⟩
  · exact ⟨p0.1, p1.1, p0.2, p1.2⟩
theorem Qs3 : okD Qi := by unfold okD Qi; decide
theorem Qd3 (d : Dl) : isD (dlA d) = true := rfl

theorem p24 {k : Nat} (h : k ≤ 24) : 2 ^ k ≤ 16777216 ∧ 2 ^ (k + 4) = 16 * 2 ^ k ∧ 2 ^ (k + 5) = 32 * 2 ^ k := by
  have := Nat.pow_le_pow_right (n := 2) (by omega) h
  refine ⟨by simpa using this, ?_, ?_⟩ <;> rw [Nat.pow_add, Nat.mul_comm]

def Qca (P : Prg) (f : Nat) : Prop := VC P f [] (dlA Qi)
theorem Qpa {P : Prg} {f t0 : Nat} (bd : Ql P f 2 [.cell 0 t0] (Qbn t0)) (ht : ZD P t0 = some (some 4)) : Qca P f := by
  refine VC.of_acall rfl rfl (ACall.of_body bd (by simp) ?_)
  simp (maxSteps := 4000000) (disch := omega) only [rr, aop, cV, cV1, AV.one, Qb, okW, Qd, app, Qa, Qc, Qe, Qf, Qg, simprocAttr, Qbn, ZG, ht, Q8, dlA, dlC, Qi]
  try rfl
def Qcv (P : Prg) (f : Nat) : Prop := ∀ d : Dl, okD d → VC P f [dlA d] (.int .i64 0)
theorem Qpc {P : Prg} {f t0 : Nat} (bd : Ql P f 26 [.tmp 2] (Qbp t0)) : Qcv P f := by
  intro d h
  obtain ⟨k0, k1, s0, s1⟩ := d
  obtain ⟨h1, h2, h3, h4⟩ := h
  simp only at h1 h2 h3 h4
  refine VC.of_acall rfl rfl (ACall.of_cut 1 bd (by simp) ?_)
  simp (maxSteps := 4000000) (disch := omega) only [rr, aop, cV, cV1, AV.one, Qb, okW, Qd, app, Qa, Qc, Qe, Qf, Qg, simprocAttr, Qbp, dlA, dlC, XS]
  refine ⟨⟨[(2, .int .i64 0), (1, .cell [.int .i64 k0, .int .i64 k1, .int .u64 s0, .int .u64 s1])], []⟩, Le.dropT [] (by simp) (by simp [Am.look, QG, frzL, QF]), ?_⟩
  simp (maxSteps := 4000000) (disch := omega) only [rr, aop, cV, cV1, AV.one, Qb, okW, Qd, app, Qa, Qc, Qe, Qf, Qg, simprocAttr]

def Qcb (P : Prg) (f : Nat) : Prop := ∀ (d : Dl) (v : Nat), okD d → v < 4294967296 → VC P f [dlA d, .int .u32 v] (if v < 2 ^ d.k0 then .tup [.int .i64 0, .int .u32 v] else .tup [.int .i64 1, .int .u32 ((v - 2 ^ d.k0 : Nat) : Int)])
theorem Qo8 {P : Prg} {f t0 : Nat} (bd : Ql P f 17 [.tmp 4, .tmp 5] (JL t0)) : Qcb P f := by
  intro d v h hv
  obtain ⟨k0, k1, s0, s1⟩ := d
  obtain ⟨h1, h2, h3, h4⟩ := h
  simp only at h1 h2 h3 h4
  refine VC.of_acall rfl (by simp only; split <;> rfl) (ACall.of_body bd (by simp) ?_)
  have e1 : Qm false .u32 (v : Int) (k0 : Int) = some (.int .u32 ((v / 2 ^ k0 : Nat) : Int)) := Qgt (K := .u32) (by show k0 ≤ 32; omega)
  obtain ⟨q1, _⟩ := p24 h1
  have e2 : Qm true .u32 1 (k0 : Int) = some (.int .u32 ((2 ^ k0 : Nat) : Int)) := by
    have := QoB (K := .u32) rfl (c := 1) (s := k0) (by show k0 ≤ 32; omega) (by show 1 * 2 ^ k0 < 4294967296; omega)
    rw [Nat.one_mul] at this
    exact this
  simp only
  by_cases c : v < 2 ^ k0
  · rw [if_pos c]
    rw [Nat.div_eq_of_lt c] at e1
    have e1' : Qm false .u32 (v : Int) (k0 : Int) = some (.int .u32 0) := e1
    simp (maxSteps := 4000000) (disch := omega) only [rr, aop, cV, cV1, AV.one, Qb, okW, Qd, app, Qa, Qc, Qe, Qf, Qg, simprocAttr, JL, dlA, dlC, e1']
  · rw [if_neg c]
    have hpos : 0 < v / 2 ^ k0 := Nat.div_pos (by omega) (Nat.pow_pos (by omega))
    have hle : v / 2 ^ k0 ≤ v := Nat.div_le_self _ _
    have e3 : ((v - 2 ^ k0 : Nat) : Int) = (v : Int) - ((2 ^ k0 : Nat) : Int) := by omega
    generalize v / 2 ^ k0 = w at *
    generalize 2 ^ k0 = p at *
    simp (maxSteps := 4000000) (disch := omega) only [rr, aop, cV, cV1, AV.one, Qb, okW, Qd, app, Qa, Qc, Qe, Qf, Qg, simprocAttr, JL, dlA, dlC, e1, e2, e3]

theorem Qd2 {P : Prg} {f : Nat} (bd : Ql P f 58 [] Qn) {ob : List Ob} {p : Nat} {t : Nat} {d : Dl} (hp : ob[p]? = some ⟨t, 4, 1, dlC d, 0⟩) (hd : okD d) {n : Nat} (hn : n < 4294967296) (b : Bool) {K : AV → List Ob → Prop}
    (hK : K (.tup []) (ob.set p ⟨t, 4, 1, dlC (if b then ⟨d.k0, (QbD d.k1 d.s1 n).1, d.s0, (QbD d.k1 d.s1 n).2⟩ else ⟨(QbD d.k0 d.s0 n).1, d.k1, (QbD d.k0 d.s0 n).2, d.s1⟩), 0⟩)) :
    ACall P f [.ref p 1 (if b then 1 else 0), .ref p 1 (if b then 3 else 2), .int .u32 n] ob K := by
  have hpl : p < ob.length := (List.getElem?_eq_some_iff.1 hp).1
  have g1 : ∀ x, (ob.set p x)[p]? = some x := fun x => by simp [hpl]
  have g2 : ∀ x y, (ob.set p x).set p y = ob.set p y := fun x y => List.set_set _
  have key : ∀ k s : Nat, k ≤ 24 → s ≤ 68719476735 → ∃ t p4 p5 : Nat, t ≤ 68719476735 ∧ IntKind.u64.wrap ((s : Int) + IntKind.u64.wrap ((n : Int) - ((s / 16 : Nat) : Int))) = (t : Int) ∧ Qm false .u64 (s : Int) 4 = some (.int .u64 ((s / 16 : Nat) : Int)) ∧
      Qm true .u64 16 (k : Int) = some (.int .u64 (p4 : Int)) ∧ Qm true .u64 32 (k : Int) = some (.int .u64 (p5 : Int)) ∧
      Qm true .u64 16 (k : Int) = some (.int .u64 (p4 : Int)) ∧ QbD k s n = if 0 < k ∧ t < p4 then (k - 1, t) else if k < 24 ∧ p5 < t then (k + 1, t) else (k, t) := by
    intro k s hk hs
    obtain ⟨q1, q2, q3⟩ := p24 hk
    refine ⟨s + n - s / 16, 2 ^ (k + 4), 2 ^ (k + 5), by omega, ?_, Qgt (K := .u64) (k := 4) (by decide), ?_, ?_, ?_, rfl⟩
    · rw [Zn, Zn]; omega
    · rw [q2]; exact QoB (K := .u64) rfl (c := 16) (by show k ≤ 64; omega) (by show 16 * 2 ^ k < 18446744073709551616; omega)
    · rw [q3]; exact QoB (K := .u64) rfl (c := 32) (by show k ≤ 64; omega) (by show 32 * 2 ^ k < 18446744073709551616; omega)
    · rw [q2]; exact QoB (K := .u64) rfl (c := 16) (by show k ≤ 64; omega) (by show 16 * 2 ^ k < 18446744073709551616; omega)
  obtain ⟨k0, k1, s0, s1⟩ := d
  obtain ⟨h1, h2, h3, h4⟩ := hd
  simp only at h1 h2 h3 h4
  refine ACall.of_body bd (by simp) ?_
  simp only [dlC] at hp hK
  cases b with
  | false =>
    obtain ⟨u, p4, p5, hu, e1, e2, e3, e4, _, e5⟩ := key k0 s0 h1 h3
    simp only [e5, Bool.false_eq_true, if_false] at hK ⊢
    by_cases c1 : 0 < k0
    · by_cases c2 : u < p4
      · rw [if_pos ⟨c1, c2⟩] at hK
        have e6 : ((k0 - 1 : Nat) : Int) = (k0 : Int) - 1 := by omega
        simp only [e6] at hK
        simp (maxSteps := 4000000) (disch := omega) only [rr, aop, cV, cV1, AV.one, Qb, okW, Qd, app, Qa, Qc, Qe, Qf, Qg, simprocAttr, Qn, hp, g1, g2, e1, e2, e3, e4, e6]
        exact hK
      · rw [if_neg (fun h => c2 h.2)] at hK
        by_cases c3 : k0 < 24
        · by_cases c4 : p5 < u
          · rw [if_pos ⟨c3, c4⟩] at hK
            simp only [Int.natCast_add] at hK
            simp (maxSteps := 4000000) (disch := omega) only [rr, aop, cV, cV1, AV.one, Qb, okW, Qd, app, Qa, Qc, Qe, Qf, Qg, simprocAttr, Qn, hp, g1, g2, e1, e2, e3, e4]
            exact hK
          · rw [if_neg (fun h => c4 h.2)] at hK
            simp (maxSteps := 4000000) (disch := omega) only [rr, aop, cV, cV1, AV.one, Qb, okW, Qd, app, Qa, Qc, Qe, Qf, Qg, simprocAttr, Qn, hp, g1, g2, e1, e2, e3, e4]
            exact hK
        · rw [if_neg (fun h => c3 h.1)] at hK
          simp (maxSteps := 4000000) (disch := omega) only [rr, aop, cV, cV1, AV.one, Qb, okW, Qd, app, Qa, Qc, Qe, Qf, Qg, simprocAttr, Qn, hp, g1, g2, e1, e2, e3, e4]
          exact hK
    · rw [if_neg (fun h => c1 h.1)] at hK
      by_cases c4 : p5 < u
      · rw [if_pos ⟨by omega, c4⟩] at hK
        simp only [Int.natCast_add] at hK
        simp (maxSteps := 4000000) (disch := omega) only [rr, aop, cV, cV1, AV.one, Qb, okW, Qd, app, Qa, Qc, Qe, Qf, Qg, simprocAttr, Qn, hp, g1, g2, e1, e2, e3, e4]
        exact hK
      · rw [if_neg (fun h => c4 h.2)] at hK
        simp (maxSteps := 4000000) (disch := omega) only [rr, aop, cV, cV1, AV.one, Qb, okW, Qd, app, Qa, Qc, Qe, Qf, Qg, simprocAttr, Qn, hp, g1, g2, e1, e2, e3, e4]
        exact hK
  | true =>
    obtain ⟨u, p4, p5, hu, e1, e2, e3, e4, _, e5⟩ := key k1 s1 h2 h4
    simp only [e5, if_true] at hK ⊢
    by_cases c1 : 0 < k1
    · by_cases c2 : u < p4
      · rw [if_pos ⟨c1, c2⟩] at hK
        have e6 : ((k1 - 1 : Nat) : Int) = (k1 : Int) - 1 := by omega
        simp only [e6] at hK
        simp (maxSteps := 4000000) (disch := omega) only [rr, aop, cV, cV1, AV.one, Qb, okW, Qd, app, Qa, Qc, Qe, Qf, Qg, simprocAttr, Qn, hp, g1, g2, e1, e2, e3, e4, e6]
        exact hK
      · rw [if_neg (fun h => c2 h.2)] at hK
        by_cases c3 : k1 < 24
        · by_cases c4 : p5 < u
          · rw [if_pos ⟨c3, c4⟩] at hK
            simp only [Int.natCast_add] at hK
            simp (maxSteps := 4000000) (disch := omega) only [rr, aop, cV, cV1, AV.one, Qb, okW, Qd, app, Qa, Qc, Qe, Qf, Qg, simprocAttr, Qn, hp, g1, g2, e1, e2, e3, e4]
            exact hK
          · rw [if_neg (fun h => c4 h.2)] at hK
            simp (maxSteps := 4000000) (disch := omega) only [rr, aop, cV, cV1, AV.one, Qb, okW, Qd, app, Qa, Qc, Qe, Qf, Qg, simprocAttr, Qn, hp, g1, g2, e1, e2, e3, e4]
            exact hK
        · rw [if_neg (fun h => c3 h.1)] at hK
          simp (maxSteps := 4000000) (disch := omega) only [rr, aop, cV, cV1, AV.one, Qb, okW, Qd, app, Qa, Qc, Qe, Qf, Qg, simprocAttr, Qn, hp, g1, g2, e1, e2, e3, e4]
          exact hK
    · rw [if_neg (fun h => c1 h.1)] at hK
      by_cases c4 : p5 < u
      · rw [if_pos ⟨by omega, c4⟩] at hK
        simp only [Int.natCast_add] at hK
        simp (maxSteps := 4000000) (disch := omega) only [rr, aop, cV, cV1, AV.one, Qb, okW, Qd, app, Qa, Qc, Qe, Qf, Qg, simprocAttr, Qn, hp, g1, g2, e1, e2, e3, e4]
        exact hK
      · rw [if_neg (fun h => c4 h.2)] at hK
        simp (maxSteps := 4000000) (disch := omega) only [rr, aop, cV, cV1, AV.one, Qb, okW, Qd, app, Qa, Qc, Qe, Qf, Qg, simprocAttr, Qn, hp, g1, g2, e1, e2, e3, e4]
        exact hK

end Go.Am

namespace Go.Am
open Go.RowKit

/-! ### Bits are put behind bits -/

def bO (t o N : Nat) : Ob := ⟨t, 2, 1, [.own o (nB N), .int .i64 N], 0⟩
def bY (t N V : Nat) : Ob := ⟨t, 1, nB N, u8 (leB V (nB N)), 0⟩

theorem JF (V n : Nat) : isDL (u8 (leB V n)) = true := QfP _
theorem Low.put {ob : List Ob} (h : Low ob.length ob) {t t0 o p N V N' : Nat} (ho : o < ob.length) : Low ob.length (XP ob o p (bY t0 N V) (bO t o N')) := by
  unfold XP
  refine (h.set ?_).set ?_
  · exact lowL_D _ (JF _ _)
  · simp [bO, lowL, Ja, ho]
theorem Low.drop {ob : List Ob} (h : Low ob.length ob) {t t0 o p N V : Nat} (ho : o < ob.length) {M : Nat} (hM : M ≤ ob.length) {J : List Ob} {fr fr' : List (Nat × AV)}
    (hfr : ∀ q ∈ fr', q.2 = .any ∨ (q.2 = Am.look fr q.1 ∧ Ja ob.length q.2 = true)) :
    Le M ⟨fr, XP ob o p (bY t0 N V) (bO t o N) ++ J⟩ ⟨fr', XP ob o p (bY t0 N V) (bO t o N)⟩ := by
  have hl : (XP ob o p (bY t0 N V) (bO t o N)).length = ob.length := Ze
  refine Le.low (by omega) (by rw [hl]; exact h.put ho) ?_
  rw [hl]
  exact hfr

theorem Qx2 {V N v j r : Nat} : V + 2 ^ N * (v % 2 ^ (j + r)) = V + 2 ^ N * (v % 2 ^ j) + 2 ^ (N + j) * (v / 2 ^ j % 2 ^ r) := by
  rw [Nat.pow_add, Nat.mod_mul, Nat.mul_add, Nat.pow_add, Nat.mul_assoc, Nat.add_assoc]

set_option maxHeartbeats 1000000 in
theorem Qn5 {P : Prg} {f t0 t : Nat} (bd : Ql P f 75 [] (J9 t0)) {ob : List Ob} {p o N V v n : Nat} (hp : ob[p]? = some (bO t o N)) (ho : ob[o]? = some (bY t0 N V)) (hpo : p ≠ o) (hV : V < 2 ^ N) (hv : v < 2 ^ n) (hn : n ≤ 64) (hN : N + n ≤ 400000) (hfz : Low ob.length ob)
    {K : AV → List Ob → Prop} (hK : K (.tup []) (XP ob o p (bY t0 (N + n) (V + 2 ^ N * v)) (bO t o (N + n)))) : ACall P f [.ref p 1 0, .int .u64 v, .int .i64 n] ob K := by
  have hol : o < ob.length := (List.getElem?_eq_some_iff.1 ho).1
  have hpl : p < ob.length := (List.getElem?_eq_some_iff.1 hp).1
  refine ACall.of_body bd (by simp) ?_
  have g0 : ∀ x y J, (XP ob o p x y ++ J)[p]? = some y := fun x y J => by rw [List.getElem?_append_left (by rw [Ze]; exact hpl)]; exact Qlj hpl
  have g1 : ∀ x y J, (XP ob o p x y ++ J)[o]? = some x := fun x y J => by rw [List.getElem?_append_left (by rw [Ze]; exact hol)]; exact Qlk hol hpo
  have g2 : ∀ x y J y', (XP ob o p x y ++ J).set p y' = XP ob o p x y' ++ J := fun x y J y' => by rw [List.set_append_left _ _ (by rw [Ze]; exact hpl), Qp2]
  have g3 : ∀ x y J x', (XP ob o p x y ++ J).set o x' = XP ob o p x' y ++ J := fun x y J x' => by rw [List.set_append_left _ _ (by rw [Ze]; exact hol), Qp3 hpo]
  have g4 : ∀ x y j, (XP ob o p x y ++ [j])[ob.length]? = some j := fun x y j => by rw [List.getElem?_append_right (by rw [Ze]; exact Nat.le_refl _), Ze, Nat.sub_self]; rfl
  have gp : ∀ x y, (XP ob o p x y)[p]? = some y := fun x y => Qlj hpl
  have go : ∀ x y, (XP ob o p x y)[o]? = some x := fun x y => Qlk hol hpo
  have sp : ∀ x y y', (XP ob o p x y).set p y' = XP ob o p x y' := fun x y y' => Qp2
  have so : ∀ x y x', (XP ob o p x y).set o x' = XP ob o p x' y := fun x y x' => Qp3 hpo
  have ln : ∀ x y, (XP ob o p x y).length = ob.length := fun x y => Ze
  simp (maxSteps := 4000000) (disch := omega) only [rr, aop, cV, cV1, AV.one, Qb, okW, Qd, app, Qa, Qc, Qe, Qf, Qg, simprocAttr, J9]
  refine QN.by (ι := Nat) (fun j => ⟨[(2, .int .i64 ((n - j : Nat) : Int)), (1, .int .u64 ((v / 2 ^ j : Nat) : Int)), (0, .ref p 1 0)], XP ob o p (bY t0 (N + j) (V + 2 ^ N * (v % 2 ^ j))) (bO t o (N + j))⟩) (fun j => j ≤ n) (fun j => n - j) 0 ?_ (by omega) ?_
  · have : XP ob o p (bY t0 (N + 0) (V + 2 ^ N * (v % 2 ^ 0))) (bO t o (N + 0)) = ob := by
      rw [Nat.add_zero, Nat.pow_zero, Nat.mod_one, Nat.mul_zero, Nat.add_zero]
      exact QjG ho hp hpo
    rw [this]
    exact Le.slots (by simp [Am.look])
  intro j hj
  by_cases hlt : j < n
  · obtain ⟨M, hM⟩ : ∃ M, M = N + j := ⟨_, rfl⟩
    obtain ⟨i, hi⟩ : ∃ i, i = M / 8 := ⟨_, rfl⟩
    obtain ⟨a, ha⟩ : ∃ a, a = M % 8 := ⟨_, rfl⟩
    obtain ⟨r, hr⟩ : ∃ r, r = min (n - j) (8 - a) := ⟨_, rfl⟩
    have hM8 : M = 8 * i + a := by omega
    have hW : V + 2 ^ N * (v % 2 ^ j) < 2 ^ M := by
      have h1 : v % 2 ^ j < 2 ^ j := Nat.mod_lt _ (Nat.pow_pos (by omega))
      have h2 : 2 ^ N * (v % 2 ^ j + 1) ≤ 2 ^ N * 2 ^ j := Nat.mul_le_mul_left _ h1
      rw [hM, Nat.pow_add]; rw [Nat.mul_add, Nat.mul_one] at h2; omega
    have hstep := Qx2 (V := V) (N := N) (v := v) (j := j) (r := r)
    rw [← hM] at hstep ⊢
    have hx : v / 2 ^ j < 18446744073709551616 := by
      have h1 : v / 2 ^ j ≤ v := Nat.div_le_self _ _
      have h2 : 2 ^ n ≤ 2 ^ 64 := Nat.pow_le_pow_right (by omega) hn
      omega
    have hxr : v / 2 ^ (j + r) = v / 2 ^ j / 2 ^ r := by rw [Nat.pow_add, Nat.div_div_eq_div_mul]
    generalize V + 2 ^ N * (v % 2 ^ j) = W at *
    generalize hWW : V + 2 ^ N * (v % 2 ^ (j + r)) = W' at *
    generalize hxx : v / 2 ^ j = x at *
    have h2r : 2 ^ r ≤ 2 ^ 8 := Nat.pow_le_pow_right (by omega) (by omega)
    have h2a : 2 ^ a * 2 ^ r ≤ 2 ^ 8 := by rw [← Nat.pow_add]; exact Nat.pow_le_pow_right (by omega) (by omega)
    have hpos : 0 < 2 ^ r := Nat.pow_pos (by omega)
    have hc : x % 2 ^ r < 2 ^ r := Nat.mod_lt _ hpos
    obtain ⟨l1, l2⟩ := Qb1 (V := W) (i := i) (at_ := a) (by rw [← hM8]; exact hW) (by omega)
    obtain ⟨b1, b2, _⟩ := QcL (V := W) (i := i) (at_ := a) (w := x % 2 ^ r) (r := r) (by rw [← hM8]; exact hW) hc (by omega)
    rw [← hM8, ← hstep] at b1
    have hyb : W / 256 ^ i < 256 := by
      have : 2 ^ a ≤ 2 ^ 8 := Nat.pow_le_pow_right (by omega) (by omega)
      omega
    have hyb2 : W / 256 ^ i + 2 ^ a * (x % 2 ^ r) < 256 := by
      have : 2 ^ (a + r) ≤ 2 ^ 8 := Nat.pow_le_pow_right (by omega) (by omega)
      omega
    have hca : x % 2 ^ r * 2 ^ a < 2 ^ 8 := by
      rw [Nat.mul_comm]
      exact Nat.lt_of_lt_of_le (Nat.mul_lt_mul_of_pos_left hc (Nat.pow_pos (by omega))) h2a
    have hu : ∀ y, y < 256 → u8 [UInt8.ofNat y] = [.int .u8 (y : Int)] := fun y hy => by simp [u8]; omega
    have e8 : IntKind.u8.wrap (BitVec.ofInt IntKind.u8.bits ((W / 256 ^ i : Nat) : Int) ||| BitVec.ofInt IntKind.u8.bits ((x % 2 ^ r * 2 ^ a : Nat) : Int)).toNat = ((W / 256 ^ i + 2 ^ a * (x % 2 ^ r) : Nat) : Int) := by
      rw [orK (K := .u8) rfl hyb hca, Qj0 l2, Nat.mul_comm]
    have e7 : Qm true .u8 ((x % 2 ^ r : Nat) : Int) (a : Int) = some (.int .u8 ((x % 2 ^ r * 2 ^ a : Nat) : Int)) := QoB rfl (by show a ≤ 8; omega) hca
    have e6 : IntKind.u8.wrap ((x % 2 ^ r : Nat) : Int) = ((x % 2 ^ r : Nat) : Int) := by rw [Xm]; omega
    have e5 : IntKind.u64.wrap (BitVec.ofInt IntKind.u64.bits (x : Int) &&& BitVec.ofInt IntKind.u64.bits ((2 ^ r - 1 : Nat) : Int)).toNat = ((x % 2 ^ r : Nat) : Int) := by
      rw [QmH _ _ hx (by omega), Nat.and_two_pow_sub_one_eq_mod]
    have e4 : IntKind.u64.wrap (((2 ^ r : Nat) : Int) - 1) = ((2 ^ r - 1 : Nat) : Int) := by rw [Zn]; omega
    have e3 : Qm true .u64 1 (r : Int) = some (.int .u64 ((2 ^ r : Nat) : Int)) := by
      have := QoB (K := .u64) rfl (c := 1) (s := r) (by show r ≤ 64; omega) (by show 1 * 2 ^ r < 18446744073709551616; omega)
      rw [Nat.one_mul] at this
      exact this
    have e9 : Qm false .u64 (x : Int) (r : Int) = some (.int .u64 ((x / 2 ^ r : Nat) : Int)) := Qgt (K := .u64) (by show r ≤ 64; omega)
    have e1 := QiT (n := M) (by omega)
    rw [← ha] at e1
    have e2 : (if (8 : Int) - a < ((n - j : Nat) : Int) then (8 : Int) - a else ((n - j : Nat) : Int)) = (r : Int) := by split <;> omega
    have hnB : nB (M + r) = i + 1 := by unfold nB; omega
    have hcell : u8 (leB W' (i + 1)) = u8 (leB W i) ++ [.int .u8 ((W / 256 ^ i + 2 ^ a * (x % 2 ^ r) : Nat) : Int)] := by
      rw [b1, show u8 (leB W i ++ [UInt8.ofNat (W / 256 ^ i + 2 ^ a * (x % 2 ^ r))]) = u8 (leB W i) ++ u8 [UInt8.ofNat (W / 256 ^ i + 2 ^ a * (x % 2 ^ r))] by simp [u8]]
      rw [hu _ hyb2]
    have hlen : (u8 (leB W i)).length = i := by simp [u8, Qu]
    rw [← hxr] at e9
    generalize W / 256 ^ i + 2 ^ a * (x % 2 ^ r) = y' at *
    generalize x % 2 ^ r * 2 ^ a = ca at *
    generalize x % 2 ^ r = c at *
    generalize 2 ^ r - 1 = mk at *
    generalize 2 ^ r = pr at *
    have d1 : ∀ z : AV, (u8 (leB W i) ++ [z]).drop i = [z] := fun z => by rw [List.drop_left' hlen]
    have d2 : ∀ z : AV, (u8 (leB W i) ++ [z]).take i = u8 (leB W i) := fun z => by rw [List.take_left' hlen]
    have d3 : ∀ z : AV, (u8 (leB W i) ++ [z]).drop (i + 1) = [] := fun z => List.drop_of_length_le (by simp [hlen])
    have jr : n - j - r = n - (j + r) := by omega
    have el : (⟨t0, 1, i + 1, u8 (leB W i) ++ [.int .u8 (y' : Int)], 0⟩ : Ob) = bY t0 (M + r) W' := by rw [bY, hnB, hcell]
    have er : (⟨t, 2, 1, [.own o (i + 1), .int .i64 ((M : Int) + r)], 0⟩ : Ob) = bO t o (M + r) := by rw [bO, hnB, Int.natCast_add]
    have hMr : N + (j + r) = M + r := by omega
    have e10 : ((n - j : Nat) : Int) - r = ((n - (j + r) : Nat) : Int) := by omega
    have e11 : (M : Int) + r = ((M + r : Nat) : Int) := by omega
    by_cases h0 : a = 0
    · subst h0
      have hnM : nB M = i := by unfold nB; omega
      have hW0 : W / 256 ^ i = 0 := by
        have := l2
        rw [Nat.pow_zero] at this
        exact Nat.lt_one_iff.1 this
      rw [hW0] at e8
      have e8' : IntKind.u8.wrap (BitVec.ofInt IntKind.u8.bits 0 ||| BitVec.ofInt IntKind.u8.bits (ca : Int)).toNat = (y' : Int) := e8
      have e1' : IntKind.i64.wrap (BitVec.ofInt IntKind.i64.bits (M : Int) &&& BitVec.ofInt IntKind.i64.bits 7).toNat = 0 := e1
      have e2' : (if (8 : Int) < ((n - j : Nat) : Int) then (8 : Int) else ((n - j : Nat) : Int)) = (r : Int) := by split <;> omega
      have e12 : i + 1 - 1 = i := by omega
      have e7' : Qm true .u8 (c : Int) 0 = some (.int .u8 (ca : Int)) := e7
      have e13 : (i : Int) + 1 - 1 = i := by omega
      simp (maxSteps := 4000000) (disch := omega) only [rr, aop, cV, cV1, AV.one, Qb, okW, Qd, app, Qa, Qc, Qe, Qf, Qg, simprocAttr, e2', e12, e13, bO, bY, gp, go, sp, so, ln, g0, g1, g2, g3, g4, hnM, hlen, e1', e2, e3, e4, e5, e6, e7', e8', e9, d1, d2, d3]
      refine ⟨j + r, by omega, by omega, ?_⟩
      show Le ob.length _ ⟨[(2, .int .i64 ((n - (j + r) : Nat) : Int)), (1, .int .u64 ((v / 2 ^ (j + r) : Nat) : Int)), (0, .ref p 1 0)], XP ob o p (bY t0 (N + (j + r)) (V + 2 ^ N * (v % 2 ^ (j + r)))) (bO t o (N + (j + r)))⟩
      rw [hWW, hMr, el, er]
      exact hfz.drop hol (Nat.le_refl _) (by simp [Am.look, Ja, hpl, e10])
    · have hnM : nB M = i + 1 := by unfold nB; omega
      have l3 : u8 (leB W (i + 1)) = u8 (leB W i) ++ [.int .u8 ((W / 256 ^ i : Nat) : Int)] := by
        rw [l1, show u8 (leB W i ++ [UInt8.ofNat (W / 256 ^ i)]) = u8 (leB W i) ++ u8 [UInt8.ofNat (W / 256 ^ i)] by simp [u8], hu _ hyb]
      have e12 : i + 1 - 1 = i := by omega
      have e13 : (i : Int) + 1 - 1 = i := by omega
      have ha0 : (a : Int) ≠ 0 := by omega
      generalize W / 256 ^ i = y at *
      simp (maxSteps := 4000000) (disch := omega) only [rr, aop, cV, cV1, AV.one, Qb, okW, Qd, app, Qa, Qc, Qe, Qf, Qg, simprocAttr, e12, e13, bO, bY, gp, go, sp, so, ln, hnM, hlen, l3, e1, e2, e3, e4, e5, e6, e7, e8, e9, d1, d2, d3]
      refine ⟨j + r, by omega, by omega, ?_⟩
      show Le ob.length _ ⟨[(2, .int .i64 ((n - (j + r) : Nat) : Int)), (1, .int .u64 ((v / 2 ^ (j + r) : Nat) : Int)), (0, .ref p 1 0)], XP ob o p (bY t0 (N + (j + r)) (V + 2 ^ N * (v % 2 ^ (j + r)))) (bO t o (N + (j + r)))⟩
      rw [hWW, hMr, el, er]
      exact Le.slots (by simp [Am.look, e10])
  · obtain rfl : j = n := by omega
    rw [Nat.mod_eq_of_lt hv]
    simp (maxSteps := 4000000) (disch := omega) only [rr, aop, cV, cV1, AV.one, Qb, okW, Qd, app, Qa, Qc, Qe, Qf, Qg, simprocAttr]
    exact hK

end Go.Am

namespace Go.Am
open Go.RowKit

/-! ### Codes are read -/

theorem Qd8 {P : Prg} {f f1 fL t : Nat} (bd : Ql P f 36 [] (Zu f1 fL)) (b1 : Ql P f1 58 [] Qn) (hL : Qcb P fL) {ob : List Ob} {p : Nat} {d : Dl} (hp : ob[p]? = some ⟨t, 4, 1, dlC d, 0⟩) (hd : okD d) {v : Nat} (hv : v < 4294967296) {K : AV → List Ob → Prop}
    (hK : K (.tup []) (ob.set p ⟨t, 4, 1, dlC (Q6 d v), 0⟩)) : ACall P f [.ref p 1 0, .int .u32 v] ob K := by
  have hpl : p < ob.length := (List.getElem?_eq_some_iff.1 hp).1
  have hL' := hL d v hd hv
  have nph : ∀ cs, (⟨t, 4, 1, cs, 0⟩ : Ob) ≠ ph := fun cs e => by have := congrArg Ob.sz e; simp [ph] at this
  refine ACall.of_body bd (by simp) ?_
  unfold Q6 at hK
  have hp0 := hp
  obtain ⟨k0, k1, s0, s1⟩ := d
  simp only [dlC] at hp
  simp only [dlA, dlC] at hL' hK
  by_cases c : v < 2 ^ k0
  · rw [if_pos c] at hL' hK
    simp (maxSteps := 4000000) (disch := omega) only [rr, aop, cV, cV1, AV.one, Qb, okW, Qd, app, Qa, Qc, Qe, Qf, Qg, simprocAttr, Zu, hp]
    refine Qh.vc hL' ?_
    simp (maxSteps := 4000000) (disch := omega) only [rr, aop, cV, cV1, AV.one, Qb, okW, Qd, app, Qa, Qc, Qe, Qf, Qg, simprocAttr, hp]
    refine callE.by hp0 (nph _) (fun K hK => Qd2 b1 hp0 hd hv false hK) ?_
    simp (maxSteps := 4000000) (disch := omega) only [rr, aop, cV, cV1, AV.one, Qb, okW, Qd, app, Qa, Qc, Qe, Qf, Qg, simprocAttr]
    exact hK
  · rw [if_neg c] at hL' hK
    have hv2 : v - 2 ^ k0 < 4294967296 := Nat.lt_of_le_of_lt (Nat.sub_le _ _) hv
    obtain ⟨h1, h2, h3, h4⟩ := hd
    have pk := QlL h2 h4 hv2
    simp only at h1 h2 h3 h4 pk
    generalize v - 2 ^ k0 = w at *
    simp (maxSteps := 4000000) (disch := omega) only [rr, aop, cV, cV1, AV.one, Qb, okW, Qd, app, Qa, Qc, Qe, Qf, Qg, simprocAttr, Zu, hp]
    refine Qh.vc hL' ?_
    simp (maxSteps := 4000000) (disch := omega) only [rr, aop, cV, cV1, AV.one, Qb, okW, Qd, app, Qa, Qc, Qe, Qf, Qg, simprocAttr, hp]
    refine callE.by hp0 (nph _) (fun K hK => Qd2 b1 hp0 ⟨h1, h2, h3, h4⟩ hv2 true hK) ?_
    have hp1 : (ob.set p ⟨t, 4, 1, dlC ⟨k0, (QbD k1 s1 w).1, s0, (QbD k1 s1 w).2⟩, 0⟩)[p]? = some ⟨t, 4, 1, dlC ⟨k0, (QbD k1 s1 w).1, s0, (QbD k1 s1 w).2⟩, 0⟩ := by simp [hpl]
    have hp2 := hp1
    simp only [dlC] at hp2
    simp (maxSteps := 4000000) (disch := omega) only [rr, aop, cV, cV1, AV.one, Qb, okW, Qd, app, Qa, Qc, Qe, Qf, Qg, simprocAttr, dlC, hp2]
    refine callE.by hp1 (nph _) (fun K hK => Qd2 b1 hp1 ⟨h1, pk.1, h3, pk.2⟩ hv false hK) ?_
    rw [List.set_set]
    simp (maxSteps := 4000000) (disch := omega) only [rr, aop, cV, cV1, AV.one, Qb, okW, Qd, app, Qa, Qc, Qe, Qf, Qg, simprocAttr]
    exact hK

theorem QjT {P : Prg} {f : Nat} (bd : Ql P f 9 [.tmp 4] XE) {v k : Nat} (hk : k ≤ 24) (hv : v < 4294967296) : VC P f [.int .u32 v, .int .i64 k] (.bool (decide (48 ≤ v / 2 ^ k))) := by
  refine VC.of_acall rfl rfl (ACall.of_body bd (by simp) ?_)
  have e1 : Qm false .u32 (v : Int) (k : Int) = some (.int .u32 ((v / 2 ^ k : Nat) : Int)) := Qgt (K := .u32) (by show k ≤ 32; omega)
  generalize v / 2 ^ k = w at *
  have e2 : decide ((48 : Int) ≤ (w : Int)) = decide (48 ≤ w) := decide_eq_decide.2 (by omega)
  simp (maxSteps := 4000000) (disch := omega) only [rr, aop, cV, cV1, AV.one, Qb, okW, Qd, app, Qa, Qc, Qe, Qf, Qg, simprocAttr, XE, e1, e2]
def Qsz (P : Prg) (f : Nat) : Prop := ∀ v k : Nat, k ≤ 24 → v < 4294967296 → VC P f [.int .u32 v, .int .i64 k] (.bool (decide (48 ≤ v / 2 ^ k)))
theorem Qtj {P : Prg} {f : Nat} (bd : Ql P f 9 [.tmp 4] XE) : Qsz P f := by
  exact fun _ _ h1 h2 => QjT bd h1 h2

def QdW (V N a k : Nat) : Nat ⊕ (Nat × Nat) :=
  match QbC V N a with
  | .inl e => .inl e
  | .inr (q, nx) =>
    if N < nx + (if q = 48 then 32 else k) then .inl 24
    else if q < 48 then .inr (q * 2 ^ k + V / 2 ^ nx % 2 ^ k, nx + k)
    else if V / 2 ^ nx % 2 ^ 32 / 2 ^ k < 48 then .inl 12 else .inr (V / 2 ^ nx % 2 ^ 32, nx + 32)
def rcA : Nat ⊕ (Nat × Nat) → AV
  | .inl e => .tup [.int .u32 0, .int .i64 0, .int .i64 e]
  | .inr (v, n) => .tup [.int .u32 v, .int .i64 n, .int .i64 0]
theorem QvH (o : Nat ⊕ (Nat × Nat)) : isD (rcA o) = true := by cases o <;> rfl

theorem Qnn {V N a q nx : Nat} (h : QbC V N a = .inr (q, nx)) : q ≤ 48 ∧ nx ≤ N ∧ a ≤ nx := by
  unfold QbC at h
  split at h
  · cases h
  split at h
  · cases h
    have := QlM (min 48 (N - a)) (V / 2 ^ a)
    omega
  split at h
  · cases h; omega
  · cases h
theorem QjX {V N a e : Nat} (h : QbC V N a = .inl e) : e = 24 := by
  unfold QbC at h
  split at h
  · cases h; rfl
  split at h
  · cases h
  split at h
  · cases h
  · cases h; rfl

def QmN (P : Prg) (f : Nat) : Prop := ∀ N V a k : Nat, V < 2 ^ N → N ≤ 330000 → a ≤ 400000 → k ≤ 24 → VC P f [bA N V, .int .i64 a, .int .i64 k] (rcA (QdW V N a k))
theorem QqE {P : Prg} {f fC fU fG fE t0 : Nat} (bd : Ql P f 68 [.tmp 6, .tmp 7, .tmp 8] (Zo fC fU fG fE t0)) (hC : XL P fC) (hU : QmL P fU) (hG : QhB P fG) (hE : Qsz P fE) : QmN P f := by
  intro N V a k hV hN ha hk
  refine VC.of_acall (by simp [isDL, XR, isD]) (QvH _) (ACall.of_body bd (by simp) ?_)
  have hC' := hC N V hV hN
  have hU' := hU N V a hV hN ha
  rw [bA] at hC' hU'
  unfold QdW
  cases hu : QbC V N a with
  | inl e =>
    have he := QjX hu
    rw [hu] at hU'
    subst he
    simp (maxSteps := 4000000) (disch := omega) only [rr, aop, cV, cV1, AV.one, Qb, okW, Qd, app, Qa, Qc, Qe, Qf, Qg, simprocAttr, Zo, bA, rcA]
    refine Qh.vc hC' ?_
    simp (maxSteps := 4000000) (disch := omega) only [rr, aop, cV, cV1, AV.one, Qb, okW, Qd, app, Qa, Qc, Qe, Qf, Qg, simprocAttr]
    refine Qh.vc hU' ?_
    simp (maxSteps := 4000000) (disch := omega) only [rr, aop, cV, cV1, AV.one, Qb, okW, Qd, app, Qa, Qc, Qe, Qf, Qg, simprocAttr, Qp4]
  | inr w =>
    obtain ⟨q, nx⟩ := w
    obtain ⟨u1, u2, u3⟩ := Qnn hu
    rw [hu] at hU'
    simp only
    by_cases hq : q = 48
    · have hG' := hG N V nx 32 hV hN (by omega) (by omega)
      subst hq
      rw [bA] at hG'
      simp only [if_true]
      by_cases hs : N < nx + 32
      · rw [if_pos hs] at hG' ⊢
        simp (maxSteps := 4000000) (disch := omega) only [rr, aop, cV, cV1, AV.one, Qb, okW, Qd, app, Qa, Qc, Qe, Qf, Qg, simprocAttr, Zo, bA, rcA]
        refine Qh.vc hC' ?_
        simp (maxSteps := 4000000) (disch := omega) only [rr, aop, cV, cV1, AV.one, Qb, okW, Qd, app, Qa, Qc, Qe, Qf, Qg, simprocAttr]
        refine Qh.vc hU' ?_
        simp (maxSteps := 4000000) (disch := omega) only [rr, aop, cV, cV1, AV.one, Qb, okW, Qd, app, Qa, Qc, Qe, Qf, Qg, simprocAttr, Qp4]
        refine Qh.vc hG' ?_
        simp (maxSteps := 4000000) (disch := omega) only [rr, aop, cV, cV1, AV.one, Qb, okW, Qd, app, Qa, Qc, Qe, Qf, Qg, simprocAttr]
      · rw [if_neg hs] at hG' ⊢
        have hx : V / 2 ^ nx % 2 ^ 32 < 4294967296 := Nat.mod_lt _ (by decide)
        generalize V / 2 ^ nx % 2 ^ 32 = x at *
        have hE' := hE x k hk hx
        rw [if_neg (by omega)]
        have e1 : IntKind.u32.wrap (x : Int) = x := Qm7 (by omega) (by omega)
        by_cases h4 : x / 2 ^ k < 48
        · rw [if_pos h4]
          rw [decide_eq_false (by omega)] at hE'
          simp (maxSteps := 4000000) (disch := omega) only [rr, aop, cV, cV1, AV.one, Qb, okW, Qd, app, Qa, Qc, Qe, Qf, Qg, simprocAttr, Zo, bA, rcA]
          refine Qh.vc hC' ?_
          simp (maxSteps := 4000000) (disch := omega) only [rr, aop, cV, cV1, AV.one, Qb, okW, Qd, app, Qa, Qc, Qe, Qf, Qg, simprocAttr]
          refine Qh.vc hU' ?_
          simp (maxSteps := 4000000) (disch := omega) only [rr, aop, cV, cV1, AV.one, Qb, okW, Qd, app, Qa, Qc, Qe, Qf, Qg, simprocAttr, Qp4]
          refine Qh.vc hG' ?_
          simp (maxSteps := 4000000) (disch := omega) only [rr, aop, cV, cV1, AV.one, Qb, okW, Qd, app, Qa, Qc, Qe, Qf, Qg, simprocAttr]
          refine Qh.vc hE' ?_
          simp (maxSteps := 4000000) (disch := omega) only [rr, aop, cV, cV1, AV.one, Qb, okW, Qd, app, Qa, Qc, Qe, Qf, Qg, simprocAttr]
        · rw [if_neg h4]
          rw [decide_eq_true (by omega)] at hE'
          simp (maxSteps := 4000000) (disch := omega) only [rr, aop, cV, cV1, AV.one, Qb, okW, Qd, app, Qa, Qc, Qe, Qf, Qg, simprocAttr, Zo, bA, rcA]
          refine Qh.vc hC' ?_
          simp (maxSteps := 4000000) (disch := omega) only [rr, aop, cV, cV1, AV.one, Qb, okW, Qd, app, Qa, Qc, Qe, Qf, Qg, simprocAttr]
          refine Qh.vc hU' ?_
          simp (maxSteps := 4000000) (disch := omega) only [rr, aop, cV, cV1, AV.one, Qb, okW, Qd, app, Qa, Qc, Qe, Qf, Qg, simprocAttr, Qp4]
          refine Qh.vc hG' ?_
          simp (maxSteps := 4000000) (disch := omega) only [rr, aop, cV, cV1, AV.one, Qb, okW, Qd, app, Qa, Qc, Qe, Qf, Qg, simprocAttr]
          refine Qh.vc hE' ?_
          simp (maxSteps := 4000000) (disch := omega) only [rr, aop, cV, cV1, AV.one, Qb, okW, Qd, app, Qa, Qc, Qe, Qf, Qg, simprocAttr]
    · have hG' := hG N V nx k hV hN (by omega) (by omega)
      rw [bA] at hG'
      rw [if_neg hq]
      by_cases hs : N < nx + k
      · rw [if_pos hs] at hG' ⊢
        simp (maxSteps := 4000000) (disch := omega) only [rr, aop, cV, cV1, AV.one, Qb, okW, Qd, app, Qa, Qc, Qe, Qf, Qg, simprocAttr, Zo, bA, rcA]
        refine Qh.vc hC' ?_
        simp (maxSteps := 4000000) (disch := omega) only [rr, aop, cV, cV1, AV.one, Qb, okW, Qd, app, Qa, Qc, Qe, Qf, Qg, simprocAttr]
        refine Qh.vc hU' ?_
        simp (maxSteps := 4000000) (disch := omega) only [rr, aop, cV, cV1, AV.one, Qb, okW, Qd, app, Qa, Qc, Qe, Qf, Qg, simprocAttr, Qp4]
        refine Qh.vc hG' ?_
        simp (maxSteps := 4000000) (disch := omega) only [rr, aop, cV, cV1, AV.one, Qb, okW, Qd, app, Qa, Qc, Qe, Qf, Qg, simprocAttr]
      · rw [if_neg hs] at hG' ⊢
        rw [if_pos (by omega)]
        have hx : V / 2 ^ nx % 2 ^ k < 2 ^ k := Nat.mod_lt _ (Nat.pow_pos (by omega))
        obtain ⟨pk, _⟩ := p24 hk
        have hqk : q * 2 ^ k ≤ 47 * 16777216 := Nat.mul_le_mul (by omega) pk
        have e1 : Qm true .u32 (q : Int) (k : Int) = some (.int .u32 ((q * 2 ^ k : Nat) : Int)) := QoB (K := .u32) rfl (by show k ≤ 32; omega) (by show q * 2 ^ k < 4294967296; omega)
        have e2 : IntKind.u32.wrap (BitVec.ofInt IntKind.u32.bits ((q * 2 ^ k : Nat) : Int) ||| BitVec.ofInt IntKind.u32.bits ((V / 2 ^ nx % 2 ^ k : Nat) : Int)).toNat = ((q * 2 ^ k + V / 2 ^ nx % 2 ^ k : Nat) : Int) := by
          rw [orK (K := .u32) rfl (by show q * 2 ^ k < 4294967296; omega) (by show V / 2 ^ nx % 2 ^ k < 4294967296; omega), Nat.or_comm, Qj0 hx, Nat.add_comm]
        generalize V / 2 ^ nx % 2 ^ k = x at *
        generalize q * 2 ^ k + x = y at *
        generalize q * 2 ^ k = qk at *
        simp (maxSteps := 4000000) (disch := omega) only [rr, aop, cV, cV1, AV.one, Qb, okW, Qd, app, Qa, Qc, Qe, Qf, Qg, simprocAttr, Zo, bA, rcA]
        refine Qh.vc hC' ?_
        simp (maxSteps := 4000000) (disch := omega) only [rr, aop, cV, cV1, AV.one, Qb, okW, Qd, app, Qa, Qc, Qe, Qf, Qg, simprocAttr]
        refine Qh.vc hU' ?_
        simp (maxSteps := 4000000) (disch := omega) only [rr, aop, cV, cV1, AV.one, Qb, okW, Qd, app, Qa, Qc, Qe, Qf, Qg, simprocAttr, Qp4]
        refine Qh.vc hG' ?_
        simp (maxSteps := 4000000) (disch := omega) only [rr, aop, cV, cV1, AV.one, Qb, okW, Qd, app, Qa, Qc, Qe, Qf, Qg, simprocAttr, e1, e2]

end Go.Am

namespace Go.Am
open Go.RowKit

def Qih (V N a : Nat) (d : Dl) : Nat ⊕ (Nat × Nat) :=
  if N ≤ a then .inl 24
  else if V / 2 ^ a % 2 = 0 then (if N < a + 1 + d.k0 then .inl 24 else .inr (V / 2 ^ (a + 1) % 2 ^ d.k0, a + 1 + d.k0))
  else match QdW V N (a + 1) d.k1 with
    | .inl e => .inl e
    | .inr (l, nx) => if 4294967295 < l + 2 ^ d.k0 then .inl 12 else .inr (l + 2 ^ d.k0, nx)

theorem QqD {V N a k v nx : Nat} (hk : k ≤ 24) (h : QdW V N a k = .inr (v, nx)) : v < 4294967296 ∧ nx ≤ N := by
  unfold QdW at h
  cases hu : QbC V N a with
  | inl e => rw [hu] at h; cases h
  | inr w =>
    obtain ⟨q, n⟩ := w
    obtain ⟨u1, u2, u3⟩ := Qnn hu
    rw [hu] at h
    simp only at h
    by_cases hs : N < n + (if q = 48 then 32 else k)
    · rw [if_pos hs] at h; cases h
    rw [if_neg hs] at h
    by_cases hq : q < 48
    · rw [if_pos hq] at h
      cases h
      obtain ⟨pk, _⟩ := p24 hk
      have hx : V / 2 ^ n % 2 ^ k < 2 ^ k := Nat.mod_lt _ (Nat.pow_pos (by omega))
      have hqk : q * 2 ^ k ≤ 47 * 16777216 := Nat.mul_le_mul (by omega) pk
      rw [if_neg (show ¬ q = 48 by omega)] at hs
      exact ⟨by omega, by omega⟩
    · rw [if_neg hq] at h
      rw [if_pos (show q = 48 by omega)] at hs
      by_cases h4 : V / 2 ^ n % 2 ^ 32 / 2 ^ k < 48
      · rw [if_pos h4] at h; cases h
      · rw [if_neg h4] at h
        cases h
        exact ⟨Nat.mod_lt _ (by decide), by omega⟩
theorem Qnj {V N a k e : Nat} (h : QdW V N a k = .inl e) : e = 24 ∨ e = 12 := by
  unfold QdW at h
  cases hu : QbC V N a with
  | inl e' => rw [hu] at h; cases h; exact .inl (QjX hu)
  | inr w =>
    obtain ⟨q, n⟩ := w
    rw [hu] at h
    simp only at h
    by_cases hs : N < n + (if q = 48 then 32 else k)
    · rw [if_pos hs] at h; cases h; exact .inl rfl
    rw [if_neg hs] at h
    by_cases hq : q < 48
    · rw [if_pos hq] at h; cases h
    · rw [if_neg hq] at h
      by_cases h4 : V / 2 ^ n % 2 ^ 32 / 2 ^ k < 48
      · rw [if_pos h4] at h; cases h; exact .inr rfl
      · rw [if_neg h4] at h; cases h
theorem QnL {V N a v nx : Nat} {d : Dl} (hd : okD d) (h : Qih V N a d = .inr (v, nx)) : v < 4294967296 ∧ nx ≤ N := by
  obtain ⟨pk, _⟩ := p24 hd.1
  unfold Qih at h
  split at h
  · cases h
  split at h
  · split at h
    · cases h
    · cases h
      have : V / 2 ^ (a + 1) % 2 ^ d.k0 < 2 ^ d.k0 := Nat.mod_lt _ (Nat.pow_pos (by omega))
      exact ⟨by omega, by omega⟩
  · cases hr : QdW V N (a + 1) d.k1 with
    | inl e => rw [hr] at h; cases h
    | inr w =>
      obtain ⟨l, n⟩ := w
      rw [hr] at h
      simp only at h
      split at h
      · cases h
      · cases h
        exact ⟨by omega, (QqD hd.2.1 hr).2⟩
theorem QlV {V N a e : Nat} {d : Dl} (h : Qih V N a d = .inl e) : e = 24 ∨ e = 12 := by
  unfold Qih at h
  split at h
  · cases h; exact .inl rfl
  split at h
  · split at h
    · cases h; exact .inl rfl
    · cases h
  · cases hr : QdW V N (a + 1) d.k1 with
    | inl e' => rw [hr] at h; cases h; exact Qnj hr
    | inr w =>
      obtain ⟨l, n⟩ := w
      rw [hr] at h
      simp only at h
      split at h
      · cases h; exact .inr rfl
      · cases h

def drA (d : Dl) : Nat ⊕ (Nat × Nat) → AV
  | .inl e => .tup [.int .u32 0, .int .i64 0, dlA ⟨0, 0, 0, 0⟩, .int .i64 e]
  | .inr (v, nx) => .tup [.int .u32 v, .int .i64 nx, dlA (Q6 d v), .int .i64 0]
def Qi0 (P : Prg) (f : Nat) : Prop := ∀ (N V a : Nat) (d : Dl), V < 2 ^ N → N ≤ 330000 → a ≤ 300000 → okD d → VC P f [bA N V, .int .i64 a, dlA d] (drA d (Qih V N a d))
theorem QrP {P : Prg} {f fC fD fG fR fL fl1 fll t0 t1 : Nat} (bd : Ql P f 86 [.tmp 6, .tmp 7, .cell 8 t1, .tmp 9] (Zp fC fD fG fR fL t0 t1)) (hC : XL P fC) (hD : Qcv P fD) (hG : QhB P fG) (hR : QmN P fR)
    (bL : Ql P fL 36 [] (Zu fl1 fll)) (b1 : Ql P fl1 58 [] Qn) (hL : Qcb P fll) (ht : ZD P t1 = some (some 4)) : Qi0 P f := by
  intro N V a d hV hN ha hd
  refine VC.of_acall (by simp [isDL, XR, Qd3, isD]) (by cases Qih V N a d <;> rfl) (ACall.of_body bd (by simp) ?_)
  have hd' := hd
  have hC' := hC N V hV hN
  have hD' := hD d hd
  have hgl := fun v nx (h : Qih V N a d = .inr (v, nx)) => QnL hd h
  have hL1 : ∀ {ob : List Ob} {p : Nat} {v : Nat} {K : AV → List Ob → Prop}, ob[p]? = some ⟨t1, 4, 1, dlC d, 0⟩ → v < 4294967296 → K (.tup []) (ob.set p ⟨t1, 4, 1, dlC (Q6 d v), 0⟩) → ACall P fL [.ref p 1 0, .int .u32 v] ob K :=
    fun hp hv hK => Qd8 bL b1 hL hp hd hv hK
  rw [bA] at hC'
  obtain ⟨k0, k1, s0, s1⟩ := d
  obtain ⟨h1, h2, h3, h4⟩ := hd'
  simp only at h1 h2 h3 h4
  obtain ⟨pk, _⟩ := p24 h1
  have hG1 := hG N V a 1 hV hN (by omega) (by omega)
  rw [bA] at hG1
  simp only [dlA, dlC] at hD'
  unfold Qih at hgl ⊢
  by_cases hlt : N ≤ a
  · rw [if_pos hlt]
    rw [if_pos (by omega)] at hG1
    simp (maxSteps := 4000000) (disch := omega) only [rr, aop, cV, cV1, AV.one, Qb, okW, Qd, app, Qa, Qc, Qe, Qf, Qg, simprocAttr, Zp, bA, drA, dlA, dlC]
    refine Qh.vc hC' ?_
    simp (maxSteps := 4000000) (disch := omega) only [rr, aop, cV, cV1, AV.one, Qb, okW, Qd, app, Qa, Qc, Qe, Qf, Qg, simprocAttr]
    refine Qh.vc hD' ?_
    simp (maxSteps := 4000000) (disch := omega) only [rr, aop, cV, cV1, AV.one, Qb, okW, Qd, app, Qa, Qc, Qe, Qf, Qg, simprocAttr]
    refine Qh.vc hG1 ?_
    simp (maxSteps := 4000000) (disch := omega) only [rr, aop, cV, cV1, AV.one, Qb, okW, Qd, app, Qa, Qc, Qe, Qf, Qg, simprocAttr, ZG, ht, Q8]
  rw [if_neg hlt] at hgl ⊢
  rw [if_neg (by omega)] at hG1
  have hb : V / 2 ^ a % 2 < 2 := Nat.mod_lt _ (by decide)
  rw [Nat.pow_one] at hG1
  by_cases h0 : V / 2 ^ a % 2 = 0
  · rw [if_pos h0] at hgl ⊢
    rw [h0] at hG1
    simp only at hgl ⊢
    have hG2 : VC P fG [bA N V, .int .i64 ((a : Int) + 1), .int .i64 k0] (if N < a + 1 + k0 then .tup [.int .u64 0, .int .i64 24] else .tup [.int .u64 ((V / 2 ^ (a + 1) % 2 ^ k0 : Nat) : Int), .int .i64 0]) := hG N V (a + 1) k0 hV hN (by omega) (by omega)
    rw [bA] at hG2
    by_cases hs : N < a + 1 + k0
    · rw [if_pos hs] at hG2 ⊢
      simp (maxSteps := 4000000) (disch := omega) only [rr, aop, cV, cV1, AV.one, Qb, okW, Qd, app, Qa, Qc, Qe, Qf, Qg, simprocAttr, Zp, bA, drA, dlA, dlC]
      refine Qh.vc hC' ?_
      simp (maxSteps := 4000000) (disch := omega) only [rr, aop, cV, cV1, AV.one, Qb, okW, Qd, app, Qa, Qc, Qe, Qf, Qg, simprocAttr]
      refine Qh.vc hD' ?_
      simp (maxSteps := 4000000) (disch := omega) only [rr, aop, cV, cV1, AV.one, Qb, okW, Qd, app, Qa, Qc, Qe, Qf, Qg, simprocAttr]
      refine Qh.vc hG1 ?_
      simp (maxSteps := 4000000) (disch := omega) only [rr, aop, cV, cV1, AV.one, Qb, okW, Qd, app, Qa, Qc, Qe, Qf, Qg, simprocAttr]
      refine Qh.vc hG2 ?_
      simp (maxSteps := 4000000) (disch := omega) only [rr, aop, cV, cV1, AV.one, Qb, okW, Qd, app, Qa, Qc, Qe, Qf, Qg, simprocAttr, ZG, ht, Q8]
    · rw [if_neg hs] at hG2 hgl ⊢
      have hx : V / 2 ^ (a + 1) % 2 ^ k0 < 2 ^ k0 := Nat.mod_lt _ (Nat.pow_pos (by omega))
      generalize V / 2 ^ (a + 1) % 2 ^ k0 = x at *
      simp (maxSteps := 4000000) (disch := omega) only [rr, aop, cV, cV1, AV.one, Qb, okW, Qd, app, Qa, Qc, Qe, Qf, Qg, simprocAttr, Zp, bA, drA, dlA, dlC]
      refine Qh.vc hC' ?_
      simp (maxSteps := 4000000) (disch := omega) only [rr, aop, cV, cV1, AV.one, Qb, okW, Qd, app, Qa, Qc, Qe, Qf, Qg, simprocAttr]
      refine Qh.vc hD' ?_
      simp (maxSteps := 4000000) (disch := omega) only [rr, aop, cV, cV1, AV.one, Qb, okW, Qd, app, Qa, Qc, Qe, Qf, Qg, simprocAttr]
      refine Qh.vc hG1 ?_
      simp (maxSteps := 4000000) (disch := omega) only [rr, aop, cV, cV1, AV.one, Qb, okW, Qd, app, Qa, Qc, Qe, Qf, Qg, simprocAttr]
      refine Qh.vc hG2 ?_
      simp (maxSteps := 4000000) (disch := omega) only [rr, aop, cV, cV1, AV.one, Qb, okW, Qd, app, Qa, Qc, Qe, Qf, Qg, simprocAttr]
      refine hL1 (v := x) rfl (by omega) ?_
      generalize Q6 ⟨k0, k1, s0, s1⟩ x = d'
      obtain ⟨l0, l1, l2, l3⟩ := d'
      simp (maxSteps := 4000000) (disch := omega) only [rr, aop, cV, cV1, AV.one, Qb, okW, Qd, app, Qa, Qc, Qe, Qf, Qg, simprocAttr, ZG, ht, Q8, dlC]
  · rw [if_neg h0] at hgl ⊢
    rw [show V / 2 ^ a % 2 = 1 by omega] at hG1
    have hR' : VC P fR [bA N V, .int .i64 ((a : Int) + 1), .int .i64 k1] (rcA (QdW V N (a + 1) k1)) := hR N V (a + 1) k1 hV hN (by omega) h2
    rw [bA] at hR'
    simp only at hgl ⊢
    cases hr : QdW V N (a + 1) k1 with
    | inl e =>
      have he := Qnj hr
      rw [hr] at hR'
      have he0 : (e : Int) ≠ 0 := by omega
      simp (maxSteps := 4000000) (disch := omega) only [rr, aop, cV, cV1, AV.one, Qb, okW, Qd, app, Qa, Qc, Qe, Qf, Qg, simprocAttr, Zp, bA, drA, dlA, dlC]
      refine Qh.vc hC' ?_
      simp (maxSteps := 4000000) (disch := omega) only [rr, aop, cV, cV1, AV.one, Qb, okW, Qd, app, Qa, Qc, Qe, Qf, Qg, simprocAttr]
      refine Qh.vc hD' ?_
      simp (maxSteps := 4000000) (disch := omega) only [rr, aop, cV, cV1, AV.one, Qb, okW, Qd, app, Qa, Qc, Qe, Qf, Qg, simprocAttr]
      refine Qh.vc hG1 ?_
      simp (maxSteps := 4000000) (disch := omega) only [rr, aop, cV, cV1, AV.one, Qb, okW, Qd, app, Qa, Qc, Qe, Qf, Qg, simprocAttr]
      refine Qh.vc hR' ?_
      simp (maxSteps := 4000000) (disch := omega) only [rr, aop, cV, cV1, AV.one, Qb, okW, Qd, app, Qa, Qc, Qe, Qf, Qg, simprocAttr, rcA, ZG, ht, Q8]
    | inr w =>
      obtain ⟨l, nx⟩ := w
      obtain ⟨r1, r2⟩ := QqD h2 hr
      rw [hr] at hR' hgl
      simp only at hgl ⊢
      have e2 : Qm true .u32 1 (k0 : Int) = some (.int .u32 ((2 ^ k0 : Nat) : Int)) := by
        have := QoB (K := .u32) rfl (c := 1) (s := k0) (by show k0 ≤ 32; omega) (by show 1 * 2 ^ k0 < 4294967296; omega)
        rw [Nat.one_mul] at this
        exact this
      have hp0 : 0 < 2 ^ k0 := Nat.pow_pos (by omega)
      generalize 2 ^ k0 = p at *
      by_cases ho : 4294967295 < l + p
      · rw [if_pos ho]
        have e3 : IntKind.u32.wrap ((l : Int) + p) = (l : Int) + p - 4294967296 := by rw [Jh]; omega
        simp (maxSteps := 4000000) (disch := omega) only [rr, aop, cV, cV1, AV.one, Qb, okW, Qd, app, Qa, Qc, Qe, Qf, Qg, simprocAttr, Zp, bA, drA, dlA, dlC]
        refine Qh.vc hC' ?_
        simp (maxSteps := 4000000) (disch := omega) only [rr, aop, cV, cV1, AV.one, Qb, okW, Qd, app, Qa, Qc, Qe, Qf, Qg, simprocAttr]
        refine Qh.vc hD' ?_
        simp (maxSteps := 4000000) (disch := omega) only [rr, aop, cV, cV1, AV.one, Qb, okW, Qd, app, Qa, Qc, Qe, Qf, Qg, simprocAttr]
        refine Qh.vc hG1 ?_
        simp (maxSteps := 4000000) (disch := omega) only [rr, aop, cV, cV1, AV.one, Qb, okW, Qd, app, Qa, Qc, Qe, Qf, Qg, simprocAttr]
        refine Qh.vc hR' ?_
        simp (maxSteps := 4000000) (disch := omega) only [rr, aop, cV, cV1, AV.one, Qb, okW, Qd, app, Qa, Qc, Qe, Qf, Qg, simprocAttr, rcA, e2, e3, ZG, ht, Q8]
      · rw [if_neg ho]
        simp (maxSteps := 4000000) (disch := omega) only [rr, aop, cV, cV1, AV.one, Qb, okW, Qd, app, Qa, Qc, Qe, Qf, Qg, simprocAttr, Zp, bA, drA, dlA, dlC]
        refine Qh.vc hC' ?_
        simp (maxSteps := 4000000) (disch := omega) only [rr, aop, cV, cV1, AV.one, Qb, okW, Qd, app, Qa, Qc, Qe, Qf, Qg, simprocAttr]
        refine Qh.vc hD' ?_
        simp (maxSteps := 4000000) (disch := omega) only [rr, aop, cV, cV1, AV.one, Qb, okW, Qd, app, Qa, Qc, Qe, Qf, Qg, simprocAttr]
        refine Qh.vc hG1 ?_
        simp (maxSteps := 4000000) (disch := omega) only [rr, aop, cV, cV1, AV.one, Qb, okW, Qd, app, Qa, Qc, Qe, Qf, Qg, simprocAttr]
        refine Qh.vc hR' ?_
        simp (maxSteps := 4000000) (disch := omega) only [rr, aop, cV, cV1, AV.one, Qb, okW, Qd, app, Qa, Qc, Qe, Qf, Qg, simprocAttr, rcA, e2]
        refine hL1 (v := l + p) rfl (by omega) ?_
        generalize Q6 ⟨k0, k1, s0, s1⟩ (l + p) = d'
        obtain ⟨l0, l1, l2, l3⟩ := d'
        simp (maxSteps := 4000000) (disch := omega) only [rr, aop, cV, cV1, AV.one, Qb, okW, Qd, app, Qa, Qc, Qe, Qf, Qg, simprocAttr, ZG, ht, Q8, dlC]

end Go.Am

namespace Go.Am
open Go.RowKit

/-! ### Bits of bytes, bits cut out -/

theorem QjN {P : Prg} {f t0 : Nat} (b : Ql P f 8 [.tmp 2] (QH t0)) : JR P f := by
  exact Qmq b

theorem QwJ (l : List UInt8) : nB (8 * l.length) = l.length := by unfold nB; omega
theorem Qv9 (l : List UInt8) : bA (8 * l.length) (leN l) = .agg [bs l, .int .i64 ((8 * l.length : Nat) : Int)] := by
  rw [bA, QwJ, Qid]; rfl
theorem Qre (l : List UInt8) : leN l < 2 ^ (8 * l.length) := QeA l

def ofA (l : List UInt8) : AV := if 41250 < l.length then .tup [bA 0 0, .int .i64 4] else .tup [bA (8 * l.length) (leN l), .int .i64 0]
def Qut (P : Prg) (f : Nat) : Prop := ∀ l : List UInt8, l.length ≤ 1000000 → VC P f [bs l] (ofA l)
theorem Qv6 {P : Prg} {f fC t0 : Nat} (bd : Ql P f 14 [.cell 2 t0, .tmp 3] (Qcs fC t0)) (hC : JR P fC) (ht : ZD P t0 = some (some 2)) : Qut P f := by
  intro l hl
  refine VC.of_walk 2 (by simp [isDL, Zy]) (by unfold ofA; split <;> simp [isD, isDL, XR]) (ACall.of_body bd (by simp) ?_)
  have hC' := hC l (by omega)
  simp only [bs] at hC'
  unfold ofA
  by_cases h : 41250 < l.length
  · rw [if_pos h]
    simp (maxSteps := 4000000) (disch := omega) only [rr, aop, cV, cV1, AV.one, Qb, okW, Qd, app, Qa, Qc, Qe, Qf, Qg, simprocAttr, Qcs, bs, ZG, ht, Q8]
    simp [Q7, QG, frzL, QF, bA, nB, leB, u8]
  · rw [if_neg h, Qv9]
    simp (maxSteps := 4000000) (disch := omega) only [rr, aop, cV, cV1, AV.one, Qb, okW, Qd, app, Qa, Qc, Qe, Qf, Qg, simprocAttr, Qcs, bs]
    refine Qh.vc hC' ?_
    simp (maxSteps := 4000000) (disch := omega) only [rr, aop, cV, cV1, AV.one, Qb, okW, Qd, app, Qa, Qc, Qe, Qf, Qg, simprocAttr, ZG, ht, Q8]
    simp [Q7, QG, frzL, QF, frzL_T _ (Zx _), bs]

def Quv (P : Prg) (f : Nat) : Prop := ∀ N V a b : Nat, V < 2 ^ N → N ≤ 330000 → a ≤ b → b ≤ N → VC P f [bA N V, .int .i64 a, .int .i64 b] (.tup [bA (b - a) (V / 2 ^ a % 2 ^ (b - a)), .int .i64 0])
set_option maxHeartbeats 1000000 in
theorem Quo {P : Prg} {f fC fG fP t0 tp : Nat} (bd : Ql P f 46 [.cell 6 t0, .tmp 7] (Qc7 fC fG fP t0)) (hC : XL P fC) (hG : Qn8 P fG) (bP : Ql P fP 75 [] (J9 tp)) (ht : ZD P t0 = some (some 2)) : Quv P f := by
  intro N V a b hV hN hab hbN
  refine VC.of_walk 2 (by simp [isDL, XR, isD]) (by simp [isD, isDL, XR]) (ACall.of_body bd (by simp) ?_)
  have hC' := hC N V hV hN
  rw [bA] at hC'
  have tu : isTL (u8 (leB V (nB N))) = true := Zx _
  simp (maxSteps := 4000000) (disch := omega) only [rr, aop, cV, cV1, AV.one, Qb, okW, Qd, app, Qa, Qc, Qe, Qf, Qg, simprocAttr, Qc7, bA]
  refine Qh.vc hC' ?_
  simp (maxSteps := 4000000) (disch := omega) only [rr, aop, cV, cV1, AV.one, Qb, okW, Qd, app, Qa, Qc, Qe, Qf, Qg, simprocAttr]
  refine QN.by (ι := Nat) (fun k => ⟨[(9, .int .i64 ((a + 64 * k : Nat) : Int)), (8, .ref 2 1 0), (7, .int .i64 0), (6, .ref 1 1 0), (3, .ref 0 1 0), (2, .int .i64 b)],
      [⟨t0, 2, 1, [.list (nB N) (u8 (leB V (nB N))), .int .i64 N], 0⟩, ⟨t0, 2, 1, [.own 3 0, .int .i64 0], 0⟩, bO t0 4 (min (64 * k) (b - a)), ⟨tp, 1, 0, [], 0⟩, bY tp (min (64 * k) (b - a)) (V / 2 ^ a % 2 ^ min (64 * k) (b - a))]⟩)
    (fun k => 64 * k < b - a + 64) (fun k => b - a + 64 - 64 * k) 0 ?_ (by omega) ?_
  · refine Le.trans (Le.virtF 1 tp 1 (by decide) rfl rfl) ?_
    refine Le.trans (Le.virtF 2 tp 1 (by decide) rfl rfl) ?_
    simp only [List.length_cons, List.length_nil, List.set_cons_succ, List.set_cons_zero, List.cons_append, List.nil_append, List.length_append]
    rw [Nat.mul_zero, Nat.zero_min, Nat.pow_zero, Nat.mod_one]
    exact Le.slots (by simp [Am.look])
  intro k hk
  by_cases hlt : a + 64 * k < b
  · obtain ⟨n, hn⟩ : ∃ n, n = min 64 (b - (a + 64 * k)) := ⟨_, rfl⟩
    have hm : min (64 * k) (b - a) = 64 * k := by omega
    have hG' := hG N V (a + 64 * k) n hV (by omega) (by omega) (by omega)
    rw [bA] at hG'
    have e1 : (if (b : Int) - ((a + 64 * k : Nat) : Int) < 64 then (b : Int) - ((a + 64 * k : Nat) : Int) else 64) = (n : Int) := by split <;> omega
    have hv : V / 2 ^ (a + 64 * k) % 2 ^ n < 2 ^ n := Nat.mod_lt _ (Nat.pow_pos (by omega))
    have hW : V / 2 ^ a % 2 ^ (64 * k) < 2 ^ (64 * k) := Nat.mod_lt _ (Nat.pow_pos (by omega))
    have hs := QnM (X := V / 2 ^ a) (h := 64 * k) (t := n)
    rw [Nat.div_div_eq_div_mul, ← Nat.pow_add, Nat.mul_comm (V / 2 ^ (a + 64 * k) % 2 ^ n)] at hs
    rw [hm]
    generalize hvv : V / 2 ^ (a + 64 * k) % 2 ^ n = v at *
    generalize hWW : V / 2 ^ a % 2 ^ (64 * k) = W at *
    obtain ⟨s, hs0⟩ : ∃ s, s = a + 64 * k := ⟨_, rfl⟩
    rw [← hs0] at hG' e1 ⊢
    simp (maxSteps := 4000000) (disch := omega) only [rr, aop, cV, cV1, AV.one, Qb, okW, Qd, app, Qa, Qc, Qe, Qf, Qg, simprocAttr, e1]
    refine Qh.vc hG' ?_
    simp (maxSteps := 4000000) (disch := omega) only [rr, aop, cV, cV1, AV.one, Qb, okW, Qd, app, Qa, Qc, Qe, Qf, Qg, simprocAttr]
    refine Qn5 bP (ob := [⟨t0, 2, 1, [.list (nB N) (u8 (leB V (nB N))), .int .i64 N], 0⟩, ⟨t0, 2, 1, [.own 3 0, .int .i64 0], 0⟩, bO t0 4 (64 * k), ⟨tp, 1, 0, [], 0⟩, bY tp (64 * k) W]) (p := 2) (o := 4) (t := t0) rfl rfl (by decide) hW hv (by omega) (by omega) ?_ ?_
    · refine Low.cons ?_ (Low.cons ?_ (Low.cons ?_ (Low.cons ?_ (Low.cons ?_ Low.nil)))) <;> simp [bO, bY, lowL, Ja, lowL_D _ (JF _ _)]
    · simp only [XP, List.set_cons_succ, List.set_cons_zero]
      rw [← hs]
      have hm2 : min (64 * (k + 1)) (b - a) = 64 * k + n := by omega
      simp (maxSteps := 4000000) (disch := omega) only [rr, aop, cV, cV1, AV.one, Qb, okW, Qd, app, Qa, Qc, Qe, Qf, Qg, simprocAttr]
      refine ⟨k + 1, by omega, by omega, ?_⟩
      rw [hm2]
      exact Le.slots (by simp [Am.look, hs0]; omega)
  · have hm : min (64 * k) (b - a) = b - a := by omega
    rw [hm]
    generalize V / 2 ^ a % 2 ^ (b - a) = W at *
    obtain ⟨s, hs0⟩ : ∃ s, s = a + 64 * k := ⟨_, rfl⟩
    rw [← hs0]
    simp (maxSteps := 4000000) (disch := omega) only [rr, aop, cV, cV1, AV.one, Qb, okW, Qd, app, Qa, Qc, Qe, Qf, Qg, simprocAttr, bO, bY, ZG, ht, Q8]
    simp [Q7, QG, frzL, QF, frzL_T _ (Zx _)]

end Go.Am

namespace Go.Am
open Go.RowKit

/-! ### The values of a frame (plain) -/

def Qx (c r : Nat) (v : List Nat) : Dl := ((List.range v.length).filter fun j => j % c == r).foldl (fun d j => Q6 d (v.getD j 0)) Qi

theorem QaO {c r x : Nat} {v : List Nat} : Qx c r (v ++ [x]) = if v.length % c = r then Q6 (Qx c r v) x else Qx c r v := by
  have h1 : ∀ (l : List Nat) (d : Dl), (∀ j ∈ l, j < v.length) → l.foldl (fun d j => Q6 d ((v ++ [x]).getD j 0)) d = l.foldl (fun d j => Q6 d (v.getD j 0)) d := by
    intro l
    induction l with
    | nil => intro d _; rfl
    | cons a l ih =>
      intro d h
      simp only [List.foldl_cons]
      have ha : a < v.length := h a (by simp)
      rw [ih _ fun j hj => h j (by simp [hj])]
      congr 2
      rw [List.getD_eq_getElem?_getD, List.getD_eq_getElem?_getD, List.getElem?_append_left ha]
  unfold Qx
  rw [List.length_append, List.length_cons, List.length_nil, Nat.zero_add, List.range_succ, List.filter_append, List.foldl_append]
  have hf := h1 ((List.range v.length).filter fun j => j % c == r) Qi (fun j hj => by
    have := (List.mem_filter.1 hj).1
    simpa using this)
  rw [hf]
  have hx : (v ++ [x]).getD v.length 0 = x := by simp [List.getD_eq_getElem?_getD]
  by_cases h : v.length % c = r
  · rw [if_pos h]
    have : (List.filter (fun j => j % c == r) [v.length]) = [v.length] := by simp [h]
    rw [this]
    simp only [List.foldl_cons, List.foldl_nil]
    rw [hx]
  · rw [if_neg h]
    have : (List.filter (fun j => j % c == r) [v.length]) = [] := by simp [h]
    rw [this]
    rfl

def N32 (v : List Nat) : Prop := ∀ x ∈ v, x < 4294967296
theorem QcV {c r : Nat} {v : List Nat} (h : N32 v) : okD (Qx c r v) := by
  unfold Qx
  have key : ∀ (l : List Nat) (d : Dl), okD d → (∀ j ∈ l, j < v.length) → okD (l.foldl (fun d j => Q6 d (v.getD j 0)) d) := by
    intro l
    induction l with
    | nil => intro d h _; exact h
    | cons a l ih =>
      intro d hd hl
      have ha : a < v.length := hl a (by simp)
      refine ih _ (QtE hd ?_) fun j hj => hl j (by simp [hj])
      rw [List.getD_eq_getElem?_getD, List.getElem?_eq_getElem ha]
      exact h _ (List.getElem_mem ha)
  exact key _ _ Qs3 fun j hj => by
    have := (List.mem_filter.1 hj).1
    simpa using this

def Qc9 (N a : Nat) : Nat := min (a + 81) N - a
def Qk1 (V N a : Nat) : Nat := V / 2 ^ a % 2 ^ Qc9 N a
def XU (V N c : Nat) : Nat → List Nat → Nat → (Nat × List Nat) ⊕ (List Nat × Nat)
  | 0, out, a => .inr (out, a)
  | k + 1, out, a =>
    match Qih (Qk1 V N a) (Qc9 N a) 0 (Qx c (out.length % c) out) with
    | .inl e => .inl (e, out)
    | .inr (v, nx) => XU V N c k (out ++ [v]) (a + nx)

theorem QqR (V N a : Nat) : Qk1 V N a < 2 ^ Qc9 N a := Nat.mod_lt _ (Nat.pow_pos (by omega))

def QeM (V N a : Nat) : Nat := if 7 < N - a then 12 else if V / 2 ^ a = 0 then 0 else 12

theorem QbK {V N c : Nat} : ∀ (k : Nat) (out : List Nat) (a : Nat), a ≤ N → N32 out → (∀ e o, XU V N c k out a = .inl (e, o) → (e = 24 ∨ e = 12) ∧ N32 o ∧ o.length ≤ out.length + k) ∧ (∀ o b, XU V N c k out a = .inr (o, b) → N32 o ∧ b ≤ N ∧ o.length = out.length + k)
  | 0, out, a, ha, ho => by
    refine ⟨fun e o h => (by simp only [XU] at h; cases h), fun o b h => ?_⟩
    simp only [XU] at h
    cases h
    exact ⟨ho, ha, rfl⟩
  | k + 1, out, a, ha, ho => by
    have hd := QcV (c := c) (r := out.length % c) ho
    cases hg : Qih (Qk1 V N a) (Qc9 N a) 0 (Qx c (out.length % c) out) with
    | inl e =>
      have he := QlV hg
      simp only [XU, hg]
      refine ⟨fun e' o h => ?_, fun o b h => (by cases h)⟩
      cases h
      exact ⟨he, ho, by omega⟩
    | inr p =>
      obtain ⟨v, nx⟩ := p
      obtain ⟨h1, h2⟩ := QnL hd hg
      have hp : Qc9 N a ≤ N - a := by unfold Qc9; omega
      have ho' : N32 (out ++ [v]) := fun x hx => by
        rcases List.mem_append.1 hx with h | h
        · exact ho x h
        · simp at h; subst h; exact h1
      obtain ⟨r1, r2⟩ := QbK (V := V) (N := N) (c := c) k (out ++ [v]) (a + nx) (by omega) ho'
      simp only [XU, hg]
      refine ⟨fun e o h => ?_, fun o b h => ?_⟩
      · obtain ⟨q1, q2, q3⟩ := r1 e o h
        refine ⟨q1, q2, ?_⟩
        rw [List.length_append, List.length_cons, List.length_nil] at q3
        omega
      · obtain ⟨q1, q2, q3⟩ := r2 o b h
        refine ⟨q1, q2, ?_⟩
        rw [List.length_append, List.length_cons, List.length_nil] at q3
        omega

def Qc8 (p : List UInt8) : Nat := 4294967295 - QcT 4294967295 p
def Zi (b : List UInt8) : Nat := if b.length < 5 then 24 else if 41254 < b.length then 4 else if leN (b.drop (b.length - 4)) = Qc8 (b.take (b.length - 4)) then 0 else 22

end Go.Am

namespace Go.Am
open Go.RowKit

/-! ### The values of a frame -/

def Qtw (v : List Nat) : AV := QcH (v.map fun n : Nat => (n : Int))
theorem QnH (v : List Nat) : isD (Qtw v) = true := by simp [Qtw, QcH, isD, QK]
end Go.Am

namespace Go.Am
open Go.RowKit

/-! ### A frame's sum -/

theorem QdT (p : List UInt8) : Qc8 p < 4294967296 := by unfold Qc8; omega

def Qi3 (P : Prg) (f : Nat) : Prop := ∀ p : List UInt8, p.length ≤ 1000000 → VC P f [bs p] (bs (p ++ leB (Qc8 p) 4))
theorem QjV {P : Prg} {f fO t0 : Nat} (bd : Ql P f 22 [.tmp 2] (ZE fO t0)) (hO : Qwj P fO) : Qi3 P f := by
  intro p hp
  refine VC.of_walk 1 (by simp [isDL, Zy]) (Zy _) (ACall.of_body bd (by simp) ?_)
  have hO' := hO p hp
  rw [← Qc8] at hO'
  have hs := QdT p
  generalize Qc8 p = s at *
  simp only [bs] at hO'
  have e1 : IntKind.u8.wrap (s : Int) = ((s % 256 : Nat) : Int) := by rw [Xm]; omega
  have a1 : Qm false .u32 (s : Int) 8 = some (.int .u32 ((s / 256 : Nat) : Int)) := Qgt (K := .u32) (k := 8) (by decide)
  have a2 : Qm false .u32 (s : Int) 16 = some (.int .u32 ((s / 65536 : Nat) : Int)) := Qgt (K := .u32) (k := 16) (by decide)
  have a3 : Qm false .u32 (s : Int) 24 = some (.int .u32 ((s / 16777216 : Nat) : Int)) := Qgt (K := .u32) (k := 24) (by decide)
  have e2 : IntKind.u8.wrap ((s / 256 : Nat) : Int) = ((s / 256 % 256 : Nat) : Int) := by rw [Xm]; omega
  have e3 : IntKind.u8.wrap ((s / 65536 : Nat) : Int) = ((s / 65536 % 256 : Nat) : Int) := by rw [Xm]; omega
  have e4 : IntKind.u8.wrap ((s / 16777216 : Nat) : Int) = ((s / 16777216 % 256 : Nat) : Int) := by rw [Xm]; omega
  have hb : u8 (p ++ leB s 4) = u8 p ++ [.int .u8 ((s % 256 : Nat) : Int), .int .u8 ((s / 256 % 256 : Nat) : Int), .int .u8 ((s / 65536 % 256 : Nat) : Int), .int .u8 ((s / 16777216 % 256 : Nat) : Int)] := by
    simp [u8, leB, Nat.div_div_eq_div_mul]
  have hl : (p ++ leB s 4).length = p.length + 4 := by simp [Qu]
  rw [bs, hb, hl]
  generalize s % 256 = b0 at *
  generalize s / 256 % 256 = b1 at *
  generalize s / 65536 % 256 = b2 at *
  generalize s / 16777216 % 256 = b3 at *
  have tt : isTL (u8 p ++ [.int .u8 (b0 : Int), .int .u8 (b1 : Int), .int .u8 (b2 : Int), .int .u8 (b3 : Int)]) = true := by simp [QcS, Zx, isTL, isT]
  simp (maxSteps := 4000000) (disch := omega) only [rr, aop, cV, cV1, AV.one, Qb, okW, Qd, app, Qa, Qc, Qe, Qf, Qg, simprocAttr, ZE, bs]
  refine Qh.vc hO' ?_
  simp (maxSteps := 4000000) (disch := omega) only [rr, aop, cV, cV1, AV.one, Qb, okW, Qd, app, Qa, Qc, Qe, Qf, Qg, simprocAttr, e1, a1, a2, a3, e2, e3, e4]
  simp [Q7, QG, frzL, QF, frzL_T _ tt]

def opA (b : List UInt8) : AV := if Zi b = 0 then .tup [bs (b.take (b.length - 4)), .int .i64 0] else .tup [.list 0 [], .int .i64 (Zi b : Nat)]
def QiY (P : Prg) (f : Nat) : Prop := ∀ b : List UInt8, b.length ≤ 1000000 → VC P f [bs b] (opA b)
theorem QgV {P : Prg} {f fS fV : Nat} (bd : Ql P f 46 [.tmp 2, .tmp 3] (Q3 fS fV)) (hS : QkY P fS) (hV : Qct P fV) : QiY P f := by
  intro b hb
  refine VC.of_walk 1 (by simp [isDL, Zy]) (by unfold opA; split <;> simp [isD, isDL, Zy]) (ACall.of_body bd (by simp) ?_)
  unfold opA Zi
  by_cases h1 : b.length < 5
  · simp only [h1, if_true]
    simp (maxSteps := 4000000) (disch := omega) only [rr, aop, cV, cV1, AV.one, Qb, okW, Qd, app, Qa, Qc, Qe, Qf, Qg, simprocAttr, Q3, bs]
    simp [Q7, QG, frzL, QF]
  simp only [h1, if_false]
  by_cases h2 : 41254 < b.length
  · simp only [h2, if_true]
    simp (maxSteps := 4000000) (disch := omega) only [rr, aop, cV, cV1, AV.one, Qb, okW, Qd, app, Qa, Qc, Qe, Qf, Qg, simprocAttr, Q3, bs]
    simp [Q7, QG, frzL, QF]
  simp only [h2, if_false]
  have hS' := hS (b.take (b.length - 4))
  rw [if_neg (by simp; omega), ← Qc8] at hS'
  have hl1 : (b.take (b.length - 4)).length = b.length - 4 := by simp
  have hl2 : (b.drop (b.length - 4)).length = 4 := by simp; omega
  have hs := QdT (b.take (b.length - 4))
  have hV' := hV (b.drop (b.length - 4)) (by omega) (by omega)
  have tk : (u8 b).take (b.length - 4) = u8 (b.take (b.length - 4)) := by simp [u8, List.map_take]
  have dk : (u8 b).drop (b.length - 4) = u8 (b.drop (b.length - 4)) := by simp [u8, List.map_drop]
  simp only [bs, hl1, hl2] at hS' hV'
  have hq : leN (b.drop (b.length - 4)) < 4294967296 := by
    have := QeA (b.drop (b.length - 4))
    rw [hl2] at this
    exact this
  have hpl : (u8 (b.take (b.length - 4))).length = b.length - 4 := by rw [Q4, hl1]
  have hql : (u8 (b.drop (b.length - 4))).length = 4 := by rw [Q4, hl2]
  have tq : (u8 (b.drop (b.length - 4))).take 4 = u8 (b.drop (b.length - 4)) := List.take_of_length_le (by omega)
  generalize b.take (b.length - 4) = p at *
  generalize b.drop (b.length - 4) = q at *
  generalize Qc8 p = s at *
  generalize leN q = w at *
  have n4 : b.length - (b.length - 4) = 4 := by omega
  have n5 : b.length - 4 - 0 = b.length - 4 := by omega
  have n6 : min (b.length - 4) b.length = b.length - 4 := by omega
  have tp : isTL (u8 p) = true := Zx _
  by_cases h3 : w = s
  · subst h3
    simp only [if_true]
    simp (maxSteps := 4000000) (disch := omega) only [rr, aop, cV, cV1, AV.one, Qb, okW, Qd, app, Qa, Qc, Qe, Qf, Qg, simprocAttr, Q3, bs, tk, dk, n4, n5, tq]
    refine Qh.vc hS' ?_
    simp (maxSteps := 4000000) (disch := omega) only [rr, aop, cV, cV1, AV.one, Qb, okW, Qd, app, Qa, Qc, Qe, Qf, Qg, simprocAttr, tk, dk, n4, n5, tq]
    refine Qh.vc hV' ?_
    simp (maxSteps := 4000000) (disch := omega) only [rr, aop, cV, cV1, AV.one, Qb, okW, Qd, app, Qa, Qc, Qe, Qf, Qg, simprocAttr, tk, dk, n4, n5, tq]
    simp [Q7, QG, frzL, QF, frzL_T _ tp, bs, hl1]
    try omega
  · simp only [h3, if_false]
    simp (maxSteps := 4000000) (disch := omega) only [rr, aop, cV, cV1, AV.one, Qb, okW, Qd, app, Qa, Qc, Qe, Qf, Qg, simprocAttr, Q3, bs, tk, dk, n4, n5, tq]
    refine Qh.vc hS' ?_
    simp (maxSteps := 4000000) (disch := omega) only [rr, aop, cV, cV1, AV.one, Qb, okW, Qd, app, Qa, Qc, Qe, Qf, Qg, simprocAttr, tk, dk, n4, n5, tq]
    refine Qh.vc hV' ?_
    simp (maxSteps := 4000000) (disch := omega) only [rr, aop, cV, cV1, AV.one, Qb, okW, Qd, app, Qa, Qc, Qe, Qf, Qg, simprocAttr, tk, dk, n4, n5, tq]
    simp [Q7, QG, frzL, QF]

theorem QoD {b : List UInt8} (h : 5 ≤ b.length) : (b.take (b.length - 4) ++ leB (Qc8 (b.take (b.length - 4))) 4 = b) ↔ leN (b.drop (b.length - 4)) = Qc8 (b.take (b.length - 4)) := by
  have hl : (b.drop (b.length - 4)).length = 4 := by simp; omega
  constructor
  · intro e
    have : leB (Qc8 (b.take (b.length - 4))) 4 = b.drop (b.length - 4) := by
      have h2 := List.take_append_drop (b.length - 4) b
      exact List.append_cancel_left (e.trans h2.symm)
    rw [← this, QnB 4 _ (QdT _)]
  · intro e
    rw [← e]
    have := Qid (b.drop (b.length - 4))
    rw [hl] at this
    rw [this, List.take_append_drop]
end Go.Am

namespace Go.Am
open Go.RowKit

/-! ### values -/

def Jk (F : Nat → Dl) : List AV := dlC (F 0) ++ dlC (F 1) ++ dlC (F 2) ++ dlC (F 3) ++ dlC (F 4) ++ dlC (F 5)
theorem Qdx (F : Nat → Dl) : isTL (Jk F) = true := rfl
theorem Xz (F : Nat → Dl) : (Jk F).length = 24 := rfl
theorem Qe3 (F : Nat → Dl) {j : Nat} (h : j < 6) : ∃ r, (Jk F).drop (j * 4) = .int .i64 (F j).k0 :: .int .i64 (F j).k1 :: .int .u64 (F j).s0 :: .int .u64 (F j).s1 :: r := by
  rcases (by omega : j = 0 ∨ j = 1 ∨ j = 2 ∨ j = 3 ∨ j = 4 ∨ j = 5) with rfl | rfl | rfl | rfl | rfl | rfl <;> exact ⟨_, rfl⟩
def Qor (F : Nat → Dl) (j : Nat) (d : Dl) : Nat → Dl := fun i => if i = j then d else F i
theorem Qa1 (F : Nat → Dl) {j : Nat} (h : j < 6) (d : Dl) : (Jk F).take (j * 4) ++ [.int .i64 d.k0, .int .i64 d.k1, .int .u64 d.s0, .int .u64 d.s1] ++ (Jk F).drop (j * 4 + 4) = Jk (Qor F j d) := by
  rcases (by omega : j = 0 ∨ j = 1 ∨ j = 2 ∨ j = 3 ∨ j = 4 ∨ j = 5) with rfl | rfl | rfl | rfl | rfl | rfl <;> rfl

def vlA : (Nat × List Nat) ⊕ (List Nat × Nat) → AV
  | .inl (e, _) => .tup [.list 0 [], .int .i64 0, .int .i64 e]
  | .inr (o, a) => .tup [Qtw o, .int .i64 a, .int .i64 0]
def QmO (P : Prg) (f : Nat) : Prop := ∀ N V c n : Nat, V < 2 ^ N → N ≤ 330000 → 1 ≤ c → c ≤ 6 → n * c ≤ 4000 → VC P f [.int .i64 c, .int .i64 n, bA N V] (vlA (XU V N c (n * c) [] 0))
set_option maxHeartbeats 2000000 in
theorem QgU {P : Prg} {f fS fC fR t0 t1 t2 t3 : Nat} (bd : Ql P f 76 [.tmp 6, .tmp 7, .tmp 8] (X8 fS fC fR t0 t1 t2 t3)) (hS : Qca P fS) (hC : Quv P fC) (hR : Qi0 P fR) : QmO P f := by
  intro N V c n hV hN hc hc6 hnc
  refine VC.of_walk 1 (by simp [isDL, XR, isD]) (by unfold vlA; split <;> simp [isD, isDL, QnH]) (ACall.of_body bd (by simp) ?_)
  simp only [Qca, Qi, dlA, dlC] at hS
  have hn4 : n ≤ 4000 := by
    have : n * 1 ≤ n * c := Nat.mul_le_mul_left _ hc
    omega
  have tu : isTL (u8 (leB V (nB N))) = true := Zx _
  obtain ⟨T, hT⟩ : ∃ T, T = n * c := ⟨_, rfl⟩
  obtain ⟨R, hR0⟩ : ∃ R, R = XU V N c (n * c) [] 0 := ⟨_, rfl⟩
  have eT : (n : Int) * c = (T : Int) := by rw [hT]; simp
  rw [← hR0]
  simp (maxSteps := 4000000) (disch := omega) only [rr, aop, cV, cV1, AV.one, Qb, okW, Qd, app, Qa, Qc, Qe, Qf, Qg, simprocAttr, X8, bA]
  refine QN.by (ι := Nat) (fun i => ⟨[(19, .int .i64 i), (9, .ref 1 1 0), (8, .int .i64 0), (7, .int .i64 0), (6, .emp true), (5, .ref 0 1 0), (0, .int .i64 c), (1, .int .i64 n)],
      [⟨t0, 2, 1, [.list (nB N) (u8 (leB V (nB N))), .int .i64 N], 0⟩, ⟨t1, 24, 1, Jk (fun j => if j < i then Qi else ⟨0, 0, 0, 0⟩), 0⟩]⟩) (fun i => i ≤ 6) (fun i => 6 - i) 0 (Le.slots (by simp [Am.look])) (by omega) ?_
  intro i hi
  by_cases hlt : i < 6
  · have e1 := Qa1 (fun j => if j < i then Qi else ⟨0, 0, 0, 0⟩) hlt Qi
    have e2 : Qor (fun j => if j < i then Qi else ⟨0, 0, 0, 0⟩) i Qi = fun j => if j < i + 1 then Qi else ⟨0, 0, 0, 0⟩ := by
      funext j
      unfold Qor
      by_cases h1 : j = i
      · subst h1; simp
      · by_cases h2 : j < i
        · simp [h1, h2, show j < i + 1 by omega]
        · simp [h1, h2, show ¬ j < i + 1 by omega]
    rw [e2] at e1
    have e3 := Xz (fun j => if j < i then Qi else ⟨0, 0, 0, 0⟩)
    simp (maxSteps := 4000000) (disch := omega) only [rr, aop, cV, cV1, AV.one, Qb, okW, Qd, app, Qa, Qc, Qe, Qf, Qg, simprocAttr]
    refine Qh.vc hS ?_
    generalize hF : Jk (fun j => if j < i then Qi else ⟨0, 0, 0, 0⟩) = F at *
    have e1' : F.take (i * 4) ++ [.int .i64 10, .int .i64 10, .int .u64 16384, .int .u64 16384] ++ F.drop (i * 4 + 4) = Jk fun j => if j < i + 1 then Qi else ⟨0, 0, 0, 0⟩ := e1
    simp (maxSteps := 4000000) (disch := omega) only [rr, aop, cV, cV1, AV.one, Qb, okW, Qd, app, Qa, Qc, Qe, Qf, Qg, simprocAttr, e3]
    refine ⟨i + 1, by omega, by omega, ?_⟩
    rw [e1']
    exact Le.slots (by simp [Am.look])
  obtain rfl : i = 6 := by omega
  have hk0 : ∀ o : List Nat, (ks .u32 (o.map fun n : Nat => (n : Int))).length = o.length := fun o => by simp [ks]
  simp (maxSteps := 4000000) (disch := omega) only [rr, aop, cV, cV1, AV.one, Qb, okW, Qd, app, Qa, Qc, Qe, Qf, Qg, simprocAttr, eT]
  refine QN.by (ι := Nat × List Nat × Nat) (fun s => ⟨[(29, .int .i64 s.1), (28, .int .i64 T), (12, .int .i64 s.2.2), (11, .own 2 s.2.1.length), (9, .ref 1 1 0), (5, .ref 0 1 0), (0, .int .i64 c)],
      [⟨t0, 2, 1, [.list (nB N) (u8 (leB V (nB N))), .int .i64 N], 0⟩, ⟨t1, 24, 1, Jk (fun j => if j < c then Qx c j s.2.1 else Qi), 0⟩, ⟨t3, 1, s.2.1.length, ks .u32 (s.2.1.map fun n : Nat => (n : Int)), 0⟩]⟩)
    (fun s => s.1 ≤ T ∧ s.2.1.length = s.1 ∧ s.2.2 ≤ N ∧ N32 s.2.1 ∧ XU V N c (T - s.1) s.2.1 s.2.2 = R) (fun s => T - s.1) (0, [], 0) ?_ ⟨Nat.zero_le _, rfl, Nat.zero_le _, fun x hx => (by simp at hx), (by rw [hR0, hT]; rfl)⟩ ?_
  · have z1 : Jk (fun j => if j < 6 then Qi else ⟨0, 0, 0, 0⟩) = Jk (fun _ => Qi) := rfl
    have z2 : (fun j => if j < c then Qx c j [] else Qi) = fun _ => Qi := by
      funext j
      split <;> rfl
    simp only [z2]
    rw [z1]
    exact Le.trans (Le.virt 11 t3 1 (by decide) rfl) (Le.slots (by simp [Am.look]))
  rintro ⟨k, out, a⟩ ⟨h1, h2, h3, h4, h5⟩
  simp only at h1 h2 h3 h4 h5 ⊢
  by_cases hlt : k < T
  · obtain ⟨r, hr⟩ : ∃ r, r = k % c := ⟨_, rfl⟩
    have hrc : r < c := by rw [hr]; exact Nat.mod_lt _ (by omega)
    have e1 : (k : Int) % c = (r : Int) := by rw [hr]; simp [Int.natCast_emod]
    have e1' : ((k : Int)).tmod (c : Int) = (r : Int) := by rw [Int.tmod_eq_emod_of_nonneg (by omega), e1]
    have hc0 : (c : Int) ≠ 0 := by omega
    obtain ⟨b, hb⟩ : ∃ b, b = min (a + 81) N := ⟨_, rfl⟩
    have e2 : (if (N : Int) < (a : Int) + 81 then (N : Int) else (a : Int) + 81) = (b : Int) := by split <;> omega
    have hpn : b - a = Qc9 N a := by rw [hb]; rfl
    have hC' : VC P fC [bA N V, .int .i64 a, .int .i64 b] (.tup [bA (Qc9 N a) (Qk1 V N a), .int .i64 0]) := by
      have := hC N V a b hV hN (by omega) (by omega)
      rw [hpn] at this
      exact this
    have hpl : Qc9 N a ≤ 81 := by unfold Qc9; omega
    have hd := QcV (c := c) (r := r) h4
    have hR' := hR (Qc9 N a) (Qk1 V N a) 0 (Qx c r out) (QqR V N a) (by omega) (by omega) hd
    have hF : (fun j => if j < c then Qx c j out else Qi) r = Qx c r out := by simp [hrc]
    obtain ⟨rest, hg⟩ := Qe3 (fun j => if j < c then Qx c j out else Qi) (j := r) (by omega)
    simp only [hrc, if_true] at hg
    have hst := fun d => Qa1 (fun j => if j < c then Qx c j out else Qi) (j := r) (by omega) d
    have hln := Xz (fun j => if j < c then Qx c j out else Qi)
    have hupd : ∀ v : Nat, Qor (fun j => if j < c then Qx c j out else Qi) r (Q6 (Qx c r out) v) = fun j => if j < c then Qx c j (out ++ [v]) else Qi := by
      intro v
      funext j
      unfold Qor
      by_cases hj : j = r
      · subst hj
        rw [if_pos rfl, if_pos hrc, QaO, if_pos (by rw [h2, hr])]
      · rw [if_neg hj]
        by_cases hjc : j < c
        · simp only [hjc, if_true]
          rw [QaO, if_neg (by rw [h2, ← hr]; exact fun e => hj e.symm)]
        · simp only [hjc, if_false]
    have hkT : T - k = (T - k - 1) + 1 := by omega
    rw [hkT, XU, h2, ← hr] at h5
    have hgl := fun v nx (h : Qih (Qk1 V N a) (Qc9 N a) 0 (Qx c r out) = .inr (v, nx)) => QnL hd h
    have hge := fun e (h : Qih (Qk1 V N a) (Qc9 N a) 0 (Qx c r out) = .inl e) => QlV h
    have hpN : Qc9 N a ≤ N - a := by unfold Qc9; omega
    simp only [bA] at hC' hR'
    have hk1 := hk0 out
    have tk : isTL (ks .u32 (out.map fun n : Nat => (n : Int))) = true := Qq _ _
    cases hgm : Qih (Qk1 V N a) (Qc9 N a) 0 (Qx c r out) with
    | inl e =>
      have he := hge e hgm
      rw [hgm] at hR' h5
      simp only at h5
      have he0 : (e : Int) ≠ 0 := by omega
      rw [← h5, vlA]
      generalize Jk (fun j => if j < c then Qx c j out else Qi) = F at *
      generalize Qx c r out = d at *
      obtain ⟨d0, d1, d2, d3⟩ := d
      simp only [dlA, dlC, drA] at hR'
      simp only at hg
      simp (maxSteps := 4000000) (disch := omega) only [rr, aop, cV, cV1, AV.one, Qb, okW, Qd, app, Qa, Qc, Qe, Qf, Qg, simprocAttr, e2]
      refine Qh.vc hC' ?_
      simp (maxSteps := 4000000) (disch := omega) only [rr, aop, cV, cV1, AV.one, Qb, okW, Qd, app, Qa, Qc, Qe, Qf, Qg, simprocAttr, e1, e1', hc0, hg, hln]
      refine QQ.vc hR' ?_
      simp (maxSteps := 4000000) (disch := omega) only [rr, aop, cV, cV1, AV.one, Qb, okW, Qd, app, Qa, Qc, Qe, Qf, Qg, simprocAttr]
      simp [Q7, QG, frzL, QF]
    | inr w =>
      obtain ⟨v, nx⟩ := w
      obtain ⟨v1, v2⟩ := hgl v nx hgm
      rw [hgm] at hR' h5
      simp only at h5
      have hset := hst (Q6 (Qx c r out) v)
      rw [hupd v] at hset
      generalize hFF : Jk (fun j => if j < c then Qx c j out else Qi) = F at *
      generalize Qx c r out = d at *
      obtain ⟨d0, d1, d2, d3⟩ := d
      simp only [drA] at hR'
      generalize Q6 ⟨d0, d1, d2, d3⟩ v = d' at *
      obtain ⟨m0, m1, m2, m3⟩ := d'
      simp only [dlA, dlC] at hR'
      simp only at hg hset
      simp (maxSteps := 4000000) (disch := omega) only [rr, aop, cV, cV1, AV.one, Qb, okW, Qd, app, Qa, Qc, Qe, Qf, Qg, simprocAttr, e2]
      refine Qh.vc hC' ?_
      simp (maxSteps := 4000000) (disch := omega) only [rr, aop, cV, cV1, AV.one, Qb, okW, Qd, app, Qa, Qc, Qe, Qf, Qg, simprocAttr, e1, e1', hc0, hg, hln]
      refine QQ.vc hR' ?_
      simp (maxSteps := 4000000) (disch := omega) only [rr, aop, cV, cV1, AV.one, Qb, okW, Qd, app, Qa, Qc, Qe, Qf, Qg, simprocAttr, e1, e1', hc0, hg, hln, hk1, h2]
      have hap : ks .u32 (out.map fun n : Nat => (n : Int)) ++ [.int .u32 (v : Int)] = ks .u32 ((out ++ [v]).map fun n : Nat => (n : Int)) := by simp [ks]
      have hol : (out ++ [v]).length = k + 1 := by simp [h2]
      refine ⟨(k + 1, out ++ [v], a + nx), ⟨by omega, hol, by simp only; omega, fun x hx => ?_, ?_⟩, by simp only; omega, ?_⟩
      · rcases List.mem_append.1 hx with h | h
        · exact h4 x h
        · simp at h; subst h; exact v1
      · simp only
        rw [show T - (k + 1) = T - k - 1 by omega]
        exact h5
      · simp only [hol]
        rw [hset, hap]
        exact Le.dropT [_, _, _] (by simp [Qdx, Qq, isTL, isT, Zx]) (by simp [Am.look, QG, frzL, QF])
  · obtain rfl : k = T := by omega
    rw [Nat.sub_self, XU] at h5
    rw [← h5, vlA, Qtw, QcH, List.length_map]
    simp (maxSteps := 4000000) (disch := omega) only [rr, aop, cV, cV1, AV.one, Qb, okW, Qd, app, Qa, Qc, Qe, Qf, Qg, simprocAttr]
    simp [Q7, QG, frzL, QF, frzL_T _ (Qq _ _)]

end Go.Am

namespace Go.Am
open Go.RowKit

/-! ### Decode -/

def iL (o : List Nat) : List Int := o.map fun n : Nat => (n : Int)
def QuT (V N c : Nat) (x : Int) (t : List Int) (w : (Nat × List Nat) ⊕ (List Nat × Nat)) : AV :=
  match w with
  | .inl (e, _) => erA e
  | .inr (o, a) => if QeM V N a ≠ 0 then erA 12 else Qhf x (unB c x t (iL o))
def QnU (c x : Int) (t : List Int) (n : Int) (b : List UInt8) : AV :=
  if QO c x n ≠ 0 then erA 2 else if Zi b ≠ 0 then erA (Zi b : Nat) else
    QuT (leN (b.take (b.length - 4))) (8 * (b.take (b.length - 4)).length) c.toNat x t (XU (leN (b.take (b.length - 4))) (8 * (b.take (b.length - 4)).length) c.toNat (n.toNat * c.toNat) [] 0)
theorem QtX (V N c : Nat) (x : Int) (t : List Int) (w : (Nat × List Nat) ⊕ (List Nat × Nat)) : isD (QuT V N c x t w) = true := by
  unfold QuT
  split
  · rfl
  · split
    · rfl
    · exact QlS _ _
theorem QtY (c x : Int) (t : List Int) (n : Int) (b : List UInt8) : isD (QnU c x t n b) = true := by
  unfold QnU
  split
  · rfl
  split
  · rfl
  · exact QtX _ _ _ _ _ _

theorem X2 {c x n : Int} (h : QO c x n = 0) : QV c x = 0 ∧ ∃ c' n' : Nat, c = c' ∧ n = n' ∧ 1 ≤ c' ∧ c' ≤ 6 ∧ 1 ≤ n' ∧ n' * c' ≤ 4000 ∧ JB x ≠ 0 := by
  unfold QO at h
  rcases QM c x with h1 | ⟨h1, h2, h3, h4⟩
  · rw [if_pos (by omega)] at h; omega
  · rw [if_neg (by omega)] at h
    split at h
    · omega
    split at h
    · omega
    rename_i h5 h6
    refine ⟨h1, c.toNat, n.toNat, by omega, by omega, by omega, by omega, by omega, ?_, h2⟩
    have h7 : n.toNat ≤ 4000 / c.toNat := by
      have : ((4000 / c.toNat : Nat) : Int) = 4000 / c := by rw [Int.natCast_ediv, Int.toNat_of_nonneg (by omega)]; rfl
      omega
    exact (Nat.le_div_iff_mul_le (by omega)).1 h7

theorem Qq4 {V N c n : Nat} {o : List Nat} {a : Nat} (hc : 1 ≤ c) (hc6 : c ≤ 6) (hn : 1 ≤ n) (hnc : n * c ≤ 4000) (h : XU V N c (n * c) [] 0 = .inr (o, a)) : okV c (iL o) ∧ a ≤ N ∧ o.length = n * c := by
  obtain ⟨_, h2⟩ := QbK (V := V) (N := N) (c := c) (n * c) [] 0 (Nat.zero_le _) (fun x hx => by simp at hx)
  obtain ⟨q1, q2, q3⟩ := h2 o a h
  rw [List.length_nil, Nat.zero_add] at q3
  have hpos : 0 < n * c := Nat.mul_pos hn hc
  refine ⟨⟨hc, hc6, by simp [iL]; omega, by simp [iL]; omega, by simp [iL, q3], fun x hx => ?_⟩, q2, q3⟩
  simp only [iL, List.mem_map] at hx
  obtain ⟨y, hy, rfl⟩ := hx
  have := q1 y hy
  omega

def Qcu (P : Prg) (f : Nat) : Prop := ∀ (c x n : Int) (t : List Int) (b : List UInt8), t.length = 16 → I32 t → b.length ≤ 1000000 → VC P f [shA c x, .agg (ks .i32 t), .int .i64 n, bs b] (QnU c x t n b)
set_option maxHeartbeats 2000000 in
theorem QgW {P : Prg} {f fE fO fF fV fG fS t0 t1 t2 : Nat} (bd : Ql P f 87 [.tmp 8, .tmp 9] (QB fE fO fF fV fG fS t0 t1 t2)) (hE0 : XN P fE) (hO : QiY P fO) (hF : Qut P fF) (hV : QmO P fV) (hG : QhB P fG) (hS : Qob P fS) : Qcu P f := by
  intro c x n t b ht hI hb
  refine VC.of_walk 1 (by simp [isDL, Zy, QK, isD, shA]) (QtY _ _ _ _ _) (ACall.of_body bd (by simp) ?_)
  have hE' := hE0 c x
  have hO' := hO b hb
  have hk : (ks .i32 t).length = 16 := by simp [Qk, ht]
  have tt : (ks .i32 t).take 16 = ks .i32 t := Qs (by omega)
  have ot := ZP .i32 t
  rw [shA] at hE'
  simp only [bs] at hO'
  unfold QnU
  rcases QM c x with g1 | ⟨g1, g2, g3, g4⟩
  · have h1 : QO c x n = 2 := by unfold QO; rw [if_pos (by omega)]
    rw [g1] at hE'
    rw [if_pos (by omega), erA]
    simp (maxSteps := 4000000) (disch := omega) only [rr, aop, cV, cV1, AV.one, Qb, okW, Qd, app, Qa, Qc, Qe, Qf, Qg, simprocAttr, QB, shA, bs, hk, tt, ot]
    refine Qh.vc hE' ?_
    simp (maxSteps := 4000000) (disch := omega) only [rr, aop, cV, cV1, AV.one, Qb, okW, Qd, app, Qa, Qc, Qe, Qf, Qg, simprocAttr]
    simp [Q7, QG, frzL, QF]
  rw [g1] at hE'
  have ed : ((4000 : Int)).tdiv c = 4000 / c := Int.tdiv_eq_ediv_of_nonneg (by omega)
  have hc0 : c ≠ 0 := by omega
  have hd1 : 4000 / c ≤ 4000 := by
    have := Int.ediv_le_self c (show (0 : Int) ≤ 4000 by omega)
    exact this
  have hd0 : 0 ≤ 4000 / c := Int.ediv_nonneg (by omega) (by omega)
  by_cases h1 : QO c x n = 0
  case neg =>
    rw [if_pos h1, erA]
    have h1' : n < 1 ∨ 4000 / c < n := by
      unfold QO at h1
      rw [if_neg (by omega)] at h1
      split at h1
      · exact .inl (by assumption)
      split at h1
      · exact .inr (by assumption)
      · omega
    obtain ⟨q, hq⟩ : ∃ q, q = 4000 / c := ⟨_, rfl⟩
    rw [← hq] at hd0 hd1 h1' ed
    have ed2 : (4000 : Int) / c = q := hq.symm
    clear hq
    by_cases h1'' : n < 1
    · simp (maxSteps := 4000000) (disch := omega) only [rr, aop, cV, cV1, AV.one, Qb, okW, Qd, app, Qa, Qc, Qe, Qf, Qg, simprocAttr, QB, shA, bs, hk, tt, ot]
      refine Qh.vc hE' ?_
      simp (maxSteps := 4000000) (disch := omega) only [rr, aop, cV, cV1, AV.one, Qb, okW, Qd, app, Qa, Qc, Qe, Qf, Qg, simprocAttr]
      simp [Q7, QG, frzL, QF]
    · have h1''' : q < n := by omega
      simp (maxSteps := 4000000) (disch := omega) only [rr, aop, cV, cV1, AV.one, Qb, okW, Qd, app, Qa, Qc, Qe, Qf, Qg, simprocAttr, QB, shA, bs, hk, tt, ot]
      refine Qh.vc hE' ?_
      simp (maxSteps := 4000000) (disch := omega) only [rr, aop, cV, cV1, AV.one, Qb, okW, Qd, app, Qa, Qc, Qe, Qf, Qg, simprocAttr, ed, ed2, hc0]
      simp [Q7, QG, frzL, QF]
  rw [if_neg (by omega)]
  obtain ⟨_, c', n', rfl, rfl, q1, q2, q3, q4, q5⟩ := X2 h1
  have hnq : (n' : Int) ≤ 4000 / (c' : Int) := by
    unfold QO at h1
    rw [if_neg (by omega)] at h1
    split at h1
    · omega
    split at h1
    · omega
    · omega
  obtain ⟨q, hq⟩ : ∃ q, q = (4000 : Int) / (c' : Int) := ⟨_, rfl⟩
  rw [← hq] at hd0 hd1 hnq ed
  have ed2 : (4000 : Int) / (c' : Int) = q := hq.symm
  clear hq
  by_cases h2 : Zi b = 0
  case neg =>
    have h2' : ((Zi b : Nat) : Int) ≠ 0 := by omega
    rw [opA, if_neg h2] at hO'
    rw [if_pos h2, erA]
    generalize Zi b = m at *
    simp (maxSteps := 4000000) (disch := omega) only [rr, aop, cV, cV1, AV.one, Qb, okW, Qd, app, Qa, Qc, Qe, Qf, Qg, simprocAttr, QB, shA, bs, hk, tt, ot]
    refine Qh.vc hE' ?_
    simp (maxSteps := 4000000) (disch := omega) only [rr, aop, cV, cV1, AV.one, Qb, okW, Qd, app, Qa, Qc, Qe, Qf, Qg, simprocAttr, ed, ed2, hc0]
    refine Qh.vc hO' ?_
    simp (maxSteps := 4000000) (disch := omega) only [rr, aop, cV, cV1, AV.one, Qb, okW, Qd, app, Qa, Qc, Qe, Qf, Qg, simprocAttr]
    simp [Q7, QG, frzL, QF]
  rw [if_neg (by omega)]
  have hbl : 5 ≤ b.length ∧ b.length ≤ 41254 := by
    unfold Zi at h2
    split at h2
    · omega
    split at h2
    · omega
    · omega
  rw [opA, if_pos h2] at hO'
  have hpl : (b.take (b.length - 4)).length = b.length - 4 := by simp
  have hF' := hF (b.take (b.length - 4)) (by omega)
  have hVlt := Qre (b.take (b.length - 4))
  have hbA := Qv9 (b.take (b.length - 4))
  rw [ofA, if_neg (by omega), hbA] at hF'
  simp only [Int.toNat_natCast]
  have hV' := hV (8 * (b.take (b.length - 4)).length) (leN (b.take (b.length - 4))) c' n' hVlt (by omega) q1 q2 q4
  have hG0 := fun a m => hG (8 * (b.take (b.length - 4)).length) (leN (b.take (b.length - 4))) a m hVlt (by omega)
  rw [hbA] at hV'
  simp only [hbA] at hG0
  simp only [bs, hpl] at hF' hV' hG0 hO' hVlt ⊢
  have hNN : 8 * (b.length - 4) ≤ 330000 := by omega
  generalize hp : b.take (b.length - 4) = p at *
  generalize leN p = V at *
  obtain ⟨N, hN⟩ : ∃ N, N = 8 * (b.length - 4) := ⟨_, rfl⟩
  rw [← hN] at hF' hV' hG0 hVlt hNN ⊢
  have hokv := fun o a (h : XU V N c' (n' * c') [] 0 = .inr (o, a)) => Qq4 q1 q2 q3 q4 h
  have hspec := QbK (V := V) (N := N) (c := c') (n' * c') [] 0 (Nat.zero_le _) (fun x hx => by simp at hx)
  cases hw : XU V N c' (n' * c') [] 0 with
  | inl w =>
    obtain ⟨e, o⟩ := w
    have he := (hspec.1 e o hw).1
    have he0 : (e : Int) ≠ 0 := by omega
    rw [hw, vlA] at hV'
    simp only [QuT, erA]
    simp (maxSteps := 4000000) (disch := omega) only [rr, aop, cV, cV1, AV.one, Qb, okW, Qd, app, Qa, Qc, Qe, Qf, Qg, simprocAttr, QB, shA, bs, hk, tt, ot]
    refine Qh.vc hE' ?_
    simp (maxSteps := 4000000) (disch := omega) only [rr, aop, cV, cV1, AV.one, Qb, okW, Qd, app, Qa, Qc, Qe, Qf, Qg, simprocAttr, ed, ed2, hc0]
    refine Qh.vc hO' ?_
    simp (maxSteps := 4000000) (disch := omega) only [rr, aop, cV, cV1, AV.one, Qb, okW, Qd, app, Qa, Qc, Qe, Qf, Qg, simprocAttr]
    refine Qh.vc hF' ?_
    simp (maxSteps := 4000000) (disch := omega) only [rr, aop, cV, cV1, AV.one, Qb, okW, Qd, app, Qa, Qc, Qe, Qf, Qg, simprocAttr]
    refine Qh.vc hV' ?_
    simp (maxSteps := 4000000) (disch := omega) only [rr, aop, cV, cV1, AV.one, Qb, okW, Qd, app, Qa, Qc, Qe, Qf, Qg, simprocAttr]
    simp [Q7, QG, frzL, QF]
  | inr w =>
    obtain ⟨o, a⟩ := w
    obtain ⟨hv, ha, hol⟩ := hokv o a hw
    rw [hw, vlA, Qtw, QcH, List.length_map] at hV'
    simp only [QuT]
    have hS' := hS c' x t (iL o) ht hI hv q5
    rw [shA, QcH, iL, List.length_map] at hS'
    by_cases h8 : 7 < N - a
    · have h12 : QeM V N a = 12 := by unfold QeM; rw [if_pos h8]
      rw [h12, if_pos (by omega), erA]
      simp (maxSteps := 4000000) (disch := omega) only [rr, aop, cV, cV1, AV.one, Qb, okW, Qd, app, Qa, Qc, Qe, Qf, Qg, simprocAttr, QB, shA, bs, hk, tt, ot]
      refine Qh.vc hE' ?_
      simp (maxSteps := 4000000) (disch := omega) only [rr, aop, cV, cV1, AV.one, Qb, okW, Qd, app, Qa, Qc, Qe, Qf, Qg, simprocAttr, ed, ed2, hc0]
      refine Qh.vc hO' ?_
      simp (maxSteps := 4000000) (disch := omega) only [rr, aop, cV, cV1, AV.one, Qb, okW, Qd, app, Qa, Qc, Qe, Qf, Qg, simprocAttr]
      refine Qh.vc hF' ?_
      simp (maxSteps := 4000000) (disch := omega) only [rr, aop, cV, cV1, AV.one, Qb, okW, Qd, app, Qa, Qc, Qe, Qf, Qg, simprocAttr]
      refine Qh.vc hV' ?_
      simp (maxSteps := 4000000) (disch := omega) only [rr, aop, cV, cV1, AV.one, Qb, okW, Qd, app, Qa, Qc, Qe, Qf, Qg, simprocAttr]
      simp [Q7, QG, frzL, QF]
    · have hG' := hG0 a (N - a) (by omega) (by omega)
      rw [if_neg (by omega)] at hG'
      have hlt : V / 2 ^ a < 2 ^ (N - a) := Nat.div_lt_of_lt_mul (by rw [← Nat.pow_add, show a + (N - a) = N by omega]; exact hVlt)
      rw [Nat.mod_eq_of_lt hlt] at hG'
      have eNa : (N : Int) - a = ((N - a : Nat) : Int) := by omega
      have h7 : 2 ^ (N - a) ≤ 2 ^ 7 := Nat.pow_le_pow_right (by omega) (by omega)
      have hr : QeM V N a = if V / 2 ^ a = 0 then 0 else 12 := by unfold QeM; rw [if_neg h8]
      rw [hr]
      generalize V / 2 ^ a = y at *
      obtain ⟨m, hm⟩ : ∃ m, m = N - a := ⟨_, rfl⟩
      rw [← hm] at hG' eNa
      have hm7 : m ≤ 7 := by omega
      by_cases h0 : y = 0
      · subst h0
        rw [if_pos rfl, if_neg (by omega)]
        have hG'' : VC P fG [.agg [.list (b.length - 4) (u8 p), .int .i64 N], .int .i64 a, .int .i64 m] (.tup [.int .u64 0, .int .i64 0]) := hG'
        simp (maxSteps := 4000000) (disch := omega) only [rr, aop, cV, cV1, AV.one, Qb, okW, Qd, app, Qa, Qc, Qe, Qf, Qg, simprocAttr, QB, shA, bs, hk, tt, ot]
        refine Qh.vc hE' ?_
        simp (maxSteps := 4000000) (disch := omega) only [rr, aop, cV, cV1, AV.one, Qb, okW, Qd, app, Qa, Qc, Qe, Qf, Qg, simprocAttr, ed, ed2, hc0]
        refine Qh.vc hO' ?_
        simp (maxSteps := 4000000) (disch := omega) only [rr, aop, cV, cV1, AV.one, Qb, okW, Qd, app, Qa, Qc, Qe, Qf, Qg, simprocAttr]
        refine Qh.vc hF' ?_
        simp (maxSteps := 4000000) (disch := omega) only [rr, aop, cV, cV1, AV.one, Qb, okW, Qd, app, Qa, Qc, Qe, Qf, Qg, simprocAttr]
        refine Qh.vc hV' ?_
        simp (maxSteps := 4000000) (disch := omega) only [rr, aop, cV, cV1, AV.one, Qb, okW, Qd, app, Qa, Qc, Qe, Qf, Qg, simprocAttr, eNa]
        refine Qh.vc hG'' ?_
        simp (maxSteps := 4000000) (disch := omega) only [rr, aop, cV, cV1, AV.one, Qb, okW, Qd, app, Qa, Qc, Qe, Qf, Qg, simprocAttr, hk, tt, ot]
        refine Qh.vc hS' ?_
        simp only [iL]
        generalize unB c' x t (o.map fun n : Nat => (n : Int)) = z at *
        unfold Qhf
        by_cases h4 : QE x z = 0
        · rw [if_neg (by omega)]
          simp (maxSteps := 4000000) (disch := omega) only [rr, aop, cV, cV1, AV.one, Qb, okW, Qd, app, Qa, Qc, Qe, Qf, Qg, simprocAttr, il]
          simp [Q7, QG, frzL, QF, frzL_T _ (Qq _ _)]
        · rw [if_pos h4]
          simp (maxSteps := 4000000) (disch := omega) only [rr, aop, cV, cV1, AV.one, Qb, okW, Qd, app, Qa, Qc, Qe, Qf, Qg, simprocAttr]
          simp [Q7, QG, frzL, QF]
      · rw [if_neg h0, if_pos (by omega), erA]
        simp (maxSteps := 4000000) (disch := omega) only [rr, aop, cV, cV1, AV.one, Qb, okW, Qd, app, Qa, Qc, Qe, Qf, Qg, simprocAttr, QB, shA, bs, hk, tt, ot]
        refine Qh.vc hE' ?_
        simp (maxSteps := 4000000) (disch := omega) only [rr, aop, cV, cV1, AV.one, Qb, okW, Qd, app, Qa, Qc, Qe, Qf, Qg, simprocAttr, ed, ed2, hc0]
        refine Qh.vc hO' ?_
        simp (maxSteps := 4000000) (disch := omega) only [rr, aop, cV, cV1, AV.one, Qb, okW, Qd, app, Qa, Qc, Qe, Qf, Qg, simprocAttr]
        refine Qh.vc hF' ?_
        simp (maxSteps := 4000000) (disch := omega) only [rr, aop, cV, cV1, AV.one, Qb, okW, Qd, app, Qa, Qc, Qe, Qf, Qg, simprocAttr]
        refine Qh.vc hV' ?_
        simp (maxSteps := 4000000) (disch := omega) only [rr, aop, cV, cV1, AV.one, Qb, okW, Qd, app, Qa, Qc, Qe, Qf, Qg, simprocAttr, eNa]
        refine Qh.vc hG' ?_
        simp (maxSteps := 4000000) (disch := omega) only [rr, aop, cV, cV1, AV.one, Qb, okW, Qd, app, Qa, Qc, Qe, Qf, Qg, simprocAttr]
        simp [Q7, QG, frzL, QF]

end Go.Am

namespace Go.Am
open Go.RowKit

/-! ### How many samples are good (plain) -/

theorem QfA {l : List Int} {k j : Nat} (h : j < k) : (l.take k).getD j 0 = l.getD j 0 := by
  simp only [List.getD_eq_getElem?_getD, List.getElem?_take_of_lt h]
theorem Qnd {c : Nat} {L : List Int} {z : ZK} {k m : Nat} : ∀ n, (∀ i, i < n → k + i * c < m) → stB c (L.take m) z k n = stB c L z k n
  | 0, _ => rfl
  | n + 1, h => by
    rw [stB, stB, Qnd n fun i hi => h i (by omega), QfA (h n (by omega))]
theorem Qsh {c : Nat} {L : List Int} {z : ZK} {j m : Nat} (hc : 1 ≤ c) (hj : j < m) : Qv8 c (L.take m) z j = Qv8 c L z j := by
  rw [Qv8, Qv8, QfA hj, Qnd _ fun i hi => ?_]
  have h1 := Nat.div_add_mod j c
  have h2 : i * c + c ≤ j / c * c := by
    have := Nat.mul_le_mul_right c (show i + 1 ≤ j / c from hi)
    rwa [Nat.add_mul, Nat.one_mul] at this
  rw [Nat.mul_comm c] at h1
  omega
theorem QwB {c j m : Nat} (hj : j < m * c) (hc : 1 ≤ c) : c * (j / c) + c ≤ m * c := by
  have h1 : j / c < m := (Nat.div_lt_iff_lt_mul hc).2 hj
  have := Nat.mul_le_mul_right c (show j / c + 1 ≤ m from h1)
  rw [Nat.add_mul, Nat.one_mul, Nat.mul_comm (j / c)] at this
  exact this
theorem QsW {c : Nat} {x : Int} {t v : List Int} {m : Nat} (hc : 1 ≤ c) (hm : m * c ≤ v.length) : unB c x t (v.take (m * c)) = (unB c x t v).take (m * c) := by
  have hl : (v.take (m * c)).length = m * c := by simp; omega
  apply Z1
  · simp only [QdS, List.length_take]
  intro j hj
  rw [QdS, hl] at hj
  have hjv : j < v.length := by omega
  rw [QfA hj]
  unfold unB QbO Qwn
  rw [QA (by rw [JJ, hl]; exact hj), QA (by rw [JJ]; exact hjv)]
  unfold Qu8
  refine QhY hc (fun i hi => ?_) _
  have hs := QwB hj hc
  rw [Qiz, Qiz, QA (by rw [hl]; omega), QA (by omega), List.map_take, Qsh hc (by omega)]

def okP (c : Nat) (x : Int) (l : List Int) (k : Nat) : Bool := (l.take (k * c)).all (inR x)
def QlX (c : Nat) (x : Int) (l : List Int) : Nat → Nat
  | 0 => 0
  | m + 1 => if okP c x l (m + 1) then m + 1 else QlX c x l m
theorem Qtt (c : Nat) (x : Int) (l : List Int) : okP c x l 0 = true := by simp [okP]
theorem Qtu {c : Nat} {x : Int} {l : List Int} {j k : Nat} (h : okP c x l k = true) (hjk : j ≤ k) : okP c x l j = true := by
  unfold okP at h ⊢
  have : j * c ≤ k * c := Nat.mul_le_mul_right c hjk
  rw [List.all_eq_true] at h ⊢
  intro y hy
  refine h y ?_
  rw [show l.take (j * c) = (l.take (k * c)).take (j * c) by rw [List.take_take, Nat.min_eq_left this]] at hy
  exact List.mem_of_mem_take hy
theorem Qd5 (c : Nat) (x : Int) (l : List Int) : ∀ m, QlX c x l m ≤ m ∧ okP c x l (QlX c x l m) = true ∧ ∀ k, k ≤ m → okP c x l k = true → k ≤ QlX c x l m
  | 0 => ⟨Nat.le_refl _, Qtt _ _ _, fun k hk _ => hk⟩
  | m + 1 => by
    obtain ⟨h1, h2, h3⟩ := Qd5 c x l m
    unfold QlX
    split
    · rename_i h; exact ⟨Nat.le_refl _, h, fun k hk _ => hk⟩
    · rename_i h
      refine ⟨by omega, h2, fun k hk hok => ?_⟩
      rcases Nat.lt_or_ge m k with hlt | hge
      · obtain rfl : k = m + 1 := by omega
        exact absurd hok h
      · exact h3 k hge hok
def QlW (c : Nat) (x : Int) (t v : List Int) : Nat := QlX c x (unB c x t (v.take (v.length / c * c))) (v.length / c) * c
theorem Qt2 {c : Nat} {x : Int} {t v : List Int} : QlW c x t v ≤ v.length := by
  have h1 := (Qd5 c x (unB c x t (v.take (v.length / c * c))) (v.length / c)).1
  have h2 := Nat.mul_le_mul_right c h1
  have h3 := Nat.div_mul_le_self v.length c
  unfold QlW
  omega
theorem Qv3 {x : Int} {l : List Int} (hx : JB x ≠ 0) (hl : l.length ≤ 4000) : QE x l = if l.all (inR x) then 0 else 16 := by
  unfold QE
  rw [if_neg hx, if_neg (by omega)]

/-! ### verdict.check, sound -/

theorem QhH {P : Prg} {f fE t0 : Nat} (bd : Ql P f 20 [.tmp 4] (Jt fE t0)) (hE : XN P fE) : Qcc P f := by
  intro c x n
  refine VC.of_acall (by simp [isDL, isD, shA]) rfl (ACall.of_body bd (by simp) ?_)
  have hE' := hE c x
  rw [shA] at hE'
  simp (maxSteps := 4000000) (disch := omega) only [rr, aop, cV, cV1, AV.one, Qb, okW, Qd, app, Qa, Qc, Qe, Qf, Qg, simprocAttr, Jt, shA]
  refine Qh.vc hE' ?_
  rcases QM c x with h1 | ⟨h1, h2, h3, h4⟩
  · have e9 : QO c x n = 2 := by simp [QO, h1]
    simp (maxSteps := 4000000) (disch := omega) only [rr, aop, cV, cV1, AV.one, Qb, okW, Qd, app, Qa, Qc, Qe, Qf, Qg, simprocAttr, h1, e9]
  by_cases h5 : n < 1
  · have e9 : QO c x n = 2 := by simp [QO, h5]
    simp (maxSteps := 4000000) (disch := omega) only [rr, aop, cV, cV1, AV.one, Qb, okW, Qd, app, Qa, Qc, Qe, Qf, Qg, simprocAttr, h1, e9]
  have ed : ((4000 : Int)).tdiv c = 4000 / c := Int.tdiv_eq_ediv_of_nonneg (by omega)
  have hc0 : c ≠ 0 := by omega
  have hd1 : 4000 / c ≤ 4000 := Int.ediv_le_self c (show (0 : Int) ≤ 4000 by omega)
  have hd0 : 0 ≤ 4000 / c := Int.ediv_nonneg (by omega) (by omega)
  have e9 : QO c x n = if 4000 / c < n then 2 else 0 := by simp [QO, h1, h5]
  obtain ⟨q, hq⟩ : ∃ q, q = 4000 / c := ⟨_, rfl⟩
  rw [← hq] at hd0 hd1 ed e9
  have ed2 : (4000 : Int) / c = q := hq.symm
  clear hq
  by_cases h6 : q < n
  · rw [if_pos h6] at e9
    simp (maxSteps := 4000000) (disch := omega) only [rr, aop, cV, cV1, AV.one, Qb, okW, Qd, app, Qa, Qc, Qe, Qf, Qg, simprocAttr, h1, ed, ed2, hc0, e9]
  · rw [if_neg h6] at e9
    simp (maxSteps := 4000000) (disch := omega) only [rr, aop, cV, cV1, AV.one, Qb, okW, Qd, app, Qa, Qc, Qe, Qf, Qg, simprocAttr, h1, ed, ed2, hc0, e9]

def QmU (P : Prg) (f : Nat) : Prop := ∀ b : List UInt8, b.length ≤ 1000000 → VC P f [bs b] (.bool (decide (Zi b = 0)))
theorem QhG {P : Prg} {f fS fV : Nat} (bd : Ql P f 43 [.tmp 2] (Zz fS fV)) (hS : QkY P fS) (hV : Qct P fV) : QmU P f := by
  intro b hb
  refine VC.of_acall (by simp [isDL, Zy]) rfl (ACall.of_body bd (by simp) ?_)
  unfold Zi
  by_cases h1 : b.length < 5
  · simp only [h1, if_true]
    simp (maxSteps := 4000000) (disch := omega) only [rr, aop, cV, cV1, AV.one, Qb, okW, Qd, app, Qa, Qc, Qe, Qf, Qg, simprocAttr, Zz, bs]
    try rfl
  simp only [h1, if_false]
  by_cases h2 : 41254 < b.length
  · simp only [h2, if_true]
    simp (maxSteps := 4000000) (disch := omega) only [rr, aop, cV, cV1, AV.one, Qb, okW, Qd, app, Qa, Qc, Qe, Qf, Qg, simprocAttr, Zz, bs]
    try rfl
  simp only [h2, if_false]
  have hS' := hS (b.take (b.length - 4))
  rw [if_neg (by simp; omega), ← Qc8] at hS'
  have hl1 : (b.take (b.length - 4)).length = b.length - 4 := by simp
  have hl2 : (b.drop (b.length - 4)).length = 4 := by simp; omega
  have hs := QdT (b.take (b.length - 4))
  have hV' := hV (b.drop (b.length - 4)) (by omega) (by omega)
  have tk : (u8 b).take (b.length - 4) = u8 (b.take (b.length - 4)) := by simp [u8, List.map_take]
  have dk : (u8 b).drop (b.length - 4) = u8 (b.drop (b.length - 4)) := by simp [u8, List.map_drop]
  simp only [bs, hl1, hl2] at hS' hV'
  have hpl : (u8 (b.take (b.length - 4))).length = b.length - 4 := by rw [Q4, hl1]
  have hql : (u8 (b.drop (b.length - 4))).length = 4 := by rw [Q4, hl2]
  have tq : (u8 (b.drop (b.length - 4))).take 4 = u8 (b.drop (b.length - 4)) := List.take_of_length_le (by omega)
  have hq : leN (b.drop (b.length - 4)) < 4294967296 := by
    have := QeA (b.drop (b.length - 4))
    rw [hl2] at this
    exact this
  generalize b.take (b.length - 4) = p at *
  generalize b.drop (b.length - 4) = q at *
  generalize Qc8 p = s at *
  generalize leN q = r at *
  have e0 : ((b.length : Int) - 4).toNat = b.length - 4 := by omega
  have e1 : ((b.length : Int) - ((b.length : Int) - 4)).toNat = 4 := by omega
  have e2 : b.length - 4 - 0 = b.length - 4 := by omega
  have e3 : b.length - (b.length - 4) = 4 := by omega
  simp (maxSteps := 4000000) (disch := omega) only [rr, aop, cV, cV1, AV.one, Qb, okW, Qd, app, Qa, Qc, Qe, Qf, Qg, simprocAttr, Zz, bs, tk, dk, e0, e1, e2, e3, tq]
  refine Qh.vc hS' ?_
  simp (maxSteps := 4000000) (disch := omega) only [rr, aop, cV, cV1, AV.one, Qb, okW, Qd, app, Qa, Qc, Qe, Qf, Qg, simprocAttr, tk, dk, e0, e1, e2, e3, tq]
  refine Qh.vc hV' ?_
  by_cases he : r = s
  · subst he
    simp (maxSteps := 4000000) (disch := omega) only [rr, aop, cV, cV1, AV.one, Qb, okW, Qd, app, Qa, Qc, Qe, Qf, Qg, simprocAttr]
  · have he' : (r : Int) ≠ s := by omega
    simp (maxSteps := 4000000) (disch := omega) only [rr, aop, cV, cV1, AV.one, Qb, okW, Qd, app, Qa, Qc, Qe, Qf, Qg, simprocAttr, he, he']
    try rfl

end Go.Am

namespace Go.Am
open Go.RowKit

/-! ### verdict.values -/

def Qoj : (Nat × List Nat) ⊕ (List Nat × Nat) → List Nat
  | .inl (_, o) => o
  | .inr (o, _) => o
def QmI (b : List UInt8) (c n : Nat) : (Nat × List Nat) ⊕ (List Nat × Nat) := XU (leN (b.take (b.length - 4))) (8 * (b.take (b.length - 4)).length) c (n * c) [] 0
def QmJ (P : Prg) (f : Nat) : Prop := ∀ (b : List UInt8) (c n : Nat), 5 ≤ b.length → b.length ≤ 41254 → 1 ≤ c → c ≤ 6 → n * c ≤ 4000 → VC P f [.int .i64 c, .int .i64 n, bs b] (Qtw (Qoj (QmI b c n)))
set_option maxHeartbeats 2000000 in
theorem Qgw {P : Prg} {f fS fO fC fR t0 t1 t2 t3 : Nat} (bd : Ql P f 86 [.tmp 6] (X3 fS fO fC fR t0 t1 t2 t3)) (hS : Qca P fS) (hO : Qut P fO) (hC : Quv P fC) (hR : Qi0 P fR) : QmJ P f := by
  intro b c n hb5 hb hc hc6 hnc
  refine VC.of_walk 1 (by simp [isDL, Zy, isD]) (QnH _) (ACall.of_body bd (by simp) ?_)
  simp only [Qca, Qi, dlA, dlC] at hS
  have hn4 : n ≤ 4000 := by
    have : n * 1 ≤ n * c := Nat.mul_le_mul_left _ hc
    omega
  unfold QmI
  have hpl : (b.take (b.length - 4)).length = b.length - 4 := by simp
  have hO' := hO (b.take (b.length - 4)) (by omega)
  have hVlt := Qre (b.take (b.length - 4))
  have hbA := Qv9 (b.take (b.length - 4))
  rw [ofA, if_neg (by omega)] at hO'
  have tkb : (u8 b).take (b.length - 4) = u8 (b.take (b.length - 4)) := by simp [u8, List.map_take]
  have n5 : b.length - 4 - 0 = b.length - 4 := by omega
  obtain ⟨N, hN0⟩ : ∃ N, N = 8 * (b.take (b.length - 4)).length := ⟨_, rfl⟩
  rw [← hN0] at hO' hVlt hbA ⊢
  rw [bs, hpl] at hO'
  have hN : N ≤ 330000 := by omega
  generalize hp : b.take (b.length - 4) = p at *
  generalize leN p = V at *
  have hV : V < 2 ^ N := hVlt
  have tu : isTL (u8 (leB V (nB N))) = true := Zx _
  obtain ⟨T, hT⟩ : ∃ T, T = n * c := ⟨_, rfl⟩
  obtain ⟨R, hR0⟩ : ∃ R, R = XU V N c (n * c) [] 0 := ⟨_, rfl⟩
  have eT : (n : Int) * c = (T : Int) := by rw [hT]; simp
  rw [← hR0]
  rw [bA] at hO'
  simp (maxSteps := 4000000) (disch := omega) only [rr, aop, cV, cV1, AV.one, Qb, okW, Qd, app, Qa, Qc, Qe, Qf, Qg, simprocAttr, X3, bs]
  refine QN.by (ι := Nat) (fun i => ⟨[(19, .int .i64 i), (7, .ref 0 1 0), (6, .emp true), (0, .int .i64 c), (1, .int .i64 n), (2, .list b.length (u8 b))],
      [⟨t0, 24, 1, Jk (fun j => if j < i then Qi else ⟨0, 0, 0, 0⟩), 0⟩]⟩) (fun i => i ≤ 6) (fun i => 6 - i) 0 (Le.slots (by simp [Am.look])) (by omega) ?_
  intro i hi
  by_cases hlt : i < 6
  · have e1 := Qa1 (fun j => if j < i then Qi else ⟨0, 0, 0, 0⟩) hlt Qi
    have e2 : Qor (fun j => if j < i then Qi else ⟨0, 0, 0, 0⟩) i Qi = fun j => if j < i + 1 then Qi else ⟨0, 0, 0, 0⟩ := by
      funext j
      unfold Qor
      by_cases h1 : j = i
      · subst h1; simp
      · by_cases h2 : j < i
        · simp [h1, h2, show j < i + 1 by omega]
        · simp [h1, h2, show ¬ j < i + 1 by omega]
    rw [e2] at e1
    have e3 := Xz (fun j => if j < i then Qi else ⟨0, 0, 0, 0⟩)
    simp (maxSteps := 4000000) (disch := omega) only [rr, aop, cV, cV1, AV.one, Qb, okW, Qd, app, Qa, Qc, Qe, Qf, Qg, simprocAttr]
    refine Qh.vc hS ?_
    generalize hF : Jk (fun j => if j < i then Qi else ⟨0, 0, 0, 0⟩) = F at *
    have e1' : F.take (i * 4) ++ [.int .i64 10, .int .i64 10, .int .u64 16384, .int .u64 16384] ++ F.drop (i * 4 + 4) = Jk fun j => if j < i + 1 then Qi else ⟨0, 0, 0, 0⟩ := e1
    simp (maxSteps := 4000000) (disch := omega) only [rr, aop, cV, cV1, AV.one, Qb, okW, Qd, app, Qa, Qc, Qe, Qf, Qg, simprocAttr, e3]
    refine ⟨i + 1, by omega, by omega, ?_⟩
    rw [e1']
    exact Le.slots (by simp [Am.look])
  obtain rfl : i = 6 := by omega
  have hk0 : ∀ o : List Nat, (ks .u32 (o.map fun n : Nat => (n : Int))).length = o.length := fun o => by simp [ks]
  simp (maxSteps := 4000000) (disch := omega) only [rr, aop, cV, cV1, AV.one, Qb, okW, Qd, app, Qa, Qc, Qe, Qf, Qg, simprocAttr, tkb, n5]
  refine Qh.vc hO' ?_
  simp (maxSteps := 4000000) (disch := omega) only [rr, aop, cV, cV1, AV.one, Qb, okW, Qd, app, Qa, Qc, Qe, Qf, Qg, simprocAttr, eT]
  refine QN.byP [0, 0, 1, 2, 0, 0, 0, 0, 0] (ι := Nat × List Nat × Nat) (fun s => ⟨[(40, .int .i64 s.1), (39, .int .i64 T), (12, .int .i64 s.2.2), (11, .own 2 s.2.1.length), (9, .ref 1 1 0), (7, .ref 0 1 0), (0, .int .i64 c)],
      [⟨t0, 24, 1, Jk (fun j => if j < c then Qx c j s.2.1 else Qi), 0⟩, ⟨t1, 2, 1, [.list (nB N) (u8 (leB V (nB N))), .int .i64 N], 0⟩, ⟨t3, 1, s.2.1.length, ks .u32 (s.2.1.map fun n : Nat => (n : Int)), 0⟩]⟩)
    (fun s => s.1 ≤ T ∧ s.2.1.length = s.1 ∧ s.2.2 ≤ N ∧ N32 s.2.1 ∧ XU V N c (T - s.1) s.2.1 s.2.2 = R) (fun s => T - s.1) (0, [], 0) ?_ ⟨Nat.zero_le _, rfl, Nat.zero_le _, fun x hx => (by simp at hx), (by rw [hR0, hT]; rfl)⟩ ?_
  · have z1 : Jk (fun j => if j < 6 then Qi else ⟨0, 0, 0, 0⟩) = Jk (fun _ => Qi) := rfl
    have z2 : (fun j => if j < c then Qx c j [] else Qi) = fun _ => Qi := by
      funext j
      split <;> rfl
    simp only [z2]
    rw [z1]
    exact Le.trans (Le.virt 11 t3 1 (by decide) rfl) (Le.slots (by simp [Am.look]))
  rintro ⟨k, out, a⟩ ⟨h1, h2, h3, h4, h5⟩
  simp only at h1 h2 h3 h4 h5 ⊢
  by_cases hlt : k < T
  · obtain ⟨r, hr⟩ : ∃ r, r = k % c := ⟨_, rfl⟩
    have hrc : r < c := by rw [hr]; exact Nat.mod_lt _ (by omega)
    have e1 : (k : Int) % c = (r : Int) := by rw [hr]; simp [Int.natCast_emod]
    have e1' : ((k : Int)).tmod (c : Int) = (r : Int) := by rw [Int.tmod_eq_emod_of_nonneg (by omega), e1]
    have hc0 : (c : Int) ≠ 0 := by omega
    obtain ⟨b', hb'⟩ : ∃ b, b = min (a + 81) N := ⟨_, rfl⟩
    have e2 : (if (N : Int) < (a : Int) + 81 then (N : Int) else (a : Int) + 81) = (b' : Int) := by split <;> omega
    have hpn : b' - a = Qc9 N a := by rw [hb']; rfl
    have hC' : VC P fC [bA N V, .int .i64 a, .int .i64 b'] (.tup [bA (Qc9 N a) (Qk1 V N a), .int .i64 0]) := by
      have := hC N V a b' hV hN (by omega) (by omega)
      rw [hpn] at this
      exact this
    have hpl' : Qc9 N a ≤ 81 := by unfold Qc9; omega
    have hd := QcV (c := c) (r := r) h4
    have hR' := hR (Qc9 N a) (Qk1 V N a) 0 (Qx c r out) (QqR V N a) (by omega) (by omega) hd
    obtain ⟨rest, hg⟩ := Qe3 (fun j => if j < c then Qx c j out else Qi) (j := r) (by omega)
    simp only [hrc, if_true] at hg
    have hst := fun d => Qa1 (fun j => if j < c then Qx c j out else Qi) (j := r) (by omega) d
    have hln := Xz (fun j => if j < c then Qx c j out else Qi)
    have hupd : ∀ v : Nat, Qor (fun j => if j < c then Qx c j out else Qi) r (Q6 (Qx c r out) v) = fun j => if j < c then Qx c j (out ++ [v]) else Qi := by
      intro v
      funext j
      unfold Qor
      by_cases hj : j = r
      · subst hj
        rw [if_pos rfl, if_pos hrc, QaO, if_pos (by rw [h2, hr])]
      · rw [if_neg hj]
        by_cases hjc : j < c
        · simp only [hjc, if_true]
          rw [QaO, if_neg (by rw [h2, ← hr]; exact fun e => hj e.symm)]
        · simp only [hjc, if_false]
    have hkT : T - k = (T - k - 1) + 1 := by omega
    rw [hkT, XU, h2, ← hr] at h5
    have hgl := fun v nx (h : Qih (Qk1 V N a) (Qc9 N a) 0 (Qx c r out) = .inr (v, nx)) => QnL hd h
    have hge := fun e (h : Qih (Qk1 V N a) (Qc9 N a) 0 (Qx c r out) = .inl e) => QlV h
    have hpN : Qc9 N a ≤ N - a := by unfold Qc9; omega
    simp only [bA] at hC' hR'
    have hk1 := hk0 out
    have tk : isTL (ks .u32 (out.map fun n : Nat => (n : Int))) = true := Qq _ _
    cases hgm : Qih (Qk1 V N a) (Qc9 N a) 0 (Qx c r out) with
    | inl e =>
      have he := hge e hgm
      rw [hgm] at hR' h5
      simp only at h5
      have he0 : (e : Int) ≠ 0 := by omega
      rw [← h5, Qoj, Qtw, QcH, List.length_map]
      generalize Jk (fun j => if j < c then Qx c j out else Qi) = F at *
      generalize Qx c r out = d at *
      obtain ⟨d0, d1, d2, d3⟩ := d
      simp only [dlA, dlC, drA] at hR'
      simp only at hg
      simp (maxSteps := 4000000) (disch := omega) only [rr, aop, cV, cV1, AV.one, Qb, okW, Qd, app, Qa, Qc, Qe, Qf, Qg, simprocAttr, QvX, e2]
      refine Qh.vc hC' ?_
      simp (maxSteps := 4000000) (disch := omega) only [rr, aop, cV, cV1, AV.one, Qb, okW, Qd, app, Qa, Qc, Qe, Qf, Qg, simprocAttr, QvX, e1, e1', hc0, hg, hln]
      refine QQ.vc hR' ?_
      simp (maxSteps := 4000000) (disch := omega) only [rr, aop, cV, cV1, AV.one, Qb, okW, Qd, app, Qa, Qc, Qe, Qf, Qg, simprocAttr, QvX, h2]
      simp [Q7, QG, frzL, QF, h2, frzL_T _ tk]
    | inr w =>
      obtain ⟨v, nx⟩ := w
      obtain ⟨v1, v2⟩ := hgl v nx hgm
      rw [hgm] at hR' h5
      simp only at h5
      have hset := hst (Q6 (Qx c r out) v)
      rw [hupd v] at hset
      have tF := Qdx (fun j => if j < c then Qx c j out else Qi)
      generalize hFF : Jk (fun j => if j < c then Qx c j out else Qi) = F at *
      generalize Qx c r out = d at *
      obtain ⟨d0, d1, d2, d3⟩ := d
      simp only [drA] at hR'
      generalize Q6 ⟨d0, d1, d2, d3⟩ v = d' at *
      obtain ⟨m0, m1, m2, m3⟩ := d'
      simp only [dlA, dlC] at hR'
      simp only at hg hset
      simp (maxSteps := 4000000) (disch := omega) only [rr, aop, cV, cV1, AV.one, Qb, okW, Qd, app, Qa, Qc, Qe, Qf, Qg, simprocAttr, QvX, e2]
      refine Qh.vc hC' ?_
      simp (maxSteps := 4000000) (disch := omega) only [rr, aop, cV, cV1, AV.one, Qb, okW, Qd, app, Qa, Qc, Qe, Qf, Qg, simprocAttr, QvX, e1, e1', hc0, hg, hln]
      refine QQ.vc hR' ?_
      simp (maxSteps := 4000000) (disch := omega) only [rr, aop, cV, cV1, AV.one, Qb, okW, Qd, app, Qa, Qc, Qe, Qf, Qg, simprocAttr, QvX, e1, e1', hc0, hg, hln, hk1, h2]
      refine ⟨⟨[(13, .int .i64 k), (0, .int .i64 c), (11, .own 2 k), (16, .int .u32 v), (12, .int .i64 a), (17, .int .i64 nx), (18, .cell [.int .i64 m0, .int .i64 m1, .int .u64 m2, .int .u64 m3]), (7, .ref 0 1 0), (9, .ref 1 1 0), (39, .int .i64 T), (40, .int .i64 k)],
        [⟨t0, 24, 1, F, 0⟩, ⟨t1, 2, 1, [.list (nB N) (u8 (leB V (nB N))), .int .i64 N], 0⟩, ⟨t3, 1, k, ks .u32 (out.map fun n : Nat => (n : Int)), 0⟩]⟩,
        Le.dropT [_, _, _] (by simp [tF, Qq, isTL, isT, Zx]) (by simp [Am.look, QG, frzL, QF]), ?_⟩
      simp (maxSteps := 4000000) (disch := omega) only [rr, aop, cV, cV1, AV.one, Qb, okW, Qd, app, Qa, Qc, Qe, Qf, Qg, simprocAttr, e1, e1', hc0, hg, hln, hk1, h2]
      have hap : ks .u32 (out.map fun n : Nat => (n : Int)) ++ [.int .u32 (v : Int)] = ks .u32 ((out ++ [v]).map fun n : Nat => (n : Int)) := by simp [ks]
      have hol : (out ++ [v]).length = k + 1 := by simp [h2]
      refine ⟨(k + 1, out ++ [v], a + nx), ⟨by omega, hol, by simp only; omega, fun x hx => ?_, ?_⟩, by simp only; omega, ?_⟩
      · rcases List.mem_append.1 hx with h | h
        · exact h4 x h
        · simp at h; subst h; exact v1
      · simp only
        rw [show T - (k + 1) = T - k - 1 by omega]
        exact h5
      · simp only [hol]
        rw [hset, hap]
        exact Le.dropT [_, _, _] (by simp [Qdx, Qq, isTL, isT, Zx]) (by simp [Am.look, QG, frzL, QF])
  · obtain rfl : k = T := by omega
    rw [Nat.sub_self, XU] at h5
    rw [← h5, Qoj, Qtw, QcH, List.length_map]
    simp (maxSteps := 4000000) (disch := omega) only [rr, aop, cV, cV1, AV.one, Qb, okW, Qd, app, Qa, Qc, Qe, Qf, Qg, simprocAttr, QvX]
    simp [Q7, QG, frzL, QF, frzL_T _ (Qq _ _)]

end Go.Am

namespace Go.Am
open Go.RowKit

/-! ### verdict.good -/

theorem Qur {v : List Int} (h : U32 v) (k : Nat) : U32 (v.take k) := fun x hx => h x (List.mem_of_mem_take hx)
theorem mod_mul (m c : Nat) : (m * c) % c = 0 := Nat.mul_mod_left m c
theorem QvT {c k : Nat} {x : Int} {t v : List Int} (hc : 1 ≤ c) (hc6 : c ≤ 6) (hx : JB x ≠ 0) (hk : 1 ≤ k) (hkl : k ≤ v.length / c) (hl : v.length ≤ 4000) :
    ∃ m : List Int, dfA c x t (v.take (k * c)) = .tup [il m, .int .i64 (if okP c x (unB c x t (v.take (v.length / c * c))) k then 0 else 16)] := by
  have h2 : v.length / c * c ≤ v.length := Nat.div_mul_le_self _ _
  have h3 : k * c ≤ v.length / c * c := Nat.mul_le_mul_right c hkl
  have h0 : 0 < k * c := Nat.mul_pos hk hc
  have h1 : (v.take (k * c)).length = k * c := by simp; omega
  have hE : QV c x = 0 := by unfold QV; rw [if_neg (by omega)]
  have e1 : v.take (k * c) = (v.take (v.length / c * c)).take (k * c) := by rw [List.take_take, Nat.min_eq_left h3]
  have e2 : unB c x t (v.take (k * c)) = (unB c x t (v.take (v.length / c * c))).take (k * c) := by
    rw [e1]; exact QsW hc (by simp; omega)
  have hz : ((v.take (k * c)).length : Int) % (c : Int) = 0 := by
    rw [h1, ← Int.natCast_emod, mod_mul]; rfl
  rw [Qw2 hE (by omega) (by omega), Qhf, Qv3 hx (by rw [QdS]; omega), e2]
  unfold okP
  split
  · rename_i h
    exact ⟨_, rfl⟩
  · rename_i h
    exact ⟨[], rfl⟩

def QmK (P : Prg) (f : Nat) : Prop := ∀ (c : Nat) (x : Int) (t v : List Int), 1 ≤ c → c ≤ 6 → JB x ≠ 0 → t.length = 16 → I32 t → v.length ≤ 4000 → U32 v → VC P f [shA c x, .agg (ks .i32 t), QcH v] (.int .i64 (QlW c x t v : Nat))
set_option maxHeartbeats 1000000 in
theorem Qjm {P : Prg} {f fS t0 t1 : Nat} (bd : Ql P f 46 [.tmp 6] (J5 fS t0 t1)) (hS : Qem P fS) : QmK P f := by
  intro c x t v hc hc6 hx ht hI hl hV
  refine VC.of_acall (by simp [isDL, isD, Qfb, QK, shA]) rfl (ACall.of_body bd (by simp) ?_)
  have hk : (ks .i32 t).length = 16 := by simp [Qk, ht]
  have tt : (ks .i32 t).take 16 = ks .i32 t := Qs (by omega)
  have ot := ZP .i32 t
  have hc0 : (c : Int) ≠ 0 := by omega
  obtain ⟨G, hG⟩ : ∃ G, G = QlX c x (unB c x t (v.take (v.length / c * c))) (v.length / c) := ⟨_, rfl⟩
  obtain ⟨g1, g2, g3⟩ := Qd5 c x (unB c x t (v.take (v.length / c * c))) (v.length / c)
  rw [← hG] at g1 g2 g3
  have hgm : QlW c x t v = G * c := by rw [QlW, ← hG]
  rw [hgm]
  have hdf := fun k (h1 : 1 ≤ k) (h2 : k ≤ v.length / c) => QvT (t := t) hc hc6 hx h1 h2 hl
  have hmon := fun j k (h : okP c x (unB c x t (v.take (v.length / c * c))) k = true) (hj : j ≤ k) => Qtu h hj
  have hml : ∀ k, k ≤ v.length / c → k * c ≤ v.length := fun k hkl => Nat.le_trans (Nat.mul_le_mul_right c hkl) (Nat.div_mul_le_self _ _)
  have hm4 : v.length / c ≤ v.length := Nat.div_le_self _ _
  have eM : (v.length : Int) / (c : Int) = ((v.length / c : Nat) : Int) := by simp
  have eM2 : (v.length : Int).tdiv (c : Int) = ((v.length / c : Nat) : Int) := by rw [Int.tdiv_eq_ediv_of_nonneg (by omega), eM]
  obtain ⟨M, hM⟩ : ∃ M, M = v.length / c := ⟨_, rfl⟩
  rw [← hM] at g1 g2 g3 hdf hml hm4 eM eM2 hmon hG
  generalize unB c x t (v.take (M * c)) = z at *
  clear hM hG hgm
  simp (maxSteps := 4000000) (disch := omega) only [rr, aop, cV, cV1, AV.one, Qb, okW, Qd, app, Qa, Qc, Qe, Qf, Qg, simprocAttr, J5, shA, QcH, hk, tt, ot, hc0, eM, eM2]
  refine QN.by (ι := Nat × Nat) (fun s => ⟨[(7, .int .i64 s.1), (8, .int .i64 s.2), (4, .ref 1 1 0), (3, .ref 0 1 0), (2, .list v.length (ks .u32 v))], [⟨t0, 2, 1, [.int .i64 c, .int .i64 x], 0⟩, ⟨t1, 16, 1, ks .i32 t, 0⟩]⟩)
    (fun s => s.1 ≤ G ∧ G ≤ s.2 ∧ s.2 ≤ M) (fun s => s.2 - s.1) (0, M) (Le.slots (by simp [Am.look])) ⟨Nat.zero_le _, g1, Nat.le_refl _⟩ ?_
  rintro ⟨lo, hi⟩ ⟨h1, h2, h3⟩
  simp only at h1 h2 h3 ⊢
  by_cases hlt : lo < hi
  · obtain ⟨k, hk0⟩ : ∃ k, k = (lo + hi + 1) / 2 := ⟨_, rfl⟩
    have e0 : ((lo : Int) + hi + 1) / 2 = (k : Int) := by omega
    have e0' : ((lo : Int) + hi + 1).tdiv 2 = (k : Int) := by rw [Int.tdiv_eq_ediv_of_nonneg (by omega), e0]
    obtain ⟨m, hm⟩ := hdf k (by omega) (by omega)
    have hkc := hml k (by omega)
    have hS' := hS c x t (v.take (k * c)) ht hI (Qur hV _)
    rw [hm, shA, QcH] at hS'
    have hl1 : (v.take (k * c)).length = k * c := by simp; omega
    rw [hl1] at hS'
    obtain ⟨K, hK⟩ : ∃ K, K = k * c := ⟨_, rfl⟩
    have eK : (k : Int) * c = (K : Int) := by rw [hK]; simp
    rw [← hK] at hS' hkc hl1
    have tk : (ks .u32 v).take K = ks .u32 (v.take K) := Qrh _ _ _
    have hlv : (ks .u32 v).length = v.length := Qk _ _
    have n0 : K - 0 = K := by omega
    simp only [il] at hS'
    cases hok : okP c x z k with
    | true =>
      rw [hok] at hS'
      simp only [if_true] at hS'
      have hG' := g3 k (by omega) hok
      simp (maxSteps := 4000000) (disch := omega) only [rr, aop, cV, cV1, AV.one, Qb, okW, Qd, app, Qa, Qc, Qe, Qf, Qg, simprocAttr, e0, e0', eK, hk, tt, ot, tk, hlv, n0]
      refine QQ.vc hS' ?_
      simp (maxSteps := 4000000) (disch := omega) only [rr, aop, cV, cV1, AV.one, Qb, okW, Qd, app, Qa, Qc, Qe, Qf, Qg, simprocAttr]
      exact ⟨(k, hi), ⟨hG', h2, h3⟩, by simp only; omega, Le.slots (by simp [Am.look])⟩
    | false =>
      rw [hok] at hS'
      simp only [Bool.false_eq_true, if_false] at hS'
      have hG' : G ≤ k - 1 := by
        rcases Nat.lt_or_ge G k with h | h
        · omega
        · have := hmon k G g2 h
          rw [hok] at this; cases this
      simp (maxSteps := 4000000) (disch := omega) only [rr, aop, cV, cV1, AV.one, Qb, okW, Qd, app, Qa, Qc, Qe, Qf, Qg, simprocAttr, e0, e0', eK, hk, tt, ot, tk, hlv, n0]
      refine QQ.vc hS' ?_
      simp (maxSteps := 4000000) (disch := omega) only [rr, aop, cV, cV1, AV.one, Qb, okW, Qd, app, Qa, Qc, Qe, Qf, Qg, simprocAttr]
      exact ⟨(lo, k - 1), ⟨h1, hG', by simp only; omega⟩, by simp only; omega, Le.slots (by simp [Am.look]; omega)⟩
  · obtain rfl : lo = G := by omega
    have hkc := hml lo g1
    have eK : (lo : Int) * c = ((lo * c : Nat) : Int) := by simp
    obtain ⟨K, hK⟩ : ∃ K, K = lo * c := ⟨_, rfl⟩
    rw [← hK] at eK hkc ⊢
    simp (maxSteps := 4000000) (disch := omega) only [rr, aop, cV, cV1, AV.one, Qb, okW, Qd, app, Qa, Qc, Qe, Qf, Qg, simprocAttr, eK]

/-! ### verdict.Judge -/

def QwX (V N c : Nat) (x : Int) (t : List Int) (w : (Nat × List Nat) ⊕ (List Nat × Nat)) : Int :=
  match w with
  | .inl (e, _) => e
  | .inr (o, a) => if QeM V N a ≠ 0 then 12 else QE x (unB c x t (iL o))
def QfW (c x : Int) (t : List Int) (n : Int) (b : List UInt8) : Int :=
  if QO c x n ≠ 0 then 2 else if Zi b ≠ 0 then (Zi b : Nat) else
    QwX (leN (b.take (b.length - 4))) (8 * (b.take (b.length - 4)).length) c.toNat x t (QmI b c.toNat n.toNat)
theorem QrR (c x n : Int) (t : List Int) (b : List UInt8) : ∃ m : List Int, QnU c x t n b = .tup [il m, .int .i64 (QfW c x t n b)] ∧ m.length ≤ 4000 := by
  unfold QnU QfW QmI
  by_cases h1 : QO c x n = 0
  case neg => simp only [if_pos h1]; exact ⟨[], rfl, by simp⟩
  have a1 : ¬ (QO c x n ≠ 0) := by omega
  simp only [if_neg a1]
  by_cases h2 : Zi b = 0
  case neg => simp only [if_pos h2]; exact ⟨[], rfl, by simp⟩
  have a2 : ¬ (Zi b ≠ 0) := by omega
  simp only [if_neg a2]
  obtain ⟨_, c', n', rfl, rfl, q1, q2, q3, q4, q5⟩ := X2 h1
  simp only [Int.toNat_natCast]
  generalize leN (b.take (b.length - 4)) = V
  generalize 8 * (b.take (b.length - 4)).length = N
  cases hw : XU V N c' (n' * c') [] 0 with
  | inl w => exact ⟨[], rfl, by simp⟩
  | inr w =>
    obtain ⟨o, a⟩ := w
    obtain ⟨hv, ha, hol⟩ := Qq4 q1 q2 q3 q4 hw
    simp only [QuT, QwX]
    by_cases h3 : QeM V N a = 0
    · rw [if_neg (by omega), if_neg (by omega)]
      unfold Qhf
      by_cases h4 : QE x (unB c' x t (iL o)) = 0
      · rw [if_neg (by omega), h4]
        exact ⟨_, rfl, by rw [QdS]; simp only [iL, List.length_map]; omega⟩
      · rw [if_pos h4]
        exact ⟨[], rfl, by simp⟩
    · rw [if_pos h3, if_pos h3]; exact ⟨[], rfl, by simp⟩
def QxO (c x : Int) (t : List Int) (n : Int) (b : List UInt8) : Int :=
  if QfW c x t n b = 0 then n * c else if Zi b = 0 then (QlW c.toNat x t (iL (Qoj (QmI b c.toNat n.toNat))) : Nat) else 0
def Qwl (c x : Int) (t : List Int) (n : Int) (b : List UInt8) : AV :=
  if QO c x n ≠ 0 then .tup [.agg [.int .i64 0, .int .i64 0], .int .i64 2] else .tup [.agg [.int .i64 (QfW c x t n b), .int .i64 (QxO c x t n b)], .int .i64 0]
theorem Qwg {b : List UInt8} {c n : Nat} (hn : n * c ≤ 4000) : N32 (Qoj (QmI b c n)) ∧ (Qoj (QmI b c n)).length ≤ 4000 := by
  have hs := QbK (V := leN (b.take (b.length - 4))) (N := 8 * (b.take (b.length - 4)).length) (c := c) (n * c) [] 0 (Nat.zero_le _) (fun x hx => by simp at hx)
  unfold QmI
  cases hw : XU (leN (b.take (b.length - 4))) (8 * (b.take (b.length - 4)).length) c (n * c) [] 0 with
  | inl w =>
    obtain ⟨e, o⟩ := w
    obtain ⟨_, h2, h3⟩ := hs.1 e o hw
    rw [List.length_nil, Nat.zero_add] at h3
    exact ⟨h2, by simp only [Qoj]; omega⟩
  | inr w =>
    obtain ⟨o, a⟩ := w
    obtain ⟨h2, _, h3⟩ := hs.2 o a hw
    rw [List.length_nil, Nat.zero_add] at h3
    exact ⟨h2, by simp only [Qoj]; omega⟩
theorem Qxm {o : List Nat} (h : N32 o) : U32 (iL o) := by
  intro x hx
  simp only [iL, List.mem_map] at hx
  obtain ⟨y, hy, rfl⟩ := hx
  have := h y hy
  omega
theorem QnQ {c x n : Int} {t : List Int} {b : List UInt8} (h : QO c x n = 0) (h2 : QfW c x t n b = 0) : Zi b = 0 := by
  unfold QfW at h2
  rw [if_neg (by omega)] at h2
  split at h2
  · omega
  · omega
def QmX (P : Prg) (f : Nat) : Prop := ∀ (c x n : Int) (t : List Int) (b : List UInt8), t.length = 16 → I32 t → b.length ≤ 1000000 → VC P f [shA c x, .agg (ks .i32 t), .int .i64 n, bs b] (Qwl c x t n b)
theorem QtT (c x : Int) (t : List Int) (n : Int) (b : List UInt8) : isD (Qwl c x t n b) = true := by unfold Qwl; split <;> rfl
set_option maxHeartbeats 1000000 in
theorem QhI {P : Prg} {f fC fD fS fV fG t0 t1 t2 : Nat} (bd : Ql P f 52 [.cell 8 t2, .tmp 9] (Zb fC fD fS fV fG t0 t1 t2)) (hC : Qcc P fC) (hD : Qcu P fD) (hS : QmU P fS) (hV : QmJ P fV) (hG : QmK P fG) (ha : ZD P t2 = some (some 2)) : QmX P f := by
  intro c x n t b ht hI hb
  refine VC.of_acall (by simp [isDL, Zy, QK, isD, shA]) (QtT _ _ _ _ _) (ACall.of_body bd (by simp) ?_)
  have hC' := hC c x n
  have hD' := hD c x n t b ht hI hb
  have hS' := hS b hb
  have hk : (ks .i32 t).length = 16 := by simp [Qk, ht]
  have tt : (ks .i32 t).take 16 = ks .i32 t := Qs (by omega)
  have ot := ZP .i32 t
  rw [shA] at hC' hD'
  unfold Qwl
  by_cases h1 : QO c x n = 0
  case neg =>
    have h2 : QO c x n = 2 := by unfold QO at h1 ⊢; split <;> (try rfl); rename_i q; rw [if_neg q] at h1; split <;> (try rfl); rename_i q; rw [if_neg q] at h1; split <;> (try rfl); rename_i q; rw [if_neg q] at h1; omega
    rw [h2] at hC' ⊢
    simp only [bs]
    simp (maxSteps := 4000000) (disch := omega) only [rr, aop, cV, cV1, AV.one, Qb, okW, Qd, app, Qa, Qc, Qe, Qf, Qg, simprocAttr, Zb, shA, hk, tt, ot]
    refine Qh.vc hC' ?_
    simp (maxSteps := 4000000) (disch := omega) only [rr, aop, cV, cV1, AV.one, Qb, okW, Qd, app, Qa, Qc, Qe, Qf, Qg, simprocAttr, ZG, ha, Q8]
  rw [if_neg (by omega)]
  obtain ⟨hE, c', n', rfl, rfl, q1, q2, q3, q4, q5⟩ := X2 h1
  rw [h1] at hC'
  obtain ⟨m, hm, _⟩ := QrR (c' : Int) x (n' : Int) t b
  rw [hm] at hD'
  have h0 := QnQ (c := (c' : Int)) (n := (n' : Int)) (x := x) (t := t) (b := b) h1
  unfold QxO
  simp only [bs, il, Int.toNat_natCast] at hD' hS' ⊢
  have eT : (n' : Int) * c' = ((n' * c' : Nat) : Int) := by simp
  obtain ⟨T, hT⟩ : ∃ T, T = n' * c' := ⟨_, rfl⟩
  rw [← hT] at eT
  by_cases h2 : QfW c' x t n' b = 0
  · rw [if_pos h2, h2]
    rw [h2] at hD'
    rw [eT]
    simp (maxSteps := 4000000) (disch := omega) only [rr, aop, cV, cV1, AV.one, Qb, okW, Qd, app, Qa, Qc, Qe, Qf, Qg, simprocAttr, Zb, shA, hk, tt, ot]
    refine Qh.vc hC' ?_
    simp (maxSteps := 4000000) (disch := omega) only [rr, aop, cV, cV1, AV.one, Qb, okW, Qd, app, Qa, Qc, Qe, Qf, Qg, simprocAttr, hk, tt, ot]
    refine Qh.vc hD' ?_
    simp (maxSteps := 4000000) (disch := omega) only [rr, aop, cV, cV1, AV.one, Qb, okW, Qd, app, Qa, Qc, Qe, Qf, Qg, simprocAttr, eT, ZG, ha, Q8]
  rw [if_neg h2]
  by_cases h3 : Zi b = 0
  · rw [if_pos h3]
    have hbl : 5 ≤ b.length ∧ b.length ≤ 41254 := by
      unfold Zi at h3
      split at h3
      · omega
      split at h3
      · omega
      · omega
    rw [h3] at hS'
    have hV' := hV b c' n' hbl.1 hbl.2 q1 q2 q4
    obtain ⟨a1, a2⟩ := Qwg (b := b) (c := c') (n := n') q4
    have hG' := hG c' x t (iL (Qoj (QmI b c' n'))) q1 q2 q5 ht hI (by simp only [iL, List.length_map]; exact a2) (Qxm a1)
    have hgl := Qt2 (c := c') (x := x) (t := t) (v := iL (Qoj (QmI b c' n')))
    rw [Qtw] at hV'
    simp only [iL] at hG' hgl ⊢
    simp only [List.length_map] at hgl
    generalize Qoj (QmI b c' n') = o at *
    generalize QlW c' x t (o.map fun n : Nat => (n : Int)) = g at *
    generalize QfW c' x t n' b = e at *
    simp only [bs, QcH, shA, List.length_map] at hV' hG'
    simp (maxSteps := 4000000) (disch := omega) only [rr, aop, cV, cV1, AV.one, Qb, okW, Qd, app, Qa, Qc, Qe, Qf, Qg, simprocAttr, Zb, shA, hk, tt, ot]
    refine Qh.vc hC' ?_
    simp (maxSteps := 4000000) (disch := omega) only [rr, aop, cV, cV1, AV.one, Qb, okW, Qd, app, Qa, Qc, Qe, Qf, Qg, simprocAttr, hk, tt, ot]
    refine Qh.vc hD' ?_
    simp (maxSteps := 4000000) (disch := omega) only [rr, aop, cV, cV1, AV.one, Qb, okW, Qd, app, Qa, Qc, Qe, Qf, Qg, simprocAttr]
    refine Qh.vc hS' ?_
    simp (maxSteps := 4000000) (disch := omega) only [rr, aop, cV, cV1, AV.one, Qb, okW, Qd, app, Qa, Qc, Qe, Qf, Qg, simprocAttr, hk, tt, ot]
    refine QQ.vc hV' ?_
    simp (maxSteps := 4000000) (disch := omega) only [rr, aop, cV, cV1, AV.one, Qb, okW, Qd, app, Qa, Qc, Qe, Qf, Qg, simprocAttr, hk, tt, ot]
    refine QQ.vc hG' ?_
    simp (maxSteps := 4000000) (disch := omega) only [rr, aop, cV, cV1, AV.one, Qb, okW, Qd, app, Qa, Qc, Qe, Qf, Qg, simprocAttr, ZG, ha, Q8]
  · rw [if_neg h3]
    have hS'' : VC P fS [.list b.length (u8 b)] (.bool false) := by
      rw [decide_eq_false h3] at hS'; exact hS'
    generalize QfW c' x t n' b = e at *
    simp (maxSteps := 4000000) (disch := omega) only [rr, aop, cV, cV1, AV.one, Qb, okW, Qd, app, Qa, Qc, Qe, Qf, Qg, simprocAttr, Zb, shA, hk, tt, ot]
    refine Qh.vc hC' ?_
    simp (maxSteps := 4000000) (disch := omega) only [rr, aop, cV, cV1, AV.one, Qb, okW, Qd, app, Qa, Qc, Qe, Qf, Qg, simprocAttr, hk, tt, ot]
    refine Qh.vc hD' ?_
    simp (maxSteps := 4000000) (disch := omega) only [rr, aop, cV, cV1, AV.one, Qb, okW, Qd, app, Qa, Qc, Qe, Qf, Qg, simprocAttr]
    refine Qh.vc hS'' ?_
    simp (maxSteps := 4000000) (disch := omega) only [rr, aop, cV, cV1, AV.one, Qb, okW, Qd, app, Qa, Qc, Qe, Qf, Qg, simprocAttr, ZG, ha, Q8]

end Go.Am

namespace Go.Am
open Go.RowKit

theorem Qsq {c x n : Int} (h1 : QO c x n ≠ 0) : QO c x n = 2 := by
  unfold QO at h1 ⊢
  split
  · rfl
  rename_i q
  rw [if_neg q] at h1
  split
  · rfl
  rename_i q
  rw [if_neg q] at h1
  split
  · rfl
  rename_i q
  rw [if_neg q] at h1
  omega

/-! ### Silence, Heal -/

def QuD (c n : Int) : List Int := List.replicate (n.toNat * c.toNat) 0
def Qwz (c x n : Int) : AV := if QO c x n ≠ 0 then erA 2 else .tup [il (QuD c n), .int .i64 0]
theorem QtR (c x n : Int) : isD (Qwz c x n) = true := by unfold Qwz; split <;> simp [isD, isDL, QS, erA]
def Qgj (P : Prg) (f : Nat) : Prop := ∀ c x n : Int, VC P f [shA c x, .int .i64 n] (Qwz c x n)
theorem QuC (N : Nat) : Qt [.int .i32 0] N = ks .i32 (List.replicate N 0) := QqJ _ N

theorem Qfn {P : Prg} {f fC t0 t1 : Nat} (bd : Ql P f 18 [.tmp 4, .tmp 5] (ZJ fC t0 t1)) (hC : Qcc P fC) : Qgj P f := by
  intro c x n
  refine VC.of_walk 1 (by simp [isDL, isD, shA]) (QtR _ _ _) (ACall.of_body bd (by simp) ?_)
  have hC' := hC c x n
  rw [shA] at hC'
  unfold Qwz
  by_cases h1 : QO c x n = 0
  case neg =>
    rw [if_pos h1, erA]
    rw [Qsq h1] at hC'
    simp (maxSteps := 4000000) (disch := omega) only [rr, aop, cV, cV1, AV.one, Qb, okW, Qd, app, Qa, Qc, Qe, Qf, Qg, simprocAttr, ZJ, shA]
    refine Qh.vc hC' ?_
    simp (maxSteps := 4000000) (disch := omega) only [rr, aop, cV, cV1, AV.one, Qb, okW, Qd, app, Qa, Qc, Qe, Qf, Qg, simprocAttr]
    simp [Q7, QG, frzL, QF]
  rw [if_neg (by omega)]
  obtain ⟨hE, c', n', rfl, rfl, q1, q2, q3, q4, q5⟩ := X2 h1
  rw [h1] at hC'
  unfold QuD
  simp only [Int.toNat_natCast]
  have eT : (n' : Int) * c' = ((n' * c' : Nat) : Int) := by simp
  have hp : 0 < n' * c' := Nat.mul_pos q3 q1
  obtain ⟨T, hT⟩ : ∃ T, T = n' * c' := ⟨_, rfl⟩
  rw [← hT] at eT hp q4 ⊢
  have er := QuC T
  have tl : isTL (ks .i32 (List.replicate T 0)) = true := Qq _ _
  simp (maxSteps := 4000000) (disch := omega) only [rr, aop, cV, cV1, AV.one, Qb, okW, Qd, app, Qa, Qc, Qe, Qf, Qg, simprocAttr, ZJ, shA]
  refine Qh.vc hC' ?_
  simp (maxSteps := 4000000) (disch := omega) only [rr, aop, cV, cV1, AV.one, Qb, okW, Qd, app, Qa, Qc, Qe, Qf, Qg, simprocAttr, eT, er]
  simp [Q7, QG, frzL, QF, il, er, frzL_T _ tl]

def QrT (c x : Int) (t : List Int) (n : Int) (b : List UInt8) : List Int := if QfW c x t n b = 0 then unB c.toNat x t (iL (Qoj (QmI b c.toNat n.toNat))) else []
theorem QnT (c x n : Int) (t : List Int) (b : List UInt8) : QnU c x t n b = .tup [il (QrT c x t n b), .int .i64 (QfW c x t n b)] ∧ (QrT c x t n b).length ≤ 4000 := by
  unfold QnU QrT QfW QmI
  by_cases h1 : QO c x n = 0
  case neg => simp only [if_pos h1]; exact ⟨rfl, by simp⟩
  have a1 : ¬ (QO c x n ≠ 0) := by omega
  simp only [if_neg a1]
  by_cases h2 : Zi b = 0
  case neg =>
    have h2' : ((Zi b : Nat) : Int) ≠ 0 := by omega
    simp only [if_pos h2, if_neg h2']
    exact ⟨rfl, by simp⟩
  have a2 : ¬ (Zi b ≠ 0) := by omega
  simp only [if_neg a2]
  obtain ⟨_, c', n', rfl, rfl, q1, q2, q3, q4, q5⟩ := X2 h1
  simp only [Int.toNat_natCast]
  have hs := QbK (V := leN (b.take (b.length - 4))) (N := 8 * (b.take (b.length - 4)).length) (c := c') (n' * c') [] 0 (Nat.zero_le _) (fun x hx => by simp at hx)
  generalize leN (b.take (b.length - 4)) = V at *
  generalize 8 * (b.take (b.length - 4)).length = N at *
  cases hw : XU V N c' (n' * c') [] 0 with
  | inl w =>
    obtain ⟨e, o⟩ := w
    have he := (hs.1 e o hw).1
    have he0 : ¬ ((e : Int) = 0) := by omega
    have he2 : ¬ (QwX V N c' x t (.inl (e, o)) = 0) := he0
    rw [if_neg he2]
    exact ⟨rfl, by simp⟩
  | inr w =>
    obtain ⟨o, a⟩ := w
    obtain ⟨hv, ha, hol⟩ := Qq4 q1 q2 q3 q4 hw
    simp only [QuT, QwX, Qoj]
    by_cases h3 : QeM V N a = 0
    · have a3 : ¬ (QeM V N a ≠ 0) := by omega
      simp only [if_neg a3]
      unfold Qhf
      by_cases h4 : QE x (unB c' x t (iL o)) = 0
      · have a4 : ¬ (QE x (unB c' x t (iL o)) ≠ 0) := by omega
        simp only [if_neg a4, if_pos h4]
        rw [h4]
        exact ⟨rfl, by rw [QdS]; simp only [iL, List.length_map]; omega⟩
      · simp only [if_pos h4, if_neg h4]
        exact ⟨rfl, by simp⟩
    · have a5 : ¬ ((12 : Int) = 0) := by omega
      simp only [if_pos h3, if_neg a5]
      exact ⟨rfl, by simp⟩
def QuN (c x : Int) (t : List Int) (n : Int) (b : List UInt8) : AV :=
  if QO c x n ≠ 0 then .tup [.list 0 [], .bool false, .int .i64 2] else if QfW c x t n b = 0 then .tup [il (QrT c x t n b), .bool true, .int .i64 0] else .tup [il (QuD c n), .bool false, .int .i64 0]
theorem QtV (c x : Int) (t : List Int) (n : Int) (b : List UInt8) : isD (QuN c x t n b) = true := by unfold QuN; split <;> (try split) <;> simp [isD, isDL, QS]
def QsE (P : Prg) (f : Nat) : Prop := ∀ (c x n : Int) (t : List Int) (b : List UInt8), t.length = 16 → I32 t → b.length ≤ 1000000 → VC P f [shA c x, .agg (ks .i32 t), .int .i64 n, bs b] (QuN c x t n b)
theorem Qjn {P : Prg} {f fC fD fS t0 t1 : Nat} (bd : Ql P f 41 [.tmp 8, .tmp 9, .tmp 10] (ZR fC fD fS t0 t1)) (hC : Qcc P fC) (hD : Qcu P fD) (hS : Qgj P fS) : QsE P f := by
  intro c x n t b ht hI hb
  refine VC.of_walk 1 (by simp [isDL, Zy, QK, isD, shA]) (QtV _ _ _ _ _) (ACall.of_body bd (by simp) ?_)
  have hC' := hC c x n
  have hD' := hD c x n t b ht hI hb
  have hS' := hS c x n
  have hk : (ks .i32 t).length = 16 := by simp [Qk, ht]
  have tt : (ks .i32 t).take 16 = ks .i32 t := Qs (by omega)
  have ot := ZP .i32 t
  rw [shA] at hC' hD' hS'
  rw [(QnT c x n t b).1] at hD'
  unfold QuN
  unfold Qwz at hS'
  simp only [bs] at hD' ⊢
  by_cases h1 : QO c x n = 0
  case neg =>
    rw [if_pos h1]
    rw [Qsq h1] at hC'
    simp (maxSteps := 4000000) (disch := omega) only [rr, aop, cV, cV1, AV.one, Qb, okW, Qd, app, Qa, Qc, Qe, Qf, Qg, simprocAttr, ZR, shA, hk, tt, ot]
    refine Qh.vc hC' ?_
    simp (maxSteps := 4000000) (disch := omega) only [rr, aop, cV, cV1, AV.one, Qb, okW, Qd, app, Qa, Qc, Qe, Qf, Qg, simprocAttr]
    simp [Q7, QG, frzL, QF]
  rw [if_neg (by omega)] at hS' ⊢
  rw [h1] at hC'
  by_cases h2 : QfW c x t n b = 0
  · rw [if_pos h2]
    rw [h2] at hD'
    have tl : isTL (ks .i32 (QrT c x t n b)) = true := Qq _ _
    generalize QrT c x t n b = m at *
    simp only [il] at hD' ⊢
    simp (maxSteps := 4000000) (disch := omega) only [rr, aop, cV, cV1, AV.one, Qb, okW, Qd, app, Qa, Qc, Qe, Qf, Qg, simprocAttr, ZR, shA, hk, tt, ot]
    refine Qh.vc hC' ?_
    simp (maxSteps := 4000000) (disch := omega) only [rr, aop, cV, cV1, AV.one, Qb, okW, Qd, app, Qa, Qc, Qe, Qf, Qg, simprocAttr, hk, tt, ot]
    refine Qh.vc hD' ?_
    simp (maxSteps := 4000000) (disch := omega) only [rr, aop, cV, cV1, AV.one, Qb, okW, Qd, app, Qa, Qc, Qe, Qf, Qg, simprocAttr]
    simp [Q7, QG, frzL, QF, frzL_T _ tl]
  · rw [if_neg h2]
    have tl : isTL (ks .i32 (QuD c n)) = true := Qq _ _
    generalize QrT c x t n b = m at *
    generalize QfW c x t n b = e at *
    generalize QuD c n = sl at *
    simp only [il] at hD' hS' ⊢
    simp (maxSteps := 4000000) (disch := omega) only [rr, aop, cV, cV1, AV.one, Qb, okW, Qd, app, Qa, Qc, Qe, Qf, Qg, simprocAttr, ZR, shA, hk, tt, ot]
    refine Qh.vc hC' ?_
    simp (maxSteps := 4000000) (disch := omega) only [rr, aop, cV, cV1, AV.one, Qb, okW, Qd, app, Qa, Qc, Qe, Qf, Qg, simprocAttr, hk, tt, ot]
    refine Qh.vc hD' ?_
    simp (maxSteps := 4000000) (disch := omega) only [rr, aop, cV, cV1, AV.one, Qb, okW, Qd, app, Qa, Qc, Qe, Qf, Qg, simprocAttr]
    refine Qh.vc hS' ?_
    simp (maxSteps := 4000000) (disch := omega) only [rr, aop, cV, cV1, AV.one, Qb, okW, Qd, app, Qa, Qc, Qe, Qf, Qg, simprocAttr]
    simp [Q7, QG, frzL, QF, frzL_T _ tl]
end Go.Am

namespace Go.Am
open Go.RowKit

/-! ### Codes (plain) -/

def Qcx (v k : Nat) : Nat := if 48 ≤ v / 2 ^ k then 80 else v / 2 ^ k + 1 + k
def QgH (v k : Nat) : Nat := if 48 ≤ v / 2 ^ k then 2 ^ 48 - 1 + 2 ^ 48 * v else 2 ^ (v / 2 ^ k) - 1 + 2 ^ (v / 2 ^ k + 1) * (v % 2 ^ k)
def J2 (d : Dl) (v : Nat) : Nat := if v < 2 ^ d.k0 then 1 + d.k0 else 1 + Qcx (v - 2 ^ d.k0) d.k1
def QgX (d : Dl) (v : Nat) : Nat := if v < 2 ^ d.k0 then 2 * v else 1 + 2 * QgH (v - 2 ^ d.k0) d.k1

theorem JZ {V N W n : Nat} (hV : V < 2 ^ N) (hW : W < 2 ^ n) : V + 2 ^ N * W < 2 ^ (N + n) := by
  have h1 : 2 ^ N * (W + 1) ≤ 2 ^ N * 2 ^ n := Nat.mul_le_mul_left _ hW
  rw [Nat.pow_add]
  rw [Nat.mul_add, Nat.mul_one] at h1
  omega
theorem Qtk {v k : Nat} (hv : v < 4294967296) : QgH v k < 2 ^ Qcx v k := by
  unfold QgH Qcx
  split
  · exact JZ (N := 48) (n := 32) (by decide) hv
  · have h1 : v % 2 ^ k < 2 ^ k := Nat.mod_lt _ (Nat.pow_pos (by omega))
    refine JZ ?_ h1
    have : 0 < 2 ^ (v / 2 ^ k) := Nat.pow_pos (by omega)
    rw [Nat.pow_succ]
    omega
theorem Qnk {v k : Nat} (hk : k ≤ 24) : Qcx v k ≤ 80 := by unfold Qcx; split <;> omega
theorem Qfe {d : Dl} {v : Nat} (hd : okD d) : J2 d v ≤ 81 := by
  have := Qnk (v := v - 2 ^ d.k0) hd.2.1
  have := hd.1
  unfold J2
  split <;> omega
theorem Qkt (d : Dl) (v : Nat) : 1 ≤ J2 d v := by unfold J2; split <;> omega
theorem QnY {d : Dl} {v : Nat} (hv : v < 4294967296) : QgX d v < 2 ^ J2 d v := by
  unfold QgX J2
  split
  · rename_i h
    rw [Nat.pow_add, Nat.pow_one]
    omega
  · have h := Qtk (v := v - 2 ^ d.k0) (k := d.k1) (Nat.lt_of_le_of_lt (Nat.sub_le _ _) hv)
    exact JZ (N := 1) (V := 1) (by decide) h

def QwT (c : Nat) (v : List Nat) : Nat → Nat × Nat
  | 0 => (0, 0)
  | i + 1 => ((QwT c v i).1 + J2 (Qx c (i % c) (v.take i)) (v.getD i 0), (QwT c v i).2 + 2 ^ (QwT c v i).1 * QgX (Qx c (i % c) (v.take i)) (v.getD i 0))
def Qcp (c : Nat) (v : List Nat) (i : Nat) : Nat := (QwT c v i).1
def QnN (c : Nat) (v : List Nat) (i : Nat) : Nat := (QwT c v i).2
theorem Qdz (c : Nat) (v : List Nat) : Qcp c v 0 = 0 := rfl
theorem Qkb (c : Nat) (v : List Nat) : QnN c v 0 = 0 := rfl
theorem Jn (c : Nat) (v : List Nat) (i : Nat) : Qcp c v (i + 1) = Qcp c v i + J2 (Qx c (i % c) (v.take i)) (v.getD i 0) := rfl
theorem Qdy (c : Nat) (v : List Nat) (i : Nat) : QnN c v (i + 1) = QnN c v i + 2 ^ Qcp c v i * QgX (Qx c (i % c) (v.take i)) (v.getD i 0) := rfl
theorem N32.take {v : List Nat} (h : N32 v) (i : Nat) : N32 (v.take i) := fun x hx => h x (List.mem_of_mem_take hx)
theorem N32.getD {v : List Nat} (h : N32 v) (i : Nat) : v.getD i 0 < 4294967296 := by
  rw [List.getD_eq_getElem?_getD]
  cases hx : v[i]? with
  | none => simp
  | some x => exact h x (List.mem_of_getElem? hx)
theorem Z2 {c : Nat} {v : List Nat} (h : N32 v) : ∀ i, QnN c v i < 2 ^ Qcp c v i ∧ Qcp c v i ≤ 81 * i ∧ i ≤ Qcp c v i
  | 0 => by rw [Qdz, Qkb]; decide
  | i + 1 => by
    obtain ⟨h1, h2, h3⟩ := Z2 h i
    have hd := QcV (c := c) (r := i % c) (h.take i)
    have h4 := Qfe (v := v.getD i 0) hd
    have h5 := Qkt (Qx c (i % c) (v.take i)) (v.getD i 0)
    rw [Jn, Qdy]
    exact ⟨JZ h1 (QnY (h.getD i)), by omega, by omega⟩

def Qd6 (c : Nat) (v : List Nat) : List UInt8 := leB (QnN c v v.length) (nB (Qcp c v v.length))
def QeL (p : List UInt8) : List UInt8 := p ++ leB (Qc8 p) 4
theorem QbT (p : List UInt8) : (QeL p).length = p.length + 4 := by simp [QeL, Qu]
theorem QdA (c : Nat) (v : List Nat) : (Qd6 c v).length = nB (Qcp c v v.length) := by simp [Qd6, Qu]

end Go.Am

namespace Go.Am
open Go.RowKit

/-! ### Codes are written -/

theorem Qxw (ob J : List Ob) (k : Nat) : (ob ++ J)[ob.length + k]? = J[k]? := by rw [List.getElem?_append_right (by omega), Nat.add_sub_cancel_left]
theorem Qrr (ob J : List Ob) : (ob ++ J)[ob.length]? = J[0]? := Qxw ob J 0
theorem Qxq (ob J : List Ob) (k : Nat) (y : Ob) : (ob ++ J).set (ob.length + k) y = ob ++ J.set k y := by rw [List.set_append_right _ _ (by omega), Nat.add_sub_cancel_left]
theorem Qvs (ob J : List Ob) (y : Ob) : (ob ++ J).set ob.length y = ob ++ J.set 0 y := Qxq ob J 0 y

def Qfk (t : Nat) (P : Prg) (f : Nat) : Prop := ∀ l : List UInt8, l.length ≤ 1000000 → VO P f [bs l] (.own 0 l.length) ⟨t, 1, l.length, u8 l, 0⟩
theorem Qv1 {P : Prg} {f t0 : Nat} (b : Ql P f 8 [.tmp 2] (QH t0)) : Qfk t0 P f := by
  intro l hl
  refine VO.of_walk (by simp [isDL, Zy]) (QfP l) (by simp [okr]) (ACall.virtR t0 1 (by decide) (ACall.of_body b (by simp) ?_))
  by_cases h0 : l = []
  · subst h0
    simp (maxSteps := 4000000) (disch := omega) only [rr, aop, cV, cV1, AV.one, Qb, okW, Qd, app, Qa, Qc, Qe, Qf, Qg, simprocAttr, QH, bs, Qk2, Quy]
    exact ⟨.inr ⟨true, rfl, 0, rfl, rfl⟩, .inl ⟨0, rfl, rfl⟩⟩
  · have h1 : l.length ≠ 0 := by simpa using h0
    simp (maxSteps := 4000000) (disch := omega) only [rr, aop, cV, cV1, AV.one, Qb, okW, Qd, app, Qa, Qc, Qe, Qf, Qg, simprocAttr, QH, bs, Qk2, h1]
    exact .inl ⟨0, rfl, rfl⟩

theorem Qsf {P : Prg} {f fC t0 tb : Nat} (bd : Ql P f 9 [.cell 2 t0] (Qan fC t0)) (hC : Qfk tb P fC) (ht : ZD P t0 = some (some 2)) {N V : Nat} (hN : N ≤ 400000) {ob : List Ob} (hl : Low ob.length ob) {K : AV → List Ob → Prop}
    (hK : K (.agg [.own ob.length (nB N), .int .i64 N]) (ob ++ [bY tb N V])) : ACall P f [bA N V] ob K := by
  refine ACall.low (ACall.pad (ACall.of_body bd (by simp) ?_))
  have hC' := hC (leB V (nB N)) (by rw [Qu]; unfold nB; omega)
  rw [bs, Qu] at hC'
  have hlow : Low (ob.length + 1) (ob ++ [bY tb N V]) := (hl.mono (by omega)).append (Low.cons (lowL_D _ (JF _ _)) Low.nil)
  simp (maxSteps := 4000000) (disch := omega) only [rr, aop, cV, cV1, AV.one, Qb, okW, Qd, app, Qa, Qc, Qe, Qf, Qg, simprocAttr, Qan, bA, List.append_assoc, List.cons_append, List.nil_append, Qxw, Qrr, Qxq, Qvs]
  refine QQ.vo hC' ob.length (by rw [Qrr]; rfl) Nat.one_ne_zero ?_
  simp (maxSteps := 4000000) (disch := omega) only [rr, aop, cV, cV1, AV.one, Qb, okW, Qd, app, Qa, Qc, Qe, Qf, Qg, simprocAttr, shr, List.append_assoc, List.cons_append, List.nil_append, Qxw, Qrr, Qxq, Qvs, ZG, ht, Q8]
  exact ⟨ob ++ [bY tb N V], [_, _], by simp [bY]; exact ⟨rfl, rfl⟩, by simp, by simpa using hlow, by simp [Ja, lowL], hK⟩

def QkW (P : Prg) (f : Nat) : Prop := ∀ N V v n : Nat, V < 2 ^ N → v < 2 ^ n → n ≤ 64 → N + n ≤ 330000 → VC P f [bA N V, .int .u64 v, .int .i64 n] (.tup [bA (N + n) (V + 2 ^ N * v), .int .i64 0])
theorem Qum {P : Prg} {f fC fT fK fP t0 t1 tb : Nat} (bd : Ql P f 44 [.cell 6 t0, .tmp 7] (Qbs fC fT fP t0)) (hC : XL P fC) (bT : Ql P fT 9 [.cell 2 t1] (Qan fK t1)) (bP : Ql P fP 75 [] (J9 tb)) (hK : Qfk tb P fK) (ht : ZD P t0 = some (some 2)) (ht1 : ZD P t1 = some (some 2)) : QkW P f := by
  intro N V v n hV hv hn hN
  refine VC.of_walk 2 (by simp [isDL, XR, isD]) (by simp [isD, isDL, XR]) (ACall.of_body bd (by simp) ?_)
  have hC' := hC N V hV (by omega)
  rw [bA] at hC'
  have e1 : n < 64 → Qm false .u64 (v : Int) (n : Int) = some (.int .u64 0) := fun h => by
    rw [Qgt (K := .u64) (by show n ≤ 64; omega), Nat.div_eq_of_lt hv]; rfl
  have tu : isTL (u8 (leB V (nB N))) = true := Zx _
  have tl : ∀ W M, isTL (u8 (leB W M)) = true := fun W M => Zx _
  have tw : ∀ (Q : Exit → St → Prop) os fr dst, wpQ P os Q ⟨Zr fr dst (.agg [.own 2 (nB N), .int .i64 N]), [⟨t0, 2, 1, [.list (nB N) (u8 (leB V (nB N))), .int .i64 N], 0⟩, ⟨t0, 2, 1, [.emp true, .int .i64 0], 0⟩, bY tb N V]⟩ →
      Qh P fT [.agg [.list (nB N) (u8 (leB V (nB N))), .int .i64 N]] [⟨t0, 2, 1, [.list (nB N) (u8 (leB V (nB N))), .int .i64 N], 0⟩, ⟨t0, 2, 1, [.emp true, .int .i64 0], 0⟩] os Q fr dst := fun Q os fr dst h =>
    Qsf bT hK ht1 (N := N) (V := V) (by omega) (Low.cons (by simp [lowL, Ja, lowL_D _ (JF _ _)]) (Low.cons (by simp [lowL, Ja]) Low.nil)) h
  have pt : ∀ (Q : Exit → St → Prop) os fr dst, wpQ P os Q ⟨Zr fr dst (.tup []), [⟨t0, 2, 1, [.own 2 (nB (N + n)), .int .i64 ((N + n : Nat) : Int)], 0⟩, ⟨t0, 2, 1, [.emp true, .int .i64 0], 0⟩, bY tb (N + n) (V + 2 ^ N * v)]⟩ →
      Qh P fP [.ref 0 1 0, .int .u64 v, .int .i64 n] [⟨t0, 2, 1, [.own 2 (nB N), .int .i64 N], 0⟩, ⟨t0, 2, 1, [.emp true, .int .i64 0], 0⟩, bY tb N V] os Q fr dst := fun Q os fr dst h =>
    Qn5 bP (ob := [⟨t0, 2, 1, [.own 2 (nB N), .int .i64 N], 0⟩, ⟨t0, 2, 1, [.emp true, .int .i64 0], 0⟩, bY tb N V]) (p := 0) (o := 2) (t := t0) rfl rfl (by decide) hV hv hn (by omega)
      (Low.cons (by simp [lowL, Ja]) (Low.cons (by simp [lowL, Ja]) (Low.cons (lowL_D _ (JF _ _)) Low.nil))) h
  have tu' := tl (V + 2 ^ N * v) (nB (N + n))
  generalize V + 2 ^ N * v = W at *
  by_cases h64 : n < 64
  · have e1' := e1 h64
    simp (maxSteps := 4000000) (disch := omega) only [rr, aop, cV, cV1, AV.one, Qb, okW, Qd, app, Qa, Qc, Qe, Qf, Qg, simprocAttr, Qbs, bA]
    refine Qh.vc hC' ?_
    simp (maxSteps := 4000000) (disch := omega) only [rr, aop, cV, cV1, AV.one, Qb, okW, Qd, app, Qa, Qc, Qe, Qf, Qg, simprocAttr, e1']
    refine tw _ _ _ _ ?_
    simp (maxSteps := 4000000) (disch := omega) only [rr, aop, cV, cV1, AV.one, Qb, okW, Qd, app, Qa, Qc, Qe, Qf, Qg, simprocAttr]
    refine pt _ _ _ _ ?_
    simp (maxSteps := 4000000) (disch := omega) only [rr, aop, cV, cV1, AV.one, Qb, okW, Qd, app, Qa, Qc, Qe, Qf, Qg, simprocAttr, ZG, ht, Q8]
    simp [Q7, QG, frzL, QF, bY, frzL_T _ tu']
  · simp (maxSteps := 4000000) (disch := omega) only [rr, aop, cV, cV1, AV.one, Qb, okW, Qd, app, Qa, Qc, Qe, Qf, Qg, simprocAttr, Qbs, bA]
    refine Qh.vc hC' ?_
    simp (maxSteps := 4000000) (disch := omega) only [rr, aop, cV, cV1, AV.one, Qb, okW, Qd, app, Qa, Qc, Qe, Qf, Qg, simprocAttr]
    refine tw _ _ _ _ ?_
    simp (maxSteps := 4000000) (disch := omega) only [rr, aop, cV, cV1, AV.one, Qb, okW, Qd, app, Qa, Qc, Qe, Qf, Qg, simprocAttr]
    refine pt _ _ _ _ ?_
    simp (maxSteps := 4000000) (disch := omega) only [rr, aop, cV, cV1, AV.one, Qb, okW, Qd, app, Qa, Qc, Qe, Qf, Qg, simprocAttr, ZG, ht, Q8]
    simp [Q7, QG, frzL, QF, bY, frzL_T _ tu']

end Go.Am

namespace Go.Am
open Go.RowKit

/-! ### Codes are written: unary, rice, dual -/

def uN (n : Nat) : Nat := min (n + 1) 48
def Qsw (P : Prg) (f : Nat) : Prop := ∀ n : Nat, n ≤ 48 → VC P f [.int .i64 n] (.tup [.int .i64 (uN n), .int .i64 0])
theorem QjH {P : Prg} {f : Nat} (bd : Ql P f 13 [.tmp 2, .tmp 3] J7) : Qsw P f := by
  intro n hn
  refine VC.of_acall rfl rfl (ACall.of_body bd (by simp) ?_)
  have e1 : (if (48 : Int) < (n : Int) + 1 then (48 : Int) else (n : Int) + 1) = (uN n : Nat) := by unfold uN; split <;> omega
  simp (maxSteps := 4000000) (disch := omega) only [rr, aop, cV, cV1, AV.one, Qb, okW, Qd, app, Qa, Qc, Qe, Qf, Qg, simprocAttr, J7, e1]

theorem QqS {n : Nat} (h : n ≤ 48) : 2 ^ n ≤ 281474976710656 := Nat.pow_le_pow_right (by omega) h
def QiU (P : Prg) (f : Nat) : Prop := ∀ N V n : Nat, V < 2 ^ N → n ≤ 48 → N + uN n ≤ 330000 → VC P f [bA N V, .int .i64 n] (.tup [bA (N + uN n) (V + 2 ^ N * (2 ^ n - 1)), .int .i64 0])
theorem Qlm {P : Prg} {f fC fL fP t0 : Nat} (bd : Ql P f 32 [.cell 4 t0, .tmp 5] (Qaw fC fL fP t0)) (hC : XL P fC) (hL : Qsw P fL) (hP : QkW P fP) (ht : ZD P t0 = some (some 2)) : QiU P f := by
  intro N V n hV hn hN
  refine VC.of_walk 1 (by simp [isDL, XR, isD]) (by simp [isD, isDL, XR]) (ACall.of_body bd (by simp) ?_)
  have hC' := hC N V hV (by omega)
  have hL' := hL n hn
  have hp := QqS hn
  have hpos : 0 < 2 ^ n := Nat.pow_pos (by omega)
  have hlt : 2 ^ n - 1 < 2 ^ uN n := by
    unfold uN
    rcases Nat.lt_or_ge n 48 with h | h
    · rw [Nat.min_eq_left (by omega), Nat.pow_succ]; omega
    · obtain rfl : n = 48 := by omega
      decide
  have hP' := hP N V (2 ^ n - 1) (uN n) hV hlt (by unfold uN; omega) hN
  have e3 : Qm true .u64 1 (n : Int) = some (.int .u64 ((2 ^ n : Nat) : Int)) := by
    have := QoB (K := .u64) rfl (c := 1) (s := n) (by show n ≤ 64; omega) (by show 1 * 2 ^ n < 18446744073709551616; omega)
    rw [Nat.one_mul] at this
    exact this
  have e4 : IntKind.u64.wrap (((2 ^ n : Nat) : Int) - 1) = ((2 ^ n - 1 : Nat) : Int) := by rw [Zn]; omega
  generalize V + 2 ^ N * (2 ^ n - 1) = W at *
  generalize 2 ^ n - 1 = x at *
  generalize 2 ^ n = p at *
  generalize uN n = u at *
  have tl : isTL (u8 (leB W (nB (N + u)))) = true := Zx _
  simp only [bA] at hC' hP' ⊢
  simp (maxSteps := 4000000) (disch := omega) only [rr, aop, cV, cV1, AV.one, Qb, okW, Qd, app, Qa, Qc, Qe, Qf, Qg, simprocAttr, Qaw]
  refine Qh.vc hC' ?_
  simp (maxSteps := 4000000) (disch := omega) only [rr, aop, cV, cV1, AV.one, Qb, okW, Qd, app, Qa, Qc, Qe, Qf, Qg, simprocAttr]
  refine Qh.vc hL' ?_
  simp (maxSteps := 4000000) (disch := omega) only [rr, aop, cV, cV1, AV.one, Qb, okW, Qd, app, Qa, Qc, Qe, Qf, Qg, simprocAttr, e3, e4]
  refine QQ.vc hP' ?_
  simp (maxSteps := 4000000) (disch := omega) only [rr, aop, cV, cV1, AV.one, Qb, okW, Qd, app, Qa, Qc, Qe, Qf, Qg, simprocAttr, ZG, ht, Q8]
  simp [Q7, QG, frzL, QF, frzL_T _ tl]

def QiX (P : Prg) (f : Nat) : Prop := ∀ N V v k : Nat, V < 2 ^ N → v < 4294967296 → k ≤ 24 → N + 80 ≤ 330000 → VC P f [bA N V, .int .u32 v, .int .i64 k] (.tup [bA (N + Qcx v k) (V + 2 ^ N * QgH v k), .int .i64 0])
theorem QoH {P : Prg} {f fC fE fU fP t0 : Nat} (bd : Ql P f 57 [.cell 6 t0, .tmp 7] (JK fC fE fU fP t0)) (hC : XL P fC) (hE : Qsz P fE) (hU : QiU P fU) (hP : QkW P fP) (ht : ZD P t0 = some (some 2)) : QiX P f := by
  intro N V v k hV hv hk hN
  refine VC.of_walk 1 (by simp [isDL, XR, isD]) (by simp [isD, isDL, XR]) (ACall.of_body bd (by simp) ?_)
  have hC' := hC N V hV (by omega)
  have hE' := hE v k hk hv
  obtain ⟨q1, _⟩ := p24 hk
  have hpk : 0 < 2 ^ k := Nat.pow_pos (by omega)
  have e1 : Qm false .u32 (v : Int) (k : Int) = some (.int .u32 ((v / 2 ^ k : Nat) : Int)) := Qgt (K := .u32) (by show k ≤ 32; omega)
  have e2 : Qm true .u32 1 (k : Int) = some (.int .u32 ((2 ^ k : Nat) : Int)) := by
    have := QoB (K := .u32) rfl (c := 1) (s := k) (by show k ≤ 32; omega) (by show 1 * 2 ^ k < 4294967296; omega)
    rw [Nat.one_mul] at this
    exact this
  have e3 : IntKind.u32.wrap (((2 ^ k : Nat) : Int) - 1) = ((2 ^ k - 1 : Nat) : Int) := by rw [Jh]; omega
  have e4 : IntKind.u32.wrap (BitVec.ofInt IntKind.u32.bits (v : Int) &&& BitVec.ofInt IntKind.u32.bits ((2 ^ k - 1 : Nat) : Int)).toNat = ((v % 2 ^ k : Nat) : Int) := by
    rw [Qxz (K := .u32) rfl hv (by show 2 ^ k - 1 < 4294967296; omega), Nat.and_two_pow_sub_one_eq_mod]
  have hqv : v / 2 ^ k ≤ v := Nat.div_le_self _ _
  have hrv : v % 2 ^ k < 2 ^ k := Nat.mod_lt _ hpk
  unfold Qcx QgH
  by_cases hq : 48 ≤ v / 2 ^ k
  · rw [if_pos hq, if_pos hq]
    simp only [hq, decide_true] at hE'
    have hU' := hU N V 48 hV (Nat.le_refl _) (by unfold uN; omega)
    have hu : uN 48 = 48 := rfl
    rw [hu] at hU'
    have hV1 : V + 2 ^ N * (2 ^ 48 - 1) < 2 ^ (N + 48) := JZ hV (by decide)
    have hP' := hP (N + 48) (V + 2 ^ N * (2 ^ 48 - 1)) v 32 hV1 hv (by omega) (by omega)
    have hW : V + 2 ^ N * (2 ^ 48 - 1) + 2 ^ (N + 48) * v = V + 2 ^ N * (2 ^ 48 - 1 + 2 ^ 48 * v) := by rw [Nat.pow_add, Nat.mul_add, Nat.mul_assoc, Nat.add_assoc]
    rw [hW] at hP'
    generalize V + 2 ^ N * (2 ^ 48 - 1 + 2 ^ 48 * v) = W at *
    generalize V + 2 ^ N * (2 ^ 48 - 1) = W1 at *
    have hNN : N + 48 + 32 = N + 80 := by omega
    rw [hNN] at hP'
    have tl : isTL (u8 (leB W (nB (N + 80)))) = true := Zx _
    simp only [bA] at hC' hP' hU' ⊢
    have hU'' : VC P fU [.agg [.list (nB N) (u8 (leB V (nB N))), .int .i64 N], .int .i64 48] (.tup [.agg [.list (nB (N + 48)) (u8 (leB W1 (nB (N + 48)))), .int .i64 ((N + 48 : Nat) : Int)], .int .i64 0]) := hU'
    have hP'' : VC P fP [.agg [.list (nB (N + 48)) (u8 (leB W1 (nB (N + 48)))), .int .i64 ((N + 48 : Nat) : Int)], .int .u64 v, .int .i64 32] (.tup [.agg [.list (nB (N + 80)) (u8 (leB W (nB (N + 80)))), .int .i64 ((N + 80 : Nat) : Int)], .int .i64 0]) := hP'
    generalize v / 2 ^ k = q at *
    generalize v % 2 ^ k = r at *
    generalize 2 ^ k - 1 = mk at *
    generalize 2 ^ k = pk at *
    simp (maxSteps := 4000000) (disch := omega) only [rr, aop, cV, cV1, AV.one, Qb, okW, Qd, app, Qa, Qc, Qe, Qf, Qg, simprocAttr, JK]
    refine Qh.vc hC' ?_
    simp (maxSteps := 4000000) (disch := omega) only [rr, aop, cV, cV1, AV.one, Qb, okW, Qd, app, Qa, Qc, Qe, Qf, Qg, simprocAttr, e1, e2, e3, e4]
    refine Qh.vc hE' ?_
    simp (maxSteps := 4000000) (disch := omega) only [rr, aop, cV, cV1, AV.one, Qb, okW, Qd, app, Qa, Qc, Qe, Qf, Qg, simprocAttr]
    refine Qh.vc hU'' ?_
    simp (maxSteps := 4000000) (disch := omega) only [rr, aop, cV, cV1, AV.one, Qb, okW, Qd, app, Qa, Qc, Qe, Qf, Qg, simprocAttr]
    refine Qh.vc hP'' ?_
    simp (maxSteps := 4000000) (disch := omega) only [rr, aop, cV, cV1, AV.one, Qb, okW, Qd, app, Qa, Qc, Qe, Qf, Qg, simprocAttr, ZG, ht, Q8]
    simp [Q7, QG, frzL, QF, frzL_T _ tl]
  · rw [if_neg hq, if_neg hq]
    simp only [hq, decide_false] at hE'
    have hu : uN (v / 2 ^ k) = v / 2 ^ k + 1 := by unfold uN; omega
    have hU' := hU N V (v / 2 ^ k) hV (by omega) (by rw [hu]; omega)
    rw [hu] at hU'
    have hlt : 2 ^ (v / 2 ^ k) - 1 < 2 ^ (v / 2 ^ k + 1) := by
      have : 0 < 2 ^ (v / 2 ^ k) := Nat.pow_pos (by omega)
      rw [Nat.pow_succ]; omega
    have hV1 : V + 2 ^ N * (2 ^ (v / 2 ^ k) - 1) < 2 ^ (N + (v / 2 ^ k + 1)) := JZ hV hlt
    have hP' := hP (N + (v / 2 ^ k + 1)) (V + 2 ^ N * (2 ^ (v / 2 ^ k) - 1)) (v % 2 ^ k) k hV1 hrv (by omega) (by omega)
    have hW : V + 2 ^ N * (2 ^ (v / 2 ^ k) - 1) + 2 ^ (N + (v / 2 ^ k + 1)) * (v % 2 ^ k) = V + 2 ^ N * (2 ^ (v / 2 ^ k) - 1 + 2 ^ (v / 2 ^ k + 1) * (v % 2 ^ k)) := by rw [Nat.pow_add 2 N, Nat.mul_add, Nat.mul_assoc, Nat.add_assoc]
    rw [hW] at hP'
    generalize V + 2 ^ N * (2 ^ (v / 2 ^ k) - 1 + 2 ^ (v / 2 ^ k + 1) * (v % 2 ^ k)) = W at *
    generalize V + 2 ^ N * (2 ^ (v / 2 ^ k) - 1) = W1 at *
    have hNN : N + (v / 2 ^ k + 1) + k = N + (v / 2 ^ k + 1 + k) := by omega
    rw [hNN] at hP'
    have tl : isTL (u8 (leB W (nB (N + (v / 2 ^ k + 1 + k))))) = true := Zx _
    simp only [bA] at hC' hP' hU' ⊢
    generalize v / 2 ^ k = q at *
    generalize v % 2 ^ k = r at *
    generalize 2 ^ k - 1 = mk at *
    generalize 2 ^ k = pk at *
    generalize hM : N + (q + 1 + k) = M at *
    generalize hM1 : N + (q + 1) = M1 at *
    simp (maxSteps := 4000000) (disch := omega) only [rr, aop, cV, cV1, AV.one, Qb, okW, Qd, app, Qa, Qc, Qe, Qf, Qg, simprocAttr, JK]
    refine Qh.vc hC' ?_
    simp (maxSteps := 4000000) (disch := omega) only [rr, aop, cV, cV1, AV.one, Qb, okW, Qd, app, Qa, Qc, Qe, Qf, Qg, simprocAttr, e1, e2, e3, e4]
    refine Qh.vc hE' ?_
    simp (maxSteps := 4000000) (disch := omega) only [rr, aop, cV, cV1, AV.one, Qb, okW, Qd, app, Qa, Qc, Qe, Qf, Qg, simprocAttr]
    refine Qh.vc hU' ?_
    simp (maxSteps := 4000000) (disch := omega) only [rr, aop, cV, cV1, AV.one, Qb, okW, Qd, app, Qa, Qc, Qe, Qf, Qg, simprocAttr]
    refine Qh.vc hP' ?_
    simp (maxSteps := 4000000) (disch := omega) only [rr, aop, cV, cV1, AV.one, Qb, okW, Qd, app, Qa, Qc, Qe, Qf, Qg, simprocAttr, ZG, ht, Q8]
    simp [Q7, QG, frzL, QF, frzL_T _ tl]

def Qsx (P : Prg) (f : Nat) : Prop := ∀ v k : Nat, v < 4294967296 → k ≤ 24 → VC P f [.int .u32 v, .int .i64 k] (.tup [.int .i64 (Qcx v k), .int .i64 0])
theorem QlA {P : Prg} {f fE : Nat} (bd : Ql P f 24 [.tmp 4, .tmp 5] (Jc fE)) (hE : Qsz P fE) : Qsx P f := by
  intro v k hv hk
  refine VC.of_acall rfl rfl (ACall.of_body bd (by simp) ?_)
  have hE' := hE v k hk hv
  have e1 : Qm false .u32 (v : Int) (k : Int) = some (.int .u32 ((v / 2 ^ k : Nat) : Int)) := Qgt (K := .u32) (by show k ≤ 32; omega)
  have hqv : v / 2 ^ k ≤ v := Nat.div_le_self _ _
  unfold Qcx
  generalize v / 2 ^ k = q at *
  by_cases hq : 48 ≤ q
  · rw [if_pos hq]
    simp only [hq, decide_true] at hE'
    simp (maxSteps := 4000000) (disch := omega) only [rr, aop, cV, cV1, AV.one, Qb, okW, Qd, app, Qa, Qc, Qe, Qf, Qg, simprocAttr, Jc]
    refine Qh.vc hE' ?_
    simp (maxSteps := 4000000) (disch := omega) only [rr, aop, cV, cV1, AV.one, Qb, okW, Qd, app, Qa, Qc, Qe, Qf, Qg, simprocAttr]
  · rw [if_neg hq]
    simp only [hq, decide_false] at hE'
    simp (maxSteps := 4000000) (disch := omega) only [rr, aop, cV, cV1, AV.one, Qb, okW, Qd, app, Qa, Qc, Qe, Qf, Qg, simprocAttr, Jc]
    refine Qh.vc hE' ?_
    simp (maxSteps := 4000000) (disch := omega) only [rr, aop, cV, cV1, AV.one, Qb, okW, Qd, app, Qa, Qc, Qe, Qf, Qg, simprocAttr, e1]

def QiZ (P : Prg) (f : Nat) : Prop := ∀ (N V v : Nat) (d : Dl), V < 2 ^ N → v < 4294967296 → okD d → N + 81 ≤ 330000 → VC P f [bA N V, dlA d, .int .u32 v] (.tup [bA (N + J2 d v) (V + 2 ^ N * QgX d v), dlA (Q6 d v), .int .i64 0])
theorem Qo9 {P : Prg} {f fC fD fV fP fR fL fl1 fll t0 t1 : Nat} (bd : Ql P f 69 [.cell 6 t0, .cell 7 t1, .tmp 8] (JM fC fD fV fP fR fL t0 t1)) (hC : XL P fC) (hD : Qcv P fD) (hLv : Qcb P fV) (hP : QkW P fP) (hR : QiX P fR)
    (bL : Ql P fL 36 [] (Zu fl1 fll)) (b1 : Ql P fl1 58 [] Qn) (hL : Qcb P fll) (ht0 : ZD P t0 = some (some 2)) (ht : ZD P t1 = some (some 4)) : QiZ P f := by
  intro N V v d hV hv hd hN
  refine VC.of_walk 1 (by simp [isDL, XR, Qd3, isD]) (by simp [isD, isDL, XR, Qd3]) (ACall.of_cut 7 bd (by simp) ?_)
  have hd' := hd
  have hC' := hC N V hV (by omega)
  have hD' := hD d hd
  have hLv' := hLv d v hd hv
  have hL1 : ∀ {ob : List Ob} {p : Nat} {v : Nat} {K : AV → List Ob → Prop}, ob[p]? = some ⟨t1, 4, 1, dlC d, 0⟩ → v < 4294967296 → K (.tup []) (ob.set p ⟨t1, 4, 1, dlC (Q6 d v), 0⟩) → ACall P fL [.ref p 1 0, .int .u32 v] ob K :=
    fun hp hv hK => Qd8 bL b1 hL hp hd hv hK
  obtain ⟨k0, k1, s0, s1⟩ := d
  obtain ⟨h1, h2, h3, h4⟩ := hd'
  simp only at h1 h2 h3 h4
  obtain ⟨pk, _⟩ := p24 h1
  simp only [bA] at hC'
  simp only [dlA, dlC] at hD' hLv'
  unfold J2 QgX
  by_cases c : v < 2 ^ k0
  · simp only [c, if_true] at hLv' ⊢
    have hP1 := hP N V 0 1 hV (by decide) (by omega) (by omega)
    rw [Nat.mul_zero, Nat.add_zero] at hP1
    have hV1 : V < 2 ^ (N + 1) := Nat.lt_of_lt_of_le hV (Nat.pow_le_pow_right (by omega) (by omega))
    have hP2 := hP (N + 1) V v k0 hV1 c (by omega) (by omega)
    have hW : V + 2 ^ (N + 1) * v = V + 2 ^ N * (2 * v) := by rw [Nat.pow_succ, Nat.mul_assoc]
    rw [hW, Nat.add_assoc] at hP2
    generalize V + 2 ^ N * (2 * v) = W at *
    have tl : isTL (u8 (leB W (nB (N + (1 + k0))))) = true := Zx _
    simp only [bA] at hP1 hP2 ⊢
    have hP1' : VC P fP [.agg [.list (nB N) (u8 (leB V (nB N))), .int .i64 N], .int .u64 0, .int .i64 1] (.tup [.agg [.list (nB (N + 1)) (u8 (leB V (nB (N + 1)))), .int .i64 ((N + 1 : Nat) : Int)], .int .i64 0]) := hP1
    simp (maxSteps := 4000000) (disch := omega) only [rr, aop, cV, cV1, AV.one, Qb, okW, Qd, app, Qa, Qc, Qe, Qf, Qg, simprocAttr, XS, JM, dlA, dlC]
    refine Qh.vc hC' ?_
    simp (maxSteps := 4000000) (disch := omega) only [rr, aop, cV, cV1, AV.one, Qb, okW, Qd, app, Qa, Qc, Qe, Qf, Qg, simprocAttr, XS]
    refine Qh.vc hD' ?_
    simp (maxSteps := 4000000) (disch := omega) only [rr, aop, cV, cV1, AV.one, Qb, okW, Qd, app, Qa, Qc, Qe, Qf, Qg, simprocAttr, XS]
    refine Qh.vc hLv' ?_
    simp (maxSteps := 4000000) (disch := omega) only [rr, aop, cV, cV1, AV.one, Qb, okW, Qd, app, Qa, Qc, Qe, Qf, Qg, simprocAttr, XS]
    refine Qh.vc hP1' ?_
    simp (maxSteps := 4000000) (disch := omega) only [rr, aop, cV, cV1, AV.one, Qb, okW, Qd, app, Qa, Qc, Qe, Qf, Qg, simprocAttr, XS]
    refine Qh.vc hP2 ?_
    simp (maxSteps := 4000000) (disch := omega) only [rr, aop, cV, cV1, AV.one, Qb, okW, Qd, app, Qa, Qc, Qe, Qf, Qg, simprocAttr, XS]
    refine hL1 (v := v) rfl hv ?_
    generalize Q6 ⟨k0, k1, s0, s1⟩ v = d'
    obtain ⟨l0, l1, l2, l3⟩ := d'
    simp (maxSteps := 4000000) (disch := omega) only [rr, aop, cV, cV1, AV.one, Qb, okW, Qd, app, Qa, Qc, Qe, Qf, Qg, simprocAttr, XS]
    refine ⟨⟨[(8, .int .i64 0), (7, .ref 3 1 0), (6, .ref 2 1 0), (4, .cell [.int .i64 l0, .int .i64 l1, .int .u64 l2, .int .u64 l3]), (3, .ref 0 1 0)], _⟩, Le.still [1] 1 (by simp [Am.look, QG, frzL, QF, dlC, isDL, isD]), ?_⟩
    simp (maxSteps := 4000000) (disch := omega) only [rr, aop, cV, cV1, AV.one, Qb, okW, Qd, app, Qa, Qc, Qe, Qf, Qg, simprocAttr, ZG, ht, ht0, Q8, dlC, Qy]
    simp [Q7, QG, frzL, QF, frzL_T _ tl]
  · simp only [c, if_false] at hLv' ⊢
    have hP1 := hP N V 1 1 hV (by decide) (by omega) (by omega)
    rw [Nat.mul_one] at hP1
    have hV1 : V + 2 ^ N < 2 ^ (N + 1) := by rw [Nat.pow_succ]; omega
    have hl : v - 2 ^ k0 < 4294967296 := Nat.lt_of_le_of_lt (Nat.sub_le _ _) hv
    have hR2 := hR (N + 1) (V + 2 ^ N) (v - 2 ^ k0) k1 hV1 hl h2 (by omega)
    have hW : V + 2 ^ N + 2 ^ (N + 1) * QgH (v - 2 ^ k0) k1 = V + 2 ^ N * (1 + 2 * QgH (v - 2 ^ k0) k1) := by rw [Nat.pow_succ, Nat.mul_assoc, Nat.mul_add, Nat.mul_one, Nat.add_assoc]
    rw [hW, Nat.add_assoc] at hR2
    generalize V + 2 ^ N * (1 + 2 * QgH (v - 2 ^ k0) k1) = W at *
    generalize Qcx (v - 2 ^ k0) k1 = rn at *
    generalize v - 2 ^ k0 = lf at *
    generalize V + 2 ^ N = W1 at *
    have tl : isTL (u8 (leB W (nB (N + (1 + rn))))) = true := Zx _
    simp only [bA] at hP1 hR2 ⊢
    have hP1' : VC P fP [.agg [.list (nB N) (u8 (leB V (nB N))), .int .i64 N], .int .u64 1, .int .i64 1] (.tup [.agg [.list (nB (N + 1)) (u8 (leB W1 (nB (N + 1)))), .int .i64 ((N + 1 : Nat) : Int)], .int .i64 0]) := hP1
    simp (maxSteps := 4000000) (disch := omega) only [rr, aop, cV, cV1, AV.one, Qb, okW, Qd, app, Qa, Qc, Qe, Qf, Qg, simprocAttr, XS, JM, dlA, dlC]
    refine Qh.vc hC' ?_
    simp (maxSteps := 4000000) (disch := omega) only [rr, aop, cV, cV1, AV.one, Qb, okW, Qd, app, Qa, Qc, Qe, Qf, Qg, simprocAttr, XS]
    refine Qh.vc hD' ?_
    simp (maxSteps := 4000000) (disch := omega) only [rr, aop, cV, cV1, AV.one, Qb, okW, Qd, app, Qa, Qc, Qe, Qf, Qg, simprocAttr, XS]
    refine Qh.vc hLv' ?_
    simp (maxSteps := 4000000) (disch := omega) only [rr, aop, cV, cV1, AV.one, Qb, okW, Qd, app, Qa, Qc, Qe, Qf, Qg, simprocAttr, XS]
    refine Qh.vc hP1' ?_
    simp (maxSteps := 4000000) (disch := omega) only [rr, aop, cV, cV1, AV.one, Qb, okW, Qd, app, Qa, Qc, Qe, Qf, Qg, simprocAttr, XS]
    refine Qh.vc hR2 ?_
    simp (maxSteps := 4000000) (disch := omega) only [rr, aop, cV, cV1, AV.one, Qb, okW, Qd, app, Qa, Qc, Qe, Qf, Qg, simprocAttr, XS]
    refine hL1 (v := v) rfl hv ?_
    generalize Q6 ⟨k0, k1, s0, s1⟩ v = d'
    obtain ⟨l0, l1, l2, l3⟩ := d'
    simp (maxSteps := 4000000) (disch := omega) only [rr, aop, cV, cV1, AV.one, Qb, okW, Qd, app, Qa, Qc, Qe, Qf, Qg, simprocAttr, XS]
    refine ⟨⟨[(8, .int .i64 0), (7, .ref 3 1 0), (6, .ref 2 1 0), (4, .cell [.int .i64 l0, .int .i64 l1, .int .u64 l2, .int .u64 l3]), (3, .ref 0 1 0)], _⟩, Le.still [1] 1 (by simp [Am.look, QG, frzL, QF, dlC, isDL, isD]), ?_⟩
    simp (maxSteps := 4000000) (disch := omega) only [rr, aop, cV, cV1, AV.one, Qb, okW, Qd, app, Qa, Qc, Qe, Qf, Qg, simprocAttr, ZG, ht, ht0, Q8, dlC, Qy]
    simp [Q7, QG, frzL, QF, frzL_T _ tl]

def QsA (P : Prg) (f : Nat) : Prop := ∀ (v : Nat) (d : Dl), v < 4294967296 → okD d → VC P f [dlA d, .int .u32 v] (.tup [.int .i64 (J2 d v), .int .i64 0])
theorem Qmc {P : Prg} {f fD fV fR t0 : Nat} (bd : Ql P f 37 [.tmp 4, .tmp 5] (Jf fD fV fR t0)) (hD : Qcv P fD) (hLv : Qcb P fV) (hR : Qsx P fR) : QsA P f := by
  intro v d hv hd
  refine VC.of_acall (by simp [isDL, Qd3, isD]) rfl (ACall.of_body bd (by simp) ?_)
  have hD' := hD d hd
  have hLv' := hLv d v hd hv
  obtain ⟨k0, k1, s0, s1⟩ := d
  obtain ⟨h1, h2, h3, h4⟩ := hd
  simp only at h1 h2 h3 h4
  simp only [dlA, dlC] at hD' hLv' ⊢
  unfold J2
  by_cases c : v < 2 ^ k0
  · simp only [c, if_true] at hLv' ⊢
    simp (maxSteps := 4000000) (disch := omega) only [rr, aop, cV, cV1, AV.one, Qb, okW, Qd, app, Qa, Qc, Qe, Qf, Qg, simprocAttr, Jf]
    refine Qh.vc hD' ?_
    simp (maxSteps := 4000000) (disch := omega) only [rr, aop, cV, cV1, AV.one, Qb, okW, Qd, app, Qa, Qc, Qe, Qf, Qg, simprocAttr]
    refine Qh.vc hLv' ?_
    simp (maxSteps := 4000000) (disch := omega) only [rr, aop, cV, cV1, AV.one, Qb, okW, Qd, app, Qa, Qc, Qe, Qf, Qg, simprocAttr]
  · simp only [c, if_false] at hLv' ⊢
    have hR' := hR (v - 2 ^ k0) k1 (Nat.lt_of_le_of_lt (Nat.sub_le _ _) hv) h2
    have hrl := Qnk (v := v - 2 ^ k0) h2
    generalize Qcx (v - 2 ^ k0) k1 = rn at *
    generalize v - 2 ^ k0 = lf at *
    simp (maxSteps := 4000000) (disch := omega) only [rr, aop, cV, cV1, AV.one, Qb, okW, Qd, app, Qa, Qc, Qe, Qf, Qg, simprocAttr, Jf]
    refine Qh.vc hD' ?_
    simp (maxSteps := 4000000) (disch := omega) only [rr, aop, cV, cV1, AV.one, Qb, okW, Qd, app, Qa, Qc, Qe, Qf, Qg, simprocAttr]
    refine Qh.vc hLv' ?_
    simp (maxSteps := 4000000) (disch := omega) only [rr, aop, cV, cV1, AV.one, Qb, okW, Qd, app, Qa, Qc, Qe, Qf, Qg, simprocAttr]
    refine Qh.vc hR' ?_
    simp (maxSteps := 4000000) (disch := omega) only [rr, aop, cV, cV1, AV.one, Qb, okW, Qd, app, Qa, Qc, Qe, Qf, Qg, simprocAttr]

def Qi1 (P : Prg) (f : Nat) : Prop := ∀ (v : Nat) (d : Dl), v < 4294967296 → okD d → VC P f [dlA d, .int .u32 v] (.tup [dlA (Q6 d v), .int .i64 0])
theorem Qpb {P : Prg} {f fD fL fl1 fll t1 : Nat} (bd : Ql P f 16 [.cell 4 t1, .tmp 5] (Qbo fD fL t1)) (hD : Qcv P fD) (bL : Ql P fL 36 [] (Zu fl1 fll)) (b1 : Ql P fl1 58 [] Qn) (hL : Qcb P fll) (ht : ZD P t1 = some (some 4)) : Qi1 P f := by
  intro v d hv hd
  refine VC.of_acall (by simp [isDL, Qd3, isD]) (by simp [isD, isDL, Qd3]) (ACall.of_body bd (by simp) ?_)
  have hD' := hD d hd
  have hL1 : ∀ {ob : List Ob} {p : Nat} {v : Nat} {K : AV → List Ob → Prop}, ob[p]? = some ⟨t1, 4, 1, dlC d, 0⟩ → v < 4294967296 → K (.tup []) (ob.set p ⟨t1, 4, 1, dlC (Q6 d v), 0⟩) → ACall P fL [.ref p 1 0, .int .u32 v] ob K :=
    fun hp hv hK => Qd8 bL b1 hL hp hd hv hK
  obtain ⟨k0, k1, s0, s1⟩ := d
  simp only [dlA, dlC] at hD'
  simp (maxSteps := 4000000) (disch := omega) only [rr, aop, cV, cV1, AV.one, Qb, okW, Qd, app, Qa, Qc, Qe, Qf, Qg, simprocAttr, Qbo, dlA, dlC]
  refine Qh.vc hD' ?_
  simp (maxSteps := 4000000) (disch := omega) only [rr, aop, cV, cV1, AV.one, Qb, okW, Qd, app, Qa, Qc, Qe, Qf, Qg, simprocAttr]
  refine hL1 (v := v) rfl hv ?_
  generalize Q6 ⟨k0, k1, s0, s1⟩ v = d'
  obtain ⟨l0, l1, l2, l3⟩ := d'
  simp (maxSteps := 4000000) (disch := omega) only [rr, aop, cV, cV1, AV.one, Qb, okW, Qd, app, Qa, Qc, Qe, Qf, Qg, simprocAttr, ZG, ht, Q8, dlC]

end Go.Am

namespace Go.Am
open Go.RowKit

/-! ### Bits are put behind bits, one by one: enframe -/

theorem Low.putB {ob : List Ob} (h : Low ob.length ob) {t t0 t2 o p N V N' n C : Nat} (ho : o < ob.length) : Low (ob.length + 1) (XP ob o p (bY t0 N V) (bO t o N') ++ [⟨t2, 2, 1, [.list (nB n) (u8 (leB C (nB n))), .int .i64 n], 0⟩]) :=
  ((h.put ho).mono (by omega)).append (Low.cons (by simp [lowL, Ja, lowL_D _ (JF _ _)]) Low.nil)

set_option maxHeartbeats 1000000 in
theorem Ql3 {P : Prg} {f t0 t1 : Nat} (bd : Ql P f 64 [] (Je t0 t1)) {ob : List Ob} {t p o N V C n : Nat} (hp : ob[p]? = some (bO t o N)) (ho : ob[o]? = some (bY t1 N V)) (hpo : p ≠ o) (hV : V < 2 ^ N) (hC : C < 2 ^ n) (hn : n ≤ 1000) (hN : N + n ≤ 400000) (hfz : Low ob.length ob)
    {K : AV → List Ob → Prop} (hK : K (.tup []) (XP ob o p (bY t1 (N + n) (V + 2 ^ N * C)) (bO t o (N + n)))) : ACall P f [.ref p 1 0, bA n C] ob K := by
  have hol : o < ob.length := (List.getElem?_eq_some_iff.1 ho).1
  have hpl : p < ob.length := (List.getElem?_eq_some_iff.1 hp).1
  refine ACall.low (ACall.of_body bd (by simp) ?_)
  have g0 : ∀ x y J, (XP ob o p x y ++ J)[p]? = some y := fun x y J => by rw [List.getElem?_append_left (by rw [Ze]; exact hpl)]; exact Qlj hpl
  have g1 : ∀ x y J, (XP ob o p x y ++ J)[o]? = some x := fun x y J => by rw [List.getElem?_append_left (by rw [Ze]; exact hol)]; exact Qlk hol hpo
  have g2 : ∀ x y J y', (XP ob o p x y ++ J).set p y' = XP ob o p x y' ++ J := fun x y J y' => by rw [List.set_append_left _ _ (by rw [Ze]; exact hpl), Qp2]
  have g3 : ∀ x y J x', (XP ob o p x y ++ J).set o x' = XP ob o p x' y ++ J := fun x y J x' => by rw [List.set_append_left _ _ (by rw [Ze]; exact hol), Qp3 hpo]
  have g4 : ∀ x y (J : List Ob), (XP ob o p x y ++ J)[ob.length]? = J[0]? := fun x y J => by rw [List.getElem?_append_right (by rw [Ze]; exact Nat.le_refl _), Ze, Nat.sub_self]
  have g5 : ∀ x y (J : List Ob), (XP ob o p x y ++ J)[ob.length + 1]? = J[1]? := fun x y J => by rw [List.getElem?_append_right (by rw [Ze]; omega), Ze, Nat.add_sub_cancel_left]
  have ln : ∀ x y, (XP ob o p x y).length = ob.length := fun x y => Ze
  have hs : ob = XP ob o p (bY t1 N V) (bO t o N) := (QjG ho hp hpo).symm
  simp (maxSteps := 4000000) (disch := omega) only [rr, aop, cV, cV1, AV.one, Qb, okW, Qd, app, Qa, Qc, Qe, Qf, Qg, simprocAttr, Je, bA, Qrr]
  refine QN.by (ι := Nat) (fun j => ⟨[(8, .int .i64 j), (7, .int .i64 n), (3, .ref ob.length 1 0), (0, .ref p 1 0)], XP ob o p (bY t1 (N + j) (V + 2 ^ N * (C % 2 ^ j))) (bO t o (N + j)) ++ [⟨t0, 2, 1, [.list (nB n) (u8 (leB C (nB n))), .int .i64 n], 0⟩]⟩) (fun j => j ≤ n) (fun j => n - j) 0 ?_ (by omega) ?_
  · rw [Nat.add_zero, Nat.pow_zero, Nat.mod_one, Nat.mul_zero, Nat.add_zero, ← hs]
    exact Le.slots (by simp [Am.look])
  intro j hj
  by_cases hlt : j < n
  · obtain ⟨M, hM⟩ : ∃ M, M = N + j := ⟨_, rfl⟩
    obtain ⟨i, hi⟩ : ∃ i, i = M / 8 := ⟨_, rfl⟩
    obtain ⟨a, ha⟩ : ∃ a, a = M % 8 := ⟨_, rfl⟩
    obtain ⟨q, hq⟩ : ∃ q, q = j / 8 := ⟨_, rfl⟩
    obtain ⟨r, hr⟩ : ∃ r, r = j % 8 := ⟨_, rfl⟩
    obtain ⟨b, hb0⟩ : ∃ b, b = C / 2 ^ j % 2 := ⟨_, rfl⟩
    have hM8 : M = 8 * i + a := by omega
    have hj8 : 8 * q + r = j := by omega
    have hb : b < 2 := by rw [hb0]; exact Nat.mod_lt _ (by decide)
    have hW : V + 2 ^ N * (C % 2 ^ j) < 2 ^ M := by
      rw [hM]
      exact JZ hV (Nat.mod_lt _ (Nat.pow_pos (by omega)))
    have hstep := Qx2 (V := V) (N := N) (v := C) (j := j) (r := 1)
    rw [← hM, Nat.pow_one, ← hb0] at hstep
    have hat := QnC (V := C) (k := nB n) (i := q) (by unfold nB; omega)
    have hbit := Qxd C q r (by omega)
    rw [hj8, ← hb0] at hbit
    have hby : C / 256 ^ q % 256 < 256 := Nat.mod_lt _ (by decide)
    have s1 : Qm false .u8 ((C / 256 ^ q % 256 : Nat) : Int) (r : Int) = some (.int .u8 ((C / 256 ^ q % 256 / 2 ^ r : Nat) : Int)) := Qgt (K := .u8) (by show r ≤ 8; omega)
    have hle : C / 256 ^ q % 256 / 2 ^ r ≤ C / 256 ^ q % 256 := Nat.div_le_self _ _
    have s2 : IntKind.u8.wrap (BitVec.ofInt IntKind.u8.bits ((C / 256 ^ q % 256 / 2 ^ r : Nat) : Int) &&& BitVec.ofInt IntKind.u8.bits ((1 : Nat) : Int)).toNat = ((b : Nat) : Int) := by
      rw [Qxz (K := .u8) rfl (by show _ < 256; omega) (by decide), Nat.and_one_is_mod, hbit]
    have s2' : IntKind.u8.wrap (BitVec.ofInt IntKind.u8.bits ((C / 256 ^ q % 256 / 2 ^ r : Nat) : Int) &&& BitVec.ofInt IntKind.u8.bits 1).toNat = ((b : Nat) : Int) := s2
    generalize C / 256 ^ q % 256 / 2 ^ r = y1 at *
    generalize C / 256 ^ q % 256 = y0 at *
    rw [← hM]
    have hq1 : (j : Int) / 8 = (q : Int) := by omega
    have hr1 : (j : Int) % 8 = (r : Int) := by omega
    have hi1 : (M : Int) / 8 = (i : Int) := by omega
    have ha1 : (M : Int) % 8 = (a : Int) := by omega
    have hnq : q < nB n := by unfold nB; omega
    generalize V + 2 ^ N * (C % 2 ^ j) = W at *
    generalize hWW : V + 2 ^ N * (C % 2 ^ (j + 1)) = W' at *
    have h2a : 2 ^ a ≤ 2 ^ 7 := Nat.pow_le_pow_right (by omega) (by omega)
    have hpos : 0 < 2 ^ a := Nat.pow_pos (by omega)
    obtain ⟨l1, l2⟩ := Qb1 (V := W) (i := i) (at_ := a) (by rw [← hM8]; exact hW) (by omega)
    obtain ⟨b1, b2, _⟩ := QcL (V := W) (i := i) (at_ := a) (w := b) (r := 1) (by rw [← hM8]; exact hW) (by omega) (by omega)
    rw [← hM8, ← hstep] at b1
    have hyb : W / 256 ^ i < 256 := by omega
    have hyb2 : W / 256 ^ i + 2 ^ a * b < 256 := by
      have : 2 ^ (a + 1) ≤ 2 ^ 8 := Nat.pow_le_pow_right (by omega) (by omega)
      omega
    have hca : b * 2 ^ a < 2 ^ 8 := by
      rcases (by omega : b = 0 ∨ b = 1) with rfl | rfl <;> omega
    have hu : ∀ y, y < 256 → u8 [UInt8.ofNat y] = [.int .u8 (y : Int)] := fun y hy => by simp [u8]; omega
    have e8 : IntKind.u8.wrap (BitVec.ofInt IntKind.u8.bits ((W / 256 ^ i : Nat) : Int) ||| BitVec.ofInt IntKind.u8.bits ((b * 2 ^ a : Nat) : Int)).toNat = ((W / 256 ^ i + 2 ^ a * b : Nat) : Int) := by
      rw [orK (K := .u8) rfl hyb hca, Qj0 l2, Nat.mul_comm]
    have e7 : Qm true .u8 (b : Int) (a : Int) = some (.int .u8 ((b * 2 ^ a : Nat) : Int)) := QoB rfl (by show a ≤ 8; omega) hca
    have hnB : nB (M + 1) = i + 1 := by unfold nB; omega
    have hcell : u8 (leB W' (i + 1)) = u8 (leB W i) ++ [.int .u8 ((W / 256 ^ i + 2 ^ a * b : Nat) : Int)] := by
      rw [b1, show u8 (leB W i ++ [UInt8.ofNat (W / 256 ^ i + 2 ^ a * b)]) = u8 (leB W i) ++ u8 [UInt8.ofNat (W / 256 ^ i + 2 ^ a * b)] by simp [u8]]
      rw [hu _ hyb2]
    have hlen : (u8 (leB W i)).length = i := by simp [u8, Qu]
    generalize W / 256 ^ i + 2 ^ a * b = y' at *
    generalize b * 2 ^ a = ca at *
    have d1 : ∀ z : AV, (u8 (leB W i) ++ [z]).drop i = [z] := fun z => by rw [List.drop_left' hlen]
    have d2 : ∀ z : AV, (u8 (leB W i) ++ [z]).take i = u8 (leB W i) := fun z => by rw [List.take_left' hlen]
    have d3 : ∀ z : AV, (u8 (leB W i) ++ [z]).drop (i + 1) = [] := fun z => List.drop_of_length_le (by simp [hlen])
    have el : (⟨t1, 1, i + 1, u8 (leB W i) ++ [.int .u8 (y' : Int)], 0⟩ : Ob) = bY t1 (M + 1) W' := by rw [bY, hnB, hcell]
    have er : (⟨t, 2, 1, [.own o (i + 1), .int .i64 ((M : Int) + 1)], 0⟩ : Ob) = bO t o (M + 1) := by rw [bO, hnB, Int.natCast_add]; rfl
    have hMr : N + (j + 1) = M + 1 := by omega
    have hcl : (u8 (leB C (nB n))).length = nB n := by simp [u8, Qu]
    by_cases h0 : a = 0
    · subst h0
      have hnM : nB M = i := by unfold nB; omega
      have hW0 : W / 256 ^ i = 0 := by
        have := l2
        rw [Nat.pow_zero] at this
        exact Nat.lt_one_iff.1 this
      rw [hW0] at e8
      have e8' : IntKind.u8.wrap (BitVec.ofInt IntKind.u8.bits 0 ||| BitVec.ofInt IntKind.u8.bits (ca : Int)).toNat = (y' : Int) := e8
      have e7' : Qm true .u8 (b : Int) 0 = some (.int .u8 (ca : Int)) := e7
      have ha1' : (M : Int) % 8 = 0 := ha1
      simp (maxSteps := 4000000) (disch := omega) only [rr, aop, cV, cV1, AV.one, Qb, okW, Qd, app, Qa, Qc, Qe, Qf, Qg, simprocAttr, bO, bY, g0, g1, g2, g3, g4, g5, ln, hnM, hlen, hcl, hat, s1, s2', e7', e8', hq1, hr1, hi1, ha1', d1, d2, d3, List.append_assoc, List.cons_append, List.nil_append]
      refine ⟨j + 1, by omega, by omega, ?_⟩
      show Le ob.length _ ⟨[(8, .int .i64 ((j + 1 : Nat) : Int)), (7, .int .i64 n), (3, .ref ob.length 1 0), (0, .ref p 1 0)], XP ob o p (bY t1 (N + (j + 1)) (V + 2 ^ N * (C % 2 ^ (j + 1)))) (bO t o (N + (j + 1))) ++ [⟨t0, 2, 1, [.list (nB n) (u8 (leB C (nB n))), .int .i64 n], 0⟩]⟩
      rw [hWW, hMr, el, er, List.append_cons]
      have hl : (XP ob o p (bY t1 (M + 1) W') (bO t o (M + 1)) ++ [⟨t0, 2, 1, [.list (nB n) (u8 (leB C (nB n))), .int .i64 n], 0⟩] : List Ob).length = ob.length + 1 := by simp [ln]
      exact Le.low (by rw [hl]; omega) (by rw [hl]; exact hfz.putB hol) (by rw [hl]; simp [Am.look, Ja, Nat.lt_succ_of_lt hpl])
    · have hnM : nB M = i + 1 := by unfold nB; omega
      have l3 : u8 (leB W (i + 1)) = u8 (leB W i) ++ [.int .u8 ((W / 256 ^ i : Nat) : Int)] := by
        rw [l1, show u8 (leB W i ++ [UInt8.ofNat (W / 256 ^ i)]) = u8 (leB W i) ++ u8 [UInt8.ofNat (W / 256 ^ i)] by simp [u8], hu _ hyb]
      have ha0 : (a : Int) ≠ 0 := by omega
      generalize W / 256 ^ i = y at *
      simp (maxSteps := 4000000) (disch := omega) only [rr, aop, cV, cV1, AV.one, Qb, okW, Qd, app, Qa, Qc, Qe, Qf, Qg, simprocAttr, bO, bY, g0, g1, g2, g3, g4, g5, ln, hnM, hlen, hcl, l3, hat, s1, s2', e7, e8, hq1, hr1, hi1, ha1, d1, d2, d3, List.append_assoc, List.cons_append, List.nil_append]
      refine ⟨j + 1, by omega, by omega, ?_⟩
      show Le ob.length _ ⟨[(8, .int .i64 ((j + 1 : Nat) : Int)), (7, .int .i64 n), (3, .ref ob.length 1 0), (0, .ref p 1 0)], XP ob o p (bY t1 (N + (j + 1)) (V + 2 ^ N * (C % 2 ^ (j + 1)))) (bO t o (N + (j + 1))) ++ [⟨t0, 2, 1, [.list (nB n) (u8 (leB C (nB n))), .int .i64 n], 0⟩]⟩
      rw [hWW, hMr, el, er]
      exact Le.slots (by simp [Am.look])
  · obtain rfl : j = n := by omega
    rw [Nat.mod_eq_of_lt hC]
    simp (maxSteps := 4000000) (disch := omega) only [rr, aop, cV, cV1, AV.one, Qb, okW, Qd, app, Qa, Qc, Qe, Qf, Qg, simprocAttr]
    exact ⟨XP ob o p (bY t1 (N + j) (V + 2 ^ N * C)) (bO t o (N + j)), _, rfl, by rw [ln]; exact Nat.le_refl _, by rw [ln]; exact hfz.put hol, by rfl, hK⟩

end Go.Am

namespace Go.Am
open Go.RowKit

/-! ### Codes are read back (plain) -/

theorem Jm {X m n A B : Nat} (hA : A < 2 ^ m) : X % 2 ^ (m + n) = A + 2 ^ m * B ↔ X % 2 ^ m = A ∧ X / 2 ^ m % 2 ^ n = B := by
  rw [Nat.pow_add, Nat.mod_mul]
  have h1 : X % 2 ^ m < 2 ^ m := Nat.mod_lt _ (Nat.pow_pos (by omega))
  constructor
  · intro h
    have e1 : X % 2 ^ m = A := by
      have := congrArg (· % 2 ^ m) h
      simpa [Nat.add_mul_mod_self_left, Nat.mod_eq_of_lt h1, Nat.mod_eq_of_lt hA] using this
    rw [e1] at h
    have e2 : 2 ^ m * (X / 2 ^ m % 2 ^ n) = 2 ^ m * B := by omega
    exact ⟨e1, Nat.eq_of_mul_eq_mul_left (Nat.pow_pos (by omega)) e2⟩
  · rintro ⟨e1, e2⟩
    rw [e1, e2]

theorem QqX : ∀ (q m X : Nat), q < m → X % 2 ^ (q + 1) = 2 ^ q - 1 → QbV m X = q
  | 0, m + 1, X, _, h => by
    unfold QbV
    have : X % 2 = 0 := by simpa using h
    simp [this]
  | q + 1, m + 1, X, hm, h => by
    rw [show q + 1 + 1 = 1 + (q + 1) by omega] at h
    have hp : 1 ≤ 2 ^ q := Nat.pow_pos (by omega)
    have e : 2 ^ (q + 1) - 1 = 1 + 2 ^ 1 * (2 ^ q - 1) := by rw [Nat.pow_succ]; omega
    rw [e] at h
    obtain ⟨h1, h2⟩ := (Jm (by decide)).1 h
    unfold QbV
    rw [if_pos (by simpa using h1), QqX q m (X / 2) (by omega) (by simpa using h2)]
theorem Qnt : ∀ (m X : Nat), X % 2 ^ m = 2 ^ m - 1 → QbV m X = m
  | 0, X, _ => rfl
  | m + 1, X, h => by
    rw [show m + 1 = 1 + m by omega] at h
    have hp : 1 ≤ 2 ^ m := Nat.pow_pos (by omega)
    have e : 2 ^ (1 + m) - 1 = 1 + 2 ^ 1 * (2 ^ m - 1) := by rw [Nat.pow_add]; omega
    rw [e] at h
    obtain ⟨h1, h2⟩ := (Jm (by decide)).1 h
    unfold QbV
    rw [if_pos (by simpa using h1), Qnt m (X / 2) (by simpa using h2)]
theorem QqM {V N a q : Nat} (hq : q < 48) (hN : a + q + 1 ≤ N) (h : V / 2 ^ a % 2 ^ (q + 1) = 2 ^ q - 1) : QbC V N a = .inr (q, a + q + 1) := by
  unfold QbC
  rw [if_neg (by omega), QqX q (min 48 (N - a)) _ (by omega) h, if_pos (by omega)]
theorem QqL {V N a : Nat} (hN : a + 48 ≤ N) (h : V / 2 ^ a % 2 ^ 48 = 2 ^ 48 - 1) : QbC V N a = .inr (48, a + 48) := by
  unfold QbC
  rw [if_neg (by omega), show min 48 (N - a) = 48 by omega, Qnt 48 _ h, if_neg (by omega), if_pos rfl]
theorem Qbc (V a b : Nat) : V / 2 ^ (a + b) = V / 2 ^ a / 2 ^ b := by rw [Nat.pow_add, Nat.div_div_eq_div_mul]

theorem Qti {V N a k v : Nat} (hv : v < 4294967296) (hN : a + Qcx v k ≤ N) (h : V / 2 ^ a % 2 ^ Qcx v k = QgH v k) : QdW V N a k = .inr (v, a + Qcx v k) := by
  unfold Qcx QgH at *
  unfold QdW
  by_cases hq : 48 ≤ v / 2 ^ k
  · simp only [hq, if_true] at h hN ⊢
    obtain ⟨h1, h2⟩ := (Jm (m := 48) (n := 32) (by decide)).1 h
    rw [QqL (by omega) h1]
    simp only [if_true]
    rw [if_neg (by omega), if_neg (by omega), Qbc, h2, if_neg (by omega)]
  · simp only [hq, if_false] at h hN ⊢
    have hp : 1 ≤ 2 ^ (v / 2 ^ k) := Nat.pow_pos (by omega)
    obtain ⟨h1, h2⟩ := (Jm (m := v / 2 ^ k + 1) (n := k) (by rw [Nat.pow_succ]; omega)).1 h
    rw [QqM (by omega) (by omega) h1]
    simp only
    rw [if_neg (show ¬ v / 2 ^ k = 48 by omega), if_neg (by omega), if_pos (by omega), Nat.add_assoc a, Qbc, h2, Nat.div_add_mod', Nat.add_assoc a]

theorem Qt1 {V N a v : Nat} {d : Dl} (hv : v < 4294967296) (hN : a + J2 d v ≤ N) (h : V / 2 ^ a % 2 ^ J2 d v = QgX d v) : Qih V N a d = .inr (v, a + J2 d v) := by
  have hc := Qkt d v
  unfold Qih
  rw [if_neg (by omega)]
  unfold J2 QgX at *
  by_cases hl : v < 2 ^ d.k0
  · simp only [hl, if_true] at h hN ⊢
    rw [show (2 : Nat) * v = 0 + 2 ^ 1 * v by omega] at h
    obtain ⟨h1, h2⟩ := (Jm (m := 1) (n := d.k0) (by decide)).1 h
    rw [if_pos (by simpa using h1), if_neg (by omega), Qbc, h2, Nat.add_assoc]
  · simp only [hl, if_false] at h hN ⊢
    obtain ⟨h1, h2⟩ := (Jm (m := 1) (n := Qcx (v - 2 ^ d.k0) d.k1) (by decide)).1 h
    rw [if_neg (by have : V / 2 ^ a % 2 = 1 := by simpa using h1
                   omega)]
    rw [← Qbc] at h2
    rw [Qti (Nat.lt_of_le_of_lt (Nat.sub_le _ _) hv) (by omega) h2]
    simp only
    have hle : 2 ^ d.k0 ≤ v := by omega
    rw [Nat.sub_add_cancel hle, if_neg (by omega), Nat.add_assoc]

theorem Qtq {V N a v : Nat} {d : Dl} (hd : okD d) (hv : v < 4294967296) (hN : a + J2 d v ≤ N) (h : V / 2 ^ a % 2 ^ J2 d v = QgX d v) : Qih (Qk1 V N a) (Qc9 N a) 0 d = .inr (v, J2 d v) := by
  have hl := Qfe (v := v) hd
  have hle : J2 d v ≤ Qc9 N a := by unfold Qc9; omega
  have := Qt1 (V := Qk1 V N a) (N := Qc9 N a) (a := 0) (d := d) hv (by omega) (by
    rw [Nat.pow_zero, Nat.div_one, Qk1, Nat.mod_mod_of_dvd _ (Nat.pow_dvd_pow 2 hle)]; exact h)
  rw [Nat.zero_add] at this
  exact this
theorem Qm9 {V N c : Nat} {v : List Nat} (hv : N32 v) : ∀ (k i : Nat), i + k ≤ v.length → Qcp c v (i + k) ≤ N → V % 2 ^ Qcp c v (i + k) = QnN c v (i + k) → XU V N c k (v.take i) (Qcp c v i) = .inr (v.take (i + k), Qcp c v (i + k))
  | 0, i, _, _, _ => rfl
  | k + 1, i, hi, hN, hV => by
    have hmono : ∀ j i, Qcp c v i ≤ Qcp c v (i + j) := by
      intro j
      induction j with
      | zero => intro i; exact Nat.le_refl _
      | succ j ih => intro i; have := ih i; rw [← Nat.add_assoc, Jn]; omega
    have hlow : ∀ j i, V % 2 ^ Qcp c v (i + j) = QnN c v (i + j) → V % 2 ^ Qcp c v i = QnN c v i := by
      intro j
      induction j with
      | zero => intro i h; exact h
      | succ j ih =>
        intro i h
        refine ih i ?_
        rw [← Nat.add_assoc, Jn, Qdy] at h
        exact ((Jm (Z2 hv (i + j)).1).1 h).1
    have e1 : i + (k + 1) = i + 1 + k := by omega
    rw [e1] at hN hV hi ⊢
    have hN1 := hmono k (i + 1)
    have hV1 := hlow k (i + 1) hV
    rw [Jn, Qdy] at hV1
    rw [Jn] at hN1
    obtain ⟨_, h2⟩ := (Jm (Z2 hv i).1).1 hV1
    have hd := QcV (c := c) (r := i % c) (hv.take i)
    have hl : (v.take i).length = i := by simp; omega
    rw [XU, hl, Qtq hd (hv.getD i) (by omega) h2]
    simp only
    have ht : v.take i ++ [v.getD i 0] = v.take (i + 1) := by
      rw [List.take_succ_eq_append_getElem (by omega : i < v.length)]
      simp [List.getD_eq_getElem?_getD, List.getElem?_eq_getElem (by omega : i < v.length)]
    rw [ht, ← Jn]
    exact Qm9 hv k (i + 1) hi hN hV

end Go.Am

namespace Go.Am
open Go.RowKit

/-! ### What is mixed is unmixed, what is stepped is stepped back (plain) -/

theorem QfD {c q r : Nat} (h : r < c) : (c * q + r) / c = q ∧ (c * q + r) % c = r := by
  refine ⟨?_, by rw [Nat.mul_add_mod, Nat.mod_eq_of_lt h]⟩
  rw [Nat.mul_add_div (by omega), Nat.div_eq_of_lt h, Nat.add_zero]
theorem QwC {c n q r : Nat} (hn : n % c = 0) (hr : r < c) (h : c * q + r < n) : c * q + c ≤ n := by
  have h1 := Nat.div_add_mod n c
  rw [hn, Nat.add_zero] at h1
  have h2 : q < n / c := Nat.lt_of_not_le fun hle => by
    have := Nat.mul_le_mul_left c hle
    omega
  have := Nat.mul_le_mul_left c (show q + 1 ≤ n / c from h2)
  rw [Nat.mul_add] at this
  omega
theorem Qa8 {c : Nat} {l : List Int} {j : Nat} (h : j < l.length) : (Zw c l).getD j 0 = QoS c l j := by rw [Zw, QA h]
theorem QpR {l : List Int} (h : I32 l) (j : Nat) : w32 (l.getD j 0) = l.getD j 0 := Qjl (Zg h j).1 (Zg h j).2

theorem Qux {c q : Nat} {l : List Int} (hI : I32 l) (h : c * q + c ≤ l.length) : ∀ d, d < c → ud (Zw c l) (c * q) c d = l.getD (c * q + (c - 1 - d)) 0
  | 0, hd => by
    unfold ud
    by_cases h1 : c = 1
    · subst h1
      rw [if_pos rfl, Qa8 (by omega), QoS, if_pos rfl]
      rfl
    · rw [if_neg h1, Qa8 (by omega), Qa8 (by omega), QoS, QoS, if_neg h1, if_neg h1, (QfD (q := q) (show c - 1 < c by omega)).2, (QfD (q := q) (show c - 2 < c by omega)).2, if_neg (by omega), if_pos (by omega), show c * q + (c - 2) + 1 = c * q + (c - 1) by omega,
        show c * q + (c - 1) - 1 = c * q + (c - 2) by omega, QhF, Int.sub_add_cancel, Nat.sub_zero]
      exact QpR hI _
  | d + 1, hd => by
    unfold ud
    rw [Qux hI h d (by omega), Qa8 (by omega), QoS, if_neg (by omega), (QfD (q := q) (show c - 2 - d < c by omega)).2, if_pos (by omega), show c * q + (c - 2 - d) + 1 = c * q + (c - 1 - d) by omega, QsT,
      show l.getD (c * q + (c - 1 - d)) 0 - (l.getD (c * q + (c - 1 - d)) 0 - l.getD (c * q + (c - 2 - d)) 0) = l.getD (c * q + (c - 2 - d)) 0 by omega, QpR hI, show c - 1 - (d + 1) = c - 2 - d by omega]
theorem Qu7 {c : Nat} {l : List Int} (hc : 1 ≤ c) (hI : I32 l) (hm : l.length % c = 0) : QbO c (Zw c l) = l := by
  apply Z1 (by rw [Qch, JT])
  intro j hj
  rw [Qch, JT] at hj
  have hr := Nat.mod_lt j (show 0 < c by omega)
  have hd := Nat.div_add_mod j c
  have hs := QwC hm hr (by omega : c * (j / c) + j % c < l.length)
  rw [QbO, Qwn, QA (by rw [JT]; exact hj), Qu8, Qux hI hs _ (by omega)]
  congr 1
  omega
theorem Qrs (c : ZK) {x : Int} (h : -2147483648 ≤ x ∧ x ≤ 2147483647) : Qix c (QdD c x) = x ∧ QaQ c (QdD c x) = QaP c x := by
  have e1 : Qpu c.fl (QdD c x) = Qr2 c x := by
    unfold Qpu QdD QpK
    rw [QhF, Int.sub_add_cancel, Qr2, Qu4]
  have e2 : Qix c (QdD c x) = x := by
    unfold Qix
    rw [e1, Qr2, QhF, Int.sub_add_cancel, Qjl h.1 h.2]
  refine ⟨e2, ?_⟩
  unfold QaQ QaP
  rw [e2, Qxe, e1, QwR]
  rfl
theorem Qsg {x : Int} : Xi (QgK x) = x := by unfold Xi QgK; split <;> split <;> omega
theorem Qr3 (c : ZK) (x : Int) : -2147483648 ≤ QdD c x ∧ QdD c x ≤ 2147483647 := XT _

theorem Qw7 {k c n : Nat} (hk : k < c) : (k + n * c) % c = k ∧ (k + n * c) / c = n := by
  rw [Nat.add_comm, Nat.mul_comm]
  exact ⟨(QfD hk).2, (QfD hk).1⟩
theorem QuA {c : Nat} {L L2 : List Int} {z : ZK} {m k : Nat} (hL : I32 L) (h : ∀ j, j < m → L2.getD j 0 = QdD (stC c L z (j % c) (j / c)) (L.getD j 0)) (hk : k < c) : ∀ n, (∀ i, i < n → k + i * c < m) → stB c L2 z k n = stC c L z k n
  | 0, _ => rfl
  | n + 1, hn => by
    obtain ⟨e1, e2⟩ := Qw7 (n := n) hk
    rw [stB, stC, QuA hL h hk n fun i hi => hn i (by omega), h _ (hn n (by omega)), e1, e2]
    exact (Qrs _ (Zg hL _)).2
theorem Qw6 {c j m : Nat} (hj : j < m) : ∀ i, i < j / c → j % c + i * c < m := by
  intro i hi
  have h1 := Nat.div_add_mod j c
  have h2 := Nat.mul_le_mul_right c (show i ≤ j / c by omega)
  rw [Nat.mul_comm (j / c)] at h2
  omega

theorem Qu9 {c : Nat} {x : Int} {t l : List Int} (hc : 1 ≤ c) (hI : I32 l) (hm : l.length % c = 0) : unB c x t (Qhi c (Zw c l) (JA x t) l.length) = l := by
  have hv := Qe7 c (Zw c l) (JA x t) l.length
  have hM : I32 (Zw c l) := QhE hI
  have hg : ∀ j, j < l.length → ((Qhi c (Zw c l) (JA x t) l.length).map Xi).getD j 0 = QdD (stC c (Zw c l) (JA x t) (j % c) (j / c)) ((Zw c l).getD j 0) := fun j hj => by
    rw [Qhz (by rw [hv]; exact hj), Qhi, QA hj, QxI, Qsg]
  unfold unB
  rw [hv]
  have : Qiz c ((Qhi c (Zw c l) (JA x t) l.length).map Xi) (JA x t) l.length = Zw c l := by
    apply Z1 (by rw [JJ, JT])
    intro j hj
    rw [JJ] at hj
    rw [Qiz, QA hj, Qv8, hg j hj, QuA hM hg (Nat.mod_lt _ (by omega)) _ (Qw6 hj)]
    exact (Qrs _ (Zg hM _)).1
  rw [this, Qu7 hc hI hm]

end Go.Am

namespace Go.Am
open Go.RowKit

/-! ### Frames: coded and decoded (plain) -/

def QpJ (c : Nat) (x : Int) (t l : List Int) : List Nat := (Qhi c (Zw c l) (JA x t) l.length).map Int.toNat
def QeB (c : Nat) (x : Int) (t l : List Int) : List UInt8 := QeL (Qd6 c (QpJ c x t l))

theorem Qnq (c : Nat) (L : List Int) (z : ZK) (a : Nat) : U32 (Qhi c L z a) := by
  intro y hy
  simp only [Qhi, List.mem_map] at hy
  obtain ⟨j, _, rfl⟩ := hy
  exact Qrz (Qr3 _ _)
theorem Qt0 {v : List Int} (h : U32 v) : iL (v.map Int.toNat) = v := by
  unfold iL
  rw [List.map_map]
  conv => rhs; rw [← List.map_id v]
  apply List.map_congr_left
  intro y hy
  have := h y hy
  simp; omega
theorem QsJ {v : List Int} (h : U32 v) : N32 (v.map Int.toNat) := by
  intro y hy
  simp only [List.mem_map] at hy
  obtain ⟨z, hz, rfl⟩ := hy
  have := h z hz
  omega
theorem QeZ (c : Nat) (x : Int) (t l : List Int) : (QpJ c x t l).length = l.length := by simp [QpJ, Qe7]
theorem QhJ (c : Nat) (x : Int) (t l : List Int) : N32 (QpJ c x t l) := QsJ (Qnq _ _ _ _)
theorem Qro (c : Nat) (x : Int) (t l : List Int) : iL (QpJ c x t l) = Qhi c (Zw c l) (JA x t) l.length := Qt0 (Qnq _ _ _ _)

theorem QfE (p : List UInt8) : (QeL p).take ((QeL p).length - 4) = p := by rw [QbT, Nat.add_sub_cancel, QeL, List.take_left' rfl]
theorem Qqz (p : List UInt8) : (QeL p).drop ((QeL p).length - 4) = leB (Qc8 p) 4 := by rw [QbT, Nat.add_sub_cancel, QeL, List.drop_left' rfl]
theorem QqW {p : List UInt8} (h : 1 ≤ p.length) (h2 : p.length ≤ 41250) : Zi (QeL p) = 0 := by
  unfold Zi
  rw [QfE, Qqz, QbT, if_neg (by omega), if_neg (by omega), Qic 4 _ (QdT p), if_pos rfl]
theorem Qts {b : List UInt8} (h : Zi b = 0) : b = QeL (b.take (b.length - 4)) ∧ 5 ≤ b.length ∧ b.length ≤ 41254 := by
  unfold Zi at h
  split at h
  · omega
  split at h
  · omega
  split at h
  · rename_i h1 h2 h3
    exact ⟨((QoD (by omega)).2 h3).symm, by omega, by omega⟩
  · omega
theorem Qrf {c : Nat} {v : List Nat} (h : N32 v) : leN (Qd6 c v) = QnN c v v.length := by
  unfold Qd6
  refine Qic _ _ ?_
  rw [QfI]
  exact Nat.lt_of_lt_of_le (Z2 h v.length).1 (Nat.pow_le_pow_right (by omega) (by unfold nB; omega))
theorem QfS {c : Nat} {v : List Nat} (h : N32 v) (h1 : 1 ≤ v.length) (h2 : v.length ≤ 4000) : 1 ≤ (Qd6 c v).length ∧ (Qd6 c v).length ≤ 40500 := by
  obtain ⟨_, q2, q3⟩ := Z2 (c := c) h v.length
  rw [QdA]
  unfold nB
  omega
theorem QxG {V N a : Nat} (hV : V < 2 ^ a) (h : N - a ≤ 7) : QeM V N a = 0 := by
  unfold QeM
  rw [if_neg (by omega), if_pos (Nat.div_eq_of_lt hV)]
theorem QpS {c : Nat} {v : List Nat} (h : N32 v) : XU (leN (Qd6 c v)) (8 * (Qd6 c v).length) c v.length [] 0 = .inr (v, Qcp c v v.length) := by
  rw [Qrf h, QdA]
  have hb := (Z2 (c := c) h v.length).1
  have := Qm9 (V := QnN c v v.length) (N := 8 * nB (Qcp c v v.length)) (c := c) h v.length 0 (by omega) (by rw [Nat.zero_add]; unfold nB; omega) (by rw [Nat.zero_add, Nat.mod_eq_of_lt hb])
  rw [Nat.zero_add, List.take_length, List.take_zero, Qdz] at this
  exact this
theorem QqF {c : Nat} {v : List Nat} (h : N32 v) : QeM (leN (Qd6 c v)) (8 * (Qd6 c v).length) (Qcp c v v.length) = 0 := by
  rw [Qrf h, QdA]
  exact QxG (Z2 (c := c) h v.length).1 (by unfold nB; omega)

theorem QiR {c x : Int} {l : List Int} (hI : I32 l) (h : QbA c x l = 0) : ∃ k m : Nat, c = k ∧ okM k l ∧ JB x ≠ 0 ∧ QV c x = 0 ∧ QE x l = 0 ∧ l.length = m * k ∧ 1 ≤ m ∧ (l.length : Int) / c = m ∧ QO c x ((l.length : Int) / c) = 0 := by
  obtain ⟨k, rfl, hk, hx⟩ := QmF hI h
  have hk' := hk
  obtain ⟨h1, h2, h3, h4, h5, _⟩ := hk'
  have e1 : QV k x = 0 := by
    rcases QM k x with q | ⟨q, _⟩
    · rw [QiP q] at h; omega
    · exact q
  have e2 : QE x l = 0 := by
    rcases Int.decEq (QE x l) 0 with q | q
    · rw [QiQ e1 q] at h; exact absurd h q
    · exact q
  have e3 : l.length = l.length / k * k := by have := Nat.div_add_mod l.length k; rw [Nat.mul_comm] at this; omega
  have e4 : 1 ≤ l.length / k := by
    rcases Nat.eq_zero_or_pos (l.length / k) with q | q
    · rw [q] at e3; omega
    · exact q
  have e5 : (l.length : Int) / (k : Int) = ((l.length / k : Nat) : Int) := by rw [Int.natCast_ediv]
  refine ⟨k, l.length / k, rfl, hk, hx, e1, e2, e3, e4, e5, ?_⟩
  have e6 : l.length / k ≤ 4000 / k := Nat.div_le_div_right h4
  have e7 : (4000 : Int) / (k : Int) = ((4000 / k : Nat) : Int) := by rw [Int.natCast_ediv]; rfl
  unfold QO
  rw [if_neg (by omega), e5, e7, if_neg (by omega), if_neg (by omega)]

theorem QvU {c x : Int} {t l : List Int} (hI : I32 l) (h : QbA c x l = 0) : QfW c x t ((l.length : Int) / c) (QeB c.toNat x t l) = 0 ∧ QrT c x t ((l.length : Int) / c) (QeB c.toNat x t l) = l := by
  obtain ⟨k, m, rfl, hk, hx, e1, e2, e3, e4, e5, e6⟩ := QiR hI h
  obtain ⟨h1, h2, h3, h4, h5, _⟩ := hk
  have hv := QhJ k x t l
  have hl := QeZ k x t l
  obtain ⟨b1, b2⟩ := QfS (c := k) hv (by omega) (by omega)
  have hall : QmI (QeB k x t l) k m = .inr (QpJ k x t l, Qcp k (QpJ k x t l) (QpJ k x t l).length) := by
    unfold QmI QeB
    rw [QfE, ← e3, ← hl]
    exact QpS hv
  have hun : unB k x t (iL (QpJ k x t l)) = l := by rw [Qro]; exact Qu9 h1 hI h5
  have he : QfW k x t ((l.length : Int) / k) (QeB k x t l) = 0 := by
    unfold QfW
    rw [if_neg (by omega), if_neg (by rw [QeB, QqW b1 (by omega)]; simp), e5, Int.toNat_natCast, Int.toNat_natCast, hall]
    simp only [QwX]
    rw [QeB, QfE, QqF hv, if_neg (by simp), hun, e2]
  simp only [Int.toNat_natCast] at he ⊢
  refine ⟨he, ?_⟩
  unfold QrT
  rw [if_pos he, e5, Int.toNat_natCast, Int.toNat_natCast, hall]
  exact hun

end Go.Am
