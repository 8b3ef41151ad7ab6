/- What the functions that the law reaches return, for every program that has their code; the conditions stand in each statement. -/
import Derived.Test.YtapimafdnjankaaGreatDoorClipOnlyL1
set_option linter.unusedSectionVars false
set_option linter.unusedSimpArgs false
set_option linter.unusedVariables false
namespace Go.Am
open Go.RowKit

/-! ### Runs of ones -/

def QaE : Nat → Nat → Nat
  | 0, _ => 0
  | m + 1, X => if X % 2 = 1 then QaE m (X / 2) + 1 else 0

theorem QgY : ∀ (m X : Nat), QaE m X ≤ m
  | 0, _ => Nat.le_refl _
  | m + 1, X => by
    unfold QaE
    have := QgY m (X / 2)
    split <;> omega

theorem Ql3 : ∀ (m K X : Nat), m < K → ∃ t, 2 ^ K - 1 - X % 2 ^ m = 2 ^ QaE m X * (2 * t + 1)
  | 0, K, X, h => by
    obtain ⟨k, rfl⟩ : ∃ k, K = k + 1 := ⟨K - 1, by omega⟩
    refine ⟨2 ^ k - 1, ?_⟩
    have : 0 < 2 ^ k := Nat.pow_pos (by omega)
    simp only [QaE, Nat.pow_zero, Nat.mod_one, Nat.one_mul, Nat.pow_succ]
    omega
  | m + 1, K, X, h => by
    obtain ⟨k, rfl⟩ : ∃ k, K = k + 1 := ⟨K - 1, by omega⟩
    obtain ⟨t, ht⟩ := Ql3 m k (X / 2) (by omega)
    have hs := QmW (X := X) (n := m)
    have hp : 0 < 2 ^ k := Nat.pow_pos (by omega)
    have hy : X / 2 % 2 ^ m < 2 ^ m := Nat.mod_lt _ (Nat.pow_pos (by omega))
    have hm : 2 ^ m ≤ 2 ^ k := Nat.pow_le_pow_right (by omega) (by omega)
    rw [hs]
    unfold QaE
    split
    · rename_i hx
      refine ⟨t, ?_⟩
      rw [hx, Nat.pow_succ 2 k, Nat.pow_succ 2 (QaE m (X / 2)), Nat.mul_assoc, Nat.mul_left_comm, ← ht]
      generalize X / 2 % 2 ^ m = y at *
      omega
    · rename_i hx
      refine ⟨2 ^ k - 1 - X / 2 % 2 ^ m, ?_⟩
      rw [show X % 2 = 0 by omega, Nat.pow_succ]
      generalize X / 2 % 2 ^ m = y at *
      simp
      omega

def QhE (P : Prg) (f : Nat) : Prop := ∀ (N a n : Nat) (cs : List AV), Qs cs = true → a < N → N ≤ 400000 → VC P f [.cell [.list n cs, .int .i64 N], .cell [.int .i64 a]] (.int .i64 (min 48 (N - a) : Nat))
theorem Qm5 {P : Prg} {f : Nat} (bd : Qj P f 8 [.tmp 2] JH) : QhE P f := by
  intro N a n cs hcs ha hN
  refine VC.of_acall (by simp [Qs, isD, hcs]) rfl (ACall.of_body bd (by simp) ?_)
  obtain ⟨m, hm⟩ : ∃ m, m = min 48 (N - a) := ⟨_, rfl⟩
  have e1 : (if (N : Int) - a < 48 then (N : Int) - a else 48) = (m : Int) := by split <;> omega
  rw [← hm]
  simp (maxSteps := 4000000) (disch := omega) only [rr, aop, cV, cV1, AV.one, Qb, okW, Qd, app, Qa, Qc, Qe, Qf, Qg, simprocAttr, JH, e1]

def Qbl (V N a : Nat) : Nat ⊕ (Nat × Nat) :=
  if N ≤ a then .inl 24
  else if QaE (min 48 (N - a)) (V / 2 ^ a) < min 48 (N - a) then .inr (QaE (min 48 (N - a)) (V / 2 ^ a), a + QaE (min 48 (N - a)) (V / 2 ^ a) + 1)
  else if min 48 (N - a) = 48 then .inr (48, a + 48) else .inl 24
def Qov : Nat ⊕ (Nat × Nat) → AV
  | .inl e => .tup [.int .i64 0, .int .i64 0, .int .i64 e]
  | .inr (q, n) => .tup [.int .i64 q, .int .i64 n, .int .i64 0]
def Qli (P : Prg) (f : Nat) : Prop := ∀ N V a : Nat, V < 2 ^ N → N ≤ 330000 → a ≤ 400000 → VC P f [bA N V, .int .i64 a] (Qov (Qbl V N a))

theorem Qof {c : Nat} (h : c < 18446744073709551616) : 18446744073709551615 ^^^ c = 18446744073709551615 - c := by
  have h1 : BitVec.allOnes 64 ^^^ BitVec.ofNat 64 c = ~~~ BitVec.ofNat 64 c := by
    apply BitVec.eq_of_getElem_eq
    intro i hi
    rw [BitVec.getElem_xor, BitVec.getElem_allOnes, BitVec.getElem_not, Bool.true_xor]
  have h2 := congrArg BitVec.toNat h1
  rw [BitVec.toNat_xor, BitVec.toNat_not, BitVec.toNat_allOnes, BitVec.toNat_ofNat, Nat.mod_eq_of_lt h] at h2
  exact h2

theorem Qm6 {P : Prg} {f fC fT fG fZ t0 t1 : Nat} (bd : Qj P f 53 [.tmp 4, .tmp 5, .tmp 6] (QaQ fC fT fG fZ t0 t1)) (hC : Xx P fC) (hT : QhE P fT) (hG : Qgy P fG) (hZ : Qv1 P fZ) : Qli P f := by
  intro N V a hV hN ha
  refine VC.of_acall (by simp [Qs, XC, isD]) (by cases Qbl V N a <;> rfl) (ACall.of_cut 1 bd (by simp) ?_)
  have hC' := hC N V hV hN
  rw [bA] at hC'
  have td : X2 (u8 (leB V (nB N))) = true := Xl _
  simp (maxSteps := 4000000) (disch := omega) only [rr, aop, cV, cV1, AV.one, Qb, okW, Qd, app, Qa, Qc, Qe, Qf, Qg, simprocAttr, QaQ, Qhi, bA]
  refine ⟨⟨[(6, .int .i64 0), (5, .int .i64 0), (4, .int .i64 0), (3, .cell [.int .i64 a]), (2, .cell [.list (nB N) (u8 (leB V (nB N))), .int .i64 N])], []⟩, Le.dropT [] (by simp) (by simp [Am.look, QJ, QO, QI, Qr _ td]), ?_⟩
  simp (maxSteps := 4000000) (disch := omega) only [rr, aop, cV, cV1, AV.one, Qb, okW, Qd, app, Qa, Qc, Qe, Qf, Qg, simprocAttr]
  refine Qh.vc hC' ?_
  simp (maxSteps := 4000000) (disch := omega) only [rr, aop, cV, cV1, AV.one, Qb, okW, Qd, app, Qa, Qc, Qe, Qf, Qg, simprocAttr]
  by_cases hlt : N ≤ a
  · have e0 : Qbl V N a = .inl 24 := by simp [Qbl, hlt]
    rw [e0, Qov]
    simp (maxSteps := 4000000) (disch := omega) only [rr, aop, cV, cV1, AV.one, Qb, okW, Qd, app, Qa, Qc, Qe, Qf, Qg, simprocAttr]
  · have hT' := hT N a (nB N) (u8 (leB V (nB N))) (Qe0 _) (by omega) (by omega)
    obtain ⟨m, hm⟩ : ∃ m, m = min 48 (N - a) := ⟨_, rfl⟩
    have hG' := hG N V a m hV hN (by omega) ha
    rw [if_neg (by omega), bA] at hG'
    obtain ⟨q, hq⟩ : ∃ q, q = QaE m (V / 2 ^ a) := ⟨_, rfl⟩
    have hqm := QgY m (V / 2 ^ a)
    obtain ⟨t, ht⟩ := Ql3 m 64 (V / 2 ^ a) (by omega)
    have hv : V / 2 ^ a % 2 ^ m < 2 ^ m := Nat.mod_lt _ (Nat.pow_pos (by omega))
    have h48 : 2 ^ m ≤ 2 ^ 48 := Nat.pow_le_pow_right (by omega) (by omega)
    have hZ' := hZ (QaE m (V / 2 ^ a)) t (by rw [← ht]; omega)
    rw [← ht] at hZ'
    rw [← hm] at hT'
    have e1 : Qbl V N a = if q < m then .inr (q, a + q + 1) else if m = 48 then .inr (48, a + 48) else .inl 24 := by
      rw [Qbl, if_neg hlt, ← hm, ← hq]
    rw [e1]
    rw [← hq] at hZ' hqm
    generalize V / 2 ^ a % 2 ^ m = v at *
    have e2 : IntKind.u64.wrap (BitVec.ofInt IntKind.u64.bits IntKind.u64.max ^^^ BitVec.ofInt IntKind.u64.bits (v : Int)).toNat = ((2 ^ 64 - 1 - v : Nat) : Int) := by
      have h1 := Qof (c := v) (by omega)
      rw [show 2 ^ 64 - 1 - v = 18446744073709551615 - v by omega, ← h1]
      exact Qq6 (K := .u64) rfl (a := 18446744073709551615) (b := v) (by decide) (by show v < 18446744073709551616; omega)
    have e3 : IntKind.u64.signed = false := rfl
    generalize 2 ^ 64 - 1 - v = w at *
    simp (maxSteps := 4000000) (disch := omega) only [rr, aop, cV, cV1, AV.one, Qb, okW, Qd, app, Qa, Qc, Qe, Qf, Qg, simprocAttr]
    refine Ze.vc hT' ?_
    simp (maxSteps := 4000000) (disch := omega) only [rr, aop, cV, cV1, AV.one, Qb, okW, Qd, app, Qa, Qc, Qe, Qf, Qg, simprocAttr]
    refine Ze.vc hG' ?_
    simp (maxSteps := 4000000) (disch := omega) only [rr, aop, cV, cV1, AV.one, Qb, okW, Qd, app, Qa, Qc, Qe, Qf, Qg, simprocAttr, e2, e3]
    refine Qh.vc hZ' ?_
    simp (maxSteps := 4000000) (disch := omega) only [rr, aop, cV, cV1, AV.one, Qb, okW, Qd, app, Qa, Qc, Qe, Qf, Qg, simprocAttr]
    refine Qh.vc hT' ?_
    by_cases hqlt : q < m
    · rw [if_pos hqlt, Qov]
      have e9 : (1 : Int) + (a + q) = a + q + 1 := by omega
      simp (maxSteps := 4000000) (disch := omega) only [rr, aop, cV, cV1, AV.one, Qb, okW, Qd, app, Qa, Qc, Qe, Qf, Qg, simprocAttr, e9]
    · obtain rfl : q = m := by omega
      rw [if_neg hqlt]
      by_cases h4 : q = 48
      · subst h4
        rw [if_pos rfl, Qov]
        simp (maxSteps := 4000000) (disch := omega) only [rr, aop, cV, cV1, AV.one, Qb, okW, Qd, app, Qa, Qc, Qe, Qf, Qg, simprocAttr, Int.zero_add]
      · rw [if_neg h4, Qov]
        simp (maxSteps := 4000000) (disch := omega) only [rr, aop, cV, cV1, AV.one, Qb, okW, Qd, app, Qa, Qc, Qe, Qf, Qg, simprocAttr]

end Go.Am

namespace Go.Am
open Go.RowKit

/-! ### The state of the code with two levels -/

structure Dl where
  k0 : Nat
  k1 : Nat
  s0 : Nat
  s1 : Nat
def dlC (d : Dl) : List AV := [.int .i64 d.k0, .int .i64 d.k1, .int .u64 d.s0, .int .u64 d.s1]
def dlA (d : Dl) : AV := .agg (dlC d)
def okD (d : Dl) : Prop := d.k0 ≤ 24 ∧ d.k1 ≤ 24 ∧ d.s0 ≤ 68719476735 ∧ d.s1 ≤ 68719476735
def Qp : Dl := ⟨10, 10, 16384, 16384⟩
def Qa7 (k s n : Nat) : Nat × Nat :=
  if 0 < k ∧ s + n - s / 16 < 2 ^ (k + 4) then (k - 1, s + n - s / 16) else if k < 24 ∧ 2 ^ (k + 5) < s + n - s / 16 then (k + 1, s + n - s / 16) else (k, s + n - s / 16)
def ZK (d : Dl) (v : Nat) : Dl :=
  if v < 2 ^ d.k0 then ⟨(Qa7 d.k0 d.s0 v).1, d.k1, (Qa7 d.k0 d.s0 v).2, d.s1⟩
  else ⟨(Qa7 d.k0 d.s0 v).1, (Qa7 d.k1 d.s1 (v - 2 ^ d.k0)).1, (Qa7 d.k0 d.s0 v).2, (Qa7 d.k1 d.s1 (v - 2 ^ d.k0)).2⟩

theorem Qkk {k s n : Nat} (hk : k ≤ 24) (hs : s ≤ 68719476735) (hn : n < 4294967296) : (Qa7 k s n).1 ≤ 24 ∧ (Qa7 k s n).2 ≤ 68719476735 := by
  unfold Qa7
  have ht : s + n - s / 16 ≤ 68719476735 := by omega
  generalize s + n - s / 16 = t at *
  split
  · exact ⟨by simp only; omega, ht⟩
  · split
    · rename_i h; exact ⟨by have := h.1; simp only; omega, ht⟩
    · exact ⟨hk, ht⟩
theorem Qr0 {d : Dl} {v : Nat} (h : okD d) (hv : v < 4294967296) : okD (ZK d v) := by
  obtain ⟨h1, h2, h3, h4⟩ := h
  have p0 := Qkk h1 h3 hv
  have p1 := Qkk (n := v - 2 ^ d.k0) h2 h4 (Nat.lt_of_le_of_lt (Nat.sub_le _ _) hv)
  unfold ZK
  split
  · exact ⟨p0.1, h2, p0.2, h4⟩
  · exact ⟨p0.1, p1.1, p0.2, p1.2⟩
theorem Qrs : okD Qp := by unfold okD Qp; decide
theorem Qkw (d : Dl) : isD (dlA d) = true := rfl

theorem p24 {k : Nat} (h : k ≤ 24) : 2 ^ k ≤ 16777216 ∧ 2 ^ (k + 4) = 16 * 2 ^ k ∧ 2 ^ (k + 5) = 32 * 2 ^ k := by
  have := Nat.pow_le_pow_right (n := 2) (by omega) h
  refine ⟨by simpa using this, ?_, ?_⟩ <;> rw [Nat.pow_add, Nat.mul_comm]

def Qdz (P : Prg) (f : Nat) : Prop := VC P f [] (dlA Qp)
theorem QnG {P : Prg} {f t0 : Nat} (bd : Qj P f 2 [.cell 0 t0] (QaV t0)) (ht : ZG P t0 = some (some 4)) : Qdz P f := by
  refine VC.of_acall rfl rfl (ACall.of_body bd (by simp) ?_)
  simp (maxSteps := 4000000) (disch := omega) only [rr, aop, cV, cV1, AV.one, Qb, okW, Qd, app, Qa, Qc, Qe, Qf, Qg, simprocAttr, QaV, ZU, ht, Zi, dlA, dlC, Qp]
  try rfl
def Qew (P : Prg) (f : Nat) : Prop := ∀ d : Dl, okD d → VC P f [dlA d] (.int .i64 0)
theorem QnH {P : Prg} {f t0 : Nat} (bd : Qj P f 26 [.tmp 2] (QaW t0)) : Qew P f := by
  intro d h
  obtain ⟨k0, k1, s0, s1⟩ := d
  obtain ⟨h1, h2, h3, h4⟩ := h
  simp only at h1 h2 h3 h4
  refine VC.of_acall rfl rfl (ACall.of_cut 1 bd (by simp) ?_)
  simp (maxSteps := 4000000) (disch := omega) only [rr, aop, cV, cV1, AV.one, Qb, okW, Qd, app, Qa, Qc, Qe, Qf, Qg, simprocAttr, QaW, dlA, dlC, Qhi]
  refine ⟨⟨[(2, .int .i64 0), (1, .cell [.int .i64 k0, .int .i64 k1, .int .u64 s0, .int .u64 s1])], []⟩, Le.dropT [] (by simp) (by simp [Am.look, QJ, QO, QI]), ?_⟩
  simp (maxSteps := 4000000) (disch := omega) only [rr, aop, cV, cV1, AV.one, Qb, okW, Qd, app, Qa, Qc, Qe, Qf, Qg, simprocAttr]

def QdA (P : Prg) (f : Nat) : Prop := ∀ (d : Dl) (v : Nat), okD d → v < 4294967296 → VC P f [dlA d, .int .u32 v] (if v < 2 ^ d.k0 then .tup [.int .i64 0, .int .u32 v] else .tup [.int .i64 1, .int .u32 ((v - 2 ^ d.k0 : Nat) : Int)])
theorem QnE {P : Prg} {f t0 : Nat} (bd : Qj P f 17 [.tmp 4, .tmp 5] (Jm t0)) : QdA P f := by
  intro d v h hv
  obtain ⟨k0, k1, s0, s1⟩ := d
  obtain ⟨h1, h2, h3, h4⟩ := h
  simp only at h1 h2 h3 h4
  refine VC.of_acall rfl (by simp only; split <;> rfl) (ACall.of_body bd (by simp) ?_)
  have e1 : Qm false .u32 (v : Int) (k0 : Int) = some (.int .u32 ((v / 2 ^ k0 : Nat) : Int)) := QhV (K := .u32) (by show k0 ≤ 32; omega)
  obtain ⟨q1, _⟩ := p24 h1
  have e2 : Qm true .u32 1 (k0 : Int) = some (.int .u32 ((2 ^ k0 : Nat) : Int)) := by
    have := Qob (K := .u32) rfl (c := 1) (s := k0) (by show k0 ≤ 32; omega) (by show 1 * 2 ^ k0 < 4294967296; omega)
    rw [Nat.one_mul] at this
    exact this
  simp only
  by_cases c : v < 2 ^ k0
  · rw [if_pos c]
    rw [Nat.div_eq_of_lt c] at e1
    have e1' : Qm false .u32 (v : Int) (k0 : Int) = some (.int .u32 0) := e1
    simp (maxSteps := 4000000) (disch := omega) only [rr, aop, cV, cV1, AV.one, Qb, okW, Qd, app, Qa, Qc, Qe, Qf, Qg, simprocAttr, Jm, dlA, dlC, e1']
  · rw [if_neg c]
    have hpos : 0 < v / 2 ^ k0 := Nat.div_pos (by omega) (Nat.pow_pos (by omega))
    have hle : v / 2 ^ k0 ≤ v := Nat.div_le_self _ _
    have e3 : ((v - 2 ^ k0 : Nat) : Int) = (v : Int) - ((2 ^ k0 : Nat) : Int) := by omega
    generalize v / 2 ^ k0 = w at *
    generalize 2 ^ k0 = p at *
    simp (maxSteps := 4000000) (disch := omega) only [rr, aop, cV, cV1, AV.one, Qb, okW, Qd, app, Qa, Qc, Qe, Qf, Qg, simprocAttr, Jm, dlA, dlC, e1, e2, e3]

theorem Qdm {P : Prg} {f : Nat} (bd : Qj P f 58 [] Qn) {ob : List Ob} {p : Nat} {t : Nat} {d : Dl} (hp : ob[p]? = some ⟨t, 4, 1, dlC d, 0⟩) (hd : okD d) {n : Nat} (hn : n < 4294967296) (b : Bool) {K : AV → List Ob → Prop}
    (hK : K (.tup []) (ob.set p ⟨t, 4, 1, dlC (if b then ⟨d.k0, (Qa7 d.k1 d.s1 n).1, d.s0, (Qa7 d.k1 d.s1 n).2⟩ else ⟨(Qa7 d.k0 d.s0 n).1, d.k1, (Qa7 d.k0 d.s0 n).2, d.s1⟩), 0⟩)) :
    ACall P f [.ref p 1 (if b then 1 else 0), .ref p 1 (if b then 3 else 2), .int .u32 n] ob K := by
  have hpl : p < ob.length := (List.getElem?_eq_some_iff.1 hp).1
  have g1 : ∀ x, (ob.set p x)[p]? = some x := fun x => by simp [hpl]
  have g2 : ∀ x y, (ob.set p x).set p y = ob.set p y := fun x y => List.set_set _
  have key : ∀ k s : Nat, k ≤ 24 → s ≤ 68719476735 → ∃ t p4 p5 : Nat, t ≤ 68719476735 ∧ IntKind.u64.wrap ((s : Int) + IntKind.u64.wrap ((n : Int) - ((s / 16 : Nat) : Int))) = (t : Int) ∧ Qm false .u64 (s : Int) 4 = some (.int .u64 ((s / 16 : Nat) : Int)) ∧
      Qm true .u64 16 (k : Int) = some (.int .u64 (p4 : Int)) ∧ Qm true .u64 32 (k : Int) = some (.int .u64 (p5 : Int)) ∧
      Qm true .u64 16 (k : Int) = some (.int .u64 (p4 : Int)) ∧ Qa7 k s n = if 0 < k ∧ t < p4 then (k - 1, t) else if k < 24 ∧ p5 < t then (k + 1, t) else (k, t) := by
    intro k s hk hs
    obtain ⟨q1, q2, q3⟩ := p24 hk
    refine ⟨s + n - s / 16, 2 ^ (k + 4), 2 ^ (k + 5), by omega, ?_, QhV (K := .u64) (k := 4) (by decide), ?_, ?_, ?_, rfl⟩
    · rw [Zm, Zm]; omega
    · rw [q2]; exact Qob (K := .u64) rfl (c := 16) (by show k ≤ 64; omega) (by show 16 * 2 ^ k < 18446744073709551616; omega)
    · rw [q3]; exact Qob (K := .u64) rfl (c := 32) (by show k ≤ 64; omega) (by show 32 * 2 ^ k < 18446744073709551616; omega)
    · rw [q2]; exact Qob (K := .u64) rfl (c := 16) (by show k ≤ 64; omega) (by show 16 * 2 ^ k < 18446744073709551616; omega)
  obtain ⟨k0, k1, s0, s1⟩ := d
  obtain ⟨h1, h2, h3, h4⟩ := hd
  simp only at h1 h2 h3 h4
  refine ACall.of_body bd (by simp) ?_
  simp only [dlC] at hp hK
  cases b with
  | false =>
    obtain ⟨u, p4, p5, hu, e1, e2, e3, e4, _, e5⟩ := key k0 s0 h1 h3
    simp only [e5, Bool.false_eq_true, if_false] at hK ⊢
    by_cases c1 : 0 < k0
    · by_cases c2 : u < p4
      · rw [if_pos ⟨c1, c2⟩] at hK
        have e6 : ((k0 - 1 : Nat) : Int) = (k0 : Int) - 1 := by omega
        simp only [e6] at hK
        simp (maxSteps := 4000000) (disch := omega) only [rr, aop, cV, cV1, AV.one, Qb, okW, Qd, app, Qa, Qc, Qe, Qf, Qg, simprocAttr, Qn, hp, g1, g2, e1, e2, e3, e4, e6]
        exact hK
      · rw [if_neg (fun h => c2 h.2)] at hK
        by_cases c3 : k0 < 24
        · by_cases c4 : p5 < u
          · rw [if_pos ⟨c3, c4⟩] at hK
            simp only [Int.natCast_add] at hK
            simp (maxSteps := 4000000) (disch := omega) only [rr, aop, cV, cV1, AV.one, Qb, okW, Qd, app, Qa, Qc, Qe, Qf, Qg, simprocAttr, Qn, hp, g1, g2, e1, e2, e3, e4]
            exact hK
          · rw [if_neg (fun h => c4 h.2)] at hK
            simp (maxSteps := 4000000) (disch := omega) only [rr, aop, cV, cV1, AV.one, Qb, okW, Qd, app, Qa, Qc, Qe, Qf, Qg, simprocAttr, Qn, hp, g1, g2, e1, e2, e3, e4]
            exact hK
        · rw [if_neg (fun h => c3 h.1)] at hK
          simp (maxSteps := 4000000) (disch := omega) only [rr, aop, cV, cV1, AV.one, Qb, okW, Qd, app, Qa, Qc, Qe, Qf, Qg, simprocAttr, Qn, hp, g1, g2, e1, e2, e3, e4]
          exact hK
    · rw [if_neg (fun h => c1 h.1)] at hK
      by_cases c4 : p5 < u
      · rw [if_pos ⟨by omega, c4⟩] at hK
        simp only [Int.natCast_add] at hK
        simp (maxSteps := 4000000) (disch := omega) only [rr, aop, cV, cV1, AV.one, Qb, okW, Qd, app, Qa, Qc, Qe, Qf, Qg, simprocAttr, Qn, hp, g1, g2, e1, e2, e3, e4]
        exact hK
      · rw [if_neg (fun h => c4 h.2)] at hK
        simp (maxSteps := 4000000) (disch := omega) only [rr, aop, cV, cV1, AV.one, Qb, okW, Qd, app, Qa, Qc, Qe, Qf, Qg, simprocAttr, Qn, hp, g1, g2, e1, e2, e3, e4]
        exact hK
  | true =>
    obtain ⟨u, p4, p5, hu, e1, e2, e3, e4, _, e5⟩ := key k1 s1 h2 h4
    simp only [e5, if_true] at hK ⊢
    by_cases c1 : 0 < k1
    · by_cases c2 : u < p4
      · rw [if_pos ⟨c1, c2⟩] at hK
        have e6 : ((k1 - 1 : Nat) : Int) = (k1 : Int) - 1 := by omega
        simp only [e6] at hK
        simp (maxSteps := 4000000) (disch := omega) only [rr, aop, cV, cV1, AV.one, Qb, okW, Qd, app, Qa, Qc, Qe, Qf, Qg, simprocAttr, Qn, hp, g1, g2, e1, e2, e3, e4, e6]
        exact hK
      · rw [if_neg (fun h => c2 h.2)] at hK
        by_cases c3 : k1 < 24
        · by_cases c4 : p5 < u
          · rw [if_pos ⟨c3, c4⟩] at hK
            simp only [Int.natCast_add] at hK
            simp (maxSteps := 4000000) (disch := omega) only [rr, aop, cV, cV1, AV.one, Qb, okW, Qd, app, Qa, Qc, Qe, Qf, Qg, simprocAttr, Qn, hp, g1, g2, e1, e2, e3, e4]
            exact hK
          · rw [if_neg (fun h => c4 h.2)] at hK
            simp (maxSteps := 4000000) (disch := omega) only [rr, aop, cV, cV1, AV.one, Qb, okW, Qd, app, Qa, Qc, Qe, Qf, Qg, simprocAttr, Qn, hp, g1, g2, e1, e2, e3, e4]
            exact hK
        · rw [if_neg (fun h => c3 h.1)] at hK
          simp (maxSteps := 4000000) (disch := omega) only [rr, aop, cV, cV1, AV.one, Qb, okW, Qd, app, Qa, Qc, Qe, Qf, Qg, simprocAttr, Qn, hp, g1, g2, e1, e2, e3, e4]
          exact hK
    · rw [if_neg (fun h => c1 h.1)] at hK
      by_cases c4 : p5 < u
      · rw [if_pos ⟨by omega, c4⟩] at hK
        simp only [Int.natCast_add] at hK
        simp (maxSteps := 4000000) (disch := omega) only [rr, aop, cV, cV1, AV.one, Qb, okW, Qd, app, Qa, Qc, Qe, Qf, Qg, simprocAttr, Qn, hp, g1, g2, e1, e2, e3, e4]
        exact hK
      · rw [if_neg (fun h => c4 h.2)] at hK
        simp (maxSteps := 4000000) (disch := omega) only [rr, aop, cV, cV1, AV.one, Qb, okW, Qd, app, Qa, Qc, Qe, Qf, Qg, simprocAttr, Qn, hp, g1, g2, e1, e2, e3, e4]
        exact hK

end Go.Am

namespace Go.Am
open Go.RowKit

/-! ### Bits are put behind bits -/

def bO (t o N : Nat) : Ob := ⟨t, 2, 1, [.own o (nB N), .int .i64 N], 0⟩
def bY (t N V : Nat) : Ob := ⟨t, 1, nB N, u8 (leB V (nB N)), 0⟩

theorem Ji (V n : Nat) : Qs (u8 (leB V n)) = true := Qe0 _
theorem Low.put {ob : List Ob} (h : Low ob.length ob) {t t0 o p N V N' : Nat} (ho : o < ob.length) : Low ob.length (Xz ob o p (bY t0 N V) (bO t o N')) := by
  unfold Xz
  refine (h.set ?_).set ?_
  · exact XA _ (Ji _ _)
  · simp [bO, Qb5, XP, ho]
theorem Low.drop {ob : List Ob} (h : Low ob.length ob) {t t0 o p N V : Nat} (ho : o < ob.length) {M : Nat} (hM : M ≤ ob.length) {J : List Ob} {fr fr' : List (Nat × AV)}
    (hfr : ∀ q ∈ fr', q.2 = .any ∨ (q.2 = Am.look fr q.1 ∧ XP ob.length q.2 = true)) :
    Le M ⟨fr, Xz ob o p (bY t0 N V) (bO t o N) ++ J⟩ ⟨fr', Xz ob o p (bY t0 N V) (bO t o N)⟩ := by
  have hl : (Xz ob o p (bY t0 N V) (bO t o N)).length = ob.length := Za
  refine Le.low (by omega) (by rw [hl]; exact h.put ho) ?_
  rw [hl]
  exact hfr

theorem Qv6 {V N v j r : Nat} : V + 2 ^ N * (v % 2 ^ (j + r)) = V + 2 ^ N * (v % 2 ^ j) + 2 ^ (N + j) * (v / 2 ^ j % 2 ^ r) := by
  rw [Nat.pow_add, Nat.mod_mul, Nat.mul_add, Nat.pow_add, Nat.mul_assoc, Nat.add_assoc]

set_option maxHeartbeats 1000000 in
theorem QmF {P : Prg} {f t0 t : Nat} (bd : Qj P f 75 [] (JK t0)) {ob : List Ob} {p o N V v n : Nat} (hp : ob[p]? = some (bO t o N)) (ho : ob[o]? = some (bY t0 N V)) (hpo : p ≠ o) (hV : V < 2 ^ N) (hv : v < 2 ^ n) (hn : n ≤ 64) (hN : N + n ≤ 400000) (hfz : Low ob.length ob)
    {K : AV → List Ob → Prop} (hK : K (.tup []) (Xz ob o p (bY t0 (N + n) (V + 2 ^ N * v)) (bO t o (N + n)))) : ACall P f [.ref p 1 0, .int .u64 v, .int .i64 n] ob K := by
  have hol : o < ob.length := (List.getElem?_eq_some_iff.1 ho).1
  have hpl : p < ob.length := (List.getElem?_eq_some_iff.1 hp).1
  refine ACall.of_body bd (by simp) ?_
  have g0 : ∀ x y J, (Xz ob o p x y ++ J)[p]? = some y := fun x y J => by rw [List.getElem?_append_left (by rw [Za]; exact hpl)]; exact QjT hpl
  have g1 : ∀ x y J, (Xz ob o p x y ++ J)[o]? = some x := fun x y J => by rw [List.getElem?_append_left (by rw [Za]; exact hol)]; exact QjU hol hpo
  have g2 : ∀ x y J y', (Xz ob o p x y ++ J).set p y' = Xz ob o p x y' ++ J := fun x y J y' => by rw [List.set_append_left _ _ (by rw [Za]; exact hpl), Qot]
  have g3 : ∀ x y J x', (Xz ob o p x y ++ J).set o x' = Xz ob o p x' y ++ J := fun x y J x' => by rw [List.set_append_left _ _ (by rw [Za]; exact hol), Qou hpo]
  have g4 : ∀ x y j, (Xz ob o p x y ++ [j])[ob.length]? = some j := fun x y j => by rw [List.getElem?_append_right (by rw [Za]; exact Nat.le_refl _), Za, Nat.sub_self]; rfl
  have gp : ∀ x y, (Xz ob o p x y)[p]? = some y := fun x y => QjT hpl
  have go : ∀ x y, (Xz ob o p x y)[o]? = some x := fun x y => QjU hol hpo
  have sp : ∀ x y y', (Xz ob o p x y).set p y' = Xz ob o p x y' := fun x y y' => Qot
  have so : ∀ x y x', (Xz ob o p x y).set o x' = Xz ob o p x' y := fun x y x' => Qou hpo
  have ln : ∀ x y, (Xz ob o p x y).length = ob.length := fun x y => Za
  simp (maxSteps := 4000000) (disch := omega) only [rr, aop, cV, cV1, AV.one, Qb, okW, Qd, app, Qa, Qc, Qe, Qf, Qg, simprocAttr, JK]
  refine QW.by (ι := Nat) (fun j => ⟨[(2, .int .i64 ((n - j : Nat) : Int)), (1, .int .u64 ((v / 2 ^ j : Nat) : Int)), (0, .ref p 1 0)], Xz ob o p (bY t0 (N + j) (V + 2 ^ N * (v % 2 ^ j))) (bO t o (N + j))⟩) (fun j => j ≤ n) (fun j => n - j) 0 ?_ (by omega) ?_
  · have : Xz ob o p (bY t0 (N + 0) (V + 2 ^ N * (v % 2 ^ 0))) (bO t o (N + 0)) = ob := by
      rw [Nat.add_zero, Nat.pow_zero, Nat.mod_one, Nat.mul_zero, Nat.add_zero]
      exact Qij ho hp hpo
    rw [this]
    exact Le.slots (by simp [Am.look])
  intro j hj
  by_cases hlt : j < n
  · obtain ⟨M, hM⟩ : ∃ M, M = N + j := ⟨_, rfl⟩
    obtain ⟨i, hi⟩ : ∃ i, i = M / 8 := ⟨_, rfl⟩
    obtain ⟨a, ha⟩ : ∃ a, a = M % 8 := ⟨_, rfl⟩
    obtain ⟨r, hr⟩ : ∃ r, r = min (n - j) (8 - a) := ⟨_, rfl⟩
    have hM8 : M = 8 * i + a := by omega
    have hW : V + 2 ^ N * (v % 2 ^ j) < 2 ^ M := by
      have h1 : v % 2 ^ j < 2 ^ j := Nat.mod_lt _ (Nat.pow_pos (by omega))
      have h2 : 2 ^ N * (v % 2 ^ j + 1) ≤ 2 ^ N * 2 ^ j := Nat.mul_le_mul_left _ h1
      rw [hM, Nat.pow_add]; rw [Nat.mul_add, Nat.mul_one] at h2; omega
    have hstep := Qv6 (V := V) (N := N) (v := v) (j := j) (r := r)
    rw [← hM] at hstep ⊢
    have hx : v / 2 ^ j < 18446744073709551616 := by
      have h1 : v / 2 ^ j ≤ v := Nat.div_le_self _ _
      have h2 : 2 ^ n ≤ 2 ^ 64 := Nat.pow_le_pow_right (by omega) hn
      omega
    have hxr : v / 2 ^ (j + r) = v / 2 ^ j / 2 ^ r := by rw [Nat.pow_add, Nat.div_div_eq_div_mul]
    generalize V + 2 ^ N * (v % 2 ^ j) = W at *
    generalize hWW : V + 2 ^ N * (v % 2 ^ (j + r)) = W' at *
    generalize hxx : v / 2 ^ j = x at *
    have h2r : 2 ^ r ≤ 2 ^ 8 := Nat.pow_le_pow_right (by omega) (by omega)
    have h2a : 2 ^ a * 2 ^ r ≤ 2 ^ 8 := by rw [← Nat.pow_add]; exact Nat.pow_le_pow_right (by omega) (by omega)
    have hpos : 0 < 2 ^ r := Nat.pow_pos (by omega)
    have hc : x % 2 ^ r < 2 ^ r := Nat.mod_lt _ hpos
    obtain ⟨l1, l2⟩ := Qbr (V := W) (i := i) (at_ := a) (by rw [← hM8]; exact hW) (by omega)
    obtain ⟨b1, b2, _⟩ := Qb9 (V := W) (i := i) (at_ := a) (w := x % 2 ^ r) (r := r) (by rw [← hM8]; exact hW) hc (by omega)
    rw [← hM8, ← hstep] at b1
    have hyb : W / 256 ^ i < 256 := by
      have : 2 ^ a ≤ 2 ^ 8 := Nat.pow_le_pow_right (by omega) (by omega)
      omega
    have hyb2 : W / 256 ^ i + 2 ^ a * (x % 2 ^ r) < 256 := by
      have : 2 ^ (a + r) ≤ 2 ^ 8 := Nat.pow_le_pow_right (by omega) (by omega)
      omega
    have hca : x % 2 ^ r * 2 ^ a < 2 ^ 8 := by
      rw [Nat.mul_comm]
      exact Nat.lt_of_lt_of_le (Nat.mul_lt_mul_of_pos_left hc (Nat.pow_pos (by omega))) h2a
    have hu : ∀ y, y < 256 → u8 [UInt8.ofNat y] = [.int .u8 (y : Int)] := fun y hy => by simp [u8]; omega
    have e8 : IntKind.u8.wrap (BitVec.ofInt IntKind.u8.bits ((W / 256 ^ i : Nat) : Int) ||| BitVec.ofInt IntKind.u8.bits ((x % 2 ^ r * 2 ^ a : Nat) : Int)).toNat = ((W / 256 ^ i + 2 ^ a * (x % 2 ^ r) : Nat) : Int) := by
      rw [orK (K := .u8) rfl hyb hca, QiB l2, Nat.mul_comm]
    have e7 : Qm true .u8 ((x % 2 ^ r : Nat) : Int) (a : Int) = some (.int .u8 ((x % 2 ^ r * 2 ^ a : Nat) : Int)) := Qob rfl (by show a ≤ 8; omega) hca
    have e6 : IntKind.u8.wrap ((x % 2 ^ r : Nat) : Int) = ((x % 2 ^ r : Nat) : Int) := by rw [Qcb]; omega
    have e5 : IntKind.u64.wrap (BitVec.ofInt IntKind.u64.bits (x : Int) &&& BitVec.ofInt IntKind.u64.bits ((2 ^ r - 1 : Nat) : Int)).toNat = ((x % 2 ^ r : Nat) : Int) := by
      rw [Qlh _ _ hx (by omega), Nat.and_two_pow_sub_one_eq_mod]
    have e4 : IntKind.u64.wrap (((2 ^ r : Nat) : Int) - 1) = ((2 ^ r - 1 : Nat) : Int) := by rw [Zm]; omega
    have e3 : Qm true .u64 1 (r : Int) = some (.int .u64 ((2 ^ r : Nat) : Int)) := by
      have := Qob (K := .u64) rfl (c := 1) (s := r) (by show r ≤ 64; omega) (by show 1 * 2 ^ r < 18446744073709551616; omega)
      rw [Nat.one_mul] at this
      exact this
    have e9 : Qm false .u64 (x : Int) (r : Int) = some (.int .u64 ((x / 2 ^ r : Nat) : Int)) := QhV (K := .u64) (by show r ≤ 64; omega)
    have e1 := QhC (n := M) (by omega)
    rw [← ha] at e1
    have e2 : (if (8 : Int) - a < ((n - j : Nat) : Int) then (8 : Int) - a else ((n - j : Nat) : Int)) = (r : Int) := by split <;> omega
    have hnB : nB (M + r) = i + 1 := by unfold nB; omega
    have hcell : u8 (leB W' (i + 1)) = u8 (leB W i) ++ [.int .u8 ((W / 256 ^ i + 2 ^ a * (x % 2 ^ r) : Nat) : Int)] := by
      rw [b1, show u8 (leB W i ++ [UInt8.ofNat (W / 256 ^ i + 2 ^ a * (x % 2 ^ r))]) = u8 (leB W i) ++ u8 [UInt8.ofNat (W / 256 ^ i + 2 ^ a * (x % 2 ^ r))] by simp [u8]]
      rw [hu _ hyb2]
    have hlen : (u8 (leB W i)).length = i := by simp [u8, QF]
    rw [← hxr] at e9
    generalize W / 256 ^ i + 2 ^ a * (x % 2 ^ r) = y' at *
    generalize x % 2 ^ r * 2 ^ a = ca at *
    generalize x % 2 ^ r = c at *
    generalize 2 ^ r - 1 = mk at *
    generalize 2 ^ r = pr at *
    have d1 : ∀ z : AV, (u8 (leB W i) ++ [z]).drop i = [z] := fun z => by rw [List.drop_left' hlen]
    have d2 : ∀ z : AV, (u8 (leB W i) ++ [z]).take i = u8 (leB W i) := fun z => by rw [List.take_left' hlen]
    have d3 : ∀ z : AV, (u8 (leB W i) ++ [z]).drop (i + 1) = [] := fun z => List.drop_of_length_le (by simp [hlen])
    have jr : n - j - r = n - (j + r) := by omega
    have el : (⟨t0, 1, i + 1, u8 (leB W i) ++ [.int .u8 (y' : Int)], 0⟩ : Ob) = bY t0 (M + r) W' := by rw [bY, hnB, hcell]
    have er : (⟨t, 2, 1, [.own o (i + 1), .int .i64 ((M : Int) + r)], 0⟩ : Ob) = bO t o (M + r) := by rw [bO, hnB, Int.natCast_add]
    have hMr : N + (j + r) = M + r := by omega
    have e10 : ((n - j : Nat) : Int) - r = ((n - (j + r) : Nat) : Int) := by omega
    have e11 : (M : Int) + r = ((M + r : Nat) : Int) := by omega
    by_cases h0 : a = 0
    · subst h0
      have hnM : nB M = i := by unfold nB; omega
      have hW0 : W / 256 ^ i = 0 := by
        have := l2
        rw [Nat.pow_zero] at this
        exact Nat.lt_one_iff.1 this
      rw [hW0] at e8
      have e8' : IntKind.u8.wrap (BitVec.ofInt IntKind.u8.bits 0 ||| BitVec.ofInt IntKind.u8.bits (ca : Int)).toNat = (y' : Int) := e8
      have e1' : IntKind.i64.wrap (BitVec.ofInt IntKind.i64.bits (M : Int) &&& BitVec.ofInt IntKind.i64.bits 7).toNat = 0 := e1
      have e2' : (if (8 : Int) < ((n - j : Nat) : Int) then (8 : Int) else ((n - j : Nat) : Int)) = (r : Int) := by split <;> omega
      have e12 : i + 1 - 1 = i := by omega
      have e7' : Qm true .u8 (c : Int) 0 = some (.int .u8 (ca : Int)) := e7
      have e13 : (i : Int) + 1 - 1 = i := by omega
      simp (maxSteps := 4000000) (disch := omega) only [rr, aop, cV, cV1, AV.one, Qb, okW, Qd, app, Qa, Qc, Qe, Qf, Qg, simprocAttr, e2', e12, e13, bO, bY, gp, go, sp, so, ln, g0, g1, g2, g3, g4, hnM, hlen, e1', e2, e3, e4, e5, e6, e7', e8', e9, d1, d2, d3]
      refine ⟨j + r, by omega, by omega, ?_⟩
      show Le ob.length _ ⟨[(2, .int .i64 ((n - (j + r) : Nat) : Int)), (1, .int .u64 ((v / 2 ^ (j + r) : Nat) : Int)), (0, .ref p 1 0)], Xz ob o p (bY t0 (N + (j + r)) (V + 2 ^ N * (v % 2 ^ (j + r)))) (bO t o (N + (j + r)))⟩
      rw [hWW, hMr, el, er]
      exact hfz.drop hol (Nat.le_refl _) (by simp [Am.look, XP, hpl, e10])
    · have hnM : nB M = i + 1 := by unfold nB; omega
      have l3 : u8 (leB W (i + 1)) = u8 (leB W i) ++ [.int .u8 ((W / 256 ^ i : Nat) : Int)] := by
        rw [l1, show u8 (leB W i ++ [UInt8.ofNat (W / 256 ^ i)]) = u8 (leB W i) ++ u8 [UInt8.ofNat (W / 256 ^ i)] by simp [u8], hu _ hyb]
      have e12 : i + 1 - 1 = i := by omega
      have e13 : (i : Int) + 1 - 1 = i := by omega
      have ha0 : (a : Int) ≠ 0 := by omega
      generalize W / 256 ^ i = y at *
      simp (maxSteps := 4000000) (disch := omega) only [rr, aop, cV, cV1, AV.one, Qb, okW, Qd, app, Qa, Qc, Qe, Qf, Qg, simprocAttr, e12, e13, bO, bY, gp, go, sp, so, ln, hnM, hlen, l3, e1, e2, e3, e4, e5, e6, e7, e8, e9, d1, d2, d3]
      refine ⟨j + r, by omega, by omega, ?_⟩
      show Le ob.length _ ⟨[(2, .int .i64 ((n - (j + r) : Nat) : Int)), (1, .int .u64 ((v / 2 ^ (j + r) : Nat) : Int)), (0, .ref p 1 0)], Xz ob o p (bY t0 (N + (j + r)) (V + 2 ^ N * (v % 2 ^ (j + r)))) (bO t o (N + (j + r)))⟩
      rw [hWW, hMr, el, er]
      exact Le.slots (by simp [Am.look, e10])
  · obtain rfl : j = n := by omega
    rw [Nat.mod_eq_of_lt hv]
    simp (maxSteps := 4000000) (disch := omega) only [rr, aop, cV, cV1, AV.one, Qb, okW, Qd, app, Qa, Qc, Qe, Qf, Qg, simprocAttr]
    exact hK

end Go.Am

namespace Go.Am
open Go.RowKit

/-! ### Codes are read -/

theorem Qgs {P : Prg} {f f1 fL t : Nat} (bd : Qj P f 36 [] (Z0 f1 fL)) (b1 : Qj P f1 58 [] Qn) (hL : QdA P fL) {ob : List Ob} {p : Nat} {d : Dl} (hp : ob[p]? = some ⟨t, 4, 1, dlC d, 0⟩) (hd : okD d) {v : Nat} (hv : v < 4294967296) {K : AV → List Ob → Prop}
    (hK : K (.tup []) (ob.set p ⟨t, 4, 1, dlC (ZK d v), 0⟩)) : ACall P f [.ref p 1 0, .int .u32 v] ob K := by
  have hpl : p < ob.length := (List.getElem?_eq_some_iff.1 hp).1
  have hL' := hL d v hd hv
  have nph : ∀ cs, (⟨t, 4, 1, cs, 0⟩ : Ob) ≠ ph := fun cs e => by have := congrArg Ob.sz e; simp [ph] at this
  refine ACall.of_body bd (by simp) ?_
  unfold ZK at hK
  have hp0 := hp
  obtain ⟨k0, k1, s0, s1⟩ := d
  simp only [dlC] at hp
  simp only [dlA, dlC] at hL' hK
  by_cases c : v < 2 ^ k0
  · rw [if_pos c] at hL' hK
    simp (maxSteps := 4000000) (disch := omega) only [rr, aop, cV, cV1, AV.one, Qb, okW, Qd, app, Qa, Qc, Qe, Qf, Qg, simprocAttr, Z0, hp]
    refine Qh.vc hL' ?_
    simp (maxSteps := 4000000) (disch := omega) only [rr, aop, cV, cV1, AV.one, Qb, okW, Qd, app, Qa, Qc, Qe, Qf, Qg, simprocAttr, hp]
    refine callE.by hp0 (nph _) (fun K hK => Qdm b1 hp0 hd hv false hK) ?_
    simp (maxSteps := 4000000) (disch := omega) only [rr, aop, cV, cV1, AV.one, Qb, okW, Qd, app, Qa, Qc, Qe, Qf, Qg, simprocAttr]
    exact hK
  · rw [if_neg c] at hL' hK
    have hv2 : v - 2 ^ k0 < 4294967296 := Nat.lt_of_le_of_lt (Nat.sub_le _ _) hv
    obtain ⟨h1, h2, h3, h4⟩ := hd
    have pk := Qkk h2 h4 hv2
    simp only at h1 h2 h3 h4 pk
    generalize v - 2 ^ k0 = w at *
    simp (maxSteps := 4000000) (disch := omega) only [rr, aop, cV, cV1, AV.one, Qb, okW, Qd, app, Qa, Qc, Qe, Qf, Qg, simprocAttr, Z0, hp]
    refine Qh.vc hL' ?_
    simp (maxSteps := 4000000) (disch := omega) only [rr, aop, cV, cV1, AV.one, Qb, okW, Qd, app, Qa, Qc, Qe, Qf, Qg, simprocAttr, hp]
    refine callE.by hp0 (nph _) (fun K hK => Qdm b1 hp0 ⟨h1, h2, h3, h4⟩ hv2 true hK) ?_
    have hp1 : (ob.set p ⟨t, 4, 1, dlC ⟨k0, (Qa7 k1 s1 w).1, s0, (Qa7 k1 s1 w).2⟩, 0⟩)[p]? = some ⟨t, 4, 1, dlC ⟨k0, (Qa7 k1 s1 w).1, s0, (Qa7 k1 s1 w).2⟩, 0⟩ := by simp [hpl]
    have hp2 := hp1
    simp only [dlC] at hp2
    simp (maxSteps := 4000000) (disch := omega) only [rr, aop, cV, cV1, AV.one, Qb, okW, Qd, app, Qa, Qc, Qe, Qf, Qg, simprocAttr, dlC, hp2]
    refine callE.by hp1 (nph _) (fun K hK => Qdm b1 hp1 ⟨h1, pk.1, h3, pk.2⟩ hv false hK) ?_
    rw [List.set_set]
    simp (maxSteps := 4000000) (disch := omega) only [rr, aop, cV, cV1, AV.one, Qb, okW, Qd, app, Qa, Qc, Qe, Qf, Qg, simprocAttr]
    exact hK

theorem Qiw {P : Prg} {f : Nat} (bd : Qj P f 9 [.tmp 4] Xt) {v k : Nat} (hk : k ≤ 24) (hv : v < 4294967296) : VC P f [.int .u32 v, .int .i64 k] (.bool (decide (48 ≤ v / 2 ^ k))) := by
  refine VC.of_acall rfl rfl (ACall.of_body bd (by simp) ?_)
  have e1 : Qm false .u32 (v : Int) (k : Int) = some (.int .u32 ((v / 2 ^ k : Nat) : Int)) := QhV (K := .u32) (by show k ≤ 32; omega)
  generalize v / 2 ^ k = w at *
  have e2 : decide ((48 : Int) ≤ (w : Int)) = decide (48 ≤ w) := decide_eq_decide.2 (by omega)
  simp (maxSteps := 4000000) (disch := omega) only [rr, aop, cV, cV1, AV.one, Qb, okW, Qd, app, Qa, Qc, Qe, Qf, Qg, simprocAttr, Xt, e1, e2]
def QsB (P : Prg) (f : Nat) : Prop := ∀ v k : Nat, k ≤ 24 → v < 4294967296 → VC P f [.int .u32 v, .int .i64 k] (.bool (decide (48 ≤ v / 2 ^ k)))
theorem QrJ {P : Prg} {f : Nat} (bd : Qj P f 9 [.tmp 4] Xt) : QsB P f := by
  exact fun _ _ h1 h2 => Qiw bd h1 h2

def QcK (V N a k : Nat) : Nat ⊕ (Nat × Nat) :=
  match Qbl V N a with
  | .inl e => .inl e
  | .inr (q, nx) =>
    if N < nx + (if q = 48 then 32 else k) then .inl 24
    else if q < 48 then .inr (q * 2 ^ k + V / 2 ^ nx % 2 ^ k, nx + k)
    else if V / 2 ^ nx % 2 ^ 32 / 2 ^ k < 48 then .inl 12 else .inr (V / 2 ^ nx % 2 ^ 32, nx + 32)
def rcA : Nat ⊕ (Nat × Nat) → AV
  | .inl e => .tup [.int .u32 0, .int .i64 0, .int .i64 e]
  | .inr (v, n) => .tup [.int .u32 v, .int .i64 n, .int .i64 0]
theorem QtR (o : Nat ⊕ (Nat × Nat)) : isD (rcA o) = true := by cases o <;> rfl

theorem QlW {V N a q nx : Nat} (h : Qbl V N a = .inr (q, nx)) : q ≤ 48 ∧ nx ≤ N ∧ a ≤ nx := by
  unfold Qbl at h
  split at h
  · cases h
  split at h
  · cases h
    have := QgY (min 48 (N - a)) (V / 2 ^ a)
    omega
  split at h
  · cases h; omega
  · cases h
theorem Qiy {V N a e : Nat} (h : Qbl V N a = .inl e) : e = 24 := by
  unfold Qbl at h
  split at h
  · cases h; rfl
  split at h
  · cases h
  split at h
  · cases h
  · cases h; rfl

def Qlk (P : Prg) (f : Nat) : Prop := ∀ N V a k : Nat, V < 2 ^ N → N ≤ 330000 → a ≤ 400000 → k ≤ 24 → VC P f [bA N V, .int .i64 a, .int .i64 k] (rcA (QcK V N a k))
theorem Qpd {P : Prg} {f fC fU fG fE t0 : Nat} (bd : Qj P f 68 [.tmp 6, .tmp 7, .tmp 8] (Zo fC fU fG fE t0)) (hC : Xx P fC) (hU : Qli P fU) (hG : Qgy P fG) (hE : QsB P fE) : Qlk P f := by
  intro N V a k hV hN ha hk
  refine VC.of_acall (by simp [Qs, XC, isD]) (QtR _) (ACall.of_body bd (by simp) ?_)
  have hC' := hC N V hV hN
  have hU' := hU N V a hV hN ha
  rw [bA] at hC' hU'
  unfold QcK
  cases hu : Qbl V N a with
  | inl e =>
    have he := Qiy hu
    rw [hu] at hU'
    subst he
    simp (maxSteps := 4000000) (disch := omega) only [rr, aop, cV, cV1, AV.one, Qb, okW, Qd, app, Qa, Qc, Qe, Qf, Qg, simprocAttr, Zo, bA, rcA]
    refine Qh.vc hC' ?_
    simp (maxSteps := 4000000) (disch := omega) only [rr, aop, cV, cV1, AV.one, Qb, okW, Qd, app, Qa, Qc, Qe, Qf, Qg, simprocAttr]
    refine Qh.vc hU' ?_
    simp (maxSteps := 4000000) (disch := omega) only [rr, aop, cV, cV1, AV.one, Qb, okW, Qd, app, Qa, Qc, Qe, Qf, Qg, simprocAttr, Qov]
  | inr w =>
    obtain ⟨q, nx⟩ := w
    obtain ⟨u1, u2, u3⟩ := QlW hu
    rw [hu] at hU'
    simp only
    by_cases hq : q = 48
    · have hG' := hG N V nx 32 hV hN (by omega) (by omega)
      subst hq
      rw [bA] at hG'
      simp only [if_true]
      by_cases hs : N < nx + 32
      · rw [if_pos hs] at hG' ⊢
        simp (maxSteps := 4000000) (disch := omega) only [rr, aop, cV, cV1, AV.one, Qb, okW, Qd, app, Qa, Qc, Qe, Qf, Qg, simprocAttr, Zo, bA, rcA]
        refine Qh.vc hC' ?_
        simp (maxSteps := 4000000) (disch := omega) only [rr, aop, cV, cV1, AV.one, Qb, okW, Qd, app, Qa, Qc, Qe, Qf, Qg, simprocAttr]
        refine Qh.vc hU' ?_
        simp (maxSteps := 4000000) (disch := omega) only [rr, aop, cV, cV1, AV.one, Qb, okW, Qd, app, Qa, Qc, Qe, Qf, Qg, simprocAttr, Qov]
        refine Qh.vc hG' ?_
        simp (maxSteps := 4000000) (disch := omega) only [rr, aop, cV, cV1, AV.one, Qb, okW, Qd, app, Qa, Qc, Qe, Qf, Qg, simprocAttr]
      · rw [if_neg hs] at hG' ⊢
        have hx : V / 2 ^ nx % 2 ^ 32 < 4294967296 := Nat.mod_lt _ (by decide)
        generalize V / 2 ^ nx % 2 ^ 32 = x at *
        have hE' := hE x k hk hx
        rw [if_neg (by omega)]
        have e1 : IntKind.u32.wrap (x : Int) = x := QlE (by omega) (by omega)
        by_cases h4 : x / 2 ^ k < 48
        · rw [if_pos h4]
          rw [decide_eq_false (by omega)] at hE'
          simp (maxSteps := 4000000) (disch := omega) only [rr, aop, cV, cV1, AV.one, Qb, okW, Qd, app, Qa, Qc, Qe, Qf, Qg, simprocAttr, Zo, bA, rcA]
          refine Qh.vc hC' ?_
          simp (maxSteps := 4000000) (disch := omega) only [rr, aop, cV, cV1, AV.one, Qb, okW, Qd, app, Qa, Qc, Qe, Qf, Qg, simprocAttr]
          refine Qh.vc hU' ?_
          simp (maxSteps := 4000000) (disch := omega) only [rr, aop, cV, cV1, AV.one, Qb, okW, Qd, app, Qa, Qc, Qe, Qf, Qg, simprocAttr, Qov]
          refine Qh.vc hG' ?_
          simp (maxSteps := 4000000) (disch := omega) only [rr, aop, cV, cV1, AV.one, Qb, okW, Qd, app, Qa, Qc, Qe, Qf, Qg, simprocAttr]
          refine Qh.vc hE' ?_
          simp (maxSteps := 4000000) (disch := omega) only [rr, aop, cV, cV1, AV.one, Qb, okW, Qd, app, Qa, Qc, Qe, Qf, Qg, simprocAttr]
        · rw [if_neg h4]
          rw [decide_eq_true (by omega)] at hE'
          simp (maxSteps := 4000000) (disch := omega) only [rr, aop, cV, cV1, AV.one, Qb, okW, Qd, app, Qa, Qc, Qe, Qf, Qg, simprocAttr, Zo, bA, rcA]
          refine Qh.vc hC' ?_
          simp (maxSteps := 4000000) (disch := omega) only [rr, aop, cV, cV1, AV.one, Qb, okW, Qd, app, Qa, Qc, Qe, Qf, Qg, simprocAttr]
          refine Qh.vc hU' ?_
          simp (maxSteps := 4000000) (disch := omega) only [rr, aop, cV, cV1, AV.one, Qb, okW, Qd, app, Qa, Qc, Qe, Qf, Qg, simprocAttr, Qov]
          refine Qh.vc hG' ?_
          simp (maxSteps := 4000000) (disch := omega) only [rr, aop, cV, cV1, AV.one, Qb, okW, Qd, app, Qa, Qc, Qe, Qf, Qg, simprocAttr]
          refine Qh.vc hE' ?_
          simp (maxSteps := 4000000) (disch := omega) only [rr, aop, cV, cV1, AV.one, Qb, okW, Qd, app, Qa, Qc, Qe, Qf, Qg, simprocAttr]
    · have hG' := hG N V nx k hV hN (by omega) (by omega)
      rw [bA] at hG'
      rw [if_neg hq]
      by_cases hs : N < nx + k
      · rw [if_pos hs] at hG' ⊢
        simp (maxSteps := 4000000) (disch := omega) only [rr, aop, cV, cV1, AV.one, Qb, okW, Qd, app, Qa, Qc, Qe, Qf, Qg, simprocAttr, Zo, bA, rcA]
        refine Qh.vc hC' ?_
        simp (maxSteps := 4000000) (disch := omega) only [rr, aop, cV, cV1, AV.one, Qb, okW, Qd, app, Qa, Qc, Qe, Qf, Qg, simprocAttr]
        refine Qh.vc hU' ?_
        simp (maxSteps := 4000000) (disch := omega) only [rr, aop, cV, cV1, AV.one, Qb, okW, Qd, app, Qa, Qc, Qe, Qf, Qg, simprocAttr, Qov]
        refine Qh.vc hG' ?_
        simp (maxSteps := 4000000) (disch := omega) only [rr, aop, cV, cV1, AV.one, Qb, okW, Qd, app, Qa, Qc, Qe, Qf, Qg, simprocAttr]
      · rw [if_neg hs] at hG' ⊢
        rw [if_pos (by omega)]
        have hx : V / 2 ^ nx % 2 ^ k < 2 ^ k := Nat.mod_lt _ (Nat.pow_pos (by omega))
        obtain ⟨pk, _⟩ := p24 hk
        have hqk : q * 2 ^ k ≤ 47 * 16777216 := Nat.mul_le_mul (by omega) pk
        have e1 : Qm true .u32 (q : Int) (k : Int) = some (.int .u32 ((q * 2 ^ k : Nat) : Int)) := Qob (K := .u32) rfl (by show k ≤ 32; omega) (by show q * 2 ^ k < 4294967296; omega)
        have e2 : IntKind.u32.wrap (BitVec.ofInt IntKind.u32.bits ((q * 2 ^ k : Nat) : Int) ||| BitVec.ofInt IntKind.u32.bits ((V / 2 ^ nx % 2 ^ k : Nat) : Int)).toNat = ((q * 2 ^ k + V / 2 ^ nx % 2 ^ k : Nat) : Int) := by
          rw [orK (K := .u32) rfl (by show q * 2 ^ k < 4294967296; omega) (by show V / 2 ^ nx % 2 ^ k < 4294967296; omega), Nat.or_comm, QiB hx, Nat.add_comm]
        generalize V / 2 ^ nx % 2 ^ k = x at *
        generalize q * 2 ^ k + x = y at *
        generalize q * 2 ^ k = qk at *
        simp (maxSteps := 4000000) (disch := omega) only [rr, aop, cV, cV1, AV.one, Qb, okW, Qd, app, Qa, Qc, Qe, Qf, Qg, simprocAttr, Zo, bA, rcA]
        refine Qh.vc hC' ?_
        simp (maxSteps := 4000000) (disch := omega) only [rr, aop, cV, cV1, AV.one, Qb, okW, Qd, app, Qa, Qc, Qe, Qf, Qg, simprocAttr]
        refine Qh.vc hU' ?_
        simp (maxSteps := 4000000) (disch := omega) only [rr, aop, cV, cV1, AV.one, Qb, okW, Qd, app, Qa, Qc, Qe, Qf, Qg, simprocAttr, Qov]
        refine Qh.vc hG' ?_
        simp (maxSteps := 4000000) (disch := omega) only [rr, aop, cV, cV1, AV.one, Qb, okW, Qd, app, Qa, Qc, Qe, Qf, Qg, simprocAttr, e1, e2]

end Go.Am

namespace Go.Am
open Go.RowKit

def QiP (V N a : Nat) (d : Dl) : Nat ⊕ (Nat × Nat) :=
  if N ≤ a then .inl 24
  else if V / 2 ^ a % 2 = 0 then (if N < a + 1 + d.k0 then .inl 24 else .inr (V / 2 ^ (a + 1) % 2 ^ d.k0, a + 1 + d.k0))
  else match QcK V N (a + 1) d.k1 with
    | .inl e => .inl e
    | .inr (l, nx) => if 4294967295 < l + 2 ^ d.k0 then .inl 12 else .inr (l + 2 ^ d.k0, nx)

theorem Qpc {V N a k v nx : Nat} (hk : k ≤ 24) (h : QcK V N a k = .inr (v, nx)) : v < 4294967296 ∧ nx ≤ N := by
  unfold QcK at h
  cases hu : Qbl V N a with
  | inl e => rw [hu] at h; cases h
  | inr w =>
    obtain ⟨q, n⟩ := w
    obtain ⟨u1, u2, u3⟩ := QlW hu
    rw [hu] at h
    simp only at h
    by_cases hs : N < n + (if q = 48 then 32 else k)
    · rw [if_pos hs] at h; cases h
    rw [if_neg hs] at h
    by_cases hq : q < 48
    · rw [if_pos hq] at h
      cases h
      obtain ⟨pk, _⟩ := p24 hk
      have hx : V / 2 ^ n % 2 ^ k < 2 ^ k := Nat.mod_lt _ (Nat.pow_pos (by omega))
      have hqk : q * 2 ^ k ≤ 47 * 16777216 := Nat.mul_le_mul (by omega) pk
      rw [if_neg (show ¬ q = 48 by omega)] at hs
      exact ⟨by omega, by omega⟩
    · rw [if_neg hq] at h
      rw [if_pos (show q = 48 by omega)] at hs
      by_cases h4 : V / 2 ^ n % 2 ^ 32 / 2 ^ k < 48
      · rw [if_pos h4] at h; cases h
      · rw [if_neg h4] at h
        cases h
        exact ⟨Nat.mod_lt _ (by decide), by omega⟩
theorem QlT {V N a k e : Nat} (h : QcK V N a k = .inl e) : e = 24 ∨ e = 12 := by
  unfold QcK at h
  cases hu : Qbl V N a with
  | inl e' => rw [hu] at h; cases h; exact .inl (Qiy hu)
  | inr w =>
    obtain ⟨q, n⟩ := w
    rw [hu] at h
    simp only at h
    by_cases hs : N < n + (if q = 48 then 32 else k)
    · rw [if_pos hs] at h; cases h; exact .inl rfl
    rw [if_neg hs] at h
    by_cases hq : q < 48
    · rw [if_pos hq] at h; cases h
    · rw [if_neg hq] at h
      by_cases h4 : V / 2 ^ n % 2 ^ 32 / 2 ^ k < 48
      · rw [if_pos h4] at h; cases h; exact .inr rfl
      · rw [if_neg h4] at h; cases h
theorem Qml {V N a v nx : Nat} {d : Dl} (hd : okD d) (h : QiP V N a d = .inr (v, nx)) : v < 4294967296 ∧ nx ≤ N := by
  obtain ⟨pk, _⟩ := p24 hd.1
  unfold QiP at h
  split at h
  · cases h
  split at h
  · split at h
    · cases h
    · cases h
      have : V / 2 ^ (a + 1) % 2 ^ d.k0 < 2 ^ d.k0 := Nat.mod_lt _ (Nat.pow_pos (by omega))
      exact ⟨by omega, by omega⟩
  · cases hr : QcK V N (a + 1) d.k1 with
    | inl e => rw [hr] at h; cases h
    | inr w =>
      obtain ⟨l, n⟩ := w
      rw [hr] at h
      simp only at h
      split at h
      · cases h
      · cases h
        exact ⟨by omega, (Qpc hd.2.1 hr).2⟩
theorem QpQ {V N a e : Nat} {d : Dl} (h : QiP V N a d = .inl e) : e = 24 ∨ e = 12 := by
  unfold QiP at h
  split at h
  · cases h; exact .inl rfl
  split at h
  · split at h
    · cases h; exact .inl rfl
    · cases h
  · cases hr : QcK V N (a + 1) d.k1 with
    | inl e' => rw [hr] at h; cases h; exact QlT hr
    | inr w =>
      obtain ⟨l, n⟩ := w
      rw [hr] at h
      simp only at h
      split at h
      · cases h; exact .inr rfl
      · cases h

def drA (d : Dl) : Nat ⊕ (Nat × Nat) → AV
  | .inl e => .tup [.int .u32 0, .int .i64 0, dlA ⟨0, 0, 0, 0⟩, .int .i64 e]
  | .inr (v, nx) => .tup [.int .u32 v, .int .i64 nx, dlA (ZK d v), .int .i64 0]
def Qlm (P : Prg) (f : Nat) : Prop := ∀ (N V a : Nat) (d : Dl), V < 2 ^ N → N ≤ 330000 → a ≤ 300000 → okD d → VC P f [bA N V, .int .i64 a, dlA d] (drA d (QiP V N a d))
theorem Qqe {P : Prg} {f fC fD fG fR fL fl1 fll t0 t1 : Nat} (bd : Qj P f 86 [.tmp 6, .tmp 7, .cell 8 t1, .tmp 9] (Zp fC fD fG fR fL t0 t1)) (hC : Xx P fC) (hD : Qew P fD) (hG : Qgy P fG) (hR : Qlk P fR)
    (bL : Qj P fL 36 [] (Z0 fl1 fll)) (b1 : Qj P fl1 58 [] Qn) (hL : QdA P fll) (ht : ZG P t1 = some (some 4)) : Qlm P f := by
  intro N V a d hV hN ha hd
  refine VC.of_acall (by simp [Qs, XC, Qkw, isD]) (by cases QiP V N a d <;> rfl) (ACall.of_body bd (by simp) ?_)
  have hd' := hd
  have hC' := hC N V hV hN
  have hD' := hD d hd
  have hgl := fun v nx (h : QiP V N a d = .inr (v, nx)) => Qml hd h
  have hL1 : ∀ {ob : List Ob} {p : Nat} {v : Nat} {K : AV → List Ob → Prop}, ob[p]? = some ⟨t1, 4, 1, dlC d, 0⟩ → v < 4294967296 → K (.tup []) (ob.set p ⟨t1, 4, 1, dlC (ZK d v), 0⟩) → ACall P fL [.ref p 1 0, .int .u32 v] ob K :=
    fun hp hv hK => Qgs bL b1 hL hp hd hv hK
  rw [bA] at hC'
  obtain ⟨k0, k1, s0, s1⟩ := d
  obtain ⟨h1, h2, h3, h4⟩ := hd'
  simp only at h1 h2 h3 h4
  obtain ⟨pk, _⟩ := p24 h1
  have hG1 := hG N V a 1 hV hN (by omega) (by omega)
  rw [bA] at hG1
  simp only [dlA, dlC] at hD'
  unfold QiP at hgl ⊢
  by_cases hlt : N ≤ a
  · rw [if_pos hlt]
    rw [if_pos (by omega)] at hG1
    simp (maxSteps := 4000000) (disch := omega) only [rr, aop, cV, cV1, AV.one, Qb, okW, Qd, app, Qa, Qc, Qe, Qf, Qg, simprocAttr, Zp, bA, drA, dlA, dlC]
    refine Qh.vc hC' ?_
    simp (maxSteps := 4000000) (disch := omega) only [rr, aop, cV, cV1, AV.one, Qb, okW, Qd, app, Qa, Qc, Qe, Qf, Qg, simprocAttr]
    refine Qh.vc hD' ?_
    simp (maxSteps := 4000000) (disch := omega) only [rr, aop, cV, cV1, AV.one, Qb, okW, Qd, app, Qa, Qc, Qe, Qf, Qg, simprocAttr]
    refine Qh.vc hG1 ?_
    simp (maxSteps := 4000000) (disch := omega) only [rr, aop, cV, cV1, AV.one, Qb, okW, Qd, app, Qa, Qc, Qe, Qf, Qg, simprocAttr, ZU, ht, Zi]
  rw [if_neg hlt] at hgl ⊢
  rw [if_neg (by omega)] at hG1
  have hb : V / 2 ^ a % 2 < 2 := Nat.mod_lt _ (by decide)
  rw [Nat.pow_one] at hG1
  by_cases h0 : V / 2 ^ a % 2 = 0
  · rw [if_pos h0] at hgl ⊢
    rw [h0] at hG1
    simp only at hgl ⊢
    have hG2 : VC P fG [bA N V, .int .i64 ((a : Int) + 1), .int .i64 k0] (if N < a + 1 + k0 then .tup [.int .u64 0, .int .i64 24] else .tup [.int .u64 ((V / 2 ^ (a + 1) % 2 ^ k0 : Nat) : Int), .int .i64 0]) := hG N V (a + 1) k0 hV hN (by omega) (by omega)
    rw [bA] at hG2
    by_cases hs : N < a + 1 + k0
    · rw [if_pos hs] at hG2 ⊢
      simp (maxSteps := 4000000) (disch := omega) only [rr, aop, cV, cV1, AV.one, Qb, okW, Qd, app, Qa, Qc, Qe, Qf, Qg, simprocAttr, Zp, bA, drA, dlA, dlC]
      refine Qh.vc hC' ?_
      simp (maxSteps := 4000000) (disch := omega) only [rr, aop, cV, cV1, AV.one, Qb, okW, Qd, app, Qa, Qc, Qe, Qf, Qg, simprocAttr]
      refine Qh.vc hD' ?_
      simp (maxSteps := 4000000) (disch := omega) only [rr, aop, cV, cV1, AV.one, Qb, okW, Qd, app, Qa, Qc, Qe, Qf, Qg, simprocAttr]
      refine Qh.vc hG1 ?_
      simp (maxSteps := 4000000) (disch := omega) only [rr, aop, cV, cV1, AV.one, Qb, okW, Qd, app, Qa, Qc, Qe, Qf, Qg, simprocAttr]
      refine Qh.vc hG2 ?_
      simp (maxSteps := 4000000) (disch := omega) only [rr, aop, cV, cV1, AV.one, Qb, okW, Qd, app, Qa, Qc, Qe, Qf, Qg, simprocAttr, ZU, ht, Zi]
    · rw [if_neg hs] at hG2 hgl ⊢
      have hx : V / 2 ^ (a + 1) % 2 ^ k0 < 2 ^ k0 := Nat.mod_lt _ (Nat.pow_pos (by omega))
      generalize V / 2 ^ (a + 1) % 2 ^ k0 = x at *
      simp (maxSteps := 4000000) (disch := omega) only [rr, aop, cV, cV1, AV.one, Qb, okW, Qd, app, Qa, Qc, Qe, Qf, Qg, simprocAttr, Zp, bA, drA, dlA, dlC]
      refine Qh.vc hC' ?_
      simp (maxSteps := 4000000) (disch := omega) only [rr, aop, cV, cV1, AV.one, Qb, okW, Qd, app, Qa, Qc, Qe, Qf, Qg, simprocAttr]
      refine Qh.vc hD' ?_
      simp (maxSteps := 4000000) (disch := omega) only [rr, aop, cV, cV1, AV.one, Qb, okW, Qd, app, Qa, Qc, Qe, Qf, Qg, simprocAttr]
      refine Qh.vc hG1 ?_
      simp (maxSteps := 4000000) (disch := omega) only [rr, aop, cV, cV1, AV.one, Qb, okW, Qd, app, Qa, Qc, Qe, Qf, Qg, simprocAttr]
      refine Qh.vc hG2 ?_
      simp (maxSteps := 4000000) (disch := omega) only [rr, aop, cV, cV1, AV.one, Qb, okW, Qd, app, Qa, Qc, Qe, Qf, Qg, simprocAttr]
      refine hL1 (v := x) rfl (by omega) ?_
      generalize ZK ⟨k0, k1, s0, s1⟩ x = d'
      obtain ⟨l0, l1, l2, l3⟩ := d'
      simp (maxSteps := 4000000) (disch := omega) only [rr, aop, cV, cV1, AV.one, Qb, okW, Qd, app, Qa, Qc, Qe, Qf, Qg, simprocAttr, ZU, ht, Zi, dlC]
  · rw [if_neg h0] at hgl ⊢
    rw [show V / 2 ^ a % 2 = 1 by omega] at hG1
    have hR' : VC P fR [bA N V, .int .i64 ((a : Int) + 1), .int .i64 k1] (rcA (QcK V N (a + 1) k1)) := hR N V (a + 1) k1 hV hN (by omega) h2
    rw [bA] at hR'
    simp only at hgl ⊢
    cases hr : QcK V N (a + 1) k1 with
    | inl e =>
      have he := QlT hr
      rw [hr] at hR'
      have he0 : (e : Int) ≠ 0 := by omega
      simp (maxSteps := 4000000) (disch := omega) only [rr, aop, cV, cV1, AV.one, Qb, okW, Qd, app, Qa, Qc, Qe, Qf, Qg, simprocAttr, Zp, bA, drA, dlA, dlC]
      refine Qh.vc hC' ?_
      simp (maxSteps := 4000000) (disch := omega) only [rr, aop, cV, cV1, AV.one, Qb, okW, Qd, app, Qa, Qc, Qe, Qf, Qg, simprocAttr]
      refine Qh.vc hD' ?_
      simp (maxSteps := 4000000) (disch := omega) only [rr, aop, cV, cV1, AV.one, Qb, okW, Qd, app, Qa, Qc, Qe, Qf, Qg, simprocAttr]
      refine Qh.vc hG1 ?_
      simp (maxSteps := 4000000) (disch := omega) only [rr, aop, cV, cV1, AV.one, Qb, okW, Qd, app, Qa, Qc, Qe, Qf, Qg, simprocAttr]
      refine Qh.vc hR' ?_
      simp (maxSteps := 4000000) (disch := omega) only [rr, aop, cV, cV1, AV.one, Qb, okW, Qd, app, Qa, Qc, Qe, Qf, Qg, simprocAttr, rcA, ZU, ht, Zi]
    | inr w =>
      obtain ⟨l, nx⟩ := w
      obtain ⟨r1, r2⟩ := Qpc h2 hr
      rw [hr] at hR' hgl
      simp only at hgl ⊢
      have e2 : Qm true .u32 1 (k0 : Int) = some (.int .u32 ((2 ^ k0 : Nat) : Int)) := by
        have := Qob (K := .u32) rfl (c := 1) (s := k0) (by show k0 ≤ 32; omega) (by show 1 * 2 ^ k0 < 4294967296; omega)
        rw [Nat.one_mul] at this
        exact this
      have hp0 : 0 < 2 ^ k0 := Nat.pow_pos (by omega)
      generalize 2 ^ k0 = p at *
      by_cases ho : 4294967295 < l + p
      · rw [if_pos ho]
        have e3 : IntKind.u32.wrap ((l : Int) + p) = (l : Int) + p - 4294967296 := by rw [XU]; omega
        simp (maxSteps := 4000000) (disch := omega) only [rr, aop, cV, cV1, AV.one, Qb, okW, Qd, app, Qa, Qc, Qe, Qf, Qg, simprocAttr, Zp, bA, drA, dlA, dlC]
        refine Qh.vc hC' ?_
        simp (maxSteps := 4000000) (disch := omega) only [rr, aop, cV, cV1, AV.one, Qb, okW, Qd, app, Qa, Qc, Qe, Qf, Qg, simprocAttr]
        refine Qh.vc hD' ?_
        simp (maxSteps := 4000000) (disch := omega) only [rr, aop, cV, cV1, AV.one, Qb, okW, Qd, app, Qa, Qc, Qe, Qf, Qg, simprocAttr]
        refine Qh.vc hG1 ?_
        simp (maxSteps := 4000000) (disch := omega) only [rr, aop, cV, cV1, AV.one, Qb, okW, Qd, app, Qa, Qc, Qe, Qf, Qg, simprocAttr]
        refine Qh.vc hR' ?_
        simp (maxSteps := 4000000) (disch := omega) only [rr, aop, cV, cV1, AV.one, Qb, okW, Qd, app, Qa, Qc, Qe, Qf, Qg, simprocAttr, rcA, e2, e3, ZU, ht, Zi]
      · rw [if_neg ho]
        simp (maxSteps := 4000000) (disch := omega) only [rr, aop, cV, cV1, AV.one, Qb, okW, Qd, app, Qa, Qc, Qe, Qf, Qg, simprocAttr, Zp, bA, drA, dlA, dlC]
        refine Qh.vc hC' ?_
        simp (maxSteps := 4000000) (disch := omega) only [rr, aop, cV, cV1, AV.one, Qb, okW, Qd, app, Qa, Qc, Qe, Qf, Qg, simprocAttr]
        refine Qh.vc hD' ?_
        simp (maxSteps := 4000000) (disch := omega) only [rr, aop, cV, cV1, AV.one, Qb, okW, Qd, app, Qa, Qc, Qe, Qf, Qg, simprocAttr]
        refine Qh.vc hG1 ?_
        simp (maxSteps := 4000000) (disch := omega) only [rr, aop, cV, cV1, AV.one, Qb, okW, Qd, app, Qa, Qc, Qe, Qf, Qg, simprocAttr]
        refine Qh.vc hR' ?_
        simp (maxSteps := 4000000) (disch := omega) only [rr, aop, cV, cV1, AV.one, Qb, okW, Qd, app, Qa, Qc, Qe, Qf, Qg, simprocAttr, rcA, e2]
        refine hL1 (v := l + p) rfl (by omega) ?_
        generalize ZK ⟨k0, k1, s0, s1⟩ (l + p) = d'
        obtain ⟨l0, l1, l2, l3⟩ := d'
        simp (maxSteps := 4000000) (disch := omega) only [rr, aop, cV, cV1, AV.one, Qb, okW, Qd, app, Qa, Qc, Qe, Qf, Qg, simprocAttr, ZU, ht, Zi, dlC]

end Go.Am

namespace Go.Am
open Go.RowKit

/-! ### Bits of bytes, bits cut out -/

theorem Qiq {P : Prg} {f t0 : Nat} (b : Qj P f 8 [.tmp 2] (QG t0)) : Js P f := by
  exact QkZ b

theorem QuS (l : List UInt8) : nB (8 * l.length) = l.length := by unfold nB; omega
theorem Qvl (l : List UInt8) : bA (8 * l.length) (leN l) = .agg [bs l, .int .i64 ((8 * l.length : Nat) : Int)] := by
  rw [bA, QuS, Qg2]; rfl
theorem QtM (l : List UInt8) : leN l < 2 ^ (8 * l.length) := QiI l

def ofA (l : List UInt8) : AV := if 41250 < l.length then .tup [bA 0 0, .int .i64 4] else .tup [bA (8 * l.length) (leN l), .int .i64 0]
def Quq (P : Prg) (f : Nat) : Prop := ∀ l : List UInt8, l.length ≤ 1000000 → VC P f [bs l] (ofA l)
theorem Quh {P : Prg} {f fC t0 : Nat} (bd : Qj P f 14 [.cell 2 t0, .tmp 3] (QbQ fC t0)) (hC : Js P fC) (ht : ZG P t0 = some (some 2)) : Quq P f := by
  intro l hl
  refine VC.of_walk 2 (by simp [Qs, X3]) (by unfold ofA; split <;> simp [isD, Qs, XC]) (ACall.of_body bd (by simp) ?_)
  have hC' := hC l (by omega)
  simp only [bs] at hC'
  unfold ofA
  by_cases h : 41250 < l.length
  · rw [if_pos h]
    simp (maxSteps := 4000000) (disch := omega) only [rr, aop, cV, cV1, AV.one, Qb, okW, Qd, app, Qa, Qc, Qe, Qf, Qg, simprocAttr, QbQ, bs, ZU, ht, Zi]
    simp [Zr, QJ, QO, QI, bA, nB, leB, u8]
  · rw [if_neg h, Qvl]
    simp (maxSteps := 4000000) (disch := omega) only [rr, aop, cV, cV1, AV.one, Qb, okW, Qd, app, Qa, Qc, Qe, Qf, Qg, simprocAttr, QbQ, bs]
    refine Qh.vc hC' ?_
    simp (maxSteps := 4000000) (disch := omega) only [rr, aop, cV, cV1, AV.one, Qb, okW, Qd, app, Qa, Qc, Qe, Qf, Qg, simprocAttr, ZU, ht, Zi]
    simp [Zr, QJ, QO, QI, Qr _ (Xl _), bs]

def Quv (P : Prg) (f : Nat) : Prop := ∀ N V a b : Nat, V < 2 ^ N → N ≤ 330000 → a ≤ b → b ≤ N → VC P f [bA N V, .int .i64 a, .int .i64 b] (.tup [bA (b - a) (V / 2 ^ a % 2 ^ (b - a)), .int .i64 0])
set_option maxHeartbeats 1000000 in
theorem Qsx {P : Prg} {f fC fG fP t0 tp : Nat} (bd : Qj P f 46 [.cell 6 t0, .tmp 7] (Qct fC fG fP t0)) (hC : Xx P fC) (hG : QmK P fG) (bP : Qj P fP 75 [] (JK tp)) (ht : ZG P t0 = some (some 2)) : Quv P f := by
  intro N V a b hV hN hab hbN
  refine VC.of_walk 2 (by simp [Qs, XC, isD]) (by simp [isD, Qs, XC]) (ACall.of_body bd (by simp) ?_)
  have hC' := hC N V hV hN
  rw [bA] at hC'
  have tu : X2 (u8 (leB V (nB N))) = true := Xl _
  simp (maxSteps := 4000000) (disch := omega) only [rr, aop, cV, cV1, AV.one, Qb, okW, Qd, app, Qa, Qc, Qe, Qf, Qg, simprocAttr, Qct, bA]
  refine Qh.vc hC' ?_
  simp (maxSteps := 4000000) (disch := omega) only [rr, aop, cV, cV1, AV.one, Qb, okW, Qd, app, Qa, Qc, Qe, Qf, Qg, simprocAttr]
  refine QW.by (ι := Nat) (fun k => ⟨[(9, .int .i64 ((a + 64 * k : Nat) : Int)), (8, .ref 2 1 0), (7, .int .i64 0), (6, .ref 1 1 0), (3, .ref 0 1 0), (2, .int .i64 b)],
      [⟨t0, 2, 1, [.list (nB N) (u8 (leB V (nB N))), .int .i64 N], 0⟩, ⟨t0, 2, 1, [.own 3 0, .int .i64 0], 0⟩, bO t0 4 (min (64 * k) (b - a)), ⟨tp, 1, 0, [], 0⟩, bY tp (min (64 * k) (b - a)) (V / 2 ^ a % 2 ^ min (64 * k) (b - a))]⟩)
    (fun k => 64 * k < b - a + 64) (fun k => b - a + 64 - 64 * k) 0 ?_ (by omega) ?_
  · refine Le.trans (Le.virtF 1 tp 1 (by decide) rfl rfl) ?_
    refine Le.trans (Le.virtF 2 tp 1 (by decide) rfl rfl) ?_
    simp only [List.length_cons, List.length_nil, List.set_cons_succ, List.set_cons_zero, List.cons_append, List.nil_append, List.length_append]
    rw [Nat.mul_zero, Nat.zero_min, Nat.pow_zero, Nat.mod_one]
    exact Le.slots (by simp [Am.look])
  intro k hk
  by_cases hlt : a + 64 * k < b
  · obtain ⟨n, hn⟩ : ∃ n, n = min 64 (b - (a + 64 * k)) := ⟨_, rfl⟩
    have hm : min (64 * k) (b - a) = 64 * k := by omega
    have hG' := hG N V (a + 64 * k) n hV (by omega) (by omega) (by omega)
    rw [bA] at hG'
    have e1 : (if (b : Int) - ((a + 64 * k : Nat) : Int) < 64 then (b : Int) - ((a + 64 * k : Nat) : Int) else 64) = (n : Int) := by split <;> omega
    have hv : V / 2 ^ (a + 64 * k) % 2 ^ n < 2 ^ n := Nat.mod_lt _ (Nat.pow_pos (by omega))
    have hW : V / 2 ^ a % 2 ^ (64 * k) < 2 ^ (64 * k) := Nat.mod_lt _ (Nat.pow_pos (by omega))
    have hs := Qmm (X := V / 2 ^ a) (h := 64 * k) (t := n)
    rw [Nat.div_div_eq_div_mul, ← Nat.pow_add, Nat.mul_comm (V / 2 ^ (a + 64 * k) % 2 ^ n)] at hs
    rw [hm]
    generalize hvv : V / 2 ^ (a + 64 * k) % 2 ^ n = v at *
    generalize hWW : V / 2 ^ a % 2 ^ (64 * k) = W at *
    obtain ⟨s, hs0⟩ : ∃ s, s = a + 64 * k := ⟨_, rfl⟩
    rw [← hs0] at hG' e1 ⊢
    simp (maxSteps := 4000000) (disch := omega) only [rr, aop, cV, cV1, AV.one, Qb, okW, Qd, app, Qa, Qc, Qe, Qf, Qg, simprocAttr, e1]
    refine Qh.vc hG' ?_
    simp (maxSteps := 4000000) (disch := omega) only [rr, aop, cV, cV1, AV.one, Qb, okW, Qd, app, Qa, Qc, Qe, Qf, Qg, simprocAttr]
    refine QmF bP (ob := [⟨t0, 2, 1, [.list (nB N) (u8 (leB V (nB N))), .int .i64 N], 0⟩, ⟨t0, 2, 1, [.own 3 0, .int .i64 0], 0⟩, bO t0 4 (64 * k), ⟨tp, 1, 0, [], 0⟩, bY tp (64 * k) W]) (p := 2) (o := 4) (t := t0) rfl rfl (by decide) hW hv (by omega) (by omega) ?_ ?_
    · refine Low.cons ?_ (Low.cons ?_ (Low.cons ?_ (Low.cons ?_ (Low.cons ?_ Low.nil)))) <;> simp [bO, bY, Qb5, XP, XA _ (Ji _ _)]
    · simp only [Xz, List.set_cons_succ, List.set_cons_zero]
      rw [← hs]
      have hm2 : min (64 * (k + 1)) (b - a) = 64 * k + n := by omega
      simp (maxSteps := 4000000) (disch := omega) only [rr, aop, cV, cV1, AV.one, Qb, okW, Qd, app, Qa, Qc, Qe, Qf, Qg, simprocAttr]
      refine ⟨k + 1, by omega, by omega, ?_⟩
      rw [hm2]
      exact Le.slots (by simp [Am.look, hs0]; omega)
  · have hm : min (64 * k) (b - a) = b - a := by omega
    rw [hm]
    generalize V / 2 ^ a % 2 ^ (b - a) = W at *
    obtain ⟨s, hs0⟩ : ∃ s, s = a + 64 * k := ⟨_, rfl⟩
    rw [← hs0]
    simp (maxSteps := 4000000) (disch := omega) only [rr, aop, cV, cV1, AV.one, Qb, okW, Qd, app, Qa, Qc, Qe, Qf, Qg, simprocAttr, bO, bY, ZU, ht, Zi]
    simp [Zr, QJ, QO, QI, Qr _ (Xl _)]

end Go.Am

namespace Go.Am
open Go.RowKit

/-! ### The values of a frame (plain) -/

def QM (c r : Nat) (v : List Nat) : Dl := ((List.range v.length).filter fun j => j % c == r).foldl (fun d j => ZK d (v.getD j 0)) Qp

theorem QcY {c r x : Nat} {v : List Nat} : QM c r (v ++ [x]) = if v.length % c = r then ZK (QM c r v) x else QM c r v := by
  have h1 : ∀ (l : List Nat) (d : Dl), (∀ j ∈ l, j < v.length) → l.foldl (fun d j => ZK d ((v ++ [x]).getD j 0)) d = l.foldl (fun d j => ZK d (v.getD j 0)) d := by
    intro l
    induction l with
    | nil => intro d _; rfl
    | cons a l ih =>
      intro d h
      simp only [List.foldl_cons]
      have ha : a < v.length := h a (by simp)
      rw [ih _ fun j hj => h j (by simp [hj])]
      congr 2
      rw [List.getD_eq_getElem?_getD, List.getD_eq_getElem?_getD, List.getElem?_append_left ha]
  unfold QM
  rw [List.length_append, List.length_cons, List.length_nil, Nat.zero_add, List.range_succ, List.filter_append, List.foldl_append]
  have hf := h1 ((List.range v.length).filter fun j => j % c == r) Qp (fun j hj => by
    have := (List.mem_filter.1 hj).1
    simpa using this)
  rw [hf]
  have hx : (v ++ [x]).getD v.length 0 = x := by simp [List.getD_eq_getElem?_getD]
  by_cases h : v.length % c = r
  · rw [if_pos h]
    have : (List.filter (fun j => j % c == r) [v.length]) = [v.length] := by simp [h]
    rw [this]
    simp only [List.foldl_cons, List.foldl_nil]
    rw [hx]
  · rw [if_neg h]
    have : (List.filter (fun j => j % c == r) [v.length]) = [] := by simp [h]
    rw [this]
    rfl

def N32 (v : List Nat) : Prop := ∀ x ∈ v, x < 4294967296
theorem Qfd {c r : Nat} {v : List Nat} (h : N32 v) : okD (QM c r v) := by
  unfold QM
  have key : ∀ (l : List Nat) (d : Dl), okD d → (∀ j ∈ l, j < v.length) → okD (l.foldl (fun d j => ZK d (v.getD j 0)) d) := by
    intro l
    induction l with
    | nil => intro d h _; exact h
    | cons a l ih =>
      intro d hd hl
      have ha : a < v.length := hl a (by simp)
      refine ih _ (Qr0 hd ?_) fun j hj => hl j (by simp [hj])
      rw [List.getD_eq_getElem?_getD, List.getElem?_eq_getElem ha]
      exact h _ (List.getElem_mem ha)
  exact key _ _ Qrs fun j hj => by
    have := (List.mem_filter.1 hj).1
    simpa using this

def Qgd (N a : Nat) : Nat := min (a + 81) N - a
def Qpn (V N a : Nat) : Nat := V / 2 ^ a % 2 ^ Qgd N a
def Jy (V N c : Nat) : Nat → List Nat → Nat → (Nat × List Nat) ⊕ (List Nat × Nat)
  | 0, out, a => .inr (out, a)
  | k + 1, out, a =>
    match QiP (Qpn V N a) (Qgd N a) 0 (QM c (out.length % c) out) with
    | .inl e => .inl (e, out)
    | .inr (v, nx) => Jy V N c k (out ++ [v]) (a + nx)

theorem Qtz (V N a : Nat) : Qpn V N a < 2 ^ Qgd N a := Nat.mod_lt _ (Nat.pow_pos (by omega))

def QfF (V N a : Nat) : Nat := if 7 < N - a then 12 else if V / 2 ^ a = 0 then 0 else 12

theorem Qbf {V N c : Nat} : ∀ (k : Nat) (out : List Nat) (a : Nat), a ≤ N → N32 out → (∀ e o, Jy V N c k out a = .inl (e, o) → (e = 24 ∨ e = 12) ∧ N32 o ∧ o.length ≤ out.length + k) ∧ (∀ o b, Jy V N c k out a = .inr (o, b) → N32 o ∧ b ≤ N ∧ o.length = out.length + k)
  | 0, out, a, ha, ho => by
    refine ⟨fun e o h => (by simp only [Jy] at h; cases h), fun o b h => ?_⟩
    simp only [Jy] at h
    cases h
    exact ⟨ho, ha, rfl⟩
  | k + 1, out, a, ha, ho => by
    have hd := Qfd (c := c) (r := out.length % c) ho
    cases hg : QiP (Qpn V N a) (Qgd N a) 0 (QM c (out.length % c) out) with
    | inl e =>
      have he := QpQ hg
      simp only [Jy, hg]
      refine ⟨fun e' o h => ?_, fun o b h => (by cases h)⟩
      cases h
      exact ⟨he, ho, by omega⟩
    | inr p =>
      obtain ⟨v, nx⟩ := p
      obtain ⟨h1, h2⟩ := Qml hd hg
      have hp : Qgd N a ≤ N - a := by unfold Qgd; omega
      have ho' : N32 (out ++ [v]) := fun x hx => by
        rcases List.mem_append.1 hx with h | h
        · exact ho x h
        · simp at h; subst h; exact h1
      obtain ⟨r1, r2⟩ := Qbf (V := V) (N := N) (c := c) k (out ++ [v]) (a + nx) (by omega) ho'
      simp only [Jy, hg]
      refine ⟨fun e o h => ?_, fun o b h => ?_⟩
      · obtain ⟨q1, q2, q3⟩ := r1 e o h
        refine ⟨q1, q2, ?_⟩
        rw [List.length_append, List.length_cons, List.length_nil] at q3
        omega
      · obtain ⟨q1, q2, q3⟩ := r2 o b h
        refine ⟨q1, q2, ?_⟩
        rw [List.length_append, List.length_cons, List.length_nil] at q3
        omega

def Qio (p : List UInt8) : Nat := 4294967295 - Qod 4294967295 p
def Qbm (b : List UInt8) : Nat := if b.length < 5 then 24 else if 41254 < b.length then 4 else if leN (b.drop (b.length - 4)) = Qio (b.take (b.length - 4)) then 0 else 22

end Go.Am

namespace Go.Am
open Go.RowKit

/-! ### The values of a frame -/

def QuT (v : List Nat) : AV := Qgb (v.map fun n : Nat => (n : Int))
theorem Qr9 (v : List Nat) : isD (QuT v) = true := by simp [QuT, Qgb, isD, QY]
end Go.Am

namespace Go.Am
open Go.RowKit

/-! ### A frame's sum -/

theorem Qj0 (p : List UInt8) : Qio p < 4294967296 := by unfold Qio; omega

def opA (b : List UInt8) : AV := if Qbm b = 0 then .tup [bs (b.take (b.length - 4)), .int .i64 0] else .tup [.list 0 [], .int .i64 (Qbm b : Nat)]
def QhH (P : Prg) (f : Nat) : Prop := ∀ b : List UInt8, b.length ≤ 1000000 → VC P f [bs b] (opA b)
theorem QfU {P : Prg} {f fS fV : Nat} (bd : Qj P f 46 [.tmp 2, .tmp 3] (Q2 fS fV)) (hS : QmO P fS) (hV : Qdy P fV) : QhH P f := by
  intro b hb
  refine VC.of_walk 1 (by simp [Qs, X3]) (by unfold opA; split <;> simp [isD, Qs, X3]) (ACall.of_body bd (by simp) ?_)
  unfold opA Qbm
  by_cases h1 : b.length < 5
  · simp only [h1, if_true]
    simp (maxSteps := 4000000) (disch := omega) only [rr, aop, cV, cV1, AV.one, Qb, okW, Qd, app, Qa, Qc, Qe, Qf, Qg, simprocAttr, Q2, bs]
    simp [Zr, QJ, QO, QI]
  simp only [h1, if_false]
  by_cases h2 : 41254 < b.length
  · simp only [h2, if_true]
    simp (maxSteps := 4000000) (disch := omega) only [rr, aop, cV, cV1, AV.one, Qb, okW, Qd, app, Qa, Qc, Qe, Qf, Qg, simprocAttr, Q2, bs]
    simp [Zr, QJ, QO, QI]
  simp only [h2, if_false]
  have hS' := hS (b.take (b.length - 4))
  rw [if_neg (by simp; omega), ← Qio] at hS'
  have hl1 : (b.take (b.length - 4)).length = b.length - 4 := by simp
  have hl2 : (b.drop (b.length - 4)).length = 4 := by simp; omega
  have hs := Qj0 (b.take (b.length - 4))
  have hV' := hV (b.drop (b.length - 4)) (by omega) (by omega)
  have tk : (u8 b).take (b.length - 4) = u8 (b.take (b.length - 4)) := by simp [u8, List.map_take]
  have dk : (u8 b).drop (b.length - 4) = u8 (b.drop (b.length - 4)) := by simp [u8, List.map_drop]
  simp only [bs, hl1, hl2] at hS' hV'
  have hq : leN (b.drop (b.length - 4)) < 4294967296 := by
    have := QiI (b.drop (b.length - 4))
    rw [hl2] at this
    exact this
  have hpl : (u8 (b.take (b.length - 4))).length = b.length - 4 := by rw [Zv, hl1]
  have hql : (u8 (b.drop (b.length - 4))).length = 4 := by rw [Zv, hl2]
  have tq : (u8 (b.drop (b.length - 4))).take 4 = u8 (b.drop (b.length - 4)) := List.take_of_length_le (by omega)
  generalize b.take (b.length - 4) = p at *
  generalize b.drop (b.length - 4) = q at *
  generalize Qio p = s at *
  generalize leN q = w at *
  have n4 : b.length - (b.length - 4) = 4 := by omega
  have n5 : b.length - 4 - 0 = b.length - 4 := by omega
  have n6 : min (b.length - 4) b.length = b.length - 4 := by omega
  have tp : X2 (u8 p) = true := Xl _
  by_cases h3 : w = s
  · subst h3
    simp only [if_true]
    simp (maxSteps := 4000000) (disch := omega) only [rr, aop, cV, cV1, AV.one, Qb, okW, Qd, app, Qa, Qc, Qe, Qf, Qg, simprocAttr, Q2, bs, tk, dk, n4, n5, tq]
    refine Qh.vc hS' ?_
    simp (maxSteps := 4000000) (disch := omega) only [rr, aop, cV, cV1, AV.one, Qb, okW, Qd, app, Qa, Qc, Qe, Qf, Qg, simprocAttr, tk, dk, n4, n5, tq]
    refine Qh.vc hV' ?_
    simp (maxSteps := 4000000) (disch := omega) only [rr, aop, cV, cV1, AV.one, Qb, okW, Qd, app, Qa, Qc, Qe, Qf, Qg, simprocAttr, tk, dk, n4, n5, tq]
    simp [Zr, QJ, QO, QI, Qr _ tp, bs, hl1]
    try omega
  · simp only [h3, if_false]
    simp (maxSteps := 4000000) (disch := omega) only [rr, aop, cV, cV1, AV.one, Qb, okW, Qd, app, Qa, Qc, Qe, Qf, Qg, simprocAttr, Q2, bs, tk, dk, n4, n5, tq]
    refine Qh.vc hS' ?_
    simp (maxSteps := 4000000) (disch := omega) only [rr, aop, cV, cV1, AV.one, Qb, okW, Qd, app, Qa, Qc, Qe, Qf, Qg, simprocAttr, tk, dk, n4, n5, tq]
    refine Qh.vc hV' ?_
    simp (maxSteps := 4000000) (disch := omega) only [rr, aop, cV, cV1, AV.one, Qb, okW, Qd, app, Qa, Qc, Qe, Qf, Qg, simprocAttr, tk, dk, n4, n5, tq]
    simp [Zr, QJ, QO, QI]

theorem Qnf {b : List UInt8} (h : 5 ≤ b.length) : (b.take (b.length - 4) ++ leB (Qio (b.take (b.length - 4))) 4 = b) ↔ leN (b.drop (b.length - 4)) = Qio (b.take (b.length - 4)) := by
  have hl : (b.drop (b.length - 4)).length = 4 := by simp; omega
  constructor
  · intro e
    have : leB (Qio (b.take (b.length - 4))) 4 = b.drop (b.length - 4) := by
      have h2 := List.take_append_drop (b.length - 4) b
      exact List.append_cancel_left (e.trans h2.symm)
    rw [← this, Qmd 4 _ (Qj0 _)]
  · intro e
    rw [← e]
    have := Qg2 (b.drop (b.length - 4))
    rw [hl] at this
    rw [this, List.take_append_drop]
end Go.Am

namespace Go.Am
open Go.RowKit

/-! ### values -/

def Qa6 (F : Nat → Dl) : List AV := dlC (F 0) ++ dlC (F 1) ++ dlC (F 2) ++ dlC (F 3) ++ dlC (F 4) ++ dlC (F 5)
theorem QiL (F : Nat → Dl) : X2 (Qa6 F) = true := rfl
theorem Qay (F : Nat → Dl) : (Qa6 F).length = 24 := rfl
theorem QlQ (F : Nat → Dl) {j : Nat} (h : j < 6) : ∃ r, (Qa6 F).drop (j * 4) = .int .i64 (F j).k0 :: .int .i64 (F j).k1 :: .int .u64 (F j).s0 :: .int .u64 (F j).s1 :: r := by
  rcases (by omega : j = 0 ∨ j = 1 ∨ j = 2 ∨ j = 3 ∨ j = 4 ∨ j = 5) with rfl | rfl | rfl | rfl | rfl | rfl <;> exact ⟨_, rfl⟩
def Qrh (F : Nat → Dl) (j : Nat) (d : Dl) : Nat → Dl := fun i => if i = j then d else F i
theorem Qej (F : Nat → Dl) {j : Nat} (h : j < 6) (d : Dl) : (Qa6 F).take (j * 4) ++ [.int .i64 d.k0, .int .i64 d.k1, .int .u64 d.s0, .int .u64 d.s1] ++ (Qa6 F).drop (j * 4 + 4) = Qa6 (Qrh F j d) := by
  rcases (by omega : j = 0 ∨ j = 1 ∨ j = 2 ∨ j = 3 ∨ j = 4 ∨ j = 5) with rfl | rfl | rfl | rfl | rfl | rfl <;> rfl

def vlA : (Nat × List Nat) ⊕ (List Nat × Nat) → AV
  | .inl (e, _) => .tup [.list 0 [], .int .i64 0, .int .i64 e]
  | .inr (o, a) => .tup [QuT o, .int .i64 a, .int .i64 0]
def Qll (P : Prg) (f : Nat) : Prop := ∀ N V c n : Nat, V < 2 ^ N → N ≤ 330000 → 1 ≤ c → c ≤ 6 → n * c ≤ 4000 → VC P f [.int .i64 c, .int .i64 n, bA N V] (vlA (Jy V N c (n * c) [] 0))
set_option maxHeartbeats 2000000 in
theorem QfT {P : Prg} {f fS fC fR t0 t1 t2 t3 : Nat} (bd : Qj P f 76 [.tmp 6, .tmp 7, .tmp 8] (XN fS fC fR t0 t1 t2 t3)) (hS : Qdz P fS) (hC : Quv P fC) (hR : Qlm P fR) : Qll P f := by
  intro N V c n hV hN hc hc6 hnc
  refine VC.of_walk 1 (by simp [Qs, XC, isD]) (by unfold vlA; split <;> simp [isD, Qs, Qr9]) (ACall.of_body bd (by simp) ?_)
  simp only [Qdz, Qp, dlA, dlC] at hS
  have hn4 : n ≤ 4000 := by
    have : n * 1 ≤ n * c := Nat.mul_le_mul_left _ hc
    omega
  have tu : X2 (u8 (leB V (nB N))) = true := Xl _
  obtain ⟨T, hT⟩ : ∃ T, T = n * c := ⟨_, rfl⟩
  obtain ⟨R, hR0⟩ : ∃ R, R = Jy V N c (n * c) [] 0 := ⟨_, rfl⟩
  have eT : (n : Int) * c = (T : Int) := by rw [hT]; simp
  rw [← hR0]
  simp (maxSteps := 4000000) (disch := omega) only [rr, aop, cV, cV1, AV.one, Qb, okW, Qd, app, Qa, Qc, Qe, Qf, Qg, simprocAttr, XN, bA]
  refine QW.by (ι := Nat) (fun i => ⟨[(19, .int .i64 i), (9, .ref 1 1 0), (8, .int .i64 0), (7, .int .i64 0), (6, .emp true), (5, .ref 0 1 0), (0, .int .i64 c), (1, .int .i64 n)],
      [⟨t0, 2, 1, [.list (nB N) (u8 (leB V (nB N))), .int .i64 N], 0⟩, ⟨t1, 24, 1, Qa6 (fun j => if j < i then Qp else ⟨0, 0, 0, 0⟩), 0⟩]⟩) (fun i => i ≤ 6) (fun i => 6 - i) 0 (Le.slots (by simp [Am.look])) (by omega) ?_
  intro i hi
  by_cases hlt : i < 6
  · have e1 := Qej (fun j => if j < i then Qp else ⟨0, 0, 0, 0⟩) hlt Qp
    have e2 : Qrh (fun j => if j < i then Qp else ⟨0, 0, 0, 0⟩) i Qp = fun j => if j < i + 1 then Qp else ⟨0, 0, 0, 0⟩ := by
      funext j
      unfold Qrh
      by_cases h1 : j = i
      · subst h1; simp
      · by_cases h2 : j < i
        · simp [h1, h2, show j < i + 1 by omega]
        · simp [h1, h2, show ¬ j < i + 1 by omega]
    rw [e2] at e1
    have e3 := Qay (fun j => if j < i then Qp else ⟨0, 0, 0, 0⟩)
    simp (maxSteps := 4000000) (disch := omega) only [rr, aop, cV, cV1, AV.one, Qb, okW, Qd, app, Qa, Qc, Qe, Qf, Qg, simprocAttr]
    refine Qh.vc hS ?_
    generalize hF : Qa6 (fun j => if j < i then Qp else ⟨0, 0, 0, 0⟩) = F at *
    have e1' : F.take (i * 4) ++ [.int .i64 10, .int .i64 10, .int .u64 16384, .int .u64 16384] ++ F.drop (i * 4 + 4) = Qa6 fun j => if j < i + 1 then Qp else ⟨0, 0, 0, 0⟩ := e1
    simp (maxSteps := 4000000) (disch := omega) only [rr, aop, cV, cV1, AV.one, Qb, okW, Qd, app, Qa, Qc, Qe, Qf, Qg, simprocAttr, e3]
    refine ⟨i + 1, by omega, by omega, ?_⟩
    rw [e1']
    exact Le.slots (by simp [Am.look])
  obtain rfl : i = 6 := by omega
  have hk0 : ∀ o : List Nat, (ks .u32 (o.map fun n : Nat => (n : Int))).length = o.length := fun o => by simp [ks]
  simp (maxSteps := 4000000) (disch := omega) only [rr, aop, cV, cV1, AV.one, Qb, okW, Qd, app, Qa, Qc, Qe, Qf, Qg, simprocAttr, eT]
  refine QW.by (ι := Nat × List Nat × Nat) (fun s => ⟨[(29, .int .i64 s.1), (28, .int .i64 T), (12, .int .i64 s.2.2), (11, .own 2 s.2.1.length), (9, .ref 1 1 0), (5, .ref 0 1 0), (0, .int .i64 c)],
      [⟨t0, 2, 1, [.list (nB N) (u8 (leB V (nB N))), .int .i64 N], 0⟩, ⟨t1, 24, 1, Qa6 (fun j => if j < c then QM c j s.2.1 else Qp), 0⟩, ⟨t3, 1, s.2.1.length, ks .u32 (s.2.1.map fun n : Nat => (n : Int)), 0⟩]⟩)
    (fun s => s.1 ≤ T ∧ s.2.1.length = s.1 ∧ s.2.2 ≤ N ∧ N32 s.2.1 ∧ Jy V N c (T - s.1) s.2.1 s.2.2 = R) (fun s => T - s.1) (0, [], 0) ?_ ⟨Nat.zero_le _, rfl, Nat.zero_le _, fun x hx => (by simp at hx), (by rw [hR0, hT]; rfl)⟩ ?_
  · have z1 : Qa6 (fun j => if j < 6 then Qp else ⟨0, 0, 0, 0⟩) = Qa6 (fun _ => Qp) := rfl
    have z2 : (fun j => if j < c then QM c j [] else Qp) = fun _ => Qp := by
      funext j
      split <;> rfl
    simp only [z2]
    rw [z1]
    exact Le.trans (Le.virt 11 t3 1 (by decide) rfl) (Le.slots (by simp [Am.look]))
  rintro ⟨k, out, a⟩ ⟨h1, h2, h3, h4, h5⟩
  simp only at h1 h2 h3 h4 h5 ⊢
  by_cases hlt : k < T
  · obtain ⟨r, hr⟩ : ∃ r, r = k % c := ⟨_, rfl⟩
    have hrc : r < c := by rw [hr]; exact Nat.mod_lt _ (by omega)
    have e1 : (k : Int) % c = (r : Int) := by rw [hr]; simp [Int.natCast_emod]
    have e1' : ((k : Int)).tmod (c : Int) = (r : Int) := by rw [Int.tmod_eq_emod_of_nonneg (by omega), e1]
    have hc0 : (c : Int) ≠ 0 := by omega
    obtain ⟨b, hb⟩ : ∃ b, b = min (a + 81) N := ⟨_, rfl⟩
    have e2 : (if (N : Int) < (a : Int) + 81 then (N : Int) else (a : Int) + 81) = (b : Int) := by split <;> omega
    have hpn : b - a = Qgd N a := by rw [hb]; rfl
    have hC' : VC P fC [bA N V, .int .i64 a, .int .i64 b] (.tup [bA (Qgd N a) (Qpn V N a), .int .i64 0]) := by
      have := hC N V a b hV hN (by omega) (by omega)
      rw [hpn] at this
      exact this
    have hpl : Qgd N a ≤ 81 := by unfold Qgd; omega
    have hd := Qfd (c := c) (r := r) h4
    have hR' := hR (Qgd N a) (Qpn V N a) 0 (QM c r out) (Qtz V N a) (by omega) (by omega) hd
    have hF : (fun j => if j < c then QM c j out else Qp) r = QM c r out := by simp [hrc]
    obtain ⟨rest, hg⟩ := QlQ (fun j => if j < c then QM c j out else Qp) (j := r) (by omega)
    simp only [hrc, if_true] at hg
    have hst := fun d => Qej (fun j => if j < c then QM c j out else Qp) (j := r) (by omega) d
    have hln := Qay (fun j => if j < c then QM c j out else Qp)
    have hupd : ∀ v : Nat, Qrh (fun j => if j < c then QM c j out else Qp) r (ZK (QM c r out) v) = fun j => if j < c then QM c j (out ++ [v]) else Qp := by
      intro v
      funext j
      unfold Qrh
      by_cases hj : j = r
      · subst hj
        rw [if_pos rfl, if_pos hrc, QcY, if_pos (by rw [h2, hr])]
      · rw [if_neg hj]
        by_cases hjc : j < c
        · simp only [hjc, if_true]
          rw [QcY, if_neg (by rw [h2, ← hr]; exact fun e => hj e.symm)]
        · simp only [hjc, if_false]
    have hkT : T - k = (T - k - 1) + 1 := by omega
    rw [hkT, Jy, h2, ← hr] at h5
    have hgl := fun v nx (h : QiP (Qpn V N a) (Qgd N a) 0 (QM c r out) = .inr (v, nx)) => Qml hd h
    have hge := fun e (h : QiP (Qpn V N a) (Qgd N a) 0 (QM c r out) = .inl e) => QpQ h
    have hpN : Qgd N a ≤ N - a := by unfold Qgd; omega
    simp only [bA] at hC' hR'
    have hk1 := hk0 out
    have tk : X2 (ks .u32 (out.map fun n : Nat => (n : Int))) = true := Qx _ _
    cases hgm : QiP (Qpn V N a) (Qgd N a) 0 (QM c r out) with
    | inl e =>
      have he := hge e hgm
      rw [hgm] at hR' h5
      simp only at h5
      have he0 : (e : Int) ≠ 0 := by omega
      rw [← h5, vlA]
      generalize Qa6 (fun j => if j < c then QM c j out else Qp) = F at *
      generalize QM c r out = d at *
      obtain ⟨d0, d1, d2, d3⟩ := d
      simp only [dlA, dlC, drA] at hR'
      simp only at hg
      simp (maxSteps := 4000000) (disch := omega) only [rr, aop, cV, cV1, AV.one, Qb, okW, Qd, app, Qa, Qc, Qe, Qf, Qg, simprocAttr, e2]
      refine Qh.vc hC' ?_
      simp (maxSteps := 4000000) (disch := omega) only [rr, aop, cV, cV1, AV.one, Qb, okW, Qd, app, Qa, Qc, Qe, Qf, Qg, simprocAttr, e1, e1', hc0, hg, hln]
      refine Ze.vc hR' ?_
      simp (maxSteps := 4000000) (disch := omega) only [rr, aop, cV, cV1, AV.one, Qb, okW, Qd, app, Qa, Qc, Qe, Qf, Qg, simprocAttr]
      simp [Zr, QJ, QO, QI]
    | inr w =>
      obtain ⟨v, nx⟩ := w
      obtain ⟨v1, v2⟩ := hgl v nx hgm
      rw [hgm] at hR' h5
      simp only at h5
      have hset := hst (ZK (QM c r out) v)
      rw [hupd v] at hset
      generalize hFF : Qa6 (fun j => if j < c then QM c j out else Qp) = F at *
      generalize QM c r out = d at *
      obtain ⟨d0, d1, d2, d3⟩ := d
      simp only [drA] at hR'
      generalize ZK ⟨d0, d1, d2, d3⟩ v = d' at *
      obtain ⟨m0, m1, m2, m3⟩ := d'
      simp only [dlA, dlC] at hR'
      simp only at hg hset
      simp (maxSteps := 4000000) (disch := omega) only [rr, aop, cV, cV1, AV.one, Qb, okW, Qd, app, Qa, Qc, Qe, Qf, Qg, simprocAttr, e2]
      refine Qh.vc hC' ?_
      simp (maxSteps := 4000000) (disch := omega) only [rr, aop, cV, cV1, AV.one, Qb, okW, Qd, app, Qa, Qc, Qe, Qf, Qg, simprocAttr, e1, e1', hc0, hg, hln]
      refine Ze.vc hR' ?_
      simp (maxSteps := 4000000) (disch := omega) only [rr, aop, cV, cV1, AV.one, Qb, okW, Qd, app, Qa, Qc, Qe, Qf, Qg, simprocAttr, e1, e1', hc0, hg, hln, hk1, h2]
      have hap : ks .u32 (out.map fun n : Nat => (n : Int)) ++ [.int .u32 (v : Int)] = ks .u32 ((out ++ [v]).map fun n : Nat => (n : Int)) := by simp [ks]
      have hol : (out ++ [v]).length = k + 1 := by simp [h2]
      refine ⟨(k + 1, out ++ [v], a + nx), ⟨by omega, hol, by simp only; omega, fun x hx => ?_, ?_⟩, by simp only; omega, ?_⟩
      · rcases List.mem_append.1 hx with h | h
        · exact h4 x h
        · simp at h; subst h; exact v1
      · simp only
        rw [show T - (k + 1) = T - k - 1 by omega]
        exact h5
      · simp only [hol]
        rw [hset, hap]
        exact Le.dropT [_, _, _] (by simp [QiL, Qx, X2, isT, Xl]) (by simp [Am.look, QJ, QO, QI])
  · obtain rfl : k = T := by omega
    rw [Nat.sub_self, Jy] at h5
    rw [← h5, vlA, QuT, Qgb, List.length_map]
    simp (maxSteps := 4000000) (disch := omega) only [rr, aop, cV, cV1, AV.one, Qb, okW, Qd, app, Qa, Qc, Qe, Qf, Qg, simprocAttr]
    simp [Zr, QJ, QO, QI, Qr _ (Qx _ _)]

end Go.Am

namespace Go.Am
open Go.RowKit

/-! ### Decode -/

def iL (o : List Nat) : List Int := o.map fun n : Nat => (n : Int)
def Qt6 (V N c : Nat) (x : Int) (t : List Int) (w : (Nat × List Nat) ⊕ (List Nat × Nat)) : AV :=
  match w with
  | .inl (e, _) => erA e
  | .inr (o, a) => if QfF V N a ≠ 0 then erA 12 else Qoc x (unB c x t (iL o))
def Qqh (c x : Int) (t : List Int) (n : Int) (b : List UInt8) : AV :=
  if ZC c x n ≠ 0 then erA 2 else if Qbm b ≠ 0 then erA (Qbm b : Nat) else
    Qt6 (leN (b.take (b.length - 4))) (8 * (b.take (b.length - 4)).length) c.toNat x t (Jy (leN (b.take (b.length - 4))) (8 * (b.take (b.length - 4)).length) c.toNat (n.toNat * c.toNat) [] 0)
theorem Qsc (V N c : Nat) (x : Int) (t : List Int) (w : (Nat × List Nat) ⊕ (List Nat × Nat)) : isD (Qt6 V N c x t w) = true := by
  unfold Qt6
  split
  · rfl
  · split
    · rfl
    · exact QpL _ _
theorem Qsd (c x : Int) (t : List Int) (n : Int) (b : List UInt8) : isD (Qqh c x t n b) = true := by
  unfold Qqh
  split
  · rfl
  split
  · rfl
  · exact Qsc _ _ _ _ _ _

theorem QaP {c x n : Int} (h : ZC c x n = 0) : Zf c x = 0 ∧ ∃ c' n' : Nat, c = c' ∧ n = n' ∧ 1 ≤ c' ∧ c' ≤ 6 ∧ 1 ≤ n' ∧ n' * c' ≤ 4000 ∧ Jj x ≠ 0 := by
  unfold ZC at h
  rcases Q1 c x with h1 | ⟨h1, h2, h3, h4⟩
  · rw [if_pos (by omega)] at h; omega
  · rw [if_neg (by omega)] at h
    split at h
    · omega
    split at h
    · omega
    rename_i h5 h6
    refine ⟨h1, c.toNat, n.toNat, by omega, by omega, by omega, by omega, by omega, ?_, h2⟩
    have h7 : n.toNat ≤ 4000 / c.toNat := by
      have : ((4000 / c.toNat : Nat) : Int) = 4000 / c := by rw [Int.natCast_ediv, Int.toNat_of_nonneg (by omega)]; rfl
      omega
    exact (Nat.le_div_iff_mul_le (by omega)).1 h7

theorem QsL {V N c n : Nat} {o : List Nat} {a : Nat} (hc : 1 ≤ c) (hc6 : c ≤ 6) (hn : 1 ≤ n) (hnc : n * c ≤ 4000) (h : Jy V N c (n * c) [] 0 = .inr (o, a)) : okV c (iL o) ∧ a ≤ N ∧ o.length = n * c := by
  obtain ⟨_, h2⟩ := Qbf (V := V) (N := N) (c := c) (n * c) [] 0 (Nat.zero_le _) (fun x hx => by simp at hx)
  obtain ⟨q1, q2, q3⟩ := h2 o a h
  rw [List.length_nil, Nat.zero_add] at q3
  have hpos : 0 < n * c := Nat.mul_pos hn hc
  refine ⟨⟨hc, hc6, by simp [iL]; omega, by simp [iL]; omega, by simp [iL, q3], fun x hx => ?_⟩, q2, q3⟩
  simp only [iL, List.mem_map] at hx
  obtain ⟨y, hy, rfl⟩ := hx
  have := q1 y hy
  omega

def QhP (P : Prg) (f : Nat) : Prop := ∀ (c x n : Int) (t : List Int) (b : List UInt8), t.length = 16 → I32 t → b.length ≤ 1000000 → VC P f [shA c x, .agg (ks .i32 t), .int .i64 n, bs b] (Qqh c x t n b)
set_option maxHeartbeats 2000000 in
theorem QfV {P : Prg} {f fE fO fF fV fG fS t0 t1 t2 : Nat} (bd : Qj P f 87 [.tmp 8, .tmp 9] (Qy fE fO fF fV fG fS t0 t1 t2)) (hE0 : Jt P fE) (hO : QhH P fO) (hF : Quq P fF) (hV : Qll P fV) (hG : Qgy P fG) (hS : Qq0 P fS) : QhP P f := by
  intro c x n t b ht hI hb
  refine VC.of_walk 1 (by simp [Qs, X3, QY, isD, shA]) (Qsd _ _ _ _ _) (ACall.of_body bd (by simp) ?_)
  have hE' := hE0 c x
  have hO' := hO b hb
  have hk : (ks .i32 t).length = 16 := by simp [Qk, ht]
  have tt : (ks .i32 t).take 16 = ks .i32 t := Qu (by omega)
  have ot := XZ .i32 t
  rw [shA] at hE'
  simp only [bs] at hO'
  unfold Qqh
  rcases Q1 c x with g1 | ⟨g1, g2, g3, g4⟩
  · have h1 : ZC c x n = 2 := by unfold ZC; rw [if_pos (by omega)]
    rw [g1] at hE'
    rw [if_pos (by omega), erA]
    simp (maxSteps := 4000000) (disch := omega) only [rr, aop, cV, cV1, AV.one, Qb, okW, Qd, app, Qa, Qc, Qe, Qf, Qg, simprocAttr, Qy, shA, bs, hk, tt, ot]
    refine Qh.vc hE' ?_
    simp (maxSteps := 4000000) (disch := omega) only [rr, aop, cV, cV1, AV.one, Qb, okW, Qd, app, Qa, Qc, Qe, Qf, Qg, simprocAttr]
    simp [Zr, QJ, QO, QI]
  rw [g1] at hE'
  have ed : ((4000 : Int)).tdiv c = 4000 / c := Int.tdiv_eq_ediv_of_nonneg (by omega)
  have hc0 : c ≠ 0 := by omega
  have hd1 : 4000 / c ≤ 4000 := by
    have := Int.ediv_le_self c (show (0 : Int) ≤ 4000 by omega)
    exact this
  have hd0 : 0 ≤ 4000 / c := Int.ediv_nonneg (by omega) (by omega)
  by_cases h1 : ZC c x n = 0
  case neg =>
    rw [if_pos h1, erA]
    have h1' : n < 1 ∨ 4000 / c < n := by
      unfold ZC at h1
      rw [if_neg (by omega)] at h1
      split at h1
      · exact .inl (by assumption)
      split at h1
      · exact .inr (by assumption)
      · omega
    obtain ⟨q, hq⟩ : ∃ q, q = 4000 / c := ⟨_, rfl⟩
    rw [← hq] at hd0 hd1 h1' ed
    have ed2 : (4000 : Int) / c = q := hq.symm
    clear hq
    by_cases h1'' : n < 1
    · simp (maxSteps := 4000000) (disch := omega) only [rr, aop, cV, cV1, AV.one, Qb, okW, Qd, app, Qa, Qc, Qe, Qf, Qg, simprocAttr, Qy, shA, bs, hk, tt, ot]
      refine Qh.vc hE' ?_
      simp (maxSteps := 4000000) (disch := omega) only [rr, aop, cV, cV1, AV.one, Qb, okW, Qd, app, Qa, Qc, Qe, Qf, Qg, simprocAttr]
      simp [Zr, QJ, QO, QI]
    · have h1''' : q < n := by omega
      simp (maxSteps := 4000000) (disch := omega) only [rr, aop, cV, cV1, AV.one, Qb, okW, Qd, app, Qa, Qc, Qe, Qf, Qg, simprocAttr, Qy, shA, bs, hk, tt, ot]
      refine Qh.vc hE' ?_
      simp (maxSteps := 4000000) (disch := omega) only [rr, aop, cV, cV1, AV.one, Qb, okW, Qd, app, Qa, Qc, Qe, Qf, Qg, simprocAttr, ed, ed2, hc0]
      simp [Zr, QJ, QO, QI]
  rw [if_neg (by omega)]
  obtain ⟨_, c', n', rfl, rfl, q1, q2, q3, q4, q5⟩ := QaP h1
  have hnq : (n' : Int) ≤ 4000 / (c' : Int) := by
    unfold ZC at h1
    rw [if_neg (by omega)] at h1
    split at h1
    · omega
    split at h1
    · omega
    · omega
  obtain ⟨q, hq⟩ : ∃ q, q = (4000 : Int) / (c' : Int) := ⟨_, rfl⟩
  rw [← hq] at hd0 hd1 hnq ed
  have ed2 : (4000 : Int) / (c' : Int) = q := hq.symm
  clear hq
  by_cases h2 : Qbm b = 0
  case neg =>
    have h2' : ((Qbm b : Nat) : Int) ≠ 0 := by omega
    rw [opA, if_neg h2] at hO'
    rw [if_pos h2, erA]
    generalize Qbm b = m at *
    simp (maxSteps := 4000000) (disch := omega) only [rr, aop, cV, cV1, AV.one, Qb, okW, Qd, app, Qa, Qc, Qe, Qf, Qg, simprocAttr, Qy, shA, bs, hk, tt, ot]
    refine Qh.vc hE' ?_
    simp (maxSteps := 4000000) (disch := omega) only [rr, aop, cV, cV1, AV.one, Qb, okW, Qd, app, Qa, Qc, Qe, Qf, Qg, simprocAttr, ed, ed2, hc0]
    refine Qh.vc hO' ?_
    simp (maxSteps := 4000000) (disch := omega) only [rr, aop, cV, cV1, AV.one, Qb, okW, Qd, app, Qa, Qc, Qe, Qf, Qg, simprocAttr]
    simp [Zr, QJ, QO, QI]
  rw [if_neg (by omega)]
  have hbl : 5 ≤ b.length ∧ b.length ≤ 41254 := by
    unfold Qbm at h2
    split at h2
    · omega
    split at h2
    · omega
    · omega
  rw [opA, if_pos h2] at hO'
  have hpl : (b.take (b.length - 4)).length = b.length - 4 := by simp
  have hF' := hF (b.take (b.length - 4)) (by omega)
  have hVlt := QtM (b.take (b.length - 4))
  have hbA := Qvl (b.take (b.length - 4))
  rw [ofA, if_neg (by omega), hbA] at hF'
  simp only [Int.toNat_natCast]
  have hV' := hV (8 * (b.take (b.length - 4)).length) (leN (b.take (b.length - 4))) c' n' hVlt (by omega) q1 q2 q4
  have hG0 := fun a m => hG (8 * (b.take (b.length - 4)).length) (leN (b.take (b.length - 4))) a m hVlt (by omega)
  rw [hbA] at hV'
  simp only [hbA] at hG0
  simp only [bs, hpl] at hF' hV' hG0 hO' hVlt ⊢
  have hNN : 8 * (b.length - 4) ≤ 330000 := by omega
  generalize hp : b.take (b.length - 4) = p at *
  generalize leN p = V at *
  obtain ⟨N, hN⟩ : ∃ N, N = 8 * (b.length - 4) := ⟨_, rfl⟩
  rw [← hN] at hF' hV' hG0 hVlt hNN ⊢
  have hokv := fun o a (h : Jy V N c' (n' * c') [] 0 = .inr (o, a)) => QsL q1 q2 q3 q4 h
  have hspec := Qbf (V := V) (N := N) (c := c') (n' * c') [] 0 (Nat.zero_le _) (fun x hx => by simp at hx)
  cases hw : Jy V N c' (n' * c') [] 0 with
  | inl w =>
    obtain ⟨e, o⟩ := w
    have he := (hspec.1 e o hw).1
    have he0 : (e : Int) ≠ 0 := by omega
    rw [hw, vlA] at hV'
    simp only [Qt6, erA]
    simp (maxSteps := 4000000) (disch := omega) only [rr, aop, cV, cV1, AV.one, Qb, okW, Qd, app, Qa, Qc, Qe, Qf, Qg, simprocAttr, Qy, shA, bs, hk, tt, ot]
    refine Qh.vc hE' ?_
    simp (maxSteps := 4000000) (disch := omega) only [rr, aop, cV, cV1, AV.one, Qb, okW, Qd, app, Qa, Qc, Qe, Qf, Qg, simprocAttr, ed, ed2, hc0]
    refine Qh.vc hO' ?_
    simp (maxSteps := 4000000) (disch := omega) only [rr, aop, cV, cV1, AV.one, Qb, okW, Qd, app, Qa, Qc, Qe, Qf, Qg, simprocAttr]
    refine Qh.vc hF' ?_
    simp (maxSteps := 4000000) (disch := omega) only [rr, aop, cV, cV1, AV.one, Qb, okW, Qd, app, Qa, Qc, Qe, Qf, Qg, simprocAttr]
    refine Qh.vc hV' ?_
    simp (maxSteps := 4000000) (disch := omega) only [rr, aop, cV, cV1, AV.one, Qb, okW, Qd, app, Qa, Qc, Qe, Qf, Qg, simprocAttr]
    simp [Zr, QJ, QO, QI]
  | inr w =>
    obtain ⟨o, a⟩ := w
    obtain ⟨hv, ha, hol⟩ := hokv o a hw
    rw [hw, vlA, QuT, Qgb, List.length_map] at hV'
    simp only [Qt6]
    have hS' := hS c' x t (iL o) ht hI hv q5
    rw [shA, Qgb, iL, List.length_map] at hS'
    by_cases h8 : 7 < N - a
    · have h12 : QfF V N a = 12 := by unfold QfF; rw [if_pos h8]
      rw [h12, if_pos (by omega), erA]
      simp (maxSteps := 4000000) (disch := omega) only [rr, aop, cV, cV1, AV.one, Qb, okW, Qd, app, Qa, Qc, Qe, Qf, Qg, simprocAttr, Qy, shA, bs, hk, tt, ot]
      refine Qh.vc hE' ?_
      simp (maxSteps := 4000000) (disch := omega) only [rr, aop, cV, cV1, AV.one, Qb, okW, Qd, app, Qa, Qc, Qe, Qf, Qg, simprocAttr, ed, ed2, hc0]
      refine Qh.vc hO' ?_
      simp (maxSteps := 4000000) (disch := omega) only [rr, aop, cV, cV1, AV.one, Qb, okW, Qd, app, Qa, Qc, Qe, Qf, Qg, simprocAttr]
      refine Qh.vc hF' ?_
      simp (maxSteps := 4000000) (disch := omega) only [rr, aop, cV, cV1, AV.one, Qb, okW, Qd, app, Qa, Qc, Qe, Qf, Qg, simprocAttr]
      refine Qh.vc hV' ?_
      simp (maxSteps := 4000000) (disch := omega) only [rr, aop, cV, cV1, AV.one, Qb, okW, Qd, app, Qa, Qc, Qe, Qf, Qg, simprocAttr]
      simp [Zr, QJ, QO, QI]
    · have hG' := hG0 a (N - a) (by omega) (by omega)
      rw [if_neg (by omega)] at hG'
      have hlt : V / 2 ^ a < 2 ^ (N - a) := Nat.div_lt_of_lt_mul (by rw [← Nat.pow_add, show a + (N - a) = N by omega]; exact hVlt)
      rw [Nat.mod_eq_of_lt hlt] at hG'
      have eNa : (N : Int) - a = ((N - a : Nat) : Int) := by omega
      have h7 : 2 ^ (N - a) ≤ 2 ^ 7 := Nat.pow_le_pow_right (by omega) (by omega)
      have hr : QfF V N a = if V / 2 ^ a = 0 then 0 else 12 := by unfold QfF; rw [if_neg h8]
      rw [hr]
      generalize V / 2 ^ a = y at *
      obtain ⟨m, hm⟩ : ∃ m, m = N - a := ⟨_, rfl⟩
      rw [← hm] at hG' eNa
      have hm7 : m ≤ 7 := by omega
      by_cases h0 : y = 0
      · subst h0
        rw [if_pos rfl, if_neg (by omega)]
        have hG'' : VC P fG [.agg [.list (b.length - 4) (u8 p), .int .i64 N], .int .i64 a, .int .i64 m] (.tup [.int .u64 0, .int .i64 0]) := hG'
        simp (maxSteps := 4000000) (disch := omega) only [rr, aop, cV, cV1, AV.one, Qb, okW, Qd, app, Qa, Qc, Qe, Qf, Qg, simprocAttr, Qy, shA, bs, hk, tt, ot]
        refine Qh.vc hE' ?_
        simp (maxSteps := 4000000) (disch := omega) only [rr, aop, cV, cV1, AV.one, Qb, okW, Qd, app, Qa, Qc, Qe, Qf, Qg, simprocAttr, ed, ed2, hc0]
        refine Qh.vc hO' ?_
        simp (maxSteps := 4000000) (disch := omega) only [rr, aop, cV, cV1, AV.one, Qb, okW, Qd, app, Qa, Qc, Qe, Qf, Qg, simprocAttr]
        refine Qh.vc hF' ?_
        simp (maxSteps := 4000000) (disch := omega) only [rr, aop, cV, cV1, AV.one, Qb, okW, Qd, app, Qa, Qc, Qe, Qf, Qg, simprocAttr]
        refine Qh.vc hV' ?_
        simp (maxSteps := 4000000) (disch := omega) only [rr, aop, cV, cV1, AV.one, Qb, okW, Qd, app, Qa, Qc, Qe, Qf, Qg, simprocAttr, eNa]
        refine Qh.vc hG'' ?_
        simp (maxSteps := 4000000) (disch := omega) only [rr, aop, cV, cV1, AV.one, Qb, okW, Qd, app, Qa, Qc, Qe, Qf, Qg, simprocAttr, hk, tt, ot]
        refine Qh.vc hS' ?_
        simp only [iL]
        generalize unB c' x t (o.map fun n : Nat => (n : Int)) = z at *
        unfold Qoc
        by_cases h4 : QC x z = 0
        · rw [if_neg (by omega)]
          simp (maxSteps := 4000000) (disch := omega) only [rr, aop, cV, cV1, AV.one, Qb, okW, Qd, app, Qa, Qc, Qe, Qf, Qg, simprocAttr, il]
          simp [Zr, QJ, QO, QI, Qr _ (Qx _ _)]
        · rw [if_pos h4]
          simp (maxSteps := 4000000) (disch := omega) only [rr, aop, cV, cV1, AV.one, Qb, okW, Qd, app, Qa, Qc, Qe, Qf, Qg, simprocAttr]
          simp [Zr, QJ, QO, QI]
      · rw [if_neg h0, if_pos (by omega), erA]
        simp (maxSteps := 4000000) (disch := omega) only [rr, aop, cV, cV1, AV.one, Qb, okW, Qd, app, Qa, Qc, Qe, Qf, Qg, simprocAttr, Qy, shA, bs, hk, tt, ot]
        refine Qh.vc hE' ?_
        simp (maxSteps := 4000000) (disch := omega) only [rr, aop, cV, cV1, AV.one, Qb, okW, Qd, app, Qa, Qc, Qe, Qf, Qg, simprocAttr, ed, ed2, hc0]
        refine Qh.vc hO' ?_
        simp (maxSteps := 4000000) (disch := omega) only [rr, aop, cV, cV1, AV.one, Qb, okW, Qd, app, Qa, Qc, Qe, Qf, Qg, simprocAttr]
        refine Qh.vc hF' ?_
        simp (maxSteps := 4000000) (disch := omega) only [rr, aop, cV, cV1, AV.one, Qb, okW, Qd, app, Qa, Qc, Qe, Qf, Qg, simprocAttr]
        refine Qh.vc hV' ?_
        simp (maxSteps := 4000000) (disch := omega) only [rr, aop, cV, cV1, AV.one, Qb, okW, Qd, app, Qa, Qc, Qe, Qf, Qg, simprocAttr, eNa]
        refine Qh.vc hG' ?_
        simp (maxSteps := 4000000) (disch := omega) only [rr, aop, cV, cV1, AV.one, Qb, okW, Qd, app, Qa, Qc, Qe, Qf, Qg, simprocAttr]
        simp [Zr, QJ, QO, QI]

end Go.Am

namespace Go.Am
open Go.RowKit

/-! ### How many samples are good (plain) -/

theorem Qqp {x : Int} {l : List Int} (hx : Jj x ≠ 0) (hl : l.length ≤ 4000) : QC x l = if l.all (inR x) then 0 else 16 := by
  unfold QC
  rw [if_neg hx, if_neg (by omega)]

/-! ### verdict.check, sound -/

end Go.Am

namespace Go.Am
open Go.RowKit

/-! ### verdict.values -/

def Qvw : (Nat × List Nat) ⊕ (List Nat × Nat) → List Nat
  | .inl (_, o) => o
  | .inr (o, _) => o
def Quy (b : List UInt8) (c n : Nat) : (Nat × List Nat) ⊕ (List Nat × Nat) := Jy (leN (b.take (b.length - 4))) (8 * (b.take (b.length - 4)).length) c (n * c) [] 0
end Go.Am

namespace Go.Am
open Go.RowKit

/-! ### verdict.good -/

theorem mod_mul (m c : Nat) : (m * c) % c = 0 := Nat.mul_mod_left m c
/-! ### verdict.Judge -/

def Qu3 (V N c : Nat) (x : Int) (t : List Int) (w : (Nat × List Nat) ⊕ (List Nat × Nat)) : Int :=
  match w with
  | .inl (e, _) => e
  | .inr (o, a) => if QfF V N a ≠ 0 then 12 else QC x (unB c x t (iL o))
def QsW (c x : Int) (t : List Int) (n : Int) (b : List UInt8) : Int :=
  if ZC c x n ≠ 0 then 2 else if Qbm b ≠ 0 then (Qbm b : Nat) else
    Qu3 (leN (b.take (b.length - 4))) (8 * (b.take (b.length - 4)).length) c.toNat x t (Quy b c.toNat n.toNat)
theorem Qvs {o : List Nat} (h : N32 o) : U32 (iL o) := by
  intro x hx
  simp only [iL, List.mem_map] at hx
  obtain ⟨y, hy, rfl⟩ := hx
  have := h y hy
  omega
theorem Qsj {c x n : Int} {t : List Int} {b : List UInt8} (h : ZC c x n = 0) (h2 : QsW c x t n b = 0) : Qbm b = 0 := by
  unfold QsW at h2
  rw [if_neg (by omega)] at h2
  split at h2
  · omega
  · omega
end Go.Am

namespace Go.Am
open Go.RowKit

/-! ### Silence, Heal -/

def Qrc (c x : Int) (t : List Int) (n : Int) (b : List UInt8) : List Int := if QsW c x t n b = 0 then unB c.toNat x t (iL (Qvw (Quy b c.toNat n.toNat))) else []
theorem Qs0 (c x n : Int) (t : List Int) (b : List UInt8) : Qqh c x t n b = .tup [il (Qrc c x t n b), .int .i64 (QsW c x t n b)] ∧ (Qrc c x t n b).length ≤ 4000 := by
  unfold Qqh Qrc QsW Quy
  by_cases h1 : ZC c x n = 0
  case neg => simp only [if_pos h1]; exact ⟨rfl, by simp⟩
  have a1 : ¬ (ZC c x n ≠ 0) := by omega
  simp only [if_neg a1]
  by_cases h2 : Qbm b = 0
  case neg =>
    have h2' : ((Qbm b : Nat) : Int) ≠ 0 := by omega
    simp only [if_pos h2, if_neg h2']
    exact ⟨rfl, by simp⟩
  have a2 : ¬ (Qbm b ≠ 0) := by omega
  simp only [if_neg a2]
  obtain ⟨_, c', n', rfl, rfl, q1, q2, q3, q4, q5⟩ := QaP h1
  simp only [Int.toNat_natCast]
  have hs := Qbf (V := leN (b.take (b.length - 4))) (N := 8 * (b.take (b.length - 4)).length) (c := c') (n' * c') [] 0 (Nat.zero_le _) (fun x hx => by simp at hx)
  generalize leN (b.take (b.length - 4)) = V at *
  generalize 8 * (b.take (b.length - 4)).length = N at *
  cases hw : Jy V N c' (n' * c') [] 0 with
  | inl w =>
    obtain ⟨e, o⟩ := w
    have he := (hs.1 e o hw).1
    have he0 : ¬ ((e : Int) = 0) := by omega
    have he2 : ¬ (Qu3 V N c' x t (.inl (e, o)) = 0) := he0
    rw [if_neg he2]
    exact ⟨rfl, by simp⟩
  | inr w =>
    obtain ⟨o, a⟩ := w
    obtain ⟨hv, ha, hol⟩ := QsL q1 q2 q3 q4 hw
    simp only [Qt6, Qu3, Qvw]
    by_cases h3 : QfF V N a = 0
    · have a3 : ¬ (QfF V N a ≠ 0) := by omega
      simp only [if_neg a3]
      unfold Qoc
      by_cases h4 : QC x (unB c' x t (iL o)) = 0
      · have a4 : ¬ (QC x (unB c' x t (iL o)) ≠ 0) := by omega
        simp only [if_neg a4, if_pos h4]
        rw [h4]
        exact ⟨rfl, by rw [QjY]; simp only [iL, List.length_map]; omega⟩
      · simp only [if_pos h4, if_neg h4]
        exact ⟨rfl, by simp⟩
    · have a5 : ¬ ((12 : Int) = 0) := by omega
      simp only [if_pos h3, if_neg a5]
      exact ⟨rfl, by simp⟩
end Go.Am

namespace Go.Am
open Go.RowKit

/-! ### Codes (plain) -/

def Qd2 (v k : Nat) : Nat := if 48 ≤ v / 2 ^ k then 80 else v / 2 ^ k + 1 + k
def QfE (v k : Nat) : Nat := if 48 ≤ v / 2 ^ k then 2 ^ 48 - 1 + 2 ^ 48 * v else 2 ^ (v / 2 ^ k) - 1 + 2 ^ (v / 2 ^ k + 1) * (v % 2 ^ k)
def QaK (d : Dl) (v : Nat) : Nat := if v < 2 ^ d.k0 then 1 + d.k0 else 1 + Qd2 (v - 2 ^ d.k0) d.k1
def Qfb (d : Dl) (v : Nat) : Nat := if v < 2 ^ d.k0 then 2 * v else 1 + 2 * QfE (v - 2 ^ d.k0) d.k1

theorem JD {V N W n : Nat} (hV : V < 2 ^ N) (hW : W < 2 ^ n) : V + 2 ^ N * W < 2 ^ (N + n) := by
  have h1 : 2 ^ N * (W + 1) ≤ 2 ^ N * 2 ^ n := Nat.mul_le_mul_left _ hW
  rw [Nat.pow_add]
  rw [Nat.mul_add, Nat.mul_one] at h1
  omega
theorem QrL {v k : Nat} (hv : v < 4294967296) : QfE v k < 2 ^ Qd2 v k := by
  unfold QfE Qd2
  split
  · exact JD (N := 48) (n := 32) (by decide) hv
  · have h1 : v % 2 ^ k < 2 ^ k := Nat.mod_lt _ (Nat.pow_pos (by omega))
    refine JD ?_ h1
    have : 0 < 2 ^ (v / 2 ^ k) := Nat.pow_pos (by omega)
    rw [Nat.pow_succ]
    omega
theorem QrK {v k : Nat} (hk : k ≤ 24) : Qd2 v k ≤ 80 := by unfold Qd2; split <;> omega
theorem Qmw {d : Dl} {v : Nat} (hd : okD d) : QaK d v ≤ 81 := by
  have := QrK (v := v - 2 ^ d.k0) hd.2.1
  have := hd.1
  unfold QaK
  split <;> omega
theorem Qql (d : Dl) (v : Nat) : 1 ≤ QaK d v := by unfold QaK; split <;> omega
theorem Qmx {d : Dl} {v : Nat} (hv : v < 4294967296) : Qfb d v < 2 ^ QaK d v := by
  unfold Qfb QaK
  split
  · rename_i h
    rw [Nat.pow_add, Nat.pow_one]
    omega
  · have h := QrL (v := v - 2 ^ d.k0) (k := d.k1) (Nat.lt_of_le_of_lt (Nat.sub_le _ _) hv)
    exact JD (N := 1) (V := 1) (by decide) h

def Qsh (c : Nat) (v : List Nat) : Nat → Nat × Nat
  | 0 => (0, 0)
  | i + 1 => ((Qsh c v i).1 + QaK (QM c (i % c) (v.take i)) (v.getD i 0), (Qsh c v i).2 + 2 ^ (Qsh c v i).1 * Qfb (QM c (i % c) (v.take i)) (v.getD i 0))
def Qdb (c : Nat) (v : List Nat) (i : Nat) : Nat := (Qsh c v i).1
def Qjz (c : Nat) (v : List Nat) (i : Nat) : Nat := (Qsh c v i).2
theorem QiQ (c : Nat) (v : List Nat) : Qdb c v 0 = 0 := rfl
theorem Qe2 (c : Nat) (v : List Nat) : Qjz c v 0 = 0 := rfl
theorem Qe4 (c : Nat) (v : List Nat) (i : Nat) : Qdb c v (i + 1) = Qdb c v i + QaK (QM c (i % c) (v.take i)) (v.getD i 0) := rfl
theorem Qe3 (c : Nat) (v : List Nat) (i : Nat) : Qjz c v (i + 1) = Qjz c v i + 2 ^ Qdb c v i * Qfb (QM c (i % c) (v.take i)) (v.getD i 0) := rfl
theorem N32.take {v : List Nat} (h : N32 v) (i : Nat) : N32 (v.take i) := fun x hx => h x (List.mem_of_mem_take hx)
theorem N32.getD {v : List Nat} (h : N32 v) (i : Nat) : v.getD i 0 < 4294967296 := by
  rw [List.getD_eq_getElem?_getD]
  cases hx : v[i]? with
  | none => simp
  | some x => exact h x (List.mem_of_getElem? hx)
theorem QbK {c : Nat} {v : List Nat} (h : N32 v) : ∀ i, Qjz c v i < 2 ^ Qdb c v i ∧ Qdb c v i ≤ 81 * i ∧ i ≤ Qdb c v i
  | 0 => by rw [QiQ, Qe2]; decide
  | i + 1 => by
    obtain ⟨h1, h2, h3⟩ := QbK h i
    have hd := Qfd (c := c) (r := i % c) (h.take i)
    have h4 := Qmw (v := v.getD i 0) hd
    have h5 := Qql (QM c (i % c) (v.take i)) (v.getD i 0)
    rw [Qe4, Qe3]
    exact ⟨JD h1 (Qmx (h.getD i)), by omega, by omega⟩

def Qe5 (c : Nat) (v : List Nat) : List UInt8 := leB (Qjz c v v.length) (nB (Qdb c v v.length))
def Qo7 (p : List UInt8) : List UInt8 := p ++ leB (Qio p) 4
theorem Qo6 (p : List UInt8) : (Qo7 p).length = p.length + 4 := by simp [Qo7, QF]
theorem Qmo (c : Nat) (v : List Nat) : (Qe5 c v).length = nB (Qdb c v v.length) := by simp [Qe5, QF]

end Go.Am

namespace Go.Am
open Go.RowKit

/-! ### Codes are written -/

theorem QvD (ob J : List Ob) (k : Nat) : (ob ++ J)[ob.length + k]? = J[k]? := by rw [List.getElem?_append_right (by omega), Nat.add_sub_cancel_left]
theorem QpR (ob J : List Ob) : (ob ++ J)[ob.length]? = J[0]? := QvD ob J 0
theorem Qvy (ob J : List Ob) (k : Nat) (y : Ob) : (ob ++ J).set (ob.length + k) y = ob ++ J.set k y := by rw [List.set_append_right _ _ (by omega), Nat.add_sub_cancel_left]
theorem Qts (ob J : List Ob) (y : Ob) : (ob ++ J).set ob.length y = ob ++ J.set 0 y := Qvy ob J 0 y

def Qex (t : Nat) (P : Prg) (f : Nat) : Prop := ∀ l : List UInt8, l.length ≤ 1000000 → VO P f [bs l] (.own 0 l.length) ⟨t, 1, l.length, u8 l, 0⟩
theorem Qud {P : Prg} {f t0 : Nat} (b : Qj P f 8 [.tmp 2] (QG t0)) : Qex t0 P f := by
  intro l hl
  refine VO.of_walk (by simp [Qs, X3]) (Qe0 l) (by simp [okr]) (ACall.virtR t0 1 (by decide) (ACall.of_body b (by simp) ?_))
  by_cases h0 : l = []
  · subst h0
    simp (maxSteps := 4000000) (disch := omega) only [rr, aop, cV, cV1, AV.one, Qb, okW, Qd, app, Qa, Qc, Qe, Qf, Qg, simprocAttr, QG, bs, Qjy, QsF]
    exact ⟨.inr ⟨true, rfl, 0, rfl, rfl⟩, .inl ⟨0, rfl, rfl⟩⟩
  · have h1 : l.length ≠ 0 := by simpa using h0
    simp (maxSteps := 4000000) (disch := omega) only [rr, aop, cV, cV1, AV.one, Qb, okW, Qd, app, Qa, Qc, Qe, Qf, Qg, simprocAttr, QG, bs, Qjy, h1]
    exact .inl ⟨0, rfl, rfl⟩

theorem QqD {P : Prg} {f fC t0 tb : Nat} (bd : Qj P f 9 [.cell 2 t0] (JX fC t0)) (hC : Qex tb P fC) (ht : ZG P t0 = some (some 2)) {N V : Nat} (hN : N ≤ 400000) {ob : List Ob} (hl : Low ob.length ob) {K : AV → List Ob → Prop}
    (hK : K (.agg [.own ob.length (nB N), .int .i64 N]) (ob ++ [bY tb N V])) : ACall P f [bA N V] ob K := by
  refine ACall.low (ACall.pad (ACall.of_body bd (by simp) ?_))
  have hC' := hC (leB V (nB N)) (by rw [QF]; unfold nB; omega)
  rw [bs, QF] at hC'
  have hlow : Low (ob.length + 1) (ob ++ [bY tb N V]) := (hl.mono (by omega)).append (Low.cons (XA _ (Ji _ _)) Low.nil)
  simp (maxSteps := 4000000) (disch := omega) only [rr, aop, cV, cV1, AV.one, Qb, okW, Qd, app, Qa, Qc, Qe, Qf, Qg, simprocAttr, JX, bA, List.append_assoc, List.cons_append, List.nil_append, QvD, QpR, Qvy, Qts]
  refine Ze.vo hC' ob.length (by rw [QpR]; rfl) Nat.one_ne_zero ?_
  simp (maxSteps := 4000000) (disch := omega) only [rr, aop, cV, cV1, AV.one, Qb, okW, Qd, app, Qa, Qc, Qe, Qf, Qg, simprocAttr, shr, List.append_assoc, List.cons_append, List.nil_append, QvD, QpR, Qvy, Qts, ZU, ht, Zi]
  exact ⟨ob ++ [bY tb N V], [_, _], by simp [bY]; exact ⟨rfl, rfl⟩, by simp, by simpa using hlow, by simp [XP, Qb5], hK⟩

def Qjw (P : Prg) (f : Nat) : Prop := ∀ N V v n : Nat, V < 2 ^ N → v < 2 ^ n → n ≤ 64 → N + n ≤ 330000 → VC P f [bA N V, .int .u64 v, .int .i64 n] (.tup [bA (N + n) (V + 2 ^ N * v), .int .i64 0])
theorem Qsv {P : Prg} {f fC fT fK fP t0 t1 tb : Nat} (bd : Qj P f 44 [.cell 6 t0, .tmp 7] (QaZ fC fT fP t0)) (hC : Xx P fC) (bT : Qj P fT 9 [.cell 2 t1] (JX fK t1)) (bP : Qj P fP 75 [] (JK tb)) (hK : Qex tb P fK) (ht : ZG P t0 = some (some 2)) (ht1 : ZG P t1 = some (some 2)) : Qjw P f := by
  intro N V v n hV hv hn hN
  refine VC.of_walk 2 (by simp [Qs, XC, isD]) (by simp [isD, Qs, XC]) (ACall.of_body bd (by simp) ?_)
  have hC' := hC N V hV (by omega)
  rw [bA] at hC'
  have e1 : n < 64 → Qm false .u64 (v : Int) (n : Int) = some (.int .u64 0) := fun h => by
    rw [QhV (K := .u64) (by show n ≤ 64; omega), Nat.div_eq_of_lt hv]; rfl
  have tu : X2 (u8 (leB V (nB N))) = true := Xl _
  have tl : ∀ W M, X2 (u8 (leB W M)) = true := fun W M => Xl _
  have tw : ∀ (Q : Exit → St → Prop) os fr dst, wpQ P os Q ⟨Zx fr dst (.agg [.own 2 (nB N), .int .i64 N]), [⟨t0, 2, 1, [.list (nB N) (u8 (leB V (nB N))), .int .i64 N], 0⟩, ⟨t0, 2, 1, [.emp true, .int .i64 0], 0⟩, bY tb N V]⟩ →
      Qh P fT [.agg [.list (nB N) (u8 (leB V (nB N))), .int .i64 N]] [⟨t0, 2, 1, [.list (nB N) (u8 (leB V (nB N))), .int .i64 N], 0⟩, ⟨t0, 2, 1, [.emp true, .int .i64 0], 0⟩] os Q fr dst := fun Q os fr dst h =>
    QqD bT hK ht1 (N := N) (V := V) (by omega) (Low.cons (by simp [Qb5, XP, XA _ (Ji _ _)]) (Low.cons (by simp [Qb5, XP]) Low.nil)) h
  have pt : ∀ (Q : Exit → St → Prop) os fr dst, wpQ P os Q ⟨Zx fr dst (.tup []), [⟨t0, 2, 1, [.own 2 (nB (N + n)), .int .i64 ((N + n : Nat) : Int)], 0⟩, ⟨t0, 2, 1, [.emp true, .int .i64 0], 0⟩, bY tb (N + n) (V + 2 ^ N * v)]⟩ →
      Qh P fP [.ref 0 1 0, .int .u64 v, .int .i64 n] [⟨t0, 2, 1, [.own 2 (nB N), .int .i64 N], 0⟩, ⟨t0, 2, 1, [.emp true, .int .i64 0], 0⟩, bY tb N V] os Q fr dst := fun Q os fr dst h =>
    QmF bP (ob := [⟨t0, 2, 1, [.own 2 (nB N), .int .i64 N], 0⟩, ⟨t0, 2, 1, [.emp true, .int .i64 0], 0⟩, bY tb N V]) (p := 0) (o := 2) (t := t0) rfl rfl (by decide) hV hv hn (by omega)
      (Low.cons (by simp [Qb5, XP]) (Low.cons (by simp [Qb5, XP]) (Low.cons (XA _ (Ji _ _)) Low.nil))) h
  have tu' := tl (V + 2 ^ N * v) (nB (N + n))
  generalize V + 2 ^ N * v = W at *
  by_cases h64 : n < 64
  · have e1' := e1 h64
    simp (maxSteps := 4000000) (disch := omega) only [rr, aop, cV, cV1, AV.one, Qb, okW, Qd, app, Qa, Qc, Qe, Qf, Qg, simprocAttr, QaZ, bA]
    refine Qh.vc hC' ?_
    simp (maxSteps := 4000000) (disch := omega) only [rr, aop, cV, cV1, AV.one, Qb, okW, Qd, app, Qa, Qc, Qe, Qf, Qg, simprocAttr, e1']
    refine tw _ _ _ _ ?_
    simp (maxSteps := 4000000) (disch := omega) only [rr, aop, cV, cV1, AV.one, Qb, okW, Qd, app, Qa, Qc, Qe, Qf, Qg, simprocAttr]
    refine pt _ _ _ _ ?_
    simp (maxSteps := 4000000) (disch := omega) only [rr, aop, cV, cV1, AV.one, Qb, okW, Qd, app, Qa, Qc, Qe, Qf, Qg, simprocAttr, ZU, ht, Zi]
    simp [Zr, QJ, QO, QI, bY, Qr _ tu']
  · simp (maxSteps := 4000000) (disch := omega) only [rr, aop, cV, cV1, AV.one, Qb, okW, Qd, app, Qa, Qc, Qe, Qf, Qg, simprocAttr, QaZ, bA]
    refine Qh.vc hC' ?_
    simp (maxSteps := 4000000) (disch := omega) only [rr, aop, cV, cV1, AV.one, Qb, okW, Qd, app, Qa, Qc, Qe, Qf, Qg, simprocAttr]
    refine tw _ _ _ _ ?_
    simp (maxSteps := 4000000) (disch := omega) only [rr, aop, cV, cV1, AV.one, Qb, okW, Qd, app, Qa, Qc, Qe, Qf, Qg, simprocAttr]
    refine pt _ _ _ _ ?_
    simp (maxSteps := 4000000) (disch := omega) only [rr, aop, cV, cV1, AV.one, Qb, okW, Qd, app, Qa, Qc, Qe, Qf, Qg, simprocAttr, ZU, ht, Zi]
    simp [Zr, QJ, QO, QI, bY, Qr _ tu']

end Go.Am

namespace Go.Am
open Go.RowKit

/-! ### Codes are written: unary, rice, dual -/

def uN (n : Nat) : Nat := min (n + 1) 48
def QqU (P : Prg) (f : Nat) : Prop := ∀ n : Nat, n ≤ 48 → VC P f [.int .i64 n] (.tup [.int .i64 (uN n), .int .i64 0])
theorem Qik {P : Prg} {f : Nat} (bd : Qj P f 13 [.tmp 2, .tmp 3] JI) : QqU P f := by
  intro n hn
  refine VC.of_acall rfl rfl (ACall.of_body bd (by simp) ?_)
  have e1 : (if (48 : Int) < (n : Int) + 1 then (48 : Int) else (n : Int) + 1) = (uN n : Nat) := by unfold uN; split <;> omega
  simp (maxSteps := 4000000) (disch := omega) only [rr, aop, cV, cV1, AV.one, Qb, okW, Qd, app, Qa, Qc, Qe, Qf, Qg, simprocAttr, JI, e1]

theorem Qpo {n : Nat} (h : n ≤ 48) : 2 ^ n ≤ 281474976710656 := Nat.pow_le_pow_right (by omega) h
def QhD (P : Prg) (f : Nat) : Prop := ∀ N V n : Nat, V < 2 ^ N → n ≤ 48 → N + uN n ≤ 330000 → VC P f [bA N V, .int .i64 n] (.tup [bA (N + uN n) (V + 2 ^ N * (2 ^ n - 1)), .int .i64 0])
theorem QjX {P : Prg} {f fC fL fP t0 : Nat} (bd : Qj P f 32 [.cell 4 t0, .tmp 5] (J6 fC fL fP t0)) (hC : Xx P fC) (hL : QqU P fL) (hP : Qjw P fP) (ht : ZG P t0 = some (some 2)) : QhD P f := by
  intro N V n hV hn hN
  refine VC.of_walk 1 (by simp [Qs, XC, isD]) (by simp [isD, Qs, XC]) (ACall.of_body bd (by simp) ?_)
  have hC' := hC N V hV (by omega)
  have hL' := hL n hn
  have hp := Qpo hn
  have hpos : 0 < 2 ^ n := Nat.pow_pos (by omega)
  have hlt : 2 ^ n - 1 < 2 ^ uN n := by
    unfold uN
    rcases Nat.lt_or_ge n 48 with h | h
    · rw [Nat.min_eq_left (by omega), Nat.pow_succ]; omega
    · obtain rfl : n = 48 := by omega
      decide
  have hP' := hP N V (2 ^ n - 1) (uN n) hV hlt (by unfold uN; omega) hN
  have e3 : Qm true .u64 1 (n : Int) = some (.int .u64 ((2 ^ n : Nat) : Int)) := by
    have := Qob (K := .u64) rfl (c := 1) (s := n) (by show n ≤ 64; omega) (by show 1 * 2 ^ n < 18446744073709551616; omega)
    rw [Nat.one_mul] at this
    exact this
  have e4 : IntKind.u64.wrap (((2 ^ n : Nat) : Int) - 1) = ((2 ^ n - 1 : Nat) : Int) := by rw [Zm]; omega
  generalize V + 2 ^ N * (2 ^ n - 1) = W at *
  generalize 2 ^ n - 1 = x at *
  generalize 2 ^ n = p at *
  generalize uN n = u at *
  have tl : X2 (u8 (leB W (nB (N + u)))) = true := Xl _
  simp only [bA] at hC' hP' ⊢
  simp (maxSteps := 4000000) (disch := omega) only [rr, aop, cV, cV1, AV.one, Qb, okW, Qd, app, Qa, Qc, Qe, Qf, Qg, simprocAttr, J6]
  refine Qh.vc hC' ?_
  simp (maxSteps := 4000000) (disch := omega) only [rr, aop, cV, cV1, AV.one, Qb, okW, Qd, app, Qa, Qc, Qe, Qf, Qg, simprocAttr]
  refine Qh.vc hL' ?_
  simp (maxSteps := 4000000) (disch := omega) only [rr, aop, cV, cV1, AV.one, Qb, okW, Qd, app, Qa, Qc, Qe, Qf, Qg, simprocAttr, e3, e4]
  refine Ze.vc hP' ?_
  simp (maxSteps := 4000000) (disch := omega) only [rr, aop, cV, cV1, AV.one, Qb, okW, Qd, app, Qa, Qc, Qe, Qf, Qg, simprocAttr, ZU, ht, Zi]
  simp [Zr, QJ, QO, QI, Qr _ tl]

def QhG (P : Prg) (f : Nat) : Prop := ∀ N V v k : Nat, V < 2 ^ N → v < 4294967296 → k ≤ 24 → N + 80 ≤ 330000 → VC P f [bA N V, .int .u32 v, .int .i64 k] (.tup [bA (N + Qd2 v k) (V + 2 ^ N * QfE v k), .int .i64 0])
theorem Qnj {P : Prg} {f fC fE fU fP t0 : Nat} (bd : Qj P f 57 [.cell 6 t0, .tmp 7] (Jl fC fE fU fP t0)) (hC : Xx P fC) (hE : QsB P fE) (hU : QhD P fU) (hP : Qjw P fP) (ht : ZG P t0 = some (some 2)) : QhG P f := by
  intro N V v k hV hv hk hN
  refine VC.of_walk 1 (by simp [Qs, XC, isD]) (by simp [isD, Qs, XC]) (ACall.of_body bd (by simp) ?_)
  have hC' := hC N V hV (by omega)
  have hE' := hE v k hk hv
  obtain ⟨q1, _⟩ := p24 hk
  have hpk : 0 < 2 ^ k := Nat.pow_pos (by omega)
  have e1 : Qm false .u32 (v : Int) (k : Int) = some (.int .u32 ((v / 2 ^ k : Nat) : Int)) := QhV (K := .u32) (by show k ≤ 32; omega)
  have e2 : Qm true .u32 1 (k : Int) = some (.int .u32 ((2 ^ k : Nat) : Int)) := by
    have := Qob (K := .u32) rfl (c := 1) (s := k) (by show k ≤ 32; omega) (by show 1 * 2 ^ k < 4294967296; omega)
    rw [Nat.one_mul] at this
    exact this
  have e3 : IntKind.u32.wrap (((2 ^ k : Nat) : Int) - 1) = ((2 ^ k - 1 : Nat) : Int) := by rw [XU]; omega
  have e4 : IntKind.u32.wrap (BitVec.ofInt IntKind.u32.bits (v : Int) &&& BitVec.ofInt IntKind.u32.bits ((2 ^ k - 1 : Nat) : Int)).toNat = ((v % 2 ^ k : Nat) : Int) := by
    rw [QvH (K := .u32) rfl hv (by show 2 ^ k - 1 < 4294967296; omega), Nat.and_two_pow_sub_one_eq_mod]
  have hqv : v / 2 ^ k ≤ v := Nat.div_le_self _ _
  have hrv : v % 2 ^ k < 2 ^ k := Nat.mod_lt _ hpk
  unfold Qd2 QfE
  by_cases hq : 48 ≤ v / 2 ^ k
  · rw [if_pos hq, if_pos hq]
    simp only [hq, decide_true] at hE'
    have hU' := hU N V 48 hV (Nat.le_refl _) (by unfold uN; omega)
    have hu : uN 48 = 48 := rfl
    rw [hu] at hU'
    have hV1 : V + 2 ^ N * (2 ^ 48 - 1) < 2 ^ (N + 48) := JD hV (by decide)
    have hP' := hP (N + 48) (V + 2 ^ N * (2 ^ 48 - 1)) v 32 hV1 hv (by omega) (by omega)
    have hW : V + 2 ^ N * (2 ^ 48 - 1) + 2 ^ (N + 48) * v = V + 2 ^ N * (2 ^ 48 - 1 + 2 ^ 48 * v) := by rw [Nat.pow_add, Nat.mul_add, Nat.mul_assoc, Nat.add_assoc]
    rw [hW] at hP'
    generalize V + 2 ^ N * (2 ^ 48 - 1 + 2 ^ 48 * v) = W at *
    generalize V + 2 ^ N * (2 ^ 48 - 1) = W1 at *
    have hNN : N + 48 + 32 = N + 80 := by omega
    rw [hNN] at hP'
    have tl : X2 (u8 (leB W (nB (N + 80)))) = true := Xl _
    simp only [bA] at hC' hP' hU' ⊢
    have hU'' : VC P fU [.agg [.list (nB N) (u8 (leB V (nB N))), .int .i64 N], .int .i64 48] (.tup [.agg [.list (nB (N + 48)) (u8 (leB W1 (nB (N + 48)))), .int .i64 ((N + 48 : Nat) : Int)], .int .i64 0]) := hU'
    have hP'' : VC P fP [.agg [.list (nB (N + 48)) (u8 (leB W1 (nB (N + 48)))), .int .i64 ((N + 48 : Nat) : Int)], .int .u64 v, .int .i64 32] (.tup [.agg [.list (nB (N + 80)) (u8 (leB W (nB (N + 80)))), .int .i64 ((N + 80 : Nat) : Int)], .int .i64 0]) := hP'
    generalize v / 2 ^ k = q at *
    generalize v % 2 ^ k = r at *
    generalize 2 ^ k - 1 = mk at *
    generalize 2 ^ k = pk at *
    simp (maxSteps := 4000000) (disch := omega) only [rr, aop, cV, cV1, AV.one, Qb, okW, Qd, app, Qa, Qc, Qe, Qf, Qg, simprocAttr, Jl]
    refine Qh.vc hC' ?_
    simp (maxSteps := 4000000) (disch := omega) only [rr, aop, cV, cV1, AV.one, Qb, okW, Qd, app, Qa, Qc, Qe, Qf, Qg, simprocAttr, e1, e2, e3, e4]
    refine Qh.vc hE' ?_
    simp (maxSteps := 4000000) (disch := omega) only [rr, aop, cV, cV1, AV.one, Qb, okW, Qd, app, Qa, Qc, Qe, Qf, Qg, simprocAttr]
    refine Qh.vc hU'' ?_
    simp (maxSteps := 4000000) (disch := omega) only [rr, aop, cV, cV1, AV.one, Qb, okW, Qd, app, Qa, Qc, Qe, Qf, Qg, simprocAttr]
    refine Qh.vc hP'' ?_
    simp (maxSteps := 4000000) (disch := omega) only [rr, aop, cV, cV1, AV.one, Qb, okW, Qd, app, Qa, Qc, Qe, Qf, Qg, simprocAttr, ZU, ht, Zi]
    simp [Zr, QJ, QO, QI, Qr _ tl]
  · rw [if_neg hq, if_neg hq]
    simp only [hq, decide_false] at hE'
    have hu : uN (v / 2 ^ k) = v / 2 ^ k + 1 := by unfold uN; omega
    have hU' := hU N V (v / 2 ^ k) hV (by omega) (by rw [hu]; omega)
    rw [hu] at hU'
    have hlt : 2 ^ (v / 2 ^ k) - 1 < 2 ^ (v / 2 ^ k + 1) := by
      have : 0 < 2 ^ (v / 2 ^ k) := Nat.pow_pos (by omega)
      rw [Nat.pow_succ]; omega
    have hV1 : V + 2 ^ N * (2 ^ (v / 2 ^ k) - 1) < 2 ^ (N + (v / 2 ^ k + 1)) := JD hV hlt
    have hP' := hP (N + (v / 2 ^ k + 1)) (V + 2 ^ N * (2 ^ (v / 2 ^ k) - 1)) (v % 2 ^ k) k hV1 hrv (by omega) (by omega)
    have hW : V + 2 ^ N * (2 ^ (v / 2 ^ k) - 1) + 2 ^ (N + (v / 2 ^ k + 1)) * (v % 2 ^ k) = V + 2 ^ N * (2 ^ (v / 2 ^ k) - 1 + 2 ^ (v / 2 ^ k + 1) * (v % 2 ^ k)) := by rw [Nat.pow_add 2 N, Nat.mul_add, Nat.mul_assoc, Nat.add_assoc]
    rw [hW] at hP'
    generalize V + 2 ^ N * (2 ^ (v / 2 ^ k) - 1 + 2 ^ (v / 2 ^ k + 1) * (v % 2 ^ k)) = W at *
    generalize V + 2 ^ N * (2 ^ (v / 2 ^ k) - 1) = W1 at *
    have hNN : N + (v / 2 ^ k + 1) + k = N + (v / 2 ^ k + 1 + k) := by omega
    rw [hNN] at hP'
    have tl : X2 (u8 (leB W (nB (N + (v / 2 ^ k + 1 + k))))) = true := Xl _
    simp only [bA] at hC' hP' hU' ⊢
    generalize v / 2 ^ k = q at *
    generalize v % 2 ^ k = r at *
    generalize 2 ^ k - 1 = mk at *
    generalize 2 ^ k = pk at *
    generalize hM : N + (q + 1 + k) = M at *
    generalize hM1 : N + (q + 1) = M1 at *
    simp (maxSteps := 4000000) (disch := omega) only [rr, aop, cV, cV1, AV.one, Qb, okW, Qd, app, Qa, Qc, Qe, Qf, Qg, simprocAttr, Jl]
    refine Qh.vc hC' ?_
    simp (maxSteps := 4000000) (disch := omega) only [rr, aop, cV, cV1, AV.one, Qb, okW, Qd, app, Qa, Qc, Qe, Qf, Qg, simprocAttr, e1, e2, e3, e4]
    refine Qh.vc hE' ?_
    simp (maxSteps := 4000000) (disch := omega) only [rr, aop, cV, cV1, AV.one, Qb, okW, Qd, app, Qa, Qc, Qe, Qf, Qg, simprocAttr]
    refine Qh.vc hU' ?_
    simp (maxSteps := 4000000) (disch := omega) only [rr, aop, cV, cV1, AV.one, Qb, okW, Qd, app, Qa, Qc, Qe, Qf, Qg, simprocAttr]
    refine Qh.vc hP' ?_
    simp (maxSteps := 4000000) (disch := omega) only [rr, aop, cV, cV1, AV.one, Qb, okW, Qd, app, Qa, Qc, Qe, Qf, Qg, simprocAttr, ZU, ht, Zi]
    simp [Zr, QJ, QO, QI, Qr _ tl]

def QhI (P : Prg) (f : Nat) : Prop := ∀ (N V v : Nat) (d : Dl), V < 2 ^ N → v < 4294967296 → okD d → N + 81 ≤ 330000 → VC P f [bA N V, dlA d, .int .u32 v] (.tup [bA (N + QaK d v) (V + 2 ^ N * Qfb d v), dlA (ZK d v), .int .i64 0])
theorem QnF {P : Prg} {f fC fD fV fP fR fL fl1 fll t0 t1 : Nat} (bd : Qj P f 69 [.cell 6 t0, .cell 7 t1, .tmp 8] (Jn fC fD fV fP fR fL t0 t1)) (hC : Xx P fC) (hD : Qew P fD) (hLv : QdA P fV) (hP : Qjw P fP) (hR : QhG P fR)
    (bL : Qj P fL 36 [] (Z0 fl1 fll)) (b1 : Qj P fl1 58 [] Qn) (hL : QdA P fll) (ht0 : ZG P t0 = some (some 2)) (ht : ZG P t1 = some (some 4)) : QhI P f := by
  intro N V v d hV hv hd hN
  refine VC.of_walk 1 (by simp [Qs, XC, Qkw, isD]) (by simp [isD, Qs, XC, Qkw]) (ACall.of_cut 7 bd (by simp) ?_)
  have hd' := hd
  have hC' := hC N V hV (by omega)
  have hD' := hD d hd
  have hLv' := hLv d v hd hv
  have hL1 : ∀ {ob : List Ob} {p : Nat} {v : Nat} {K : AV → List Ob → Prop}, ob[p]? = some ⟨t1, 4, 1, dlC d, 0⟩ → v < 4294967296 → K (.tup []) (ob.set p ⟨t1, 4, 1, dlC (ZK d v), 0⟩) → ACall P fL [.ref p 1 0, .int .u32 v] ob K :=
    fun hp hv hK => Qgs bL b1 hL hp hd hv hK
  obtain ⟨k0, k1, s0, s1⟩ := d
  obtain ⟨h1, h2, h3, h4⟩ := hd'
  simp only at h1 h2 h3 h4
  obtain ⟨pk, _⟩ := p24 h1
  simp only [bA] at hC'
  simp only [dlA, dlC] at hD' hLv'
  unfold QaK Qfb
  by_cases c : v < 2 ^ k0
  · simp only [c, if_true] at hLv' ⊢
    have hP1 := hP N V 0 1 hV (by decide) (by omega) (by omega)
    rw [Nat.mul_zero, Nat.add_zero] at hP1
    have hV1 : V < 2 ^ (N + 1) := Nat.lt_of_lt_of_le hV (Nat.pow_le_pow_right (by omega) (by omega))
    have hP2 := hP (N + 1) V v k0 hV1 c (by omega) (by omega)
    have hW : V + 2 ^ (N + 1) * v = V + 2 ^ N * (2 * v) := by rw [Nat.pow_succ, Nat.mul_assoc]
    rw [hW, Nat.add_assoc] at hP2
    generalize V + 2 ^ N * (2 * v) = W at *
    have tl : X2 (u8 (leB W (nB (N + (1 + k0))))) = true := Xl _
    simp only [bA] at hP1 hP2 ⊢
    have hP1' : VC P fP [.agg [.list (nB N) (u8 (leB V (nB N))), .int .i64 N], .int .u64 0, .int .i64 1] (.tup [.agg [.list (nB (N + 1)) (u8 (leB V (nB (N + 1)))), .int .i64 ((N + 1 : Nat) : Int)], .int .i64 0]) := hP1
    simp (maxSteps := 4000000) (disch := omega) only [rr, aop, cV, cV1, AV.one, Qb, okW, Qd, app, Qa, Qc, Qe, Qf, Qg, simprocAttr, Qhi, Jn, dlA, dlC]
    refine Qh.vc hC' ?_
    simp (maxSteps := 4000000) (disch := omega) only [rr, aop, cV, cV1, AV.one, Qb, okW, Qd, app, Qa, Qc, Qe, Qf, Qg, simprocAttr, Qhi]
    refine Qh.vc hD' ?_
    simp (maxSteps := 4000000) (disch := omega) only [rr, aop, cV, cV1, AV.one, Qb, okW, Qd, app, Qa, Qc, Qe, Qf, Qg, simprocAttr, Qhi]
    refine Qh.vc hLv' ?_
    simp (maxSteps := 4000000) (disch := omega) only [rr, aop, cV, cV1, AV.one, Qb, okW, Qd, app, Qa, Qc, Qe, Qf, Qg, simprocAttr, Qhi]
    refine Qh.vc hP1' ?_
    simp (maxSteps := 4000000) (disch := omega) only [rr, aop, cV, cV1, AV.one, Qb, okW, Qd, app, Qa, Qc, Qe, Qf, Qg, simprocAttr, Qhi]
    refine Qh.vc hP2 ?_
    simp (maxSteps := 4000000) (disch := omega) only [rr, aop, cV, cV1, AV.one, Qb, okW, Qd, app, Qa, Qc, Qe, Qf, Qg, simprocAttr, Qhi]
    refine hL1 (v := v) rfl hv ?_
    generalize ZK ⟨k0, k1, s0, s1⟩ v = d'
    obtain ⟨l0, l1, l2, l3⟩ := d'
    simp (maxSteps := 4000000) (disch := omega) only [rr, aop, cV, cV1, AV.one, Qb, okW, Qd, app, Qa, Qc, Qe, Qf, Qg, simprocAttr, Qhi]
    refine ⟨⟨[(8, .int .i64 0), (7, .ref 3 1 0), (6, .ref 2 1 0), (4, .cell [.int .i64 l0, .int .i64 l1, .int .u64 l2, .int .u64 l3]), (3, .ref 0 1 0)], _⟩, Le.still [1] 1 (by simp [Am.look, QJ, QO, QI, dlC, Qs, isD]), ?_⟩
    simp (maxSteps := 4000000) (disch := omega) only [rr, aop, cV, cV1, AV.one, Qb, okW, Qd, app, Qa, Qc, Qe, Qf, Qg, simprocAttr, ZU, ht, ht0, Zi, dlC, Qw]
    simp [Zr, QJ, QO, QI, Qr _ tl]
  · simp only [c, if_false] at hLv' ⊢
    have hP1 := hP N V 1 1 hV (by decide) (by omega) (by omega)
    rw [Nat.mul_one] at hP1
    have hV1 : V + 2 ^ N < 2 ^ (N + 1) := by rw [Nat.pow_succ]; omega
    have hl : v - 2 ^ k0 < 4294967296 := Nat.lt_of_le_of_lt (Nat.sub_le _ _) hv
    have hR2 := hR (N + 1) (V + 2 ^ N) (v - 2 ^ k0) k1 hV1 hl h2 (by omega)
    have hW : V + 2 ^ N + 2 ^ (N + 1) * QfE (v - 2 ^ k0) k1 = V + 2 ^ N * (1 + 2 * QfE (v - 2 ^ k0) k1) := by rw [Nat.pow_succ, Nat.mul_assoc, Nat.mul_add, Nat.mul_one, Nat.add_assoc]
    rw [hW, Nat.add_assoc] at hR2
    generalize V + 2 ^ N * (1 + 2 * QfE (v - 2 ^ k0) k1) = W at *
    generalize Qd2 (v - 2 ^ k0) k1 = rn at *
    generalize v - 2 ^ k0 = lf at *
    generalize V + 2 ^ N = W1 at *
    have tl : X2 (u8 (leB W (nB (N + (1 + rn))))) = true := Xl _
    simp only [bA] at hP1 hR2 ⊢
    have hP1' : VC P fP [.agg [.list (nB N) (u8 (leB V (nB N))), .int .i64 N], .int .u64 1, .int .i64 1] (.tup [.agg [.list (nB (N + 1)) (u8 (leB W1 (nB (N + 1)))), .int .i64 ((N + 1 : Nat) : Int)], .int .i64 0]) := hP1
    simp (maxSteps := 4000000) (disch := omega) only [rr, aop, cV, cV1, AV.one, Qb, okW, Qd, app, Qa, Qc, Qe, Qf, Qg, simprocAttr, Qhi, Jn, dlA, dlC]
    refine Qh.vc hC' ?_
    simp (maxSteps := 4000000) (disch := omega) only [rr, aop, cV, cV1, AV.one, Qb, okW, Qd, app, Qa, Qc, Qe, Qf, Qg, simprocAttr, Qhi]
    refine Qh.vc hD' ?_
    simp (maxSteps := 4000000) (disch := omega) only [rr, aop, cV, cV1, AV.one, Qb, okW, Qd, app, Qa, Qc, Qe, Qf, Qg, simprocAttr, Qhi]
    refine Qh.vc hLv' ?_
    simp (maxSteps := 4000000) (disch := omega) only [rr, aop, cV, cV1, AV.one, Qb, okW, Qd, app, Qa, Qc, Qe, Qf, Qg, simprocAttr, Qhi]
    refine Qh.vc hP1' ?_
    simp (maxSteps := 4000000) (disch := omega) only [rr, aop, cV, cV1, AV.one, Qb, okW, Qd, app, Qa, Qc, Qe, Qf, Qg, simprocAttr, Qhi]
    refine Qh.vc hR2 ?_
    simp (maxSteps := 4000000) (disch := omega) only [rr, aop, cV, cV1, AV.one, Qb, okW, Qd, app, Qa, Qc, Qe, Qf, Qg, simprocAttr, Qhi]
    refine hL1 (v := v) rfl hv ?_
    generalize ZK ⟨k0, k1, s0, s1⟩ v = d'
    obtain ⟨l0, l1, l2, l3⟩ := d'
    simp (maxSteps := 4000000) (disch := omega) only [rr, aop, cV, cV1, AV.one, Qb, okW, Qd, app, Qa, Qc, Qe, Qf, Qg, simprocAttr, Qhi]
    refine ⟨⟨[(8, .int .i64 0), (7, .ref 3 1 0), (6, .ref 2 1 0), (4, .cell [.int .i64 l0, .int .i64 l1, .int .u64 l2, .int .u64 l3]), (3, .ref 0 1 0)], _⟩, Le.still [1] 1 (by simp [Am.look, QJ, QO, QI, dlC, Qs, isD]), ?_⟩
    simp (maxSteps := 4000000) (disch := omega) only [rr, aop, cV, cV1, AV.one, Qb, okW, Qd, app, Qa, Qc, Qe, Qf, Qg, simprocAttr, ZU, ht, ht0, Zi, dlC, Qw]
    simp [Zr, QJ, QO, QI, Qr _ tl]

end Go.Am

namespace Go.Am
open Go.RowKit

/-! ### Bits are put behind bits, one by one: enframe -/

theorem Low.putB {ob : List Ob} (h : Low ob.length ob) {t t0 t2 o p N V N' n C : Nat} (ho : o < ob.length) : Low (ob.length + 1) (Xz ob o p (bY t0 N V) (bO t o N') ++ [⟨t2, 2, 1, [.list (nB n) (u8 (leB C (nB n))), .int .i64 n], 0⟩]) :=
  ((h.put ho).mono (by omega)).append (Low.cons (by simp [Qb5, XP, XA _ (Ji _ _)]) Low.nil)

set_option maxHeartbeats 1000000 in
theorem QkF {P : Prg} {f t0 t1 : Nat} (bd : Qj P f 64 [] (XS t0 t1)) {ob : List Ob} {t p o N V C n : Nat} (hp : ob[p]? = some (bO t o N)) (ho : ob[o]? = some (bY t1 N V)) (hpo : p ≠ o) (hV : V < 2 ^ N) (hC : C < 2 ^ n) (hn : n ≤ 1000) (hN : N + n ≤ 400000) (hfz : Low ob.length ob)
    {K : AV → List Ob → Prop} (hK : K (.tup []) (Xz ob o p (bY t1 (N + n) (V + 2 ^ N * C)) (bO t o (N + n)))) : ACall P f [.ref p 1 0, bA n C] ob K := by
  have hol : o < ob.length := (List.getElem?_eq_some_iff.1 ho).1
  have hpl : p < ob.length := (List.getElem?_eq_some_iff.1 hp).1
  refine ACall.low (ACall.of_body bd (by simp) ?_)
  have g0 : ∀ x y J, (Xz ob o p x y ++ J)[p]? = some y := fun x y J => by rw [List.getElem?_append_left (by rw [Za]; exact hpl)]; exact QjT hpl
  have g1 : ∀ x y J, (Xz ob o p x y ++ J)[o]? = some x := fun x y J => by rw [List.getElem?_append_left (by rw [Za]; exact hol)]; exact QjU hol hpo
  have g2 : ∀ x y J y', (Xz ob o p x y ++ J).set p y' = Xz ob o p x y' ++ J := fun x y J y' => by rw [List.set_append_left _ _ (by rw [Za]; exact hpl), Qot]
  have g3 : ∀ x y J x', (Xz ob o p x y ++ J).set o x' = Xz ob o p x' y ++ J := fun x y J x' => by rw [List.set_append_left _ _ (by rw [Za]; exact hol), Qou hpo]
  have g4 : ∀ x y (J : List Ob), (Xz ob o p x y ++ J)[ob.length]? = J[0]? := fun x y J => by rw [List.getElem?_append_right (by rw [Za]; exact Nat.le_refl _), Za, Nat.sub_self]
  have g5 : ∀ x y (J : List Ob), (Xz ob o p x y ++ J)[ob.length + 1]? = J[1]? := fun x y J => by rw [List.getElem?_append_right (by rw [Za]; omega), Za, Nat.add_sub_cancel_left]
  have ln : ∀ x y, (Xz ob o p x y).length = ob.length := fun x y => Za
  have hs : ob = Xz ob o p (bY t1 N V) (bO t o N) := (Qij ho hp hpo).symm
  simp (maxSteps := 4000000) (disch := omega) only [rr, aop, cV, cV1, AV.one, Qb, okW, Qd, app, Qa, Qc, Qe, Qf, Qg, simprocAttr, XS, bA, QpR]
  refine QW.by (ι := Nat) (fun j => ⟨[(8, .int .i64 j), (7, .int .i64 n), (3, .ref ob.length 1 0), (0, .ref p 1 0)], Xz ob o p (bY t1 (N + j) (V + 2 ^ N * (C % 2 ^ j))) (bO t o (N + j)) ++ [⟨t0, 2, 1, [.list (nB n) (u8 (leB C (nB n))), .int .i64 n], 0⟩]⟩) (fun j => j ≤ n) (fun j => n - j) 0 ?_ (by omega) ?_
  · rw [Nat.add_zero, Nat.pow_zero, Nat.mod_one, Nat.mul_zero, Nat.add_zero, ← hs]
    exact Le.slots (by simp [Am.look])
  intro j hj
  by_cases hlt : j < n
  · obtain ⟨M, hM⟩ : ∃ M, M = N + j := ⟨_, rfl⟩
    obtain ⟨i, hi⟩ : ∃ i, i = M / 8 := ⟨_, rfl⟩
    obtain ⟨a, ha⟩ : ∃ a, a = M % 8 := ⟨_, rfl⟩
    obtain ⟨q, hq⟩ : ∃ q, q = j / 8 := ⟨_, rfl⟩
    obtain ⟨r, hr⟩ : ∃ r, r = j % 8 := ⟨_, rfl⟩
    obtain ⟨b, hb0⟩ : ∃ b, b = C / 2 ^ j % 2 := ⟨_, rfl⟩
    have hM8 : M = 8 * i + a := by omega
    have hj8 : 8 * q + r = j := by omega
    have hb : b < 2 := by rw [hb0]; exact Nat.mod_lt _ (by decide)
    have hW : V + 2 ^ N * (C % 2 ^ j) < 2 ^ M := by
      rw [hM]
      exact JD hV (Nat.mod_lt _ (Nat.pow_pos (by omega)))
    have hstep := Qv6 (V := V) (N := N) (v := C) (j := j) (r := 1)
    rw [← hM, Nat.pow_one, ← hb0] at hstep
    have hat := QpI (V := C) (k := nB n) (i := q) (by unfold nB; omega)
    have hbit := Qvj C q r (by omega)
    rw [hj8, ← hb0] at hbit
    have hby : C / 256 ^ q % 256 < 256 := Nat.mod_lt _ (by decide)
    have s1 : Qm false .u8 ((C / 256 ^ q % 256 : Nat) : Int) (r : Int) = some (.int .u8 ((C / 256 ^ q % 256 / 2 ^ r : Nat) : Int)) := QhV (K := .u8) (by show r ≤ 8; omega)
    have hle : C / 256 ^ q % 256 / 2 ^ r ≤ C / 256 ^ q % 256 := Nat.div_le_self _ _
    have s2 : IntKind.u8.wrap (BitVec.ofInt IntKind.u8.bits ((C / 256 ^ q % 256 / 2 ^ r : Nat) : Int) &&& BitVec.ofInt IntKind.u8.bits ((1 : Nat) : Int)).toNat = ((b : Nat) : Int) := by
      rw [QvH (K := .u8) rfl (by show _ < 256; omega) (by decide), Nat.and_one_is_mod, hbit]
    have s2' : IntKind.u8.wrap (BitVec.ofInt IntKind.u8.bits ((C / 256 ^ q % 256 / 2 ^ r : Nat) : Int) &&& BitVec.ofInt IntKind.u8.bits 1).toNat = ((b : Nat) : Int) := s2
    generalize C / 256 ^ q % 256 / 2 ^ r = y1 at *
    generalize C / 256 ^ q % 256 = y0 at *
    rw [← hM]
    have hq1 : (j : Int) / 8 = (q : Int) := by omega
    have hr1 : (j : Int) % 8 = (r : Int) := by omega
    have hi1 : (M : Int) / 8 = (i : Int) := by omega
    have ha1 : (M : Int) % 8 = (a : Int) := by omega
    have hnq : q < nB n := by unfold nB; omega
    generalize V + 2 ^ N * (C % 2 ^ j) = W at *
    generalize hWW : V + 2 ^ N * (C % 2 ^ (j + 1)) = W' at *
    have h2a : 2 ^ a ≤ 2 ^ 7 := Nat.pow_le_pow_right (by omega) (by omega)
    have hpos : 0 < 2 ^ a := Nat.pow_pos (by omega)
    obtain ⟨l1, l2⟩ := Qbr (V := W) (i := i) (at_ := a) (by rw [← hM8]; exact hW) (by omega)
    obtain ⟨b1, b2, _⟩ := Qb9 (V := W) (i := i) (at_ := a) (w := b) (r := 1) (by rw [← hM8]; exact hW) (by omega) (by omega)
    rw [← hM8, ← hstep] at b1
    have hyb : W / 256 ^ i < 256 := by omega
    have hyb2 : W / 256 ^ i + 2 ^ a * b < 256 := by
      have : 2 ^ (a + 1) ≤ 2 ^ 8 := Nat.pow_le_pow_right (by omega) (by omega)
      omega
    have hca : b * 2 ^ a < 2 ^ 8 := by
      rcases (by omega : b = 0 ∨ b = 1) with rfl | rfl <;> omega
    have hu : ∀ y, y < 256 → u8 [UInt8.ofNat y] = [.int .u8 (y : Int)] := fun y hy => by simp [u8]; omega
    have e8 : IntKind.u8.wrap (BitVec.ofInt IntKind.u8.bits ((W / 256 ^ i : Nat) : Int) ||| BitVec.ofInt IntKind.u8.bits ((b * 2 ^ a : Nat) : Int)).toNat = ((W / 256 ^ i + 2 ^ a * b : Nat) : Int) := by
      rw [orK (K := .u8) rfl hyb hca, QiB l2, Nat.mul_comm]
    have e7 : Qm true .u8 (b : Int) (a : Int) = some (.int .u8 ((b * 2 ^ a : Nat) : Int)) := Qob rfl (by show a ≤ 8; omega) hca
    have hnB : nB (M + 1) = i + 1 := by unfold nB; omega
    have hcell : u8 (leB W' (i + 1)) = u8 (leB W i) ++ [.int .u8 ((W / 256 ^ i + 2 ^ a * b : Nat) : Int)] := by
      rw [b1, show u8 (leB W i ++ [UInt8.ofNat (W / 256 ^ i + 2 ^ a * b)]) = u8 (leB W i) ++ u8 [UInt8.ofNat (W / 256 ^ i + 2 ^ a * b)] by simp [u8]]
      rw [hu _ hyb2]
    have hlen : (u8 (leB W i)).length = i := by simp [u8, QF]
    generalize W / 256 ^ i + 2 ^ a * b = y' at *
    generalize b * 2 ^ a = ca at *
    have d1 : ∀ z : AV, (u8 (leB W i) ++ [z]).drop i = [z] := fun z => by rw [List.drop_left' hlen]
    have d2 : ∀ z : AV, (u8 (leB W i) ++ [z]).take i = u8 (leB W i) := fun z => by rw [List.take_left' hlen]
    have d3 : ∀ z : AV, (u8 (leB W i) ++ [z]).drop (i + 1) = [] := fun z => List.drop_of_length_le (by simp [hlen])
    have el : (⟨t1, 1, i + 1, u8 (leB W i) ++ [.int .u8 (y' : Int)], 0⟩ : Ob) = bY t1 (M + 1) W' := by rw [bY, hnB, hcell]
    have er : (⟨t, 2, 1, [.own o (i + 1), .int .i64 ((M : Int) + 1)], 0⟩ : Ob) = bO t o (M + 1) := by rw [bO, hnB, Int.natCast_add]; rfl
    have hMr : N + (j + 1) = M + 1 := by omega
    have hcl : (u8 (leB C (nB n))).length = nB n := by simp [u8, QF]
    by_cases h0 : a = 0
    · subst h0
      have hnM : nB M = i := by unfold nB; omega
      have hW0 : W / 256 ^ i = 0 := by
        have := l2
        rw [Nat.pow_zero] at this
        exact Nat.lt_one_iff.1 this
      rw [hW0] at e8
      have e8' : IntKind.u8.wrap (BitVec.ofInt IntKind.u8.bits 0 ||| BitVec.ofInt IntKind.u8.bits (ca : Int)).toNat = (y' : Int) := e8
      have e7' : Qm true .u8 (b : Int) 0 = some (.int .u8 (ca : Int)) := e7
      have ha1' : (M : Int) % 8 = 0 := ha1
      simp (maxSteps := 4000000) (disch := omega) only [rr, aop, cV, cV1, AV.one, Qb, okW, Qd, app, Qa, Qc, Qe, Qf, Qg, simprocAttr, bO, bY, g0, g1, g2, g3, g4, g5, ln, hnM, hlen, hcl, hat, s1, s2', e7', e8', hq1, hr1, hi1, ha1', d1, d2, d3, List.append_assoc, List.cons_append, List.nil_append]
      refine ⟨j + 1, by omega, by omega, ?_⟩
      show Le ob.length _ ⟨[(8, .int .i64 ((j + 1 : Nat) : Int)), (7, .int .i64 n), (3, .ref ob.length 1 0), (0, .ref p 1 0)], Xz ob o p (bY t1 (N + (j + 1)) (V + 2 ^ N * (C % 2 ^ (j + 1)))) (bO t o (N + (j + 1))) ++ [⟨t0, 2, 1, [.list (nB n) (u8 (leB C (nB n))), .int .i64 n], 0⟩]⟩
      rw [hWW, hMr, el, er, List.append_cons]
      have hl : (Xz ob o p (bY t1 (M + 1) W') (bO t o (M + 1)) ++ [⟨t0, 2, 1, [.list (nB n) (u8 (leB C (nB n))), .int .i64 n], 0⟩] : List Ob).length = ob.length + 1 := by simp [ln]
      exact Le.low (by rw [hl]; omega) (by rw [hl]; exact hfz.putB hol) (by rw [hl]; simp [Am.look, XP, Nat.lt_succ_of_lt hpl])
    · have hnM : nB M = i + 1 := by unfold nB; omega
      have l3 : u8 (leB W (i + 1)) = u8 (leB W i) ++ [.int .u8 ((W / 256 ^ i : Nat) : Int)] := by
        rw [l1, show u8 (leB W i ++ [UInt8.ofNat (W / 256 ^ i)]) = u8 (leB W i) ++ u8 [UInt8.ofNat (W / 256 ^ i)] by simp [u8], hu _ hyb]
      have ha0 : (a : Int) ≠ 0 := by omega
      generalize W / 256 ^ i = y at *
      simp (maxSteps := 4000000) (disch := omega) only [rr, aop, cV, cV1, AV.one, Qb, okW, Qd, app, Qa, Qc, Qe, Qf, Qg, simprocAttr, bO, bY, g0, g1, g2, g3, g4, g5, ln, hnM, hlen, hcl, l3, hat, s1, s2', e7, e8, hq1, hr1, hi1, ha1, d1, d2, d3, List.append_assoc, List.cons_append, List.nil_append]
      refine ⟨j + 1, by omega, by omega, ?_⟩
      show Le ob.length _ ⟨[(8, .int .i64 ((j + 1 : Nat) : Int)), (7, .int .i64 n), (3, .ref ob.length 1 0), (0, .ref p 1 0)], Xz ob o p (bY t1 (N + (j + 1)) (V + 2 ^ N * (C % 2 ^ (j + 1)))) (bO t o (N + (j + 1))) ++ [⟨t0, 2, 1, [.list (nB n) (u8 (leB C (nB n))), .int .i64 n], 0⟩]⟩
      rw [hWW, hMr, el, er]
      exact Le.slots (by simp [Am.look])
  · obtain rfl : j = n := by omega
    rw [Nat.mod_eq_of_lt hC]
    simp (maxSteps := 4000000) (disch := omega) only [rr, aop, cV, cV1, AV.one, Qb, okW, Qd, app, Qa, Qc, Qe, Qf, Qg, simprocAttr]
    exact ⟨Xz ob o p (bY t1 (N + j) (V + 2 ^ N * C)) (bO t o (N + j)), _, rfl, by rw [ln]; exact Nat.le_refl _, by rw [ln]; exact hfz.put hol, by rfl, hK⟩

end Go.Am

namespace Go.Am
open Go.RowKit

/-! ### Codes are read back (plain) -/

theorem JC {X m n A B : Nat} (hA : A < 2 ^ m) : X % 2 ^ (m + n) = A + 2 ^ m * B ↔ X % 2 ^ m = A ∧ X / 2 ^ m % 2 ^ n = B := by
  rw [Nat.pow_add, Nat.mod_mul]
  have h1 : X % 2 ^ m < 2 ^ m := Nat.mod_lt _ (Nat.pow_pos (by omega))
  constructor
  · intro h
    have e1 : X % 2 ^ m = A := by
      have := congrArg (· % 2 ^ m) h
      simpa [Nat.add_mul_mod_self_left, Nat.mod_eq_of_lt h1, Nat.mod_eq_of_lt hA] using this
    rw [e1] at h
    have e2 : 2 ^ m * (X / 2 ^ m % 2 ^ n) = 2 ^ m * B := by omega
    exact ⟨e1, Nat.eq_of_mul_eq_mul_left (Nat.pow_pos (by omega)) e2⟩
  · rintro ⟨e1, e2⟩
    rw [e1, e2]

theorem Qpt : ∀ (m X : Nat), (QaE m X < m → X % 2 ^ (QaE m X + 1) = 2 ^ QaE m X - 1) ∧ (QaE m X = m → X % 2 ^ m = 2 ^ m - 1)
  | 0, X => ⟨fun h => by simp [QaE] at h, fun _ => by simp [Nat.mod_one]⟩
  | m + 1, X => by
    obtain ⟨r1, r2⟩ := Qpt m (X / 2)
    unfold QaE
    by_cases hx : X % 2 = 1
    · simp only [hx, if_true]
      refine ⟨fun h => ?_, fun h => ?_⟩
      · have := r1 (by omega)
        generalize QaE m (X / 2) = q at *
        have hp : 1 ≤ 2 ^ q := Nat.pow_pos (by omega)
        rw [show q + 1 + 1 = 1 + (q + 1) by omega, show 2 ^ (q + 1) - 1 = 1 + 2 ^ 1 * (2 ^ q - 1) by rw [Nat.pow_succ]; omega]
        exact (JC (by decide)).2 ⟨by simpa using hx, by simpa using this⟩
      · have := r2 (by omega)
        have hp : 1 ≤ 2 ^ m := Nat.pow_pos (by omega)
        rw [show m + 1 = 1 + m by omega, show 2 ^ (1 + m) - 1 = 1 + 2 ^ 1 * (2 ^ m - 1) by rw [Nat.pow_add]; omega]
        exact (JC (by decide)).2 ⟨by simpa using hx, by simpa using this⟩
    · rw [if_neg hx]
      refine ⟨fun _ => ?_, fun h => by omega⟩
      have : X % 2 = 0 := by omega
      simpa using this

theorem Qpi {V N a q nx : Nat} (h : Qbl V N a = .inr (q, nx)) : nx ≤ N ∧ ((q < 48 ∧ nx = a + q + 1 ∧ V / 2 ^ a % 2 ^ (q + 1) = 2 ^ q - 1) ∨ (q = 48 ∧ nx = a + 48 ∧ V / 2 ^ a % 2 ^ 48 = 2 ^ 48 - 1)) := by
  unfold Qbl at h
  obtain ⟨o1, o2⟩ := Qpt (min 48 (N - a)) (V / 2 ^ a)
  have o3 := QgY (min 48 (N - a)) (V / 2 ^ a)
  split at h
  · cases h
  split at h
  · rename_i h1 h2
    cases h
    exact ⟨by omega, .inl ⟨by omega, rfl, o1 h2⟩⟩
  · rename_i h1 h2
    split at h
    · rename_i h3
      cases h
      rw [h3] at o2 h2 o3
      exact ⟨by omega, .inr ⟨rfl, rfl, o2 (by omega)⟩⟩
    · cases h

theorem QaJ (V a b : Nat) : V / 2 ^ (a + b) = V / 2 ^ a / 2 ^ b := by rw [Nat.pow_add, Nat.div_div_eq_div_mul]

theorem QrI {V N a k v nx : Nat} (h : QcK V N a k = .inr (v, nx)) : nx = a + Qd2 v k ∧ nx ≤ N ∧ V / 2 ^ a % 2 ^ Qd2 v k = QfE v k := by
  unfold QcK at h
  cases hu : Qbl V N a with
  | inl e => rw [hu] at h; cases h
  | inr w =>
    obtain ⟨q, n⟩ := w
    obtain ⟨u1, u2⟩ := Qpi hu
    rw [hu] at h
    simp only at h
    by_cases hs : N < n + (if q = 48 then 32 else k)
    · rw [if_pos hs] at h; cases h
    rw [if_neg hs] at h
    unfold Qd2 QfE
    rcases u2 with ⟨h1, rfl, h3⟩ | ⟨rfl, rfl, h3⟩
    · rw [if_pos h1] at h
      cases h
      rw [if_neg (show ¬ q = 48 by omega)] at hs
      have hm : V / 2 ^ (a + q + 1) % 2 ^ k < 2 ^ k := Nat.mod_lt _ (Nat.pow_pos (by omega))
      have hd : (q * 2 ^ k + V / 2 ^ (a + q + 1) % 2 ^ k) / 2 ^ k = q := by
        rw [Nat.mul_comm, Nat.mul_add_div (Nat.pow_pos (by omega)), Nat.div_eq_of_lt hm, Nat.add_zero]
      have hr : (q * 2 ^ k + V / 2 ^ (a + q + 1) % 2 ^ k) % 2 ^ k = V / 2 ^ (a + q + 1) % 2 ^ k := by
        rw [Nat.mul_comm, Nat.mul_add_mod, Nat.mod_eq_of_lt hm]
      have hp : 1 ≤ 2 ^ q := Nat.pow_pos (by omega)
      rw [hd, hr, if_neg (by omega), if_neg (by omega)]
      refine ⟨by omega, by omega, (JC (m := q + 1) (n := k) (by rw [Nat.pow_succ]; omega)).2 ⟨h3, ?_⟩⟩
      rw [← QaJ, Nat.add_assoc]
    · rw [if_neg (by omega)] at h
      rw [if_pos rfl] at hs
      split at h
      · cases h
      rename_i h4
      cases h
      rw [if_pos (by omega), if_pos (by omega)]
      refine ⟨by omega, by omega, (JC (m := 48) (n := 32) (by decide)).2 ⟨h3, ?_⟩⟩
      rw [← QaJ]

theorem QtV {V N a v nx : Nat} {d : Dl} (h : QiP V N a d = .inr (v, nx)) : nx = a + QaK d v ∧ nx ≤ N ∧ V / 2 ^ a % 2 ^ QaK d v = Qfb d v := by
  unfold QiP at h
  unfold QaK Qfb
  split at h
  · cases h
  split at h
  · rename_i h0 h1
    split at h
    · cases h
    rename_i h2
    cases h
    have hm : V / 2 ^ (a + 1) % 2 ^ d.k0 < 2 ^ d.k0 := Nat.mod_lt _ (Nat.pow_pos (by omega))
    rw [if_pos hm, if_pos hm]
    refine ⟨by omega, by omega, ?_⟩
    rw [show ∀ x : Nat, 2 * x = 0 + 2 ^ 1 * x by intro x; omega]
    exact (JC (m := 1) (n := d.k0) (by decide)).2 ⟨by simpa using h1, by rw [← QaJ]⟩
  · rename_i h0 h1
    cases hr : QcK V N (a + 1) d.k1 with
    | inl e => rw [hr] at h; cases h
    | inr w =>
      obtain ⟨l, n⟩ := w
      obtain ⟨r1, r2, r3⟩ := QrI hr
      rw [hr] at h
      simp only at h
      split at h
      · cases h
      cases h
      rw [if_neg (by omega), if_neg (by omega), Nat.add_sub_cancel]
      refine ⟨by omega, by omega, (JC (m := 1) (n := Qd2 l d.k1) (by decide)).2 ⟨?_, by rw [← QaJ]; exact r3⟩⟩
      have : V / 2 ^ a % 2 = 1 := by omega
      simpa using this

theorem Qty {V N a v nx : Nat} {d : Dl} (h : QiP (Qpn V N a) (Qgd N a) 0 d = .inr (v, nx)) : nx = QaK d v ∧ a + nx ≤ max a N ∧ V / 2 ^ a % 2 ^ QaK d v = Qfb d v := by
  obtain ⟨h1, h2, h3⟩ := QtV h
  have hle : QaK d v ≤ Qgd N a := by omega
  rw [Nat.pow_zero, Nat.div_one, Qpn, Nat.mod_mod_of_dvd _ (Nat.pow_dvd_pow 2 hle)] at h3
  refine ⟨by omega, ?_, h3⟩
  unfold Qgd at h2
  omega

theorem QlH {V N c : Nat} : ∀ (k : Nat) (out : List Nat) (a : Nat) (w : List Nat) (b : Nat), N32 out → a = Qdb c out out.length → V % 2 ^ a = Qjz c out out.length → a ≤ N → Jy V N c k out a = .inr (w, b) →
    b = Qdb c w w.length ∧ V % 2 ^ b = Qjz c w w.length ∧ b ≤ N ∧ N32 w ∧ w.length = out.length + k
  | 0, out, a, w, b, ho, ha, hV, hN, h => by
    simp only [Jy] at h
    cases h
    exact ⟨ha, hV, hN, ho, rfl⟩
  | k + 1, out, a, w, b, ho, ha, hV, hN, h => by
    rw [Jy] at h
    cases hg : QiP (Qpn V N a) (Qgd N a) 0 (QM c (out.length % c) out) with
    | inl e => rw [hg] at h; cases h
    | inr p =>
      obtain ⟨x, nx⟩ := p
      rw [hg] at h
      simp only at h
      have hd := Qfd (c := c) (r := out.length % c) ho
      have hx := (Qml hd hg).1
      obtain ⟨h1, h2, h3⟩ := Qty hg
      have ho' : N32 (out ++ [x]) := fun y hy => by
        rcases List.mem_append.1 hy with h | h
        · exact ho y h
        · simp at h; subst h; exact hx
      have hfr : ∀ i, i ≤ out.length → Qsh c (out ++ [x]) i = Qsh c out i := by
        intro i
        induction i with
        | zero => intro _; rfl
        | succ i ih =>
          intro hi
          rw [Qsh, Qsh, ih (by omega), List.take_append_of_le_length (by omega)]
          have e : (out ++ [x]).getD i 0 = out.getD i 0 := by simp only [List.getD_eq_getElem?_getD, List.getElem?_append_left (by omega : i < out.length)]
          rw [e]
      have hfN : Qdb c (out ++ [x]) (out ++ [x]).length = Qdb c out out.length + QaK (QM c (out.length % c) out) x := by
        rw [List.length_append, List.length_cons, List.length_nil, Nat.zero_add, Qe4, List.take_left' rfl]
        have e : (out ++ [x]).getD out.length 0 = x := by simp [List.getD_eq_getElem?_getD]
        rw [e, Qdb, hfr _ (Nat.le_refl _), ← Qdb]
      have hfV : Qjz c (out ++ [x]) (out ++ [x]).length = Qjz c out out.length + 2 ^ Qdb c out out.length * Qfb (QM c (out.length % c) out) x := by
        rw [List.length_append, List.length_cons, List.length_nil, Nat.zero_add, Qe3, List.take_left' rfl]
        have e : (out ++ [x]).getD out.length 0 = x := by simp [List.getD_eq_getElem?_getD]
        rw [e, Qdb, Qjz, hfr _ (Nat.le_refl _), ← Qdb, ← Qjz]
      have := QlH (V := V) (N := N) (c := c) k (out ++ [x]) (a + nx) w b ho' (by rw [hfN, ha, h1]) (by
        rw [hfV, h1, ← ha]
        refine (JC ?_).2 ⟨hV, h3⟩
        rw [ha]
        exact (QbK ho _).1) (by omega) h
      rw [List.length_append, List.length_cons, List.length_nil] at this
      refine ⟨this.1, this.2.1, this.2.2.1, this.2.2.2.1, ?_⟩
      have := this.2.2.2.2
      omega

end Go.Am

namespace Go.Am
open Go.RowKit

/-! ### What is mixed is unmixed, what is stepped is stepped back (plain) -/

theorem QgU {c q r : Nat} (h : r < c) : (c * q + r) / c = q ∧ (c * q + r) % c = r := by
  refine ⟨?_, by rw [Nat.mul_add_mod, Nat.mod_eq_of_lt h]⟩
  rw [Nat.mul_add_div (by omega), Nat.div_eq_of_lt h, Nat.add_zero]
theorem QuL {c n q r : Nat} (hn : n % c = 0) (hr : r < c) (h : c * q + r < n) : c * q + c ≤ n := by
  have h1 := Nat.div_add_mod n c
  rw [hn, Nat.add_zero] at h1
  have h2 : q < n / c := Nat.lt_of_not_le fun hle => by
    have := Nat.mul_le_mul_left c hle
    omega
  have := Nat.mul_le_mul_left c (show q + 1 ≤ n / c from h2)
  rw [Nat.mul_add] at this
  omega
theorem Qko {c : Nat} {l : List Int} {j : Nat} (h : j < l.length) : (XY c l).getD j 0 = Qq9 c l j := by rw [XY, QE h]
theorem QjJ {l : List Int} (h : I32 l) (j : Nat) : w32 (l.getD j 0) = l.getD j 0 := Qf6 (Zc h j).1 (Zc h j).2

theorem QjW {c : Nat} {l : List Int} {j : Nat} (h : j < l.length) : (Qa4 c l).getD j 0 = Qtc c l j := by rw [Qa4, Qvx, QE h]
theorem QtF {c : Nat} {m : List Int} (hc : 1 ≤ c) (hI : I32 m) (hm : m.length % c = 0) : XY c (Qa4 c m) = m := by
  apply ZW (by rw [QbF, Qah])
  intro j hj
  rw [QbF, Qah] at hj
  obtain ⟨q, hq⟩ : ∃ q, q = j / c := ⟨_, rfl⟩
  obtain ⟨r, hr0⟩ : ∃ r, r = j % c := ⟨_, rfl⟩
  have hr : r < c := by rw [hr0]; exact Nat.mod_lt j (show 0 < c by omega)
  have hd : j = c * q + r := by rw [hq, hr0]; exact (Nat.div_add_mod j c).symm
  have hs := QuL hm hr (by omega : c * q + r < m.length)
  have hu : ∀ i, i < c → (Qa4 c m).getD (c * q + i) 0 = ud m (c * q) c (c - 1 - i) := fun i hi => by
    rw [QjW (by omega), Qtc, (QgU hi).1, (QgU hi).2]
  rw [Qko (by rw [Qah]; exact hj), Qq9]
  by_cases h1 : c = 1
  · subst h1
    have hr1 : r = 0 := by omega
    rw [if_pos rfl, hd, hr1, hu 0 (by omega)]
    simp [ud]
  rw [if_neg h1, ← hr0]
  by_cases h2 : r + 1 < c
  · rw [if_pos h2, hd, show c * q + r + 1 = c * q + (r + 1) by omega, hu _ h2, hu _ hr, show c - 1 - r = c - 1 - (r + 1) + 1 by omega, ud, QlG, show c - 2 - (c - 1 - (r + 1)) = r by omega]
    generalize ud m (c * q) c (c - 1 - (r + 1)) = y
    rw [show y - (y - m.getD (c * q + r) 0) = m.getD (c * q + r) 0 by omega, QjJ hI]
  · rw [if_neg h2, hd, show c * q + r - 1 = c * q + (c - 2) by omega, show r = c - 1 by omega, hu _ (by omega), hu _ (by omega), show c - 1 - (c - 1) = 0 by omega, show c - 1 - (c - 2) = 0 + 1 by omega, show ud m (c * q) c (0 + 1) = w32 (ud m (c * q) c 0 - m.getD (c * q + (c - 2 - 0)) 0) from rfl, QlG, show c - 2 - 0 = c - 2 by omega]
    generalize hy : ud m (c * q) c 0 = y
    rw [show y - (y - m.getD (c * q + (c - 2)) 0) = m.getD (c * q + (c - 2)) 0 by omega, QjJ hI, ← hy, ud, if_neg h1, Qef, Int.add_sub_cancel, QjJ hI]

theorem QqE (c : ZV) {y : Int} (h : -2147483648 ≤ y ∧ y ≤ 2147483647) : QfX c (Qdq c y) = y ∧ Qam c (Qdq c y) = Qan c y := by
  have e1 : Qsq c (Qdq c y) = QjC c.fl y := by
    unfold Qsq Qdq
    rw [Qef, Int.add_sub_cancel, QjC, Qs9]
  have e2 : QfX c (Qdq c y) = y := by
    unfold QfX Qmn
    rw [e1, QjC, Qef, Int.add_sub_cancel, Qf6 h.1 h.2]
  refine ⟨e2, ?_⟩
  unfold Qan Qam
  have e3 : Qmn c.fl (QjC c.fl y) = y := by
    unfold Qmn
    rw [QjC, Qef, Int.add_sub_cancel, Qf6 h.1 h.2]
  rw [e1, Qu0, e3, Qvk]

theorem QpX {n : Int} (h : 0 ≤ n) : QfK (Zy n) = n := by unfold Zy QfK; split <;> split <;> omega
theorem Qqt (c : ZV) (x : Int) : -2147483648 ≤ QfX c x ∧ QfX c x ≤ 2147483647 := XD _

theorem Qvc {k c n : Nat} (hk : k < c) : (k + n * c) % c = k ∧ (k + n * c) / c = n := by
  rw [Nat.add_comm, Nat.mul_comm]
  exact ⟨(QgU hk).2, (QgU hk).1⟩
theorem QsG {c : Nat} {L L2 : List Int} {z : ZV} {m k : Nat} (hL : I32 L) (h : ∀ j, j < m → L2.getD j 0 = Qdq (stB c L z (j % c) (j / c)) (L.getD j 0)) (hk : k < c) : ∀ n, (∀ i, i < n → k + i * c < m) → stC c L2 z k n = stB c L z k n
  | 0, _ => rfl
  | n + 1, hn => by
    obtain ⟨e1, e2⟩ := Qvc (n := n) hk
    rw [stC, stB, QsG hL h hk n fun i hi => hn i (by omega), h _ (hn n (by omega)), e1, e2]
    exact (QqE _ (Zc hL _)).2
theorem Qvb {c j m : Nat} (hj : j < m) : ∀ i, i < j / c → j % c + i * c < m := by
  intro i hi
  have h1 := Nat.div_add_mod j c
  have h2 := Nat.mul_le_mul_right c (show i ≤ j / c by omega)
  rw [Nat.mul_comm (j / c)] at h2
  omega

theorem QtA {c : Nat} {x : Int} {t v : List Int} (hc : 1 ≤ c) (hV : U32 v) (hm : v.length % c = 0) : QhW c (XY c (unB c x t v)) (Jv x t) v.length = v := by
  have hB := QeA c (v.map Zy) (Jv x t) v.length
  have hb : I32 (v.map Zy) := by
    intro y hy
    simp only [List.mem_map] at hy
    obtain ⟨n, hn, rfl⟩ := hy
    exact QqF (hV n hn)
  unfold unB
  rw [QtF hc hB (by rw [QbP]; exact hm)]
  have hg : ∀ j, j < v.length → (Qjc c (v.map Zy) (Jv x t) v.length).getD j 0 = Qdq (stB c (v.map Zy) (Jv x t) (j % c) (j / c)) ((v.map Zy).getD j 0) := fun j hj => by
    rw [Qjc, QE hj, QvY]
  apply ZW (by rw [QcN])
  intro j hj
  rw [QcN] at hj
  rw [QhW, QE hj, QvP, QsG hb hg (Nat.mod_lt _ (by omega)) _ (Qvb hj), hg j hj, (QqE _ (Zc hb _)).1, Qgw hj, QpX (QmJ hV j).1]

end Go.Am

namespace Go.Am
open Go.RowKit

/-! ### Frames: coded and decoded (plain) -/

def QsE (c : Nat) (x : Int) (t l : List Int) : List Nat := (QhW c (XY c l) (Jv x t) l.length).map Int.toNat
def QhY (c : Nat) (x : Int) (t l : List Int) : List UInt8 := Qo7 (Qe5 c (QsE c x t l))

theorem Ql2 (c : Nat) (L : List Int) (z : ZV) (a : Nat) : U32 (QhW c L z a) := by
  intro y hy
  simp only [QhW, List.mem_map] at hy
  obtain ⟨j, _, rfl⟩ := hy
  exact Qp0 (Qqt _ _)
theorem Qsf {v : List Int} (h : U32 v) : iL (v.map Int.toNat) = v := by
  unfold iL
  rw [List.map_map]
  conv => rhs; rw [← List.map_id v]
  apply List.map_congr_left
  intro y hy
  have := h y hy
  simp; omega
theorem Qrj (o : List Nat) : (iL o).map Int.toNat = o := by
  unfold iL
  rw [List.map_map]
  conv => rhs; rw [← List.map_id o]
  apply List.map_congr_left
  intro y _
  simp
theorem Qq2 {v : List Int} (h : U32 v) : N32 (v.map Int.toNat) := by
  intro y hy
  simp only [List.mem_map] at hy
  obtain ⟨z, hz, rfl⟩ := hy
  have := h z hz
  omega
theorem QlI (c : Nat) (x : Int) (t l : List Int) : (QsE c x t l).length = l.length := by simp [QsE, QcN]
theorem Qoj (c : Nat) (x : Int) (t l : List Int) : N32 (QsE c x t l) := Qq2 (Ql2 _ _ _ _)
theorem QtT (c : Nat) (x : Int) (t l : List Int) : iL (QsE c x t l) = QhW c (XY c l) (Jv x t) l.length := Qsf (Ql2 _ _ _ _)

theorem QrR {b : List UInt8} (h : Qbm b = 0) : b = Qo7 (b.take (b.length - 4)) ∧ 5 ≤ b.length ∧ b.length ≤ 41254 := by
  unfold Qbm at h
  split at h
  · omega
  split at h
  · omega
  split at h
  · rename_i h1 h2 h3
    exact ⟨((Qnf (by omega)).2 h3).symm, by omega, by omega⟩
  · omega
theorem Qkz {c : Nat} {v : List Nat} (h : N32 v) (h1 : 1 ≤ v.length) (h2 : v.length ≤ 4000) : 1 ≤ (Qe5 c v).length ∧ (Qe5 c v).length ≤ 40500 := by
  obtain ⟨_, q2, q3⟩ := QbK (c := c) h v.length
  rw [Qmo]
  unfold nB
  omega
theorem Qlf {c x : Int} {l : List Int} (hI : I32 l) (h : Qb0 c x l = 0) : ∃ k m : Nat, c = k ∧ okM k l ∧ Jj x ≠ 0 ∧ Zf c x = 0 ∧ QC x l = 0 ∧ l.length = m * k ∧ 1 ≤ m ∧ (l.length : Int) / c = m ∧ ZC c x ((l.length : Int) / c) = 0 := by
  obtain ⟨k, rfl, hk, hx⟩ := Qle hI h
  have hk' := hk
  obtain ⟨h1, h2, h3, h4, h5, _⟩ := hk'
  have e1 : Zf k x = 0 := by
    rcases Q1 k x with q | ⟨q, _⟩
    · rw [Qhz q] at h; omega
    · exact q
  have e2 : QC x l = 0 := by
    rcases Int.decEq (QC x l) 0 with q | q
    · rw [QhA e1 q] at h; exact absurd h q
    · exact q
  have e3 : l.length = l.length / k * k := by have := Nat.div_add_mod l.length k; rw [Nat.mul_comm] at this; omega
  have e4 : 1 ≤ l.length / k := by
    rcases Nat.eq_zero_or_pos (l.length / k) with q | q
    · rw [q] at e3; omega
    · exact q
  have e5 : (l.length : Int) / (k : Int) = ((l.length / k : Nat) : Int) := by rw [Int.natCast_ediv]
  refine ⟨k, l.length / k, rfl, hk, hx, e1, e2, e3, e4, e5, ?_⟩
  have e6 : l.length / k ≤ 4000 / k := Nat.div_le_div_right h4
  have e7 : (4000 : Int) / (k : Int) = ((4000 / k : Nat) : Int) := by rw [Int.natCast_ediv]; rfl
  unfold ZC
  rw [if_neg (by omega), e5, e7, if_neg (by omega), if_neg (by omega)]

theorem Qt0 {c x n : Int} {t : List Int} {b : List UInt8} (ha : ZC c x n = 0) (h : QsW c x t n b = 0) : Qb0 c x (Qrc c x t n b) = 0 ∧ ((Qrc c x t n b).length : Int) = n * c ∧ QhY c.toNat x t (Qrc c x t n b) = b ∧ I32 (Qrc c x t n b) := by
  have ho := Qsj ha h
  obtain ⟨b1, b2, b3⟩ := QrR ho
  obtain ⟨e1, c', n', rfl, rfl, q1, q2, q3, q4, q5⟩ := QaP ha
  have hd : Qrc c' x t n' b = unB c' x t (iL (Qvw (Quy b c' n'))) := by unfold Qrc; rw [if_pos h]; simp only [Int.toNat_natCast]
  have h' := h
  unfold QsW at h'
  rw [if_neg (by omega), if_neg (by omega)] at h'
  simp only [Int.toNat_natCast] at h' ⊢
  have hpl : (b.take (b.length - 4)).length = b.length - 4 := by simp
  generalize hp : b.take (b.length - 4) = p at *
  have hs := Qbf (V := leN p) (N := 8 * p.length) (c := c') (n' * c') [] 0 (Nat.zero_le _) (fun x hx => by simp at hx)
  have hinv := fun w b => QlH (V := leN p) (N := 8 * p.length) (c := c') (n' * c') [] 0 w b (fun x hx => by simp at hx) rfl (by simp [Qe2, Nat.mod_one]) (Nat.zero_le _)
  have hav : Quy b c' n' = Jy (leN p) (8 * p.length) c' (n' * c') [] 0 := by unfold Quy; rw [hp]
  rw [hav] at hd h'
  cases hw : Jy (leN p) (8 * p.length) c' (n' * c') [] 0 with
  | inl w =>
    obtain ⟨e, o⟩ := w
    rw [hw] at h'
    simp only [Qu3] at h'
    have := (hs.1 e o hw).1
    omega
  | inr w =>
    obtain ⟨o, a⟩ := w
    rw [hw] at h' hd
    obtain ⟨i1, i2, i3, i4, i5⟩ := hinv o a hw
    rw [List.length_nil, Nat.zero_add] at i5
    have hpos : 1 ≤ n' * c' := Nat.mul_pos q3 q1
    simp only [Qu3] at h'
    split at h'
    · omega
    rename_i hr
    have hr0 : QfF (leN p) (8 * p.length) a = 0 := by omega
    unfold QfF at hr0
    split at hr0
    · omega
    split at hr0
    case isFalse => omega
    rename_i hr1 hr2
    have hV : leN p = Qjz c' o o.length := by
      have := Nat.div_add_mod (leN p) (2 ^ a)
      rw [hr2, i2] at this
      omega
    have hlen : p.length = nB (Qdb c' o o.length) := by rw [← i1]; unfold nB; omega
    have hpb : p = Qe5 c' o := by
      unfold Qe5
      rw [← hV, ← hlen, Qg2]
    have hU : U32 (iL o) := Qvs i4
    have hil : (iL o).length = n' * c' := by simp [iL, i5]
    have hlu : (unB c' x t (iL o)).length = n' * c' := by rw [QjY, hil]
    have hmod : (n' * c') % c' = 0 := Nat.mul_mod_left _ _
    have hI : I32 (unB c' x t (iL o)) := QgC (QeA _ _ _ _)
    simp only [Qvw] at hd
    rw [hd]
    refine ⟨?_, by rw [hlu]; simp, ?_, hI⟩
    · refine QqO e1 h' ?_
      rw [hlu]
      have : ((n' * c' : Nat) : Int) % (c' : Int) = 0 := by rw [← Int.natCast_emod, hmod]; rfl
      omega
    · unfold QhY QsE
      have := QtA (c := c') (x := x) (t := t) q1 hU (by rw [hil]; exact hmod)
      rw [hil] at this
      rw [hlu, this, Qrj, ← hpb]
      exact b1.symm

end Go.Am

namespace Go.Am
open Go.RowKit

/-! ### First states; slices of bytes joined -/

def Qc5 (P : Prg) (f : Nat) : Prop := VC P f [] (.agg (Qa6 fun _ => Qp))
theorem QfL {P : Prg} {f fS t0 : Nat} (bd : Qj P f 11 [.cell 0 t0] (XL fS t0)) (hS : Qdz P fS) (ht : ZG P t0 = some (some 24)) : Qc5 P f := by
  refine VC.of_acall rfl rfl (ACall.of_body bd (by simp) ?_)
  simp only [Qdz, Qp, dlA, dlC] at hS
  simp (maxSteps := 4000000) (disch := omega) only [rr, aop, cV, cV1, AV.one, Qb, okW, Qd, app, Qa, Qc, Qe, Qf, Qg, simprocAttr, XL]
  refine QW.by (ι := Nat) (fun i => ⟨[(3, .int .i64 i), (1, .ref 1 1 0), (0, .ref 0 1 0)],
      [⟨t0, 24, 1, Qa6 (fun _ => ⟨0, 0, 0, 0⟩), 0⟩, ⟨t0, 24, 1, Qa6 (fun j => if j < i then Qp else ⟨0, 0, 0, 0⟩), 0⟩]⟩) (fun i => i ≤ 6) (fun i => 6 - i) 0 (Le.slots (by simp [Am.look])) (by omega) ?_
  intro i hi
  by_cases hlt : i < 6
  · have e1 := Qej (fun j => if j < i then Qp else ⟨0, 0, 0, 0⟩) hlt Qp
    have e2 : Qrh (fun j => if j < i then Qp else ⟨0, 0, 0, 0⟩) i Qp = fun j => if j < i + 1 then Qp else ⟨0, 0, 0, 0⟩ := by
      funext j
      unfold Qrh
      by_cases h1 : j = i
      · subst h1; simp
      · by_cases h2 : j < i
        · simp [h1, h2, show j < i + 1 by omega]
        · simp [h1, h2, show ¬ j < i + 1 by omega]
    rw [e2] at e1
    have e3 := Qay (fun j => if j < i then Qp else ⟨0, 0, 0, 0⟩)
    simp (maxSteps := 4000000) (disch := omega) only [rr, aop, cV, cV1, AV.one, Qb, okW, Qd, app, Qa, Qc, Qe, Qf, Qg, simprocAttr]
    refine Qh.vc hS ?_
    generalize hF : Qa6 (fun j => if j < i then Qp else ⟨0, 0, 0, 0⟩) = F at *
    have e1' : F.take (i * 4) ++ [.int .i64 10, .int .i64 10, .int .u64 16384, .int .u64 16384] ++ F.drop (i * 4 + 4) = Qa6 fun j => if j < i + 1 then Qp else ⟨0, 0, 0, 0⟩ := e1
    generalize Qa6 (fun _ => (⟨0, 0, 0, 0⟩ : Dl)) = Z
    simp (maxSteps := 4000000) (disch := omega) only [rr, aop, cV, cV1, AV.one, Qb, okW, Qd, app, Qa, Qc, Qe, Qf, Qg, simprocAttr, e3]
    refine ⟨i + 1, by omega, by omega, ?_⟩
    rw [e1']
    exact Le.slots (by simp [Am.look])
  obtain rfl : i = 6 := by omega
  have z1 : Qa6 (fun j => if j < 6 then Qp else ⟨0, 0, 0, 0⟩) = Qa6 (fun _ => Qp) := rfl
  have z2 := Qay fun _ => Qp
  have z3 := Qay fun _ => (⟨0, 0, 0, 0⟩ : Dl)
  rw [z1]
  have z4 : (Qa6 fun _ => Qp).all AV.one = true := rfl
  have z5 : (Qa6 fun _ => Qp).take 24 = Qa6 fun _ => Qp := rfl
  have z6 : (Qa6 fun _ => (⟨0, 0, 0, 0⟩ : Dl)).drop 24 = [] := rfl
  generalize (Qa6 fun _ => (⟨0, 0, 0, 0⟩ : Dl)) = Z at *
  generalize (Qa6 fun _ => Qp) = S at *
  simp (maxSteps := 4000000) (disch := omega) only [rr, aop, cV, cV1, AV.one, Qb, okW, Qd, app, Qa, Qc, Qe, Qf, Qg, simprocAttr, ZU, ht, Zi, z2, z3, z4, z5, z6, List.take_zero, List.nil_append, List.append_nil]

def Ql1 (L : List (List UInt8)) : AV := .list L.length (L.map bs)
def QhQ (P : Prg) (f : Nat) : Prop := ∀ L : List (List UInt8), L.length ≤ 1000000 → 0 < L.flatten.length → L.flatten.length ≤ 1000000 → VC P f [Ql1 L] (bs L.flatten)
def Qfq (t : Nat) (P : Prg) (f : Nat) : Prop := ∀ (ob : List Ob) (n : Nat) (z : Bool) (K : AV → List Ob → Prop), 0 < n → n ≤ 140737488355328 → K (.own ob.length 0) (ob ++ [⟨t, 1, 0, [], 0⟩]) → ACall P f [.emp z, .int .i64 n] ob K
theorem grow_nil {P : Prg} {f t : Nat} {ρ : Go.Shelf.Ren} (L : Go.Proofs.Lays8.n4 P.prog ρ) (hf : ρ.f 4 = f) (ht : ρ.t 25 = t) (h25 : (P.prog.info? t).map (fun i => (i.zero, i.size, i.bytes)) = some (some (.int .u8 0), 1, 1)) : Qfq t P f := by
  intro ob n z K h1 h2 hK
  subst hf; subst ht
  exact ACall.grow_nil L h25 h1 h2 hK
theorem QiR {L : List (List UInt8)} {k : Nat} (h : k < L.length) : (L.take (k + 1)).flatten = (L.take k).flatten ++ L.getD k [] := by
  rw [List.take_succ_eq_append_getElem h, List.flatten_append, List.getD_eq_getElem?_getD, List.getElem?_eq_getElem h]
  simp
theorem Qp1 (L : List (List UInt8)) (k : Nat) : (L.take k).flatten.length ≤ L.flatten.length := by
  conv => rhs; rw [← List.take_append_drop k L, List.flatten_append, List.length_append]
  omega
theorem QgQ {P : Prg} {f fG t0 : Nat} (bd : Qj P f 36 [.tmp 2] (Q5 fG t0)) (hG : Qfq t0 P fG) : QhQ P f := by
  intro L hL h0 h1
  refine VC.of_walk 1 (by simp [Qs, isD, Ql1, Qg6]) (X3 _) (ACall.of_body bd (by simp) ?_)
  have hat : ∀ k, k < L.length → (L.map bs).drop k = bs (L.getD k []) :: (L.map bs).drop (k + 1) := fun k hk => by
    rw [List.drop_eq_getElem_cons (by simpa using hk)]
    simp [List.getD_eq_getElem?_getD, List.getElem?_eq_getElem hk]
  have hml : (L.map bs).length = L.length := by simp
  simp only [bs] at hat
  simp (maxSteps := 4000000) (disch := omega) only [rr, aop, cV, cV1, AV.one, Qb, okW, Qd, app, Qa, Qc, Qe, Qf, Qg, simprocAttr, Q5, Ql1]
  refine QW.by (ι := Nat) (fun k => ⟨[(11, .int .i64 k), (10, .int .i64 L.length), (9, .list L.length (L.map bs)), (3, .int .i64 (L.take k).flatten.length), (0, .list L.length (L.map bs))], []⟩) (fun k => k ≤ L.length) (fun k => L.length - k) 0 (Le.slots (by simp [Am.look])) (by omega) ?_
  intro k hk
  by_cases hlt : k < L.length
  · have ha := hat k hlt
    have hf := QiR hlt
    have hle := Qp1 L (k + 1)
    rw [hf, List.length_append] at hle
    have hl : ((L.take (k + 1)).flatten.length : Int) = (L.take k).flatten.length + (L.getD k []).length := by rw [hf]; simp
    generalize (L.take k).flatten.length = s at *
    generalize L.getD k [] = x at *
    simp (maxSteps := 4000000) (disch := omega) only [rr, aop, cV, cV1, AV.one, Qb, okW, Qd, app, Qa, Qc, Qe, Qf, Qg, simprocAttr, ha, hml]
    exact ⟨k + 1, by omega, by omega, by simp only [hl]; exact Le.slots (by simp [Am.look])⟩
  obtain rfl : k = L.length := by omega
  rw [List.take_length]
  have hG' := fun K hK => hG [] L.flatten.length true K h0 (by omega) hK
  simp (maxSteps := 4000000) (disch := omega) only [rr, aop, cV, cV1, AV.one, Qb, okW, Qd, app, Qa, Qc, Qe, Qf, Qg, simprocAttr]
  refine hG' _ ?_
  simp (maxSteps := 4000000) (disch := omega) only [rr, aop, cV, cV1, AV.one, Qb, okW, Qd, app, Qa, Qc, Qe, Qf, Qg, simprocAttr]
  refine QW.by (ι := Nat) (fun k => ⟨[(27, .int .i64 k), (26, .int .i64 L.length), (25, .list L.length (L.map bs)), (6, .own 0 (L.take k).flatten.length)], [⟨t0, 1, (L.take k).flatten.length, u8 (L.take k).flatten, 0⟩]⟩) (fun k => k ≤ L.length) (fun k => L.length - k) 0 (Le.slots (by simp [Am.look])) (by omega) ?_
  intro k hk
  by_cases hlt : k < L.length
  · have ha := hat k hlt
    have hf := QiR hlt
    have hle := Qp1 L (k + 1)
    rw [hf, List.length_append] at hle
    have hl : (L.take (k + 1)).flatten.length = (L.take k).flatten.length + (L.getD k []).length := by rw [hf]; simp
    have hu : u8 (L.take (k + 1)).flatten = u8 (L.take k).flatten ++ u8 (L.getD k []) := by rw [hf, QeL]
    have hc : (u8 (L.take k).flatten).length = (L.take k).flatten.length := Zv _
    have hx : (u8 (L.getD k [])).length = (L.getD k []).length := Zv _
    generalize u8 (L.take k).flatten = cs at *
    generalize (L.take k).flatten.length = s at *
    generalize u8 (L.getD k []) = us at *
    generalize (L.getD k []).length = xl at *
    simp (maxSteps := 4000000) (disch := omega) only [rr, aop, cV, cV1, AV.one, Qb, okW, Qd, app, Qa, Qc, Qe, Qf, Qg, simprocAttr, ha, hml, hc, hx]
    exact ⟨k + 1, by omega, by omega, by rw [hl, hu]; exact Le.slots (by simp [Am.look])⟩
  obtain rfl : k = L.length := by omega
  rw [List.take_length]
  simp (maxSteps := 4000000) (disch := omega) only [rr, aop, cV, cV1, AV.one, Qb, okW, Qd, app, Qa, Qc, Qe, Qf, Qg, simprocAttr]
  simp [Zr, QJ, QO, QI, Qr _ (Xl _), bs]

end Go.Am

namespace Go.Am
open Go.RowKit

/-! ### Frames are coded: Encode, Length -/

theorem Qox (c : Nat) (x : Int) (t l : List Int) : Qgb (QhW c (XY c l) (Jv x t) l.length) = .list l.length (ks .u32 ((QsE c x t l).map fun n : Nat => (n : Int))) := by
  have := QtT c x t l
  unfold iL at this
  rw [this, Qgb, QcN]
theorem Qrf {c i : Nat} {v : List Nat} (hc : 1 ≤ c) (hi : i < v.length) : Qrh (fun j => if j < c then QM c j (v.take i) else Qp) (i % c) (ZK (QM c (i % c) (v.take i)) (v.getD i 0)) = fun j => if j < c then QM c j (v.take (i + 1)) else Qp := by
  have ht : v.take (i + 1) = v.take i ++ [v.getD i 0] := by
    rw [List.take_succ_eq_append_getElem hi]
    simp [List.getD_eq_getElem?_getD, List.getElem?_eq_getElem hi]
  have hl : (v.take i).length = i := by simp; omega
  have hr : i % c < c := Nat.mod_lt _ (by omega)
  funext j
  unfold Qrh
  rw [ht]
  by_cases hj : j = i % c
  · subst hj
    rw [if_pos rfl, if_pos hr, QcY, if_pos (by rw [hl])]
  · rw [if_neg hj]
    by_cases hjc : j < c
    · simp only [hjc, if_true]
      rw [QcY, if_neg (by rw [hl]; exact fun e => hj e.symm)]
    · simp only [hjc, if_false]

def QtZ (c x : Int) (t l : List Int) : AV := if Qb0 c x l ≠ 0 then .tup [.list 0 [], .int .i64 (Qb0 c x l)] else .tup [bs (QhY c.toNat x t l), .int .i64 0]
theorem Qsb (c x : Int) (t l : List Int) : isD (QtZ c x t l) = true := by unfold QtZ; split <;> simp [isD, Qs, X3]
def QsC (P : Prg) (f : Nat) : Prop := ∀ (c x : Int) (t l : List Int), t.length = 16 → I32 t → I32 l → VC P f [shA c x, .agg (ks .i32 t), il l] (QtZ c x t l)
set_option maxHeartbeats 2000000 in
set_option maxRecDepth 20000 in
theorem QfN {P : Prg} {f fV fS fW fP fC fB fK t0 t1 t2 t3 t4 t5 tp tb : Nat} (bd : Qj P f 85 [.tmp 6, .tmp 7] (ZZ fV fS fW fP fC fB fK t0 t1 t2 t3 t4 t5)) (hV : Qlu P fV) (hS : Qc5 P fS) (hW : QhI P fW) (bP : Qj P fP 64 [] (XS tp tb)) (hC : QmO P fC) (hB : Qfm P fB) (hK : QhQ P fK) : QsC P f := by
  intro c x t l ht hI hL
  refine VC.of_walk 1 (by simp [Qs, isD, QY, QT, shA]) (Qsb _ _ _ _) (ACall.of_body bd (by simp) ?_)
  have hk : (ks .i32 t).length = 16 := by simp [Qk, ht]
  have tt : (ks .i32 t).take 16 = ks .i32 t := Qu (by omega)
  have ot := XZ .i32 t
  have hV' := hV c x t l ht hI hL
  unfold QtZ
  by_cases h0 : Qb0 c x l = 0
  case neg =>
    rw [Qre, if_pos h0] at hV'
    rw [if_pos h0]
    rw [shA] at hV' ⊢
    simp (maxSteps := 4000000) (disch := omega) only [rr, aop, cV, cV1, AV.one, Qb, okW, Qd, app, Qa, Qc, Qe, Qf, Qg, simprocAttr, ZZ, hk, ot, tt]
    refine Qh.vc hV' ?_
    simp (maxSteps := 4000000) (disch := omega) only [rr, aop, cV, cV1, AV.one, Qb, okW, Qd, app, Qa, Qc, Qe, Qf, Qg, simprocAttr, h0]
    simp [Zr, QJ, QO, QI]
  obtain ⟨k, m, rfl, hkM, hx, e1, e2, e3, e4, e5, e6⟩ := Qlf hL h0
  obtain ⟨c1, c6, l0, l4, lm, _⟩ := hkM
  rw [Qre, if_neg (by omega), Int.toNat_natCast, Qox] at hV'
  rw [if_neg (by omega), Int.toNat_natCast, QhY, Qo7]
  have hv := Qoj k x t l
  have hvl := QlI k x t l
  rw [← hvl] at hV' l0 l4
  generalize QsE k x t l = v at *
  rw [shA] at hV' ⊢
  have hfb := QbK (c := k) hv
  have hkv : (ks .u32 (v.map fun n : Nat => (n : Int))).length = v.length := by simp [ks]
  have s24 := Qay fun _ => Qp
  have sone : (Qa6 fun _ => Qp).all AV.one = true := rfl
  have stk : (Qa6 fun _ => Qp).take 24 = Qa6 fun _ => Qp := rfl
  have z2 : (fun j => if j < k then QM k j (v.take 0) else Qp) = fun _ => Qp := by
    funext j
    rw [List.take_zero]
    split <;> rfl
  simp only [Qc5] at hS
  simp (maxSteps := 4000000) (disch := omega) only [rr, aop, cV, cV1, AV.one, Qb, okW, Qd, app, Qa, Qc, Qe, Qf, Qg, simprocAttr, ZZ, hk, ot, tt]
  refine Qh.vc hV' ?_
  simp (maxSteps := 4000000) (disch := omega) only [rr, aop, cV, cV1, AV.one, Qb, okW, Qd, app, Qa, Qc, Qe, Qf, Qg, simprocAttr, hkv]
  refine Qh.vc hS ?_
  generalize hS0 : (Qa6 fun _ => Qp) = S0 at *
  simp (maxSteps := 4000000) (disch := omega) only [rr, aop, cV, cV1, AV.one, Qb, okW, Qd, app, Qa, Qc, Qe, Qf, Qg, simprocAttr, hkv, s24, sone, stk, List.append_nil, List.take_zero, List.nil_append]
  refine QW.by (ι := Nat) (fun i => ⟨[(32, .int .i64 i), (31, .int .i64 v.length), (30, .list v.length (ks .u32 (v.map fun n : Nat => (n : Int)))), (11, .ref 3 1 0), (10, .ref 2 1 0), (7, .int .i64 0), (6, .emp true), (3, .ref 0 1 0)],
      [⟨t0, 2, 1, [.int .i64 k, .int .i64 x], 0⟩, ⟨t1, 16, 1, ks .i32 t, 0⟩, ⟨t2, 24, 1, Qa6 (fun j => if j < k then QM k j (v.take i) else Qp), 0⟩, bO t3 4 (Qdb k v i), bY tb (Qdb k v i) (Qjz k v i)]⟩)
    (fun i => i ≤ v.length) (fun i => v.length - i) 0 ?_ (by omega) ?_
  · simp only [z2, hS0]
    rw [QiQ, Qe2]
    refine Le.trans (Le.virtF 3 tb 1 (by decide) rfl rfl) ?_
    exact Le.slots (by simp [Am.look])
  intro i hi
  by_cases hlt : i < v.length
  · obtain ⟨r, hr⟩ : ∃ r, r = i % k := ⟨_, rfl⟩
    have hrc : r < k := by rw [hr]; exact Nat.mod_lt _ (by omega)
    have q1 : (i : Int) % k = (r : Int) := by rw [hr]; simp [Int.natCast_emod]
    have q1' : ((i : Int)).tmod (k : Int) = (r : Int) := by rw [Int.tmod_eq_emod_of_nonneg (by omega), q1]
    have hc0 : (k : Int) ≠ 0 := by omega
    obtain ⟨b1, b2, b3⟩ := hfb i
    obtain ⟨_, b5, _⟩ := hfb (i + 1)
    have hd := Qfd (c := k) (r := r) (hv.take i)
    have hvi := hv.getD i
    have hW' := hW 0 0 (v.getD i 0) (QM k r (v.take i)) (by decide) hvi hd (by omega)
    rw [Nat.zero_add, Nat.pow_zero, Nat.one_mul, Nat.zero_add] at hW'
    have hcl := Qmx (d := QM k r (v.take i)) hvi
    have hcn := Qmw (v := v.getD i 0) hd
    obtain ⟨rest, hg⟩ := QlQ (fun j => if j < k then QM k j (v.take i) else Qp) (j := r) (by omega)
    simp only [hrc, if_true] at hg
    have hset := Qej (fun j => if j < k then QM k j (v.take i) else Qp) (j := r) (by omega) (ZK (QM k r (v.take i)) (v.getD i 0))
    have hup := Qrf c1 hlt
    rw [← hr] at hup
    rw [hup] at hset
    have hln := Qay (fun j => if j < k then QM k j (v.take i) else Qp)
    have hkat := Qci (K := .u32) (l := v.map fun n : Nat => (n : Int)) (i := i) (by simpa using hlt)
    have hgd : (v.map fun n : Nat => (n : Int)).getD i 0 = ((v.getD i 0 : Nat) : Int) := by simp [List.getD_eq_getElem?_getD, List.getElem?_eq_getElem hlt]
    rw [hgd] at hkat
    have hsN := Qe4 k v i
    have hsV := Qe3 k v i
    rw [← hr] at hsN hsV
    have hb6 : Qdb k v i + QaK (QM k r (v.take i)) (v.getD i 0) ≤ 400000 := by omega
    have hD6 : Qs (Qa6 (fun j => if j < k then QM k j (v.take (i + 1)) else Qp)) = true := QpK (QiL _)
    generalize hF1 : Qa6 (fun j => if j < k then QM k j (v.take (i + 1)) else Qp) = F' at *
    generalize Qa6 (fun j => if j < k then QM k j (v.take i) else Qp) = F at *
    generalize hN0 : Qdb k v i = N at *
    generalize hV0 : Qjz k v i = V at *
    generalize hN1 : Qdb k v (i + 1) = N1 at *
    generalize hV1 : Qjz k v (i + 1) = V1 at *
    generalize hn0 : QaK (QM k r (v.take i)) (v.getD i 0) = n at *
    generalize hC0 : Qfb (QM k r (v.take i)) (v.getD i 0) = C at *
    generalize ZK (QM k r (v.take i)) (v.getD i 0) = d' at *
    generalize QM k r (v.take i) = d at *
    generalize v.getD i 0 = vi at *
    obtain ⟨d0, d1, d2, d3⟩ := d
    obtain ⟨m0, m1, m2, m3⟩ := d'
    simp only [dlA, dlC, bA] at hW'
    simp only at hg hset
    have hfr : Zr (fun o => ([] : List Nat).contains o) [⟨t0, 2, 1, [.int .i64 k, .int .i64 x], 0⟩, ⟨t1, 16, 1, ks .i32 t, 0⟩, ⟨t2, 24, 1, F, 0⟩, ⟨t3, 2, 1, [.own 4 (nB N), .int .i64 N], 0⟩, bY tb N V] (0 + 1) [.agg [.emp true, .int .i64 0], .agg [.int .i64 d0, .int .i64 d1, .int .u64 d2, .int .u64 d3], .int .u32 vi] =
      some [.agg [.list (nB 0) (u8 (leB 0 (nB 0))), .int .i64 ((0 : Nat) : Int)], .agg [.int .i64 d0, .int .i64 d1, .int .u64 d2, .int .u64 d3], .int .u32 vi] := by
      simp [Zr, QJ, QO, QI, nB, leB, u8]
    have pt : ∀ (Q : Exit → St → Prop) os fr dst, wpQ P os Q ⟨Zx fr dst (.tup []), [⟨t0, 2, 1, [.int .i64 k, .int .i64 x], 0⟩, ⟨t1, 16, 1, ks .i32 t, 0⟩, ⟨t2, 24, 1, F', 0⟩, bO t3 4 N1, bY tb N1 V1, ⟨t3, 2, 1, [.list (nB n) (u8 (leB C (nB n))), .int .i64 n], 0⟩, ⟨t4, 4, 1, [.int .i64 m0, .int .i64 m1, .int .u64 m2, .int .u64 m3], 0⟩]⟩ →
        Qh P fP [.ref 3 1 0, .agg [.list (nB n) (u8 (leB C (nB n))), .int .i64 n]] [⟨t0, 2, 1, [.int .i64 k, .int .i64 x], 0⟩, ⟨t1, 16, 1, ks .i32 t, 0⟩, ⟨t2, 24, 1, F', 0⟩, ⟨t3, 2, 1, [.own 4 (nB N), .int .i64 N], 0⟩, bY tb N V, ⟨t3, 2, 1, [.list (nB n) (u8 (leB C (nB n))), .int .i64 n], 0⟩, ⟨t4, 4, 1, [.int .i64 m0, .int .i64 m1, .int .u64 m2, .int .u64 m3], 0⟩] os Q fr dst := fun Q os fr dst h =>
      QkF bP (ob := [⟨t0, 2, 1, [.int .i64 k, .int .i64 x], 0⟩, ⟨t1, 16, 1, ks .i32 t, 0⟩, ⟨t2, 24, 1, F', 0⟩, ⟨t3, 2, 1, [.own 4 (nB N), .int .i64 N], 0⟩, bY tb N V, ⟨t3, 2, 1, [.list (nB n) (u8 (leB C (nB n))), .int .i64 n], 0⟩, ⟨t4, 4, 1, [.int .i64 m0, .int .i64 m1, .int .u64 m2, .int .u64 m3], 0⟩]) (t := t3) (p := 3) (o := 4) (N := N) (V := V) (C := C) (n := n) rfl rfl (by decide) b1 hcl (by omega) (by omega)
        (Low.cons (by simp [Qb5, XP]) (Low.cons (XA _ (QY _ _)) (Low.cons (XA _ hD6) (Low.cons (by simp [Qb5, XP]) (Low.cons (XA _ (Ji _ _)) (Low.cons (by simp [Qb5, XP, XA _ (Ji _ _)]) (Low.cons (by simp [Qb5, XP]) Low.nil)))))))
        (by rw [hsN, hsV] at h; exact h)
    simp (maxSteps := 4000000) (disch := omega) only [rr, aop, cV, cV1, AV.one, Qb, okW, Qd, app, Qa, Qc, Qe, Qf, Qg, simprocAttr, bO, hkat, hkv, q1, q1', hc0, hg, hln]
    refine Qh.still 0 [] hW' hfr ?_
    simp (maxSteps := 4000000) (disch := omega) only [rr, aop, cV, cV1, AV.one, Qb, okW, Qd, app, Qa, Qc, Qe, Qf, Qg, simprocAttr, Qw, hkat, hkv, q1, q1', hc0, hg, hln, hset]
    refine pt _ _ _ _ ?_
    simp (maxSteps := 4000000) (disch := omega) only [rr, aop, cV, cV1, AV.one, Qb, okW, Qd, app, Qa, Qc, Qe, Qf, Qg, simprocAttr]
    refine ⟨i + 1, by omega, by omega, ?_⟩
    simp only [hN1, hV1, hF1]
    refine Le.low (ob := [⟨t0, 2, 1, [.int .i64 k, .int .i64 x], 0⟩, ⟨t1, 16, 1, ks .i32 t, 0⟩, ⟨t2, 24, 1, F', 0⟩, bO t3 4 N1, bY tb N1 V1]) (J := [_, _]) (Nat.zero_le _) ?_ (by simp [Am.look, XP, XA _ (QY _ _)])
    exact Low.cons (by simp [Qb5, XP]) (Low.cons (XA _ (QY _ _)) (Low.cons (XA _ hD6) (Low.cons (by simp [bO, Qb5, XP]) (Low.cons (XA _ (Ji _ _)) Low.nil))))
  · obtain rfl : i = v.length := by omega
    obtain ⟨_, b5, b6⟩ := hfb v.length
    have hfl := Qmo k v
    have hle : nB (Qdb k v v.length) ≤ 40500 := by unfold nB; omega
    have hC' := hC (Qe5 k v)
    rw [if_neg (by omega), ← Qio] at hC'
    have hsm := Qj0 (Qe5 k v)
    have hB' := hB (Qio (Qe5 k v)) 4 (by omega) (by omega) hsm
    have hK' := hK [Qe5 k v, leB (Qio (Qe5 k v)) 4] (by simp) (by simp [QF]) (by simp [QF]; omega)
    have hfe : Qe5 k v = leB (Qjz k v v.length) (nB (Qdb k v v.length)) := rfl
    simp only [Ql1, bs, List.map_cons, List.map_nil, List.length_cons, List.length_nil, List.flatten_cons, List.flatten_nil, List.append_nil, List.length_append, hfl, QF] at hC' hB' hK' ⊢
    have tfl : X2 (u8 (Qe5 k v)) = true := Xl _
    have tfs : X2 (u8 (leB (Qio (Qe5 k v)) 4)) = true := Xl _
    have tfa : X2 (u8 (Qe5 k v ++ leB (Qio (Qe5 k v)) 4)) = true := Xl _
    have hul : (u8 (Qe5 k v)).length = nB (Qdb k v v.length) := by rw [Zv, hfl]
    generalize Qa6 (fun j => if j < k then QM k j (v.take v.length) else Qp) = F at *
    simp only [bO, bY]
    rw [← hfe]
    generalize Qe5 k v ++ leB (Qio (Qe5 k v)) 4 = R at *
    generalize leB (Qio (Qe5 k v)) 4 = s4 at *
    generalize Qio (Qe5 k v) = sm at *
    generalize Qe5 k v = fb at *
    generalize nB (Qdb k v v.length) = nn at *
    simp (maxSteps := 4000000) (disch := omega) only [rr, aop, cV, cV1, AV.one, Qb, okW, Qd, app, Qa, Qc, Qe, Qf, Qg, simprocAttr]
    refine Qh.still 1 [4] hC' (by simp [Zr, QJ, QO, QI, Qr _ tfl]) ?_
    simp (maxSteps := 4000000) (disch := omega) only [rr, aop, cV, cV1, AV.one, Qb, okW, Qd, app, Qa, Qc, Qe, Qf, Qg, simprocAttr, Qw]
    refine Qh.vc hB' ?_
    simp (maxSteps := 4000000) (disch := omega) only [rr, aop, cV, cV1, AV.one, Qb, okW, Qd, app, Qa, Qc, Qe, Qf, Qg, simprocAttr]
    refine Qh.still 2 [5, 4] hK' (by simp [Zr, QJ, QO, QI, Qr _ tfl, Qr _ tfs]) ?_
    simp (maxSteps := 4000000) (disch := omega) only [rr, aop, cV, cV1, AV.one, Qb, okW, Qd, app, Qa, Qc, Qe, Qf, Qg, simprocAttr, Qw]
    simp [Zr, QJ, QO, QI, Qr _ tfa]

end Go.Am

namespace Go.Am
open Go.RowKit

/-! ### The reference of Encode and Length; the law EnframeBytes -/

theorem QsX {c x : Int} {t l : List Int} (hL : I32 l) (h : Qb0 c x l = 0) : (QhY c.toNat x t l).length ≤ 40504 ∧ 5 ≤ (QhY c.toNat x t l).length := by
  obtain ⟨k, m, rfl, hkM, hx, e1, e2, e3, e4, e5, e6⟩ := Qlf hL h
  obtain ⟨c1, c6, l0, l4, lm, _⟩ := hkM
  have hvl := QlI k x t l
  have := Qkz (c := k) (Qoj k x t l) (by omega) (by omega)
  rw [Int.toNat_natCast, QhY, Qo6]
  omega
end Go.Am

namespace Go.Am
open Go.RowKit

/-! ### First moments, equal channels (plain) -/

theorem Qsz {c x : Int} {l : List Int} (hI : I32 l) (h : Qb0 c x l = 0) : l.all (inR x) = true := by
  obtain ⟨k, m, rfl, hk, hx, e1, e2, _⟩ := Qlf hI h
  have := Qqp (x := x) (l := l) hx hk.2.2.2.1
  rw [e2] at this
  by_cases ha : l.all (inR x) = true
  · exact ha
  · rw [if_neg ha] at this; omega
end Go.Am

namespace Go.Am
open Go.RowKit

/-! ### Names: what is said of some frames -/

def emL : List AV → List AV
  | [] => []
  | .emp _ :: l => .list 0 [] :: emL l
  | a :: l => a :: emL l
theorem QmR {X : Cx} : ∀ (l : List AV) (vs : List Value), RepL X l vs → RepL X (emL l) vs
  | [], _, h => h
  | a :: l, vs, h => by
    simp only [RepL] at h
    obtain ⟨v, rest, e, g1, g2⟩ := h
    have h2 := QmR l rest g2
    cases a with
    | emp z =>
      simp only [emL, RepL]
      refine ⟨v, rest, e, ?_, h2⟩
      simp only [Rep] at g1 ⊢
      obtain ⟨a, e, _⟩ := g1
      exact ⟨a, 0, [], e, Nat.le_refl _, .inl rfl, by simp [RepL]⟩
    | _ => simp only [emL, RepL]; exact ⟨v, rest, e, g1, h2⟩
theorem VC.emp {P : Prg} {f : FuncId} (avs : List AV) {r : AV} (h : VC P f (emL avs) r) (hd : Qs avs = true) : VC P f avs r :=
  ⟨h.1, hd, h.2.2.1, fun w C vs hC hG hr => h.2.2.2 w C vs hC hG (QmR _ _ hr)⟩

end Go.Am

namespace Go.Am
open Go.RowKit

/-! ### Lists of numbers: slices.Concat, slices.Repeat, lengths.All -/

def nl (l : List Int) : AV := .list l.length (ks .i64 l)
theorem QpM (l : List Int) : isD (nl l) = true := by simp [nl, isD, QY]
def nls (L : List (List Int)) : AV := .list L.length (L.map nl)
theorem Qmj : ∀ L : List (List Int), Qs (L.map nl) = true
  | [] => rfl
  | l :: L => by simp [Qs, QpM, Qmj L]
def Qfr (t : Nat) (P : Prg) (f : Nat) : Prop := ∀ L : List (List Int), L.length ≤ 1000000 → 0 < L.flatten.length → L.flatten.length ≤ 1000000 → VO P f [nls L] (.own 0 L.flatten.length) ⟨t, 1, L.flatten.length, ks .i64 L.flatten, 0⟩
theorem grow_nilI {P : Prg} {f t : Nat} {ρ : Go.Shelf.Ren} (L : Go.Proofs.Lays8.n4 P.prog ρ) (hf : ρ.f 4 = f) (ht : ρ.t 25 = t) (h25 : (P.prog.info? t).map (fun i => (i.zero, i.size, i.bytes)) = some (some (.int .i64 0), 1, 8)) : ∀ (ob : List Ob) (n : Nat) (z : Bool) (K : AV → List Ob → Prop), 0 < n → n ≤ 1000000 → K (.own ob.length 0) (ob ++ [⟨t, 1, 0, [], 0⟩]) → ACall P f [.emp z, .int .i64 n] ob K := by
  intro ob n z K h1 h2 hK
  subst hf; subst ht
  exact ACall.grow_nilI (by omega) L h25 h1 (by omega) hK
def QgA (t : Nat) (P : Prg) (f : Nat) : Prop := ∀ (ob : List Ob) (n : Nat) (z : Bool) (K : AV → List Ob → Prop), 0 < n → n ≤ 1000000 → K (.own ob.length 0) (ob ++ [⟨t, 1, 0, [], 0⟩]) → ACall P f [.emp z, .int .i64 n] ob K
theorem Qgl {L : List (List Int)} {k : Nat} (h : k < L.length) : (L.take (k + 1)).flatten = (L.take k).flatten ++ L.getD k [] := by
  rw [List.take_succ_eq_append_getElem h, List.flatten_append, List.getD_eq_getElem?_getD, List.getElem?_eq_getElem h]
  simp
theorem Qmr (L : List (List Int)) (k : Nat) : (L.take k).flatten.length ≤ L.flatten.length := by
  conv => rhs; rw [← List.take_append_drop k L, List.flatten_append, List.length_append]
  omega
theorem QfD {P : Prg} {f fG t0 : Nat} (bd : Qj P f 36 [.tmp 2] (Zk fG t0)) (hG : QgA t0 P fG) : Qfr t0 P f := by
  intro L hL h0 h1
  refine VO.of_walk (by simp [Qs, isD, nls, Qmj]) (QY _ _) (by simp [okr]) (ACall.of_body bd (by simp) ?_)
  have hat : ∀ k, k < L.length → (L.map nl).drop k = nl (L.getD k []) :: (L.map nl).drop (k + 1) := fun k hk => by
    rw [List.drop_eq_getElem_cons (by simpa using hk)]
    simp [List.getD_eq_getElem?_getD, List.getElem?_eq_getElem hk]
  have hml : (L.map nl).length = L.length := by simp
  simp only [nl] at hat
  simp (maxSteps := 4000000) (disch := omega) only [rr, aop, cV, cV1, AV.one, Qb, okW, Qd, app, Qa, Qc, Qe, Qf, Qg, simprocAttr, Zk, nls]
  refine QW.by (ι := Nat) (fun k => ⟨[(11, .int .i64 k), (10, .int .i64 L.length), (9, .list L.length (L.map nl)), (3, .int .i64 (L.take k).flatten.length), (0, .list L.length (L.map nl))], []⟩) (fun k => k ≤ L.length) (fun k => L.length - k) 0 (Le.slots (by simp [Am.look])) (by omega) ?_
  intro k hk
  by_cases hlt : k < L.length
  · have ha := hat k hlt
    have hf := Qgl hlt
    have hle := Qmr L (k + 1)
    rw [hf, List.length_append] at hle
    have hl : ((L.take (k + 1)).flatten.length : Int) = (L.take k).flatten.length + (L.getD k []).length := by rw [hf]; simp
    generalize (L.take k).flatten.length = s at *
    generalize L.getD k [] = x at *
    simp (maxSteps := 4000000) (disch := omega) only [rr, aop, cV, cV1, AV.one, Qb, okW, Qd, app, Qa, Qc, Qe, Qf, Qg, simprocAttr, ha, hml]
    exact ⟨k + 1, by omega, by omega, by simp only [hl]; exact Le.slots (by simp [Am.look])⟩
  obtain rfl : k = L.length := by omega
  rw [List.take_length]
  have hG' := fun K hK => hG [] L.flatten.length true K h0 h1 hK
  simp (maxSteps := 4000000) (disch := omega) only [rr, aop, cV, cV1, AV.one, Qb, okW, Qd, app, Qa, Qc, Qe, Qf, Qg, simprocAttr]
  refine hG' _ ?_
  simp (maxSteps := 4000000) (disch := omega) only [rr, aop, cV, cV1, AV.one, Qb, okW, Qd, app, Qa, Qc, Qe, Qf, Qg, simprocAttr]
  refine QW.by (ι := Nat) (fun k => ⟨[(27, .int .i64 k), (26, .int .i64 L.length), (25, .list L.length (L.map nl)), (6, .own 0 (L.take k).flatten.length)], [⟨t0, 1, (L.take k).flatten.length, ks .i64 (L.take k).flatten, 0⟩]⟩) (fun k => k ≤ L.length) (fun k => L.length - k) 0 (Le.slots (by simp [Am.look, ks])) (by omega) ?_
  intro k hk
  by_cases hlt : k < L.length
  · have ha := hat k hlt
    have hf := Qgl hlt
    have hle := Qmr L (k + 1)
    rw [hf, List.length_append] at hle
    have hl : (L.take (k + 1)).flatten.length = (L.take k).flatten.length + (L.getD k []).length := by rw [hf]; simp
    have hu : ks .i64 (L.take (k + 1)).flatten = ks .i64 (L.take k).flatten ++ ks .i64 (L.getD k []) := by rw [hf]; simp [ks]
    have hc : (ks .i64 (L.take k).flatten).length = (L.take k).flatten.length := Qk _ _
    have hx : (ks .i64 (L.getD k [])).length = (L.getD k []).length := Qk _ _
    generalize ks .i64 (L.take k).flatten = cs at *
    generalize (L.take k).flatten.length = s at *
    generalize ks .i64 (L.getD k []) = us at *
    generalize (L.getD k []).length = xl at *
    simp (maxSteps := 4000000) (disch := omega) only [rr, aop, cV, cV1, AV.one, Qb, okW, Qd, app, Qa, Qc, Qe, Qf, Qg, simprocAttr, ha, hml, hc, hx]
    exact ⟨k + 1, by omega, by omega, by rw [hl, hu]; exact Le.slots (by simp [Am.look])⟩
  obtain rfl : k = L.length := by omega
  rw [List.take_length]
  simp (maxSteps := 4000000) (disch := omega) only [rr, aop, cV, cV1, AV.one, Qb, okW, Qd, app, Qa, Qc, Qe, Qf, Qg, simprocAttr]
  exact ⟨0, rfl, rfl⟩

end Go.Am

namespace Go.Am
open Go.RowKit

def Qn9 (P : Prg) (f : Nat) : Prop := ∀ x y : Nat, x ≤ 65535 → y ≤ 65535 → VC P f [.int .u64 x, .int .u64 y] (.tup [.int .u64 0, .int .u64 ((x * y : Nat) : Int)])
theorem Qnq {P : Prg} {f : Nat} (bd : Qj P f 51 [.tmp 4, .tmp 5] Xu) : Qn9 P f := by
  intro x y hx hy
  refine VC.of_acall rfl rfl (ACall.of_body bd (by simp) ?_)
  have hxy : x * y ≤ 65535 * 65535 := Nat.mul_le_mul hx hy
  have hm : (x : Int) * (y : Int) = ((x * y : Nat) : Int) := by simp
  have an : ∀ a : Nat, a ≤ 4294967295 → IntKind.u64.wrap (BitVec.ofInt IntKind.u64.bits (a : Int) &&& BitVec.ofInt IntKind.u64.bits 4294967295).toNat = (a : Int) := by
    intro a ha
    have := Qlh a 4294967295 (by omega) (by decide)
    rw [show (4294967295 : Nat) = 2 ^ 32 - 1 from rfl, Nat.and_two_pow_sub_one_eq_mod, Nat.mod_eq_of_lt (by omega)] at this
    exact this
  have sh : ∀ a : Nat, a ≤ 4294967295 → Qm false .u64 (a : Int) 32 = some (.int .u64 0) := by
    intro a ha
    have := QhV (K := .u64) (n := a) (k := 32) (by decide)
    rw [Nat.div_eq_of_lt (by omega)] at this
    exact this
  have a1 := an x (by omega)
  have a2 := an y (by omega)
  have a3 : IntKind.u64.wrap (BitVec.ofInt IntKind.u64.bits 0 &&& BitVec.ofInt IntKind.u64.bits 4294967295).toNat = 0 := by decide
  have s1 := sh x (by omega)
  have s2 := sh y (by omega)
  have s3 := sh (x * y) (by omega)
  have s4 : Qm false .u64 0 32 = some (.int .u64 0) := sh 0 (by omega)
  generalize x * y = z at *
  simp (maxSteps := 4000000) (disch := omega) only [rr, aop, cV, cV1, AV.one, Qb, okW, Qd, app, Qa, Qc, Qe, Qf, Qg, simprocAttr, Xu, a1, a2, a3, s1, s2, s3, s4, hm, Int.zero_mul, Int.mul_zero, Int.add_zero, Int.zero_add]
theorem QrW {P : Prg} {f f32 f64 : Nat} (bd : Qj P f 30 [.tmp 4, .tmp 5] (Ja f32 f64)) (h64 : Qn9 P f64) : Qn9 P f := by
  intro x y hx hy
  refine VC.of_acall rfl rfl (ACall.of_body bd (by simp) ?_)
  have h := h64 x y hx hy
  generalize x * y = z at *
  simp (maxSteps := 4000000) (disch := omega) only [rr, aop, cV, cV1, AV.one, Qb, okW, Qd, app, Qa, Qc, Qe, Qf, Qg, simprocAttr, Ja]
  refine Qh.vc h ?_
  simp (maxSteps := 4000000) (disch := omega) only [rr, aop, cV, cV1, AV.one, Qb, okW, Qd, app, Qa, Qc, Qe, Qf, Qg, simprocAttr]

def rpL (v : Int) (m c : Nat) : List Int := List.replicate m v ++ List.replicate (c - m) 0
theorem QuQ {v : Int} {m c : Nat} (h : m ≤ c) : (rpL v m c).length = c := by simp [rpL]; omega
def Qfn (t : Nat) (P : Prg) (f : Nat) : Prop := ∀ (v : Int) (c : Nat), c ≤ 1000 → VO P f [nl [v], .int .i64 c] (.own 0 c) ⟨t, 1, c, ks .i64 (List.replicate c v), 0⟩
theorem QfC {P : Prg} {f fM t0 : Nat} (bd : Qj P f 48 [.tmp 4] (Zj fM t0)) (hM : Qn9 P fM) : Qfn t0 P f := by
  intro v c hc
  refine VO.of_walk (by simp [Qs, QpM, isD]) (QY _ _) (by simp [okr]) (ACall.of_body bd (by simp) ?_)
  have hM' := hM 1 c (by omega) (by omega)
  rw [Nat.one_mul] at hM'
  have hM2 : VC P fM [.int .u64 1, .int .u64 c] (.tup [.int .u64 0, .int .u64 c]) := hM'
  have e1 : nl [v] = .list 1 [.int .i64 v] := rfl
  have er : Qq [.int .i64 0] c = ks .i64 (List.replicate c 0) := QsJ .i64 c
  have hl : (ks .i64 (List.replicate c 0)).length = c := by simp [Qk]
  rw [e1]
  simp (maxSteps := 4000000) (disch := omega) only [rr, aop, cV, cV1, AV.one, Qb, okW, Qd, app, Qa, Qc, Qe, Qf, Qg, simprocAttr, Zj]
  refine Qh.vc hM2 ?_
  by_cases h0 : c = 0
  · subst h0
    simp (maxSteps := 4000000) (disch := omega) only [rr, aop, cV, cV1, AV.one, Qb, okW, Qd, app, Qa, Qc, Qe, Qf, Qg, simprocAttr, er]
    refine QW.by (ι := Nat) (fun _ => ⟨[(8, .int .i64 0), (7, .own 0 0)], [⟨t0, 1, 0, [], 0⟩]⟩) (fun _ => True) (fun _ => 0) 0 (Le.slots (by simp [Am.look, ks])) trivial ?_
    intro _ _
    simp (maxSteps := 4000000) (disch := omega) only [rr, aop, cV, cV1, AV.one, Qb, okW, Qd, app, Qa, Qc, Qe, Qf, Qg, simprocAttr]
    exact ⟨0, rfl, rfl⟩
  · have hmn : Nat.min 1 c = 1 := Nat.min_eq_left (by omega)
    have hst : (1 : Int) < (c : Int) ∨ c = 1 := by omega
    simp (maxSteps := 4000000) (disch := omega) only [rr, aop, cV, cV1, AV.one, Qb, okW, Qd, app, Qa, Qc, Qe, Qf, Qg, simprocAttr, er, hl, hmn]
    refine QW.by (ι := Nat) (fun m => ⟨[(8, .int .i64 m), (7, .own 0 c)], [⟨t0, 1, c, ks .i64 (rpL v m c), 0⟩]⟩) (fun m => 1 ≤ m ∧ m ≤ c) (fun m => c - m) 1 ?_ (by omega) ?_
    · have : [AV.int .i64 v] ++ (ks .i64 (List.replicate c 0)).drop 1 = ks .i64 (rpL v 1 c) := by simp [rpL, ks]
      rw [← this]
      exact Le.slots (by simp [Am.look])
    intro m hm
    obtain ⟨hm1, hm2⟩ := hm
    have hkl : (ks .i64 (rpL v m c)).length = c := by rw [Qk, QuQ hm2]
    by_cases hlt : m < c
    · obtain ⟨q, hq⟩ : ∃ q, q = Nat.min m (c - m) := ⟨_, rfl⟩
      have hq1 : q ≤ m := by rw [hq]; exact Nat.min_le_left _ _
      have hq2 : q ≤ c - m := by rw [hq]; exact Nat.min_le_right _ _
      have hq3 : 1 ≤ q := by rw [hq]; exact Nat.le_min.2 ⟨hm1, by omega⟩
      have hmc : min m c = m := Nat.min_eq_left hm2
      have hal : ((ks .i64 (rpL v m c)).take m).all AV.one = true := by
        rw [List.all_eq_true]
        intro x hx
        exact List.all_eq_true.1 (XZ .i64 (rpL v m c)) x (List.mem_of_mem_take hx)
      have e1 : (rpL v m c).take m = List.replicate m v := by unfold rpL; rw [List.take_left' (by simp)]
      have e2 : (rpL v m c).drop (m + q) = List.replicate (c - (m + q)) 0 := by
        unfold rpL
        rw [List.drop_append, List.drop_of_length_le (by simp), List.nil_append, List.drop_replicate, List.length_replicate]
        congr 1
        omega
      have hcs : (ks .i64 (rpL v m c)).take m ++ (((ks .i64 (rpL v m c)).take m).take q ++ (ks .i64 (rpL v m c)).drop (m + q)) = ks .i64 (rpL v (m + q) c) := by
        have k1 : ∀ l n, (ks .i64 l).take n = ks .i64 (l.take n) := fun l n => by simp [ks, List.map_take]
        have k2 : ∀ l n, (ks .i64 l).drop n = ks .i64 (l.drop n) := fun l n => by simp [ks, List.map_drop]
        have k3 : ∀ a b, ks .i64 a ++ ks .i64 b = ks .i64 (a ++ b) := fun a b => by simp [ks]
        rw [k1, e1, k1, k2, e2, List.take_replicate, Nat.min_eq_left hq1, k3, k3, ← List.append_assoc, List.replicate_append_replicate]
        rfl
      have hcs2 : (ks .i64 (rpL v m c)).take m ++ ((ks .i64 (rpL v m c)).take m).take q ++ (ks .i64 (rpL v m c)).drop (m + q) = ks .i64 (rpL v (m + q) c) := by rw [List.append_assoc]; exact hcs
      simp (maxSteps := 4000000) (disch := omega) only [rr, aop, cV, cV1, AV.one, Qb, okW, Qd, app, Qa, Qc, Qe, Qf, Qg, simprocAttr, hkl, h0, Nat.sub_zero, hmc, hal, ← hq, Nat.mul_one, hcs2, hcs]
      refine ⟨m + q, ⟨by omega, by omega⟩, by omega, ?_⟩
      exact Le.slots (by simp [Am.look])
    · obtain rfl : m = c := by omega
      have : rpL v m m = List.replicate m v := by simp [rpL]
      rw [this]
      simp (maxSteps := 4000000) (disch := omega) only [rr, aop, cV, cV1, AV.one, Qb, okW, Qd, app, Qa, Qc, Qe, Qf, Qg, simprocAttr]
      exact ⟨0, rfl, rfl⟩

end Go.Am

namespace Go.Am
open Go.RowKit

def Qq1 (t : Nat) (P : Prg) (f : Nat) : Prop := ∀ a b : List Int, 0 < a.length + b.length → a.length + b.length ≤ 1000000 → VO P f [nl a, nl b] (.own 0 (a.length + b.length)) ⟨t, 1, a.length + b.length, ks .i64 (a ++ b), 0⟩
theorem QfI {P : Prg} {f fC t0 t1 : Nat} (bd : Qj P f 9 [.tmp 4] (XJ fC t1)) (hC : Qfr t0 P fC) : Qq1 t0 P f := by
  intro a b h0 h1
  refine VO.of_walk (by simp [Qs, QpM]) (QY _ _) (by simp [okr]) (ACall.of_body bd (by simp) ?_)
  have hC' := hC [a, b] (by simp) (by simpa using h0) (by simpa using h1)
  have e1 : nls [a, b] = .list 2 [nl a, nl b] := rfl
  have e2 : [a, b].flatten = a ++ b := by simp
  rw [e1, e2, List.length_append] at hC'
  have ta := Qx .i64 a
  have tb := Qx .i64 b
  simp only [nl] at hC' ⊢
  simp (maxSteps := 4000000) (disch := omega) only [rr, aop, cV, cV1, AV.one, Qb, okW, Qd, app, Qa, Qc, Qe, Qf, Qg, simprocAttr, XJ]
  refine Qh.vo_still 1 [0] hC' (by simp [Zr, QJ, QO, QI, Qr _ ta, Qr _ tb]) ?_
  simp (maxSteps := 4000000) (disch := omega) only [rr, aop, cV, cV1, AV.one, Qb, okW, Qd, app, Qa, Qc, Qe, Qf, Qg, simprocAttr, Qw, shr]
  exact ⟨1, rfl, rfl⟩

def okA (r n : Int) : Prop := 1 ≤ r ∧ r ≤ 1048576 ∧ 1 ≤ n ∧ n ≤ 4000 ∧ (QH (Qt r).toNat n.toNat).length ≤ 1000
def QmQ (t : Nat) (P : Prg) (f : Nat) : Prop := ∀ r n : Int, okA r n → VO P f [.int .i64 r, .int .i64 n] (.tup [.own 0 (QH (Qt r).toNat n.toNat).length, .int .i64 0]) ⟨t, 1, (QH (Qt r).toNat n.toNat).length, ks .i64 (QH (Qt r).toNat n.toNat), 0⟩
theorem Qks {P : Prg} {f fC fL fR fB t0 : Nat} (bd : Qj P f 39 [.tmp 4, .tmp 5] (J8 fC fL fR fB t0)) (hC : JM P fC) (hL : Qa1 P fL) (hR : Qfn t0 P fR) (hB : Qq1 t0 P fB) : QmQ t0 P f := by
  intro r n ⟨a1, a2, a3, a4, a5⟩
  refine VO.of_walk rfl (QY _ _) (by simp [okr, flat]) (ACall.of_body bd (by simp) ?_)
  have hlong : 1 ≤ Qt r := by unfold Qt; split <;> omega
  obtain ⟨L, hLe⟩ : ∃ L : Nat, Qt r = L := ⟨(Qt r).toNat, by omega⟩
  obtain ⟨m, rfl⟩ : ∃ m : Nat, n = m := ⟨n.toNat, by omega⟩
  rw [hLe, Int.toNat_natCast, Int.toNat_natCast] at a5 ⊢
  rw [Z6] at a5
  obtain ⟨q, hq⟩ : ∃ q, q = (m - 1) / L := ⟨_, rfl⟩
  have hql : (QH L m).length = q + 1 := by rw [Z6, hq]
  rw [← hq] at a5
  have hcd : ((m : Int) + (L : Int) - 1) / (L : Int) = ((q + 1 : Nat) : Int) := by
    have h1 : (m : Int) + (L : Int) - 1 = ((m - 1 + L : Nat) : Int) := by omega
    rw [h1, ← Int.natCast_ediv, Nat.add_div_right _ (by omega), ← hq]
  have hk : QfW r m = .tup [.int .i64 ((q + 1 : Nat) : Int), .int .i64 0] := by
    rw [QfW, if_neg (by omega), if_neg (by omega), hLe, hcd, if_neg (by omega)]
  have hC' := hC r m
  rw [hk] at hC'
  have hL' := hL r
  rw [Qa8, if_neg (by omega), hLe] at hL'
  have hR' := hR L q (by omega)
  have hB' := hB (List.replicate q (L : Int)) [(m : Int) - ((q * L : Nat) : Int)] (by simp) (by simp; omega)
  have e1 : List.replicate q (L : Int) ++ [(m : Int) - ((q * L : Nat) : Int)] = QH L m := by unfold QH; rw [hq]
  rw [e1] at hB'
  have e2 : (List.replicate q (L : Int)).length + [(m : Int) - ((q * L : Nat) : Int)].length = q + 1 := by simp
  rw [e2] at hB'
  have e3 : nl [(L : Int)] = .list 1 [.int .i64 (L : Int)] := rfl
  have e4 : nl [(m : Int) - ((q * L : Nat) : Int)] = .list 1 [.int .i64 ((m : Int) - ((q * L : Nat) : Int))] := rfl
  rw [e3] at hR'
  rw [e4] at hB'
  have tr := Qx .i64 (List.replicate q (L : Int))
  have hqL : (q : Int) * (L : Int) = ((q * L : Nat) : Int) := by simp
  have hle : q * L ≤ m := by
    have := Nat.div_mul_le_self (m - 1) L
    rw [← hq] at this
    omega
  simp only [nl, List.length_replicate] at hB'
  rw [hql]
  generalize ks .i64 (QH L m) = LL at *
  generalize ks .i64 (List.replicate q (L : Int)) = RR at *
  generalize q * L = w at *
  simp only [Int.natCast_add, Int.cast_ofNat_Int] at hC'
  have hq1 : (q : Int) + 1 - 1 = (q : Int) := by omega
  simp (maxSteps := 4000000) (disch := omega) only [rr, aop, cV, cV1, AV.one, Qb, okW, Qd, app, Qa, Qc, Qe, Qf, Qg, simprocAttr, J8]
  refine Qh.vc hC' ?_
  simp (maxSteps := 4000000) (disch := omega) only [rr, aop, cV, cV1, AV.one, Qb, okW, Qd, app, Qa, Qc, Qe, Qf, Qg, simprocAttr]
  refine Qh.vc hL' ?_
  simp (maxSteps := 4000000) (disch := omega) only [rr, aop, cV, cV1, AV.one, Qb, okW, Qd, app, Qa, Qc, Qe, Qf, Qg, simprocAttr, hq1]
  refine Qh.vo_still 1 [0] hR' (by simp [Zr, QJ, QO, QI]) ?_
  simp (maxSteps := 4000000) (disch := omega) only [rr, aop, cV, cV1, AV.one, Qb, okW, Qd, app, Qa, Qc, Qe, Qf, Qg, simprocAttr, Qw, shr, hq1, hqL]
  refine Qh.vo_still 1 [1, 2] hB' (by simp [Zr, QJ, QO, QI, Qr _ tr]) ?_
  simp (maxSteps := 4000000) (disch := omega) only [rr, aop, cV, cV1, AV.one, Qb, okW, Qd, app, Qa, Qc, Qe, Qf, Qg, simprocAttr, Qw, shr]
  exact ⟨3, rfl, rfl⟩

end Go.Am
