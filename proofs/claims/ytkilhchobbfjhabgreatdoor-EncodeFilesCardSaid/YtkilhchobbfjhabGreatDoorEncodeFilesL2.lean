/- What the functions that the law reaches return, for every program that has their code; the conditions stand in each statement. -/
import Derived.Test.YtkilhchobbfjhabGreatDoorEncodeFilesL1
set_option linter.unusedSectionVars false
set_option linter.unusedSimpArgs false
set_option linter.unusedVariables false
namespace Go.Am
open Go.RowKit

/-! ### CRC-32 -/

def Qlq (i : Nat) : List Int := (List.range 256).map fun j => if j < i then ((Qe4 8 j : Nat) : Int) else 0
theorem X7 (i : Nat) : (Qlq i).length = 256 := by simp [Qlq]
theorem QfO {i j : Nat} (h : j < 256) : (Qlq i)[j]'(by rw [X7]; exact h) = if j < i then ((Qe4 8 j : Nat) : Int) else 0 := by simp [Qlq]
theorem Qur {i : Nat} (h : i < 256) : (Qlq i).set i ((Qe4 8 i : Nat) : Int) = Qlq (i + 1) := by
  refine List.ext_getElem (by simp [X7]) fun j h1 h2 => ?_
  have hj : j < 256 := by simpa [X7] using h2
  rw [List.getElem_set, QfO hj]
  split
  · rename_i e; subst e; rw [QfO hj, if_pos (by omega)]
  · rename_i e; rw [QfO hj]
    by_cases h3 : j < i
    · rw [if_pos h3, if_pos (by omega)]
    · rw [if_neg h3, if_neg (by omega)]

def QoF (P : Prg) (f : Nat) : Prop := VC P f [] (.cell (ks .u32 (Qlq 256)))
theorem QaR {l : List UInt8} {k : Nat} (h : k < l.length) : (u8 l).drop k = .int .u8 (l[k]).toNat :: u8 (l.drop (k + 1)) := by
  rw [QrG, List.drop_eq_getElem_cons h]; rfl

set_option maxRecDepth 40000 in
theorem Qoh {P : Prg} {f t0 : Nat} (bd : Qj P f 24 [.tmp 0] (Qbe t0)) : QoF P f := by
  refine VC.of_walk 1 rfl (by simp [isD, Qie (Qt _ _)]) (ACall.of_body bd (by simp) ?_)
  unfold Qbe
  have z0 : ([.int .u32 0, .int .u32 0] : List AV) = [.int .u32 0, .int .u32 0] := rfl
  simp (maxSteps := 4000000) (disch := omega) only [rr, aop, cV, cV1, AV.one, Qb, okW, Qd, app, Qa, Qc, Qf, Qe, Qg, simprocAttr]
  refine QJ.by (ι := Nat) (fun i => ⟨[(5, .int .i64 i), (1, .ref 0 1 0)], [⟨t0, 256, 1, ks .u32 (Qlq i), 0⟩]⟩) (fun i => i ≤ 256) (fun i => 256 - i) 0 (Le.slots (by simp [Am.look])) (by omega) ?_
  intro i hi
  by_cases hlt : i < 256
  · simp (maxSteps := 4000000) (disch := omega) only [rr, aop, cV, cV1, AV.one, Qb, okW, Qd, app, Qa, Qc, Qf, Qe, Qg, simprocAttr]
    refine QJ.by (ι := Nat) (fun j => ⟨[(10, .int .i64 j), (3, .int .u32 (Qe4 j i)), (5, .int .i64 i), (2, .int .i64 i), (1, .ref 0 1 0)], [⟨t0, 256, 1, ks .u32 (Qlq i), 0⟩]⟩) (fun j => j ≤ 8) (fun j => 8 - j) 0 (Le.slots (by simp [Am.look, Qe4])) (by omega) ?_
    intro j hj
    by_cases hjl : j < 8
    · have hc := QjF j (c := i) (by omega)
      have hn := Qmh j i
      generalize Qe4 j i = c at *
      have a1 : IntKind.u32.wrap (BitVec.ofInt IntKind.u32.bits (c : Int) &&& BitVec.ofInt IntKind.u32.bits 1).toNat = ((c % 2 : Nat) : Int) := by
        have h := Qx4 (K := .u32) rfl (a := c) (b := 1) (by exact hc) (by decide)
        rw [Nat.and_one_is_mod] at h
        exact h
      have a2 : Qs false .u32 (c : Int) 1 = some (.int .u32 ((c / 2 : Nat) : Int)) := Qi8 (K := .u32) (n := c) (k := 1) (by decide)
      rcases Nat.mod_two_eq_zero_or_one c with h2 | h2
      · have a3 : IntKind.u32.wrap (BitVec.ofInt IntKind.u32.bits ((c / 2 : Nat) : Int) ^^^ BitVec.ofInt IntKind.u32.bits 0).toNat = ((Qe4 (j + 1) i : Nat) : Int) := by
          rw [hn, QmP, h2, if_neg (by decide)]
          exact Qrr (K := .u32) rfl (a := c / 2) (b := 0) (by show c / 2 < 4294967296; omega) (by decide)
        have a1' : IntKind.u32.wrap (BitVec.ofInt IntKind.u32.bits (c : Int) &&& BitVec.ofInt IntKind.u32.bits 1).toNat = 0 := by rw [a1, h2]; rfl
        simp (maxSteps := 4000000) (disch := omega) only [rr, aop, cV, cV1, AV.one, Qb, okW, Qd, app, Qa, Qc, Qf, Qe, Qg, simprocAttr, a1', a2, a3]
        exact ⟨j + 1, by omega, by omega, Le.slots (by simp [Am.look])⟩
      · have a3 : IntKind.u32.wrap (BitVec.ofInt IntKind.u32.bits ((c / 2 : Nat) : Int) ^^^ BitVec.ofInt IntKind.u32.bits 3988292384).toNat = ((Qe4 (j + 1) i : Nat) : Int) := by
          rw [hn, QmP, h2, if_pos rfl]
          exact Qrr (K := .u32) rfl (a := c / 2) (b := 3988292384) (by show c / 2 < 4294967296; omega) (by decide)
        have a1' : IntKind.u32.wrap (BitVec.ofInt IntKind.u32.bits (c : Int) &&& BitVec.ofInt IntKind.u32.bits 1).toNat = 1 := by rw [a1, h2]; rfl
        simp (maxSteps := 4000000) (disch := omega) only [rr, aop, cV, cV1, AV.one, Qb, okW, Qd, app, Qa, Qc, Qf, Qe, Qg, simprocAttr, a1', a2, a3]
        exact ⟨j + 1, by omega, by omega, Le.slots (by simp [Am.look])⟩
    · obtain rfl : j = 8 := by omega
      have e1 := X7 i
      have e2 := Qk .u32 (Qlq i)
      have e3 : (ks .u32 (Qlq i)).take i ++ [.int .u32 (Qe4 8 i)] ++ (ks .u32 (Qlq i)).drop (i + 1) = ks .u32 (Qlq (i + 1)) := by
        rw [← Qur hlt, List.set_eq_take_append_cons_drop, if_pos (by rw [X7]; exact hlt)]; simp [ks, List.map_take, List.map_drop]
      simp (maxSteps := 4000000) (disch := omega) only [rr, aop, cV, cV1, AV.one, Qb, okW, Qd, app, Qa, Qc, Qf, Qe, Qg, simprocAttr, e1, e2, e3]
      exact ⟨i + 1, by omega, by omega, Le.slots (by simp [Am.look])⟩
  · obtain rfl : i = 256 := by omega
    simp (maxSteps := 4000000) (disch := omega) only [rr, aop, cV, cV1, AV.one, Qb, okW, Qd, app, Qa, Qc, Qf, Qe, Qg, simprocAttr]
    simp [Zu, QS, frzL, QN, frzL_T _ (Qt _ _)]

def QoQ (P : Prg) (f : Nat) : Prop := ∀ (s : Nat) (l : List UInt8), s < 4294967296 → VC P f [.int .u32 s, bs l] (if 100000 < l.length then .tup [.int .u32 0, .int .i64 4] else .tup [.int .u32 (QkK s l), .int .i64 0])
set_option maxRecDepth 40000 in
theorem Qq1 {P : Prg} {f fT : Nat} (bd : Qj P f 32 [.tmp 4, .tmp 5] (Qao fT)) (hT : QoF P fT) : QoQ P f := by
  intro s l hs
  refine VC.of_acall (by simp [isDL, isD, Zq]) (by split <;> rfl) (ACall.of_body bd (by simp) ?_)
  by_cases hl : 100000 < l.length
  · rw [if_pos hl]
    simp (maxSteps := 4000000) (disch := omega) only [rr, aop, cV, cV1, AV.one, Qb, okW, Qd, app, Qa, Qc, Qf, Qe, Qg, simprocAttr, Qao, bs]
  · rw [if_neg hl]
    have hT' := hT
    have t0 := Qk .u32 (Qlq 256)
    rw [X7] at t0
    simp (maxSteps := 4000000) (disch := omega) only [rr, aop, cV, cV1, AV.one, Qb, okW, Qd, app, Qa, Qc, Qf, Qe, Qg, simprocAttr, Qao, bs]
    refine Qh.vc hT' ?_
    simp (maxSteps := 4000000) (disch := omega) only [rr, aop, cV, cV1, AV.one, Qb, okW, Qd, app, Qa, Qc, Qf, Qe, Qg, simprocAttr]
    refine QJ.by (ι := Nat) (fun k => ⟨[(15, .int .i64 k), (14, .int .i64 l.length), (13, .list l.length (u8 l)), (6, .cell (ks .u32 (Qlq 256))), (0, .int .u32 (QkK s (l.take k)))], []⟩) (fun k => k ≤ l.length) (fun k => l.length - k) 0 (Le.slots (by simp [Am.look, QkK])) (by omega) ?_
    intro k hk
    have hc := QgD (l := l.take k) hs
    by_cases hlt : k < l.length
    · have e1 := QaR hlt
      have hn := Qmi (s := s) hlt
      generalize QkK s (l.take k) = c at *
      rw [QqZ] at hn
      have hb := (l[k]).toNat_lt
      have h0 : (c % 256 ^^^ (l[k]).toNat) < 256 := Nat.xor_lt_two_pow (n := 8) (Nat.mod_lt _ (by decide)) hb
      have h1 := QjF 8 (c := c % 256 ^^^ (l[k]).toNat) (by omega)
      have a1 : Qs false .u32 (c : Int) 8 = some (.int .u32 ((c / 256 : Nat) : Int)) := Qi8 (K := .u32) (n := c) (k := 8) (by decide)
      have a2 : IntKind.u8.wrap (c : Int) = ((c % 256 : Nat) : Int) := by rw [X5]; omega
      have a3 : IntKind.u8.wrap (BitVec.ofInt IntKind.u8.bits ((c % 256 : Nat) : Int) ^^^ BitVec.ofInt IntKind.u8.bits ((l[k]).toNat : Int)).toNat = ((c % 256 ^^^ (l[k]).toNat : Nat) : Int) :=
        Qrr (K := .u8) rfl (a := c % 256) (b := (l[k]).toNat) (Nat.mod_lt _ (by decide)) hb
      have a4 : IntKind.u32.wrap (BitVec.ofInt IntKind.u32.bits ((c / 256 : Nat) : Int) ^^^ BitVec.ofInt IntKind.u32.bits ((Qe4 8 (c % 256 ^^^ (l[k]).toNat) : Nat) : Int)).toNat = ((QkK s (l.take (k + 1)) : Nat) : Int) := by
        rw [hn]; exact Qrr (K := .u32) rfl (by show c / 256 < 4294967296; omega) h1
      generalize c % 256 ^^^ (l[k]).toNat = x at *
      have e2 : (ks .u32 (Qlq 256)).drop x = .int .u32 ((Qe4 8 x : Nat) : Int) :: ks .u32 ((Qlq 256).drop (x + 1)) := by
        rw [J6, List.drop_eq_getElem_cons (by rw [X7]; exact h0), Qgo, QfO h0, if_pos h0]
      simp (maxSteps := 4000000) (disch := omega) only [rr, aop, cV, cV1, AV.one, Qb, okW, Qd, app, Qa, Qc, Qf, Qe, Qg, simprocAttr, e1, a1, a2, a3, a4, e2, t0]
      exact ⟨k + 1, by omega, by omega, Le.slots (by simp [Am.look])⟩
    · have ek : k = l.length := by omega
      subst ek
      rw [List.take_length]
      simp (maxSteps := 4000000) (disch := omega) only [rr, aop, cV, cV1, AV.one, Qb, okW, Qd, app, Qa, Qc, Qf, Qe, Qg, simprocAttr]

def QmK (P : Prg) (f : Nat) : Prop := ∀ (l : List UInt8), VC P f [bs l] (if 100000 < l.length then .tup [.int .u32 0, .int .i64 4] else .tup [.int .u32 ((4294967295 - QkK 4294967295 l : Nat) : Int), .int .i64 0])

theorem QvG {c : Nat} (h : c < 4294967296) : 4294967295 ^^^ c = 4294967295 - c := by
  have h1 : BitVec.allOnes 32 ^^^ BitVec.ofNat 32 c = ~~~ BitVec.ofNat 32 c := by
    apply BitVec.eq_of_getElem_eq
    intro i hi
    rw [BitVec.getElem_xor, BitVec.getElem_allOnes, BitVec.getElem_not, Bool.true_xor]
  have h2 := congrArg BitVec.toNat h1
  rw [BitVec.toNat_xor, BitVec.toNat_not, BitVec.toNat_allOnes, BitVec.toNat_ofNat, Nat.mod_eq_of_lt h] at h2
  exact h2

theorem Qtl {P : Prg} {f fN : Nat} (bd : Qj P f 16 [.tmp 2, .tmp 3] (QaY fN)) (hN : QoQ P fN) : QmK P f := by
  intro l
  refine VC.of_acall (by simp [isDL, isD, Zq]) (by split <;> rfl) (ACall.of_body bd (by simp) ?_)
  have hN' := hN 4294967295 l (by decide)
  have hc := QgD (l := l) (s := 4294967295) (by decide)
  generalize QkK 4294967295 l = c at *
  simp only [bs] at hN'
  by_cases hl : 100000 < l.length
  · rw [if_pos hl] at hN' ⊢
    simp (maxSteps := 4000000) (disch := omega) only [rr, aop, cV, cV1, AV.one, Qb, okW, Qd, app, Qa, Qc, Qf, Qe, Qg, simprocAttr, QaY, bs]
    refine Qh.vc hN' ?_
    simp (maxSteps := 4000000) (disch := omega) only [rr, aop, cV, cV1, AV.one, Qb, okW, Qd, app, Qa, Qc, Qf, Qe, Qg, simprocAttr]
  · rw [if_neg hl] at hN' ⊢
    have a1 : IntKind.u32.wrap (BitVec.ofInt IntKind.u32.bits IntKind.u32.max ^^^ BitVec.ofInt IntKind.u32.bits (c : Int)).toNat = ((4294967295 - c : Nat) : Int) := by
      rw [← QvG hc]
      exact Qrr (K := .u32) rfl (a := 4294967295) (b := c) (by decide) hc
    have a2 : IntKind.u32.signed = false := rfl
    simp (maxSteps := 4000000) (disch := omega) only [rr, aop, cV, cV1, AV.one, Qb, okW, Qd, app, Qa, Qc, Qf, Qe, Qg, simprocAttr, QaY, bs]
    refine Qh.vc hN' ?_
    simp (maxSteps := 4000000) (disch := omega) only [rr, aop, cV, cV1, AV.one, Qb, okW, Qd, app, Qa, Qc, Qf, Qe, Qg, simprocAttr, a1, a2]

/-! ### Its reference -/

def QtX (P : Prg) (f : Nat) : Prop := ∀ s b : Nat, s < 4294967296 → b < 2 → VC P f [.int .u32 s, .int .i64 b] (.int .u32 (QmP (s ^^^ b) : Nat))
theorem QvM {s b : Nat} (hb : b < 2) : QmP (s ^^^ b) = s / 2 ^^^ (if (s + b) % 2 = 1 then 3988292384 else 0) := by
  have e1 : (s ^^^ b) / 2 = s / 2 := by rw [Nat.xor_div_two, show b / 2 = 0 by omega, Nat.xor_zero]
  have e2 : (s ^^^ b) % 2 = (s + b) % 2 := by
    have := Nat.xor_mod_two_pow (a := s) (b := b) (n := 1)
    rw [Nat.pow_one] at this
    rw [this]
    rcases (by omega : b = 0 ∨ b = 1) with rfl | rfl <;> rcases Nat.mod_two_eq_zero_or_one s with h | h <;> rw [h] <;> (try simp) <;> omega
  rw [QmP, e1, e2]
theorem QqE {P : Prg} {f : Nat} (bd : Qj P f 19 [.tmp 4] QV) : QtX P f := by
  intro s b hs hb
  refine VC.of_acall rfl rfl (ACall.of_body bd (by simp) ?_)
  rw [QvM hb]
  have e1 : IntKind.u32.wrap (BitVec.ofInt IntKind.u32.bits ((s / 2 : Nat) : Int) ^^^ BitVec.ofInt IntKind.u32.bits 3988292384).toNat = ((s / 2 ^^^ 3988292384 : Nat) : Int) :=
    Qrr (K := .u32) rfl (a := s / 2) (b := 3988292384) (by show s / 2 < 4294967296; omega) (by decide)
  have e2 : ((s : Int)).tdiv 2 = ((s / 2 : Nat) : Int) := rfl
  have e3 : ((s : Int)).tmod 2 = ((s % 2 : Nat) : Int) := rfl
  have e5 : (s : Int) / 2 = ((s / 2 : Nat) : Int) := by omega
  rcases Nat.mod_two_eq_zero_or_one s with h | h <;> rcases (by omega : b = 0 ∨ b = 1) with rfl | rfl
  · rw [if_neg (by omega), Nat.xor_zero]
    rw [h] at e3
    simp (maxSteps := 4000000) (disch := omega) only [rr, aop, cV, cV1, AV.one, Qb, okW, Qd, app, Qa, Qc, Qf, Qe, Qg, simprocAttr, QV, e1, e2, e3, e5]
  · rw [if_pos (by omega)]
    rw [h] at e3
    simp (maxSteps := 4000000) (disch := omega) only [rr, aop, cV, cV1, AV.one, Qb, okW, Qd, app, Qa, Qc, Qf, Qe, Qg, simprocAttr, QV, e1, e2, e3, e5]
  · rw [if_pos (by omega)]
    rw [h] at e3
    simp (maxSteps := 4000000) (disch := omega) only [rr, aop, cV, cV1, AV.one, Qb, okW, Qd, app, Qa, Qc, Qf, Qe, Qg, simprocAttr, QV, e1, e2, e3, e5]
  · rw [if_neg (by omega), Nat.xor_zero]
    rw [h] at e3
    simp (maxSteps := 4000000) (disch := omega) only [rr, aop, cV, cV1, AV.one, Qb, okW, Qd, app, Qa, Qc, Qf, Qe, Qg, simprocAttr, QV, e1, e2, e3, e5]

def Qt6 (P : Prg) (f : Nat) : Prop := ∀ s b : Nat, s < 4294967296 → b < 256 → VC P f [.int .u32 s, .int .u8 b] (.int .u32 (Qvz s b : Nat))
def byK (s b : Nat) : Nat → Nat
  | 0 => s
  | k + 1 => QmP (byK s b k ^^^ b / 2 ^ k % 2)
theorem QvB {s b : Nat} (hs : s < 4294967296) : ∀ k, byK s b k < 4294967296
  | 0 => hs
  | k + 1 => Qtj (Nat.xor_lt_two_pow (n := 32) (QvB hs k) (by have := Nat.mod_lt (b / 2 ^ k) (show 0 < 2 by decide); omega))
theorem QtG (s b : Nat) : ∀ k, k ≤ 8 → Qe4 (8 - k) (byK s b k ^^^ b / 2 ^ k) = Qvz s b
  | 0, _ => by simp [byK, Qvz]
  | k + 1, h => by
    have := QtG s b k (by omega)
    rw [show 8 - k = (8 - (k + 1)) + 1 by omega, Qe4, Qvd] at this
    rw [byK, Nat.pow_succ, ← Nat.div_div_eq_div_mul]
    exact this
theorem QqF {P : Prg} {f fS : Nat} (bd : Qj P f 18 [.tmp 4] (XP fS)) (hS : QtX P fS) : Qt6 P f := by
  intro s b hs hb
  refine VC.of_acall rfl rfl (ACall.of_body bd (by simp) ?_)
  simp (maxSteps := 4000000) (disch := omega) only [rr, aop, cV, cV1, AV.one, Qb, okW, Qd, app, Qa, Qc, Qf, Qe, Qg, simprocAttr, XP]
  refine QJ.by (ι := Nat) (fun k => ⟨[(5, .int .i64 k), (0, .int .u32 (byK s b k)), (1, .int .u8 (b / 2 ^ k : Nat))], []⟩) (fun k => k ≤ 8) (fun k => 8 - k) 0 (Le.slots (by simp [Am.look, byK])) (by omega) ?_
  intro k hk
  have hc := QvB (b := b) hs k
  by_cases hlt : k < 8
  · have hn : byK s b (k + 1) = QmP (byK s b k ^^^ b / 2 ^ k % 2) := rfl
    have hd : b / 2 ^ (k + 1) = b / 2 ^ k / 2 := by rw [Nat.pow_succ, Nat.div_div_eq_div_mul]
    have hd2 : b / 2 ^ k ≤ b := Nat.div_le_self _ _
    generalize byK s b k = c at *
    generalize b / 2 ^ k = x at *
    have h2 := hS c (x % 2) hc (Nat.mod_lt _ (by decide))
    rw [← hn] at h2
    have e2 : ((x : Int)).tdiv 2 = ((x / 2 : Nat) : Int) := rfl
    have e3 : ((x : Int)).tmod 2 = ((x % 2 : Nat) : Int) := rfl
    have e4 : x % 2 < 2 := Nat.mod_lt _ (by decide)
    simp (maxSteps := 4000000) (disch := omega) only [rr, aop, cV, cV1, AV.one, Qb, okW, Qd, app, Qa, Qc, Qf, Qe, Qg, simprocAttr, e2, e3]
    refine Qh.vc h2 ?_
    simp (maxSteps := 4000000) (disch := omega) only [rr, aop, cV, cV1, AV.one, Qb, okW, Qd, app, Qa, Qc, Qf, Qe, Qg, simprocAttr, e2]
    exact ⟨k + 1, by omega, by omega, Le.slots (by simp [Am.look, hd])⟩
  · obtain rfl : k = 8 := by omega
    have h8 := QtG s b 8 (by omega)
    have h9 : b / 2 ^ 8 = 0 := Nat.div_eq_of_lt hb
    rw [h9, Nat.xor_zero, Nat.sub_self, Qe4] at h8
    rw [h8]
    simp (maxSteps := 4000000) (disch := omega) only [rr, aop, cV, cV1, AV.one, Qb, okW, Qd, app, Qa, Qc, Qf, Qe, Qg, simprocAttr]

def Qhj (P : Prg) (f : Nat) : Prop := ∀ (s : Nat) (l : List UInt8), s < 4294967296 → l.length ≤ 1000000 → VC P f [.int .u32 s, bs l] (.int .u32 (QkK s l : Nat))
theorem QlO {P : Prg} {f fB : Nat} (bd : Qj P f 19 [.tmp 4] (Z6 fB)) (hB : Qt6 P fB) : Qhj P f := by
  intro s l hs hl
  refine VC.of_acall (by simp [isDL, isD, Zq]) rfl (ACall.of_body bd (by simp) ?_)
  simp (maxSteps := 4000000) (disch := omega) only [rr, aop, cV, cV1, AV.one, Qb, okW, Qd, app, Qa, Qc, Qf, Qe, Qg, simprocAttr, Z6, bs]
  refine QJ.by (ι := Nat) (fun k => ⟨[(5, .int .i64 k), (1, .list l.length (u8 l)), (0, .int .u32 (QkK s (l.take k)))], []⟩) (fun k => k ≤ l.length) (fun k => l.length - k) 0 (Le.slots (by simp [Am.look, QkK])) (by omega) ?_
  intro k hk
  have hc := QgD (l := l.take k) hs
  by_cases hlt : k < l.length
  · have e1 := QaR hlt
    have hn := Qmi (s := s) hlt
    have h2 := hB (QkK s (l.take k)) (l[k]).toNat hc (l[k]).toNat_lt
    rw [← hn] at h2
    simp (maxSteps := 4000000) (disch := omega) only [rr, aop, cV, cV1, AV.one, Qb, okW, Qd, app, Qa, Qc, Qf, Qe, Qg, simprocAttr, e1]
    refine Qh.vc h2 ?_
    simp (maxSteps := 4000000) (disch := omega) only [rr, aop, cV, cV1, AV.one, Qb, okW, Qd, app, Qa, Qc, Qf, Qe, Qg, simprocAttr]
    exact ⟨k + 1, by omega, by omega, Le.slots (by simp [Am.look])⟩
  · have ek : k = l.length := by omega
    subst ek
    rw [List.take_length]
    simp (maxSteps := 4000000) (disch := omega) only [rr, aop, cV, cV1, AV.one, Qb, okW, Qd, app, Qa, Qc, Qf, Qe, Qg, simprocAttr]

def Qt5 (P : Prg) (f : Nat) : Prop := ∀ (l : List UInt8), l.length ≤ 1000000 → VC P f [bs l] (.int .u32 ((4294967295 - QkK 4294967295 l : Nat) : Int))
theorem QuQ {P : Prg} {f fB : Nat} (bd : Qj P f 6 [.tmp 2] (JC fB)) (hB : Qhj P fB) : Qt5 P f := by
  intro l hl
  refine VC.of_acall (by simp [isDL, isD, Zq]) rfl (ACall.of_body bd (by simp) ?_)
  have h := hB 4294967295 l (by decide) hl
  have hc := QgD (l := l) (s := 4294967295) (by decide)
  simp only [bs] at h
  generalize QkK 4294967295 l = c at *
  have e1 : ((4294967295 - c : Nat) : Int) = 4294967295 - c := by omega
  simp (maxSteps := 4000000) (disch := omega) only [rr, aop, cV, cV1, AV.one, Qb, okW, Qd, app, Qa, Qc, Qf, Qe, Qg, simprocAttr, JC, bs]
  refine Qh.vc h ?_
  simp (maxSteps := 4000000) (disch := omega) only [rr, aop, cV, cV1, AV.one, Qb, okW, Qd, app, Qa, Qc, Qf, Qe, Qg, simprocAttr, e1]

end Go.Am

namespace Go.Am
open Go.RowKit

/-! ### Bits as a Qfx: N bits, whose Qfx is V; their bytes are leB V (nB N) -/

def nB (N : Nat) : Nat := (N + 7) / 8

theorem Qu2 (V i : Nat) : leB V (i + 1) = leB V i ++ [UInt8.ofNat (V / 256 ^ i % 256)] := by
  have h1 : (leB V (i + 1)).take (i + 1) = (leB V (i + 1)).take i ++ [UInt8.ofNat (V / 256 ^ i % 256)] := QbD (by omega)
  have h2 : ∀ k j n : Nat, k ≤ j → (leB n j).take k = leB n k := by
    intro k
    induction k with
    | zero => intro j n _; simp [leB]
    | succ k ih =>
      intro j n h
      obtain ⟨j, rfl⟩ : ∃ j', j = j' + 1 := ⟨j - 1, by omega⟩
      simp [leB, ih j (n / 256) (by omega)]
  rw [h2 (i + 1) (i + 1) V (by omega), h2 i (i + 1) V (by omega)] at h1
  exact h1

theorem QsO : ∀ (i V u : Nat), leB (V + 256 ^ i * u) i = leB V i
  | 0, _, _ => rfl
  | i + 1, V, u => by
    have e : 256 ^ (i + 1) * u = 256 * (256 ^ i * u) := by rw [Nat.pow_succ, Nat.mul_comm (256 ^ i) 256, Nat.mul_assoc]
    have e1 : (V + 256 ^ (i + 1) * u) % 256 = V % 256 := by rw [e]; omega
    have e2 : (V + 256 ^ (i + 1) * u) / 256 = V / 256 + 256 ^ i * u := by rw [e]; omega
    simp only [leB, e1, e2, QsO i]

theorem Qsx (i : Nat) : (256 : Nat) ^ i = 2 ^ (8 * i) := by rw [Nat.pow_mul]

theorem QaE {V i at_ : Nat} (h : V < 2 ^ (8 * i + at_)) (ha : at_ ≤ 8) : leB V (i + 1) = leB V i ++ [UInt8.ofNat (V / 256 ^ i)] ∧ V / 256 ^ i < 2 ^ at_ := by
  have h1 : V / 256 ^ i < 2 ^ at_ := Nat.div_lt_of_lt_mul (by rw [Qsx, ← Nat.pow_add]; exact h)
  have h2 : 2 ^ at_ ≤ 2 ^ 8 := Nat.pow_le_pow_right (by omega) ha
  exact ⟨by rw [Qu2, Nat.mod_eq_of_lt (by omega)], h1⟩

theorem JQ {V i at_ w r : Nat} (h : V < 2 ^ (8 * i + at_)) (hw : w < 2 ^ r) (hr : at_ + r ≤ 8) :
    leB (V + 2 ^ (8 * i + at_) * w) (i + 1) = leB V i ++ [UInt8.ofNat (V / 256 ^ i + 2 ^ at_ * w)] ∧ V / 256 ^ i + 2 ^ at_ * w < 2 ^ (at_ + r) ∧ V + 2 ^ (8 * i + at_) * w < 2 ^ (8 * i + (at_ + r)) := by
  obtain ⟨_, h1⟩ := QaE h (by omega)
  have e : 2 ^ (8 * i + at_) * w = 256 ^ i * (2 ^ at_ * w) := by rw [Qsx, Nat.pow_add, Nat.mul_assoc]
  have h2 : V / 256 ^ i + 2 ^ at_ * w < 2 ^ (at_ + r) := by
    have : 2 ^ at_ * (w + 1) ≤ 2 ^ at_ * 2 ^ r := Nat.mul_le_mul_left _ hw
    rw [Nat.pow_add]; rw [Nat.mul_add, Nat.mul_one] at this; omega
  have h3 : V + 2 ^ (8 * i + at_) * w < 2 ^ (8 * i + (at_ + r)) := by
    have : 2 ^ (8 * i + at_) * (w + 1) ≤ 2 ^ (8 * i + at_) * 2 ^ r := Nat.mul_le_mul_left _ hw
    rw [← Nat.add_assoc, Nat.pow_add 2 (8 * i + at_)]; rw [Nat.mul_add, Nat.mul_one] at this; omega
  refine ⟨?_, h2, h3⟩
  have h4 := (QaE (V := V + 2 ^ (8 * i + at_) * w) (i := i) (at_ := at_ + r) h3 hr).1
  rw [h4, e, QsO, Nat.add_mul_div_left _ _ (Nat.pow_pos (by omega))]

theorem QvC (V q r : Nat) (hr : r < 8) : V / 256 ^ q % 256 / 2 ^ r % 2 = V / 2 ^ (8 * q + r) % 2 := by
  rw [Qsx, show (256 : Nat) = 2 ^ r * 2 ^ (8 - r) by rw [← Nat.pow_add, show r + (8 - r) = 8 by omega], Nat.mod_mul_right_div_self, Nat.div_div_eq_div_mul, ← Nat.pow_add]
  rw [Nat.mod_mod_of_dvd]
  exact ⟨2 ^ (8 - r - 1), by rw [← Nat.pow_succ']; congr 1; omega⟩

end Go.Am

namespace Go.Am
open Go.RowKit

/-! ### Bits: Check, get, Get -/

def bA (N V : Nat) : AV := .agg [.list (nB N) (u8 (leB V (nB N))), .int .i64 N]
theorem Qdm (N V : Nat) : isD (bA N V) = true := by simp [bA, isD, isDL, Qgq]

theorem QpP {n : Nat} (h : n < 9223372036854775808) : IntKind.i64.wrap (BitVec.ofInt IntKind.i64.bits (n : Int) &&& BitVec.ofInt IntKind.i64.bits 7).toNat = ((n % 8 : Nat) : Int) := by
  have e1 : (BitVec.ofInt 64 (n : Int)).toNat = n := by
    rw [BitVec.toNat_ofInt]
    show ((n : Int) % 18446744073709551616).toNat = n
    omega
  have e2 : (BitVec.ofInt 64 7).toNat = 7 := by decide
  have : (BitVec.ofInt 64 (n : Int) &&& BitVec.ofInt 64 7).toNat = n % 8 := by
    rw [BitVec.toNat_and, e1, e2]
    exact Nat.and_two_pow_sub_one_eq_mod n 3
  show IntKind.i64.wrap ((BitVec.ofInt 64 (n : Int) &&& BitVec.ofInt 64 7).toNat : Int) = _
  rw [this, QaP] <;> omega

theorem QwO {l : List UInt8} {k : Nat} (h : k < l.length) : (u8 l).drop k = .int .u8 (l[k]).toNat :: u8 (l.drop (k + 1)) := by
  rw [QrG, List.drop_eq_getElem_cons h]; rfl

theorem QsP {V k i : Nat} (h : i < k) : (u8 (leB V k)).drop i = .int .u8 ((V / 256 ^ i % 256 : Nat) : Int) :: u8 ((leB V k).drop (i + 1)) := by
  rw [QwO (by rw [Qi]; exact h)]
  have := QnR k V i h
  rw [List.getElem?_eq_getElem (by rw [Qi]; exact h)] at this
  rw [Option.some.inj this]
  have : (UInt8.ofNat (V / 256 ^ i % 256)).toNat = V / 256 ^ i % 256 := by simp
  rw [this]

def QcP (P : Prg) (f : Nat) : Prop := ∀ N V : Nat, V < 2 ^ N → N ≤ 330000 → VC P f [bA N V] (.int .i64 0)
theorem Qrd {P : Prg} {f t0 : Nat} (bd : Qj P f 40 [.tmp 2] (Qap t0)) : QcP P f := by
  intro N V hV hN
  refine VC.of_acall (by simp [isDL, Qdm]) rfl (ACall.of_body bd (by simp) ?_)
  have e1 : Qs false .i64 ((N : Int) + 7) 3 = some (.int .i64 ((nB N : Nat) : Int)) := by
    rw [show (N : Int) + 7 = ((N + 7 : Nat) : Int) by omega]
    exact Qi8 (K := .i64) (n := N + 7) (k := 3) (by decide)
  have e2 := QpP (n := N) (by omega)
  have e3 : (u8 (leB V (nB N))).length = nB N := by simp [u8, Qi]
  by_cases h0 : N % 8 = 0
  · rw [h0] at e2
    have e2' : IntKind.i64.wrap (BitVec.ofInt IntKind.i64.bits (N : Int) &&& BitVec.ofInt IntKind.i64.bits 7).toNat = 0 := e2
    simp (maxSteps := 4000000) (disch := omega) only [rr, aop, cV, cV1, AV.one, Qb, okW, Qd, app, Qa, Qc, Qf, Qe, Qg, simprocAttr, Qap, bA, e1, e2', e3]
  · have hn : nB N = N / 8 + 1 := by unfold nB; omega
    have h8 : N = 8 * (N / 8) + N % 8 := by omega
    obtain ⟨l1, l2⟩ := QaE (V := V) (i := N / 8) (at_ := N % 8) (by rw [← h8]; exact hV) (by omega)
    have e4 := QsP (V := V) (k := nB N) (i := N / 8) (by omega)
    have h256 : V / 256 ^ (N / 8) % 256 = V / 256 ^ (N / 8) := Nat.mod_eq_of_lt (by
      have : 2 ^ (N % 8) ≤ 2 ^ 8 := Nat.pow_le_pow_right (by omega) (by omega)
      omega)
    rw [h256] at e4
    have e5 : Qs false .u8 ((V / 256 ^ (N / 8) : Nat) : Int) ((N % 8 : Nat) : Int) = some (.int .u8 0) := by
      have := Qi8 (K := .u8) (n := V / 256 ^ (N / 8)) (k := N % 8) (by show N % 8 ≤ 8; omega)
      rw [this, Nat.div_eq_of_lt l2]; rfl
    have e6 : nB N - 1 = N / 8 := by omega
    have hq : ((N % 8 : Nat) : Int) = (N : Int) % 8 := by omega
    generalize V / 256 ^ (N / 8) = y at *
    obtain ⟨a, ha⟩ : ∃ a, a = N % 8 := ⟨_, rfl⟩
    rw [← ha] at e2 e5 hq
    simp (maxSteps := 4000000) (disch := omega) only [rr, aop, cV, cV1, AV.one, Qb, okW, Qd, app, Qa, Qc, Qf, Qe, Qg, simprocAttr, Qap, bA, e1, e2, e3, e4, e5, e6]

end Go.Am

namespace Go.Am
open Go.RowKit

/-! ### The state of the code with two levels -/

structure Dl where
  k0 : Nat
  k1 : Nat
  s0 : Nat
  s1 : Nat
def dlC (d : Dl) : List AV := [.int .i64 d.k0, .int .i64 d.k1, .int .u64 d.s0, .int .u64 d.s1]
def dlA (d : Dl) : AV := .agg (dlC d)
def okD (d : Dl) : Prop := d.k0 ≤ 24 ∧ d.k1 ≤ 24 ∧ d.s0 ≤ 68719476735 ∧ d.s1 ≤ 68719476735
def QH : Dl := ⟨10, 10, 16384, 16384⟩
def QaJ (k s n : Nat) : Nat × Nat :=
  if 0 < k ∧ s + n - s / 16 < 2 ^ (k + 4) then (k - 1, s + n - s / 16) else if k < 24 ∧ 2 ^ (k + 5) < s + n - s / 16 then (k + 1, s + n - s / 16) else (k, s + n - s / 16)
def XS (d : Dl) (v : Nat) : Dl :=
  if v < 2 ^ d.k0 then ⟨(QaJ d.k0 d.s0 v).1, d.k1, (QaJ d.k0 d.s0 v).2, d.s1⟩
  else ⟨(QaJ d.k0 d.s0 v).1, (QaJ d.k1 d.s1 (v - 2 ^ d.k0)).1, (QaJ d.k0 d.s0 v).2, (QaJ d.k1 d.s1 (v - 2 ^ d.k0)).2⟩

theorem QnM {k s n : Nat} (hk : k ≤ 24) (hs : s ≤ 68719476735) (hn : n < 4294967296) : (QaJ k s n).1 ≤ 24 ∧ (QaJ k s n).2 ≤ 68719476735 := by
  unfold QaJ
  have ht : s + n - s / 16 ≤ 68719476735 := by omega
  generalize s + n - s / 16 = t at *
  split
  · exact ⟨by simp only; omega, ht⟩
  · split
    · rename_i h; exact ⟨by have := h.1; simp only; omega, ht⟩
    · exact ⟨hk, ht⟩
theorem Qu0 {d : Dl} {v : Nat} (h : okD d) (hv : v < 4294967296) : okD (XS d v) := by
  obtain ⟨h1, h2, h3, h4⟩ := h
  have p0 := QnM h1 h3 hv
  have p1 := QnM (n := v - 2 ^ d.k0) h2 h4 (Nat.lt_of_le_of_lt (Nat.sub_le _ _) hv)
  unfold XS
  split
  · exact ⟨p0.1, h2, p0.2, h4⟩
  · exact ⟨p0.1, p1.1, p0.2, p1.2⟩
theorem Quv : okD QH := by unfold okD QH; decide
theorem QnU (d : Dl) : isD (dlA d) = true := rfl

def Qcy (P : Prg) (f : Nat) : Prop := ∀ k : Nat, k ≤ 40 → VC P f [.int .i64 k] (.int .u64 ((2 ^ k : Nat) : Int))
theorem QnL {P : Prg} {f : Nat} (bd : Qj P f 13 [.tmp 2] Xw) : Qcy P f := by
  intro k hk
  refine VC.of_acall rfl rfl (ACall.of_body bd (by simp) ?_)
  simp (maxSteps := 4000000) (disch := omega) only [rr, aop, cV, cV1, AV.one, Qb, okW, Qd, app, Qa, Qc, Qf, Qe, Qg, simprocAttr, Xw]
  refine QJ.by (ι := Nat) (fun i => ⟨[(4, .int .i64 i), (3, .int .u64 ((2 ^ i : Nat) : Int)), (0, .int .i64 k)], []⟩) (fun i => i ≤ k) (fun i => k - i) 0 (Le.slots (by simp [Am.look])) (by omega) ?_
  intro i hi
  by_cases hlt : i < k
  · have h1 : 2 ^ i ≤ 2 ^ 40 := Nat.pow_le_pow_right (by omega) (by omega)
    have h2 : 2 ^ (i + 1) = 2 ^ i * 2 := Nat.pow_succ 2 i
    generalize 2 ^ i = p at *
    simp (maxSteps := 4000000) (disch := omega) only [rr, aop, cV, cV1, AV.one, Qb, okW, Qd, app, Qa, Qc, Qf, Qe, Qg, simprocAttr]
    exact ⟨i + 1, by omega, by omega, Le.slots (by simp [Am.look, h2])⟩
  · obtain rfl : i = k := by omega
    generalize 2 ^ i = p at *
    simp (maxSteps := 4000000) (disch := omega) only [rr, aop, cV, cV1, AV.one, Qb, okW, Qd, app, Qa, Qc, Qf, Qe, Qg, simprocAttr]

theorem p24 {k : Nat} (h : k ≤ 24) : 2 ^ k ≤ 16777216 ∧ 2 ^ (k + 4) = 16 * 2 ^ k ∧ 2 ^ (k + 5) = 32 * 2 ^ k := by
  have := Nat.pow_le_pow_right (n := 2) (by omega) h
  refine ⟨by simpa using this, ?_, ?_⟩ <;> rw [Nat.pow_add, Nat.mul_comm]

def Qcx (P : Prg) (f : Nat) : Prop := VC P f [] (dlA QH)
theorem QqX {P : Prg} {f t0 : Nat} (bd : Qj P f 2 [.cell 0 t0] (QbO t0)) (ht : Q4 P t0 = some (some 4)) : Qcx P f := by
  refine VC.of_acall rfl rfl (ACall.of_body bd (by simp) ?_)
  simp (maxSteps := 4000000) (disch := omega) only [rr, aop, cV, cV1, AV.one, Qb, okW, Qd, app, Qa, Qc, Qf, Qe, Qg, simprocAttr, QbO, ZK, ht, Zk, dlA, dlC, QH]
  try rfl
theorem QnK {P : Prg} {f t0 : Nat} (bd : Qj P f 2 [.cell 0 t0] (Xv t0)) (ht : Q4 P t0 = some (some 4)) : Qcx P f := by
  refine VC.of_acall rfl rfl (ACall.of_body bd (by simp) ?_)
  simp (maxSteps := 4000000) (disch := omega) only [rr, aop, cV, cV1, AV.one, Qb, okW, Qd, app, Qa, Qc, Qf, Qe, Qg, simprocAttr, Xv, ZK, ht, Zk, dlA, dlC, QH]
  try rfl

def QkC (P : Prg) (f : Nat) : Prop := ∀ d : Dl, okD d → VC P f [dlA d] (.int .i64 0)
theorem QqY {P : Prg} {f t0 : Nat} (bd : Qj P f 26 [.tmp 2] (QbP t0)) : QkC P f := by
  intro d h
  obtain ⟨k0, k1, s0, s1⟩ := d
  obtain ⟨h1, h2, h3, h4⟩ := h
  simp only at h1 h2 h3 h4
  refine VC.of_acall rfl rfl (ACall.of_cut 1 bd (by simp) ?_)
  simp (maxSteps := 4000000) (disch := omega) only [rr, aop, cV, cV1, AV.one, Qb, okW, Qd, app, Qa, Qc, Qf, Qe, Qg, simprocAttr, QbP, dlA, dlC, Qcf]
  refine ⟨⟨[(2, .int .i64 0), (1, .cell [.int .i64 k0, .int .i64 k1, .int .u64 s0, .int .u64 s1])], []⟩, Le.dropT [] (by simp) (by simp [Am.look, QS, frzL, QN]), ?_⟩
  simp (maxSteps := 4000000) (disch := omega) only [rr, aop, cV, cV1, AV.one, Qb, okW, Qd, app, Qa, Qc, Qf, Qe, Qg, simprocAttr]

def QpQ (P : Prg) (f : Nat) : Prop := ∀ (d : Dl) (v : Nat), okD d → v < 4294967296 → VC P f [dlA d, .int .u32 v] (.bool (decide (v < 2 ^ d.k0)))
theorem Qsm {P : Prg} {f fP t0 : Nat} (bd : Qj P f 11 [.tmp 4] (Jd fP t0)) (hP : Qcy P fP) : QpQ P f := by
  intro d v h hv
  obtain ⟨k0, k1, s0, s1⟩ := d
  obtain ⟨h1, h2, h3, h4⟩ := h
  simp only at h1 h2 h3 h4
  refine VC.of_acall rfl rfl (ACall.of_body bd (by simp) ?_)
  have hP' := hP k0 (by omega)
  generalize 2 ^ k0 = p at *
  have e1 : decide ((v : Int) < (p : Int)) = decide (v < p) := by simp
  simp (maxSteps := 4000000) (disch := omega) only [rr, aop, cV, cV1, AV.one, Qb, okW, Qd, app, Qa, Qc, Qf, Qe, Qg, simprocAttr, Jd, dlA, dlC]
  refine Qh.vc hP' ?_
  simp (maxSteps := 4000000) (disch := omega) only [rr, aop, cV, cV1, AV.one, Qb, okW, Qd, app, Qa, Qc, Qf, Qe, Qg, simprocAttr, e1]

def Qku (P : Prg) (f : Nat) : Prop := ∀ (d : Dl) (v : Nat), okD d → v < 4294967296 → 2 ^ d.k0 ≤ v → VC P f [dlA d, .int .u32 v] (.int .u32 ((v - 2 ^ d.k0 : Nat) : Int))
theorem Qqy {P : Prg} {f fP t0 : Nat} (bd : Qj P f 12 [.tmp 4] (XM fP t0)) (hP : Qcy P fP) : Qku P f := by
  intro d v h hv hle
  obtain ⟨k0, k1, s0, s1⟩ := d
  obtain ⟨h1, h2, h3, h4⟩ := h
  simp only at h1 h2 h3 h4 hle
  refine VC.of_acall rfl rfl (ACall.of_body bd (by simp) ?_)
  have hP' := hP k0 (by omega)
  generalize 2 ^ k0 = p at *
  have e1 : ((v - p : Nat) : Int) = (v : Int) - p := by omega
  simp (maxSteps := 4000000) (disch := omega) only [rr, aop, cV, cV1, AV.one, Qb, okW, Qd, app, Qa, Qc, Qf, Qe, Qg, simprocAttr, XM, dlA, dlC]
  refine Qh.vc hP' ?_
  simp (maxSteps := 4000000) (disch := omega) only [rr, aop, cV, cV1, AV.one, Qb, okW, Qd, app, Qa, Qc, Qf, Qe, Qg, simprocAttr, e1]

def QoG (P : Prg) (f : Nat) : Prop := ∀ k s n : Nat, k ≤ 24 → s ≤ 68719476735 → n < 4294967296 → VC P f [.int .i64 k, .int .u64 s, .int .u64 n] (.tup [.int .i64 (QaJ k s n).1, .int .u64 (QaJ k s n).2])
theorem Qqx {P : Prg} {f fP : Nat} (bd : Qj P f 40 [.tmp 6, .tmp 7] (Qx fP)) (hP : Qcy P fP) : QoG P f := by
  intro k s n hk hs hn
  refine VC.of_acall rfl rfl (ACall.of_body bd (by simp) ?_)
  have hP1 : VC P fP [.int .i64 ((k : Int) + 4)] (.int .u64 ((2 ^ (k + 4) : Nat) : Int)) := hP (k + 4) (by omega)
  have hP2 : VC P fP [.int .i64 ((k : Int) + 5)] (.int .u64 ((2 ^ (k + 5) : Nat) : Int)) := hP (k + 5) (by omega)
  obtain ⟨q1, q2, q3⟩ := p24 hk
  obtain ⟨t, ht⟩ : ∃ t, t = s + n - s / 16 := ⟨_, rfl⟩
  have e1 : (s : Int) + n - (s : Int) / 16 = (t : Int) := by omega
  have e2 : QaJ k s n = if 0 < k ∧ t < 2 ^ (k + 4) then (k - 1, t) else if k < 24 ∧ 2 ^ (k + 5) < t then (k + 1, t) else (k, t) := by rw [QaJ, ← ht]
  rw [e2]
  generalize 2 ^ (k + 4) = p4 at *
  generalize 2 ^ (k + 5) = p5 at *
  by_cases c1 : 0 < k
  · by_cases c2 : t < p4
    · rw [if_pos ⟨c1, c2⟩]
      have e5 : ((k - 1 : Nat) : Int) = (k : Int) - 1 := by omega
      simp (maxSteps := 4000000) (disch := omega) only [rr, aop, cV, cV1, AV.one, Qb, okW, Qd, app, Qa, Qc, Qf, Qe, Qg, simprocAttr, Qx, e1]
      refine Qh.vc hP1 ?_
      simp (maxSteps := 4000000) (disch := omega) only [rr, aop, cV, cV1, AV.one, Qb, okW, Qd, app, Qa, Qc, Qf, Qe, Qg, simprocAttr, e5]
    · rw [if_neg (fun h => c2 h.2)]
      by_cases c3 : k < 24
      · by_cases c4 : p5 < t
        · rw [if_pos ⟨c3, c4⟩]
          simp (maxSteps := 4000000) (disch := omega) only [rr, aop, cV, cV1, AV.one, Qb, okW, Qd, app, Qa, Qc, Qf, Qe, Qg, simprocAttr, Qx, e1]
          refine Qh.vc hP1 ?_
          simp (maxSteps := 4000000) (disch := omega) only [rr, aop, cV, cV1, AV.one, Qb, okW, Qd, app, Qa, Qc, Qf, Qe, Qg, simprocAttr]
          refine Qh.vc hP2 ?_
          simp (maxSteps := 4000000) (disch := omega) only [rr, aop, cV, cV1, AV.one, Qb, okW, Qd, app, Qa, Qc, Qf, Qe, Qg, simprocAttr]
        · rw [if_neg (fun h => c4 h.2)]
          simp (maxSteps := 4000000) (disch := omega) only [rr, aop, cV, cV1, AV.one, Qb, okW, Qd, app, Qa, Qc, Qf, Qe, Qg, simprocAttr, Qx, e1]
          refine Qh.vc hP1 ?_
          simp (maxSteps := 4000000) (disch := omega) only [rr, aop, cV, cV1, AV.one, Qb, okW, Qd, app, Qa, Qc, Qf, Qe, Qg, simprocAttr]
          refine Qh.vc hP2 ?_
          simp (maxSteps := 4000000) (disch := omega) only [rr, aop, cV, cV1, AV.one, Qb, okW, Qd, app, Qa, Qc, Qf, Qe, Qg, simprocAttr]
      · rw [if_neg (fun h => c3 h.1)]
        simp (maxSteps := 4000000) (disch := omega) only [rr, aop, cV, cV1, AV.one, Qb, okW, Qd, app, Qa, Qc, Qf, Qe, Qg, simprocAttr, Qx, e1]
        refine Qh.vc hP1 ?_
        simp (maxSteps := 4000000) (disch := omega) only [rr, aop, cV, cV1, AV.one, Qb, okW, Qd, app, Qa, Qc, Qf, Qe, Qg, simprocAttr]
  · rw [if_neg (fun h => c1 h.1)]
    obtain rfl : k = 0 := by omega
    by_cases c4 : p5 < t
    · rw [if_pos ⟨by omega, c4⟩]
      simp (maxSteps := 4000000) (disch := omega) only [rr, aop, cV, cV1, AV.one, Qb, okW, Qd, app, Qa, Qc, Qf, Qe, Qg, simprocAttr, Qx, e1]
      refine Qh.vc hP2 ?_
      simp (maxSteps := 4000000) (disch := omega) only [rr, aop, cV, cV1, AV.one, Qb, okW, Qd, app, Qa, Qc, Qf, Qe, Qg, simprocAttr]
    · rw [if_neg (fun h => c4 h.2)]
      simp (maxSteps := 4000000) (disch := omega) only [rr, aop, cV, cV1, AV.one, Qb, okW, Qd, app, Qa, Qc, Qf, Qe, Qg, simprocAttr, Qx, e1]
      refine Qh.vc hP2 ?_
      simp (maxSteps := 4000000) (disch := omega) only [rr, aop, cV, cV1, AV.one, Qb, okW, Qd, app, Qa, Qc, Qf, Qe, Qg, simprocAttr]

def Qkv (P : Prg) (f : Nat) : Prop := ∀ (d : Dl) (v : Nat), okD d → v < 4294967296 → VC P f [dlA d, .int .u32 v] (dlA (XS d v))
theorem QlL {P : Prg} {f fL fF fP t0 : Nat} (bd : Qj P f 38 [.cell 4 t0] (Zj fL fF fP t0)) (hL : QpQ P fL) (hF : Qku P fF) (hP : QoG P fP) (ht : Q4 P t0 = some (some 4)) : Qkv P f := by
  intro d v h hv
  have hL' := hL d v h hv
  have hF' := hF d v h hv
  obtain ⟨k0, k1, s0, s1⟩ := d
  obtain ⟨h1, h2, h3, h4⟩ := h
  simp only at h1 h2 h3 h4
  have hP0 := hP k0 s0 v h1 h3 hv
  have hP1 := hP k1 s1 (v - 2 ^ k0) h2 h4 (Nat.lt_of_le_of_lt (Nat.sub_le _ _) hv)
  refine VC.of_acall rfl rfl (ACall.of_body bd (by simp) ?_)
  unfold XS
  simp only [dlA, dlC] at hL' hF' ⊢
  by_cases c : v < 2 ^ k0
  · rw [if_pos c]
    simp only [c, decide_true] at hL'
    simp (maxSteps := 4000000) (disch := omega) only [rr, aop, cV, cV1, AV.one, Qb, okW, Qd, app, Qa, Qc, Qf, Qe, Qg, simprocAttr, Zj, dlA, dlC]
    refine Qh.vc hL' ?_
    simp (maxSteps := 4000000) (disch := omega) only [rr, aop, cV, cV1, AV.one, Qb, okW, Qd, app, Qa, Qc, Qf, Qe, Qg, simprocAttr]
    refine Qh.vc hP0 ?_
    simp (maxSteps := 4000000) (disch := omega) only [rr, aop, cV, cV1, AV.one, Qb, okW, Qd, app, Qa, Qc, Qf, Qe, Qg, simprocAttr, ZK, ht, Zk]
  · rw [if_neg c]
    simp only [c, decide_false] at hL'
    have hF'' := hF' (by omega)
    generalize 2 ^ k0 = p at *
    simp (maxSteps := 4000000) (disch := omega) only [rr, aop, cV, cV1, AV.one, Qb, okW, Qd, app, Qa, Qc, Qf, Qe, Qg, simprocAttr, Zj, dlA, dlC]
    refine Qh.vc hL' ?_
    simp (maxSteps := 4000000) (disch := omega) only [rr, aop, cV, cV1, AV.one, Qb, okW, Qd, app, Qa, Qc, Qf, Qe, Qg, simprocAttr]
    refine Q2.vc hF'' ?_
    simp (maxSteps := 4000000) (disch := omega) only [rr, aop, cV, cV1, AV.one, Qb, okW, Qd, app, Qa, Qc, Qf, Qe, Qg, simprocAttr]
    refine Q2.vc hP1 ?_
    simp (maxSteps := 4000000) (disch := omega) only [rr, aop, cV, cV1, AV.one, Qb, okW, Qd, app, Qa, Qc, Qf, Qe, Qg, simprocAttr]
    refine Qh.vc hP0 ?_
    simp (maxSteps := 4000000) (disch := omega) only [rr, aop, cV, cV1, AV.one, Qb, okW, Qd, app, Qa, Qc, Qf, Qe, Qg, simprocAttr, ZK, ht, Zk]

def Qg8 (P : Prg) (f : Nat) : Prop := ∀ (d : Dl) (v : Nat), okD d → v < 4294967296 → VC P f [dlA d, .int .u32 v] (if v < 2 ^ d.k0 then .tup [.int .i64 0, .int .u32 v] else .tup [.int .i64 1, .int .u32 ((v - 2 ^ d.k0 : Nat) : Int)])
theorem QqU {P : Prg} {f t0 : Nat} (bd : Qj P f 17 [.tmp 4, .tmp 5] (Qal t0)) : Qg8 P f := by
  intro d v h hv
  obtain ⟨k0, k1, s0, s1⟩ := d
  obtain ⟨h1, h2, h3, h4⟩ := h
  simp only at h1 h2 h3 h4
  refine VC.of_acall rfl (by simp only; split <;> rfl) (ACall.of_body bd (by simp) ?_)
  have e1 : Qs false .u32 (v : Int) (k0 : Int) = some (.int .u32 ((v / 2 ^ k0 : Nat) : Int)) := Qi8 (K := .u32) (by show k0 ≤ 32; omega)
  obtain ⟨q1, _⟩ := p24 h1
  have e2 : Qs true .u32 1 (k0 : Int) = some (.int .u32 ((2 ^ k0 : Nat) : Int)) := by
    have := Qr5 (K := .u32) rfl (c := 1) (s := k0) (by show k0 ≤ 32; omega) (by show 1 * 2 ^ k0 < 4294967296; omega)
    rw [Nat.one_mul] at this
    exact this
  simp only
  by_cases c : v < 2 ^ k0
  · rw [if_pos c]
    rw [Nat.div_eq_of_lt c] at e1
    have e1' : Qs false .u32 (v : Int) (k0 : Int) = some (.int .u32 0) := e1
    simp (maxSteps := 4000000) (disch := omega) only [rr, aop, cV, cV1, AV.one, Qb, okW, Qd, app, Qa, Qc, Qf, Qe, Qg, simprocAttr, Qal, dlA, dlC, e1']
  · rw [if_neg c]
    have hpos : 0 < v / 2 ^ k0 := Nat.div_pos (by omega) (Nat.pow_pos (by omega))
    have hle : v / 2 ^ k0 ≤ v := Nat.div_le_self _ _
    have e3 : ((v - 2 ^ k0 : Nat) : Int) = (v : Int) - ((2 ^ k0 : Nat) : Int) := by omega
    generalize v / 2 ^ k0 = w at *
    generalize 2 ^ k0 = p at *
    simp (maxSteps := 4000000) (disch := omega) only [rr, aop, cV, cV1, AV.one, Qb, okW, Qd, app, Qa, Qc, Qf, Qe, Qg, simprocAttr, Qal, dlA, dlC, e1, e2, e3]

theorem QeY {P : Prg} {f : Nat} (bd : Qj P f 58 [] Qr) {ob : List Ob} {p : Nat} {t : Nat} {d : Dl} (hp : ob[p]? = some ⟨t, 4, 1, dlC d, 0⟩) (hd : okD d) {n : Nat} (hn : n < 4294967296) (b : Bool) {K : AV → List Ob → Prop}
    (hK : K (.tup []) (ob.set p ⟨t, 4, 1, dlC (if b then ⟨d.k0, (QaJ d.k1 d.s1 n).1, d.s0, (QaJ d.k1 d.s1 n).2⟩ else ⟨(QaJ d.k0 d.s0 n).1, d.k1, (QaJ d.k0 d.s0 n).2, d.s1⟩), 0⟩)) :
    ACall P f [.ref p 1 (if b then 1 else 0), .ref p 1 (if b then 3 else 2), .int .u32 n] ob K := by
  have hpl : p < ob.length := (List.getElem?_eq_some_iff.1 hp).1
  have g1 : ∀ x, (ob.set p x)[p]? = some x := fun x => by simp [hpl]
  have g2 : ∀ x y, (ob.set p x).set p y = ob.set p y := fun x y => List.set_set _
  have key : ∀ k s : Nat, k ≤ 24 → s ≤ 68719476735 → ∃ t p4 p5 : Nat, t ≤ 68719476735 ∧ IntKind.u64.wrap ((s : Int) + IntKind.u64.wrap ((n : Int) - ((s / 16 : Nat) : Int))) = (t : Int) ∧ Qs false .u64 (s : Int) 4 = some (.int .u64 ((s / 16 : Nat) : Int)) ∧
      Qs true .u64 16 (k : Int) = some (.int .u64 (p4 : Int)) ∧ Qs true .u64 32 (k : Int) = some (.int .u64 (p5 : Int)) ∧
      Qs true .u64 16 (k : Int) = some (.int .u64 (p4 : Int)) ∧ QaJ k s n = if 0 < k ∧ t < p4 then (k - 1, t) else if k < 24 ∧ p5 < t then (k + 1, t) else (k, t) := by
    intro k s hk hs
    obtain ⟨q1, q2, q3⟩ := p24 hk
    refine ⟨s + n - s / 16, 2 ^ (k + 4), 2 ^ (k + 5), by omega, ?_, Qi8 (K := .u64) (k := 4) (by decide), ?_, ?_, ?_, rfl⟩
    · rw [ZH, ZH]; omega
    · rw [q2]; exact Qr5 (K := .u64) rfl (c := 16) (by show k ≤ 64; omega) (by show 16 * 2 ^ k < 18446744073709551616; omega)
    · rw [q3]; exact Qr5 (K := .u64) rfl (c := 32) (by show k ≤ 64; omega) (by show 32 * 2 ^ k < 18446744073709551616; omega)
    · rw [q2]; exact Qr5 (K := .u64) rfl (c := 16) (by show k ≤ 64; omega) (by show 16 * 2 ^ k < 18446744073709551616; omega)
  obtain ⟨k0, k1, s0, s1⟩ := d
  obtain ⟨h1, h2, h3, h4⟩ := hd
  simp only at h1 h2 h3 h4
  refine ACall.of_body bd (by simp) ?_
  simp only [dlC] at hp hK
  cases b with
  | false =>
    obtain ⟨u, p4, p5, hu, e1, e2, e3, e4, _, e5⟩ := key k0 s0 h1 h3
    simp only [e5, Bool.false_eq_true, if_false] at hK ⊢
    by_cases c1 : 0 < k0
    · by_cases c2 : u < p4
      · rw [if_pos ⟨c1, c2⟩] at hK
        have e6 : ((k0 - 1 : Nat) : Int) = (k0 : Int) - 1 := by omega
        simp only [e6] at hK
        simp (maxSteps := 4000000) (disch := omega) only [rr, aop, cV, cV1, AV.one, Qb, okW, Qd, app, Qa, Qc, Qf, Qe, Qg, simprocAttr, Qr, hp, g1, g2, e1, e2, e3, e4, e6]
        exact hK
      · rw [if_neg (fun h => c2 h.2)] at hK
        by_cases c3 : k0 < 24
        · by_cases c4 : p5 < u
          · rw [if_pos ⟨c3, c4⟩] at hK
            simp only [Int.natCast_add] at hK
            simp (maxSteps := 4000000) (disch := omega) only [rr, aop, cV, cV1, AV.one, Qb, okW, Qd, app, Qa, Qc, Qf, Qe, Qg, simprocAttr, Qr, hp, g1, g2, e1, e2, e3, e4]
            exact hK
          · rw [if_neg (fun h => c4 h.2)] at hK
            simp (maxSteps := 4000000) (disch := omega) only [rr, aop, cV, cV1, AV.one, Qb, okW, Qd, app, Qa, Qc, Qf, Qe, Qg, simprocAttr, Qr, hp, g1, g2, e1, e2, e3, e4]
            exact hK
        · rw [if_neg (fun h => c3 h.1)] at hK
          simp (maxSteps := 4000000) (disch := omega) only [rr, aop, cV, cV1, AV.one, Qb, okW, Qd, app, Qa, Qc, Qf, Qe, Qg, simprocAttr, Qr, hp, g1, g2, e1, e2, e3, e4]
          exact hK
    · rw [if_neg (fun h => c1 h.1)] at hK
      by_cases c4 : p5 < u
      · rw [if_pos ⟨by omega, c4⟩] at hK
        simp only [Int.natCast_add] at hK
        simp (maxSteps := 4000000) (disch := omega) only [rr, aop, cV, cV1, AV.one, Qb, okW, Qd, app, Qa, Qc, Qf, Qe, Qg, simprocAttr, Qr, hp, g1, g2, e1, e2, e3, e4]
        exact hK
      · rw [if_neg (fun h => c4 h.2)] at hK
        simp (maxSteps := 4000000) (disch := omega) only [rr, aop, cV, cV1, AV.one, Qb, okW, Qd, app, Qa, Qc, Qf, Qe, Qg, simprocAttr, Qr, hp, g1, g2, e1, e2, e3, e4]
        exact hK
  | true =>
    obtain ⟨u, p4, p5, hu, e1, e2, e3, e4, _, e5⟩ := key k1 s1 h2 h4
    simp only [e5, if_true] at hK ⊢
    by_cases c1 : 0 < k1
    · by_cases c2 : u < p4
      · rw [if_pos ⟨c1, c2⟩] at hK
        have e6 : ((k1 - 1 : Nat) : Int) = (k1 : Int) - 1 := by omega
        simp only [e6] at hK
        simp (maxSteps := 4000000) (disch := omega) only [rr, aop, cV, cV1, AV.one, Qb, okW, Qd, app, Qa, Qc, Qf, Qe, Qg, simprocAttr, Qr, hp, g1, g2, e1, e2, e3, e4, e6]
        exact hK
      · rw [if_neg (fun h => c2 h.2)] at hK
        by_cases c3 : k1 < 24
        · by_cases c4 : p5 < u
          · rw [if_pos ⟨c3, c4⟩] at hK
            simp only [Int.natCast_add] at hK
            simp (maxSteps := 4000000) (disch := omega) only [rr, aop, cV, cV1, AV.one, Qb, okW, Qd, app, Qa, Qc, Qf, Qe, Qg, simprocAttr, Qr, hp, g1, g2, e1, e2, e3, e4]
            exact hK
          · rw [if_neg (fun h => c4 h.2)] at hK
            simp (maxSteps := 4000000) (disch := omega) only [rr, aop, cV, cV1, AV.one, Qb, okW, Qd, app, Qa, Qc, Qf, Qe, Qg, simprocAttr, Qr, hp, g1, g2, e1, e2, e3, e4]
            exact hK
        · rw [if_neg (fun h => c3 h.1)] at hK
          simp (maxSteps := 4000000) (disch := omega) only [rr, aop, cV, cV1, AV.one, Qb, okW, Qd, app, Qa, Qc, Qf, Qe, Qg, simprocAttr, Qr, hp, g1, g2, e1, e2, e3, e4]
          exact hK
    · rw [if_neg (fun h => c1 h.1)] at hK
      by_cases c4 : p5 < u
      · rw [if_pos ⟨by omega, c4⟩] at hK
        simp only [Int.natCast_add] at hK
        simp (maxSteps := 4000000) (disch := omega) only [rr, aop, cV, cV1, AV.one, Qb, okW, Qd, app, Qa, Qc, Qf, Qe, Qg, simprocAttr, Qr, hp, g1, g2, e1, e2, e3, e4]
        exact hK
      · rw [if_neg (fun h => c4 h.2)] at hK
        simp (maxSteps := 4000000) (disch := omega) only [rr, aop, cV, cV1, AV.one, Qb, okW, Qd, app, Qa, Qc, Qf, Qe, Qg, simprocAttr, Qr, hp, g1, g2, e1, e2, e3, e4]
        exact hK

end Go.Am

namespace Go.Am
open Go.RowKit

/-! ### Bits are put behind bits -/

def bO (t o N : Nat) : Ob := ⟨t, 2, 1, [.own o (nB N), .int .i64 N], 0⟩
def bY (t N V : Nat) : Ob := ⟨t, 1, nB N, u8 (leB V (nB N)), 0⟩

theorem Zx (V n : Nat) : isDL (u8 (leB V n)) = true := Qgq _
theorem Low.put {ob : List Ob} (h : Low ob.length ob) {t t0 o p N V N' : Nat} (ho : o < ob.length) : Low ob.length (JG ob o p (bY t0 N V) (bO t o N')) := by
  unfold JG
  refine (h.set ?_).set ?_
  · exact lowL_D _ (Zx _ _)
  · simp [bO, lowL, XB, ho]
theorem Low.drop {ob : List Ob} (h : Low ob.length ob) {t t0 o p N V : Nat} (ho : o < ob.length) {M : Nat} (hM : M ≤ ob.length) {J : List Ob} {fr fr' : List (Nat × AV)}
    (hfr : ∀ q ∈ fr', q.2 = .any ∨ (q.2 = Am.look fr q.1 ∧ XB ob.length q.2 = true)) :
    Le M ⟨fr, JG ob o p (bY t0 N V) (bO t o N) ++ J⟩ ⟨fr', JG ob o p (bY t0 N V) (bO t o N)⟩ := by
  have hl : (JG ob o p (bY t0 N V) (bO t o N)).length = ob.length := Zp
  refine Le.low (by omega) (by rw [hl]; exact h.put ho) ?_
  rw [hl]
  exact hfr

theorem Qxz {V N v j r : Nat} : V + 2 ^ N * (v % 2 ^ (j + r)) = V + 2 ^ N * (v % 2 ^ j) + 2 ^ (N + j) * (v / 2 ^ j % 2 ^ r) := by
  rw [Nat.pow_add, Nat.mod_mul, Nat.mul_add, Nat.pow_add, Nat.mul_assoc, Nat.add_assoc]

set_option maxHeartbeats 1000000 in
theorem Qvk {P : Prg} {f t0 t : Nat} (bd : Qj P f 75 [] (QbS t0)) {ob : List Ob} {p o N V v n : Nat} (hp : ob[p]? = some (bO t o N)) (ho : ob[o]? = some (bY t0 N V)) (hpo : p ≠ o) (hV : V < 2 ^ N) (hv : v < 2 ^ n) (hn : n ≤ 64) (hN : N + n ≤ 400000) (hfz : Low ob.length ob)
    {K : AV → List Ob → Prop} (hK : K (.tup []) (JG ob o p (bY t0 (N + n) (V + 2 ^ N * v)) (bO t o (N + n)))) : ACall P f [.ref p 1 0, .int .u64 v, .int .i64 n] ob K := by
  have hol : o < ob.length := (List.getElem?_eq_some_iff.1 ho).1
  have hpl : p < ob.length := (List.getElem?_eq_some_iff.1 hp).1
  refine ACall.of_body bd (by simp) ?_
  have g0 : ∀ x y J, (JG ob o p x y ++ J)[p]? = some y := fun x y J => by rw [List.getElem?_append_left (by rw [Zp]; exact hpl)]; exact Qnb hpl
  have g1 : ∀ x y J, (JG ob o p x y ++ J)[o]? = some x := fun x y J => by rw [List.getElem?_append_left (by rw [Zp]; exact hol)]; exact Qnc hol hpo
  have g2 : ∀ x y J y', (JG ob o p x y ++ J).set p y' = JG ob o p x y' ++ J := fun x y J y' => by rw [List.set_append_left _ _ (by rw [Zp]; exact hpl), QrD]
  have g3 : ∀ x y J x', (JG ob o p x y ++ J).set o x' = JG ob o p x' y ++ J := fun x y J x' => by rw [List.set_append_left _ _ (by rw [Zp]; exact hol), QrE hpo]
  have g4 : ∀ x y j, (JG ob o p x y ++ [j])[ob.length]? = some j := fun x y j => by rw [List.getElem?_append_right (by rw [Zp]; exact Nat.le_refl _), Zp, Nat.sub_self]; rfl
  have gp : ∀ x y, (JG ob o p x y)[p]? = some y := fun x y => Qnb hpl
  have go : ∀ x y, (JG ob o p x y)[o]? = some x := fun x y => Qnc hol hpo
  have sp : ∀ x y y', (JG ob o p x y).set p y' = JG ob o p x y' := fun x y y' => QrD
  have so : ∀ x y x', (JG ob o p x y).set o x' = JG ob o p x' y := fun x y x' => QrE hpo
  have ln : ∀ x y, (JG ob o p x y).length = ob.length := fun x y => Zp
  simp (maxSteps := 4000000) (disch := omega) only [rr, aop, cV, cV1, AV.one, Qb, okW, Qd, app, Qa, Qc, Qf, Qe, Qg, simprocAttr, QbS]
  refine QJ.by (ι := Nat) (fun j => ⟨[(2, .int .i64 ((n - j : Nat) : Int)), (1, .int .u64 ((v / 2 ^ j : Nat) : Int)), (0, .ref p 1 0)], JG ob o p (bY t0 (N + j) (V + 2 ^ N * (v % 2 ^ j))) (bO t o (N + j))⟩) (fun j => j ≤ n) (fun j => n - j) 0 ?_ (by omega) ?_
  · have : JG ob o p (bY t0 (N + 0) (V + 2 ^ N * (v % 2 ^ 0))) (bO t o (N + 0)) = ob := by
      rw [Nat.add_zero, Nat.pow_zero, Nat.mod_one, Nat.mul_zero, Nat.add_zero]
      exact Qlm ho hp hpo
    rw [this]
    exact Le.slots (by simp [Am.look])
  intro j hj
  by_cases hlt : j < n
  · obtain ⟨M, hM⟩ : ∃ M, M = N + j := ⟨_, rfl⟩
    obtain ⟨i, hi⟩ : ∃ i, i = M / 8 := ⟨_, rfl⟩
    obtain ⟨a, ha⟩ : ∃ a, a = M % 8 := ⟨_, rfl⟩
    obtain ⟨r, hr⟩ : ∃ r, r = min (n - j) (8 - a) := ⟨_, rfl⟩
    have hM8 : M = 8 * i + a := by omega
    have hW : V + 2 ^ N * (v % 2 ^ j) < 2 ^ M := by
      have h1 : v % 2 ^ j < 2 ^ j := Nat.mod_lt _ (Nat.pow_pos (by omega))
      have h2 : 2 ^ N * (v % 2 ^ j + 1) ≤ 2 ^ N * 2 ^ j := Nat.mul_le_mul_left _ h1
      rw [hM, Nat.pow_add]; rw [Nat.mul_add, Nat.mul_one] at h2; omega
    have hstep := Qxz (V := V) (N := N) (v := v) (j := j) (r := r)
    rw [← hM] at hstep ⊢
    have hx : v / 2 ^ j < 18446744073709551616 := by
      have h1 : v / 2 ^ j ≤ v := Nat.div_le_self _ _
      have h2 : 2 ^ n ≤ 2 ^ 64 := Nat.pow_le_pow_right (by omega) hn
      omega
    have hxr : v / 2 ^ (j + r) = v / 2 ^ j / 2 ^ r := by rw [Nat.pow_add, Nat.div_div_eq_div_mul]
    generalize V + 2 ^ N * (v % 2 ^ j) = W at *
    generalize hWW : V + 2 ^ N * (v % 2 ^ (j + r)) = W' at *
    generalize hxx : v / 2 ^ j = x at *
    have h2r : 2 ^ r ≤ 2 ^ 8 := Nat.pow_le_pow_right (by omega) (by omega)
    have h2a : 2 ^ a * 2 ^ r ≤ 2 ^ 8 := by rw [← Nat.pow_add]; exact Nat.pow_le_pow_right (by omega) (by omega)
    have hpos : 0 < 2 ^ r := Nat.pow_pos (by omega)
    have hc : x % 2 ^ r < 2 ^ r := Nat.mod_lt _ hpos
    obtain ⟨l1, l2⟩ := QaE (V := W) (i := i) (at_ := a) (by rw [← hM8]; exact hW) (by omega)
    obtain ⟨b1, b2, _⟩ := JQ (V := W) (i := i) (at_ := a) (w := x % 2 ^ r) (r := r) (by rw [← hM8]; exact hW) hc (by omega)
    rw [← hM8, ← hstep] at b1
    have hyb : W / 256 ^ i < 256 := by
      have : 2 ^ a ≤ 2 ^ 8 := Nat.pow_le_pow_right (by omega) (by omega)
      omega
    have hyb2 : W / 256 ^ i + 2 ^ a * (x % 2 ^ r) < 256 := by
      have : 2 ^ (a + r) ≤ 2 ^ 8 := Nat.pow_le_pow_right (by omega) (by omega)
      omega
    have hca : x % 2 ^ r * 2 ^ a < 2 ^ 8 := by
      rw [Nat.mul_comm]
      exact Nat.lt_of_lt_of_le (Nat.mul_lt_mul_of_pos_left hc (Nat.pow_pos (by omega))) h2a
    have hu : ∀ y, y < 256 → u8 [UInt8.ofNat y] = [.int .u8 (y : Int)] := fun y hy => by simp [u8]; omega
    have e8 : IntKind.u8.wrap (BitVec.ofInt IntKind.u8.bits ((W / 256 ^ i : Nat) : Int) ||| BitVec.ofInt IntKind.u8.bits ((x % 2 ^ r * 2 ^ a : Nat) : Int)).toNat = ((W / 256 ^ i + 2 ^ a * (x % 2 ^ r) : Nat) : Int) := by
      rw [orK (K := .u8) rfl hyb hca, Qvr l2, Nat.mul_comm]
    have e7 : Qs true .u8 ((x % 2 ^ r : Nat) : Int) (a : Int) = some (.int .u8 ((x % 2 ^ r * 2 ^ a : Nat) : Int)) := Qr5 rfl (by show a ≤ 8; omega) hca
    have e6 : IntKind.u8.wrap ((x % 2 ^ r : Nat) : Int) = ((x % 2 ^ r : Nat) : Int) := by rw [X5]; omega
    have e5 : IntKind.u64.wrap (BitVec.ofInt IntKind.u64.bits (x : Int) &&& BitVec.ofInt IntKind.u64.bits ((2 ^ r - 1 : Nat) : Int)).toNat = ((x % 2 ^ r : Nat) : Int) := by
      rw [QtS _ _ hx (by omega), Nat.and_two_pow_sub_one_eq_mod]
    have e4 : IntKind.u64.wrap (((2 ^ r : Nat) : Int) - 1) = ((2 ^ r - 1 : Nat) : Int) := by rw [ZH]; omega
    have e3 : Qs true .u64 1 (r : Int) = some (.int .u64 ((2 ^ r : Nat) : Int)) := by
      have := Qr5 (K := .u64) rfl (c := 1) (s := r) (by show r ≤ 64; omega) (by show 1 * 2 ^ r < 18446744073709551616; omega)
      rw [Nat.one_mul] at this
      exact this
    have e9 : Qs false .u64 (x : Int) (r : Int) = some (.int .u64 ((x / 2 ^ r : Nat) : Int)) := Qi8 (K := .u64) (by show r ≤ 64; omega)
    have e1 := QpP (n := M) (by omega)
    rw [← ha] at e1
    have e2 : (if (8 : Int) - a < ((n - j : Nat) : Int) then (8 : Int) - a else ((n - j : Nat) : Int)) = (r : Int) := by split <;> omega
    have hnB : nB (M + r) = i + 1 := by unfold nB; omega
    have hcell : u8 (leB W' (i + 1)) = u8 (leB W i) ++ [.int .u8 ((W / 256 ^ i + 2 ^ a * (x % 2 ^ r) : Nat) : Int)] := by
      rw [b1, show u8 (leB W i ++ [UInt8.ofNat (W / 256 ^ i + 2 ^ a * (x % 2 ^ r))]) = u8 (leB W i) ++ u8 [UInt8.ofNat (W / 256 ^ i + 2 ^ a * (x % 2 ^ r))] by simp [u8]]
      rw [hu _ hyb2]
    have hlen : (u8 (leB W i)).length = i := by simp [u8, Qi]
    rw [← hxr] at e9
    generalize W / 256 ^ i + 2 ^ a * (x % 2 ^ r) = y' at *
    generalize x % 2 ^ r * 2 ^ a = ca at *
    generalize x % 2 ^ r = c at *
    generalize 2 ^ r - 1 = mk at *
    generalize 2 ^ r = pr at *
    have d1 : ∀ z : AV, (u8 (leB W i) ++ [z]).drop i = [z] := fun z => by rw [List.drop_left' hlen]
    have d2 : ∀ z : AV, (u8 (leB W i) ++ [z]).take i = u8 (leB W i) := fun z => by rw [List.take_left' hlen]
    have d3 : ∀ z : AV, (u8 (leB W i) ++ [z]).drop (i + 1) = [] := fun z => List.drop_of_length_le (by simp [hlen])
    have jr : n - j - r = n - (j + r) := by omega
    have el : (⟨t0, 1, i + 1, u8 (leB W i) ++ [.int .u8 (y' : Int)], 0⟩ : Ob) = bY t0 (M + r) W' := by rw [bY, hnB, hcell]
    have er : (⟨t, 2, 1, [.own o (i + 1), .int .i64 ((M : Int) + r)], 0⟩ : Ob) = bO t o (M + r) := by rw [bO, hnB, Int.natCast_add]
    have hMr : N + (j + r) = M + r := by omega
    have e10 : ((n - j : Nat) : Int) - r = ((n - (j + r) : Nat) : Int) := by omega
    have e11 : (M : Int) + r = ((M + r : Nat) : Int) := by omega
    by_cases h0 : a = 0
    · subst h0
      have hnM : nB M = i := by unfold nB; omega
      have hW0 : W / 256 ^ i = 0 := by
        have := l2
        rw [Nat.pow_zero] at this
        exact Nat.lt_one_iff.1 this
      rw [hW0] at e8
      have e8' : IntKind.u8.wrap (BitVec.ofInt IntKind.u8.bits 0 ||| BitVec.ofInt IntKind.u8.bits (ca : Int)).toNat = (y' : Int) := e8
      have e1' : IntKind.i64.wrap (BitVec.ofInt IntKind.i64.bits (M : Int) &&& BitVec.ofInt IntKind.i64.bits 7).toNat = 0 := e1
      have e2' : (if (8 : Int) < ((n - j : Nat) : Int) then (8 : Int) else ((n - j : Nat) : Int)) = (r : Int) := by split <;> omega
      have e12 : i + 1 - 1 = i := by omega
      have e7' : Qs true .u8 (c : Int) 0 = some (.int .u8 (ca : Int)) := e7
      have e13 : (i : Int) + 1 - 1 = i := by omega
      simp (maxSteps := 4000000) (disch := omega) only [rr, aop, cV, cV1, AV.one, Qb, okW, Qd, app, Qa, Qc, Qf, Qe, Qg, simprocAttr, e2', e12, e13, bO, bY, gp, go, sp, so, ln, g0, g1, g2, g3, g4, hnM, hlen, e1', e2, e3, e4, e5, e6, e7', e8', e9, d1, d2, d3]
      refine ⟨j + r, by omega, by omega, ?_⟩
      show Le ob.length _ ⟨[(2, .int .i64 ((n - (j + r) : Nat) : Int)), (1, .int .u64 ((v / 2 ^ (j + r) : Nat) : Int)), (0, .ref p 1 0)], JG ob o p (bY t0 (N + (j + r)) (V + 2 ^ N * (v % 2 ^ (j + r)))) (bO t o (N + (j + r)))⟩
      rw [hWW, hMr, el, er]
      exact hfz.drop hol (Nat.le_refl _) (by simp [Am.look, XB, hpl, e10])
    · have hnM : nB M = i + 1 := by unfold nB; omega
      have l3 : u8 (leB W (i + 1)) = u8 (leB W i) ++ [.int .u8 ((W / 256 ^ i : Nat) : Int)] := by
        rw [l1, show u8 (leB W i ++ [UInt8.ofNat (W / 256 ^ i)]) = u8 (leB W i) ++ u8 [UInt8.ofNat (W / 256 ^ i)] by simp [u8], hu _ hyb]
      have e12 : i + 1 - 1 = i := by omega
      have e13 : (i : Int) + 1 - 1 = i := by omega
      have ha0 : (a : Int) ≠ 0 := by omega
      generalize W / 256 ^ i = y at *
      simp (maxSteps := 4000000) (disch := omega) only [rr, aop, cV, cV1, AV.one, Qb, okW, Qd, app, Qa, Qc, Qf, Qe, Qg, simprocAttr, e12, e13, bO, bY, gp, go, sp, so, ln, hnM, hlen, l3, e1, e2, e3, e4, e5, e6, e7, e8, e9, d1, d2, d3]
      refine ⟨j + r, by omega, by omega, ?_⟩
      show Le ob.length _ ⟨[(2, .int .i64 ((n - (j + r) : Nat) : Int)), (1, .int .u64 ((v / 2 ^ (j + r) : Nat) : Int)), (0, .ref p 1 0)], JG ob o p (bY t0 (N + (j + r)) (V + 2 ^ N * (v % 2 ^ (j + r)))) (bO t o (N + (j + r)))⟩
      rw [hWW, hMr, el, er]
      exact Le.slots (by simp [Am.look, e10])
  · obtain rfl : j = n := by omega
    rw [Nat.mod_eq_of_lt hv]
    simp (maxSteps := 4000000) (disch := omega) only [rr, aop, cV, cV1, AV.one, Qb, okW, Qd, app, Qa, Qc, Qf, Qe, Qg, simprocAttr]
    exact hK

end Go.Am

namespace Go.Am
open Go.RowKit

/-! ### Codes are read -/

theorem QqV {P : Prg} {f f1 fL t : Nat} (bd : Qj P f 36 [] (Jw f1 fL)) (b1 : Qj P f1 58 [] Qr) (hL : Qg8 P fL) {ob : List Ob} {p : Nat} {d : Dl} (hp : ob[p]? = some ⟨t, 4, 1, dlC d, 0⟩) (hd : okD d) {v : Nat} (hv : v < 4294967296) {K : AV → List Ob → Prop}
    (hK : K (.tup []) (ob.set p ⟨t, 4, 1, dlC (XS d v), 0⟩)) : ACall P f [.ref p 1 0, .int .u32 v] ob K := by
  have hpl : p < ob.length := (List.getElem?_eq_some_iff.1 hp).1
  have hL' := hL d v hd hv
  have nph : ∀ cs, (⟨t, 4, 1, cs, 0⟩ : Ob) ≠ ph := fun cs e => by have := congrArg Ob.sz e; simp [ph] at this
  refine ACall.of_body bd (by simp) ?_
  unfold XS at hK
  have hp0 := hp
  obtain ⟨k0, k1, s0, s1⟩ := d
  simp only [dlC] at hp
  simp only [dlA, dlC] at hL' hK
  by_cases c : v < 2 ^ k0
  · rw [if_pos c] at hL' hK
    simp (maxSteps := 4000000) (disch := omega) only [rr, aop, cV, cV1, AV.one, Qb, okW, Qd, app, Qa, Qc, Qf, Qe, Qg, simprocAttr, Jw, hp]
    refine Qh.vc hL' ?_
    simp (maxSteps := 4000000) (disch := omega) only [rr, aop, cV, cV1, AV.one, Qb, okW, Qd, app, Qa, Qc, Qf, Qe, Qg, simprocAttr, hp]
    refine callE.by hp0 (nph _) (fun K hK => QeY b1 hp0 hd hv false hK) ?_
    simp (maxSteps := 4000000) (disch := omega) only [rr, aop, cV, cV1, AV.one, Qb, okW, Qd, app, Qa, Qc, Qf, Qe, Qg, simprocAttr]
    exact hK
  · rw [if_neg c] at hL' hK
    have hv2 : v - 2 ^ k0 < 4294967296 := Nat.lt_of_le_of_lt (Nat.sub_le _ _) hv
    obtain ⟨h1, h2, h3, h4⟩ := hd
    have pk := QnM h2 h4 hv2
    simp only at h1 h2 h3 h4 pk
    generalize v - 2 ^ k0 = w at *
    simp (maxSteps := 4000000) (disch := omega) only [rr, aop, cV, cV1, AV.one, Qb, okW, Qd, app, Qa, Qc, Qf, Qe, Qg, simprocAttr, Jw, hp]
    refine Qh.vc hL' ?_
    simp (maxSteps := 4000000) (disch := omega) only [rr, aop, cV, cV1, AV.one, Qb, okW, Qd, app, Qa, Qc, Qf, Qe, Qg, simprocAttr, hp]
    refine callE.by hp0 (nph _) (fun K hK => QeY b1 hp0 ⟨h1, h2, h3, h4⟩ hv2 true hK) ?_
    have hp1 : (ob.set p ⟨t, 4, 1, dlC ⟨k0, (QaJ k1 s1 w).1, s0, (QaJ k1 s1 w).2⟩, 0⟩)[p]? = some ⟨t, 4, 1, dlC ⟨k0, (QaJ k1 s1 w).1, s0, (QaJ k1 s1 w).2⟩, 0⟩ := by simp [hpl]
    have hp2 := hp1
    simp only [dlC] at hp2
    simp (maxSteps := 4000000) (disch := omega) only [rr, aop, cV, cV1, AV.one, Qb, okW, Qd, app, Qa, Qc, Qf, Qe, Qg, simprocAttr, dlC, hp2]
    refine callE.by hp1 (nph _) (fun K hK => QeY b1 hp1 ⟨h1, pk.1, h3, pk.2⟩ hv false hK) ?_
    rw [List.set_set]
    simp (maxSteps := 4000000) (disch := omega) only [rr, aop, cV, cV1, AV.one, Qb, okW, Qd, app, Qa, Qc, Qf, Qe, Qg, simprocAttr]
    exact hK

theorem QlC {P : Prg} {f : Nat} (bd : Qj P f 9 [.tmp 4] Jt) {v k : Nat} (hk : k ≤ 24) (hv : v < 4294967296) : VC P f [.int .u32 v, .int .i64 k] (.bool (decide (48 ≤ v / 2 ^ k))) := by
  refine VC.of_acall rfl rfl (ACall.of_body bd (by simp) ?_)
  have e1 : Qs false .u32 (v : Int) (k : Int) = some (.int .u32 ((v / 2 ^ k : Nat) : Int)) := Qi8 (K := .u32) (by show k ≤ 32; omega)
  generalize v / 2 ^ k = w at *
  have e2 : decide ((48 : Int) ≤ (w : Int)) = decide (48 ≤ w) := decide_eq_decide.2 (by omega)
  simp (maxSteps := 4000000) (disch := omega) only [rr, aop, cV, cV1, AV.one, Qb, okW, Qd, app, Qa, Qc, Qf, Qe, Qg, simprocAttr, Jt, e1, e2]
def QwG (P : Prg) (f : Nat) : Prop := ∀ v k : Nat, k ≤ 24 → v < 4294967296 → VC P f [.int .u32 v, .int .i64 k] (.bool (decide (48 ≤ v / 2 ^ k)))
theorem QuK {P : Prg} {f : Nat} (bd : Qj P f 9 [.tmp 4] Jt) : QwG P f := by
  exact fun _ _ h1 h2 => QlC bd h1 h2

def Qks (P : Prg) (f : Nat) : Prop := ∀ v k : Nat, k ≤ 24 → v < 4294967296 → VC P f [.int .u32 v, .int .i64 k] (.int .i64 (min 48 (v / 2 ^ k) : Nat))
theorem Qqz {P : Prg} {f fP : Nat} (bd : Qj P f 12 [.tmp 4] (XN fP)) (hP : Qcy P fP) : Qks P f := by
  intro v k hk hv
  refine VC.of_acall rfl rfl (ACall.of_body bd (by simp) ?_)
  have hP' := hP k (by omega)
  obtain ⟨pk, _⟩ := p24 hk
  have hp : 0 < 2 ^ k := Nat.pow_pos (by omega)
  have hd : v / 2 ^ k ≤ v := Nat.div_le_self _ _
  have e1 : ((v : Int)) / ((2 ^ k : Nat) : Int) = ((v / 2 ^ k : Nat) : Int) := by simp [Int.natCast_ediv]
  have e0 : ((v : Int)).tdiv ((2 ^ k : Nat) : Int) = ((v / 2 ^ k : Nat) : Int) := by rw [Int.tdiv_eq_ediv_of_nonneg (by omega), e1]
  generalize v / 2 ^ k = w at *
  generalize 2 ^ k = p at *
  obtain ⟨m, hm⟩ : ∃ m, m = min 48 w := ⟨_, rfl⟩
  rw [← hm]
  have e2 : (if (w : Int) < 48 then (w : Int) else 48) = (m : Int) := by split <;> omega
  have e3 : (p : Int) ≠ 0 := by omega
  simp (maxSteps := 4000000) (disch := omega) only [rr, aop, cV, cV1, AV.one, Qb, okW, Qd, app, Qa, Qc, Qf, Qe, Qg, simprocAttr, XN]
  refine Qh.vc hP' ?_
  simp (maxSteps := 4000000) (disch := omega) only [rr, aop, cV, cV1, AV.one, Qb, okW, Qd, app, Qa, Qc, Qf, Qe, Qg, simprocAttr, e0, e1, e2, e3]

end Go.Am

namespace Go.Am
open Go.RowKit

/-! ### Bits one by one: the reference -/

set_option maxHeartbeats 2000000 in
theorem Qsq {P : Prg} {f t0 t1 : Nat} (bd : Qj P f 43 [.cell 4 t0] (Qo t0 t1)) (ht : Q4 P t0 = some (some 2)) {ob : List Ob} {o N V b : Nat} (ho : ob[o]? = some (bY t1 N V)) (hV : V < 2 ^ N) (hb : b < 2) (hN : N ≤ 400000)
    (hfz : Low ob.length ob) {K : AV → List Ob → Prop}
    (hK : K (.agg [.own o (nB (N + 1)), .int .i64 ((N + 1 : Nat) : Int)]) (ob.set o (bY t1 (N + 1) (V + 2 ^ N * b)))) : ACall P f [.agg [.own o (nB N), .int .i64 N], .int .i64 b] ob K := by
  have hol : o < ob.length := (List.getElem?_eq_some_iff.1 ho).1
  refine ACall.low ?_
  refine ACall.of_body bd (by simp) ?_
  have s1 : ∀ J y, (ob ++ J).set o y = ob.set o y ++ J := fun J y => List.set_append_left _ _ hol
  have s2 : ∀ x J y, (ob.set o x ++ J).set o y = ob.set o y ++ J := fun x J y => by rw [List.set_append_left _ _ (by simpa using hol), List.set_set]
  have g1 : ∀ J, (ob ++ J)[o]? = some (bY t1 N V) := fun J => by rw [List.getElem?_append_left hol]; exact ho
  have g2 : ∀ x J, (ob.set o x ++ J)[o]? = some x := fun x J => by rw [List.getElem?_append_left (by simpa using hol)]; simp [hol]
  have g3 : ∀ x (J : List Ob), (ob.set o x ++ J)[ob.length]? = J[0]? := fun x J => by rw [List.getElem?_append_right (by simp), List.length_set, Nat.sub_self]
  have g4 : ∀ x (J : List Ob), (ob.set o x ++ J)[ob.length + 1]? = J[1]? := fun x J => by rw [List.getElem?_append_right (by simp), List.length_set, Nat.add_sub_cancel_left]
  have g3' : ∀ (J : List Ob), (ob ++ J)[ob.length]? = J[0]? := fun J => by rw [List.getElem?_append_right (Nat.le_refl _), Nat.sub_self]
  have g4' : ∀ (J : List Ob), (ob ++ J)[ob.length + 1]? = J[1]? := fun J => by rw [List.getElem?_append_right (by omega), Nat.add_sub_cancel_left]
  have g5' : ∀ (J : List Ob), (ob ++ J)[ob.length + 2]? = J[2]? := fun J => by rw [List.getElem?_append_right (by omega), Nat.add_sub_cancel_left]
  have g5 : ∀ x (J : List Ob), (ob.set o x ++ J)[ob.length + 2]? = J[2]? := fun x J => by rw [List.getElem?_append_right (by simp), List.length_set, Nat.add_sub_cancel_left]
  have t3 : ∀ (x : Ob) (J : List Ob) y, (ob.set o x ++ J).set ob.length y = ob.set o x ++ J.set 0 y := fun x J y => by rw [List.set_append_right _ _ (by simp), List.length_set, Nat.sub_self]
  have t4 : ∀ (x : Ob) (J : List Ob) y, (ob.set o x ++ J).set (ob.length + 1) y = ob.set o x ++ J.set 1 y := fun x J y => by rw [List.set_append_right _ _ (by simp), List.length_set, Nat.add_sub_cancel_left]
  have t3' : ∀ (J : List Ob) y, (ob ++ J).set ob.length y = ob ++ J.set 0 y := fun J y => by rw [List.set_append_right _ _ (by simp), Nat.sub_self]
  have e2 : (N : Int) % 8 = ((N % 8 : Nat) : Int) := by omega
  have fin : ∀ J : List Ob, ∃ ob' J', ob.set o (bY t1 (N + 1) (V + 2 ^ N * b)) ++ J = ob' ++ J' ∧ ob.length ≤ ob'.length ∧ Low ob'.length ob' ∧ XB ob'.length (.agg [.own o (nB (N + 1)), .int .i64 ((N + 1 : Nat) : Int)]) = true ∧ K (.agg [.own o (nB (N + 1)), .int .i64 ((N + 1 : Nat) : Int)]) ob' := by
    intro J
    refine ⟨_, J, rfl, by simp, ?_, by simp [XB, lowL, hol], hK⟩
    rw [List.length_set]
    exact hfz.set (lowL_D _ (Zx _ _))
  obtain ⟨i, hi⟩ : ∃ i, i = N / 8 := ⟨_, rfl⟩
  obtain ⟨a, ha⟩ : ∃ a, a = N % 8 := ⟨_, rfl⟩
  have hN8 : N = 8 * i + a := by omega
  rw [← ha] at e2
  have e3 : (N : Int) / 8 = (i : Int) := by omega
  obtain ⟨l1, l2⟩ := QaE (V := V) (i := i) (at_ := a) (by rw [← hN8]; exact hV) (by omega)
  obtain ⟨b1, b2, _⟩ := JQ (V := V) (i := i) (at_ := a) (w := b) (r := 1) (by rw [← hN8]; exact hV) (by omega) (by omega)
  rw [← hN8] at b1
  have h2a : 2 ^ a ≤ 2 ^ 7 := Nat.pow_le_pow_right (by omega) (by omega)
  have h2a1 : 2 ^ (a + 1) ≤ 2 ^ 8 := Nat.pow_le_pow_right (by omega) (by omega)
  have hba : b * 2 ^ a = 2 ^ a * b := Nat.mul_comm _ _
  have hbl : 2 ^ a * b ≤ 2 ^ 7 := by
    rcases (by omega : b = 0 ∨ b = 1) with rfl | rfl
    · simp
    · rw [Nat.mul_one]; exact h2a
  have hu : ∀ y, y < 256 → u8 [UInt8.ofNat y] = [.int .u8 (y : Int)] := fun y hy => by simp [u8]; omega
  have hnB : nB (N + 1) = i + 1 := by unfold nB; omega
  have hlen : (u8 (leB V i)).length = i := by simp [u8, Qi]
  have hcell : u8 (leB (V + 2 ^ N * b) (i + 1)) = u8 (leB V i) ++ [.int .u8 ((V / 256 ^ i + 2 ^ a * b : Nat) : Int)] := by
    rw [b1, show u8 (leB V i ++ [UInt8.ofNat (V / 256 ^ i + 2 ^ a * b)]) = u8 (leB V i) ++ u8 [UInt8.ofNat (V / 256 ^ i + 2 ^ a * b)] by simp [u8], hu _ (by omega)]
  have hyb : V / 256 ^ i < 256 := by
    have : 2 ^ a ≤ 2 ^ 8 := Nat.pow_le_pow_right (by omega) (by omega)
    omega
  have hybb : V / 256 ^ i + 2 ^ a * b < 256 := by omega
  have d1 : ∀ z : AV, (u8 (leB V i) ++ [z]).drop i = [z] := fun z => by rw [List.drop_left' hlen]
  have d2 : ∀ z : AV, (u8 (leB V i) ++ [z]).take i = u8 (leB V i) := fun z => by rw [List.take_left' hlen]
  have d3 : ∀ z : AV, (u8 (leB V i) ++ [z]).drop (i + 1) = [] := fun z => List.drop_of_length_le (by simp [hlen])
  have hby : bY t1 (N + 1) (V + 2 ^ N * b) = ⟨t1, 1, i + 1, u8 (leB V i) ++ [.int .u8 ((V / 256 ^ i + 2 ^ a * b : Nat) : Int)], 0⟩ := by rw [bY, hnB, hcell]
  rw [hby, hnB] at fin
  have hp1 : 0 < 2 ^ a := Nat.pow_pos (by omega)
  by_cases h0 : a = 0
  · have hnN : nB N = i := by unfold nB; omega
    have hy0 : V / 256 ^ i = 0 := by
      have := l2
      rw [h0, Nat.pow_zero] at this
      exact Nat.lt_one_iff.1 this
    rw [hy0, Nat.zero_add] at fin hybb
    subst h0
    have e2' : (N : Int) % 8 = 0 := e2
    have fin := fun J => fin J
    rw [Nat.pow_zero, Nat.one_mul] at fin
    simp (maxSteps := 4000000) (disch := omega) only [rr, aop, cV, cV1, AV.one, Qb, okW, Qd, app, Qa, Qc, Qf, Qe, Qg, simprocAttr, Qo, g3', g4', g5', g2, g3, g4, g5, s2, t3, t4, t3', e2', g1, s1, bY, List.append_assoc, List.cons_append, List.nil_append, hnN, hlen]
    refine QJ.by (ι := Nat) (fun k => ⟨[(6, .int .i64 0), (5, .int .i64 1), (4, .ref (ob.length + 1) 1 0), (2, .ref ob.length 1 0), (1, .int .i64 b)],
      ob.set o ⟨t1, 1, i + 1, u8 (leB V i) ++ [.int .u8 0], 0⟩ ++ [⟨t0, 2, 1, [.own o (i + 1), .int .i64 N], 0⟩, ⟨t0, 2, 1, [.emp true, .int .i64 0], 0⟩, ⟨t1, 1, 1, [.int .u8 0], 0⟩]⟩) (fun k => k = 0) (fun k => 0) 0 (Le.slots (by simp [Am.look])) rfl ?_
    intro k hk
    have e10 : (b : Int) * 1 = b := by omega
    simp (maxSteps := 4000000) (disch := omega) only [rr, aop, cV, cV1, AV.one, Qb, okW, Qd, app, Qa, Qc, Qf, Qe, Qg, simprocAttr, Int.zero_add, g2, g3, g4, g5, s2, t3, t4, e2', e3, e10, d1, d2, d3, hlen, ZK, ht, Zk, List.set_cons_zero, List.set_cons_succ]
    exact fin _
  · have hnN : nB N = i + 1 := by unfold nB; omega
    have l3 : u8 (leB V (i + 1)) = u8 (leB V i) ++ [.int .u8 ((V / 256 ^ i : Nat) : Int)] := by
      rw [l1, show u8 (leB V i ++ [UInt8.ofNat (V / 256 ^ i)]) = u8 (leB V i) ++ u8 [UInt8.ofNat (V / 256 ^ i)] by simp [u8], hu _ hyb]
    have ha0 : (a : Int) ≠ 0 := by omega
    rw [bY, hnN, l3] at ho
    have g1' : ∀ J, (ob ++ J)[o]? = some ⟨t1, 1, i + 1, u8 (leB V i) ++ [.int .u8 ((V / 256 ^ i : Nat) : Int)], 0⟩ := fun J => by rw [List.getElem?_append_left hol]; exact ho
    have t4' : ∀ (J : List Ob) y, (ob ++ J).set (ob.length + 1) y = ob ++ J.set 1 y := fun J y => by rw [List.set_append_right _ _ (by omega), Nat.add_sub_cancel_left]
    have eby : (b : Int) * ((2 ^ a : Nat) : Int) = ((2 ^ a * b : Nat) : Int) := by rw [Nat.mul_comm]; simp
    generalize V / 256 ^ i = y at *
    simp (maxSteps := 4000000) (disch := omega) only [rr, aop, cV, cV1, AV.one, Qb, okW, Qd, app, Qa, Qc, Qf, Qe, Qg, simprocAttr, Qo, g3', g4', g5', e2, g1', s1, t3', t4', List.append_assoc, List.cons_append, List.nil_append, hnN, hlen]
    refine QJ.by (ι := Nat) (fun k => ⟨[(6, .int .i64 k), (5, .int .i64 ((2 ^ k : Nat) : Int)), (4, .ref (ob.length + 1) 1 0), (2, .ref ob.length 1 0), (1, .int .i64 b)],
      ob ++ [⟨t0, 2, 1, [.own o (i + 1), .int .i64 N], 0⟩, ⟨t0, 2, 1, [.emp true, .int .i64 0], 0⟩]⟩) (fun k => k ≤ a) (fun k => a - k) 0 (Le.slots (by simp [Am.look])) (by omega) ?_
    intro k hk
    by_cases hlt : k < a
    · have h1 : 2 ^ k ≤ 2 ^ 7 := Nat.pow_le_pow_right (by omega) (by omega)
      have h2 : 2 ^ (k + 1) = 2 ^ k * 2 := Nat.pow_succ 2 k
      generalize 2 ^ k = pk at *
      simp (maxSteps := 4000000) (disch := omega) only [rr, aop, cV, cV1, AV.one, Qb, okW, Qd, app, Qa, Qc, Qf, Qe, Qg, simprocAttr, g3', e2]
      exact ⟨k + 1, by omega, by omega, Le.slots (by simp [Am.look, h2])⟩
    · obtain rfl : k = a := by omega
      generalize 2 ^ k * b = w at *
      generalize 2 ^ k = pk at *
      simp (maxSteps := 4000000) (disch := omega) only [rr, aop, cV, cV1, AV.one, Qb, okW, Qd, app, Qa, Qc, Qf, Qe, Qg, simprocAttr, g3', g4', g1', s1, s2, g2, g3, g4, t3, t4, t3', t4', e2, e3, eby, d1, d2, d3, hlen, ZK, ht, Zk, List.set_cons_zero, List.set_cons_succ]
      exact fin _

end Go.Am

namespace Go.Am
open Go.RowKit

/-! ### The values of a frame (plain) -/

def Zb (c r : Nat) (v : List Nat) : Dl := ((List.range v.length).filter fun j => j % c == r).foldl (fun d j => XS d (v.getD j 0)) QH

theorem QgF {c r x : Nat} {v : List Nat} : Zb c r (v ++ [x]) = if v.length % c = r then XS (Zb c r v) x else Zb c r v := by
  have h1 : ∀ (l : List Nat) (d : Dl), (∀ j ∈ l, j < v.length) → l.foldl (fun d j => XS d ((v ++ [x]).getD j 0)) d = l.foldl (fun d j => XS d (v.getD j 0)) d := by
    intro l
    induction l with
    | nil => intro d _; rfl
    | cons a l ih =>
      intro d h
      simp only [List.foldl_cons]
      have ha : a < v.length := h a (by simp)
      rw [ih _ fun j hj => h j (by simp [hj])]
      congr 2
      rw [List.getD_eq_getElem?_getD, List.getD_eq_getElem?_getD, List.getElem?_append_left ha]
  unfold Zb
  rw [List.length_append, List.length_cons, List.length_nil, Nat.zero_add, List.range_succ, List.filter_append, List.foldl_append]
  have hf := h1 ((List.range v.length).filter fun j => j % c == r) QH (fun j hj => by
    have := (List.mem_filter.1 hj).1
    simpa using this)
  rw [hf]
  have hx : (v ++ [x]).getD v.length 0 = x := by simp [List.getD_eq_getElem?_getD]
  by_cases h : v.length % c = r
  · rw [if_pos h]
    have : (List.filter (fun j => j % c == r) [v.length]) = [v.length] := by simp [h]
    rw [this]
    simp only [List.foldl_cons, List.foldl_nil]
    rw [hx]
  · rw [if_neg h]
    have : (List.filter (fun j => j % c == r) [v.length]) = [] := by simp [h]
    rw [this]
    rfl

def N32 (v : List Nat) : Prop := ∀ x ∈ v, x < 4294967296
theorem QjL {c r : Nat} {v : List Nat} (h : N32 v) : okD (Zb c r v) := by
  unfold Zb
  have key : ∀ (l : List Nat) (d : Dl), okD d → (∀ j ∈ l, j < v.length) → okD (l.foldl (fun d j => XS d (v.getD j 0)) d) := by
    intro l
    induction l with
    | nil => intro d h _; exact h
    | cons a l ih =>
      intro d hd hl
      have ha : a < v.length := hl a (by simp)
      refine ih _ (Qu0 hd ?_) fun j hj => hl j (by simp [hj])
      rw [List.getD_eq_getElem?_getD, List.getElem?_eq_getElem ha]
      exact h _ (List.getElem_mem ha)
  exact key _ _ Quv fun j hj => by
    have := (List.mem_filter.1 hj).1
    simpa using this

def Qbj (p : List UInt8) : Nat := 4294967295 - QkK 4294967295 p
end Go.Am

namespace Go.Am
open Go.RowKit

/-! ### The values of a frame -/

def QuU (v : List Nat) : AV := Qne (v.map fun n : Nat => (n : Int))
theorem Qpv (v : List Nat) : isD (QuU v) = true := by simp [QuU, Qne, isD, QM]
def Qol (c r : Nat) (v : List Nat) (i : Nat) : Dl := ((List.range i).filter fun j => j % c == r).foldl (fun d j => XS d (v.getD j 0)) QH
theorem Qe7 {c r i : Nat} {v : List Nat} : Qol c r v (i + 1) = if i % c = r then XS (Qol c r v i) (v.getD i 0) else Qol c r v i := by
  unfold Qol
  rw [List.range_succ, List.filter_append, List.foldl_append]
  by_cases h : i % c = r
  · rw [if_pos h, show (List.filter (fun j => j % c == r) [i]) = [i] by simp [h]]; rfl
  · rw [if_neg h, show (List.filter (fun j => j % c == r) [i]) = [] by simp [h]]; rfl
theorem Qe8 {c r i : Nat} {v : List Nat} : ∀ j, (∀ t, i ≤ t → t < i + j → t % c ≠ r) → Qol c r v (i + j) = Qol c r v i
  | 0, _ => rfl
  | j + 1, h => by
    rw [← Nat.add_assoc, Qe7, if_neg (h (i + j) (by omega) (by omega)), Qe8 j fun t h1 h2 => h t h1 (by omega)]
theorem Qw4 {c i t r : Nat} (h : i % c = r) (h1 : i < t) (h2 : t < i + c) : t % c ≠ r := by
  intro h3
  have h4 : (t - i) % c = 0 := Nat.sub_mod_eq_zero_of_mod_eq (by rw [h, h3])
  rw [Nat.mod_eq_of_lt (by omega)] at h4
  omega
end Go.Am

namespace Go.Am
open Go.RowKit

/-! ### A frame's sum -/

theorem QrN (p : List UInt8) : Qbj p < 4294967296 := by unfold Qbj; omega

def Qkm (P : Prg) (f : Nat) : Prop := ∀ p : List UInt8, p.length ≤ 1000000 → VC P f [bs p] (bs (p ++ leB (Qbj p) 4))
theorem QlG {P : Prg} {f fO t0 : Nat} (bd : Qj P f 22 [.tmp 2] (Z3 fO t0)) (hO : Qt5 P fO) : Qkm P f := by
  intro p hp
  refine VC.of_walk 1 (by simp [isDL, Zq]) (Zq _) (ACall.of_body bd (by simp) ?_)
  have hO' := hO p hp
  rw [← Qbj] at hO'
  have hs := QrN p
  generalize Qbj p = s at *
  simp only [bs] at hO'
  have e1 : IntKind.u8.wrap (s : Int) = ((s % 256 : Nat) : Int) := by rw [X5]; omega
  have a1 : Qs false .u32 (s : Int) 8 = some (.int .u32 ((s / 256 : Nat) : Int)) := Qi8 (K := .u32) (k := 8) (by decide)
  have a2 : Qs false .u32 (s : Int) 16 = some (.int .u32 ((s / 65536 : Nat) : Int)) := Qi8 (K := .u32) (k := 16) (by decide)
  have a3 : Qs false .u32 (s : Int) 24 = some (.int .u32 ((s / 16777216 : Nat) : Int)) := Qi8 (K := .u32) (k := 24) (by decide)
  have e2 : IntKind.u8.wrap ((s / 256 : Nat) : Int) = ((s / 256 % 256 : Nat) : Int) := by rw [X5]; omega
  have e3 : IntKind.u8.wrap ((s / 65536 : Nat) : Int) = ((s / 65536 % 256 : Nat) : Int) := by rw [X5]; omega
  have e4 : IntKind.u8.wrap ((s / 16777216 : Nat) : Int) = ((s / 16777216 % 256 : Nat) : Int) := by rw [X5]; omega
  have hb : u8 (p ++ leB s 4) = u8 p ++ [.int .u8 ((s % 256 : Nat) : Int), .int .u8 ((s / 256 % 256 : Nat) : Int), .int .u8 ((s / 65536 % 256 : Nat) : Int), .int .u8 ((s / 16777216 % 256 : Nat) : Int)] := by
    simp [u8, leB, Nat.div_div_eq_div_mul]
  have hl : (p ++ leB s 4).length = p.length + 4 := by simp [Qi]
  rw [bs, hb, hl]
  generalize s % 256 = b0 at *
  generalize s / 256 % 256 = b1 at *
  generalize s / 65536 % 256 = b2 at *
  generalize s / 16777216 % 256 = b3 at *
  have tt : isTL (u8 p ++ [.int .u8 (b0 : Int), .int .u8 (b1 : Int), .int .u8 (b2 : Int), .int .u8 (b3 : Int)]) = true := by simp [QbE, QT, isTL, isT]
  simp (maxSteps := 4000000) (disch := omega) only [rr, aop, cV, cV1, AV.one, Qb, okW, Qd, app, Qa, Qc, Qf, Qe, Qg, simprocAttr, Z3, bs]
  refine Qh.vc hO' ?_
  simp (maxSteps := 4000000) (disch := omega) only [rr, aop, cV, cV1, AV.one, Qb, okW, Qd, app, Qa, Qc, Qf, Qe, Qg, simprocAttr, e1, a1, a2, a3, e2, e3, e4]
  simp [Zu, QS, frzL, QN, frzL_T _ tt]

end Go.Am

namespace Go.Am
open Go.RowKit

/-! ### values -/

def Qee (F : Nat → Dl) : List AV := dlC (F 0) ++ dlC (F 1) ++ dlC (F 2) ++ dlC (F 3) ++ dlC (F 4) ++ dlC (F 5)
theorem QsS (F : Nat → Dl) : isTL (Qee F) = true := rfl
theorem Qed (F : Nat → Dl) : (Qee F).length = 24 := rfl
theorem QuD (F : Nat → Dl) {j : Nat} (h : j < 6) : ∃ r, (Qee F).drop (j * 4) = .int .i64 (F j).k0 :: .int .i64 (F j).k1 :: .int .u64 (F j).s0 :: .int .u64 (F j).s1 :: r := by
  rcases (by omega : j = 0 ∨ j = 1 ∨ j = 2 ∨ j = 3 ∨ j = 4 ∨ j = 5) with rfl | rfl | rfl | rfl | rfl | rfl <;> exact ⟨_, rfl⟩
def QwN (F : Nat → Dl) (j : Nat) (d : Dl) : Nat → Dl := fun i => if i = j then d else F i
theorem Qo6 (F : Nat → Dl) {j : Nat} (h : j < 6) (d : Dl) : (Qee F).take (j * 4) ++ [.int .i64 d.k0, .int .i64 d.k1, .int .u64 d.s0, .int .u64 d.s1] ++ (Qee F).drop (j * 4 + 4) = Qee (QwN F j d) := by
  rcases (by omega : j = 0 ∨ j = 1 ∨ j = 2 ∨ j = 3 ∨ j = 4 ∨ j = 5) with rfl | rfl | rfl | rfl | rfl | rfl <;> rfl

end Go.Am

namespace Go.Am
open Go.RowKit

/-! ### Decode -/

def iL (o : List Nat) : List Int := o.map fun n : Nat => (n : Int)
end Go.Am

namespace Go.Am
open Go.RowKit

/-! ### verdict.good -/

theorem mod_mul (m c : Nat) : (m * c) % c = 0 := Nat.mul_mod_left m c
/-! ### verdict.Judge -/

end Go.Am

namespace Go.Am
open Go.RowKit

/-! ### Codes (plain) -/

def QcW (v k : Nat) : Nat := if 48 ≤ v / 2 ^ k then 80 else v / 2 ^ k + 1 + k
def QfG (v k : Nat) : Nat := if 48 ≤ v / 2 ^ k then 2 ^ 48 - 1 + 2 ^ 48 * v else 2 ^ (v / 2 ^ k) - 1 + 2 ^ (v / 2 ^ k + 1) * (v % 2 ^ k)
def Qdw (d : Dl) (v : Nat) : Nat := if v < 2 ^ d.k0 then 1 + d.k0 else 1 + QcW (v - 2 ^ d.k0) d.k1
def QhT (d : Dl) (v : Nat) : Nat := if v < 2 ^ d.k0 then 2 * v else 1 + 2 * QfG (v - 2 ^ d.k0) d.k1

theorem ZV {V N W n : Nat} (hV : V < 2 ^ N) (hW : W < 2 ^ n) : V + 2 ^ N * W < 2 ^ (N + n) := by
  have h1 : 2 ^ N * (W + 1) ≤ 2 ^ N * 2 ^ n := Nat.mul_le_mul_left _ hW
  rw [Nat.pow_add]
  rw [Nat.mul_add, Nat.mul_one] at h1
  omega
theorem QuM {v k : Nat} (hv : v < 4294967296) : QfG v k < 2 ^ QcW v k := by
  unfold QfG QcW
  split
  · exact ZV (N := 48) (n := 32) (by decide) hv
  · have h1 : v % 2 ^ k < 2 ^ k := Nat.mod_lt _ (Nat.pow_pos (by omega))
    refine ZV ?_ h1
    have : 0 < 2 ^ (v / 2 ^ k) := Nat.pow_pos (by omega)
    rw [Nat.pow_succ]
    omega
theorem QuL {v k : Nat} (hk : k ≤ 24) : QcW v k ≤ 80 := by unfold QcW; split <;> omega
theorem QjG {d : Dl} {v : Nat} (hd : okD d) : Qdw d v ≤ 81 := by
  have := QuL (v := v - 2 ^ d.k0) hd.2.1
  have := hd.1
  unfold Qdw
  split <;> omega
theorem Qtm (d : Dl) (v : Nat) : 1 ≤ Qdw d v := by unfold Qdw; split <;> omega
theorem QjH {d : Dl} {v : Nat} (hv : v < 4294967296) : QhT d v < 2 ^ Qdw d v := by
  unfold QhT Qdw
  split
  · rename_i h
    rw [Nat.pow_add, Nat.pow_one]
    omega
  · have h := QuM (v := v - 2 ^ d.k0) (k := d.k1) (Nat.lt_of_le_of_lt (Nat.sub_le _ _) hv)
    exact ZV (N := 1) (V := 1) (by decide) h

def Qxe (c : Nat) (v : List Nat) : Nat → Nat × Nat
  | 0 => (0, 0)
  | i + 1 => ((Qxe c v i).1 + Qdw (Zb c (i % c) (v.take i)) (v.getD i 0), (Qxe c v i).2 + 2 ^ (Qxe c v i).1 * QhT (Zb c (i % c) (v.take i)) (v.getD i 0))
def Qfy (c : Nat) (v : List Nat) (i : Nat) : Nat := (Qxe c v i).1
def QqM (c : Nat) (v : List Nat) (i : Nat) : Nat := (Qxe c v i).2
theorem Qgw (c : Nat) (v : List Nat) : Qfy c v 0 = 0 := rfl
theorem Qgu (c : Nat) (v : List Nat) : QqM c v 0 = 0 := rfl
theorem Qgx (c : Nat) (v : List Nat) (i : Nat) : Qfy c v (i + 1) = Qfy c v i + Qdw (Zb c (i % c) (v.take i)) (v.getD i 0) := rfl
theorem Qgv (c : Nat) (v : List Nat) (i : Nat) : QqM c v (i + 1) = QqM c v i + 2 ^ Qfy c v i * QhT (Zb c (i % c) (v.take i)) (v.getD i 0) := rfl
theorem N32.take {v : List Nat} (h : N32 v) (i : Nat) : N32 (v.take i) := fun x hx => h x (List.mem_of_mem_take hx)
theorem N32.getD {v : List Nat} (h : N32 v) (i : Nat) : v.getD i 0 < 4294967296 := by
  rw [List.getD_eq_getElem?_getD]
  cases hx : v[i]? with
  | none => simp
  | some x => exact h x (List.mem_of_getElem? hx)
theorem Qbp {c : Nat} {v : List Nat} (h : N32 v) : ∀ i, QqM c v i < 2 ^ Qfy c v i ∧ Qfy c v i ≤ 81 * i ∧ i ≤ Qfy c v i
  | 0 => by rw [Qgw, Qgu]; decide
  | i + 1 => by
    obtain ⟨h1, h2, h3⟩ := Qbp h i
    have hd := QjL (c := c) (r := i % c) (h.take i)
    have h4 := QjG (v := v.getD i 0) hd
    have h5 := Qtm (Zb c (i % c) (v.take i)) (v.getD i 0)
    rw [Qgx, Qgv]
    exact ⟨ZV h1 (QjH (h.getD i)), by omega, by omega⟩

def QcY (c : Nat) (v : List Nat) : List UInt8 := leB (QqM c v v.length) (nB (Qfy c v v.length))
def ZJ (p : List UInt8) : List UInt8 := p ++ leB (Qbj p) 4
theorem Qlz (p : List UInt8) : (ZJ p).length = p.length + 4 := by simp [ZJ, Qi]
theorem QfW (c : Nat) (v : List Nat) : (QcY c v).length = nB (Qfy c v v.length) := by simp [QcY, Qi]

end Go.Am

namespace Go.Am
open Go.RowKit

/-! ### Codes are written -/

theorem Qxc (ob J : List Ob) (k : Nat) : (ob ++ J)[ob.length + k]? = J[k]? := by rw [List.getElem?_append_right (by omega), Nat.add_sub_cancel_left]
theorem QqK (ob J : List Ob) : (ob ++ J)[ob.length]? = J[0]? := Qxc ob J 0
theorem QxQ (ob J : List Ob) (k : Nat) (y : Ob) : (ob ++ J).set (ob.length + k) y = ob ++ J.set k y := by rw [List.set_append_right _ _ (by omega), Nat.add_sub_cancel_left]
theorem QwX (ob J : List Ob) (y : Ob) : (ob ++ J).set ob.length y = ob ++ J.set 0 y := QxQ ob J 0 y

def Qf1 (t : Nat) (P : Prg) (f : Nat) : Prop := ∀ l : List UInt8, l.length ≤ 1000000 → VO P f [bs l] (.own 0 l.length) ⟨t, 1, l.length, u8 l, 0⟩
theorem Qwy {P : Prg} {f t0 : Nat} (b : Qj P f 8 [.tmp 2] (QZ t0)) : Qf1 t0 P f := by
  intro l hl
  refine VO.of_walk (by simp [isDL, Zq]) (Qgq l) (by simp [okr]) (ACall.virtR t0 1 (by decide) (ACall.of_body b (by simp) ?_))
  by_cases h0 : l = []
  · subst h0
    simp (maxSteps := 4000000) (disch := omega) only [rr, aop, cV, cV1, AV.one, Qb, okW, Qd, app, Qa, Qc, Qf, Qe, Qg, simprocAttr, QZ, bs, Qrn, QrF]
    exact ⟨.inr ⟨true, rfl, 0, rfl, rfl⟩, .inl ⟨0, rfl, rfl⟩⟩
  · have h1 : l.length ≠ 0 := by simpa using h0
    simp (maxSteps := 4000000) (disch := omega) only [rr, aop, cV, cV1, AV.one, Qb, okW, Qd, app, Qa, Qc, Qf, Qe, Qg, simprocAttr, QZ, bs, Qrn, h1]
    exact .inl ⟨0, rfl, rfl⟩

theorem QtI {P : Prg} {f fC t0 tb : Nat} (bd : Qj P f 9 [.cell 2 t0] (QaZ fC t0)) (hC : Qf1 tb P fC) (ht : Q4 P t0 = some (some 2)) {N V : Nat} (hN : N ≤ 400000) {ob : List Ob} (hl : Low ob.length ob) {K : AV → List Ob → Prop}
    (hK : K (.agg [.own ob.length (nB N), .int .i64 N]) (ob ++ [bY tb N V])) : ACall P f [bA N V] ob K := by
  refine ACall.low (ACall.pad (ACall.of_body bd (by simp) ?_))
  have hC' := hC (leB V (nB N)) (by rw [Qi]; unfold nB; omega)
  rw [bs, Qi] at hC'
  have hlow : Low (ob.length + 1) (ob ++ [bY tb N V]) := (hl.mono (by omega)).append (Low.cons (lowL_D _ (Zx _ _)) Low.nil)
  simp (maxSteps := 4000000) (disch := omega) only [rr, aop, cV, cV1, AV.one, Qb, okW, Qd, app, Qa, Qc, Qf, Qe, Qg, simprocAttr, QaZ, bA, List.append_assoc, List.cons_append, List.nil_append, Qxc, QqK, QxQ, QwX]
  refine Q2.vo hC' ob.length (by rw [QqK]; rfl) Nat.one_ne_zero ?_
  simp (maxSteps := 4000000) (disch := omega) only [rr, aop, cV, cV1, AV.one, Qb, okW, Qd, app, Qa, Qc, Qf, Qe, Qg, simprocAttr, shr, List.append_assoc, List.cons_append, List.nil_append, Qxc, QqK, QxQ, QwX, ZK, ht, Zk]
  exact ⟨ob ++ [bY tb N V], [_, _], by simp [bY]; exact ⟨rfl, rfl⟩, by simp, by simpa using hlow, by simp [XB, lowL], hK⟩

def QmJ (P : Prg) (f : Nat) : Prop := ∀ N V v n : Nat, V < 2 ^ N → v < 2 ^ n → n ≤ 64 → N + n ≤ 330000 → VC P f [bA N V, .int .u64 v, .int .i64 n] (.tup [bA (N + n) (V + 2 ^ N * v), .int .i64 0])
theorem Qvl {P : Prg} {f fC fT fK fP t0 t1 tb : Nat} (bd : Qj P f 44 [.cell 6 t0, .tmp 7] (QbT fC fT fP t0)) (hC : QcP P fC) (bT : Qj P fT 9 [.cell 2 t1] (QaZ fK t1)) (bP : Qj P fP 75 [] (QbS tb)) (hK : Qf1 tb P fK) (ht : Q4 P t0 = some (some 2)) (ht1 : Q4 P t1 = some (some 2)) : QmJ P f := by
  intro N V v n hV hv hn hN
  refine VC.of_walk 2 (by simp [isDL, Qdm, isD]) (by simp [isD, isDL, Qdm]) (ACall.of_body bd (by simp) ?_)
  have hC' := hC N V hV (by omega)
  rw [bA] at hC'
  have e1 : n < 64 → Qs false .u64 (v : Int) (n : Int) = some (.int .u64 0) := fun h => by
    rw [Qi8 (K := .u64) (by show n ≤ 64; omega), Nat.div_eq_of_lt hv]; rfl
  have tu : isTL (u8 (leB V (nB N))) = true := QT _
  have tl : ∀ W M, isTL (u8 (leB W M)) = true := fun W M => QT _
  have tw : ∀ (Q : Exit → St → Prop) os fr dst, wpQ P os Q ⟨Xx fr dst (.agg [.own 2 (nB N), .int .i64 N]), [⟨t0, 2, 1, [.list (nB N) (u8 (leB V (nB N))), .int .i64 N], 0⟩, ⟨t0, 2, 1, [.emp true, .int .i64 0], 0⟩, bY tb N V]⟩ →
      Qh P fT [.agg [.list (nB N) (u8 (leB V (nB N))), .int .i64 N]] [⟨t0, 2, 1, [.list (nB N) (u8 (leB V (nB N))), .int .i64 N], 0⟩, ⟨t0, 2, 1, [.emp true, .int .i64 0], 0⟩] os Q fr dst := fun Q os fr dst h =>
    QtI bT hK ht1 (N := N) (V := V) (by omega) (Low.cons (by simp [lowL, XB, lowL_D _ (Zx _ _)]) (Low.cons (by simp [lowL, XB]) Low.nil)) h
  have pt : ∀ (Q : Exit → St → Prop) os fr dst, wpQ P os Q ⟨Xx fr dst (.tup []), [⟨t0, 2, 1, [.own 2 (nB (N + n)), .int .i64 ((N + n : Nat) : Int)], 0⟩, ⟨t0, 2, 1, [.emp true, .int .i64 0], 0⟩, bY tb (N + n) (V + 2 ^ N * v)]⟩ →
      Qh P fP [.ref 0 1 0, .int .u64 v, .int .i64 n] [⟨t0, 2, 1, [.own 2 (nB N), .int .i64 N], 0⟩, ⟨t0, 2, 1, [.emp true, .int .i64 0], 0⟩, bY tb N V] os Q fr dst := fun Q os fr dst h =>
    Qvk bP (ob := [⟨t0, 2, 1, [.own 2 (nB N), .int .i64 N], 0⟩, ⟨t0, 2, 1, [.emp true, .int .i64 0], 0⟩, bY tb N V]) (p := 0) (o := 2) (t := t0) rfl rfl (by decide) hV hv hn (by omega)
      (Low.cons (by simp [lowL, XB]) (Low.cons (by simp [lowL, XB]) (Low.cons (lowL_D _ (Zx _ _)) Low.nil))) h
  have tu' := tl (V + 2 ^ N * v) (nB (N + n))
  generalize V + 2 ^ N * v = W at *
  by_cases h64 : n < 64
  · have e1' := e1 h64
    simp (maxSteps := 4000000) (disch := omega) only [rr, aop, cV, cV1, AV.one, Qb, okW, Qd, app, Qa, Qc, Qf, Qe, Qg, simprocAttr, QbT, bA]
    refine Qh.vc hC' ?_
    simp (maxSteps := 4000000) (disch := omega) only [rr, aop, cV, cV1, AV.one, Qb, okW, Qd, app, Qa, Qc, Qf, Qe, Qg, simprocAttr, e1']
    refine tw _ _ _ _ ?_
    simp (maxSteps := 4000000) (disch := omega) only [rr, aop, cV, cV1, AV.one, Qb, okW, Qd, app, Qa, Qc, Qf, Qe, Qg, simprocAttr]
    refine pt _ _ _ _ ?_
    simp (maxSteps := 4000000) (disch := omega) only [rr, aop, cV, cV1, AV.one, Qb, okW, Qd, app, Qa, Qc, Qf, Qe, Qg, simprocAttr, ZK, ht, Zk]
    simp [Zu, QS, frzL, QN, bY, frzL_T _ tu']
  · simp (maxSteps := 4000000) (disch := omega) only [rr, aop, cV, cV1, AV.one, Qb, okW, Qd, app, Qa, Qc, Qf, Qe, Qg, simprocAttr, QbT, bA]
    refine Qh.vc hC' ?_
    simp (maxSteps := 4000000) (disch := omega) only [rr, aop, cV, cV1, AV.one, Qb, okW, Qd, app, Qa, Qc, Qf, Qe, Qg, simprocAttr]
    refine tw _ _ _ _ ?_
    simp (maxSteps := 4000000) (disch := omega) only [rr, aop, cV, cV1, AV.one, Qb, okW, Qd, app, Qa, Qc, Qf, Qe, Qg, simprocAttr]
    refine pt _ _ _ _ ?_
    simp (maxSteps := 4000000) (disch := omega) only [rr, aop, cV, cV1, AV.one, Qb, okW, Qd, app, Qa, Qc, Qf, Qe, Qg, simprocAttr, ZK, ht, Zk]
    simp [Zu, QS, frzL, QN, bY, frzL_T _ tu']

end Go.Am

namespace Go.Am
open Go.RowKit

/-! ### Codes are written: unary, rice, dual -/

def uN (n : Nat) : Nat := min (n + 1) 48
def QtT (P : Prg) (f : Nat) : Prop := ∀ n : Nat, n ≤ 48 → VC P f [.int .i64 n] (.tup [.int .i64 (uN n), .int .i64 0])
theorem Qln {P : Prg} {f : Nat} (bd : Qj P f 13 [.tmp 2, .tmp 3] QaG) : QtT P f := by
  intro n hn
  refine VC.of_acall rfl rfl (ACall.of_body bd (by simp) ?_)
  have e1 : (if (48 : Int) < (n : Int) + 1 then (48 : Int) else (n : Int) + 1) = (uN n : Nat) := by unfold uN; split <;> omega
  simp (maxSteps := 4000000) (disch := omega) only [rr, aop, cV, cV1, AV.one, Qb, okW, Qd, app, Qa, Qc, Qf, Qe, Qg, simprocAttr, QaG, e1]

theorem Qsw {n : Nat} (h : n ≤ 48) : 2 ^ n ≤ 281474976710656 := Nat.pow_le_pow_right (by omega) h
def Qkc (P : Prg) (f : Nat) : Prop := ∀ N V n : Nat, V < 2 ^ N → n ≤ 48 → N + uN n ≤ 330000 → VC P f [bA N V, .int .i64 n] (.tup [bA (N + uN n) (V + 2 ^ N * (2 ^ n - 1)), .int .i64 0])
theorem Qnd {P : Prg} {f fC fL fP t0 : Nat} (bd : Qj P f 32 [.cell 4 t0, .tmp 5] (Qa7 fC fL fP t0)) (hC : QcP P fC) (hL : QtT P fL) (hP : QmJ P fP) (ht : Q4 P t0 = some (some 2)) : Qkc P f := by
  intro N V n hV hn hN
  refine VC.of_walk 1 (by simp [isDL, Qdm, isD]) (by simp [isD, isDL, Qdm]) (ACall.of_body bd (by simp) ?_)
  have hC' := hC N V hV (by omega)
  have hL' := hL n hn
  have hp := Qsw hn
  have hpos : 0 < 2 ^ n := Nat.pow_pos (by omega)
  have hlt : 2 ^ n - 1 < 2 ^ uN n := by
    unfold uN
    rcases Nat.lt_or_ge n 48 with h | h
    · rw [Nat.min_eq_left (by omega), Nat.pow_succ]; omega
    · obtain rfl : n = 48 := by omega
      decide
  have hP' := hP N V (2 ^ n - 1) (uN n) hV hlt (by unfold uN; omega) hN
  have e3 : Qs true .u64 1 (n : Int) = some (.int .u64 ((2 ^ n : Nat) : Int)) := by
    have := Qr5 (K := .u64) rfl (c := 1) (s := n) (by show n ≤ 64; omega) (by show 1 * 2 ^ n < 18446744073709551616; omega)
    rw [Nat.one_mul] at this
    exact this
  have e4 : IntKind.u64.wrap (((2 ^ n : Nat) : Int) - 1) = ((2 ^ n - 1 : Nat) : Int) := by rw [ZH]; omega
  generalize V + 2 ^ N * (2 ^ n - 1) = W at *
  generalize 2 ^ n - 1 = x at *
  generalize 2 ^ n = p at *
  generalize uN n = u at *
  have tl : isTL (u8 (leB W (nB (N + u)))) = true := QT _
  simp only [bA] at hC' hP' ⊢
  simp (maxSteps := 4000000) (disch := omega) only [rr, aop, cV, cV1, AV.one, Qb, okW, Qd, app, Qa, Qc, Qf, Qe, Qg, simprocAttr, Qa7]
  refine Qh.vc hC' ?_
  simp (maxSteps := 4000000) (disch := omega) only [rr, aop, cV, cV1, AV.one, Qb, okW, Qd, app, Qa, Qc, Qf, Qe, Qg, simprocAttr]
  refine Qh.vc hL' ?_
  simp (maxSteps := 4000000) (disch := omega) only [rr, aop, cV, cV1, AV.one, Qb, okW, Qd, app, Qa, Qc, Qf, Qe, Qg, simprocAttr, e3, e4]
  refine Q2.vc hP' ?_
  simp (maxSteps := 4000000) (disch := omega) only [rr, aop, cV, cV1, AV.one, Qb, okW, Qd, app, Qa, Qc, Qf, Qe, Qg, simprocAttr, ZK, ht, Zk]
  simp [Zu, QS, frzL, QN, frzL_T _ tl]

def Qke (P : Prg) (f : Nat) : Prop := ∀ N V v k : Nat, V < 2 ^ N → v < 4294967296 → k ≤ 24 → N + 80 ≤ 330000 → VC P f [bA N V, .int .u32 v, .int .i64 k] (.tup [bA (N + QcW v k) (V + 2 ^ N * QfG v k), .int .i64 0])
theorem Qqf {P : Prg} {f fC fE fU fP t0 : Nat} (bd : Qj P f 57 [.cell 6 t0, .tmp 7] (Qak fC fE fU fP t0)) (hC : QcP P fC) (hE : QwG P fE) (hU : Qkc P fU) (hP : QmJ P fP) (ht : Q4 P t0 = some (some 2)) : Qke P f := by
  intro N V v k hV hv hk hN
  refine VC.of_walk 1 (by simp [isDL, Qdm, isD]) (by simp [isD, isDL, Qdm]) (ACall.of_body bd (by simp) ?_)
  have hC' := hC N V hV (by omega)
  have hE' := hE v k hk hv
  obtain ⟨q1, _⟩ := p24 hk
  have hpk : 0 < 2 ^ k := Nat.pow_pos (by omega)
  have e1 : Qs false .u32 (v : Int) (k : Int) = some (.int .u32 ((v / 2 ^ k : Nat) : Int)) := Qi8 (K := .u32) (by show k ≤ 32; omega)
  have e2 : Qs true .u32 1 (k : Int) = some (.int .u32 ((2 ^ k : Nat) : Int)) := by
    have := Qr5 (K := .u32) rfl (c := 1) (s := k) (by show k ≤ 32; omega) (by show 1 * 2 ^ k < 4294967296; omega)
    rw [Nat.one_mul] at this
    exact this
  have e3 : IntKind.u32.wrap (((2 ^ k : Nat) : Int) - 1) = ((2 ^ k - 1 : Nat) : Int) := by rw [JU]; omega
  have e4 : IntKind.u32.wrap (BitVec.ofInt IntKind.u32.bits (v : Int) &&& BitVec.ofInt IntKind.u32.bits ((2 ^ k - 1 : Nat) : Int)).toNat = ((v % 2 ^ k : Nat) : Int) := by
    rw [Qx4 (K := .u32) rfl hv (by show 2 ^ k - 1 < 4294967296; omega), Nat.and_two_pow_sub_one_eq_mod]
  have hqv : v / 2 ^ k ≤ v := Nat.div_le_self _ _
  have hrv : v % 2 ^ k < 2 ^ k := Nat.mod_lt _ hpk
  unfold QcW QfG
  by_cases hq : 48 ≤ v / 2 ^ k
  · rw [if_pos hq, if_pos hq]
    simp only [hq, decide_true] at hE'
    have hU' := hU N V 48 hV (Nat.le_refl _) (by unfold uN; omega)
    have hu : uN 48 = 48 := rfl
    rw [hu] at hU'
    have hV1 : V + 2 ^ N * (2 ^ 48 - 1) < 2 ^ (N + 48) := ZV hV (by decide)
    have hP' := hP (N + 48) (V + 2 ^ N * (2 ^ 48 - 1)) v 32 hV1 hv (by omega) (by omega)
    have hW : V + 2 ^ N * (2 ^ 48 - 1) + 2 ^ (N + 48) * v = V + 2 ^ N * (2 ^ 48 - 1 + 2 ^ 48 * v) := by rw [Nat.pow_add, Nat.mul_add, Nat.mul_assoc, Nat.add_assoc]
    rw [hW] at hP'
    generalize V + 2 ^ N * (2 ^ 48 - 1 + 2 ^ 48 * v) = W at *
    generalize V + 2 ^ N * (2 ^ 48 - 1) = W1 at *
    have hNN : N + 48 + 32 = N + 80 := by omega
    rw [hNN] at hP'
    have tl : isTL (u8 (leB W (nB (N + 80)))) = true := QT _
    simp only [bA] at hC' hP' hU' ⊢
    have hU'' : VC P fU [.agg [.list (nB N) (u8 (leB V (nB N))), .int .i64 N], .int .i64 48] (.tup [.agg [.list (nB (N + 48)) (u8 (leB W1 (nB (N + 48)))), .int .i64 ((N + 48 : Nat) : Int)], .int .i64 0]) := hU'
    have hP'' : VC P fP [.agg [.list (nB (N + 48)) (u8 (leB W1 (nB (N + 48)))), .int .i64 ((N + 48 : Nat) : Int)], .int .u64 v, .int .i64 32] (.tup [.agg [.list (nB (N + 80)) (u8 (leB W (nB (N + 80)))), .int .i64 ((N + 80 : Nat) : Int)], .int .i64 0]) := hP'
    generalize v / 2 ^ k = q at *
    generalize v % 2 ^ k = r at *
    generalize 2 ^ k - 1 = mk at *
    generalize 2 ^ k = pk at *
    simp (maxSteps := 4000000) (disch := omega) only [rr, aop, cV, cV1, AV.one, Qb, okW, Qd, app, Qa, Qc, Qf, Qe, Qg, simprocAttr, Qak]
    refine Qh.vc hC' ?_
    simp (maxSteps := 4000000) (disch := omega) only [rr, aop, cV, cV1, AV.one, Qb, okW, Qd, app, Qa, Qc, Qf, Qe, Qg, simprocAttr, e1, e2, e3, e4]
    refine Qh.vc hE' ?_
    simp (maxSteps := 4000000) (disch := omega) only [rr, aop, cV, cV1, AV.one, Qb, okW, Qd, app, Qa, Qc, Qf, Qe, Qg, simprocAttr]
    refine Qh.vc hU'' ?_
    simp (maxSteps := 4000000) (disch := omega) only [rr, aop, cV, cV1, AV.one, Qb, okW, Qd, app, Qa, Qc, Qf, Qe, Qg, simprocAttr]
    refine Qh.vc hP'' ?_
    simp (maxSteps := 4000000) (disch := omega) only [rr, aop, cV, cV1, AV.one, Qb, okW, Qd, app, Qa, Qc, Qf, Qe, Qg, simprocAttr, ZK, ht, Zk]
    simp [Zu, QS, frzL, QN, frzL_T _ tl]
  · rw [if_neg hq, if_neg hq]
    simp only [hq, decide_false] at hE'
    have hu : uN (v / 2 ^ k) = v / 2 ^ k + 1 := by unfold uN; omega
    have hU' := hU N V (v / 2 ^ k) hV (by omega) (by rw [hu]; omega)
    rw [hu] at hU'
    have hlt : 2 ^ (v / 2 ^ k) - 1 < 2 ^ (v / 2 ^ k + 1) := by
      have : 0 < 2 ^ (v / 2 ^ k) := Nat.pow_pos (by omega)
      rw [Nat.pow_succ]; omega
    have hV1 : V + 2 ^ N * (2 ^ (v / 2 ^ k) - 1) < 2 ^ (N + (v / 2 ^ k + 1)) := ZV hV hlt
    have hP' := hP (N + (v / 2 ^ k + 1)) (V + 2 ^ N * (2 ^ (v / 2 ^ k) - 1)) (v % 2 ^ k) k hV1 hrv (by omega) (by omega)
    have hW : V + 2 ^ N * (2 ^ (v / 2 ^ k) - 1) + 2 ^ (N + (v / 2 ^ k + 1)) * (v % 2 ^ k) = V + 2 ^ N * (2 ^ (v / 2 ^ k) - 1 + 2 ^ (v / 2 ^ k + 1) * (v % 2 ^ k)) := by rw [Nat.pow_add 2 N, Nat.mul_add, Nat.mul_assoc, Nat.add_assoc]
    rw [hW] at hP'
    generalize V + 2 ^ N * (2 ^ (v / 2 ^ k) - 1 + 2 ^ (v / 2 ^ k + 1) * (v % 2 ^ k)) = W at *
    generalize V + 2 ^ N * (2 ^ (v / 2 ^ k) - 1) = W1 at *
    have hNN : N + (v / 2 ^ k + 1) + k = N + (v / 2 ^ k + 1 + k) := by omega
    rw [hNN] at hP'
    have tl : isTL (u8 (leB W (nB (N + (v / 2 ^ k + 1 + k))))) = true := QT _
    simp only [bA] at hC' hP' hU' ⊢
    generalize v / 2 ^ k = q at *
    generalize v % 2 ^ k = r at *
    generalize 2 ^ k - 1 = mk at *
    generalize 2 ^ k = pk at *
    generalize hM : N + (q + 1 + k) = M at *
    generalize hM1 : N + (q + 1) = M1 at *
    simp (maxSteps := 4000000) (disch := omega) only [rr, aop, cV, cV1, AV.one, Qb, okW, Qd, app, Qa, Qc, Qf, Qe, Qg, simprocAttr, Qak]
    refine Qh.vc hC' ?_
    simp (maxSteps := 4000000) (disch := omega) only [rr, aop, cV, cV1, AV.one, Qb, okW, Qd, app, Qa, Qc, Qf, Qe, Qg, simprocAttr, e1, e2, e3, e4]
    refine Qh.vc hE' ?_
    simp (maxSteps := 4000000) (disch := omega) only [rr, aop, cV, cV1, AV.one, Qb, okW, Qd, app, Qa, Qc, Qf, Qe, Qg, simprocAttr]
    refine Qh.vc hU' ?_
    simp (maxSteps := 4000000) (disch := omega) only [rr, aop, cV, cV1, AV.one, Qb, okW, Qd, app, Qa, Qc, Qf, Qe, Qg, simprocAttr]
    refine Qh.vc hP' ?_
    simp (maxSteps := 4000000) (disch := omega) only [rr, aop, cV, cV1, AV.one, Qb, okW, Qd, app, Qa, Qc, Qf, Qe, Qg, simprocAttr, ZK, ht, Zk]
    simp [Zu, QS, frzL, QN, frzL_T _ tl]

def Qkg (P : Prg) (f : Nat) : Prop := ∀ (N V v : Nat) (d : Dl), V < 2 ^ N → v < 4294967296 → okD d → N + 81 ≤ 330000 → VC P f [bA N V, dlA d, .int .u32 v] (.tup [bA (N + Qdw d v) (V + 2 ^ N * QhT d v), dlA (XS d v), .int .i64 0])
theorem QqW {P : Prg} {f fC fD fV fP fR fL fl1 fll t0 t1 : Nat} (bd : Qj P f 69 [.cell 6 t0, .cell 7 t1, .tmp 8] (Qam fC fD fV fP fR fL t0 t1)) (hC : QcP P fC) (hD : QkC P fD) (hLv : Qg8 P fV) (hP : QmJ P fP) (hR : Qke P fR)
    (bL : Qj P fL 36 [] (Jw fl1 fll)) (b1 : Qj P fl1 58 [] Qr) (hL : Qg8 P fll) (ht0 : Q4 P t0 = some (some 2)) (ht : Q4 P t1 = some (some 4)) : Qkg P f := by
  intro N V v d hV hv hd hN
  refine VC.of_walk 1 (by simp [isDL, Qdm, QnU, isD]) (by simp [isD, isDL, Qdm, QnU]) (ACall.of_cut 7 bd (by simp) ?_)
  have hd' := hd
  have hC' := hC N V hV (by omega)
  have hD' := hD d hd
  have hLv' := hLv d v hd hv
  have hL1 : ∀ {ob : List Ob} {p : Nat} {v : Nat} {K : AV → List Ob → Prop}, ob[p]? = some ⟨t1, 4, 1, dlC d, 0⟩ → v < 4294967296 → K (.tup []) (ob.set p ⟨t1, 4, 1, dlC (XS d v), 0⟩) → ACall P fL [.ref p 1 0, .int .u32 v] ob K :=
    fun hp hv hK => QqV bL b1 hL hp hd hv hK
  obtain ⟨k0, k1, s0, s1⟩ := d
  obtain ⟨h1, h2, h3, h4⟩ := hd'
  simp only at h1 h2 h3 h4
  obtain ⟨pk, _⟩ := p24 h1
  simp only [bA] at hC'
  simp only [dlA, dlC] at hD' hLv'
  unfold Qdw QhT
  by_cases c : v < 2 ^ k0
  · simp only [c, if_true] at hLv' ⊢
    have hP1 := hP N V 0 1 hV (by decide) (by omega) (by omega)
    rw [Nat.mul_zero, Nat.add_zero] at hP1
    have hV1 : V < 2 ^ (N + 1) := Nat.lt_of_lt_of_le hV (Nat.pow_le_pow_right (by omega) (by omega))
    have hP2 := hP (N + 1) V v k0 hV1 c (by omega) (by omega)
    have hW : V + 2 ^ (N + 1) * v = V + 2 ^ N * (2 * v) := by rw [Nat.pow_succ, Nat.mul_assoc]
    rw [hW, Nat.add_assoc] at hP2
    generalize V + 2 ^ N * (2 * v) = W at *
    have tl : isTL (u8 (leB W (nB (N + (1 + k0))))) = true := QT _
    simp only [bA] at hP1 hP2 ⊢
    have hP1' : VC P fP [.agg [.list (nB N) (u8 (leB V (nB N))), .int .i64 N], .int .u64 0, .int .i64 1] (.tup [.agg [.list (nB (N + 1)) (u8 (leB V (nB (N + 1)))), .int .i64 ((N + 1 : Nat) : Int)], .int .i64 0]) := hP1
    simp (maxSteps := 4000000) (disch := omega) only [rr, aop, cV, cV1, AV.one, Qb, okW, Qd, app, Qa, Qc, Qf, Qe, Qg, simprocAttr, Qcf, Qam, dlA, dlC]
    refine Qh.vc hC' ?_
    simp (maxSteps := 4000000) (disch := omega) only [rr, aop, cV, cV1, AV.one, Qb, okW, Qd, app, Qa, Qc, Qf, Qe, Qg, simprocAttr, Qcf]
    refine Qh.vc hD' ?_
    simp (maxSteps := 4000000) (disch := omega) only [rr, aop, cV, cV1, AV.one, Qb, okW, Qd, app, Qa, Qc, Qf, Qe, Qg, simprocAttr, Qcf]
    refine Qh.vc hLv' ?_
    simp (maxSteps := 4000000) (disch := omega) only [rr, aop, cV, cV1, AV.one, Qb, okW, Qd, app, Qa, Qc, Qf, Qe, Qg, simprocAttr, Qcf]
    refine Qh.vc hP1' ?_
    simp (maxSteps := 4000000) (disch := omega) only [rr, aop, cV, cV1, AV.one, Qb, okW, Qd, app, Qa, Qc, Qf, Qe, Qg, simprocAttr, Qcf]
    refine Qh.vc hP2 ?_
    simp (maxSteps := 4000000) (disch := omega) only [rr, aop, cV, cV1, AV.one, Qb, okW, Qd, app, Qa, Qc, Qf, Qe, Qg, simprocAttr, Qcf]
    refine hL1 (v := v) rfl hv ?_
    generalize XS ⟨k0, k1, s0, s1⟩ v = d'
    obtain ⟨l0, l1, l2, l3⟩ := d'
    simp (maxSteps := 4000000) (disch := omega) only [rr, aop, cV, cV1, AV.one, Qb, okW, Qd, app, Qa, Qc, Qf, Qe, Qg, simprocAttr, Qcf]
    refine ⟨⟨[(8, .int .i64 0), (7, .ref 3 1 0), (6, .ref 2 1 0), (4, .cell [.int .i64 l0, .int .i64 l1, .int .u64 l2, .int .u64 l3]), (3, .ref 0 1 0)], _⟩, Le.still [1] 1 (by simp [Am.look, QS, frzL, QN, dlC, isDL, isD]), ?_⟩
    simp (maxSteps := 4000000) (disch := omega) only [rr, aop, cV, cV1, AV.one, Qb, okW, Qd, app, Qa, Qc, Qf, Qe, Qg, simprocAttr, ZK, ht, ht0, Zk, dlC, Qv]
    simp [Zu, QS, frzL, QN, frzL_T _ tl]
  · simp only [c, if_false] at hLv' ⊢
    have hP1 := hP N V 1 1 hV (by decide) (by omega) (by omega)
    rw [Nat.mul_one] at hP1
    have hV1 : V + 2 ^ N < 2 ^ (N + 1) := by rw [Nat.pow_succ]; omega
    have hl : v - 2 ^ k0 < 4294967296 := Nat.lt_of_le_of_lt (Nat.sub_le _ _) hv
    have hR2 := hR (N + 1) (V + 2 ^ N) (v - 2 ^ k0) k1 hV1 hl h2 (by omega)
    have hW : V + 2 ^ N + 2 ^ (N + 1) * QfG (v - 2 ^ k0) k1 = V + 2 ^ N * (1 + 2 * QfG (v - 2 ^ k0) k1) := by rw [Nat.pow_succ, Nat.mul_assoc, Nat.mul_add, Nat.mul_one, Nat.add_assoc]
    rw [hW, Nat.add_assoc] at hR2
    generalize V + 2 ^ N * (1 + 2 * QfG (v - 2 ^ k0) k1) = W at *
    generalize QcW (v - 2 ^ k0) k1 = rn at *
    generalize v - 2 ^ k0 = lf at *
    generalize V + 2 ^ N = W1 at *
    have tl : isTL (u8 (leB W (nB (N + (1 + rn))))) = true := QT _
    simp only [bA] at hP1 hR2 ⊢
    have hP1' : VC P fP [.agg [.list (nB N) (u8 (leB V (nB N))), .int .i64 N], .int .u64 1, .int .i64 1] (.tup [.agg [.list (nB (N + 1)) (u8 (leB W1 (nB (N + 1)))), .int .i64 ((N + 1 : Nat) : Int)], .int .i64 0]) := hP1
    simp (maxSteps := 4000000) (disch := omega) only [rr, aop, cV, cV1, AV.one, Qb, okW, Qd, app, Qa, Qc, Qf, Qe, Qg, simprocAttr, Qcf, Qam, dlA, dlC]
    refine Qh.vc hC' ?_
    simp (maxSteps := 4000000) (disch := omega) only [rr, aop, cV, cV1, AV.one, Qb, okW, Qd, app, Qa, Qc, Qf, Qe, Qg, simprocAttr, Qcf]
    refine Qh.vc hD' ?_
    simp (maxSteps := 4000000) (disch := omega) only [rr, aop, cV, cV1, AV.one, Qb, okW, Qd, app, Qa, Qc, Qf, Qe, Qg, simprocAttr, Qcf]
    refine Qh.vc hLv' ?_
    simp (maxSteps := 4000000) (disch := omega) only [rr, aop, cV, cV1, AV.one, Qb, okW, Qd, app, Qa, Qc, Qf, Qe, Qg, simprocAttr, Qcf]
    refine Qh.vc hP1' ?_
    simp (maxSteps := 4000000) (disch := omega) only [rr, aop, cV, cV1, AV.one, Qb, okW, Qd, app, Qa, Qc, Qf, Qe, Qg, simprocAttr, Qcf]
    refine Qh.vc hR2 ?_
    simp (maxSteps := 4000000) (disch := omega) only [rr, aop, cV, cV1, AV.one, Qb, okW, Qd, app, Qa, Qc, Qf, Qe, Qg, simprocAttr, Qcf]
    refine hL1 (v := v) rfl hv ?_
    generalize XS ⟨k0, k1, s0, s1⟩ v = d'
    obtain ⟨l0, l1, l2, l3⟩ := d'
    simp (maxSteps := 4000000) (disch := omega) only [rr, aop, cV, cV1, AV.one, Qb, okW, Qd, app, Qa, Qc, Qf, Qe, Qg, simprocAttr, Qcf]
    refine ⟨⟨[(8, .int .i64 0), (7, .ref 3 1 0), (6, .ref 2 1 0), (4, .cell [.int .i64 l0, .int .i64 l1, .int .u64 l2, .int .u64 l3]), (3, .ref 0 1 0)], _⟩, Le.still [1] 1 (by simp [Am.look, QS, frzL, QN, dlC, isDL, isD]), ?_⟩
    simp (maxSteps := 4000000) (disch := omega) only [rr, aop, cV, cV1, AV.one, Qb, okW, Qd, app, Qa, Qc, Qf, Qe, Qg, simprocAttr, ZK, ht, ht0, Zk, dlC, Qv]
    simp [Zu, QS, frzL, QN, frzL_T _ tl]

end Go.Am

namespace Go.Am
open Go.RowKit

/-! ### Bits are put behind bits, one by one: enframe -/

theorem Low.putB {ob : List Ob} (h : Low ob.length ob) {t t0 t2 o p N V N' n C : Nat} (ho : o < ob.length) : Low (ob.length + 1) (JG ob o p (bY t0 N V) (bO t o N') ++ [⟨t2, 2, 1, [.list (nB n) (u8 (leB C (nB n))), .int .i64 n], 0⟩]) :=
  ((h.put ho).mono (by omega)).append (Low.cons (by simp [lowL, XB, lowL_D _ (Zx _ _)]) Low.nil)

set_option maxHeartbeats 1000000 in
theorem Qn3 {P : Prg} {f t0 t1 : Nat} (bd : Qj P f 64 [] (JT t0 t1)) {ob : List Ob} {t p o N V C n : Nat} (hp : ob[p]? = some (bO t o N)) (ho : ob[o]? = some (bY t1 N V)) (hpo : p ≠ o) (hV : V < 2 ^ N) (hC : C < 2 ^ n) (hn : n ≤ 1000) (hN : N + n ≤ 400000) (hfz : Low ob.length ob)
    {K : AV → List Ob → Prop} (hK : K (.tup []) (JG ob o p (bY t1 (N + n) (V + 2 ^ N * C)) (bO t o (N + n)))) : ACall P f [.ref p 1 0, bA n C] ob K := by
  have hol : o < ob.length := (List.getElem?_eq_some_iff.1 ho).1
  have hpl : p < ob.length := (List.getElem?_eq_some_iff.1 hp).1
  refine ACall.low (ACall.of_body bd (by simp) ?_)
  have g0 : ∀ x y J, (JG ob o p x y ++ J)[p]? = some y := fun x y J => by rw [List.getElem?_append_left (by rw [Zp]; exact hpl)]; exact Qnb hpl
  have g1 : ∀ x y J, (JG ob o p x y ++ J)[o]? = some x := fun x y J => by rw [List.getElem?_append_left (by rw [Zp]; exact hol)]; exact Qnc hol hpo
  have g2 : ∀ x y J y', (JG ob o p x y ++ J).set p y' = JG ob o p x y' ++ J := fun x y J y' => by rw [List.set_append_left _ _ (by rw [Zp]; exact hpl), QrD]
  have g3 : ∀ x y J x', (JG ob o p x y ++ J).set o x' = JG ob o p x' y ++ J := fun x y J x' => by rw [List.set_append_left _ _ (by rw [Zp]; exact hol), QrE hpo]
  have g4 : ∀ x y (J : List Ob), (JG ob o p x y ++ J)[ob.length]? = J[0]? := fun x y J => by rw [List.getElem?_append_right (by rw [Zp]; exact Nat.le_refl _), Zp, Nat.sub_self]
  have g5 : ∀ x y (J : List Ob), (JG ob o p x y ++ J)[ob.length + 1]? = J[1]? := fun x y J => by rw [List.getElem?_append_right (by rw [Zp]; omega), Zp, Nat.add_sub_cancel_left]
  have ln : ∀ x y, (JG ob o p x y).length = ob.length := fun x y => Zp
  have hs : ob = JG ob o p (bY t1 N V) (bO t o N) := (Qlm ho hp hpo).symm
  simp (maxSteps := 4000000) (disch := omega) only [rr, aop, cV, cV1, AV.one, Qb, okW, Qd, app, Qa, Qc, Qf, Qe, Qg, simprocAttr, JT, bA, QqK]
  refine QJ.by (ι := Nat) (fun j => ⟨[(8, .int .i64 j), (7, .int .i64 n), (3, .ref ob.length 1 0), (0, .ref p 1 0)], JG ob o p (bY t1 (N + j) (V + 2 ^ N * (C % 2 ^ j))) (bO t o (N + j)) ++ [⟨t0, 2, 1, [.list (nB n) (u8 (leB C (nB n))), .int .i64 n], 0⟩]⟩) (fun j => j ≤ n) (fun j => n - j) 0 ?_ (by omega) ?_
  · rw [Nat.add_zero, Nat.pow_zero, Nat.mod_one, Nat.mul_zero, Nat.add_zero, ← hs]
    exact Le.slots (by simp [Am.look])
  intro j hj
  by_cases hlt : j < n
  · obtain ⟨M, hM⟩ : ∃ M, M = N + j := ⟨_, rfl⟩
    obtain ⟨i, hi⟩ : ∃ i, i = M / 8 := ⟨_, rfl⟩
    obtain ⟨a, ha⟩ : ∃ a, a = M % 8 := ⟨_, rfl⟩
    obtain ⟨q, hq⟩ : ∃ q, q = j / 8 := ⟨_, rfl⟩
    obtain ⟨r, hr⟩ : ∃ r, r = j % 8 := ⟨_, rfl⟩
    obtain ⟨b, hb0⟩ : ∃ b, b = C / 2 ^ j % 2 := ⟨_, rfl⟩
    have hM8 : M = 8 * i + a := by omega
    have hj8 : 8 * q + r = j := by omega
    have hb : b < 2 := by rw [hb0]; exact Nat.mod_lt _ (by decide)
    have hW : V + 2 ^ N * (C % 2 ^ j) < 2 ^ M := by
      rw [hM]
      exact ZV hV (Nat.mod_lt _ (Nat.pow_pos (by omega)))
    have hstep := Qxz (V := V) (N := N) (v := C) (j := j) (r := 1)
    rw [← hM, Nat.pow_one, ← hb0] at hstep
    have hat := QsP (V := C) (k := nB n) (i := q) (by unfold nB; omega)
    have hbit := QvC C q r (by omega)
    rw [hj8, ← hb0] at hbit
    have hby : C / 256 ^ q % 256 < 256 := Nat.mod_lt _ (by decide)
    have s1 : Qs false .u8 ((C / 256 ^ q % 256 : Nat) : Int) (r : Int) = some (.int .u8 ((C / 256 ^ q % 256 / 2 ^ r : Nat) : Int)) := Qi8 (K := .u8) (by show r ≤ 8; omega)
    have hle : C / 256 ^ q % 256 / 2 ^ r ≤ C / 256 ^ q % 256 := Nat.div_le_self _ _
    have s2 : IntKind.u8.wrap (BitVec.ofInt IntKind.u8.bits ((C / 256 ^ q % 256 / 2 ^ r : Nat) : Int) &&& BitVec.ofInt IntKind.u8.bits ((1 : Nat) : Int)).toNat = ((b : Nat) : Int) := by
      rw [Qx4 (K := .u8) rfl (by show _ < 256; omega) (by decide), Nat.and_one_is_mod, hbit]
    have s2' : IntKind.u8.wrap (BitVec.ofInt IntKind.u8.bits ((C / 256 ^ q % 256 / 2 ^ r : Nat) : Int) &&& BitVec.ofInt IntKind.u8.bits 1).toNat = ((b : Nat) : Int) := s2
    generalize C / 256 ^ q % 256 / 2 ^ r = y1 at *
    generalize C / 256 ^ q % 256 = y0 at *
    rw [← hM]
    have hq1 : (j : Int) / 8 = (q : Int) := by omega
    have hr1 : (j : Int) % 8 = (r : Int) := by omega
    have hi1 : (M : Int) / 8 = (i : Int) := by omega
    have ha1 : (M : Int) % 8 = (a : Int) := by omega
    have hnq : q < nB n := by unfold nB; omega
    generalize V + 2 ^ N * (C % 2 ^ j) = W at *
    generalize hWW : V + 2 ^ N * (C % 2 ^ (j + 1)) = W' at *
    have h2a : 2 ^ a ≤ 2 ^ 7 := Nat.pow_le_pow_right (by omega) (by omega)
    have hpos : 0 < 2 ^ a := Nat.pow_pos (by omega)
    obtain ⟨l1, l2⟩ := QaE (V := W) (i := i) (at_ := a) (by rw [← hM8]; exact hW) (by omega)
    obtain ⟨b1, b2, _⟩ := JQ (V := W) (i := i) (at_ := a) (w := b) (r := 1) (by rw [← hM8]; exact hW) (by omega) (by omega)
    rw [← hM8, ← hstep] at b1
    have hyb : W / 256 ^ i < 256 := by omega
    have hyb2 : W / 256 ^ i + 2 ^ a * b < 256 := by
      have : 2 ^ (a + 1) ≤ 2 ^ 8 := Nat.pow_le_pow_right (by omega) (by omega)
      omega
    have hca : b * 2 ^ a < 2 ^ 8 := by
      rcases (by omega : b = 0 ∨ b = 1) with rfl | rfl <;> omega
    have hu : ∀ y, y < 256 → u8 [UInt8.ofNat y] = [.int .u8 (y : Int)] := fun y hy => by simp [u8]; omega
    have e8 : IntKind.u8.wrap (BitVec.ofInt IntKind.u8.bits ((W / 256 ^ i : Nat) : Int) ||| BitVec.ofInt IntKind.u8.bits ((b * 2 ^ a : Nat) : Int)).toNat = ((W / 256 ^ i + 2 ^ a * b : Nat) : Int) := by
      rw [orK (K := .u8) rfl hyb hca, Qvr l2, Nat.mul_comm]
    have e7 : Qs true .u8 (b : Int) (a : Int) = some (.int .u8 ((b * 2 ^ a : Nat) : Int)) := Qr5 rfl (by show a ≤ 8; omega) hca
    have hnB : nB (M + 1) = i + 1 := by unfold nB; omega
    have hcell : u8 (leB W' (i + 1)) = u8 (leB W i) ++ [.int .u8 ((W / 256 ^ i + 2 ^ a * b : Nat) : Int)] := by
      rw [b1, show u8 (leB W i ++ [UInt8.ofNat (W / 256 ^ i + 2 ^ a * b)]) = u8 (leB W i) ++ u8 [UInt8.ofNat (W / 256 ^ i + 2 ^ a * b)] by simp [u8]]
      rw [hu _ hyb2]
    have hlen : (u8 (leB W i)).length = i := by simp [u8, Qi]
    generalize W / 256 ^ i + 2 ^ a * b = y' at *
    generalize b * 2 ^ a = ca at *
    have d1 : ∀ z : AV, (u8 (leB W i) ++ [z]).drop i = [z] := fun z => by rw [List.drop_left' hlen]
    have d2 : ∀ z : AV, (u8 (leB W i) ++ [z]).take i = u8 (leB W i) := fun z => by rw [List.take_left' hlen]
    have d3 : ∀ z : AV, (u8 (leB W i) ++ [z]).drop (i + 1) = [] := fun z => List.drop_of_length_le (by simp [hlen])
    have el : (⟨t1, 1, i + 1, u8 (leB W i) ++ [.int .u8 (y' : Int)], 0⟩ : Ob) = bY t1 (M + 1) W' := by rw [bY, hnB, hcell]
    have er : (⟨t, 2, 1, [.own o (i + 1), .int .i64 ((M : Int) + 1)], 0⟩ : Ob) = bO t o (M + 1) := by rw [bO, hnB, Int.natCast_add]; rfl
    have hMr : N + (j + 1) = M + 1 := by omega
    have hcl : (u8 (leB C (nB n))).length = nB n := by simp [u8, Qi]
    by_cases h0 : a = 0
    · subst h0
      have hnM : nB M = i := by unfold nB; omega
      have hW0 : W / 256 ^ i = 0 := by
        have := l2
        rw [Nat.pow_zero] at this
        exact Nat.lt_one_iff.1 this
      rw [hW0] at e8
      have e8' : IntKind.u8.wrap (BitVec.ofInt IntKind.u8.bits 0 ||| BitVec.ofInt IntKind.u8.bits (ca : Int)).toNat = (y' : Int) := e8
      have e7' : Qs true .u8 (b : Int) 0 = some (.int .u8 (ca : Int)) := e7
      have ha1' : (M : Int) % 8 = 0 := ha1
      simp (maxSteps := 4000000) (disch := omega) only [rr, aop, cV, cV1, AV.one, Qb, okW, Qd, app, Qa, Qc, Qf, Qe, Qg, simprocAttr, bO, bY, g0, g1, g2, g3, g4, g5, ln, hnM, hlen, hcl, hat, s1, s2', e7', e8', hq1, hr1, hi1, ha1', d1, d2, d3, List.append_assoc, List.cons_append, List.nil_append]
      refine ⟨j + 1, by omega, by omega, ?_⟩
      show Le ob.length _ ⟨[(8, .int .i64 ((j + 1 : Nat) : Int)), (7, .int .i64 n), (3, .ref ob.length 1 0), (0, .ref p 1 0)], JG ob o p (bY t1 (N + (j + 1)) (V + 2 ^ N * (C % 2 ^ (j + 1)))) (bO t o (N + (j + 1))) ++ [⟨t0, 2, 1, [.list (nB n) (u8 (leB C (nB n))), .int .i64 n], 0⟩]⟩
      rw [hWW, hMr, el, er, List.append_cons]
      have hl : (JG ob o p (bY t1 (M + 1) W') (bO t o (M + 1)) ++ [⟨t0, 2, 1, [.list (nB n) (u8 (leB C (nB n))), .int .i64 n], 0⟩] : List Ob).length = ob.length + 1 := by simp [ln]
      exact Le.low (by rw [hl]; omega) (by rw [hl]; exact hfz.putB hol) (by rw [hl]; simp [Am.look, XB, Nat.lt_succ_of_lt hpl])
    · have hnM : nB M = i + 1 := by unfold nB; omega
      have l3 : u8 (leB W (i + 1)) = u8 (leB W i) ++ [.int .u8 ((W / 256 ^ i : Nat) : Int)] := by
        rw [l1, show u8 (leB W i ++ [UInt8.ofNat (W / 256 ^ i)]) = u8 (leB W i) ++ u8 [UInt8.ofNat (W / 256 ^ i)] by simp [u8], hu _ hyb]
      have ha0 : (a : Int) ≠ 0 := by omega
      generalize W / 256 ^ i = y at *
      simp (maxSteps := 4000000) (disch := omega) only [rr, aop, cV, cV1, AV.one, Qb, okW, Qd, app, Qa, Qc, Qf, Qe, Qg, simprocAttr, bO, bY, g0, g1, g2, g3, g4, g5, ln, hnM, hlen, hcl, l3, hat, s1, s2', e7, e8, hq1, hr1, hi1, ha1, d1, d2, d3, List.append_assoc, List.cons_append, List.nil_append]
      refine ⟨j + 1, by omega, by omega, ?_⟩
      show Le ob.length _ ⟨[(8, .int .i64 ((j + 1 : Nat) : Int)), (7, .int .i64 n), (3, .ref ob.length 1 0), (0, .ref p 1 0)], JG ob o p (bY t1 (N + (j + 1)) (V + 2 ^ N * (C % 2 ^ (j + 1)))) (bO t o (N + (j + 1))) ++ [⟨t0, 2, 1, [.list (nB n) (u8 (leB C (nB n))), .int .i64 n], 0⟩]⟩
      rw [hWW, hMr, el, er]
      exact Le.slots (by simp [Am.look])
  · obtain rfl : j = n := by omega
    rw [Nat.mod_eq_of_lt hC]
    simp (maxSteps := 4000000) (disch := omega) only [rr, aop, cV, cV1, AV.one, Qb, okW, Qd, app, Qa, Qc, Qf, Qe, Qg, simprocAttr]
    exact ⟨JG ob o p (bY t1 (N + j) (V + 2 ^ N * C)) (bO t o (N + j)), _, rfl, by rw [ln]; exact Nat.le_refl _, by rw [ln]; exact hfz.put hol, by rfl, hK⟩

end Go.Am

namespace Go.Am
open Go.RowKit

/-! ### What is mixed is unmixed, what is stepped is stepped back (plain) -/

theorem Qtw (c : JE) (x : Int) : -2147483648 ≤ QgG c x ∧ QgG c x ≤ 2147483647 := X6 _

end Go.Am

namespace Go.Am
open Go.RowKit

/-! ### Frames: coded and decoded (plain) -/

def QpX (c : Nat) (x : Int) (t l : List Int) : List Nat := (Qh8 c (Z7 c l) (JO x t) l.length).map Int.toNat
def Qho (c : Nat) (x : Int) (t l : List Int) : List UInt8 := ZJ (QcY c (QpX c x t l))

theorem Qpi (c : Nat) (L : List Int) (z : JE) (a : Nat) : U32 (Qh8 c L z a) := by
  intro y hy
  simp only [Qh8, List.mem_map] at hy
  obtain ⟨j, _, rfl⟩ := hy
  exact Qs2 (Qtw _ _)
theorem Qu7 {v : List Int} (h : U32 v) : iL (v.map Int.toNat) = v := by
  unfold iL
  rw [List.map_map]
  conv => rhs; rw [← List.map_id v]
  apply List.map_congr_left
  intro y hy
  have := h y hy
  simp; omega
theorem Qt9 {v : List Int} (h : U32 v) : N32 (v.map Int.toNat) := by
  intro y hy
  simp only [List.mem_map] at hy
  obtain ⟨z, hz, rfl⟩ := hy
  have := h z hz
  omega
theorem Qd0 (c : Nat) (x : Int) (t l : List Int) : (QpX c x t l).length = l.length := by simp [QpX, QfT]
theorem Qiw (c : Nat) (x : Int) (t l : List Int) : N32 (QpX c x t l) := Qt9 (Qpi _ _ _ _)
theorem Qwl (c : Nat) (x : Int) (t l : List Int) : iL (QpX c x t l) = Qh8 c (Z7 c l) (JO x t) l.length := Qu7 (Qpi _ _ _ _)

theorem QnY {c : Nat} {v : List Nat} (h : N32 v) (h1 : 1 ≤ v.length) (h2 : v.length ≤ 4000) : 1 ≤ (QcY c v).length ∧ (QcY c v).length ≤ 40500 := by
  obtain ⟨_, q2, q3⟩ := Qbp (c := c) h v.length
  rw [QfW]
  unfold nB
  omega
theorem Qka {c x : Int} {l : List Int} (hI : I32 l) (h : QcO c x l = 0) : ∃ k m : Nat, c = k ∧ okM k l ∧ Qaf x ≠ 0 ∧ ZD c x = 0 ∧ Q3 x l = 0 ∧ l.length = m * k ∧ 1 ≤ m ∧ (l.length : Int) / c = m ∧ QbJ c x ((l.length : Int) / c) = 0 := by
  obtain ⟨k, rfl, hk, hx⟩ := QoC hI h
  have hk' := hk
  obtain ⟨h1, h2, h3, h4, h5, _⟩ := hk'
  have e1 : ZD k x = 0 := by
    rcases Zr k x with q | ⟨q, _⟩
    · rw [Qj8 q] at h; omega
    · exact q
  have e2 : Q3 x l = 0 := by
    rcases Int.decEq (Q3 x l) 0 with q | q
    · rw [Qj9 e1 q] at h; exact absurd h q
    · exact q
  have e3 : l.length = l.length / k * k := by have := Nat.div_add_mod l.length k; rw [Nat.mul_comm] at this; omega
  have e4 : 1 ≤ l.length / k := by
    rcases Nat.eq_zero_or_pos (l.length / k) with q | q
    · rw [q] at e3; omega
    · exact q
  have e5 : (l.length : Int) / (k : Int) = ((l.length / k : Nat) : Int) := by rw [Int.natCast_ediv]
  refine ⟨k, l.length / k, rfl, hk, hx, e1, e2, e3, e4, e5, ?_⟩
  have e6 : l.length / k ≤ 4000 / k := Nat.div_le_div_right h4
  have e7 : (4000 : Int) / (k : Int) = ((4000 / k : Nat) : Int) := by rw [Int.natCast_ediv]; rfl
  unfold QbJ
  rw [if_neg (by omega), e5, e7, if_neg (by omega), if_neg (by omega)]

end Go.Am

namespace Go.Am
open Go.RowKit

/-! ### First states; slices of bytes joined -/

def QeI (P : Prg) (f : Nat) : Prop := VC P f [] (.agg (Qee fun _ => QH))
theorem QhL {P : Prg} {f fS t0 : Nat} (bd : Qj P f 11 [.cell 0 t0] (JM fS t0)) (hS : Qcx P fS) (ht : Q4 P t0 = some (some 24)) : QeI P f := by
  refine VC.of_acall rfl rfl (ACall.of_body bd (by simp) ?_)
  simp only [Qcx, QH, dlA, dlC] at hS
  simp (maxSteps := 4000000) (disch := omega) only [rr, aop, cV, cV1, AV.one, Qb, okW, Qd, app, Qa, Qc, Qf, Qe, Qg, simprocAttr, JM]
  refine QJ.by (ι := Nat) (fun i => ⟨[(3, .int .i64 i), (1, .ref 1 1 0), (0, .ref 0 1 0)],
      [⟨t0, 24, 1, Qee (fun _ => ⟨0, 0, 0, 0⟩), 0⟩, ⟨t0, 24, 1, Qee (fun j => if j < i then QH else ⟨0, 0, 0, 0⟩), 0⟩]⟩) (fun i => i ≤ 6) (fun i => 6 - i) 0 (Le.slots (by simp [Am.look])) (by omega) ?_
  intro i hi
  by_cases hlt : i < 6
  · have e1 := Qo6 (fun j => if j < i then QH else ⟨0, 0, 0, 0⟩) hlt QH
    have e2 : QwN (fun j => if j < i then QH else ⟨0, 0, 0, 0⟩) i QH = fun j => if j < i + 1 then QH else ⟨0, 0, 0, 0⟩ := by
      funext j
      unfold QwN
      by_cases h1 : j = i
      · subst h1; simp
      · by_cases h2 : j < i
        · simp [h1, h2, show j < i + 1 by omega]
        · simp [h1, h2, show ¬ j < i + 1 by omega]
    rw [e2] at e1
    have e3 := Qed (fun j => if j < i then QH else ⟨0, 0, 0, 0⟩)
    simp (maxSteps := 4000000) (disch := omega) only [rr, aop, cV, cV1, AV.one, Qb, okW, Qd, app, Qa, Qc, Qf, Qe, Qg, simprocAttr]
    refine Qh.vc hS ?_
    generalize hF : Qee (fun j => if j < i then QH else ⟨0, 0, 0, 0⟩) = F at *
    have e1' : F.take (i * 4) ++ [.int .i64 10, .int .i64 10, .int .u64 16384, .int .u64 16384] ++ F.drop (i * 4 + 4) = Qee fun j => if j < i + 1 then QH else ⟨0, 0, 0, 0⟩ := e1
    generalize Qee (fun _ => (⟨0, 0, 0, 0⟩ : Dl)) = Z
    simp (maxSteps := 4000000) (disch := omega) only [rr, aop, cV, cV1, AV.one, Qb, okW, Qd, app, Qa, Qc, Qf, Qe, Qg, simprocAttr, e3]
    refine ⟨i + 1, by omega, by omega, ?_⟩
    rw [e1']
    exact Le.slots (by simp [Am.look])
  obtain rfl : i = 6 := by omega
  have z1 : Qee (fun j => if j < 6 then QH else ⟨0, 0, 0, 0⟩) = Qee (fun _ => QH) := rfl
  have z2 := Qed fun _ => QH
  have z3 := Qed fun _ => (⟨0, 0, 0, 0⟩ : Dl)
  rw [z1]
  have z4 : (Qee fun _ => QH).all AV.one = true := rfl
  have z5 : (Qee fun _ => QH).take 24 = Qee fun _ => QH := rfl
  have z6 : (Qee fun _ => (⟨0, 0, 0, 0⟩ : Dl)).drop 24 = [] := rfl
  generalize (Qee fun _ => (⟨0, 0, 0, 0⟩ : Dl)) = Z at *
  generalize (Qee fun _ => QH) = S at *
  simp (maxSteps := 4000000) (disch := omega) only [rr, aop, cV, cV1, AV.one, Qb, okW, Qd, app, Qa, Qc, Qf, Qe, Qg, simprocAttr, ZK, ht, Zk, z2, z3, z4, z5, z6, List.take_zero, List.nil_append, List.append_nil]

def Qpg (L : List (List UInt8)) : AV := .list L.length (L.map bs)
def QkD (P : Prg) (f : Nat) : Prop := ∀ L : List (List UInt8), L.length ≤ 1000000 → 0 < L.flatten.length → L.flatten.length ≤ 1000000 → VC P f [Qpg L] (bs L.flatten)
def Qhd (t : Nat) (P : Prg) (f : Nat) : Prop := ∀ (ob : List Ob) (n : Nat) (z : Bool) (K : AV → List Ob → Prop), 0 < n → n ≤ 140737488355328 → K (.own ob.length 0) (ob ++ [⟨t, 1, 0, [], 0⟩]) → ACall P f [.emp z, .int .i64 n] ob K
theorem grow_nil {P : Prg} {f t : Nat} {ρ : Go.Shelf.Ren} (L : Go.Proofs.Lays8.n4 P.prog ρ) (hf : ρ.f 4 = f) (ht : ρ.t 25 = t) (h25 : (P.prog.info? t).map (fun i => (i.zero, i.size, i.bytes)) = some (some (.int .u8 0), 1, 1)) : Qhd t P f := by
  intro ob n z K h1 h2 hK
  subst hf; subst ht
  exact ACall.grow_nil L h25 h1 h2 hK
theorem Ql6 {L : List (List UInt8)} {k : Nat} (h : k < L.length) : (L.take (k + 1)).flatten = (L.take k).flatten ++ L.getD k [] := by
  rw [List.take_succ_eq_append_getElem h, List.flatten_append, List.getD_eq_getElem?_getD, List.getElem?_eq_getElem h]
  simp
theorem Qs3 (L : List (List UInt8)) (k : Nat) : (L.take k).flatten.length ≤ L.flatten.length := by
  conv => rhs; rw [← List.take_append_drop k L, List.flatten_append, List.length_append]
  omega
theorem Qi6 {P : Prg} {f fG t0 : Nat} (bd : Qj P f 36 [.tmp 2] (Zl fG t0)) (hG : Qhd t0 P fG) : QkD P f := by
  intro L hL h0 h1
  refine VC.of_walk 1 (by simp [isDL, isD, Qpg, Qjq]) (Zq _) (ACall.of_body bd (by simp) ?_)
  have hat : ∀ k, k < L.length → (L.map bs).drop k = bs (L.getD k []) :: (L.map bs).drop (k + 1) := fun k hk => by
    rw [List.drop_eq_getElem_cons (by simpa using hk)]
    simp [List.getD_eq_getElem?_getD, List.getElem?_eq_getElem hk]
  have hml : (L.map bs).length = L.length := by simp
  simp only [bs] at hat
  simp (maxSteps := 4000000) (disch := omega) only [rr, aop, cV, cV1, AV.one, Qb, okW, Qd, app, Qa, Qc, Qf, Qe, Qg, simprocAttr, Zl, Qpg]
  refine QJ.by (ι := Nat) (fun k => ⟨[(11, .int .i64 k), (10, .int .i64 L.length), (9, .list L.length (L.map bs)), (3, .int .i64 (L.take k).flatten.length), (0, .list L.length (L.map bs))], []⟩) (fun k => k ≤ L.length) (fun k => L.length - k) 0 (Le.slots (by simp [Am.look])) (by omega) ?_
  intro k hk
  by_cases hlt : k < L.length
  · have ha := hat k hlt
    have hf := Ql6 hlt
    have hle := Qs3 L (k + 1)
    rw [hf, List.length_append] at hle
    have hl : ((L.take (k + 1)).flatten.length : Int) = (L.take k).flatten.length + (L.getD k []).length := by rw [hf]; simp
    generalize (L.take k).flatten.length = s at *
    generalize L.getD k [] = x at *
    simp (maxSteps := 4000000) (disch := omega) only [rr, aop, cV, cV1, AV.one, Qb, okW, Qd, app, Qa, Qc, Qf, Qe, Qg, simprocAttr, ha, hml]
    exact ⟨k + 1, by omega, by omega, by simp only [hl]; exact Le.slots (by simp [Am.look])⟩
  obtain rfl : k = L.length := by omega
  rw [List.take_length]
  have hG' := fun K hK => hG [] L.flatten.length true K h0 (by omega) hK
  simp (maxSteps := 4000000) (disch := omega) only [rr, aop, cV, cV1, AV.one, Qb, okW, Qd, app, Qa, Qc, Qf, Qe, Qg, simprocAttr]
  refine hG' _ ?_
  simp (maxSteps := 4000000) (disch := omega) only [rr, aop, cV, cV1, AV.one, Qb, okW, Qd, app, Qa, Qc, Qf, Qe, Qg, simprocAttr]
  refine QJ.by (ι := Nat) (fun k => ⟨[(27, .int .i64 k), (26, .int .i64 L.length), (25, .list L.length (L.map bs)), (6, .own 0 (L.take k).flatten.length)], [⟨t0, 1, (L.take k).flatten.length, u8 (L.take k).flatten, 0⟩]⟩) (fun k => k ≤ L.length) (fun k => L.length - k) 0 (Le.slots (by simp [Am.look])) (by omega) ?_
  intro k hk
  by_cases hlt : k < L.length
  · have ha := hat k hlt
    have hf := Ql6 hlt
    have hle := Qs3 L (k + 1)
    rw [hf, List.length_append] at hle
    have hl : (L.take (k + 1)).flatten.length = (L.take k).flatten.length + (L.getD k []).length := by rw [hf]; simp
    have hu : u8 (L.take (k + 1)).flatten = u8 (L.take k).flatten ++ u8 (L.getD k []) := by rw [hf, Qd7]
    have hc : (u8 (L.take k).flatten).length = (L.take k).flatten.length := QA _
    have hx : (u8 (L.getD k [])).length = (L.getD k []).length := QA _
    generalize u8 (L.take k).flatten = cs at *
    generalize (L.take k).flatten.length = s at *
    generalize u8 (L.getD k []) = us at *
    generalize (L.getD k []).length = xl at *
    simp (maxSteps := 4000000) (disch := omega) only [rr, aop, cV, cV1, AV.one, Qb, okW, Qd, app, Qa, Qc, Qf, Qe, Qg, simprocAttr, ha, hml, hc, hx]
    exact ⟨k + 1, by omega, by omega, by rw [hl, hu]; exact Le.slots (by simp [Am.look])⟩
  obtain rfl : k = L.length := by omega
  rw [List.take_length]
  simp (maxSteps := 4000000) (disch := omega) only [rr, aop, cV, cV1, AV.one, Qb, okW, Qd, app, Qa, Qc, Qf, Qe, Qg, simprocAttr]
  simp [Zu, QS, frzL, QN, frzL_T _ (QT _), bs]

end Go.Am

namespace Go.Am
open Go.RowKit

/-! ### Frames are coded: Encode, Length -/

theorem Qlo (c : Nat) (x : Int) (t l : List Int) : Qne (Qh8 c (Z7 c l) (JO x t) l.length) = .list l.length (ks .u32 ((QpX c x t l).map fun n : Nat => (n : Int))) := by
  have := Qwl c x t l
  unfold iL at this
  rw [this, Qne, QfT]
theorem Qup {c i : Nat} {v : List Nat} (hc : 1 ≤ c) (hi : i < v.length) : QwN (fun j => if j < c then Zb c j (v.take i) else QH) (i % c) (XS (Zb c (i % c) (v.take i)) (v.getD i 0)) = fun j => if j < c then Zb c j (v.take (i + 1)) else QH := by
  have ht : v.take (i + 1) = v.take i ++ [v.getD i 0] := by
    rw [List.take_succ_eq_append_getElem hi]
    simp [List.getD_eq_getElem?_getD, List.getElem?_eq_getElem hi]
  have hl : (v.take i).length = i := by simp; omega
  have hr : i % c < c := Nat.mod_lt _ (by omega)
  funext j
  unfold QwN
  rw [ht]
  by_cases hj : j = i % c
  · subst hj
    rw [if_pos rfl, if_pos hr, QgF, if_pos (by rw [hl])]
  · rw [if_neg hj]
    by_cases hjc : j < c
    · simp only [hjc, if_true]
      rw [QgF, if_neg (by rw [hl]; exact fun e => hj e.symm)]
    · simp only [hjc, if_false]

def Qvx (c x : Int) (t l : List Int) : AV := if QcO c x l ≠ 0 then .tup [.list 0 [], .int .i64 (QcO c x l)] else .tup [bs (Qho c.toNat x t l), .int .i64 0]
theorem Qpx (c x : Int) (t l : List Int) : isD (Qvx c x t l) = true := by unfold Qvx; split <;> simp [isD, isDL, Zq]
def Qrl (P : Prg) (f : Nat) : Prop := ∀ (c x : Int) (t l : List Int), t.length = 16 → I32 t → I32 l → VC P f [shA c x, .agg (ks .i32 t), il l] (Qvx c x t l)
set_option maxHeartbeats 2000000 in
set_option maxRecDepth 20000 in
theorem QhN {P : Prg} {f fV fS fW fP fC fB fK t0 t1 t2 t3 t4 t5 tp tb : Nat} (bd : Qj P f 85 [.tmp 6, .tmp 7] (Xz fV fS fW fP fC fB fK t0 t1 t2 t3 t4 t5)) (hV : QoN P fV) (hS : QeI P fS) (hW : Qkg P fW) (bP : Qj P fP 64 [] (JT tp tb)) (hC : QmK P fC) (hB : Qbt P fB) (hK : QkD P fK) : Qrl P f := by
  intro c x t l ht hI hL
  refine VC.of_walk 1 (by simp [isDL, isD, QM, QO, shA]) (Qpx _ _ _ _) (ACall.of_body bd (by simp) ?_)
  have hk : (ks .i32 t).length = 16 := by simp [Qk, ht]
  have tt : (ks .i32 t).take 16 = ks .i32 t := Qn (by omega)
  have ot := XA .i32 t
  have hV' := hV c x t l ht hI hL
  unfold Qvx
  by_cases h0 : QcO c x l = 0
  case neg =>
    rw [Quo, if_pos h0] at hV'
    rw [if_pos h0]
    rw [shA] at hV' ⊢
    simp (maxSteps := 4000000) (disch := omega) only [rr, aop, cV, cV1, AV.one, Qb, okW, Qd, app, Qa, Qc, Qf, Qe, Qg, simprocAttr, Xz, hk, ot, tt]
    refine Qh.vc hV' ?_
    simp (maxSteps := 4000000) (disch := omega) only [rr, aop, cV, cV1, AV.one, Qb, okW, Qd, app, Qa, Qc, Qf, Qe, Qg, simprocAttr, h0]
    simp [Zu, QS, frzL, QN]
  obtain ⟨k, m, rfl, hkM, hx, e1, e2, e3, e4, e5, e6⟩ := Qka hL h0
  obtain ⟨c1, c6, l0, l4, lm, _⟩ := hkM
  rw [Quo, if_neg (by omega), Int.toNat_natCast, Qlo] at hV'
  rw [if_neg (by omega), Int.toNat_natCast, Qho, ZJ]
  have hv := Qiw k x t l
  have hvl := Qd0 k x t l
  rw [← hvl] at hV' l0 l4
  generalize QpX k x t l = v at *
  rw [shA] at hV' ⊢
  have hfb := Qbp (c := k) hv
  have hkv : (ks .u32 (v.map fun n : Nat => (n : Int))).length = v.length := by simp [ks]
  have s24 := Qed fun _ => QH
  have sone : (Qee fun _ => QH).all AV.one = true := rfl
  have stk : (Qee fun _ => QH).take 24 = Qee fun _ => QH := rfl
  have z2 : (fun j => if j < k then Zb k j (v.take 0) else QH) = fun _ => QH := by
    funext j
    rw [List.take_zero]
    split <;> rfl
  simp only [QeI] at hS
  simp (maxSteps := 4000000) (disch := omega) only [rr, aop, cV, cV1, AV.one, Qb, okW, Qd, app, Qa, Qc, Qf, Qe, Qg, simprocAttr, Xz, hk, ot, tt]
  refine Qh.vc hV' ?_
  simp (maxSteps := 4000000) (disch := omega) only [rr, aop, cV, cV1, AV.one, Qb, okW, Qd, app, Qa, Qc, Qf, Qe, Qg, simprocAttr, hkv]
  refine Qh.vc hS ?_
  generalize hS0 : (Qee fun _ => QH) = S0 at *
  simp (maxSteps := 4000000) (disch := omega) only [rr, aop, cV, cV1, AV.one, Qb, okW, Qd, app, Qa, Qc, Qf, Qe, Qg, simprocAttr, hkv, s24, sone, stk, List.append_nil, List.take_zero, List.nil_append]
  refine QJ.by (ι := Nat) (fun i => ⟨[(32, .int .i64 i), (31, .int .i64 v.length), (30, .list v.length (ks .u32 (v.map fun n : Nat => (n : Int)))), (11, .ref 3 1 0), (10, .ref 2 1 0), (7, .int .i64 0), (6, .emp true), (3, .ref 0 1 0)],
      [⟨t0, 2, 1, [.int .i64 k, .int .i64 x], 0⟩, ⟨t1, 16, 1, ks .i32 t, 0⟩, ⟨t2, 24, 1, Qee (fun j => if j < k then Zb k j (v.take i) else QH), 0⟩, bO t3 4 (Qfy k v i), bY tb (Qfy k v i) (QqM k v i)]⟩)
    (fun i => i ≤ v.length) (fun i => v.length - i) 0 ?_ (by omega) ?_
  · simp only [z2, hS0]
    rw [Qgw, Qgu]
    refine Le.trans (Le.virtF 3 tb 1 (by decide) rfl rfl) ?_
    exact Le.slots (by simp [Am.look])
  intro i hi
  by_cases hlt : i < v.length
  · obtain ⟨r, hr⟩ : ∃ r, r = i % k := ⟨_, rfl⟩
    have hrc : r < k := by rw [hr]; exact Nat.mod_lt _ (by omega)
    have q1 : (i : Int) % k = (r : Int) := by rw [hr]; simp [Int.natCast_emod]
    have q1' : ((i : Int)).tmod (k : Int) = (r : Int) := by rw [Int.tmod_eq_emod_of_nonneg (by omega), q1]
    have hc0 : (k : Int) ≠ 0 := by omega
    obtain ⟨b1, b2, b3⟩ := hfb i
    obtain ⟨_, b5, _⟩ := hfb (i + 1)
    have hd := QjL (c := k) (r := r) (hv.take i)
    have hvi := hv.getD i
    have hW' := hW 0 0 (v.getD i 0) (Zb k r (v.take i)) (by decide) hvi hd (by omega)
    rw [Nat.zero_add, Nat.pow_zero, Nat.one_mul, Nat.zero_add] at hW'
    have hcl := QjH (d := Zb k r (v.take i)) hvi
    have hcn := QjG (v := v.getD i 0) hd
    obtain ⟨rest, hg⟩ := QuD (fun j => if j < k then Zb k j (v.take i) else QH) (j := r) (by omega)
    simp only [hrc, if_true] at hg
    have hset := Qo6 (fun j => if j < k then Zb k j (v.take i) else QH) (j := r) (by omega) (XS (Zb k r (v.take i)) (v.getD i 0))
    have hup := Qup c1 hlt
    rw [← hr] at hup
    rw [hup] at hset
    have hln := Qed (fun j => if j < k then Zb k j (v.take i) else QH)
    have hkat := Qbn (K := .u32) (l := v.map fun n : Nat => (n : Int)) (i := i) (by simpa using hlt)
    have hgd : (v.map fun n : Nat => (n : Int)).getD i 0 = ((v.getD i 0 : Nat) : Int) := by simp [List.getD_eq_getElem?_getD, List.getElem?_eq_getElem hlt]
    rw [hgd] at hkat
    have hsN := Qgx k v i
    have hsV := Qgv k v i
    rw [← hr] at hsN hsV
    have hb6 : Qfy k v i + Qdw (Zb k r (v.take i)) (v.getD i 0) ≤ 400000 := by omega
    have hD6 : isDL (Qee (fun j => if j < k then Zb k j (v.take (i + 1)) else QH)) = true := Qie (QsS _)
    generalize hF1 : Qee (fun j => if j < k then Zb k j (v.take (i + 1)) else QH) = F' at *
    generalize Qee (fun j => if j < k then Zb k j (v.take i) else QH) = F at *
    generalize hN0 : Qfy k v i = N at *
    generalize hV0 : QqM k v i = V at *
    generalize hN1 : Qfy k v (i + 1) = N1 at *
    generalize hV1 : QqM k v (i + 1) = V1 at *
    generalize hn0 : Qdw (Zb k r (v.take i)) (v.getD i 0) = n at *
    generalize hC0 : QhT (Zb k r (v.take i)) (v.getD i 0) = C at *
    generalize XS (Zb k r (v.take i)) (v.getD i 0) = d' at *
    generalize Zb k r (v.take i) = d at *
    generalize v.getD i 0 = vi at *
    obtain ⟨d0, d1, d2, d3⟩ := d
    obtain ⟨m0, m1, m2, m3⟩ := d'
    simp only [dlA, dlC, bA] at hW'
    simp only at hg hset
    have hfr : Zu (fun o => ([] : List Nat).contains o) [⟨t0, 2, 1, [.int .i64 k, .int .i64 x], 0⟩, ⟨t1, 16, 1, ks .i32 t, 0⟩, ⟨t2, 24, 1, F, 0⟩, ⟨t3, 2, 1, [.own 4 (nB N), .int .i64 N], 0⟩, bY tb N V] (0 + 1) [.agg [.emp true, .int .i64 0], .agg [.int .i64 d0, .int .i64 d1, .int .u64 d2, .int .u64 d3], .int .u32 vi] =
      some [.agg [.list (nB 0) (u8 (leB 0 (nB 0))), .int .i64 ((0 : Nat) : Int)], .agg [.int .i64 d0, .int .i64 d1, .int .u64 d2, .int .u64 d3], .int .u32 vi] := by
      simp [Zu, QS, frzL, QN, nB, leB, u8]
    have pt : ∀ (Q : Exit → St → Prop) os fr dst, wpQ P os Q ⟨Xx fr dst (.tup []), [⟨t0, 2, 1, [.int .i64 k, .int .i64 x], 0⟩, ⟨t1, 16, 1, ks .i32 t, 0⟩, ⟨t2, 24, 1, F', 0⟩, bO t3 4 N1, bY tb N1 V1, ⟨t3, 2, 1, [.list (nB n) (u8 (leB C (nB n))), .int .i64 n], 0⟩, ⟨t4, 4, 1, [.int .i64 m0, .int .i64 m1, .int .u64 m2, .int .u64 m3], 0⟩]⟩ →
        Qh P fP [.ref 3 1 0, .agg [.list (nB n) (u8 (leB C (nB n))), .int .i64 n]] [⟨t0, 2, 1, [.int .i64 k, .int .i64 x], 0⟩, ⟨t1, 16, 1, ks .i32 t, 0⟩, ⟨t2, 24, 1, F', 0⟩, ⟨t3, 2, 1, [.own 4 (nB N), .int .i64 N], 0⟩, bY tb N V, ⟨t3, 2, 1, [.list (nB n) (u8 (leB C (nB n))), .int .i64 n], 0⟩, ⟨t4, 4, 1, [.int .i64 m0, .int .i64 m1, .int .u64 m2, .int .u64 m3], 0⟩] os Q fr dst := fun Q os fr dst h =>
      Qn3 bP (ob := [⟨t0, 2, 1, [.int .i64 k, .int .i64 x], 0⟩, ⟨t1, 16, 1, ks .i32 t, 0⟩, ⟨t2, 24, 1, F', 0⟩, ⟨t3, 2, 1, [.own 4 (nB N), .int .i64 N], 0⟩, bY tb N V, ⟨t3, 2, 1, [.list (nB n) (u8 (leB C (nB n))), .int .i64 n], 0⟩, ⟨t4, 4, 1, [.int .i64 m0, .int .i64 m1, .int .u64 m2, .int .u64 m3], 0⟩]) (t := t3) (p := 3) (o := 4) (N := N) (V := V) (C := C) (n := n) rfl rfl (by decide) b1 hcl (by omega) (by omega)
        (Low.cons (by simp [lowL, XB]) (Low.cons (lowL_D _ (QM _ _)) (Low.cons (lowL_D _ hD6) (Low.cons (by simp [lowL, XB]) (Low.cons (lowL_D _ (Zx _ _)) (Low.cons (by simp [lowL, XB, lowL_D _ (Zx _ _)]) (Low.cons (by simp [lowL, XB]) Low.nil)))))))
        (by rw [hsN, hsV] at h; exact h)
    simp (maxSteps := 4000000) (disch := omega) only [rr, aop, cV, cV1, AV.one, Qb, okW, Qd, app, Qa, Qc, Qf, Qe, Qg, simprocAttr, bO, hkat, hkv, q1, q1', hc0, hg, hln]
    refine Qh.still 0 [] hW' hfr ?_
    simp (maxSteps := 4000000) (disch := omega) only [rr, aop, cV, cV1, AV.one, Qb, okW, Qd, app, Qa, Qc, Qf, Qe, Qg, simprocAttr, Qv, hkat, hkv, q1, q1', hc0, hg, hln, hset]
    refine pt _ _ _ _ ?_
    simp (maxSteps := 4000000) (disch := omega) only [rr, aop, cV, cV1, AV.one, Qb, okW, Qd, app, Qa, Qc, Qf, Qe, Qg, simprocAttr]
    refine ⟨i + 1, by omega, by omega, ?_⟩
    simp only [hN1, hV1, hF1]
    refine Le.low (ob := [⟨t0, 2, 1, [.int .i64 k, .int .i64 x], 0⟩, ⟨t1, 16, 1, ks .i32 t, 0⟩, ⟨t2, 24, 1, F', 0⟩, bO t3 4 N1, bY tb N1 V1]) (J := [_, _]) (Nat.zero_le _) ?_ (by simp [Am.look, XB, lowL_D _ (QM _ _)])
    exact Low.cons (by simp [lowL, XB]) (Low.cons (lowL_D _ (QM _ _)) (Low.cons (lowL_D _ hD6) (Low.cons (by simp [bO, lowL, XB]) (Low.cons (lowL_D _ (Zx _ _)) Low.nil))))
  · obtain rfl : i = v.length := by omega
    obtain ⟨_, b5, b6⟩ := hfb v.length
    have hfl := QfW k v
    have hle : nB (Qfy k v v.length) ≤ 40500 := by unfold nB; omega
    have hC' := hC (QcY k v)
    rw [if_neg (by omega), ← Qbj] at hC'
    have hsm := QrN (QcY k v)
    have hB' := hB (Qbj (QcY k v)) 4 (by omega) (by omega) hsm
    have hK' := hK [QcY k v, leB (Qbj (QcY k v)) 4] (by simp) (by simp [Qi]) (by simp [Qi]; omega)
    have hfe : QcY k v = leB (QqM k v v.length) (nB (Qfy k v v.length)) := rfl
    simp only [Qpg, bs, List.map_cons, List.map_nil, List.length_cons, List.length_nil, List.flatten_cons, List.flatten_nil, List.append_nil, List.length_append, hfl, Qi] at hC' hB' hK' ⊢
    have tfl : isTL (u8 (QcY k v)) = true := QT _
    have tfs : isTL (u8 (leB (Qbj (QcY k v)) 4)) = true := QT _
    have tfa : isTL (u8 (QcY k v ++ leB (Qbj (QcY k v)) 4)) = true := QT _
    have hul : (u8 (QcY k v)).length = nB (Qfy k v v.length) := by rw [QA, hfl]
    generalize Qee (fun j => if j < k then Zb k j (v.take v.length) else QH) = F at *
    simp only [bO, bY]
    rw [← hfe]
    generalize QcY k v ++ leB (Qbj (QcY k v)) 4 = R at *
    generalize leB (Qbj (QcY k v)) 4 = s4 at *
    generalize Qbj (QcY k v) = sm at *
    generalize QcY k v = fb at *
    generalize nB (Qfy k v v.length) = nn at *
    simp (maxSteps := 4000000) (disch := omega) only [rr, aop, cV, cV1, AV.one, Qb, okW, Qd, app, Qa, Qc, Qf, Qe, Qg, simprocAttr]
    refine Qh.still 1 [4] hC' (by simp [Zu, QS, frzL, QN, frzL_T _ tfl]) ?_
    simp (maxSteps := 4000000) (disch := omega) only [rr, aop, cV, cV1, AV.one, Qb, okW, Qd, app, Qa, Qc, Qf, Qe, Qg, simprocAttr, Qv]
    refine Qh.vc hB' ?_
    simp (maxSteps := 4000000) (disch := omega) only [rr, aop, cV, cV1, AV.one, Qb, okW, Qd, app, Qa, Qc, Qf, Qe, Qg, simprocAttr]
    refine Qh.still 2 [5, 4] hK' (by simp [Zu, QS, frzL, QN, frzL_T _ tfl, frzL_T _ tfs]) ?_
    simp (maxSteps := 4000000) (disch := omega) only [rr, aop, cV, cV1, AV.one, Qb, okW, Qd, app, Qa, Qc, Qf, Qe, Qg, simprocAttr, Qv]
    simp [Zu, QS, frzL, QN, frzL_T _ tfa]

end Go.Am

namespace Go.Am
open Go.RowKit

/-! ### Codes are written bit by bit: the references -/

theorem Qwz (t N V : Nat) : bY t N V ≠ ph := fun e => by have := congrArg Ob.sz e; simp [ph, bY] at this
theorem QxS (ob J : List Ob) (o : Nat) (x y : Ob) (h : o < ob.length) : (ob.set o x ++ J).set o y = ob.set o y ++ J := by rw [List.set_append_left _ _ (by simpa using h), List.set_set]
theorem QxR (ob J : List Ob) (o : Nat) (y : Ob) (h : o < ob.length) : (ob ++ J).set o y = ob.set o y ++ J := List.set_append_left _ _ h
theorem Qx0 (ob J : List Ob) (o : Nat) (x : Ob) (h : o < ob.length) : (ob.set o x ++ J)[o]? = some x := by rw [List.getElem?_append_left (by simpa using h)]; simp [h]
theorem QpB (ob J : List Ob) (o : Nat) (x : Ob) (k : Nat) : (ob.set o x ++ J)[ob.length + k]? = J[k]? := by rw [List.getElem?_append_right (by simp), List.length_set, Nat.add_sub_cancel_left]
theorem Qe1 (ob J : List Ob) (o : Nat) (x : Ob) : (ob.set o x ++ J)[ob.length]? = J[0]? := QpB ob J o x 0
theorem Qo9 (ob J : List Ob) (o : Nat) (x : Ob) (k : Nat) (y : Ob) : (ob.set o x ++ J).set (ob.length + k) y = ob.set o x ++ J.set k y := by rw [List.set_append_right _ _ (by simp), List.length_set, Nat.add_sub_cancel_left]
theorem QeP (ob J : List Ob) (o : Nat) (x : Ob) (y : Ob) : (ob.set o x ++ J).set ob.length y = ob.set o x ++ J.set 0 y := Qo9 ob J o x 0 y

theorem QoE {P : Prg} {f t0 t1 : Nat} (bd : Qj P f 43 [.cell 4 t0] (Qo t0 t1)) (ht : Q4 P t0 = some (some 2)) {ob : List Ob} {o N V b : Nat} (ho : ob[o]? = some (bY t1 N V)) (hV : V < 2 ^ N) (hb : b < 2) (hN : N ≤ 400000) {K : AV → List Ob → Prop}
    (hK : K (.agg [.own o (nB (N + 1)), .int .i64 ((N + 1 : Nat) : Int)]) (ob.set o (bY t1 (N + 1) (V + 2 ^ N * b)))) : ACall P f [.agg [.own o (nB N), .int .i64 N], .int .i64 b] ob K :=
  ACall.withLow bd.ent fun hl => Qsq bd ht ho hV hb hN hl hK

set_option maxHeartbeats 1000000 in
theorem Qcd {P : Prg} {f fA t0 ta tb : Nat} (bd : Qj P f 21 [.cell 6 t0] (QK fA t0)) (bA' : Qj P fA 43 [.cell 4 ta] (Qo ta tb)) (ht : Q4 P t0 = some (some 2)) (hta : Q4 P ta = some (some 2)) {ob : List Ob} {o N V v n : Nat} (ho : ob[o]? = some (bY tb N V)) (hV : V < 2 ^ N) (hv : v < 2 ^ n) (hn : n ≤ 64) (hN : N + n ≤ 400000) {K : AV → List Ob → Prop}
    (hK : K (.agg [.own o (nB (N + n)), .int .i64 ((N + n : Nat) : Int)]) (ob.set o (bY tb (N + n) (V + 2 ^ N * v)))) : ACall P f [.agg [.own o (nB N), .int .i64 N], .int .u64 v, .int .i64 n] ob K := by
  have hol : o < ob.length := (List.getElem?_eq_some_iff.1 ho).1
  refine ACall.withLow bd.ent fun hl => ACall.low (ACall.of_body bd (by simp) ?_)
  simp (maxSteps := 4000000) (disch := omega) only [rr, aop, cV, cV1, AV.one, Qb, okW, Qd, app, Qa, Qc, Qf, Qe, Qg, simprocAttr, QK, List.append_assoc, List.cons_append, List.nil_append]
  refine QJ.by (ι := Nat) (fun j => ⟨[(7, .int .i64 j), (6, .ref (ob.length + 1) 1 0), (3, .ref ob.length 1 0), (2, .int .i64 n), (1, .int .u64 ((v / 2 ^ j : Nat) : Int))],
      ob.set o (bY tb (N + j) (V + 2 ^ N * (v % 2 ^ j))) ++ [⟨t0, 2, 1, [.own o (nB (N + j)), .int .i64 ((N + j : Nat) : Int)], 0⟩, ⟨t0, 2, 1, [.emp true, .int .i64 0], 0⟩]⟩) (fun j => j ≤ n) (fun j => n - j) 0 ?_ (by omega) ?_
  · have : ob.set o (bY tb (N + 0) (V + 2 ^ N * (v % 2 ^ 0))) = ob := by
      rw [Nat.add_zero, Nat.pow_zero, Nat.mod_one, Nat.mul_zero, Nat.add_zero]
      exact Qbw ho
    rw [this]
    exact Le.slots (by simp [Am.look])
  intro j hj
  by_cases hlt : j < n
  · obtain ⟨M, hM⟩ : ∃ M, M = N + j := ⟨_, rfl⟩
    have hW : V + 2 ^ N * (v % 2 ^ j) < 2 ^ M := by
      rw [hM]
      exact ZV hV (Nat.mod_lt _ (Nat.pow_pos (by omega)))
    have hstep := Qxz (V := V) (N := N) (v := v) (j := j) (r := 1)
    rw [← hM, Nat.pow_one] at hstep
    have hd : v / 2 ^ (j + 1) = v / 2 ^ j / 2 := by rw [Nat.pow_succ, Nat.div_div_eq_div_mul]
    have hb : v / 2 ^ j % 2 < 2 := Nat.mod_lt _ (by decide)
    have hvj : v / 2 ^ j < 18446744073709551616 := by
      have h1 : v / 2 ^ j ≤ v := Nat.div_le_self _ _
      have h2 : 2 ^ n ≤ 2 ^ 64 := Nat.pow_le_pow_right (by omega) hn
      omega
    have hMr : N + (j + 1) = M + 1 := by omega
    have hMi : (N : Int) + ((j : Int) + 1) = (M : Int) + 1 := by omega
    rw [← hM]
    generalize V + 2 ^ N * (v % 2 ^ j) = W at *
    generalize hWW : V + 2 ^ N * (v % 2 ^ (j + 1)) = W' at *
    generalize hx1 : v / 2 ^ (j + 1) = x1 at *
    generalize v / 2 ^ j = x at *
    have q1 : ((x : Int)).tmod 2 = ((x % 2 : Nat) : Int) := by rw [Int.tmod_eq_emod_of_nonneg (by omega)]; omega
    have q2 : ((x : Int)).tdiv 2 = ((x / 2 : Nat) : Int) := by rw [Int.tdiv_eq_ediv_of_nonneg (by omega)]; omega
    have ad : ∀ (K : AV → List Ob → Prop), K (.agg [.own o (nB (M + 1)), .int .i64 ((M + 1 : Nat) : Int)]) (ob.set o (bY tb (M + 1) W') ++ [⟨t0, 2, 1, [.own o (nB M), .int .i64 (M : Int)], 0⟩, ⟨t0, 2, 1, [.emp true, .int .i64 0], 0⟩]) →
        ACall P fA [.agg [.own o (nB M), .int .i64 M], .int .i64 ((x % 2 : Nat) : Int)] (ob.set o (bY tb M W) ++ [⟨t0, 2, 1, [.own o (nB M), .int .i64 (M : Int)], 0⟩, ⟨t0, 2, 1, [.emp true, .int .i64 0], 0⟩]) K := fun K h => by
      refine QoE bA' hta (N := M) (V := W) (b := x % 2) (Qx0 _ _ _ _ hol) hW hb (by omega) ?_
      rw [QxS _ _ _ _ _ hol, ← hstep]
      exact h
    simp (maxSteps := 4000000) (disch := omega) only [rr, aop, cV, cV1, AV.one, Qb, okW, Qd, app, Qa, Qc, Qf, Qe, Qg, simprocAttr, QpB, Qe1, Qo9, QeP, q1, q2]
    refine ad _ ?_
    simp (maxSteps := 4000000) (disch := omega) only [rr, aop, cV, cV1, AV.one, Qb, okW, Qd, app, Qa, Qc, Qf, Qe, Qg, simprocAttr, QpB, Qe1, Qo9, QeP, q1, q2]
    refine ⟨j + 1, by omega, by omega, ?_⟩
    simp only [hWW, hMr, hx1, hd]
    simp only [Int.natCast_add, Int.cast_ofNat_Int, hMi]
    exact Le.slots (by simp [Am.look])
  · obtain rfl : j = n := by omega
    rw [Nat.mod_eq_of_lt hv]
    simp (maxSteps := 4000000) (disch := omega) only [rr, aop, cV, cV1, AV.one, Qb, okW, Qd, app, Qa, Qc, Qf, Qe, Qg, simprocAttr, QpB, Qe1, Qo9, QeP, ZK, ht, Zk]
    refine ⟨ob.set o (bY tb (N + j) (V + 2 ^ N * v)), _, rfl, by simp, ?_, by simp [XB, lowL, hol], hK⟩
    rw [List.length_set]
    exact hl.set (lowL_D _ (Zx _ _))

theorem QlM {P : Prg} {f fA t0 ta tb : Nat} (bd : Qj P f 18 [.cell 4 t0] (Ze fA t0)) (bA' : Qj P fA 43 [.cell 4 ta] (Qo ta tb)) (ht : Q4 P t0 = some (some 2)) (hta : Q4 P ta = some (some 2)) {ob : List Ob} {o N V n : Nat} (ho : ob[o]? = some (bY tb N V)) (hV : V < 2 ^ N) (hn : n ≤ 48) (hN : N + n ≤ 300000) {K : AV → List Ob → Prop}
    (hK : K (.agg [.own o (nB (N + uN n)), .int .i64 ((N + uN n : Nat) : Int)]) (ob.set o (bY tb (N + uN n) (V + 2 ^ N * (2 ^ n - 1))))) : ACall P f [.agg [.own o (nB N), .int .i64 N], .int .i64 n] ob K := by
  have hol : o < ob.length := (List.getElem?_eq_some_iff.1 ho).1
  refine ACall.withLow bd.ent fun hl => ACall.low (ACall.of_body bd (by simp) ?_)
  have add1 : ∀ (M W b : Nat) (K : AV → List Ob → Prop), W < 2 ^ M → b < 2 → M ≤ 400000 → K (.agg [.own o (nB (M + 1)), .int .i64 ((M + 1 : Nat) : Int)]) (ob.set o (bY tb (M + 1) (W + 2 ^ M * b)) ++ [⟨t0, 2, 1, [.own o (nB M), .int .i64 (M : Int)], 0⟩, ⟨t0, 2, 1, [.emp true, .int .i64 0], 0⟩]) →
      ACall P fA [.agg [.own o (nB M), .int .i64 M], .int .i64 (b : Int)] (ob.set o (bY tb M W) ++ [⟨t0, 2, 1, [.own o (nB M), .int .i64 (M : Int)], 0⟩, ⟨t0, 2, 1, [.emp true, .int .i64 0], 0⟩]) K := fun M W b K hW hb hM h => by
    refine QoE bA' hta (N := M) (V := W) (b := b) (Qx0 _ _ _ _ hol) hW hb hM ?_
    rw [QxS _ _ _ _ _ hol]
    exact h
  simp (maxSteps := 4000000) (disch := omega) only [rr, aop, cV, cV1, AV.one, Qb, okW, Qd, app, Qa, Qc, Qf, Qe, Qg, simprocAttr, Ze, List.append_assoc, List.cons_append, List.nil_append]
  refine QJ.by (ι := Nat) (fun j => ⟨[(5, .int .i64 j), (4, .ref (ob.length + 1) 1 0), (2, .ref ob.length 1 0), (1, .int .i64 n)],
      ob.set o (bY tb (N + j) (V + 2 ^ N * (2 ^ j - 1))) ++ [⟨t0, 2, 1, [.own o (nB (N + j)), .int .i64 ((N + j : Nat) : Int)], 0⟩, ⟨t0, 2, 1, [.emp true, .int .i64 0], 0⟩]⟩) (fun j => j ≤ n) (fun j => n - j) 0 ?_ (by omega) ?_
  · have : ob.set o (bY tb (N + 0) (V + 2 ^ N * (2 ^ 0 - 1))) = ob := by
      rw [Nat.add_zero, Nat.pow_zero, Nat.sub_self, Nat.mul_zero, Nat.add_zero]
      exact Qbw ho
    rw [this]
    exact Le.slots (by simp [Am.look])
  intro j hj
  obtain ⟨M, hM⟩ : ∃ M, M = N + j := ⟨_, rfl⟩
  have hpj : 0 < 2 ^ j := Nat.pow_pos (by omega)
  have hW : V + 2 ^ N * (2 ^ j - 1) < 2 ^ M := by
    rw [hM]
    exact ZV hV (by omega)
  by_cases hlt : j < n
  · have hstep : V + 2 ^ N * (2 ^ j - 1) + 2 ^ M * 1 = V + 2 ^ N * (2 ^ (j + 1) - 1) := by
      rw [hM, Nat.pow_add, Nat.mul_one, Nat.add_assoc, ← Nat.mul_add, Nat.pow_succ]
      congr 2
      omega
    have hMr : N + (j + 1) = M + 1 := by omega
    have hMi : (N : Int) + ((j : Int) + 1) = (M : Int) + 1 := by omega
    rw [← hM]
    have ad := fun K => add1 M (V + 2 ^ N * (2 ^ j - 1)) 1 K hW (by omega) (by omega)
    rw [hstep] at ad
    generalize V + 2 ^ N * (2 ^ j - 1) = W at *
    generalize hWW : V + 2 ^ N * (2 ^ (j + 1) - 1) = W' at *
    simp (maxSteps := 4000000) (disch := omega) only [rr, aop, cV, cV1, AV.one, Qb, okW, Qd, app, Qa, Qc, Qf, Qe, Qg, simprocAttr, QpB, Qe1, Qo9, QeP]
    refine ad _ ?_
    simp (maxSteps := 4000000) (disch := omega) only [rr, aop, cV, cV1, AV.one, Qb, okW, Qd, app, Qa, Qc, Qf, Qe, Qg, simprocAttr, QpB, Qe1, Qo9, QeP]
    refine ⟨j + 1, by omega, by omega, ?_⟩
    simp only [hWW, hMr]
    simp only [Int.natCast_add, Int.cast_ofNat_Int, hMi]
    exact Le.slots (by simp [Am.look])
  · obtain rfl : j = n := by omega
    have fin : ∀ J, ∃ ob1 J', ob.set o (bY tb (N + uN j) (V + 2 ^ N * (2 ^ j - 1))) ++ J = ob1 ++ J' ∧ ob.length ≤ ob1.length ∧ Low ob1.length ob1 ∧ XB ob1.length (.agg [.own o (nB (N + uN j)), .int .i64 ((N + uN j : Nat) : Int)]) = true ∧ K (.agg [.own o (nB (N + uN j)), .int .i64 ((N + uN j : Nat) : Int)]) ob1 := by
      intro J
      refine ⟨ob.set o (bY tb (N + uN j) (V + 2 ^ N * (2 ^ j - 1))), J, rfl, by simp, ?_, by simp [XB, lowL, hol], hK⟩
      rw [List.length_set]
      exact hl.set (lowL_D _ (Zx _ _))
    by_cases h48 : j < 48
    · have hu : N + uN j = M + 1 := by unfold uN; omega
      have ad := fun K => add1 M (V + 2 ^ N * (2 ^ j - 1)) 0 K hW (by omega) (by omega)
      rw [hu] at fin
      rw [← hM]
      rw [Nat.mul_zero, Nat.add_zero] at ad
      have ad' : ∀ (K : AV → List Ob → Prop), K (.agg [.own o (nB (M + 1)), .int .i64 ((M + 1 : Nat) : Int)]) (ob.set o (bY tb (M + 1) (V + 2 ^ N * (2 ^ j - 1))) ++ [⟨t0, 2, 1, [.own o (nB M), .int .i64 (M : Int)], 0⟩, ⟨t0, 2, 1, [.emp true, .int .i64 0], 0⟩]) →
        ACall P fA [.agg [.own o (nB M), .int .i64 M], .int .i64 0] (ob.set o (bY tb M (V + 2 ^ N * (2 ^ j - 1))) ++ [⟨t0, 2, 1, [.own o (nB M), .int .i64 (M : Int)], 0⟩, ⟨t0, 2, 1, [.emp true, .int .i64 0], 0⟩]) K := ad
      generalize V + 2 ^ N * (2 ^ j - 1) = W at *
      simp only [Int.natCast_add, Int.cast_ofNat_Int] at fin
      simp (maxSteps := 4000000) (disch := omega) only [rr, aop, cV, cV1, AV.one, Qb, okW, Qd, app, Qa, Qc, Qf, Qe, Qg, simprocAttr, QpB, Qe1, Qo9, QeP]
      refine ad' _ ?_
      simp (maxSteps := 4000000) (disch := omega) only [rr, aop, cV, cV1, AV.one, Qb, okW, Qd, app, Qa, Qc, Qf, Qe, Qg, simprocAttr, QpB, Qe1, Qo9, QeP, ZK, ht, Zk]
      exact fin _
    · obtain rfl : j = 48 := by omega
      have hu : N + uN 48 = M := by rw [hM]; rfl
      rw [hu] at fin
      rw [← hM]
      generalize V + 2 ^ N * (2 ^ 48 - 1) = W at *
      simp (maxSteps := 4000000) (disch := omega) only [rr, aop, cV, cV1, AV.one, Qb, okW, Qd, app, Qa, Qc, Qf, Qe, Qg, simprocAttr, QpB, Qe1, Qo9, QeP, ZK, ht, Zk]
      exact fin _

end Go.Am

namespace Go.Am
open Go.RowKit

/-! ### Codes are written bit by bit: the references of rice and dual -/

theorem Qso {P : Prg} {f fQ fU fN fP fA6 t0 ta tb t6 tn fAn : Nat} (bd : Qj P f 28 [.cell 6 t0] (Zd fQ fU fN fP t0)) (hQ : Qks P fQ) (b6 : Qj P fU 18 [.cell 4 t6] (Ze fA6 t6)) (bN : Qj P fN 21 [.cell 6 tn] (QK fAn tn)) (hP : Qcy P fP)
    (bA1 : Qj P fA6 43 [.cell 4 ta] (Qo ta tb)) (bA2 : Qj P fAn 43 [.cell 4 ta] (Qo ta tb)) (ht : Q4 P t0 = some (some 2)) (ht6 : Q4 P t6 = some (some 2)) (htn : Q4 P tn = some (some 2)) (hta : Q4 P ta = some (some 2))
    {ob : List Ob} {o N V v k : Nat} (ho : ob[o]? = some (bY tb N V)) (hV : V < 2 ^ N) (hv : v < 4294967296) (hk : k ≤ 24) (hN : N ≤ 1000) {K : AV → List Ob → Prop}
    (hK : K (.agg [.own o (nB (N + QcW v k)), .int .i64 ((N + QcW v k : Nat) : Int)]) (ob.set o (bY tb (N + QcW v k) (V + 2 ^ N * QfG v k)))) : ACall P f [.agg [.own o (nB N), .int .i64 N], .int .u32 v, .int .i64 k] ob K := by
  have hol : o < ob.length := (List.getElem?_eq_some_iff.1 ho).1
  refine ACall.withLow bd.ent fun hl => ACall.low (ACall.of_body bd (by simp) ?_)
  have hQ' := hQ v k hk hv
  have hP' := hP k (by omega)
  obtain ⟨q1, _⟩ := p24 hk
  have hpk : 0 < 2 ^ k := Nat.pow_pos (by omega)
  have hqv : v / 2 ^ k ≤ v := Nat.div_le_self _ _
  have hrv : v % 2 ^ k < 2 ^ k := Nat.mod_lt _ hpk
  have sA := fun J x y => QxS ob J o x y hol
  have sA0 := fun J y => QxR ob J o y hol
  have gA := fun J x => Qx0 ob J o x hol
  have g0 : ∀ J, (ob ++ J)[o]? = some (bY tb N V) := fun J => by rw [List.getElem?_append_left hol]; exact ho
  unfold QcW QfG at hK
  by_cases hq : 48 ≤ v / 2 ^ k
  · rw [if_pos hq, if_pos hq] at hK
    rw [Nat.min_eq_left hq] at hQ'
    have hQ'' : VC P fQ [.int .u32 v, .int .i64 k] (.int .i64 48) := hQ'
    have hV1 : V + 2 ^ N * (2 ^ 48 - 1) < 2 ^ (N + 48) := ZV hV (by decide)
    have hW : V + 2 ^ N * (2 ^ 48 - 1) + 2 ^ (N + 48) * v = V + 2 ^ N * (2 ^ 48 - 1 + 2 ^ 48 * v) := by rw [Nat.pow_add, Nat.mul_add, Nat.mul_assoc, Nat.add_assoc]
    have a6 : ∀ (K : AV → List Ob → Prop) J, K (.agg [.own o (nB (N + 48)), .int .i64 ((N + 48 : Nat) : Int)]) (ob.set o (bY tb (N + 48) (V + 2 ^ N * (2 ^ 48 - 1))) ++ J) → ACall P fU [.agg [.own o (nB N), .int .i64 N], .int .i64 48] (ob ++ J) K := fun K J h => by
      have := QlM b6 bA1 ht6 hta (n := 48) (g0 J) hV (by omega) (by omega) (K := K)
      rw [sA0] at this
      exact this h
    have aN : ∀ (K : AV → List Ob → Prop) J, K (.agg [.own o (nB (N + 80)), .int .i64 ((N + 80 : Nat) : Int)]) (ob.set o (bY tb (N + 80) (V + 2 ^ N * (2 ^ 48 - 1 + 2 ^ 48 * v))) ++ J) → ACall P fN [.agg [.own o (nB (N + 48)), .int .i64 ((N + 48 : Nat) : Int)], .int .u64 v, .int .i64 32] (ob.set o (bY tb (N + 48) (V + 2 ^ N * (2 ^ 48 - 1))) ++ J) K := fun K J h => by
      have := Qcd bN bA2 htn hta (n := 32) (v := v) (gA J (bY tb (N + 48) (V + 2 ^ N * (2 ^ 48 - 1)))) hV1 hv (by omega) (by omega) (K := K)
      rw [sA, hW, show N + 48 + 32 = N + 80 by omega] at this
      exact this h
    have fin : ∀ J, ∃ ob1 J', ob.set o (bY tb (N + 80) (V + 2 ^ N * (2 ^ 48 - 1 + 2 ^ 48 * v))) ++ J = ob1 ++ J' ∧ ob.length ≤ ob1.length ∧ Low ob1.length ob1 ∧ XB ob1.length (.agg [.own o (nB (N + 80)), .int .i64 ((N + 80 : Nat) : Int)]) = true ∧ K (.agg [.own o (nB (N + 80)), .int .i64 ((N + 80 : Nat) : Int)]) ob1 := by
      intro J
      refine ⟨_, J, rfl, by simp, ?_, by simp [XB, lowL, hol], hK⟩
      rw [List.length_set]
      exact hl.set (lowL_D _ (Zx _ _))
    generalize V + 2 ^ N * (2 ^ 48 - 1 + 2 ^ 48 * v) = W at *
    generalize V + 2 ^ N * (2 ^ 48 - 1) = W1 at *
    simp only [Int.natCast_add, Int.cast_ofNat_Int] at a6 aN fin
    simp (maxSteps := 4000000) (disch := omega) only [rr, aop, cV, cV1, AV.one, Qb, okW, Qd, app, Qa, Qc, Qf, Qe, Qg, simprocAttr, Zd, List.append_assoc, List.cons_append, List.nil_append]
    refine Qh.vc hQ'' ?_
    simp (maxSteps := 4000000) (disch := omega) only [rr, aop, cV, cV1, AV.one, Qb, okW, Qd, app, Qa, Qc, Qf, Qe, Qg, simprocAttr, Qxc, QqK]
    refine a6 _ _ ?_
    simp (maxSteps := 4000000) (disch := omega) only [rr, aop, cV, cV1, AV.one, Qb, okW, Qd, app, Qa, Qc, Qf, Qe, Qg, simprocAttr, QpB, Qe1, Qo9, QeP]
    refine aN _ _ ?_
    simp (maxSteps := 4000000) (disch := omega) only [rr, aop, cV, cV1, AV.one, Qb, okW, Qd, app, Qa, Qc, Qf, Qe, Qg, simprocAttr, QpB, Qe1, Qo9, QeP, ZK, ht, Zk]
    exact fin _
  · rw [if_neg hq, if_neg hq] at hK
    rw [Nat.min_eq_right (by omega)] at hQ'
    have hu : uN (v / 2 ^ k) = v / 2 ^ k + 1 := by unfold uN; omega
    have hlt : 2 ^ (v / 2 ^ k) - 1 < 2 ^ (v / 2 ^ k + 1) := by
      have : 0 < 2 ^ (v / 2 ^ k) := Nat.pow_pos (by omega)
      rw [Nat.pow_succ]; omega
    have hV1 : V + 2 ^ N * (2 ^ (v / 2 ^ k) - 1) < 2 ^ (N + (v / 2 ^ k + 1)) := ZV hV hlt
    have hW : V + 2 ^ N * (2 ^ (v / 2 ^ k) - 1) + 2 ^ (N + (v / 2 ^ k + 1)) * (v % 2 ^ k) = V + 2 ^ N * (2 ^ (v / 2 ^ k) - 1 + 2 ^ (v / 2 ^ k + 1) * (v % 2 ^ k)) := by rw [Nat.pow_add 2 N, Nat.mul_add, Nat.mul_assoc, Nat.add_assoc]
    have a6 : ∀ (K : AV → List Ob → Prop) J, K (.agg [.own o (nB (N + (v / 2 ^ k + 1))), .int .i64 ((N + (v / 2 ^ k + 1) : Nat) : Int)]) (ob.set o (bY tb (N + (v / 2 ^ k + 1)) (V + 2 ^ N * (2 ^ (v / 2 ^ k) - 1))) ++ J) → ACall P fU [.agg [.own o (nB N), .int .i64 N], .int .i64 ((v / 2 ^ k : Nat) : Int)] (ob ++ J) K := fun K J h => by
      have := QlM b6 bA1 ht6 hta (n := v / 2 ^ k) (g0 J) hV (by omega) (by omega) (K := K)
      rw [sA0, hu] at this
      exact this h
    have aN : ∀ (K : AV → List Ob → Prop) J, K (.agg [.own o (nB (N + (v / 2 ^ k + 1 + k))), .int .i64 ((N + (v / 2 ^ k + 1 + k) : Nat) : Int)]) ((ob.set o (bY tb (N + (v / 2 ^ k + 1)) (V + 2 ^ N * (2 ^ (v / 2 ^ k) - 1))) ++ J).set o (bY tb (N + (v / 2 ^ k + 1 + k)) (V + 2 ^ N * (2 ^ (v / 2 ^ k) - 1 + 2 ^ (v / 2 ^ k + 1) * (v % 2 ^ k))))) →
        ACall P fN [.agg [.own o (nB (N + (v / 2 ^ k + 1))), .int .i64 ((N + (v / 2 ^ k + 1) : Nat) : Int)], .int .u64 ((v % 2 ^ k : Nat) : Int), .int .i64 k] (ob.set o (bY tb (N + (v / 2 ^ k + 1)) (V + 2 ^ N * (2 ^ (v / 2 ^ k) - 1))) ++ J) K := fun K J h => by
      have := Qcd bN bA2 htn hta (n := k) (v := v % 2 ^ k) (gA J (bY tb (N + (v / 2 ^ k + 1)) (V + 2 ^ N * (2 ^ (v / 2 ^ k) - 1)))) hV1 hrv (by omega) (by omega) (K := K)
      rw [hW, show N + (v / 2 ^ k + 1) + k = N + (v / 2 ^ k + 1 + k) by omega] at this
      exact this h
    have fin : ∀ J, ∃ ob1 J', ob.set o (bY tb (N + (v / 2 ^ k + 1 + k)) (V + 2 ^ N * (2 ^ (v / 2 ^ k) - 1 + 2 ^ (v / 2 ^ k + 1) * (v % 2 ^ k)))) ++ J = ob1 ++ J' ∧ ob.length ≤ ob1.length ∧ Low ob1.length ob1 ∧ XB ob1.length (.agg [.own o (nB (N + (v / 2 ^ k + 1 + k))), .int .i64 ((N + (v / 2 ^ k + 1 + k) : Nat) : Int)]) = true ∧ K (.agg [.own o (nB (N + (v / 2 ^ k + 1 + k))), .int .i64 ((N + (v / 2 ^ k + 1 + k) : Nat) : Int)]) ob1 := by
      intro J
      refine ⟨_, J, rfl, by simp, ?_, by simp [XB, lowL, hol], hK⟩
      rw [List.length_set]
      exact hl.set (lowL_D _ (Zx _ _))
    have q2 : ((v : Int)).tmod ((2 ^ k : Nat) : Int) = ((v % 2 ^ k : Nat) : Int) := by rw [Int.tmod_eq_emod_of_nonneg (by omega), Int.natCast_emod]
    have q3 : (((2 ^ k : Nat) : Int)) ≠ 0 := by omega
    have q4 : (v : Int) % ((2 ^ k : Nat) : Int) = ((v % 2 ^ k : Nat) : Int) := by rw [Int.natCast_emod]
    generalize V + 2 ^ N * (2 ^ (v / 2 ^ k) - 1 + 2 ^ (v / 2 ^ k + 1) * (v % 2 ^ k)) = W at *
    generalize V + 2 ^ N * (2 ^ (v / 2 ^ k) - 1) = W1 at *
    generalize v / 2 ^ k = q at *
    generalize v % 2 ^ k = r at *
    generalize 2 ^ k = pk at *
    generalize N + (q + 1 + k) = M2 at *
    obtain ⟨M1, hM1⟩ : ∃ M1, M1 = N + (q + 1) := ⟨_, rfl⟩
    rw [← hM1] at a6 aN hV1
    have hne : bY tb M1 W1 ≠ ph := Qwz _ _ _
    simp (maxSteps := 4000000) (disch := omega) only [rr, aop, cV, cV1, AV.one, Qb, okW, Qd, app, Qa, Qc, Qf, Qe, Qg, simprocAttr, Zd, List.append_assoc, List.cons_append, List.nil_append]
    refine Qh.vc hQ' ?_
    simp (maxSteps := 4000000) (disch := omega) only [rr, aop, cV, cV1, AV.one, Qb, okW, Qd, app, Qa, Qc, Qf, Qe, Qg, simprocAttr, Qxc, QqK]
    refine a6 _ _ ?_
    simp (maxSteps := 4000000) (disch := omega) only [rr, aop, cV, cV1, AV.one, Qb, okW, Qd, app, Qa, Qc, Qf, Qe, Qg, simprocAttr, QpB, Qe1, Qo9, QeP]
    refine Q2.vc hP' ?_
    simp (maxSteps := 4000000) (disch := omega) only [rr, aop, cV, cV1, AV.one, Qb, okW, Qd, app, Qa, Qc, Qf, Qe, Qg, simprocAttr, QpB, Qe1, Qo9, QeP, q2, q3, q4]
    refine callE.by (o := o) (gA _ _) hne (fun K hK => aN K _ hK) ?_
    simp (maxSteps := 4000000) (disch := omega) only [rr, aop, cV, cV1, AV.one, Qb, okW, Qd, app, Qa, Qc, Qf, Qe, Qg, simprocAttr, sA, QpB, Qe1, Qo9, QeP, ZK, ht, Zk]
    exact fin _

def QtV (P : Prg) (f : Nat) : Prop := ∀ (d : Dl) (v : Nat) (z : Bool), okD d → v < 4294967296 → VC P f [.agg [.emp z, .int .i64 0], dlA d, .int .u32 v] (bA (Qdw d v) (QhT d v))
set_option maxHeartbeats 1000000 in
theorem Qsn {P : Prg} {f fL fA fN fF fR fQ fU fN2 fP fA6 fAn fAn2 t0 t1 ta tb t6 t7 tn : Nat} (bd : Qj P f 25 [.cell 6 t0] (ZQ fL fA fN fF fR t0 t1)) (hL : QpQ P fL) (hF : Qku P fF) (bA0 : Qj P fA 43 [.cell 4 ta] (Qo ta tb)) (bN : Qj P fN 21 [.cell 6 tn] (QK fAn tn)) (bAn : Qj P fAn 43 [.cell 4 ta] (Qo ta tb))
    (bR : Qj P fR 28 [.cell 6 t7] (Zd fQ fU fN2 fP t7)) (hQ : Qks P fQ) (b6 : Qj P fU 18 [.cell 4 t6] (Ze fA6 t6)) (bN2 : Qj P fN2 21 [.cell 6 tn] (QK fAn2 tn)) (hP : Qcy P fP)
    (bA1 : Qj P fA6 43 [.cell 4 ta] (Qo ta tb)) (bA2 : Qj P fAn2 43 [.cell 4 ta] (Qo ta tb)) (ht : Q4 P t0 = some (some 2)) (ht7 : Q4 P t7 = some (some 2)) (ht6 : Q4 P t6 = some (some 2)) (htn : Q4 P tn = some (some 2)) (hta : Q4 P ta = some (some 2)) : QtV P f := by
  intro d v z hd hv
  refine VC.of_walk 1 (by simp [isDL, isD, QnU]) (Qdm _ _) (ACall.pad (ACall.of_body bd (by simp) ?_))
  have hL' := hL d v hd hv
  have hF' := hF d v hd hv
  obtain ⟨k0, k1, s0, s1⟩ := d
  obtain ⟨h1, h2, h3, h4⟩ := hd
  simp only at h1 h2 h3 h4
  have one : ∀ b, b < 2 → ∀ ob', ob'[0]? = some ph2 → ACall P fA [.agg [.emp z, .int .i64 0], .int .i64 ((b : Nat) : Int)] ob' (fun r' ob'' => r' = .agg [.own 0 (nB 1), .int .i64 1] ∧ ob'' = ob'.set 0 (bY tb 1 b)) := by
    intro b hb ob' h
    refine ACall.virtP h tb 1 (by decide) ?_
    have hol := (List.getElem?_eq_some_iff.1 h).1
    refine QoE bA0 hta (o := 0) (N := 0) (V := 0) (b := b) (by rw [List.getElem?_set_self hol]; rfl) (by decide) hb (by omega) ⟨rfl, ?_⟩
    rw [List.set_set, Nat.pow_zero, Nat.one_mul, Nat.zero_add, Nat.zero_add]
  unfold Qdw QhT
  simp only [dlA, dlC] at hL' hF' ⊢
  by_cases c : v < 2 ^ k0
  · simp only [c, decide_true] at hL'
    simp only [c, if_true]
    have hV1 : (0 : Nat) < 2 ^ 1 := by decide
    have aN : ∀ (K : AV → List Ob → Prop) J, K (.agg [.own 0 (nB (1 + k0)), .int .i64 ((1 + k0 : Nat) : Int)]) ((bY tb 1 0 :: J).set 0 (bY tb (1 + k0) (2 * v))) → ACall P fN [.agg [.own 0 (nB 1), .int .i64 1], .int .u64 v, .int .i64 k0] (bY tb 1 0 :: J) K := fun K J h => by
      have := Qcd bN bAn htn hta (ob := bY tb 1 0 :: J) (o := 0) (N := 1) (V := 0) (v := v) (n := k0) rfl hV1 c (by omega) (by omega) (K := K)
      rw [Nat.pow_one, Nat.zero_add] at this
      exact this h
    have tl : isTL (u8 (leB (2 * v) (nB (1 + k0)))) = true := QT _
    have o0 := one 0 (by decide)
    simp (maxSteps := 4000000) (disch := omega) only [rr, aop, cV, cV1, AV.one, Qb, okW, Qd, app, Qa, Qc, Qf, Qe, Qg, simprocAttr, ZQ]
    refine Qh.vc hL' ?_
    simp (maxSteps := 4000000) (disch := omega) only [rr, aop, cV, cV1, AV.one, Qb, okW, Qd, app, Qa, Qc, Qf, Qe, Qg, simprocAttr]
    refine Q2.at 0 (bY tb 1 0) bA0.ent o0 rfl Nat.one_ne_zero ?_
    simp (maxSteps := 4000000) (disch := omega) only [rr, aop, cV, cV1, AV.one, Qb, okW, Qd, app, Qa, Qc, Qf, Qe, Qg, simprocAttr]
    refine callE.by (o := 0) (x := bY tb 1 0) rfl (Qwz _ _ _) (fun K hK => aN K _ hK) ?_
    simp (maxSteps := 4000000) (disch := omega) only [rr, aop, cV, cV1, AV.one, Qb, okW, Qd, app, Qa, Qc, Qf, Qe, Qg, simprocAttr, ZK, ht, Zk]
    simp [Zu, QS, frzL, QN, frzL_T _ tl, bY, bA]
  · simp only [c, decide_false] at hL'
    simp only [c, if_false]
    have hF'' := hF' (by omega)
    have hl : v - 2 ^ k0 < 4294967296 := Nat.lt_of_le_of_lt (Nat.sub_le _ _) hv
    generalize v - 2 ^ k0 = lf at *
    have aR : ∀ (K : AV → List Ob → Prop) J, K (.agg [.own 0 (nB (1 + QcW lf k1)), .int .i64 ((1 + QcW lf k1 : Nat) : Int)]) ((bY tb 1 1 :: J).set 0 (bY tb (1 + QcW lf k1) (1 + 2 * QfG lf k1))) → ACall P fR [.agg [.own 0 (nB 1), .int .i64 1], .int .u32 lf, .int .i64 k1] (bY tb 1 1 :: J) K := fun K J h => by
      have := Qso bR hQ b6 bN2 hP bA1 bA2 ht7 ht6 htn hta (ob := bY tb 1 1 :: J) (o := 0) (N := 1) (V := 1) (v := lf) (k := k1) rfl (by decide) hl h2 (by omega) (K := K)
      rw [Nat.pow_one] at this
      exact this h
    generalize QcW lf k1 = rn at *
    generalize 1 + 2 * QfG lf k1 = W at *
    have tl : isTL (u8 (leB W (nB (1 + rn)))) = true := QT _
    have o1 := one 1 (by decide)
    simp (maxSteps := 4000000) (disch := omega) only [rr, aop, cV, cV1, AV.one, Qb, okW, Qd, app, Qa, Qc, Qf, Qe, Qg, simprocAttr, ZQ]
    refine Qh.vc hL' ?_
    simp (maxSteps := 4000000) (disch := omega) only [rr, aop, cV, cV1, AV.one, Qb, okW, Qd, app, Qa, Qc, Qf, Qe, Qg, simprocAttr]
    refine Q2.at 0 (bY tb 1 1) bA0.ent o1 rfl Nat.one_ne_zero ?_
    simp (maxSteps := 4000000) (disch := omega) only [rr, aop, cV, cV1, AV.one, Qb, okW, Qd, app, Qa, Qc, Qf, Qe, Qg, simprocAttr]
    refine Q2.vc hF'' ?_
    simp (maxSteps := 4000000) (disch := omega) only [rr, aop, cV, cV1, AV.one, Qb, okW, Qd, app, Qa, Qc, Qf, Qe, Qg, simprocAttr]
    refine callE.by (o := 0) (x := bY tb 1 1) rfl (Qwz _ _ _) (fun K hK => aR K _ hK) ?_
    simp (maxSteps := 4000000) (disch := omega) only [rr, aop, cV, cV1, AV.one, Qb, okW, Qd, app, Qa, Qc, Qf, Qe, Qg, simprocAttr, ZK, ht, Zk]
    simp [Zu, QS, frzL, QN, frzL_T _ tl, bY, bA]

end Go.Am

namespace Go.Am
open Go.RowKit

/-! ### The states before the values -/

theorem QcM {c r : Nat} {v : List Nat} : ∀ i, i ≤ v.length → Zb c r (v.take i) = Qol c r v i
  | 0, _ => by rw [List.take_zero]; rfl
  | i + 1, h => by
    have ht : v.take (i + 1) = v.take i ++ [v.getD i 0] := by
      rw [List.take_succ_eq_append_getElem (by omega : i < v.length)]
      simp [List.getD_eq_getElem?_getD, List.getElem?_eq_getElem (by omega : i < v.length)]
    have hl : (v.take i).length = i := by simp; omega
    rw [ht, QgF, hl, Qe7, QcM i (by omega)]
theorem Qq7 {c i : Nat} {v : List Nat} (h : i < c) (hi : i ≤ v.length) : Zb c (i % c) (v.take i) = QH := by
  have hl : (v.take i).length = i := by simp; omega
  have h1 := Qe8 (c := c) (r := i % c) (i := 0) (v := v) i (fun t _ h2 => by rw [Nat.mod_eq_of_lt (by omega), Nat.mod_eq_of_lt h]; omega)
  rw [Nat.zero_add] at h1
  rw [QcM i hi, h1]
  rfl
theorem Qtu {c i : Nat} {v : List Nat} (hc : 1 ≤ c) (h : c ≤ i) (hi : i ≤ v.length) : Zb c (i % c) (v.take i) = XS (Zb c ((i - c) % c) (v.take (i - c))) (v.getD (i - c) 0) := by
  have hr : (i - c) % c = i % c := by
    conv => rhs; rw [show i = i - c + c by omega, Nat.add_mod_right]
  rw [QcM i hi, QcM (i - c) (by omega), hr]
  have h1 := Qe8 (c := c) (r := i % c) (i := i - c + 1) (v := v) (c - 1) (fun t h1 h2 => Qw4 hr (by omega) (by omega))
  rw [show i - c + 1 + (c - 1) = i by omega] at h1
  rw [h1, Qe7, if_pos hr]

def stL (c : Nat) (v : List Nat) : Nat → List AV
  | 0 => []
  | i + 1 => stL c v i ++ dlC (Zb c (i % c) (v.take i))
theorem Qgf (c : Nat) (v : List Nat) : ∀ m, (stL c v m).length = m * 4
  | 0 => rfl
  | m + 1 => by rw [stL, List.length_append, Qgf c v m]; simp only [dlC, List.length_cons, List.length_nil]; omega
theorem Qu4 (d : Dl) : isTL (dlC d) = true := rfl
theorem Qeo (c : Nat) (v : List Nat) : ∀ m, isTL (stL c v m) = true
  | 0 => rfl
  | m + 1 => by rw [stL, QbE, Qeo c v m, Qu4]; rfl
theorem QrP {c : Nat} {v : List Nat} : ∀ {m i : Nat}, i < m → ∃ r, (stL c v m).drop (i * 4) = .int .i64 (Zb c (i % c) (v.take i)).k0 :: .int .i64 (Zb c (i % c) (v.take i)).k1 :: .int .u64 (Zb c (i % c) (v.take i)).s0 :: .int .u64 (Zb c (i % c) (v.take i)).s1 :: r
  | m + 1, i, h => by
    rw [stL]
    by_cases e : i = m
    · subst e
      rw [List.drop_left' (Qgf c v i)]
      exact ⟨[], rfl⟩
    · obtain ⟨r, hr⟩ := QrP (c := c) (v := v) (show i < m by omega)
      rw [List.drop_append_of_le_length (by rw [Qgf]; omega), hr]
      exact ⟨_, rfl⟩

def QgS (P : Prg) (f : Nat) : Prop := ∀ (c : Nat) (v : List Nat), 1 ≤ c → c ≤ 6 → v.length ≤ 4000 → N32 v → VC P f [.int .i64 c, QuU v] (.list v.length (stL c v v.length))
set_option maxHeartbeats 1000000 in
theorem QlF {P : Prg} {f fS fL t0 : Nat} (bd : Qj P f 37 [.tmp 4] (Z2 fS fL t0)) (hS : Qcx P fS) (hL : Qkv P fL) : QgS P f := by
  intro c v hc hc6 hv h32
  refine VC.of_walk 1 (by simp [isDL, Qpv, isD]) (by simp only [isD]; exact Qie (Qeo _ _ _)) (ACall.of_body bd (by simp) ?_)
  have hln : (ks .u32 (v.map fun n : Nat => (n : Int))).length = v.length := by simp [ks]
  simp only [Qcx, QH, dlA, dlC] at hS
  simp (maxSteps := 4000000) (disch := omega) only [rr, aop, cV, cV1, AV.one, Qb, okW, Qd, app, Qa, Qc, Qf, Qe, Qg, simprocAttr, Z2, QuU, Qne, List.length_map]
  refine QJ.by (ι := Nat) (fun i => ⟨[(6, .int .i64 i), (5, .own 0 i), (1, .list v.length (ks .u32 (v.map fun n : Nat => (n : Int)))), (0, .int .i64 c)], [⟨t0, 4, i, stL c v i, 0⟩]⟩) (fun i => i ≤ v.length) (fun i => v.length - i) 0
    (Le.trans (Le.virt 5 t0 4 (by decide) rfl) (Le.slots (by simp [Am.look]))) (by omega) ?_
  intro i hi
  have hlen := Qgf c v i
  have hD := Qie (Qeo c v (i + 1))
  by_cases hlt : i < v.length
  · have hs : stL c v (i + 1) = stL c v i ++ dlC (Zb c (i % c) (v.take i)) := rfl
    by_cases h1 : i < c
    · rw [Qq7 h1 hi] at hs
      rw [hs] at hD
      have hs' : stL c v (i + 1) = stL c v i ++ [.int .i64 10, .int .i64 10, .int .u64 16384, .int .u64 16384] := hs
      have hD' : isDL (stL c v i ++ [.int .i64 10, .int .i64 10, .int .u64 16384, .int .u64 16384]) = true := hD
      generalize hg : stL c v i = S at *
      simp (maxSteps := 4000000) (disch := omega) only [rr, aop, cV, cV1, AV.one, Qb, okW, Qd, app, Qa, Qc, Qf, Qe, Qg, simprocAttr]
      refine Qh.vc hS ?_
      simp (maxSteps := 4000000) (disch := omega) only [rr, aop, cV, cV1, AV.one, Qb, okW, Qd, app, Qa, Qc, Qf, Qe, Qg, simprocAttr, hlen]
      refine ⟨i + 1, by omega, by omega, ?_⟩
      rw [hs']
      refine Le.low (ob := [⟨t0, 4, i + 1, S ++ [.int .i64 10, .int .i64 10, .int .u64 16384, .int .u64 16384], 0⟩]) (J := [_]) (Nat.zero_le _) ?_ ?_
      · exact (Low.cons (lowL_D _ hD') Low.nil)
      · simp [Am.look, XB, lowL_D _ (QM _ _)]
    · have hcb := Qtu hc (by omega : c ≤ i) hi
      obtain ⟨rest, hat⟩ := QrP (c := c) (v := v) (m := i) (i := i - c) (by omega)
      have hok := QjL (c := c) (r := (i - c) % c) (h32.take (i - c))
      have hx := h32.getD (i - c)
      have hL' := hL _ _ hok hx
      rw [← hcb] at hL'
      have e2 := Qbn (K := .u32) (l := v.map fun n : Nat => (n : Int)) (i := i - c) (by simp; omega)
      have hgd : (v.map fun n : Nat => (n : Int)).getD (i - c) 0 = ((v.getD (i - c) 0 : Nat) : Int) := by simp [List.getD_eq_getElem?_getD, List.getElem?_eq_getElem (by omega : i - c < v.length)]
      rw [hgd] at e2
      rw [hs] at hD
      generalize hg : stL c v i = S at *
      generalize Zb c (i % c) (v.take i) = d' at *
      generalize Zb c ((i - c) % c) (v.take (i - c)) = d at *
      generalize v.getD (i - c) 0 = x at *
      obtain ⟨l0, l1, l2, l3⟩ := d
      obtain ⟨m0, m1, m2, m3⟩ := d'
      simp only [dlA, dlC] at hL' hs hD
      simp only at hat
      have ic : ((i : Int) - c).toNat = i - c := by omega
      have ii : (i : Int) - c = ((i - c : Nat) : Int) := by omega
      simp (maxSteps := 4000000) (disch := omega) only [rr, aop, cV, cV1, AV.one, Qb, okW, Qd, app, Qa, Qc, Qf, Qe, Qg, simprocAttr, hln, e2, hlen, hat, ii, ic]
      refine Q2.vc hL' ?_
      simp (maxSteps := 4000000) (disch := omega) only [rr, aop, cV, cV1, AV.one, Qb, okW, Qd, app, Qa, Qc, Qf, Qe, Qg, simprocAttr, hln, e2, hlen, hat, ii, ic]
      refine ⟨i + 1, by omega, by omega, ?_⟩
      rw [hs]
      refine Le.low (ob := [⟨t0, 4, i + 1, S ++ [.int .i64 m0, .int .i64 m1, .int .u64 m2, .int .u64 m3], 0⟩]) (J := [_, _]) (Nat.zero_le _) ?_ ?_
      · exact (Low.cons (lowL_D _ hD) Low.nil)
      · simp [Am.look, XB, lowL_D _ (QM _ _)]
  · obtain rfl : i = v.length := by omega
    have hT := Qeo c v v.length
    generalize stL c v v.length = S at *
    simp (maxSteps := 4000000) (disch := omega) only [rr, aop, cV, cV1, AV.one, Qb, okW, Qd, app, Qa, Qc, Qf, Qe, Qg, simprocAttr]
    simp [Zu, QS, frzL, QN, frzL_T _ hT]

end Go.Am

namespace Go.Am
open Go.RowKit

/-! ### The bytes of a frame: the reference -/

def Qkf (P : Prg) (f : Nat) : Prop := ∀ (c : Nat) (v : List Nat), 1 ≤ c → c ≤ 6 → v.length ≤ 4000 → N32 v → VC P f [.int .i64 c, QuU v] (bs (ZJ (QcY c v)))
set_option maxHeartbeats 2000000 in
theorem QnE {P : Prg} {f fS fA fZ t0 tb : Nat} (bd : Qj P f 69 [.tmp 4] (Xq fS fA fZ t0 tb)) (hS : QgS P fS) (hA : QtV P fA) (hZ : Qkm P fZ) : Qkf P f := by
  intro c v hc hc6 hv h32
  refine VC.of_walk 1 (by simp [isDL, Qpv, isD]) (Zq _) (ACall.of_body bd (by simp) ?_)
  have hln : (ks .u32 (v.map fun n : Nat => (n : Int))).length = v.length := by simp [ks]
  have hS' := hS c v hc hc6 hv h32
  have hfb := Qbp (c := c) h32
  have hsl := Qgf c v v.length
  simp only [QuU, Qne, List.length_map] at hS' ⊢
  simp (maxSteps := 4000000) (disch := omega) only [rr, aop, cV, cV1, AV.one, Qb, okW, Qd, app, Qa, Qc, Qf, Qe, Qg, simprocAttr, Xq]
  refine Qh.vc hS' ?_
  simp (maxSteps := 4000000) (disch := omega) only [rr, aop, cV, cV1, AV.one, Qb, okW, Qd, app, Qa, Qc, Qf, Qe, Qg, simprocAttr]
  refine QJ.by (ι := Nat) (fun i => ⟨[(8, .int .i64 i), (7, .list v.length (stL c v v.length)), (6, .int .i64 (Qfy c v i)), (5, .own 0 (nB (Qfy c v i))), (1, .list v.length (ks .u32 (v.map fun n : Nat => (n : Int))))], [bY tb (Qfy c v i) (QqM c v i)]⟩) (fun i => i ≤ v.length) (fun i => v.length - i) 0 ?_ (by omega) ?_
  · rw [Qgw, Qgu, show bY tb 0 0 = ⟨tb, 1, 0, [], 0⟩ from rfl, show nB 0 = 0 from rfl]
    exact Le.trans (Le.virt 5 tb 1 (by decide) rfl) (Le.slots (by simp [Am.look]))
  intro i hi
  by_cases hlt : i < v.length
  · obtain ⟨rest, hat⟩ := QrP (c := c) (v := v) hlt
    have hd := QjL (c := c) (r := i % c) (h32.take i)
    have hvi := h32.getD i
    have hA' := hA _ _ true hd hvi
    have e2 := Qbn (K := .u32) (l := v.map fun n : Nat => (n : Int)) (i := i) (by simpa using hlt)
    have hgd : (v.map fun n : Nat => (n : Int)).getD i 0 = ((v.getD i 0 : Nat) : Int) := by simp [List.getD_eq_getElem?_getD, List.getElem?_eq_getElem hlt]
    rw [hgd] at e2
    obtain ⟨hV, hN1, _⟩ := hfb i
    have hCl := QjH (d := Zb c (i % c) (v.take i)) hvi
    have hcn := QjG (v := v.getD i 0) hd
    have hsN := Qgx c v i
    have hsV := Qgv c v i
    have hD4 := Qie (Qeo c v v.length)
    generalize hN2 : Qfy c v (i + 1) = N2 at *
    generalize hV2 : QqM c v (i + 1) = V2 at *
    generalize Qfy c v i = N at *
    generalize QqM c v i = V at *
    generalize Qdw (Zb c (i % c) (v.take i)) (v.getD i 0) = n at *
    generalize QhT (Zb c (i % c) (v.take i)) (v.getD i 0) = C at *
    generalize Zb c (i % c) (v.take i) = d at *
    generalize v.getD i 0 = vi at *
    generalize stL c v v.length = S at *
    obtain ⟨d0, d1, d2, d3⟩ := d
    simp only [dlA, dlC, bA] at hA'
    simp only at hat
    simp (maxSteps := 4000000) (disch := omega) only [rr, aop, cV, cV1, AV.one, Qb, okW, Qd, app, Qa, Qc, Qf, Qe, Qg, simprocAttr, hln, e2, hsl, hat]
    refine Q2.vc hA' ?_
    simp (maxSteps := 4000000) (disch := omega) only [rr, aop, cV, cV1, AV.one, Qb, okW, Qd, app, Qa, Qc, Qf, Qe, Qg, simprocAttr]
    refine QJ.by (ι := Nat) (fun k => ⟨[(10, .int .i64 k), (9, .ref 1 1 0), (8, .int .i64 i), (7, .list v.length S), (6, .int .i64 ((N + k : Nat) : Int)), (5, .own 0 (nB (N + k))), (1, .list v.length (ks .u32 (v.map fun n : Nat => (n : Int))))],
        [bY tb (N + k) (V + 2 ^ N * (C % 2 ^ k)), ⟨t0, 2, 1, [.list (nB n) (u8 (leB C (nB n))), .int .i64 n], 0⟩]⟩) (fun k => k ≤ n) (fun k => n - k) 0 ?_ (by omega) ?_
    · rw [Nat.add_zero, Nat.pow_zero, Nat.mod_one, Nat.mul_zero, Nat.add_zero]
      exact Le.slots (by simp [Am.look])
    intro k hk
    by_cases hkl : k < n
    · obtain ⟨M, hM⟩ : ∃ M, M = N + k := ⟨_, rfl⟩
      obtain ⟨ii, hii⟩ : ∃ i, i = M / 8 := ⟨_, rfl⟩
      obtain ⟨a, ha⟩ : ∃ a, a = M % 8 := ⟨_, rfl⟩
      obtain ⟨q, hq⟩ : ∃ q, q = k / 8 := ⟨_, rfl⟩
      obtain ⟨r, hr⟩ : ∃ r, r = k % 8 := ⟨_, rfl⟩
      obtain ⟨b, hb0⟩ : ∃ b, b = C / 2 ^ k % 2 := ⟨_, rfl⟩
      have hM8 : M = 8 * ii + a := by omega
      have hj8 : 8 * q + r = k := by omega
      have hb : b < 2 := by rw [hb0]; exact Nat.mod_lt _ (by decide)
      have hW : V + 2 ^ N * (C % 2 ^ k) < 2 ^ M := by
        rw [hM]
        exact ZV hV (Nat.mod_lt _ (Nat.pow_pos (by omega)))
      have hstep := Qxz (V := V) (N := N) (v := C) (j := k) (r := 1)
      rw [← hM, Nat.pow_one, ← hb0] at hstep
      have hbat := QsP (V := C) (k := nB n) (i := q) (by unfold nB; omega)
      have hbit := QvC C q r (by omega)
      rw [hj8, ← hb0] at hbit
      have hby : C / 256 ^ q % 256 < 256 := Nat.mod_lt _ (by decide)
      have s1 : Qs false .u8 ((C / 256 ^ q % 256 : Nat) : Int) (r : Int) = some (.int .u8 ((C / 256 ^ q % 256 / 2 ^ r : Nat) : Int)) := Qi8 (K := .u8) (by show r ≤ 8; omega)
      have hle : C / 256 ^ q % 256 / 2 ^ r ≤ C / 256 ^ q % 256 := Nat.div_le_self _ _
      generalize C / 256 ^ q % 256 / 2 ^ r = y1 at *
      generalize C / 256 ^ q % 256 = y0 at *
      have s2 : ((y1 : Int)).tmod 2 = (b : Int) := by rw [Int.tmod_eq_emod_of_nonneg (by omega)]; omega
      have s2' : (y1 : Int) % 2 = (b : Int) := by omega
      have hq1 : (k : Int) / 8 = (q : Int) := by omega
      have hr1 : (k : Int) % 8 = (r : Int) := by omega
      have hi1 : (M : Int) / 8 = (ii : Int) := by omega
      have ha1 : (M : Int) % 8 = (a : Int) := by omega
      have hnq : q < nB n := by unfold nB; omega
      have hMr : N + (k + 1) = M + 1 := by omega
      have hMi : (N : Int) + ((k : Int) + 1) = (M : Int) + 1 := by omega
      have hM4 : M ≤ 400000 := by omega
      rw [← hM]
      generalize V + 2 ^ N * (C % 2 ^ k) = W at *
      generalize hWW : V + 2 ^ N * (C % 2 ^ (k + 1)) = W' at *
      have h2a : 2 ^ a ≤ 2 ^ 7 := Nat.pow_le_pow_right (by omega) (by omega)
      have hpos : 0 < 2 ^ a := Nat.pow_pos (by omega)
      obtain ⟨l1, l2⟩ := QaE (V := W) (i := ii) (at_ := a) (by rw [← hM8]; exact hW) (by omega)
      obtain ⟨b1, b2, _⟩ := JQ (V := W) (i := ii) (at_ := a) (w := b) (r := 1) (by rw [← hM8]; exact hW) (by omega) (by omega)
      rw [← hM8, ← hstep] at b1
      have hyb : W / 256 ^ ii < 256 := by omega
      have hyb2 : W / 256 ^ ii + 2 ^ a * b < 256 := by
        have : 2 ^ (a + 1) ≤ 2 ^ 8 := Nat.pow_le_pow_right (by omega) (by omega)
        omega
      have hu : ∀ y, y < 256 → u8 [UInt8.ofNat y] = [.int .u8 (y : Int)] := fun y hy => by simp [u8]; omega
      have e7 : Qs true .u8 1 (a : Int) = some (.int .u8 ((2 ^ a : Nat) : Int)) := by
        have := Qr5 (K := .u8) rfl (c := 1) (s := a) (by show a ≤ 8; omega) (by show 1 * 2 ^ a < 256; omega)
        rw [Nat.one_mul] at this
        exact this
      have hnB : nB (M + 1) = ii + 1 := by unfold nB; omega
      have hcell : u8 (leB W' (ii + 1)) = u8 (leB W ii) ++ [.int .u8 ((W / 256 ^ ii + 2 ^ a * b : Nat) : Int)] := by
        rw [b1, show u8 (leB W ii ++ [UInt8.ofNat (W / 256 ^ ii + 2 ^ a * b)]) = u8 (leB W ii) ++ u8 [UInt8.ofNat (W / 256 ^ ii + 2 ^ a * b)] by simp [u8]]
        rw [hu _ hyb2]
      have hlen : (u8 (leB W ii)).length = ii := by simp [u8, Qi]
      have d1 : ∀ z : AV, (u8 (leB W ii) ++ [z]).drop ii = [z] := fun z => by rw [List.drop_left' hlen]
      have d2 : ∀ z : AV, (u8 (leB W ii) ++ [z]).take ii = u8 (leB W ii) := fun z => by rw [List.take_left' hlen]
      have d3 : ∀ z : AV, (u8 (leB W ii) ++ [z]).drop (ii + 1) = [] := fun z => List.drop_of_length_le (by simp [hlen])
      have hcl : (u8 (leB C (nB n))).length = nB n := by simp [u8, Qi]
      have hby' : bY tb (M + 1) W' = ⟨tb, 1, ii + 1, u8 (leB W ii) ++ [.int .u8 ((W / 256 ^ ii + 2 ^ a * b : Nat) : Int)], 0⟩ := by rw [bY, hnB, hcell]
      have low : Low 2 [bY tb (M + 1) W', ⟨t0, 2, 1, [.list (nB n) (u8 (leB C (nB n))), .int .i64 n], 0⟩] := Low.cons (lowL_D _ (Zx _ _)) (Low.cons (by simp [lowL, XB, lowL_D _ (Zx _ _)]) Low.nil)
      have hb01 : b = 0 ∨ b = 1 := by omega
      by_cases h0 : a = 0
      · subst h0
        have hnM : nB M = ii := by unfold nB; omega
        have hW0 : W / 256 ^ ii = 0 := by
          have := l2
          rw [Nat.pow_zero] at this
          exact Nat.lt_one_iff.1 this
        rw [hW0, Nat.zero_add, Nat.pow_zero, Nat.one_mul] at hby'
        rw [Nat.pow_zero] at e7
        have e7' : Qs true .u8 1 0 = some (.int .u8 1) := e7
        have ha1' : (M : Int) % 8 = 0 := ha1
        rcases hb01 with rfl | rfl
        · have z0 : bY tb (M + 1) W' = ⟨tb, 1, ii + 1, u8 (leB W ii) ++ [.int .u8 0], 0⟩ := hby'
          simp only [bY] at z0
          simp only [bY] at low ⊢
          simp (maxSteps := 4000000) (disch := omega) only [rr, aop, cV, cV1, AV.one, Qb, okW, Qd, app, Qa, Qc, Qf, Qe, Qg, simprocAttr, hnM, hlen, hcl, hbat, s1, s2, s2', hq1, hr1, hi1, ha1', d1, d2, d3]
          refine ⟨k + 1, by omega, by omega, ?_⟩
          simp only [hWW, hMr]
          simp only [Int.natCast_add, Int.cast_ofNat_Int, hMi]
          rw [← z0]
          refine Le.low (ob := [_, _]) (J := [_]) (Nat.zero_le _) low ?_
          simp [Am.look, XB, lowL_D _ (QM _ _), lowL_D _ hD4, hnB]
        · have z0 : bY tb (M + 1) W' = ⟨tb, 1, ii + 1, u8 (leB W ii) ++ [.int .u8 1], 0⟩ := hby'
          simp only [bY] at z0
          simp only [bY] at low ⊢
          simp (maxSteps := 4000000) (disch := omega) only [rr, aop, cV, cV1, AV.one, Qb, okW, Qd, app, Qa, Qc, Qf, Qe, Qg, simprocAttr, hnM, hlen, hcl, hbat, s1, s2, s2', e7', hq1, hr1, hi1, ha1', d1, d2, d3]
          refine ⟨k + 1, by omega, by omega, ?_⟩
          simp only [hWW, hMr]
          simp only [Int.natCast_add, Int.cast_ofNat_Int, hMi]
          rw [← z0]
          refine Le.low (ob := [_, _]) (J := [_]) (Nat.zero_le _) low ?_
          simp [Am.look, XB, lowL_D _ (QM _ _), lowL_D _ hD4, hnB]
      · have hnM : nB M = ii + 1 := by unfold nB; omega
        have l3 : u8 (leB W (ii + 1)) = u8 (leB W ii) ++ [.int .u8 ((W / 256 ^ ii : Nat) : Int)] := by
          rw [l1, show u8 (leB W ii ++ [UInt8.ofNat (W / 256 ^ ii)]) = u8 (leB W ii) ++ u8 [UInt8.ofNat (W / 256 ^ ii)] by simp [u8], hu _ hyb]
        have ha0 : (a : Int) ≠ 0 := by omega
        generalize W / 256 ^ ii = y at *
        rcases hb01 with rfl | rfl
        · have z0 : bY tb (M + 1) W' = ⟨tb, 1, ii + 1, u8 (leB W ii) ++ [.int .u8 (y : Int)], 0⟩ := by rw [hby', Nat.mul_zero]; rfl
          simp only [bY] at z0
          simp only [bY] at low ⊢
          simp (maxSteps := 4000000) (disch := omega) only [rr, aop, cV, cV1, AV.one, Qb, okW, Qd, app, Qa, Qc, Qf, Qe, Qg, simprocAttr, hnM, hlen, hcl, l3, hbat, s1, s2, s2', hq1, hr1, hi1, ha1, d1, d2, d3]
          refine ⟨k + 1, by omega, by omega, ?_⟩
          simp only [hWW, hMr]
          simp only [Int.natCast_add, Int.cast_ofNat_Int, hMi]
          rw [z0]
          exact Le.slots (by simp [Am.look, hnB])
        · rw [Nat.mul_one] at hby' hyb2
          have z0 := hby'
          simp only [bY] at z0
          simp only [bY] at low ⊢
          have ey : ((y + 2 ^ a : Nat) : Int) = (y : Int) + ((2 ^ a : Nat) : Int) := by omega
          rw [ey] at z0
          generalize 2 ^ a = pa at *
          simp (maxSteps := 4000000) (disch := omega) only [rr, aop, cV, cV1, AV.one, Qb, okW, Qd, app, Qa, Qc, Qf, Qe, Qg, simprocAttr, hnM, hlen, hcl, l3, hbat, s1, s2, s2', e7, hq1, hr1, hi1, ha1, d1, d2, d3]
          refine ⟨k + 1, by omega, by omega, ?_⟩
          simp only [hWW, hMr]
          simp only [Int.natCast_add, Int.cast_ofNat_Int, hMi]
          rw [← z0]
          exact Le.slots (by simp [Am.look, hnB])
    · obtain rfl : k = n := by omega
      rw [Nat.mod_eq_of_lt hCl, ← hsN, ← hsV]
      simp (maxSteps := 4000000) (disch := omega) only [rr, aop, cV, cV1, AV.one, Qb, okW, Qd, app, Qa, Qc, Qf, Qe, Qg, simprocAttr]
      refine ⟨i + 1, by omega, by omega, ?_⟩
      simp only [hN2, hV2]
      refine Le.low (ob := [_]) (J := [_]) (Nat.zero_le _) (Low.cons (lowL_D _ (Zx _ _)) Low.nil) ?_
      simp [Am.look, XB, lowL_D _ (QM _ _), lowL_D _ hD4]
  · obtain rfl : i = v.length := by omega
    obtain ⟨hV, hN1, _⟩ := hfb v.length
    have hfl := QfW c v
    have hZ' := hZ (QcY c v) (by rw [hfl]; unfold nB; omega)
    have hse : ZJ (QcY c v) = QcY c v ++ leB (Qbj (QcY c v)) 4 := rfl
    rw [← hse] at hZ'
    have hfe : QcY c v = leB (QqM c v v.length) (nB (Qfy c v v.length)) := rfl
    have tl : isTL (u8 (QcY c v)) = true := QT _
    have tl2 : isTL (u8 (ZJ (QcY c v))) = true := QT _
    simp only [bY]
    rw [← hfe]
    simp only [bs, hfl] at hZ' ⊢
    generalize ZJ (QcY c v) = R at *
    generalize QcY c v = fb at *
    generalize nB (Qfy c v v.length) = nn at *
    generalize Qfy c v v.length = N at *
    simp (maxSteps := 4000000) (disch := omega) only [rr, aop, cV, cV1, AV.one, Qb, okW, Qd, app, Qa, Qc, Qf, Qe, Qg, simprocAttr]
    refine Qh.still 1 [0] hZ' (by simp [Zu, QS, frzL, QN, frzL_T _ tl]) ?_
    simp (maxSteps := 4000000) (disch := omega) only [rr, aop, cV, cV1, AV.one, Qb, okW, Qd, app, Qa, Qc, Qf, Qe, Qg, simprocAttr, Qv]
    simp [Zu, QS, frzL, QN, frzL_T _ tl2]

end Go.Am

namespace Go.Am
open Go.RowKit

/-! ### The reference of Encode and Length; the law EnframeBytes -/

theorem QsH (c : Nat) (x : Int) (t l : List Int) : Qne (Qh8 c (Z7 c l) (JO x t) l.length) = QuU (QpX c x t l) := by
  rw [Qlo, QuU, Qne, List.length_map, Qd0]
theorem QlH {P : Prg} {f fA fC fB t0 t1 : Nat} (bd : Qj P f 22 [.tmp 6, .tmp 7] (Zh fA fC fB t0 t1)) (hA : Qhe P fA) (hC : Qkr P fC) (hB : Qkf P fB) : Qrl P f := by
  intro c x t l ht hI hL
  refine VC.of_walk 1 (by simp [isDL, isD, QM, QO, shA]) (Qpx _ _ _ _) (ACall.of_body bd (by simp) ?_)
  have hk : (ks .i32 t).length = 16 := by simp [Qk, ht]
  have tt : (ks .i32 t).take 16 = ks .i32 t := Qn (by omega)
  have ot := XA .i32 t
  have hA' := hA c x l hL
  unfold Qvx
  by_cases h0 : QcO c x l = 0
  case neg =>
    rw [if_pos h0]
    rw [shA] at hA' ⊢
    simp (maxSteps := 4000000) (disch := omega) only [rr, aop, cV, cV1, AV.one, Qb, okW, Qd, app, Qa, Qc, Qf, Qe, Qg, simprocAttr, Zh, hk, ot, tt]
    refine Qh.vc hA' ?_
    simp (maxSteps := 4000000) (disch := omega) only [rr, aop, cV, cV1, AV.one, Qb, okW, Qd, app, Qa, Qc, Qf, Qe, Qg, simprocAttr, h0]
    refine Qh.vc hA' ?_
    simp (maxSteps := 4000000) (disch := omega) only [rr, aop, cV, cV1, AV.one, Qb, okW, Qd, app, Qa, Qc, Qf, Qe, Qg, simprocAttr, h0]
    simp [Zu, QS, frzL, QN]
  obtain ⟨k, m, rfl, hkM, hx, e1, e2, e3, e4, e5, e6⟩ := Qka hL h0
  have hC' := hC k x t l ht hI hkM hx
  obtain ⟨c1, c6, l0, l4, lm, _⟩ := hkM
  have hv := Qiw k x t l
  have hvl := Qd0 k x t l
  have hB' := hB k (QpX k x t l) c1 c6 (by omega) hv
  rw [QsH] at hC'
  rw [if_neg (by omega), Int.toNat_natCast, Qho]
  rw [h0] at hA'
  have tl : isTL (u8 (ZJ (QcY k (QpX k x t l)))) = true := QT _
  generalize QuU (QpX k x t l) = nv at *
  generalize ZJ (QcY k (QpX k x t l)) = R at *
  rw [shA] at hA' hC' ⊢
  simp only [bs] at hB' ⊢
  simp (maxSteps := 4000000) (disch := omega) only [rr, aop, cV, cV1, AV.one, Qb, okW, Qd, app, Qa, Qc, Qf, Qe, Qg, simprocAttr, Zh, hk, ot, tt]
  refine Qh.vc hA' ?_
  simp (maxSteps := 4000000) (disch := omega) only [rr, aop, cV, cV1, AV.one, Qb, okW, Qd, app, Qa, Qc, Qf, Qe, Qg, simprocAttr, hk, ot, tt]
  refine Q2.vc hC' ?_
  simp (maxSteps := 4000000) (disch := omega) only [rr, aop, cV, cV1, AV.one, Qb, okW, Qd, app, Qa, Qc, Qf, Qe, Qg, simprocAttr]
  refine Q2.vc hB' ?_
  simp (maxSteps := 4000000) (disch := omega) only [rr, aop, cV, cV1, AV.one, Qb, okW, Qd, app, Qa, Qc, Qf, Qe, Qg, simprocAttr]
  simp [Zu, QS, frzL, QN, frzL_T _ tl]

theorem Qta {c x : Int} {t l : List Int} (hL : I32 l) (h : QcO c x l = 0) : (Qho c.toNat x t l).length ≤ 40504 ∧ 5 ≤ (Qho c.toNat x t l).length := by
  obtain ⟨k, m, rfl, hkM, hx, e1, e2, e3, e4, e5, e6⟩ := Qka hL h
  obtain ⟨c1, c6, l0, l4, lm, _⟩ := hkM
  have hvl := Qd0 k x t l
  have := QnY (c := k) (Qiw k x t l) (by omega) (by omega)
  rw [Int.toNat_natCast, Qho, Qlz]
  omega
end Go.Am

namespace Go.Am
open Go.RowKit

/-! ### The laws DeframeBack, DeframeOnly -/

theorem Qwq {k : Nat} {x : Int} {t l : List Int} (h : QcO k x l = 0) : Qvx k x t l = .tup [bs (Qho k x t l), .int .i64 0] := by
  rw [Qvx, if_neg (by omega), Int.toNat_natCast]
end Go.Am

namespace Go.Am
open Go.RowKit

/-! ### Names: what is said of some frames -/

def emL : List AV → List AV
  | [] => []
  | .emp _ :: l => .list 0 [] :: emL l
  | a :: l => a :: emL l
theorem QpS {X : Cx} : ∀ (l : List AV) (vs : List Value), RepL X l vs → RepL X (emL l) vs
  | [], _, h => h
  | a :: l, vs, h => by
    simp only [RepL] at h
    obtain ⟨v, rest, e, g1, g2⟩ := h
    have h2 := QpS l rest g2
    cases a with
    | emp z =>
      simp only [emL, RepL]
      refine ⟨v, rest, e, ?_, h2⟩
      simp only [Rep] at g1 ⊢
      obtain ⟨a, e, _⟩ := g1
      exact ⟨a, 0, [], e, Nat.le_refl _, .inl rfl, by simp [RepL]⟩
    | _ => simp only [emL, RepL]; exact ⟨v, rest, e, g1, h2⟩
theorem VC.emp {P : Prg} {f : FuncId} (avs : List AV) {r : AV} (h : VC P f (emL avs) r) (hd : isDL avs = true) : VC P f avs r :=
  ⟨h.1, hd, h.2.2.1, fun w C vs hC hG hr => h.2.2.2 w C vs hC hG (QpS _ _ hr)⟩

end Go.Am

namespace Go.Am
open Go.RowKit

/-! ### Lists of numbers: slices.Concat, slices.Repeat, lengths.All -/

def nl (l : List Int) : AV := .list l.length (ks .i64 l)
theorem QsT (l : List Int) : isD (nl l) = true := by simp [nl, isD, QM]
def nls (L : List (List Int)) : AV := .list L.length (L.map nl)
theorem Qpz : ∀ L : List (List Int), isDL (L.map nl) = true
  | [] => rfl
  | l :: L => by simp [isDL, QsT, Qpz L]
def Qhf (t : Nat) (P : Prg) (f : Nat) : Prop := ∀ L : List (List Int), L.length ≤ 1000000 → 0 < L.flatten.length → L.flatten.length ≤ 1000000 → VO P f [nls L] (.own 0 L.flatten.length) ⟨t, 1, L.flatten.length, ks .i64 L.flatten, 0⟩
theorem grow_nilI {P : Prg} {f t : Nat} {ρ : Go.Shelf.Ren} (L : Go.Proofs.Lays8.n4 P.prog ρ) (hf : ρ.f 4 = f) (ht : ρ.t 25 = t) (h25 : (P.prog.info? t).map (fun i => (i.zero, i.size, i.bytes)) = some (some (.int .i64 0), 1, 8)) : ∀ (ob : List Ob) (n : Nat) (z : Bool) (K : AV → List Ob → Prop), 0 < n → n ≤ 1000000 → K (.own ob.length 0) (ob ++ [⟨t, 1, 0, [], 0⟩]) → ACall P f [.emp z, .int .i64 n] ob K := by
  intro ob n z K h1 h2 hK
  subst hf; subst ht
  exact ACall.grow_nilI (by omega) L h25 h1 (by omega) hK
def Qir (t : Nat) (P : Prg) (f : Nat) : Prop := ∀ (ob : List Ob) (n : Nat) (z : Bool) (K : AV → List Ob → Prop), 0 < n → n ≤ 1000000 → K (.own ob.length 0) (ob ++ [⟨t, 1, 0, [], 0⟩]) → ACall P f [.emp z, .int .i64 n] ob K
theorem Qif {L : List (List Int)} {k : Nat} (h : k < L.length) : (L.take (k + 1)).flatten = (L.take k).flatten ++ L.getD k [] := by
  rw [List.take_succ_eq_append_getElem h, List.flatten_append, List.getD_eq_getElem?_getD, List.getElem?_eq_getElem h]
  simp
theorem QpF (L : List (List Int)) (k : Nat) : (L.take k).flatten.length ≤ L.flatten.length := by
  conv => rhs; rw [← List.take_append_drop k L, List.flatten_append, List.length_append]
  omega
theorem QhG {P : Prg} {f fG t0 : Nat} (bd : Qj P f 36 [.tmp 2] (ZF fG t0)) (hG : Qir t0 P fG) : Qhf t0 P f := by
  intro L hL h0 h1
  refine VO.of_walk (by simp [isDL, isD, nls, Qpz]) (QM _ _) (by simp [okr]) (ACall.of_body bd (by simp) ?_)
  have hat : ∀ k, k < L.length → (L.map nl).drop k = nl (L.getD k []) :: (L.map nl).drop (k + 1) := fun k hk => by
    rw [List.drop_eq_getElem_cons (by simpa using hk)]
    simp [List.getD_eq_getElem?_getD, List.getElem?_eq_getElem hk]
  have hml : (L.map nl).length = L.length := by simp
  simp only [nl] at hat
  simp (maxSteps := 4000000) (disch := omega) only [rr, aop, cV, cV1, AV.one, Qb, okW, Qd, app, Qa, Qc, Qf, Qe, Qg, simprocAttr, ZF, nls]
  refine QJ.by (ι := Nat) (fun k => ⟨[(11, .int .i64 k), (10, .int .i64 L.length), (9, .list L.length (L.map nl)), (3, .int .i64 (L.take k).flatten.length), (0, .list L.length (L.map nl))], []⟩) (fun k => k ≤ L.length) (fun k => L.length - k) 0 (Le.slots (by simp [Am.look])) (by omega) ?_
  intro k hk
  by_cases hlt : k < L.length
  · have ha := hat k hlt
    have hf := Qif hlt
    have hle := QpF L (k + 1)
    rw [hf, List.length_append] at hle
    have hl : ((L.take (k + 1)).flatten.length : Int) = (L.take k).flatten.length + (L.getD k []).length := by rw [hf]; simp
    generalize (L.take k).flatten.length = s at *
    generalize L.getD k [] = x at *
    simp (maxSteps := 4000000) (disch := omega) only [rr, aop, cV, cV1, AV.one, Qb, okW, Qd, app, Qa, Qc, Qf, Qe, Qg, simprocAttr, ha, hml]
    exact ⟨k + 1, by omega, by omega, by simp only [hl]; exact Le.slots (by simp [Am.look])⟩
  obtain rfl : k = L.length := by omega
  rw [List.take_length]
  have hG' := fun K hK => hG [] L.flatten.length true K h0 h1 hK
  simp (maxSteps := 4000000) (disch := omega) only [rr, aop, cV, cV1, AV.one, Qb, okW, Qd, app, Qa, Qc, Qf, Qe, Qg, simprocAttr]
  refine hG' _ ?_
  simp (maxSteps := 4000000) (disch := omega) only [rr, aop, cV, cV1, AV.one, Qb, okW, Qd, app, Qa, Qc, Qf, Qe, Qg, simprocAttr]
  refine QJ.by (ι := Nat) (fun k => ⟨[(27, .int .i64 k), (26, .int .i64 L.length), (25, .list L.length (L.map nl)), (6, .own 0 (L.take k).flatten.length)], [⟨t0, 1, (L.take k).flatten.length, ks .i64 (L.take k).flatten, 0⟩]⟩) (fun k => k ≤ L.length) (fun k => L.length - k) 0 (Le.slots (by simp [Am.look, ks])) (by omega) ?_
  intro k hk
  by_cases hlt : k < L.length
  · have ha := hat k hlt
    have hf := Qif hlt
    have hle := QpF L (k + 1)
    rw [hf, List.length_append] at hle
    have hl : (L.take (k + 1)).flatten.length = (L.take k).flatten.length + (L.getD k []).length := by rw [hf]; simp
    have hu : ks .i64 (L.take (k + 1)).flatten = ks .i64 (L.take k).flatten ++ ks .i64 (L.getD k []) := by rw [hf]; simp [ks]
    have hc : (ks .i64 (L.take k).flatten).length = (L.take k).flatten.length := Qk _ _
    have hx : (ks .i64 (L.getD k [])).length = (L.getD k []).length := Qk _ _
    generalize ks .i64 (L.take k).flatten = cs at *
    generalize (L.take k).flatten.length = s at *
    generalize ks .i64 (L.getD k []) = us at *
    generalize (L.getD k []).length = xl at *
    simp (maxSteps := 4000000) (disch := omega) only [rr, aop, cV, cV1, AV.one, Qb, okW, Qd, app, Qa, Qc, Qf, Qe, Qg, simprocAttr, ha, hml, hc, hx]
    exact ⟨k + 1, by omega, by omega, by rw [hl, hu]; exact Le.slots (by simp [Am.look])⟩
  obtain rfl : k = L.length := by omega
  rw [List.take_length]
  simp (maxSteps := 4000000) (disch := omega) only [rr, aop, cV, cV1, AV.one, Qb, okW, Qd, app, Qa, Qc, Qf, Qe, Qg, simprocAttr]
  exact ⟨0, rfl, rfl⟩

end Go.Am

namespace Go.Am
open Go.RowKit

def Qrk (P : Prg) (f : Nat) : Prop := ∀ x y : Nat, x ≤ 65535 → y ≤ 65535 → VC P f [.int .u64 x, .int .u64 y] (.tup [.int .u64 0, .int .u64 ((x * y : Nat) : Int)])
theorem QqG {P : Prg} {f : Nat} (bd : Qj P f 51 [.tmp 4, .tmp 5] Ju) : Qrk P f := by
  intro x y hx hy
  refine VC.of_acall rfl rfl (ACall.of_body bd (by simp) ?_)
  have hxy : x * y ≤ 65535 * 65535 := Nat.mul_le_mul hx hy
  have hm : (x : Int) * (y : Int) = ((x * y : Nat) : Int) := by simp
  have an : ∀ a : Nat, a ≤ 4294967295 → IntKind.u64.wrap (BitVec.ofInt IntKind.u64.bits (a : Int) &&& BitVec.ofInt IntKind.u64.bits 4294967295).toNat = (a : Int) := by
    intro a ha
    have := QtS a 4294967295 (by omega) (by decide)
    rw [show (4294967295 : Nat) = 2 ^ 32 - 1 from rfl, Nat.and_two_pow_sub_one_eq_mod, Nat.mod_eq_of_lt (by omega)] at this
    exact this
  have sh : ∀ a : Nat, a ≤ 4294967295 → Qs false .u64 (a : Int) 32 = some (.int .u64 0) := by
    intro a ha
    have := Qi8 (K := .u64) (n := a) (k := 32) (by decide)
    rw [Nat.div_eq_of_lt (by omega)] at this
    exact this
  have a1 := an x (by omega)
  have a2 := an y (by omega)
  have a3 : IntKind.u64.wrap (BitVec.ofInt IntKind.u64.bits 0 &&& BitVec.ofInt IntKind.u64.bits 4294967295).toNat = 0 := by decide
  have s1 := sh x (by omega)
  have s2 := sh y (by omega)
  have s3 := sh (x * y) (by omega)
  have s4 : Qs false .u64 0 32 = some (.int .u64 0) := sh 0 (by omega)
  generalize x * y = z at *
  simp (maxSteps := 4000000) (disch := omega) only [rr, aop, cV, cV1, AV.one, Qb, okW, Qd, app, Qa, Qc, Qf, Qe, Qg, simprocAttr, Ju, a1, a2, a3, s1, s2, s3, s4, hm, Int.zero_mul, Int.mul_zero, Int.add_zero, Int.zero_add]
theorem QuX {P : Prg} {f f32 f64 : Nat} (bd : Qj P f 30 [.tmp 4, .tmp 5] (J8 f32 f64)) (h64 : Qrk P f64) : Qrk P f := by
  intro x y hx hy
  refine VC.of_acall rfl rfl (ACall.of_body bd (by simp) ?_)
  have h := h64 x y hx hy
  generalize x * y = z at *
  simp (maxSteps := 4000000) (disch := omega) only [rr, aop, cV, cV1, AV.one, Qb, okW, Qd, app, Qa, Qc, Qf, Qe, Qg, simprocAttr, J8]
  refine Qh.vc h ?_
  simp (maxSteps := 4000000) (disch := omega) only [rr, aop, cV, cV1, AV.one, Qb, okW, Qd, app, Qa, Qc, Qf, Qe, Qg, simprocAttr]

def rpL (v : Int) (m c : Nat) : List Int := List.replicate m v ++ List.replicate (c - m) 0
theorem Qw0 {v : Int} {m c : Nat} (h : m ≤ c) : (rpL v m c).length = c := by simp [rpL]; omega
def Qg0 (t : Nat) (P : Prg) (f : Nat) : Prop := ∀ (v : Int) (c : Nat), c ≤ 1000 → VO P f [nl [v], .int .i64 c] (.own 0 c) ⟨t, 1, c, ks .i64 (List.replicate c v), 0⟩
theorem QhF {P : Prg} {f fM t0 : Nat} (bd : Qj P f 48 [.tmp 4] (ZE fM t0)) (hM : Qrk P fM) : Qg0 t0 P f := by
  intro v c hc
  refine VO.of_walk (by simp [isDL, QsT, isD]) (QM _ _) (by simp [okr]) (ACall.of_body bd (by simp) ?_)
  have hM' := hM 1 c (by omega) (by omega)
  rw [Nat.one_mul] at hM'
  have hM2 : VC P fM [.int .u64 1, .int .u64 c] (.tup [.int .u64 0, .int .u64 c]) := hM'
  have e1 : nl [v] = .list 1 [.int .i64 v] := rfl
  have er : Qu [.int .i64 0] c = ks .i64 (List.replicate c 0) := Qpc .i64 c
  have hl : (ks .i64 (List.replicate c 0)).length = c := by simp [Qk]
  rw [e1]
  simp (maxSteps := 4000000) (disch := omega) only [rr, aop, cV, cV1, AV.one, Qb, okW, Qd, app, Qa, Qc, Qf, Qe, Qg, simprocAttr, ZE]
  refine Qh.vc hM2 ?_
  by_cases h0 : c = 0
  · subst h0
    simp (maxSteps := 4000000) (disch := omega) only [rr, aop, cV, cV1, AV.one, Qb, okW, Qd, app, Qa, Qc, Qf, Qe, Qg, simprocAttr, er]
    refine QJ.by (ι := Nat) (fun _ => ⟨[(8, .int .i64 0), (7, .own 0 0)], [⟨t0, 1, 0, [], 0⟩]⟩) (fun _ => True) (fun _ => 0) 0 (Le.slots (by simp [Am.look, ks])) trivial ?_
    intro _ _
    simp (maxSteps := 4000000) (disch := omega) only [rr, aop, cV, cV1, AV.one, Qb, okW, Qd, app, Qa, Qc, Qf, Qe, Qg, simprocAttr]
    exact ⟨0, rfl, rfl⟩
  · have hmn : Nat.min 1 c = 1 := Nat.min_eq_left (by omega)
    have hst : (1 : Int) < (c : Int) ∨ c = 1 := by omega
    simp (maxSteps := 4000000) (disch := omega) only [rr, aop, cV, cV1, AV.one, Qb, okW, Qd, app, Qa, Qc, Qf, Qe, Qg, simprocAttr, er, hl, hmn]
    refine QJ.by (ι := Nat) (fun m => ⟨[(8, .int .i64 m), (7, .own 0 c)], [⟨t0, 1, c, ks .i64 (rpL v m c), 0⟩]⟩) (fun m => 1 ≤ m ∧ m ≤ c) (fun m => c - m) 1 ?_ (by omega) ?_
    · have : [AV.int .i64 v] ++ (ks .i64 (List.replicate c 0)).drop 1 = ks .i64 (rpL v 1 c) := by simp [rpL, ks]
      rw [← this]
      exact Le.slots (by simp [Am.look])
    intro m hm
    obtain ⟨hm1, hm2⟩ := hm
    have hkl : (ks .i64 (rpL v m c)).length = c := by rw [Qk, Qw0 hm2]
    by_cases hlt : m < c
    · obtain ⟨q, hq⟩ : ∃ q, q = Nat.min m (c - m) := ⟨_, rfl⟩
      have hq1 : q ≤ m := by rw [hq]; exact Nat.min_le_left _ _
      have hq2 : q ≤ c - m := by rw [hq]; exact Nat.min_le_right _ _
      have hq3 : 1 ≤ q := by rw [hq]; exact Nat.le_min.2 ⟨hm1, by omega⟩
      have hmc : min m c = m := Nat.min_eq_left hm2
      have hal : ((ks .i64 (rpL v m c)).take m).all AV.one = true := by
        rw [List.all_eq_true]
        intro x hx
        exact List.all_eq_true.1 (XA .i64 (rpL v m c)) x (List.mem_of_mem_take hx)
      have e1 : (rpL v m c).take m = List.replicate m v := by unfold rpL; rw [List.take_left' (by simp)]
      have e2 : (rpL v m c).drop (m + q) = List.replicate (c - (m + q)) 0 := by
        unfold rpL
        rw [List.drop_append, List.drop_of_length_le (by simp), List.nil_append, List.drop_replicate, List.length_replicate]
        congr 1
        omega
      have hcs : (ks .i64 (rpL v m c)).take m ++ (((ks .i64 (rpL v m c)).take m).take q ++ (ks .i64 (rpL v m c)).drop (m + q)) = ks .i64 (rpL v (m + q) c) := by
        have k1 : ∀ l n, (ks .i64 l).take n = ks .i64 (l.take n) := fun l n => by simp [ks, List.map_take]
        have k2 : ∀ l n, (ks .i64 l).drop n = ks .i64 (l.drop n) := fun l n => by simp [ks, List.map_drop]
        have k3 : ∀ a b, ks .i64 a ++ ks .i64 b = ks .i64 (a ++ b) := fun a b => by simp [ks]
        rw [k1, e1, k1, k2, e2, List.take_replicate, Nat.min_eq_left hq1, k3, k3, ← List.append_assoc, List.replicate_append_replicate]
        rfl
      have hcs2 : (ks .i64 (rpL v m c)).take m ++ ((ks .i64 (rpL v m c)).take m).take q ++ (ks .i64 (rpL v m c)).drop (m + q) = ks .i64 (rpL v (m + q) c) := by rw [List.append_assoc]; exact hcs
      simp (maxSteps := 4000000) (disch := omega) only [rr, aop, cV, cV1, AV.one, Qb, okW, Qd, app, Qa, Qc, Qf, Qe, Qg, simprocAttr, hkl, h0, Nat.sub_zero, hmc, hal, ← hq, Nat.mul_one, hcs2, hcs]
      refine ⟨m + q, ⟨by omega, by omega⟩, by omega, ?_⟩
      exact Le.slots (by simp [Am.look])
    · obtain rfl : m = c := by omega
      have : rpL v m m = List.replicate m v := by simp [rpL]
      rw [this]
      simp (maxSteps := 4000000) (disch := omega) only [rr, aop, cV, cV1, AV.one, Qb, okW, Qd, app, Qa, Qc, Qf, Qe, Qg, simprocAttr]
      exact ⟨0, rfl, rfl⟩

end Go.Am

namespace Go.Am
open Go.RowKit

def Qt7 (t : Nat) (P : Prg) (f : Nat) : Prop := ∀ a b : List Int, 0 < a.length + b.length → a.length + b.length ≤ 1000000 → VO P f [nl a, nl b] (.own 0 (a.length + b.length)) ⟨t, 1, a.length + b.length, ks .i64 (a ++ b), 0⟩
theorem QhI {P : Prg} {f fC t0 t1 : Nat} (bd : Qj P f 9 [.tmp 4] (JL fC t1)) (hC : Qhf t0 P fC) : Qt7 t0 P f := by
  intro a b h0 h1
  refine VO.of_walk (by simp [isDL, QsT]) (QM _ _) (by simp [okr]) (ACall.of_body bd (by simp) ?_)
  have hC' := hC [a, b] (by simp) (by simpa using h0) (by simpa using h1)
  have e1 : nls [a, b] = .list 2 [nl a, nl b] := rfl
  have e2 : [a, b].flatten = a ++ b := by simp
  rw [e1, e2, List.length_append] at hC'
  have ta := Qt .i64 a
  have tb := Qt .i64 b
  simp only [nl] at hC' ⊢
  simp (maxSteps := 4000000) (disch := omega) only [rr, aop, cV, cV1, AV.one, Qb, okW, Qd, app, Qa, Qc, Qf, Qe, Qg, simprocAttr, JL]
  refine Qh.vo_still 1 [0] hC' (by simp [Zu, QS, frzL, QN, frzL_T _ ta, frzL_T _ tb]) ?_
  simp (maxSteps := 4000000) (disch := omega) only [rr, aop, cV, cV1, AV.one, Qb, okW, Qd, app, Qa, Qc, Qf, Qe, Qg, simprocAttr, Qv, shr]
  exact ⟨1, rfl, rfl⟩

def okA (r n : Int) : Prop := 1 ≤ r ∧ r ≤ 1048576 ∧ 1 ≤ n ∧ n ≤ 4000 ∧ (QY (QC r).toNat n.toNat).length ≤ 1000
def Qt8 (t : Nat) (P : Prg) (f : Nat) : Prop := ∀ r n : Int, okA r n → VO P f [.int .i64 r, .int .i64 n] (.tup [.own 0 (QY (QC r).toNat n.toNat).length, .int .i64 0]) ⟨t, 1, (QY (QC r).toNat n.toNat).length, ks .i64 (QY (QC r).toNat n.toNat), 0⟩
theorem QnQ {P : Prg} {f fC fL fR fB t0 : Nat} (bd : Qj P f 39 [.tmp 4, .tmp 5] (Qa9 fC fL fR fB t0)) (hC : J2 P fC) (hL : QbV P fL) (hR : Qg0 t0 P fR) (hB : Qt7 t0 P fB) : Qt8 t0 P f := by
  intro r n ⟨a1, a2, a3, a4, a5⟩
  refine VO.of_walk rfl (QM _ _) (by simp [okr, flat]) (ACall.of_body bd (by simp) ?_)
  have hlong : 1 ≤ QC r := by unfold QC; split <;> omega
  obtain ⟨L, hLe⟩ : ∃ L : Nat, QC r = L := ⟨(QC r).toNat, by omega⟩
  obtain ⟨m, rfl⟩ : ∃ m : Nat, n = m := ⟨n.toNat, by omega⟩
  rw [hLe, Int.toNat_natCast, Int.toNat_natCast] at a5 ⊢
  rw [Xe] at a5
  obtain ⟨q, hq⟩ : ∃ q, q = (m - 1) / L := ⟨_, rfl⟩
  have hql : (QY L m).length = q + 1 := by rw [Xe, hq]
  rw [← hq] at a5
  have hcd : ((m : Int) + (L : Int) - 1) / (L : Int) = ((q + 1 : Nat) : Int) := by
    have h1 : (m : Int) + (L : Int) - 1 = ((m - 1 + L : Nat) : Int) := by omega
    rw [h1, ← Int.natCast_ediv, Nat.add_div_right _ (by omega), ← hq]
  have hk : QgE r m = .tup [.int .i64 ((q + 1 : Nat) : Int), .int .i64 0] := by
    rw [QgE, if_neg (by omega), if_neg (by omega), hLe, hcd, if_neg (by omega)]
  have hC' := hC r m
  rw [hk] at hC'
  have hL' := hL r
  rw [Qb0, if_neg (by omega), hLe] at hL'
  have hR' := hR L q (by omega)
  have hB' := hB (List.replicate q (L : Int)) [(m : Int) - ((q * L : Nat) : Int)] (by simp) (by simp; omega)
  have e1 : List.replicate q (L : Int) ++ [(m : Int) - ((q * L : Nat) : Int)] = QY L m := by unfold QY; rw [hq]
  rw [e1] at hB'
  have e2 : (List.replicate q (L : Int)).length + [(m : Int) - ((q * L : Nat) : Int)].length = q + 1 := by simp
  rw [e2] at hB'
  have e3 : nl [(L : Int)] = .list 1 [.int .i64 (L : Int)] := rfl
  have e4 : nl [(m : Int) - ((q * L : Nat) : Int)] = .list 1 [.int .i64 ((m : Int) - ((q * L : Nat) : Int))] := rfl
  rw [e3] at hR'
  rw [e4] at hB'
  have tr := Qt .i64 (List.replicate q (L : Int))
  have hqL : (q : Int) * (L : Int) = ((q * L : Nat) : Int) := by simp
  have hle : q * L ≤ m := by
    have := Nat.div_mul_le_self (m - 1) L
    rw [← hq] at this
    omega
  simp only [nl, List.length_replicate] at hB'
  rw [hql]
  generalize ks .i64 (QY L m) = LL at *
  generalize ks .i64 (List.replicate q (L : Int)) = RR at *
  generalize q * L = w at *
  simp only [Int.natCast_add, Int.cast_ofNat_Int] at hC'
  have hq1 : (q : Int) + 1 - 1 = (q : Int) := by omega
  simp (maxSteps := 4000000) (disch := omega) only [rr, aop, cV, cV1, AV.one, Qb, okW, Qd, app, Qa, Qc, Qf, Qe, Qg, simprocAttr, Qa9]
  refine Qh.vc hC' ?_
  simp (maxSteps := 4000000) (disch := omega) only [rr, aop, cV, cV1, AV.one, Qb, okW, Qd, app, Qa, Qc, Qf, Qe, Qg, simprocAttr]
  refine Qh.vc hL' ?_
  simp (maxSteps := 4000000) (disch := omega) only [rr, aop, cV, cV1, AV.one, Qb, okW, Qd, app, Qa, Qc, Qf, Qe, Qg, simprocAttr, hq1]
  refine Qh.vo_still 1 [0] hR' (by simp [Zu, QS, frzL, QN]) ?_
  simp (maxSteps := 4000000) (disch := omega) only [rr, aop, cV, cV1, AV.one, Qb, okW, Qd, app, Qa, Qc, Qf, Qe, Qg, simprocAttr, Qv, shr, hq1, hqL]
  refine Qh.vo_still 1 [1, 2] hB' (by simp [Zu, QS, frzL, QN, frzL_T _ tr]) ?_
  simp (maxSteps := 4000000) (disch := omega) only [rr, aop, cV, cV1, AV.one, Qb, okW, Qd, app, Qa, Qc, Qf, Qe, Qg, simprocAttr, Qv, shr]
  exact ⟨3, rfl, rfl⟩

end Go.Am
