/- What the functions that the law reaches return, for every program that has their code; the conditions stand in each statement. -/
import Derived.Lib.ItoaLen
import Derived.Test.YthckgihcbjpjeaaGreatDoorLinesTellsL1
set_option linter.unusedSectionVars false
set_option linter.unusedSimpArgs false
set_option linter.unusedVariables false
namespace Go.Am
open Go.RowKit
structure Dl where
 k0 : Nat
 k1 : Nat
 s0 : Nat
 s1 : Nat
def dlC (d : Dl) : List AV := [.int .i64 d.k0, .int .i64 d.k1, .int .u64 d.s0, .int .u64 d.s1]
def dlA (d : Dl) : AV := .agg (dlC d)
def okD (d : Dl) : Prop := d.k0 ≤ 24 ∧ d.k1 ≤ 24 ∧ d.s0 ≤ 68719476735 ∧ d.s1 ≤ 68719476735
def startM : Dl := ⟨10, 10, 16384, 16384⟩
def Qbw (k s n : Nat) : Nat × Nat :=
 if 0 < k ∧ s + n - s / 16 < 2 ^ (k + 4) then (k - 1, s + n - s / 16) else if k < 24 ∧ 2 ^ (k + 5) < s + n - s / 16 then (k + 1, s + n - s / 16) else (k, s + n - s / 16)
def JA (d : Dl) (v : Nat) : Dl :=
 if v < 2 ^ d.k0 then ⟨(Qbw d.k0 d.s0 v).1, d.k1, (Qbw d.k0 d.s0 v).2, d.s1⟩
 else ⟨(Qbw d.k0 d.s0 v).1, (Qbw d.k1 d.s1 (v - 2 ^ d.k0)).1, (Qbw d.k0 d.s0 v).2, (Qbw d.k1 d.s1 (v - 2 ^ d.k0)).2⟩
theorem Qq5 {k s n : Nat} (hk : k ≤ 24) (hs : s ≤ 68719476735) (hn : n < 4294967296) : (Qbw k s n).1 ≤ 24 ∧ (Qbw k s n).2 ≤ 68719476735 := by
 unfold Qbw
 have ht : s + n - s / 16 ≤ 68719476735 := by omega
 generalize s + n - s / 16 = t at *
 split
 ·exact ⟨by simp only; omega, ht⟩
 ·split
  ·rename_i h; exact ⟨by have := h.1; simp only; omega, ht⟩
  ·exact ⟨hk, ht⟩
theorem QsU {d : Dl} {v : Nat} (h : okD d) (hv : v < 4294967296) : okD (JA d v) := by
 obtain ⟨h1, h2, h3, h4⟩ := h
 have p0 := Qq5 h1 h3 hv
 have p1 := Qq5 (n := v - 2 ^ d.k0) h2 h4 (Yh (Nat.sub_le _ _) hv)
 unfold JA
 split
 ·exact ⟨p0.1, h2, p0.2, h4⟩
 ·exact ⟨p0.1, p1.1, p0.2, p1.2⟩
theorem Qsv : okD startM := by unfold okD startM; decide
theorem Qrd (d : Dl) : isD (dlA d) = true := rfl
def QdU (P : Prg) (f : Nat) : Prop := ∀ k : Nat, k ≤ 40 → VC P f [.int .i64 k] (.int .u64 ((2 ^ k : Nat) : Int))
theorem Qq1 {P : Prg} {f : Nat} (bd : Qf P f 13 [.tmp 2] Jc) : QdU P f := by
 intro k hk
 refine Qn rfl rfl bd ?_
 simp (disch := omega) only [rq, simprocAttr, Jc]
 refine Qg (ι := Nat) (fun i => ⟨[(4, .int .i64 i), (3, .int .u64 ((2 ^ i : Nat) : Int)), (0, .int .i64 k)], []⟩) (fun i => i ≤ k) (fun i => k - i) 0 (Qh) (by omega) ?_
 intro i hi
 by_cases hlt : i < k
 ·have h1 : 2 ^ i ≤ 2 ^ 40 := qq (by omega) (by omega)
  have h2 : 2 ^ (i + 1) = 2 ^ i * 2 := yc 2 i
  generalize 2 ^ i = p at *
  simp (disch := omega) only [rq, simprocAttr]
  exact ⟨i + 1, by omega, by omega, Qk (by simp [Am.look, h2])⟩
 ·obtain rfl : i = k := by omega
  generalize 2 ^ i = p at *
  simp (disch := omega) only [rq, simprocAttr]
theorem p24 {k : Nat} (h : k ≤ 24) : 2 ^ k ≤ 16777216 ∧ 2 ^ (k + 4) = 16 * 2 ^ k ∧ 2 ^ (k + 5) = 32 * 2 ^ k := by
 have := qq (n := 2) (by omega) h
 refine ⟨by simpa using this, ?_, ?_⟩ <;> rw [qZ, qE]
def Qb9 (P : Prg) (f : Nat) : Prop := VC P f [] (dlA startM)
theorem QuJ {P : Prg} {f t0 : Nat} (bd : Qf P f 2 [.cell 0 t0] (QcS t0)) (ht : ZE P t0 = some (some 4)) : Qb9 P f := by
 refine Qn rfl rfl bd ?_
 simp (disch := omega) only [rq, simprocAttr, QcS, QL, ht, Qm, dlA, dlC, startM]
 try rfl
theorem Qq0 {P : Prg} {f t0 : Nat} (bd : Qf P f 2 [.cell 0 t0] (Jb t0)) (ht : ZE P t0 = some (some 4)) : Qb9 P f := by
 refine Qn rfl rfl bd ?_
 simp (disch := omega) only [rq, simprocAttr, Jb, QL, ht, Qm, dlA, dlC, startM]
 try rfl
def Qnh (P : Prg) (f : Nat) : Prop := ∀ d : Dl, okD d → VC P f [dlA d] (.int .i64 0)
theorem QuK {P : Prg} {f t0 : Nat} (bd : Qf P f 26 [.tmp 2] (QcT t0)) : Qnh P f := by
 intro d h
 obtain ⟨k0, k1, s0, s1⟩ := d
 obtain ⟨h1, h2, h3, h4⟩ := h
 simp only at h1 h2 h3 h4
 refine Qbs rfl rfl (ACall.of_cut 1 bd (by simp) ?_)
 simp (disch := omega) only [rq, simprocAttr, QcT, dlA, dlC, Qvf]
 refine ⟨⟨[(2, .int .i64 0), (1, .cell [.int .i64 k0, .int .i64 k1, .int .u64 s0, .int .u64 s1])], []⟩, Zt [] (by simp) (by simp [Am.look, Qz, frzL, Qv]), ?_⟩
 simp (disch := omega) only [rq, simprocAttr]
def QxY (P : Prg) (f : Nat) : Prop := ∀ (d : Dl) (v : Nat), okD d → v < 4294967296 → VC P f [dlA d, .int .u32 v] (.bool (decide (v < 2 ^ d.k0)))
theorem Qwr {P : Prg} {f fP t0 : Nat} (bd : Qf P f 11 [.tmp 4] (JS fP t0)) (hP : QdU P fP) : QxY P f := by
 intro d v h hv
 obtain ⟨k0, k1, s0, s1⟩ := d
 obtain ⟨h1, h2, h3, h4⟩ := h
 simp only at h1 h2 h3 h4
 refine Qn rfl rfl bd ?_
 have hP' := hP k0 (by omega)
 generalize 2 ^ k0 = p at *
 have e1 : decide ((v : Int) < (p : Int)) = decide (v < p) := by simp
 simp (disch := omega) only [rq, simprocAttr, JS, dlA, dlC]
 refine Qa hP' ?_
 simp (disch := omega) only [rq, simprocAttr, e1]
def Qsd (P : Prg) (f : Nat) : Prop := ∀ (d : Dl) (v : Nat), okD d → v < 4294967296 → 2 ^ d.k0 ≤ v → VC P f [dlA d, .int .u32 v] (.int .u32 ((v - 2 ^ d.k0 : Nat) : Int))
theorem Qum {P : Prg} {f fP t0 : Nat} (bd : Qf P f 12 [.tmp 4] (Ju fP t0)) (hP : QdU P fP) : Qsd P f := by
 intro d v h hv hle
 obtain ⟨k0, k1, s0, s1⟩ := d
 obtain ⟨h1, h2, h3, h4⟩ := h
 simp only at h1 h2 h3 h4 hle
 refine Qn rfl rfl bd ?_
 have hP' := hP k0 (by omega)
 generalize 2 ^ k0 = p at *
 have e1 : ((v - p : Nat) : Int) = (v : Int) - p := by omega
 simp (disch := omega) only [rq, simprocAttr, Ju, dlA, dlC]
 refine Qa hP' ?_
 simp (disch := omega) only [rq, simprocAttr, e1]
def Qr0 (P : Prg) (f : Nat) : Prop := ∀ k s n : Nat, k ≤ 24 → s ≤ 68719476735 → n < 4294967296 → VC P f [.int .i64 k, .int .u64 s, .int .u64 n] (.tup [.int .i64 (Qbw k s n).1, .int .u64 (Qbw k s n).2])
theorem Qul {P : Prg} {f fP : Nat} (bd : Qf P f 40 [.tmp 6, .tmp 7] (QU fP)) (hP : QdU P fP) : Qr0 P f := by
 intro k s n hk hs hn
 refine Qn rfl rfl bd ?_
 have hP1 : VC P fP [.int .i64 ((k : Int) + 4)] (.int .u64 ((2 ^ (k + 4) : Nat) : Int)) := hP (k + 4) (by omega)
 have hP2 : VC P fP [.int .i64 ((k : Int) + 5)] (.int .u64 ((2 ^ (k + 5) : Nat) : Int)) := hP (k + 5) (by omega)
 obtain ⟨q1, q2, q3⟩ := p24 hk
 obtain ⟨t, ht⟩ : ∃ t, t = s + n - s / 16 := ⟨_, rfl⟩
 have e1 : (s : Int) + n - (s : Int) / 16 = (t : Int) := by omega
 have e2 : Qbw k s n = if 0 < k ∧ t < 2 ^ (k + 4) then (k - 1, t) else if k < 24 ∧ 2 ^ (k + 5) < t then (k + 1, t) else (k, t) := by rw [Qbw, ← ht]
 rw [e2]
 generalize 2 ^ (k + 4) = p4 at *
 generalize 2 ^ (k + 5) = p5 at *
 by_cases c1 : 0 < k
 ·by_cases c2 : t < p4
  ·rw [qc ⟨c1, c2⟩]
   have e5 : ((k - 1 : Nat) : Int) = (k : Int) - 1 := by omega
   simp (disch := omega) only [rq, simprocAttr, QU, e1]
   refine Qa hP1 ?_
   simp (disch := omega) only [rq, simprocAttr, e5]
  ·rw [qa (fun h => c2 h.2)]
   by_cases c3 : k < 24
   ·by_cases c4 : p5 < t
    ·rw [qc ⟨c3, c4⟩]
     simp (disch := omega) only [rq, simprocAttr, QU, e1]
     iterate 2 (refine Qa (by assumption) ?_; simp (disch := omega) only [rq, simprocAttr])
    ·rw [qa (fun h => c4 h.2)]
     simp (disch := omega) only [rq, simprocAttr, QU, e1]
     iterate 2 (refine Qa (by assumption) ?_; simp (disch := omega) only [rq, simprocAttr])
   ·rw [qa (fun h => c3 h.1)]
    simp (disch := omega) only [rq, simprocAttr, QU, e1]
    refine Qa hP1 ?_
    simp (disch := omega) only [rq, simprocAttr]
 ·rw [qa (fun h => c1 h.1)]
  obtain rfl : k = 0 := by omega
  by_cases c4 : p5 < t
  ·rw [qc ⟨by omega, c4⟩]
   simp (disch := omega) only [rq, simprocAttr, QU, e1]
   refine Qa hP2 ?_
   simp (disch := omega) only [rq, simprocAttr]
  ·rw [qa (fun h => c4 h.2)]
   simp (disch := omega) only [rq, simprocAttr, QU, e1]
   refine Qa hP2 ?_
   simp (disch := omega) only [rq, simprocAttr]
def Qnb (P : Prg) (f : Nat) : Prop := ∀ (d : Dl) (v : Nat), okD d → v < 4294967296 → VC P f [dlA d, .int .u32 v] (dlA (JA d v))
theorem QoS {P : Prg} {f fL fF fP t0 : Nat} (bd : Qf P f 38 [.cell 4 t0] (ZQ fL fF fP t0)) (hL : QxY P fL) (hF : Qsd P fF) (hP : Qr0 P fP) (ht : ZE P t0 = some (some 4)) : Qnb P f := by
 intro d v h hv
 have hL' := hL d v h hv
 have hF' := hF d v h hv
 obtain ⟨k0, k1, s0, s1⟩ := d
 obtain ⟨h1, h2, h3, h4⟩ := h
 simp only at h1 h2 h3 h4
 have hP0 := hP k0 s0 v h1 h3 hv
 have hP1 := hP k1 s1 (v - 2 ^ k0) h2 h4 (Yh (Nat.sub_le _ _) hv)
 refine Qn rfl rfl bd ?_
 unfold JA
 simp only [dlA, dlC] at hL' hF' ⊢
 by_cases c : v < 2 ^ k0
 ·rw [qc c]
  simp only [c, jm] at hL'
  simp (disch := omega) only [rq, simprocAttr, ZQ, dlA, dlC]
  refine Qa hL' ?_
  simp (disch := omega) only [rq, simprocAttr]
  refine Qa hP0 ?_
  simp (disch := omega) only [rq, simprocAttr, QL, ht, Qm]
 ·rw [qa c]
  simp only [c, y7] at hL'
  have hF'' := hF' (by omega)
  generalize 2 ^ k0 = p at *
  simp (disch := omega) only [rq, simprocAttr, ZQ, dlA, dlC]
  refine Qa hL' ?_
  simp (disch := omega) only [rq, simprocAttr]
  refine Qc hF'' ?_
  simp (disch := omega) only [rq, simprocAttr]
  refine Qc hP1 ?_
  simp (disch := omega) only [rq, simprocAttr]
  refine Qa hP0 ?_
  simp (disch := omega) only [rq, simprocAttr, QL, ht, Qm]
def Qna (P : Prg) (f : Nat) : Prop := ∀ (d : Dl) (v : Nat), okD d → v < 4294967296 → VC P f [dlA d, .int .u32 v] (if v < 2 ^ d.k0 then .tup [.int .i64 0, .int .u32 v] else .tup [.int .i64 1, .int .u32 ((v - 2 ^ d.k0 : Nat) : Int)])
theorem QuH {P : Prg} {f t0 : Nat} (bd : Qf P f 17 [.tmp 4, .tmp 5] (Qba t0)) : Qna P f := by
 intro d v h hv
 obtain ⟨k0, k1, s0, s1⟩ := d
 obtain ⟨h1, h2, h3, h4⟩ := h
 simp only at h1 h2 h3 h4
 refine Qn rfl (by simp only; split <;> rfl) bd ?_
 have e1 : Qu false .u32 (v : Int) (k0 : Int) = some (.int .u32 ((v / 2 ^ k0 : Nat) : Int)) := Qnp (K := .u32) (by show k0 ≤ 32; omega)
 obtain ⟨q1, _⟩ := p24 h1
 have e2 : Qu true .u32 1 (k0 : Int) = some (.int .u32 ((2 ^ k0 : Nat) : Int)) := by
  have := QyK (K := .u32) rfl (c := 1) (s := k0) (by show k0 ≤ 32; omega) (by show 1 * 2 ^ k0 < 4294967296; omega)
  rw [yS] at this
  exact this
 simp only
 by_cases c : v < 2 ^ k0
 ·rw [qc c]
  rw [yK c] at e1
  have e1' : Qu false .u32 (v : Int) (k0 : Int) = some (.int .u32 0) := e1
  simp (disch := omega) only [rq, simprocAttr, Qba, dlA, dlC, e1']
 ·rw [qa c]
  have hpos : 0 < v / 2 ^ k0 := Nat.div_pos (by omega) (qR (by omega))
  have hle : v / 2 ^ k0 ≤ v := yJ _ _
  have e3 : ((v - 2 ^ k0 : Nat) : Int) = (v : Int) - ((2 ^ k0 : Nat) : Int) := by omega
  generalize v / 2 ^ k0 = w at *
  generalize 2 ^ k0 = p at *
  simp (disch := omega) only [rq, simprocAttr, Qba, dlA, dlC, e1, e2, e3]
theorem QgO {P : Prg} {f : Nat} (bd : Qf P f 58 [] QC) {ob : List Ob} {p : Nat} {t : Nat} {d : Dl} (hp : ob[p]? = some ⟨t, 4, 1, dlC d, 0⟩) (hd : okD d) {n : Nat} (hn : n < 4294967296) (b : Bool) {K : AV → List Ob → Prop}
  (hK : K (.tup []) (ob.set p ⟨t, 4, 1, dlC (if b then ⟨d.k0, (Qbw d.k1 d.s1 n).1, d.s0, (Qbw d.k1 d.s1 n).2⟩ else ⟨(Qbw d.k0 d.s0 n).1, d.k1, (Qbw d.k0 d.s0 n).2, d.s1⟩), 0⟩)) :
  ACall P f [.ref p 1 (if b then 1 else 0), .ref p 1 (if b then 3 else 2), .int .u32 n] ob K := by
 have hpl : p < ob.length := (qd.1 hp).1
 have g1 : ∀ x, (ob.set p x)[p]? = some x := fun x => by simp [hpl]
 have g2 : ∀ x y, (ob.set p x).set p y = ob.set p y := fun x y => YC _
 have key : ∀ k s : Nat, k ≤ 24 → s ≤ 68719476735 → ∃ t p4 p5 : Nat, t ≤ 68719476735 ∧ IntKind.u64.wrap ((s : Int) + IntKind.u64.wrap ((n : Int) - ((s / 16 : Nat) : Int))) = (t : Int) ∧ Qu false .u64 (s : Int) 4 = some (.int .u64 ((s / 16 : Nat) : Int)) ∧
   Qu true .u64 16 (k : Int) = some (.int .u64 (p4 : Int)) ∧ Qu true .u64 32 (k : Int) = some (.int .u64 (p5 : Int)) ∧
   Qu true .u64 16 (k : Int) = some (.int .u64 (p4 : Int)) ∧ Qbw k s n = if 0 < k ∧ t < p4 then (k - 1, t) else if k < 24 ∧ p5 < t then (k + 1, t) else (k, t) := by
  intro k s hk hs
  obtain ⟨q1, q2, q3⟩ := p24 hk
  refine ⟨s + n - s / 16, 2 ^ (k + 4), 2 ^ (k + 5), by omega, ?_, Qnp (K := .u64) (k := 4) (by decide), ?_, ?_, ?_, rfl⟩
  ·rw [ZS, ZS]; omega
  ·rw [q2]; exact QyK (K := .u64) rfl (c := 16) (by show k ≤ 64; omega) (by show 16 * 2 ^ k < 18446744073709551616; omega)
  ·rw [q3]; exact QyK (K := .u64) rfl (c := 32) (by show k ≤ 64; omega) (by show 32 * 2 ^ k < 18446744073709551616; omega)
  ·rw [q2]; exact QyK (K := .u64) rfl (c := 16) (by show k ≤ 64; omega) (by show 16 * 2 ^ k < 18446744073709551616; omega)
 obtain ⟨k0, k1, s0, s1⟩ := d
 obtain ⟨h1, h2, h3, h4⟩ := hd
 simp only at h1 h2 h3 h4
 refine Qb bd (by simp) ?_
 simp only [dlC] at hp hK
 cases b with
 | false =>
  obtain ⟨u, p4, p5, hu, e1, e2, e3, e4, _, e5⟩ := key k0 s0 h1 h3
  simp only [e5, qS, yl] at hK ⊢
  by_cases c1 : 0 < k0
  ·by_cases c2 : u < p4
   ·rw [qc ⟨c1, c2⟩] at hK
    have e6 : ((k0 - 1 : Nat) : Int) = (k0 : Int) - 1 := by omega
    simp only [e6] at hK
    simp (disch := omega) only [rq, simprocAttr, QC, hp, g1, g2, e1, e2, e3, e4, e6]
    exact hK
   ·rw [qa (fun h => c2 h.2)] at hK
    by_cases c3 : k0 < 24
    ·by_cases c4 : p5 < u
     ·rw [qc ⟨c3, c4⟩] at hK
      simp only [yI] at hK
      simp (disch := omega) only [rq, simprocAttr, QC, hp, g1, g2, e1, e2, e3, e4]
      exact hK
     ·rw [qa (fun h => c4 h.2)] at hK
      simp (disch := omega) only [rq, simprocAttr, QC, hp, g1, g2, e1, e2, e3, e4]
      exact hK
    ·rw [qa (fun h => c3 h.1)] at hK
     simp (disch := omega) only [rq, simprocAttr, QC, hp, g1, g2, e1, e2, e3, e4]
     exact hK
  ·rw [qa (fun h => c1 h.1)] at hK
   by_cases c4 : p5 < u
   ·rw [qc ⟨by omega, c4⟩] at hK
    simp only [yI] at hK
    simp (disch := omega) only [rq, simprocAttr, QC, hp, g1, g2, e1, e2, e3, e4]
    exact hK
   ·rw [qa (fun h => c4 h.2)] at hK
    simp (disch := omega) only [rq, simprocAttr, QC, hp, g1, g2, e1, e2, e3, e4]
    exact hK
 | true =>
  obtain ⟨u, p4, p5, hu, e1, e2, e3, e4, _, e5⟩ := key k1 s1 h2 h4
  simp only [e5, yf] at hK ⊢
  by_cases c1 : 0 < k1
  ·by_cases c2 : u < p4
   ·rw [qc ⟨c1, c2⟩] at hK
    have e6 : ((k1 - 1 : Nat) : Int) = (k1 : Int) - 1 := by omega
    simp only [e6] at hK
    simp (disch := omega) only [rq, simprocAttr, QC, hp, g1, g2, e1, e2, e3, e4, e6]
    exact hK
   ·rw [qa (fun h => c2 h.2)] at hK
    by_cases c3 : k1 < 24
    ·by_cases c4 : p5 < u
     ·rw [qc ⟨c3, c4⟩] at hK
      simp only [yI] at hK
      simp (disch := omega) only [rq, simprocAttr, QC, hp, g1, g2, e1, e2, e3, e4]
      exact hK
     ·rw [qa (fun h => c4 h.2)] at hK
      simp (disch := omega) only [rq, simprocAttr, QC, hp, g1, g2, e1, e2, e3, e4]
      exact hK
    ·rw [qa (fun h => c3 h.1)] at hK
     simp (disch := omega) only [rq, simprocAttr, QC, hp, g1, g2, e1, e2, e3, e4]
     exact hK
  ·rw [qa (fun h => c1 h.1)] at hK
   by_cases c4 : p5 < u
   ·rw [qc ⟨by omega, c4⟩] at hK
    simp only [yI] at hK
    simp (disch := omega) only [rq, simprocAttr, QC, hp, g1, g2, e1, e2, e3, e4]
    exact hK
   ·rw [qa (fun h => c4 h.2)] at hK
    simp (disch := omega) only [rq, simprocAttr, QC, hp, g1, g2, e1, e2, e3, e4]
    exact hK
def bO (t o N : Nat) : Ob := ⟨t, 2, 1, [.own o (nB N), .int .i64 N], 0⟩
def bY (t N V : Nat) : Ob := ⟨t, 1, nB N, u8 (leB V (nB N)), 0⟩
theorem Qh3 (V n : Nat) : isDL (u8 (leB V n)) = true := QiQ _
theorem Low.put {ob : List Ob} (h : Low ob.length ob) {t t0 o p N V N' : Nat} (ho : o < ob.length) : Low ob.length (Qcv ob o p (bY t0 N V) (bO t o N')) := by
 unfold Qcv
 refine (h.set ?_).set ?_
 ·exact lowL_D _ (Qh3 _ _)
 ·simp [bO, lowL, QgB, ho]
theorem Low.drop {ob : List Ob} (h : Low ob.length ob) {t t0 o p N V : Nat} (ho : o < ob.length) {M : Nat} (hM : M ≤ ob.length) {J : List Ob} {fr fr' : List (Nat × AV)}
  (hfr : ∀ q ∈ fr', q.2 = .any ∨ (q.2 = Am.look fr q.1 ∧ QgB ob.length q.2 = true)) :
  Le M ⟨fr, Qcv ob o p (bY t0 N V) (bO t o N) ++ J⟩ ⟨fr', Qcv ob o p (bY t0 N V) (bO t o N)⟩ := by
 have hl : (Qcv ob o p (bY t0 N V) (bO t o N)).length = ob.length := QbC
 refine Le.low (by omega) (by rw [hl]; exact h.put ho) ?_
 rw [hl]
 exact hfr
theorem QDG {V N v j r : Nat} : V + 2 ^ N * (v % 2 ^ (j + r)) = V + 2 ^ N * (v % 2 ^ j) + 2 ^ (N + j) * (v / 2 ^ j % 2 ^ r) := by
 rw [qZ, Nat.mod_mul, jB, qZ, jw, js]
set_option maxHeartbeats 1000000 in
theorem QzD {P : Prg} {f t0 t : Nat} (bd : Qf P f 75 [] (QcV t0)) {ob : List Ob} {p o N V v n : Nat} (hp : ob[p]? = some (bO t o N)) (ho : ob[o]? = some (bY t0 N V)) (hpo : p ≠ o) (hV : V < 2 ^ N) (hv : v < 2 ^ n) (hn : n ≤ 64) (hN : N + n ≤ 400000) (hfz : Low ob.length ob)
  {K : AV → List Ob → Prop} (hK : K (.tup []) (Qcv ob o p (bY t0 (N + n) (V + 2 ^ N * v)) (bO t o (N + n)))) : ACall P f [.ref p 1 0, .int .u64 v, .int .i64 n] ob K := by
 have hol : o < ob.length := (qd.1 ho).1
 have hpl : p < ob.length := (qd.1 hp).1
 refine Qb bd (by simp) ?_
 have g0 : ∀ x y J, (Qcv ob o p x y ++ J)[p]? = some y := fun x y J => by rw [qp (by rw [QbC]; exact hpl)]; exact Qvu hpl
 have g1 : ∀ x y J, (Qcv ob o p x y ++ J)[o]? = some x := fun x y J => by rw [qp (by rw [QbC]; exact hol)]; exact Qvv hol hpo
 have g2 : ∀ x y J y', (Qcv ob o p x y ++ J).set p y' = Qcv ob o p x y' ++ J := fun x y J y' => by rw [jh _ _ (by rw [QbC]; exact hpl), QzL]
 have g3 : ∀ x y J x', (Qcv ob o p x y ++ J).set o x' = Qcv ob o p x' y ++ J := fun x y J x' => by rw [jh _ _ (by rw [QbC]; exact hol), QzM hpo]
 have g4 : ∀ x y j, (Qcv ob o p x y ++ [j])[ob.length]? = some j := fun x y j => by rw [qI (by rw [QbC]; exact qj _), QbC, jy]; rfl
 have gp : ∀ x y, (Qcv ob o p x y)[p]? = some y := fun x y => Qvu hpl
 have go : ∀ x y, (Qcv ob o p x y)[o]? = some x := fun x y => Qvv hol hpo
 have sp : ∀ x y y', (Qcv ob o p x y).set p y' = Qcv ob o p x y' := fun x y y' => QzL
 have so : ∀ x y x', (Qcv ob o p x y).set o x' = Qcv ob o p x' y := fun x y x' => QzM hpo
 have ln : ∀ x y, (Qcv ob o p x y).length = ob.length := fun x y => QbC
 simp (disch := omega) only [rq, simprocAttr, QcV]
 refine Qg (ι := Nat) (fun j => ⟨[(2, .int .i64 ((n - j : Nat) : Int)), (1, .int .u64 ((v / 2 ^ j : Nat) : Int)), (0, .ref p 1 0)], Qcv ob o p (bY t0 (N + j) (V + 2 ^ N * (v % 2 ^ j))) (bO t o (N + j))⟩) (fun j => j ≤ n) (fun j => n - j) 0 ?_ (by omega) ?_
 ·have : Qcv ob o p (bY t0 (N + 0) (V + 2 ^ N * (v % 2 ^ 0))) (bO t o (N + 0)) = ob := by
   rw [yP, jR, Yb, Yq, yP]
   exact Qvt ho hp hpo
  rw [this]
  exact Qh
 intro j hj
 by_cases hlt : j < n
 ·obtain ⟨M, hM⟩ : ∃ M, M = N + j := ⟨_, rfl⟩
  obtain ⟨i, hi⟩ : ∃ i, i = M / 8 := ⟨_, rfl⟩
  obtain ⟨a, ha⟩ : ∃ a, a = M % 8 := ⟨_, rfl⟩
  obtain ⟨r, hr⟩ : ∃ r, r = min (n - j) (8 - a) := ⟨_, rfl⟩
  have hM8 : M = 8 * i + a := by omega
  have hW : V + 2 ^ N * (v % 2 ^ j) < 2 ^ M := by
   have h1 : v % 2 ^ j < 2 ^ j := qz _ (qR (by omega))
   have h2 : 2 ^ N * (v % 2 ^ j + 1) ≤ 2 ^ N * 2 ^ j := yA _ h1
   rw [hM, qZ]; rw [jB, jz] at h2; omega
  have hstep := QDG (V := V) (N := N) (v := v) (j := j) (r := r)
  rw [← hM] at hstep ⊢
  have hx : v / 2 ^ j < 18446744073709551616 := by
   have h1 : v / 2 ^ j ≤ v := yJ _ _
   have h2 : 2 ^ n ≤ 2 ^ 64 := qq (by omega) hn
   omega
  have hxr : v / 2 ^ (j + r) = v / 2 ^ j / 2 ^ r := by rw [qZ, qw]
  generalize V + 2 ^ N * (v % 2 ^ j) = W at *
  generalize hWW : V + 2 ^ N * (v % 2 ^ (j + r)) = W' at *
  generalize hxx : v / 2 ^ j = x at *
  have h2r : 2 ^ r ≤ 2 ^ 8 := qq (by omega) (by omega)
  have h2a : 2 ^ a * 2 ^ r ≤ 2 ^ 8 := by rw [← qZ]; exact qq (by omega) (by omega)
  have hpos : 0 < 2 ^ r := qR (by omega)
  have hc : x % 2 ^ r < 2 ^ r := qz _ hpos
  obtain ⟨l1, l2⟩ := Qdw (V := W) (i := i) (at_ := a) (by rw [← hM8]; exact hW) (by omega)
  obtain ⟨b1, b2, _⟩ := QeN (V := W) (i := i) (at_ := a) (w := x % 2 ^ r) (r := r) (by rw [← hM8]; exact hW) hc (by omega)
  rw [← hM8, ← hstep] at b1
  have hyb : W / 256 ^ i < 256 := by
   have : 2 ^ a ≤ 2 ^ 8 := qq (by omega) (by omega)
   omega
  have hyb2 : W / 256 ^ i + 2 ^ a * (x % 2 ^ r) < 256 := by
   have : 2 ^ (a + r) ≤ 2 ^ 8 := qq (by omega) (by omega)
   omega
  have hca : x % 2 ^ r * 2 ^ a < 2 ^ 8 := by
   rw [qE]
   exact yy (Nat.mul_lt_mul_of_pos_left hc (qR (by omega))) h2a
  have hu : ∀ y, y < 256 → u8 [UInt8.ofNat y] = [.int .u8 (y : Int)] := fun y hy => by simp [u8]; omega
  have e8 : IntKind.u8.wrap (BitVec.ofInt IntKind.u8.bits ((W / 256 ^ i : Nat) : Int) ||| BitVec.ofInt IntKind.u8.bits ((x % 2 ^ r * 2 ^ a : Nat) : Int)).toNat = ((W / 256 ^ i + 2 ^ a * (x % 2 ^ r) : Nat) : Int) := by
   rw [orK (K := .u8) rfl hyb hca, QoW l2, qE]
  have e7 : Qu true .u8 ((x % 2 ^ r : Nat) : Int) (a : Int) = some (.int .u8 ((x % 2 ^ r * 2 ^ a : Nat) : Int)) := QyK rfl (by show a ≤ 8; omega) hca
  have e6 : IntKind.u8.wrap ((x % 2 ^ r : Nat) : Int) = ((x % 2 ^ r : Nat) : Int) := by rw [Zn]; omega
  have e5 : IntKind.u64.wrap (BitVec.ofInt IntKind.u64.bits (x : Int) &&& BitVec.ofInt IntKind.u64.bits ((2 ^ r - 1 : Nat) : Int)).toNat = ((x % 2 ^ r : Nat) : Int) := by
   rw [QrW _ _ hx (by omega), ja]
  have e4 : IntKind.u64.wrap (((2 ^ r : Nat) : Int) - 1) = ((2 ^ r - 1 : Nat) : Int) := by rw [ZS]; omega
  have e3 : Qu true .u64 1 (r : Int) = some (.int .u64 ((2 ^ r : Nat) : Int)) := by
   have := QyK (K := .u64) rfl (c := 1) (s := r) (by show r ≤ 64; omega) (by show 1 * 2 ^ r < 18446744073709551616; omega)
   rw [yS] at this
   exact this
  have e9 : Qu false .u64 (x : Int) (r : Int) = some (.int .u64 ((x / 2 ^ r : Nat) : Int)) := Qnp (K := .u64) (by show r ≤ 64; omega)
  have e1 := QmM (n := M) (by omega)
  rw [← ha] at e1
  have e2 : (if (8 : Int) - a < ((n - j : Nat) : Int) then (8 : Int) - a else ((n - j : Nat) : Int)) = (r : Int) := by split <;> omega
  have hnB : nB (M + r) = i + 1 := by unfold nB; omega
  have hcell : u8 (leB W' (i + 1)) = u8 (leB W i) ++ [.int .u8 ((W / 256 ^ i + 2 ^ a * (x % 2 ^ r) : Nat) : Int)] := by
   rw [b1, show u8 (leB W i ++ [UInt8.ofNat (W / 256 ^ i + 2 ^ a * (x % 2 ^ r))]) = u8 (leB W i) ++ u8 [UInt8.ofNat (W / 256 ^ i + 2 ^ a * (x % 2 ^ r))] by simp [u8]]
   rw [hu _ hyb2]
  have hlen : (u8 (leB W i)).length = i := by simp [u8, Qy]
  rw [← hxr] at e9
  generalize W / 256 ^ i + 2 ^ a * (x % 2 ^ r) = y' at *
  generalize x % 2 ^ r * 2 ^ a = ca at *
  generalize x % 2 ^ r = c at *
  generalize 2 ^ r - 1 = mk at *
  generalize 2 ^ r = pr at *
  have d1 : ∀ z : AV, (u8 (leB W i) ++ [z]).drop i = [z] := fun z => by rw [Yk hlen]
  have d2 : ∀ z : AV, (u8 (leB W i) ++ [z]).take i = u8 (leB W i) := fun z => by rw [jF hlen]
  have d3 : ∀ z : AV, (u8 (leB W i) ++ [z]).drop (i + 1) = [] := fun z => jO (by simp [hlen])
  have jr : n - j - r = n - (j + r) := by omega
  have el : (⟨t0, 1, i + 1, u8 (leB W i) ++ [.int .u8 (y' : Int)], 0⟩ : Ob) = bY t0 (M + r) W' := by rw [bY, hnB, hcell]
  have er : (⟨t, 2, 1, [.own o (i + 1), .int .i64 ((M : Int) + r)], 0⟩ : Ob) = bO t o (M + r) := by rw [bO, hnB, yI]
  have hMr : N + (j + r) = M + r := by omega
  have e10 : ((n - j : Nat) : Int) - r = ((n - (j + r) : Nat) : Int) := by omega
  have e11 : (M : Int) + r = ((M + r : Nat) : Int) := by omega
  by_cases h0 : a = 0
  ·subst h0
   have hnM : nB M = i := by unfold nB; omega
   have hW0 : W / 256 ^ i = 0 := by
    have := l2
    rw [jR] at this
    exact Nat.lt_one_iff.1 this
   rw [hW0] at e8
   have e8' : IntKind.u8.wrap (BitVec.ofInt IntKind.u8.bits 0 ||| BitVec.ofInt IntKind.u8.bits (ca : Int)).toNat = (y' : Int) := e8
   have e1' : IntKind.i64.wrap (BitVec.ofInt IntKind.i64.bits (M : Int) &&& BitVec.ofInt IntKind.i64.bits 7).toNat = 0 := e1
   have e2' : (if (8 : Int) < ((n - j : Nat) : Int) then (8 : Int) else ((n - j : Nat) : Int)) = (r : Int) := by split <;> omega
   have e12 : i + 1 - 1 = i := by omega
   have e7' : Qu true .u8 (c : Int) 0 = some (.int .u8 (ca : Int)) := e7
   have e13 : (i : Int) + 1 - 1 = i := by omega
   simp (disch := omega) only [rq, simprocAttr, e2', e12, e13, bO, bY, gp, go, sp, so, ln, g0, g1, g2, g3, g4, hnM, hlen, e1', e2, e3, e4, e5, e6, e7', e8', e9, d1, d2, d3]
   refine ⟨j + r, by omega, by omega, ?_⟩
   show Le ob.length _ ⟨[(2, .int .i64 ((n - (j + r) : Nat) : Int)), (1, .int .u64 ((v / 2 ^ (j + r) : Nat) : Int)), (0, .ref p 1 0)], Qcv ob o p (bY t0 (N + (j + r)) (V + 2 ^ N * (v % 2 ^ (j + r)))) (bO t o (N + (j + r)))⟩
   rw [hWW, hMr, el, er]
   exact hfz.drop hol (qj _) (by simp [Am.look, QgB, hpl, e10])
  ·have hnM : nB M = i + 1 := by unfold nB; omega
   have l3 : u8 (leB W (i + 1)) = u8 (leB W i) ++ [.int .u8 ((W / 256 ^ i : Nat) : Int)] := by
    rw [l1, show u8 (leB W i ++ [UInt8.ofNat (W / 256 ^ i)]) = u8 (leB W i) ++ u8 [UInt8.ofNat (W / 256 ^ i)] by simp [u8], hu _ hyb]
   have e12 : i + 1 - 1 = i := by omega
   have e13 : (i : Int) + 1 - 1 = i := by omega
   have ha0 : (a : Int) ≠ 0 := by omega
   generalize W / 256 ^ i = y at *
   simp (disch := omega) only [rq, simprocAttr, e12, e13, bO, bY, gp, go, sp, so, ln, hnM, hlen, l3, e1, e2, e3, e4, e5, e6, e7, e8, e9, d1, d2, d3]
   refine ⟨j + r, by omega, by omega, ?_⟩
   show Le ob.length _ ⟨[(2, .int .i64 ((n - (j + r) : Nat) : Int)), (1, .int .u64 ((v / 2 ^ (j + r) : Nat) : Int)), (0, .ref p 1 0)], Qcv ob o p (bY t0 (N + (j + r)) (V + 2 ^ N * (v % 2 ^ (j + r)))) (bO t o (N + (j + r)))⟩
   rw [hWW, hMr, el, er]
   exact Qk (by simp [Am.look, e10])
 ·obtain rfl : j = n := by omega
  rw [qv hv]
  simp (disch := omega) only [rq, simprocAttr]
  exact hK
theorem QuI {P : Prg} {f f1 fL t : Nat} (bd : Qf P f 36 [] (Qag f1 fL)) (b1 : Qf P f1 58 [] QC) (hL : Qna P fL) {ob : List Ob} {p : Nat} {d : Dl} (hp : ob[p]? = some ⟨t, 4, 1, dlC d, 0⟩) (hd : okD d) {v : Nat} (hv : v < 4294967296) {K : AV → List Ob → Prop}
  (hK : K (.tup []) (ob.set p ⟨t, 4, 1, dlC (JA d v), 0⟩)) : ACall P f [.ref p 1 0, .int .u32 v] ob K := by
 have hpl : p < ob.length := (qd.1 hp).1
 have hL' := hL d v hd hv
 have nph : ∀ cs, (⟨t, 4, 1, cs, 0⟩ : Ob) ≠ ph := fun cs e => by have := congrArg Ob.sz e; simp [ph] at this
 refine Qb bd (by simp) ?_
 unfold JA at hK
 have hp0 := hp
 obtain ⟨k0, k1, s0, s1⟩ := d
 simp only [dlC] at hp
 simp only [dlA, dlC] at hL' hK
 by_cases c : v < 2 ^ k0
 ·rw [qc c] at hL' hK
  simp (disch := omega) only [rq, simprocAttr, Qag, hp]
  refine Qa hL' ?_
  simp (disch := omega) only [rq, simprocAttr, hp]
  refine callE.by hp0 (nph _) (fun K hK => QgO b1 hp0 hd hv false hK) ?_
  simp (disch := omega) only [rq, simprocAttr]
  exact hK
 ·rw [qa c] at hL' hK
  have hv2 : v - 2 ^ k0 < 4294967296 := Yh (Nat.sub_le _ _) hv
  obtain ⟨h1, h2, h3, h4⟩ := hd
  have pk := Qq5 h2 h4 hv2
  simp only at h1 h2 h3 h4 pk
  generalize v - 2 ^ k0 = w at *
  simp (disch := omega) only [rq, simprocAttr, Qag, hp]
  refine Qa hL' ?_
  simp (disch := omega) only [rq, simprocAttr, hp]
  refine callE.by hp0 (nph _) (fun K hK => QgO b1 hp0 ⟨h1, h2, h3, h4⟩ hv2 true hK) ?_
  have hp1 : (ob.set p ⟨t, 4, 1, dlC ⟨k0, (Qbw k1 s1 w).1, s0, (Qbw k1 s1 w).2⟩, 0⟩)[p]? = some ⟨t, 4, 1, dlC ⟨k0, (Qbw k1 s1 w).1, s0, (Qbw k1 s1 w).2⟩, 0⟩ := by simp [hpl]
  have hp2 := hp1
  simp only [dlC] at hp2
  simp (disch := omega) only [rq, simprocAttr, dlC, hp2]
  refine callE.by hp1 (nph _) (fun K hK => QgO b1 hp1 ⟨h1, pk.1, h3, pk.2⟩ hv false hK) ?_
  rw [YC]
  simp (disch := omega) only [rq, simprocAttr]
  exact hK
theorem QoC {P : Prg} {f : Nat} (bd : Qf P f 9 [.tmp 4] Qae) {v k : Nat} (hk : k ≤ 24) (hv : v < 4294967296) : VC P f [.int .u32 v, .int .i64 k] (.bool (decide (48 ≤ v / 2 ^ k))) := by
 refine Qn rfl rfl bd ?_
 have e1 : Qu false .u32 (v : Int) (k : Int) = some (.int .u32 ((v / 2 ^ k : Nat) : Int)) := Qnp (K := .u32) (by show k ≤ 32; omega)
 generalize v / 2 ^ k = w at *
 have e2 : decide ((48 : Int) ≤ (w : Int)) = decide (48 ≤ w) := decide_eq_decide.2 (by omega)
 simp (disch := omega) only [rq, simprocAttr, Qae, e1, e2]
def QBC (P : Prg) (f : Nat) : Prop := ∀ v k : Nat, k ≤ 24 → v < 4294967296 → VC P f [.int .u32 v, .int .i64 k] (.bool (decide (48 ≤ v / 2 ^ k)))
theorem QyT {P : Prg} {f : Nat} (bd : Qf P f 9 [.tmp 4] Qae) : QBC P f := by
 exact fun _ _ h1 h2 => QoC bd h1 h2
def QeU (V N a k : Nat) : Nat ⊕ (Nat × Nat) :=
 match QbW V N a with
 | .inl e => .inl e
 | .inr (q, nx) =>
  if N < nx + (if q = 48 then 32 else k) then .inl 24
  else if q < 48 then .inr (q * 2 ^ k + V / 2 ^ nx % 2 ^ k, nx + k)
  else if V / 2 ^ nx % 2 ^ 32 / 2 ^ k < 48 then .inl 12 else .inr (V / 2 ^ nx % 2 ^ 32, nx + 32)
def rcA : Nat ⊕ (Nat × Nat) → AV
 | .inl e => .tup [.int .u32 0, .int .i64 0, .int .i64 e]
 | .inr (v, n) => .tup [.int .u32 v, .int .i64 n, .int .i64 0]
theorem Qrc (o : Nat ⊕ (Nat × Nat)) : isD (rcA o) = true := by cases o <;> rfl
theorem QlP {V N a q nx : Nat} (h : QbW V N a = .inr (q, nx)) : q ≤ 48 ∧ nx ≤ N ∧ a ≤ nx := by
 unfold QbW at h
 split at h
 ·cases h
 split at h
 ·cases h
  have := QlS (min 48 (N - a)) (V / 2 ^ a)
  omega
 split at h
 ·cases h; omega
 ·cases h
theorem QiI {V N a e : Nat} (h : QbW V N a = .inl e) : e = 24 := by
 unfold QbW at h
 split at h
 ·cases h; rfl
 split at h
 ·cases h
 split at h
 ·cases h
 ·cases h; rfl
def QrZ (P : Prg) (f : Nat) : Prop := ∀ N V a k : Nat, V < 2 ^ N → N ≤ 330000 → a ≤ 400000 → k ≤ 24 → VC P f [bA N V, .int .i64 a, .int .i64 k] (rcA (QeU V N a k))
theorem Qwd {P : Prg} {f fC fU fG fE t0 : Nat} (bd : Qf P f 68 [.tmp 6, .tmp 7, .tmp 8] (Xj fC fU fG fE t0)) (hC : QcX P fC) (hU : QrX P fU) (hG : QkV P fG) (hE : QBC P fE) : QrZ P f := by
 intro N V a k hV hN ha hk
 refine Qn (by simp [isDL, QaR, isD]) (Qrc _) bd ?_
 have hC' := hC N V hV hN
 have hU' := hU N V a hV hN ha
 rw [bA] at hC' hU'
 unfold QeU
 cases hu : QbW V N a with
 | inl e =>
  have he := QiI hu
  rw [hu] at hU'
  subst he
  simp (disch := omega) only [rq, simprocAttr, Xj, bA, rcA]
  refine Qa hC' ?_
  simp (disch := omega) only [rq, simprocAttr]
  refine Qa hU' ?_
  simp (disch := omega) only [rq, simprocAttr, Qvw]
 | inr w =>
  obtain ⟨q, nx⟩ := w
  obtain ⟨u1, u2, u3⟩ := QlP hu
  rw [hu] at hU'
  simp only
  by_cases hq : q = 48
  ·have hG' := hG N V nx 32 hV hN (by omega) (by omega)
   subst hq
   rw [bA] at hG'
   simp only [yf]
   by_cases hs : N < nx + 32
   ·rw [qc hs] at hG' ⊢
    simp (disch := omega) only [rq, simprocAttr, Xj, bA, rcA]
    refine Qa hC' ?_
    simp (disch := omega) only [rq, simprocAttr]
    refine Qa hU' ?_
    simp (disch := omega) only [rq, simprocAttr, Qvw]
    refine Qa hG' ?_
    simp (disch := omega) only [rq, simprocAttr]
   ·rw [qa hs] at hG' ⊢
    have hx : V / 2 ^ nx % 2 ^ 32 < 4294967296 := qz _ (by decide)
    generalize V / 2 ^ nx % 2 ^ 32 = x at *
    have hE' := hE x k hk hx
    rw [qa (by omega)]
    have e1 : IntKind.u32.wrap (x : Int) = x := Qsq (by omega) (by omega)
    by_cases h4 : x / 2 ^ k < 48
    ·rw [qc h4]
     rw [decide_eq_false (by omega)] at hE'
     simp (disch := omega) only [rq, simprocAttr, Xj, bA, rcA]
     refine Qa hC' ?_
     simp (disch := omega) only [rq, simprocAttr]
     refine Qa hU' ?_
     simp (disch := omega) only [rq, simprocAttr, Qvw]
     iterate 2 (refine Qa (by assumption) ?_; simp (disch := omega) only [rq, simprocAttr])
    ·rw [qa h4]
     rw [decide_eq_true (by omega)] at hE'
     simp (disch := omega) only [rq, simprocAttr, Xj, bA, rcA]
     refine Qa hC' ?_
     simp (disch := omega) only [rq, simprocAttr]
     refine Qa hU' ?_
     simp (disch := omega) only [rq, simprocAttr, Qvw]
     iterate 2 (refine Qa (by assumption) ?_; simp (disch := omega) only [rq, simprocAttr])
  ·have hG' := hG N V nx k hV hN (by omega) (by omega)
   rw [bA] at hG'
   rw [qa hq]
   by_cases hs : N < nx + k
   ·rw [qc hs] at hG' ⊢
    simp (disch := omega) only [rq, simprocAttr, Xj, bA, rcA]
    refine Qa hC' ?_
    simp (disch := omega) only [rq, simprocAttr]
    refine Qa hU' ?_
    simp (disch := omega) only [rq, simprocAttr, Qvw]
    refine Qa hG' ?_
    simp (disch := omega) only [rq, simprocAttr]
   ·rw [qa hs] at hG' ⊢
    rw [qc (by omega)]
    have hx : V / 2 ^ nx % 2 ^ k < 2 ^ k := qz _ (qR (by omega))
    obtain ⟨pk, _⟩ := p24 hk
    have hqk : q * 2 ^ k ≤ 47 * 16777216 := jM (by omega) pk
    have e1 : Qu true .u32 (q : Int) (k : Int) = some (.int .u32 ((q * 2 ^ k : Nat) : Int)) := QyK (K := .u32) rfl (by show k ≤ 32; omega) (by show q * 2 ^ k < 4294967296; omega)
    have e2 : IntKind.u32.wrap (BitVec.ofInt IntKind.u32.bits ((q * 2 ^ k : Nat) : Int) ||| BitVec.ofInt IntKind.u32.bits ((V / 2 ^ nx % 2 ^ k : Nat) : Int)).toNat = ((q * 2 ^ k + V / 2 ^ nx % 2 ^ k : Nat) : Int) := by
     rw [orK (K := .u32) rfl (by show q * 2 ^ k < 4294967296; omega) (by show V / 2 ^ nx % 2 ^ k < 4294967296; omega), Nat.or_comm, QoW hx, Ys]
    generalize V / 2 ^ nx % 2 ^ k = x at *
    generalize q * 2 ^ k + x = y at *
    generalize q * 2 ^ k = qk at *
    simp (disch := omega) only [rq, simprocAttr, Xj, bA, rcA]
    refine Qa hC' ?_
    simp (disch := omega) only [rq, simprocAttr]
    refine Qa hU' ?_
    simp (disch := omega) only [rq, simprocAttr, Qvw]
    refine Qa hG' ?_
    simp (disch := omega) only [rq, simprocAttr, e1, e2]
def Qsb (P : Prg) (f : Nat) : Prop := ∀ v k : Nat, k ≤ 24 → v < 4294967296 → VC P f [.int .u32 v, .int .i64 k] (.int .i64 (min 48 (v / 2 ^ k) : Nat))
theorem Qun {P : Prg} {f fP : Nat} (bd : Qf P f 12 [.tmp 4] (Jv fP)) (hP : QdU P fP) : Qsb P f := by
 intro v k hk hv
 refine Qn rfl rfl bd ?_
 have hP' := hP k (by omega)
 obtain ⟨pk, _⟩ := p24 hk
 have hp : 0 < 2 ^ k := qR (by omega)
 have hd : v / 2 ^ k ≤ v := yJ _ _
 have e1 : ((v : Int)) / ((2 ^ k : Nat) : Int) = ((v / 2 ^ k : Nat) : Int) := by simp [jp]
 have e0 : ((v : Int)).tdiv ((2 ^ k : Nat) : Int) = ((v / 2 ^ k : Nat) : Int) := by rw [qJ (by omega), e1]
 generalize v / 2 ^ k = w at *
 generalize 2 ^ k = p at *
 obtain ⟨m, hm⟩ : ∃ m, m = min 48 w := ⟨_, rfl⟩
 rw [← hm]
 have e2 : (if (w : Int) < 48 then (w : Int) else 48) = (m : Int) := by split <;> omega
 have e3 : (p : Int) ≠ 0 := by omega
 simp (disch := omega) only [rq, simprocAttr, Jv]
 refine Qa hP' ?_
 simp (disch := omega) only [rq, simprocAttr, e0, e1, e2, e3]
def Qx1 (P : Prg) (f : Nat) : Prop := ∀ N V a k : Nat, N ≤ 330000 → a ≤ 400000 → k ≤ 24 → VC P f [bA N V, .int .i64 a, .int .i64 k] (rcA (QeU V N a k))
theorem Qwt {P : Prg} {f fG fV fP fQ t0 : Nat} (bd : Qf P f 64 [.tmp 6, .tmp 7, .tmp 8] (QR fG fV fP fQ t0)) (hG : Qx2 P fG) (hV : Qia P fV) (hP : QdU P fP) (hQ : Qsb P fQ) : Qx1 P f := by
 intro N V a k hN ha hk
 refine Qn (by simp [isDL, QaR, isD]) (Qrc _) bd ?_
 have hP' := hP k (by omega)
 unfold QeU
 by_cases hlt : N ≤ a
 ·have hu : QbW V N a = .inl 24 := by simp [QbW, hlt]
  rw [hu]
  simp (disch := omega) only [rq, simprocAttr, QR, bA, rcA]
 have hG' := hG N V a hN (by omega)
 rw [bA] at hG'
 cases hu : QbW V N a with
 | inl e =>
  have he := QiI hu
  rw [hu] at hG'
  subst he
  simp (disch := omega) only [rq, simprocAttr, QR, bA, rcA]
  refine Qa hG' ?_
  simp (disch := omega) only [rq, simprocAttr]
 | inr w =>
  obtain ⟨q, nx⟩ := w
  obtain ⟨u1, u2, u3⟩ := QlP hu
  rw [hu] at hG'
  simp only at hG' ⊢
  by_cases hq : q = 48
  ·subst hq
   simp only [yf]
   by_cases hs : N < nx + 32
   ·rw [qc hs]
    simp (disch := omega) only [rq, simprocAttr, QR, bA, rcA]
    refine Qa hG' ?_
    simp (disch := omega) only [rq, simprocAttr]
   ·rw [qa hs]
    have hV' := hV N V nx 32 (by omega) (by omega) (by omega)
    rw [bA] at hV'
    have hx : V / 2 ^ nx % 2 ^ 32 < 4294967296 := qz _ (by decide)
    generalize V / 2 ^ nx % 2 ^ 32 = x at *
    have hQ' := hQ x k hk hx
    rw [qa (by omega)]
    by_cases h4 : x / 2 ^ k < 48
    ·rw [qc h4]
     generalize x / 2 ^ k = y at *
     obtain ⟨m, hm⟩ : ∃ m, m = min 48 y := ⟨_, rfl⟩
     rw [← hm] at hQ'
     simp (disch := omega) only [rq, simprocAttr, QR, bA, rcA]
     iterate 3 (refine Qa (by assumption) ?_; simp (disch := omega) only [rq, simprocAttr])
    ·rw [qa h4]
     generalize x / 2 ^ k = y at *
     obtain ⟨m, hm⟩ : ∃ m, m = min 48 y := ⟨_, rfl⟩
     rw [← hm] at hQ'
     simp (disch := omega) only [rq, simprocAttr, QR, bA, rcA]
     iterate 3 (refine Qa (by assumption) ?_; simp (disch := omega) only [rq, simprocAttr])
  ·rw [qa hq]
   by_cases hs : N < nx + k
   ·rw [qc hs]
    simp (disch := omega) only [rq, simprocAttr, QR, bA, rcA]
    refine Qa hG' ?_
    simp (disch := omega) only [rq, simprocAttr]
   ·rw [qa hs, qc (by omega)]
    have hV' := hV N V nx k (by omega) (by omega) (by omega)
    rw [bA] at hV'
    have hx : V / 2 ^ nx % 2 ^ k < 2 ^ k := qz _ (qR (by omega))
    obtain ⟨pk, _⟩ := p24 hk
    have hqk : q * 2 ^ k ≤ 47 * 16777216 := jM (by omega) pk
    have e1 : (q : Int) * ((2 ^ k : Nat) : Int) = ((q * 2 ^ k : Nat) : Int) := by simp
    generalize V / 2 ^ nx % 2 ^ k = x at *
    generalize hqq : q * 2 ^ k = qk at *
    generalize 2 ^ k = p at *
    simp (disch := omega) only [rq, simprocAttr, QR, bA, rcA]
    iterate 2 (refine Qa (by assumption) ?_; simp (disch := omega) only [rq, simprocAttr])
    refine Qa hP' ?_
    simp (disch := omega) only [rq, simprocAttr, e1]
def Qnq (V N a : Nat) (d : Dl) : Nat ⊕ (Nat × Nat) :=
 if N ≤ a then .inl 24
 else if V / 2 ^ a % 2 = 0 then (if N < a + 1 + d.k0 then .inl 24 else .inr (V / 2 ^ (a + 1) % 2 ^ d.k0, a + 1 + d.k0))
 else match QeU V N (a + 1) d.k1 with
  | .inl e => .inl e
  | .inr (l, nx) => if 4294967295 < l + 2 ^ d.k0 then .inl 12 else .inr (l + 2 ^ d.k0, nx)
theorem QqH {V N a k v nx : Nat} (hk : k ≤ 24) (h : QeU V N a k = .inr (v, nx)) : v < 4294967296 ∧ nx ≤ N := by
 unfold QeU at h
 cases hu : QbW V N a with
 | inl e => rw [hu] at h; cases h
 | inr w =>
  obtain ⟨q, n⟩ := w
  obtain ⟨u1, u2, u3⟩ := QlP hu
  rw [hu] at h
  simp only at h
  by_cases hs : N < n + (if q = 48 then 32 else k)
  ·rw [qc hs] at h; cases h
  rw [qa hs] at h
  by_cases hq : q < 48
  ·rw [qc hq] at h
   cases h
   obtain ⟨pk, _⟩ := p24 hk
   have hx : V / 2 ^ n % 2 ^ k < 2 ^ k := qz _ (qR (by omega))
   have hqk : q * 2 ^ k ≤ 47 * 16777216 := jM (by omega) pk
   rw [qa (show ¬ q = 48 by omega)] at hs
   exact ⟨by omega, by omega⟩
  ·rw [qa hq] at h
   rw [qc (show q = 48 by omega)] at hs
   by_cases h4 : V / 2 ^ n % 2 ^ 32 / 2 ^ k < 48
   ·rw [qc h4] at h; cases h
   ·rw [qa h4] at h
    cases h
    exact ⟨qz _ (by decide), by omega⟩
theorem QlF {V N a k e : Nat} (h : QeU V N a k = .inl e) : e = 24 ∨ e = 12 := by
 unfold QeU at h
 cases hu : QbW V N a with
 | inl e' => rw [hu] at h; cases h; exact .inl (QiI hu)
 | inr w =>
  obtain ⟨q, n⟩ := w
  rw [hu] at h
  simp only at h
  by_cases hs : N < n + (if q = 48 then 32 else k)
  ·rw [qc hs] at h; cases h; exact .inl rfl
  rw [qa hs] at h
  by_cases hq : q < 48
  ·rw [qc hq] at h; cases h
  ·rw [qa hq] at h
   by_cases h4 : V / 2 ^ n % 2 ^ 32 / 2 ^ k < 48
   ·rw [qc h4] at h; cases h; exact .inr rfl
   ·rw [qa h4] at h; cases h
theorem Qs8 {V N a v nx : Nat} {d : Dl} (hd : okD d) (h : Qnq V N a d = .inr (v, nx)) : v < 4294967296 ∧ nx ≤ N := by
 obtain ⟨pk, _⟩ := p24 hd.1
 unfold Qnq at h
 split at h
 ·cases h
 split at h
 ·split at h
  ·cases h
  ·cases h
   have : V / 2 ^ (a + 1) % 2 ^ d.k0 < 2 ^ d.k0 := qz _ (qR (by omega))
   exact ⟨by omega, by omega⟩
 ·cases hr : QeU V N (a + 1) d.k1 with
  | inl e => rw [hr] at h; cases h
  | inr w =>
   obtain ⟨l, n⟩ := w
   rw [hr] at h
   simp only at h
   split at h
   ·cases h
   ·cases h
    exact ⟨by omega, (QqH hd.2.1 hr).2⟩
theorem Qri {V N a e : Nat} {d : Dl} (h : Qnq V N a d = .inl e) : e = 24 ∨ e = 12 := by
 unfold Qnq at h
 split at h
 ·cases h; exact .inl rfl
 split at h
 ·split at h
  ·cases h; exact .inl rfl
  ·cases h
 ·cases hr : QeU V N (a + 1) d.k1 with
  | inl e' => rw [hr] at h; cases h; exact QlF hr
  | inr w =>
   obtain ⟨l, n⟩ := w
   rw [hr] at h
   simp only at h
   split at h
   ·cases h; exact .inr rfl
   ·cases h
def Qx0 (P : Prg) (f : Nat) : Prop := ∀ (N V a : Nat) (d : Dl), N ≤ 330000 → a ≤ 300000 → okD d → VC P f [bA N V, .int .i64 a, dlA d] (rcA (Qnq V N a d))
theorem Qws {P : Prg} {f fA fV fG fP t0 t1 : Nat} (bd : Qf P f 65 [.tmp 6, .tmp 7, .tmp 8] (Q1 fA fV fG fP t0 t1)) (hA : Qsl P fA) (hV : Qia P fV) (hG : Qx1 P fG) (hP : QdU P fP) : Qx0 P f := by
 intro N V a d hN ha hd
 refine Qn (by simp [isDL, QaR, Qrd, isD]) (Qrc _) bd ?_
 have hd' := hd
 obtain ⟨k0, k1, s0, s1⟩ := d
 obtain ⟨h1, h2, h3, h4⟩ := hd'
 simp only at h1 h2 h3 h4
 have hP' := hP k0 (by omega)
 obtain ⟨pk, _⟩ := p24 h1
 unfold Qnq
 by_cases hlt : N ≤ a
 ·rw [qc hlt]
  simp (disch := omega) only [rq, simprocAttr, Q1, bA, rcA, dlA, dlC]
 rw [qa hlt]
 have hA' := hA N V a (by omega) (by omega)
 rw [bA] at hA'
 have hb : V / 2 ^ a % 2 < 2 := qz _ (by decide)
 by_cases h0 : V / 2 ^ a % 2 = 0
 ·rw [qc h0]
  rw [h0] at hA'
  simp only
  by_cases hs : N < a + 1 + k0
  ·rw [qc hs]
   simp (disch := omega) only [rq, simprocAttr, Q1, bA, rcA, dlA, dlC]
   refine Qa hA' ?_
   simp (disch := omega) only [rq, simprocAttr]
  ·rw [qa hs]
   have hV' : VC P fV [bA N V, .int .i64 ((a : Int) + 1), .int .i64 k0] (.int .u64 ((V / 2 ^ (a + 1) % 2 ^ k0 : Nat) : Int)) := hV N V (a + 1) k0 (by omega) (by omega) (by omega)
   rw [bA] at hV'
   have hx : V / 2 ^ (a + 1) % 2 ^ k0 < 2 ^ k0 := qz _ (qR (by omega))
   generalize V / 2 ^ (a + 1) % 2 ^ k0 = x at *
   simp (disch := omega) only [rq, simprocAttr, Q1, bA, rcA, dlA, dlC]
   refine Qa hA' ?_
   simp (disch := omega) only [rq, simprocAttr]
   refine Qc hV' ?_
   simp (disch := omega) only [rq, simprocAttr]
 ·rw [qa h0]
  rw [show V / 2 ^ a % 2 = 1 by omega] at hA'
  have hG' : VC P fG [bA N V, .int .i64 ((a : Int) + 1), .int .i64 k1] (rcA (QeU V N (a + 1) k1)) := hG N V (a + 1) k1 hN (by omega) h2
  rw [bA] at hG'
  simp only
  cases hr : QeU V N (a + 1) k1 with
  | inl e =>
   have he := QlF hr
   rw [hr] at hG'
   have he0 : (e : Int) ≠ 0 := by omega
   simp (disch := omega) only [rq, simprocAttr, Q1, bA, rcA, dlA, dlC]
   refine Qa hA' ?_
   simp (disch := omega) only [rq, simprocAttr]
   refine Qa hG' ?_
   simp (disch := omega) only [rq, simprocAttr, rcA]
  | inr w =>
   obtain ⟨l, nx⟩ := w
   obtain ⟨r1, r2⟩ := QqH h2 hr
   rw [hr] at hG'
   simp only
   generalize 2 ^ k0 = p at *
   by_cases ho : 4294967295 < l + p
   ·rw [qc ho]
    simp (disch := omega) only [rq, simprocAttr, Q1, bA, rcA, dlA, dlC]
    refine Qa hA' ?_
    simp (disch := omega) only [rq, simprocAttr]
    refine Qa hG' ?_
    simp (disch := omega) only [rq, simprocAttr, rcA]
    refine Qa hP' ?_
    simp (disch := omega) only [rq, simprocAttr]
   ·rw [qa ho]
    simp (disch := omega) only [rq, simprocAttr, Q1, bA, rcA, dlA, dlC]
    refine Qa hA' ?_
    simp (disch := omega) only [rq, simprocAttr]
    refine Qa hG' ?_
    simp (disch := omega) only [rq, simprocAttr, rcA]
    refine Qa hP' ?_
    simp (disch := omega) only [rq, simprocAttr]
def drA (d : Dl) : Nat ⊕ (Nat × Nat) → AV
 | .inl e => .tup [.int .u32 0, .int .i64 0, dlA ⟨0, 0, 0, 0⟩, .int .i64 e]
 | .inr (v, nx) => .tup [.int .u32 v, .int .i64 nx, dlA (JA d v), .int .i64 0]
def Qr2 (P : Prg) (f : Nat) : Prop := ∀ (N V a : Nat) (d : Dl), V < 2 ^ N → N ≤ 330000 → a ≤ 300000 → okD d → VC P f [bA N V, .int .i64 a, dlA d] (drA d (Qnq V N a d))
theorem Qxh {P : Prg} {f fC fD fG fR fL fl1 fll t0 t1 : Nat} (bd : Qf P f 86 [.tmp 6, .tmp 7, .cell 8 t1, .tmp 9] (Xk fC fD fG fR fL t0 t1)) (hC : QcX P fC) (hD : Qnh P fD) (hG : QkV P fG) (hR : QrZ P fR)
  (bL : Qf P fL 36 [] (Qag fl1 fll)) (b1 : Qf P fl1 58 [] QC) (hL : Qna P fll) (ht : ZE P t1 = some (some 4)) : Qr2 P f := by
 intro N V a d hV hN ha hd
 refine Qn (by simp [isDL, QaR, Qrd, isD]) (by cases Qnq V N a d <;> rfl) bd ?_
 have hd' := hd
 have hC' := hC N V hV hN
 have hD' := hD d hd
 have hgl := fun v nx (h : Qnq V N a d = .inr (v, nx)) => Qs8 hd h
 have hL1 : ∀ {ob : List Ob} {p : Nat} {v : Nat} {K : AV → List Ob → Prop}, ob[p]? = some ⟨t1, 4, 1, dlC d, 0⟩ → v < 4294967296 → K (.tup []) (ob.set p ⟨t1, 4, 1, dlC (JA d v), 0⟩) → ACall P fL [.ref p 1 0, .int .u32 v] ob K :=
  fun hp hv hK => QuI bL b1 hL hp hd hv hK
 rw [bA] at hC'
 obtain ⟨k0, k1, s0, s1⟩ := d
 obtain ⟨h1, h2, h3, h4⟩ := hd'
 simp only at h1 h2 h3 h4
 obtain ⟨pk, _⟩ := p24 h1
 have hG1 := hG N V a 1 hV hN (by omega) (by omega)
 rw [bA] at hG1
 simp only [dlA, dlC] at hD'
 unfold Qnq at hgl ⊢
 by_cases hlt : N ≤ a
 ·rw [qc hlt]
  rw [qc (by omega)] at hG1
  simp (disch := omega) only [rq, simprocAttr, Xk, bA, drA, dlA, dlC]
  iterate 2 (refine Qa (by assumption) ?_; simp (disch := omega) only [rq, simprocAttr])
  refine Qa hG1 ?_
  simp (disch := omega) only [rq, simprocAttr, QL, ht, Qm]
 rw [qa hlt] at hgl ⊢
 rw [qa (by omega)] at hG1
 have hb : V / 2 ^ a % 2 < 2 := qz _ (by decide)
 rw [Nat.pow_one] at hG1
 by_cases h0 : V / 2 ^ a % 2 = 0
 ·rw [qc h0] at hgl ⊢
  rw [h0] at hG1
  simp only at hgl ⊢
  have hG2 : VC P fG [bA N V, .int .i64 ((a : Int) + 1), .int .i64 k0] (if N < a + 1 + k0 then .tup [.int .u64 0, .int .i64 24] else .tup [.int .u64 ((V / 2 ^ (a + 1) % 2 ^ k0 : Nat) : Int), .int .i64 0]) := hG N V (a + 1) k0 hV hN (by omega) (by omega)
  rw [bA] at hG2
  by_cases hs : N < a + 1 + k0
  ·rw [qc hs] at hG2 ⊢
   simp (disch := omega) only [rq, simprocAttr, Xk, bA, drA, dlA, dlC]
   iterate 3 (refine Qa (by assumption) ?_; simp (disch := omega) only [rq, simprocAttr])
   refine Qa hG2 ?_
   simp (disch := omega) only [rq, simprocAttr, QL, ht, Qm]
  ·rw [qa hs] at hG2 hgl ⊢
   have hx : V / 2 ^ (a + 1) % 2 ^ k0 < 2 ^ k0 := qz _ (qR (by omega))
   generalize V / 2 ^ (a + 1) % 2 ^ k0 = x at *
   simp (disch := omega) only [rq, simprocAttr, Xk, bA, drA, dlA, dlC]
   iterate 4 (refine Qa (by assumption) ?_; simp (disch := omega) only [rq, simprocAttr])
   refine hL1 (v := x) rfl (by omega) ?_
   generalize JA ⟨k0, k1, s0, s1⟩ x = d'
   obtain ⟨l0, l1, l2, l3⟩ := d'
   simp (disch := omega) only [rq, simprocAttr, QL, ht, Qm, dlC]
 ·rw [qa h0] at hgl ⊢
  rw [show V / 2 ^ a % 2 = 1 by omega] at hG1
  have hR' : VC P fR [bA N V, .int .i64 ((a : Int) + 1), .int .i64 k1] (rcA (QeU V N (a + 1) k1)) := hR N V (a + 1) k1 hV hN (by omega) h2
  rw [bA] at hR'
  simp only at hgl ⊢
  cases hr : QeU V N (a + 1) k1 with
  | inl e =>
   have he := QlF hr
   rw [hr] at hR'
   have he0 : (e : Int) ≠ 0 := by omega
   simp (disch := omega) only [rq, simprocAttr, Xk, bA, drA, dlA, dlC]
   iterate 3 (refine Qa (by assumption) ?_; simp (disch := omega) only [rq, simprocAttr])
   refine Qa hR' ?_
   simp (disch := omega) only [rq, simprocAttr, rcA, QL, ht, Qm]
  | inr w =>
   obtain ⟨l, nx⟩ := w
   obtain ⟨r1, r2⟩ := QqH h2 hr
   rw [hr] at hR' hgl
   simp only at hgl ⊢
   have e2 : Qu true .u32 1 (k0 : Int) = some (.int .u32 ((2 ^ k0 : Nat) : Int)) := by
    have := QyK (K := .u32) rfl (c := 1) (s := k0) (by show k0 ≤ 32; omega) (by show 1 * 2 ^ k0 < 4294967296; omega)
    rw [yS] at this
    exact this
   have hp0 : 0 < 2 ^ k0 := qR (by omega)
   generalize 2 ^ k0 = p at *
   by_cases ho : 4294967295 < l + p
   ·rw [qc ho]
    have e3 : IntKind.u32.wrap ((l : Int) + p) = (l : Int) + p - 4294967296 := by rw [Qhi]; omega
    simp (disch := omega) only [rq, simprocAttr, Xk, bA, drA, dlA, dlC]
    iterate 3 (refine Qa (by assumption) ?_; simp (disch := omega) only [rq, simprocAttr])
    refine Qa hR' ?_
    simp (disch := omega) only [rq, simprocAttr, rcA, e2, e3, QL, ht, Qm]
   ·rw [qa ho]
    simp (disch := omega) only [rq, simprocAttr, Xk, bA, drA, dlA, dlC]
    iterate 3 (refine Qa (by assumption) ?_; simp (disch := omega) only [rq, simprocAttr])
    refine Qa hR' ?_
    simp (disch := omega) only [rq, simprocAttr, rcA, e2]
    refine hL1 (v := l + p) rfl (by omega) ?_
    generalize JA ⟨k0, k1, s0, s1⟩ (l + p) = d'
    obtain ⟨l0, l1, l2, l3⟩ := d'
    simp (disch := omega) only [rq, simprocAttr, QL, ht, Qm, dlC]
theorem Qoq {P : Prg} {f t0 : Nat} (b : Qf P f 8 [.tmp 2] (JB t0)) : Qbe P f := by
 exact QrE b
theorem QCk (l : List UInt8) : nB (8 * l.length) = l.length := by unfold nB; omega
theorem QBs (l : List UInt8) : bA (8 * l.length) (leN l) = .agg [bs l, .int .i64 ((8 * l.length : Nat) : Int)] := by
 rw [bA, QCk, Qq9]; rfl
theorem QwT (l : List UInt8) : leN l < 2 ^ (8 * l.length) := Qhu l
def ofA (l : List UInt8) : AV := if 41250 < l.length then .tup [bA 0 0, .int .i64 4] else .tup [bA (8 * l.length) (leN l), .int .i64 0]
def QBD (P : Prg) (f : Nat) : Prop := ∀ l : List UInt8, l.length ≤ 1000000 → VC P f [bs l] (ofA l)
theorem QBp {P : Prg} {f fC t0 : Nat} (bd : Qf P f 14 [.cell 2 t0, .tmp 3] (Qd8 fC t0)) (hC : Qbe P fC) (ht : ZE P t0 = some (some 2)) : QBD P f := by
 intro l hl
 refine Qi 2 (by simp [isDL, Qr]) (by unfold ofA; split <;> simp [isD, isDL, QaR]) (Qb bd (by simp) ?_)
 have hC' := hC l (by omega)
 simp only [bs] at hC'
 unfold ofA
 by_cases h : 41250 < l.length
 ·rw [qc h]
  simp (disch := omega) only [rq, simprocAttr, Qd8, bs, QL, ht, Qm]
  simp [QI, Qz, frzL, Qv, bA, nB, leB, u8]
 ·rw [qa h, QBs]
  simp (disch := omega) only [rq, simprocAttr, Qd8, bs]
  refine Qa hC' ?_
  simp (disch := omega) only [rq, simprocAttr, QL, ht, Qm]
  simp [QI, Qz, frzL, Qv, frzL_T _ (Q9 _), bs]
def QBF (P : Prg) (f : Nat) : Prop := ∀ N V a b : Nat, V < 2 ^ N → N ≤ 330000 → a ≤ b → b ≤ N → VC P f [bA N V, .int .i64 a, .int .i64 b] (.tup [bA (b - a) (V / 2 ^ a % 2 ^ (b - a)), .int .i64 0])
set_option maxHeartbeats 1000000 in
theorem QzG {P : Prg} {f fC fG fP t0 tp : Nat} (bd : Qf P f 46 [.cell 6 t0, .tmp 7] (QfI fC fG fP t0)) (hC : QcX P fC) (hG : Qtq P fG) (bP : Qf P fP 75 [] (QcV tp)) (ht : ZE P t0 = some (some 2)) : QBF P f := by
 intro N V a b hV hN hab hbN
 refine Qi 2 (by simp [isDL, QaR, isD]) (by simp [isD, isDL, QaR]) (Qb bd (by simp) ?_)
 have hC' := hC N V hV hN
 rw [bA] at hC'
 have tu : isTL (u8 (leB V (nB N))) = true := Q9 _
 simp (disch := omega) only [rq, simprocAttr, QfI, bA]
 refine Qa hC' ?_
 simp (disch := omega) only [rq, simprocAttr]
 refine Qg (ι := Nat) (fun k => ⟨[(9, .int .i64 ((a + 64 * k : Nat) : Int)), (8, .ref 2 1 0), (7, .int .i64 0), (6, .ref 1 1 0), (3, .ref 0 1 0), (2, .int .i64 b)],
   [⟨t0, 2, 1, [.list (nB N) (u8 (leB V (nB N))), .int .i64 N], 0⟩, ⟨t0, 2, 1, [.own 3 0, .int .i64 0], 0⟩, bO t0 4 (min (64 * k) (b - a)), ⟨tp, 1, 0, [], 0⟩, bY tp (min (64 * k) (b - a)) (V / 2 ^ a % 2 ^ min (64 * k) (b - a))]⟩)
  (fun k => 64 * k < b - a + 64) (fun k => b - a + 64 - 64 * k) 0 ?_ (by omega) ?_
 ·refine Le.trans (Le.virtF 1 tp 1 (by decide) rfl rfl) ?_
  refine Le.trans (Le.virtF 2 tp 1 (by decide) rfl rfl) ?_
  simp only [qV, yE, jq, jv, yk, yR, qx]
  rw [Yq, Nat.zero_min, jR, Yb]
  exact Qh
 intro k hk
 by_cases hlt : a + 64 * k < b
 ·obtain ⟨n, hn⟩ : ∃ n, n = min 64 (b - (a + 64 * k)) := ⟨_, rfl⟩
  have hm : min (64 * k) (b - a) = 64 * k := by omega
  have hG' := hG N V (a + 64 * k) n hV (by omega) (by omega) (by omega)
  rw [bA] at hG'
  have e1 : (if (b : Int) - ((a + 64 * k : Nat) : Int) < 64 then (b : Int) - ((a + 64 * k : Nat) : Int) else 64) = (n : Int) := by split <;> omega
  have hv : V / 2 ^ (a + 64 * k) % 2 ^ n < 2 ^ n := qz _ (qR (by omega))
  have hW : V / 2 ^ a % 2 ^ (64 * k) < 2 ^ (64 * k) := qz _ (qR (by omega))
  have hs := Ql5 (X := V / 2 ^ a) (h := 64 * k) (t := n)
  rw [qw, ← qZ, qE (V / 2 ^ (a + 64 * k) % 2 ^ n)] at hs
  rw [hm]
  generalize hvv : V / 2 ^ (a + 64 * k) % 2 ^ n = v at *
  generalize hWW : V / 2 ^ a % 2 ^ (64 * k) = W at *
  obtain ⟨s, hs0⟩ : ∃ s, s = a + 64 * k := ⟨_, rfl⟩
  rw [← hs0] at hG' e1 ⊢
  simp (disch := omega) only [rq, simprocAttr, e1]
  refine Qa hG' ?_
  simp (disch := omega) only [rq, simprocAttr]
  refine QzD bP (ob := [⟨t0, 2, 1, [.list (nB N) (u8 (leB V (nB N))), .int .i64 N], 0⟩, ⟨t0, 2, 1, [.own 3 0, .int .i64 0], 0⟩, bO t0 4 (64 * k), ⟨tp, 1, 0, [], 0⟩, bY tp (64 * k) W]) (p := 2) (o := 4) (t := t0) rfl rfl (by decide) hW hv (by omega) (by omega) ?_ ?_
  ·refine Low.cons ?_ (Low.cons ?_ (Low.cons ?_ (Low.cons ?_ (Low.cons ?_ Low.nil)))) <;> simp [bO, bY, lowL, QgB, lowL_D _ (Qh3 _ _)]
  ·simp only [Qcv, jq, jv]
   rw [← hs]
   have hm2 : min (64 * (k + 1)) (b - a) = 64 * k + n := by omega
   simp (disch := omega) only [rq, simprocAttr]
   refine ⟨k + 1, by omega, by omega, ?_⟩
   rw [hm2]
   exact Qk (by simp [Am.look, hs0]; omega)
 ·have hm : min (64 * k) (b - a) = b - a := by omega
  rw [hm]
  generalize V / 2 ^ a % 2 ^ (b - a) = W at *
  obtain ⟨s, hs0⟩ : ∃ s, s = a + 64 * k := ⟨_, rfl⟩
  rw [← hs0]
  simp (disch := omega) only [rq, simprocAttr, bO, bY, QL, ht, Qm]
  simp [QI, Qz, frzL, Qv, frzL_T _ (Q9 _)]
set_option maxHeartbeats 2000000 in
theorem Qww {P : Prg} {f t0 t1 : Nat} (bd : Qf P f 43 [.cell 4 t0] (ZL t0 t1)) (ht : ZE P t0 = some (some 2)) {ob : List Ob} {o N V b : Nat} (ho : ob[o]? = some (bY t1 N V)) (hV : V < 2 ^ N) (hb : b < 2) (hN : N ≤ 400000)
  (hfz : Low ob.length ob) {K : AV → List Ob → Prop}
  (hK : K (.agg [.own o (nB (N + 1)), .int .i64 ((N + 1 : Nat) : Int)]) (ob.set o (bY t1 (N + 1) (V + 2 ^ N * b)))) : ACall P f [.agg [.own o (nB N), .int .i64 N], .int .i64 b] ob K := by
 have hol : o < ob.length := (qd.1 ho).1
 refine ACall.low ?_
 refine Qb bd (by simp) ?_
 have s1 : ∀ J y, (ob ++ J).set o y = ob.set o y ++ J := fun J y => jh _ _ hol
 have s2 : ∀ x J y, (ob.set o x ++ J).set o y = ob.set o y ++ J := fun x J y => by rw [jh _ _ (by simpa using hol), YC]
 have g1 : ∀ J, (ob ++ J)[o]? = some (bY t1 N V) := fun J => by rw [qp hol]; exact ho
 have g2 : ∀ x J, (ob.set o x ++ J)[o]? = some x := fun x J => by rw [qp (by simpa using hol)]; simp [hol]
 have g3 : ∀ x (J : List Ob), (ob.set o x ++ J)[ob.length]? = J[0]? := fun x J => by rw [qI (by simp), y8, jy]
 have g4 : ∀ x (J : List Ob), (ob.set o x ++ J)[ob.length + 1]? = J[1]? := fun x J => by rw [qI (by simp), y8, yh]
 have g3' : ∀ (J : List Ob), (ob ++ J)[ob.length]? = J[0]? := fun J => by rw [qI (qj _), jy]
 have g4' : ∀ (J : List Ob), (ob ++ J)[ob.length + 1]? = J[1]? := fun J => by rw [qI (by omega), yh]
 have g5' : ∀ (J : List Ob), (ob ++ J)[ob.length + 2]? = J[2]? := fun J => by rw [qI (by omega), yh]
 have g5 : ∀ x (J : List Ob), (ob.set o x ++ J)[ob.length + 2]? = J[2]? := fun x J => by rw [qI (by simp), y8, yh]
 have t3 : ∀ (x : Ob) (J : List Ob) y, (ob.set o x ++ J).set ob.length y = ob.set o x ++ J.set 0 y := fun x J y => by rw [jV _ _ (by simp), y8, jy]
 have t4 : ∀ (x : Ob) (J : List Ob) y, (ob.set o x ++ J).set (ob.length + 1) y = ob.set o x ++ J.set 1 y := fun x J y => by rw [jV _ _ (by simp), y8, yh]
 have t3' : ∀ (J : List Ob) y, (ob ++ J).set ob.length y = ob ++ J.set 0 y := fun J y => by rw [jV _ _ (by simp), jy]
 have e2 : (N : Int) % 8 = ((N % 8 : Nat) : Int) := by omega
 have fin : ∀ J : List Ob, ∃ ob' J', ob.set o (bY t1 (N + 1) (V + 2 ^ N * b)) ++ J = ob' ++ J' ∧ ob.length ≤ ob'.length ∧ Low ob'.length ob' ∧ QgB ob'.length (.agg [.own o (nB (N + 1)), .int .i64 ((N + 1 : Nat) : Int)]) = true ∧ K (.agg [.own o (nB (N + 1)), .int .i64 ((N + 1 : Nat) : Int)]) ob' := by
  intro J
  refine ⟨_, J, rfl, by simp, ?_, by simp [QgB, lowL, hol], hK⟩
  rw [y8]
  exact hfz.set (lowL_D _ (Qh3 _ _))
 obtain ⟨i, hi⟩ : ∃ i, i = N / 8 := ⟨_, rfl⟩
 obtain ⟨a, ha⟩ : ∃ a, a = N % 8 := ⟨_, rfl⟩
 have hN8 : N = 8 * i + a := by omega
 rw [← ha] at e2
 have e3 : (N : Int) / 8 = (i : Int) := by omega
 obtain ⟨l1, l2⟩ := Qdw (V := V) (i := i) (at_ := a) (by rw [← hN8]; exact hV) (by omega)
 obtain ⟨b1, b2, _⟩ := QeN (V := V) (i := i) (at_ := a) (w := b) (r := 1) (by rw [← hN8]; exact hV) (by omega) (by omega)
 rw [← hN8] at b1
 have h2a : 2 ^ a ≤ 2 ^ 7 := qq (by omega) (by omega)
 have h2a1 : 2 ^ (a + 1) ≤ 2 ^ 8 := qq (by omega) (by omega)
 have hba : b * 2 ^ a = 2 ^ a * b := qE _ _
 have hbl : 2 ^ a * b ≤ 2 ^ 7 := by
  rcases (by omega : b = 0 ∨ b = 1) with rfl | rfl
  ·simp
  ·rw [jz]; exact h2a
 have hu : ∀ y, y < 256 → u8 [UInt8.ofNat y] = [.int .u8 (y : Int)] := fun y hy => by simp [u8]; omega
 have hnB : nB (N + 1) = i + 1 := by unfold nB; omega
 have hlen : (u8 (leB V i)).length = i := by simp [u8, Qy]
 have hcell : u8 (leB (V + 2 ^ N * b) (i + 1)) = u8 (leB V i) ++ [.int .u8 ((V / 256 ^ i + 2 ^ a * b : Nat) : Int)] := by
  rw [b1, show u8 (leB V i ++ [UInt8.ofNat (V / 256 ^ i + 2 ^ a * b)]) = u8 (leB V i) ++ u8 [UInt8.ofNat (V / 256 ^ i + 2 ^ a * b)] by simp [u8], hu _ (by omega)]
 have hyb : V / 256 ^ i < 256 := by
  have : 2 ^ a ≤ 2 ^ 8 := qq (by omega) (by omega)
  omega
 have hybb : V / 256 ^ i + 2 ^ a * b < 256 := by omega
 have d1 : ∀ z : AV, (u8 (leB V i) ++ [z]).drop i = [z] := fun z => by rw [Yk hlen]
 have d2 : ∀ z : AV, (u8 (leB V i) ++ [z]).take i = u8 (leB V i) := fun z => by rw [jF hlen]
 have d3 : ∀ z : AV, (u8 (leB V i) ++ [z]).drop (i + 1) = [] := fun z => jO (by simp [hlen])
 have hby : bY t1 (N + 1) (V + 2 ^ N * b) = ⟨t1, 1, i + 1, u8 (leB V i) ++ [.int .u8 ((V / 256 ^ i + 2 ^ a * b : Nat) : Int)], 0⟩ := by rw [bY, hnB, hcell]
 rw [hby, hnB] at fin
 have hp1 : 0 < 2 ^ a := qR (by omega)
 by_cases h0 : a = 0
 ·have hnN : nB N = i := by unfold nB; omega
  have hy0 : V / 256 ^ i = 0 := by
   have := l2
   rw [h0, jR] at this
   exact Nat.lt_one_iff.1 this
  rw [hy0, yj] at fin hybb
  subst h0
  have e2' : (N : Int) % 8 = 0 := e2
  have fin := fun J => fin J
  rw [jR, yS] at fin
  simp (disch := omega) only [rq, simprocAttr, ZL, g3', g4', g5', g2, g3, g4, g5, s2, t3, t4, t3', e2', g1, s1, bY, qy, yk, yR, hnN, hlen]
  refine Qg (ι := Nat) (fun k => ⟨[(6, .int .i64 0), (5, .int .i64 1), (4, .ref (ob.length + 1) 1 0), (2, .ref ob.length 1 0), (1, .int .i64 b)],
   ob.set o ⟨t1, 1, i + 1, u8 (leB V i) ++ [.int .u8 0], 0⟩ ++ [⟨t0, 2, 1, [.own o (i + 1), .int .i64 N], 0⟩, ⟨t0, 2, 1, [.emp true, .int .i64 0], 0⟩, ⟨t1, 1, 1, [.int .u8 0], 0⟩]⟩) (fun k => k = 0) (fun k => 0) 0 (Qh) rfl ?_
  intro k hk
  have e10 : (b : Int) * 1 = b := by omega
  simp (disch := omega) only [rq, simprocAttr, Int.zero_add, g2, g3, g4, g5, s2, t3, t4, e2', e3, e10, d1, d2, d3, hlen, QL, ht, Qm, jv, jq]
  exact fin _
 ·have hnN : nB N = i + 1 := by unfold nB; omega
  have l3 : u8 (leB V (i + 1)) = u8 (leB V i) ++ [.int .u8 ((V / 256 ^ i : Nat) : Int)] := by
   rw [l1, show u8 (leB V i ++ [UInt8.ofNat (V / 256 ^ i)]) = u8 (leB V i) ++ u8 [UInt8.ofNat (V / 256 ^ i)] by simp [u8], hu _ hyb]
  have ha0 : (a : Int) ≠ 0 := by omega
  rw [bY, hnN, l3] at ho
  have g1' : ∀ J, (ob ++ J)[o]? = some ⟨t1, 1, i + 1, u8 (leB V i) ++ [.int .u8 ((V / 256 ^ i : Nat) : Int)], 0⟩ := fun J => by rw [qp hol]; exact ho
  have t4' : ∀ (J : List Ob) y, (ob ++ J).set (ob.length + 1) y = ob ++ J.set 1 y := fun J y => by rw [jV _ _ (by omega), yh]
  have eby : (b : Int) * ((2 ^ a : Nat) : Int) = ((2 ^ a * b : Nat) : Int) := by rw [qE]; simp
  generalize V / 256 ^ i = y at *
  simp (disch := omega) only [rq, simprocAttr, ZL, g3', g4', g5', e2, g1', s1, t3', t4', qy, yk, yR, hnN, hlen]
  refine Qg (ι := Nat) (fun k => ⟨[(6, .int .i64 k), (5, .int .i64 ((2 ^ k : Nat) : Int)), (4, .ref (ob.length + 1) 1 0), (2, .ref ob.length 1 0), (1, .int .i64 b)],
   ob ++ [⟨t0, 2, 1, [.own o (i + 1), .int .i64 N], 0⟩, ⟨t0, 2, 1, [.emp true, .int .i64 0], 0⟩]⟩) (fun k => k ≤ a) (fun k => a - k) 0 (Qh) (by omega) ?_
  intro k hk
  by_cases hlt : k < a
  ·have h1 : 2 ^ k ≤ 2 ^ 7 := qq (by omega) (by omega)
   have h2 : 2 ^ (k + 1) = 2 ^ k * 2 := yc 2 k
   generalize 2 ^ k = pk at *
   simp (disch := omega) only [rq, simprocAttr, g3', e2]
   exact ⟨k + 1, by omega, by omega, Qk (by simp [Am.look, h2])⟩
  ·obtain rfl : k = a := by omega
   generalize 2 ^ k * b = w at *
   generalize 2 ^ k = pk at *
   simp (disch := omega) only [rq, simprocAttr, g3', g4', g1', s1, s2, g2, g3, g4, t3, t4, t3', t4', e2, e3, eby, d1, d2, d3, hlen, QL, ht, Qm, jv, jq]
   exact fin _
def Qjs (P : Prg) (f : Nat) : Prop := ∀ N V a b : Nat, V < 2 ^ N → N ≤ 330000 → a ≤ b → b ≤ N → VC P f [bA N V, .int .i64 a, .int .i64 b] (bA (b - a) (V / 2 ^ a % 2 ^ (b - a)))
set_option maxHeartbeats 1000000 in
theorem QlN {P : Prg} {f fA fD t0 tq tb : Nat} (bd : Qf P f 21 [.cell 6 t0] (Xu fA fD t0)) (hA : Qsl P fA) (bD : Qf P fD 43 [.cell 4 tq] (ZL tq tb)) (ht : ZE P t0 = some (some 2)) (hq : ZE P tq = some (some 2)) : Qjs P f := by
 intro N V a b hV hN hab hbN
 refine Qi 2 (by simp [isDL, QaR, isD]) (QaR _ _) (Qb bd (by simp) ?_)
 have tu : isTL (u8 (leB V (nB N))) = true := Q9 _
 simp (disch := omega) only [rq, simprocAttr, Xu, bA]
 refine Qg (ι := Nat) (fun k => ⟨[(8, .int .i64 ((a + k : Nat) : Int)), (7, .ref 2 1 0), (6, .ref 1 1 0), (3, .ref 0 1 0), (2, .int .i64 b)],
   [⟨t0, 2, 1, [.list (nB N) (u8 (leB V (nB N))), .int .i64 N], 0⟩, ⟨t0, 2, 1, [.own 3 0, .int .i64 0], 0⟩, bO t0 4 k, ⟨tb, 1, 0, [], 0⟩, bY tb k (V / 2 ^ a % 2 ^ k)]⟩)
  (fun k => k ≤ b - a) (fun k => b - a - k) 0 ?_ (by omega) ?_
 ·refine Le.trans (Le.virtF 1 tb 1 (by decide) rfl rfl) ?_
  refine Le.trans (Le.virtF 2 tb 1 (by decide) rfl rfl) ?_
  simp only [qV, yE, jq, jv, yk, yR, qx]
  rw [jR, Yb]
  exact Qh
 intro k hk
 by_cases hlt : a + k < b
 ·have hA' := hA N V (a + k) (by omega) (by omega)
  rw [bA] at hA'
  have hW : V / 2 ^ a % 2 ^ k < 2 ^ k := qz _ (qR (by omega))
  have hs := Ql5 (X := V / 2 ^ a) (h := k) (t := 1)
  rw [qw, ← qZ, Nat.pow_one, qE (V / 2 ^ (a + k) % 2)] at hs
  have hb : V / 2 ^ (a + k) % 2 < 2 := qz _ (by decide)
  generalize V / 2 ^ (a + k) % 2 = v at *
  generalize hWW : V / 2 ^ a % 2 ^ k = W at *
  obtain ⟨s, hs0⟩ : ∃ s, s = a + k := ⟨_, rfl⟩
  rw [← hs0] at hA' ⊢
  have nph : bY tb k W ≠ ph := fun e => by have := congrArg Ob.sz e; simp [ph, bY] at this
  have fz : Low 5 [⟨t0, 2, 1, [.list (nB N) (u8 (leB V (nB N))), .int .i64 N], 0⟩, ⟨t0, 2, 1, [.own 3 0, .int .i64 0], 0⟩, ⟨t0, 2, 1, [.own 4 (nB k), .int .i64 k], 0⟩, ⟨tb, 1, 0, [], 0⟩, bY tb k W] := by
   refine Low.cons ?_ (Low.cons ?_ (Low.cons ?_ (Low.cons ?_ (Low.cons ?_ Low.nil)))) <;> simp [bY, lowL, QgB, lowL_D _ (Qh3 _ _)]
  simp (disch := omega) only [rq, simprocAttr, bO]
  refine Qc hA' ?_
  simp (disch := omega) only [rq, simprocAttr]
  refine callE.by (o := 4) (x := bY tb k W) rfl nph (fun K hK => Qww bD hq (N := k) (V := W) (o := 4) rfl hW hb (by omega) fz hK) ?_
  simp only [jq, jv]
  rw [← hs]
  simp (disch := omega) only [rq, simprocAttr]
  refine ⟨k + 1, by omega, by omega, ?_⟩
  exact Qk (by simp [Am.look, hs0]; omega)
 ·obtain rfl : k = b - a := by omega
  generalize V / 2 ^ a % 2 ^ (b - a) = W at *
  obtain ⟨s, hs0⟩ : ∃ s, s = a + (b - a) := ⟨_, rfl⟩
  rw [← hs0]
  simp (disch := omega) only [rq, simprocAttr, bO, bY, QL, ht, Qm]
  simp [QI, Qz, frzL, Qv, frzL_T _ (Q9 _)]
def XS (c r : Nat) (v : List Nat) : Dl := ((List.range v.length).filter fun j => j % c == r).foldl (fun d j => JA d (v.getD j 0)) startM
theorem Qpr {c r x : Nat} {v : List Nat} : XS c r (v ++ [x]) = if v.length % c = r then JA (XS c r v) x else XS c r v := by
 have h1 : ∀ (l : List Nat) (d : Dl), (∀ j ∈ l, j < v.length) → l.foldl (fun d j => JA d ((v ++ [x]).getD j 0)) d = l.foldl (fun d j => JA d (v.getD j 0)) d := by
  intro l
  induction l with
  | nil => intro d _; rfl
  | cons a l ih =>
   intro d h
   simp only [Yi]
   have ha : a < v.length := h a (by simp)
   rw [ih _ fun j hj => h j (by simp [hj])]
   congr 2
   rw [qe, qe, qp ha]
 unfold XS
 rw [qx, qV, yE, yj, List.range_succ, List.filter_append, jX]
 have hf := h1 ((List.range v.length).filter fun j => j % c == r) startM (fun j hj => by
  have := (yX.1 hj).1
  simpa using this)
 rw [hf]
 have hx : (v ++ [x]).getD v.length 0 = x := by simp [qe]
 by_cases h : v.length % c = r
 ·rw [qc h]
  have : (List.filter (fun j => j % c == r) [v.length]) = [v.length] := by simp [h]
  rw [this]
  simp only [Yi, List.foldl_nil]
  rw [hx]
 ·rw [qa h]
  have : (List.filter (fun j => j % c == r) [v.length]) = [] := by simp [h]
  rw [this]
  rfl
def N32 (v : List Nat) : Prop := ∀ x ∈ v, x < 4294967296
theorem Qrz {c r : Nat} {v : List Nat} (h : N32 v) : okD (XS c r v) := by
 unfold XS
 have key : ∀ (l : List Nat) (d : Dl), okD d → (∀ j ∈ l, j < v.length) → okD (l.foldl (fun d j => JA d (v.getD j 0)) d) := by
  intro l
  induction l with
  | nil => intro d h _; exact h
  | cons a l ih =>
   intro d hd hl
   have ha : a < v.length := hl a (by simp)
   refine ih _ (QsU hd ?_) fun j hj => hl j (by simp [hj])
   rw [qe, qg ha]
   exact h _ (yb ha)
 exact key _ _ Qsv fun j hj => by
  have := (yX.1 hj).1
  simpa using this
def Qhs (N a : Nat) : Nat := min (a + 81) N - a
def Quv (V N a : Nat) : Nat := V / 2 ^ a % 2 ^ Qhs N a
def Qa6 (V N c : Nat) : Nat → List Nat → Nat → (Nat × List Nat) ⊕ (List Nat × Nat)
 | 0, out, a => .inr (out, a)
 | k + 1, out, a =>
  match Qnq (Quv V N a) (Qhs N a) 0 (XS c (out.length % c) out) with
  | .inl e => .inl (e, out)
  | .inr (v, nx) => Qa6 V N c k (out ++ [v]) (a + nx)
theorem QAT (V N a : Nat) : Quv V N a < 2 ^ Qhs N a := qz _ (qR (by omega))
def Qc4 (V N a : Nat) : Nat := if 7 < N - a then 12 else if V / 2 ^ a = 0 then 0 else 12
theorem QfK {V N c : Nat} : ∀ (k : Nat) (out : List Nat) (a : Nat), a ≤ N → N32 out → (∀ e o, Qa6 V N c k out a = .inl (e, o) → (e = 24 ∨ e = 12) ∧ N32 o ∧ o.length ≤ out.length + k) ∧ (∀ o b, Qa6 V N c k out a = .inr (o, b) → N32 o ∧ b ≤ N ∧ o.length = out.length + k)
 | 0, out, a, ha, ho => by
  refine ⟨fun e o h => (by simp only [Qa6] at h; cases h), fun o b h => ?_⟩
  simp only [Qa6] at h
  cases h
  exact ⟨ho, ha, rfl⟩
 | k + 1, out, a, ha, ho => by
  have hd := Qrz (c := c) (r := out.length % c) ho
  cases hg : Qnq (Quv V N a) (Qhs N a) 0 (XS c (out.length % c) out) with
  | inl e =>
   have he := Qri hg
   simp only [Qa6, hg]
   refine ⟨fun e' o h => ?_, fun o b h => (by cases h)⟩
   cases h
   exact ⟨he, ho, by omega⟩
  | inr p =>
   obtain ⟨v, nx⟩ := p
   obtain ⟨h1, h2⟩ := Qs8 hd hg
   have hp : Qhs N a ≤ N - a := by unfold Qhs; omega
   have ho' : N32 (out ++ [v]) := fun x hx => by
    rcases qB.1 hx with h | h
    ·exact ho x h
    ·simp at h; subst h; exact h1
   obtain ⟨r1, r2⟩ := QfK (V := V) (N := N) (c := c) k (out ++ [v]) (a + nx) (by omega) ho'
   simp only [Qa6, hg]
   refine ⟨fun e o h => ?_, fun o b h => ?_⟩
   ·obtain ⟨q1, q2, q3⟩ := r1 e o h
    refine ⟨q1, q2, ?_⟩
    rw [qx, qV, yE] at q3
    omega
   ·obtain ⟨q1, q2, q3⟩ := r2 o b h
    refine ⟨q1, q2, ?_⟩
    rw [qx, qV, yE] at q3
    omega
def Qc1 (p : List UInt8) : Nat := 4294967295 - Qnr 4294967295 p
def QeY (b : List UInt8) : Nat := if b.length < 5 then 24 else if 41254 < b.length then 4 else if leN (b.drop (b.length - 4)) = Qc1 (b.take (b.length - 4)) then 0 else 22
def QkH (v : List Nat) : AV := Qdd (v.map fun n : Nat => (n : Int))
theorem QlZ (v : List Nat) : isD (QkH v) = true := by simp [QkH, Qdd, isD, ZA]
theorem Qy2 {v : List Nat} {k : Nat} (h : k < v.length) : (ks .u32 (v.map fun n : Nat => (n : Int))).drop k = .int .u32 ((v[k] : Nat) : Int) :: ks .u32 ((v.map fun n : Nat => (n : Int)).drop (k + 1)) := by
 rw [QaW, qF (by simpa using h), Qdr, jJ]
def Qek (c r : Nat) (v : List Nat) (i : Nat) : Dl := ((List.range i).filter fun j => j % c == r).foldl (fun d j => JA d (v.getD j 0)) startM
theorem QgV {c r i : Nat} {v : List Nat} : Qek c r v (i + 1) = if i % c = r then JA (Qek c r v i) (v.getD i 0) else Qek c r v i := by
 unfold Qek
 rw [List.range_succ, List.filter_append, jX]
 by_cases h : i % c = r
 ·rw [qc h, show (List.filter (fun j => j % c == r) [i]) = [i] by simp [h]]; rfl
 ·rw [qa h, show (List.filter (fun j => j % c == r) [i]) = [] by simp [h]]; rfl
theorem Qck {c r i : Nat} {v : List Nat} : ∀ j, (∀ t, i ≤ t → t < i + j → t % c ≠ r) → Qek c r v (i + j) = Qek c r v i
 | 0, _ => rfl
 | j + 1, h => by
  rw [← js, QgV, qa (h (i + j) (by omega) (by omega)), Qck j fun t h1 h2 => h t h1 (by omega)]
theorem QCl {c i t r : Nat} (h : i % c = r) (h1 : i < t) (h2 : t < i + c) : t % c ≠ r := by
 intro h3
 have h4 : (t - i) % c = 0 := Nat.sub_mod_eq_zero_of_mod_eq (by rw [h, h3])
 rw [qv (by omega)] at h4
 omega
theorem QAZ {c i t r : Nat} (h : i % c = r) (h1 : t < i) (h2 : i < t + c) : t % c ≠ r := by
 intro h3
 have h4 : (i - t) % c = 0 := Nat.sub_mod_eq_zero_of_mod_eq (by rw [h, h3])
 rw [qv (by omega)] at h4
 omega
theorem Qzy {c r i : Nat} {v : List Nat} (h : N32 v) (hi : i ≤ v.length) : okD (Qek c r v i) := by
 induction i with
 | zero => exact Qsv
 | succ i ih =>
  rw [QgV]
  split
  ·refine QsU (ih (by omega)) ?_
   rw [qe, qg (by omega)]
   exact h _ (yb _)
  ·exact ih (by omega)
def QmY (P : Prg) (f : Nat) : Prop := ∀ (c : Nat) (v : List Nat), 1 ≤ c → c ≤ 6 → v.length ≤ 4000 → N32 v → VC P f [.int .i64 c, QkH v] (dlA (XS c (v.length % c) v))
theorem QoL {P : Prg} {f fS fL t0 : Nat} (bd : Qf P f 26 [.cell 4 t0] (XG fS fL t0)) (hS : Qb9 P fS) (hL : Qnb P fL) (ht : ZE P t0 = some (some 4)) : QmY P f := by
 intro c v hc hc6 hv h32
 refine Qn (by simp [isDL, QlZ, isD]) (Qrd _) bd ?_
 obtain ⟨r, hr⟩ : ∃ r, r = v.length % c := ⟨_, rfl⟩
 have hrl : r ≤ v.length := by rw [hr]; exact Nat.mod_le _ _
 have hrc : r < c := by rw [hr]; exact qz _ (by omega)
 have e1 : (v.length : Int) % c = (r : Int) := by rw [hr]; simp [Int.natCast_emod]
 have e1' : ((v.length : Int)).tmod (c : Int) = (r : Int) := by rw [jn (by omega), e1]
 have hc0 : (c : Int) ≠ 0 := by omega
 have hln : (ks .u32 (v.map fun n : Nat => (n : Int))).length = v.length := by simp [ks]
 rw [← hr]
 simp only [Qb9, startM, dlA, dlC] at hS
 simp (disch := omega) only [rq, simprocAttr, XG, QkH, Qdd, yq]
 refine Qa hS ?_
 simp (disch := omega) only [rq, simprocAttr, e1, e1', hc0]
 refine Qg (ι := Nat) (fun i => ⟨[(6, .int .i64 i), (5, .ref 1 1 0), (4, .ref 0 1 0), (1, QkH v), (0, .int .i64 c)], [⟨t0, 4, 1, [.int .i64 0, .int .i64 0, .int .u64 0, .int .u64 0], 0⟩, ⟨t0, 4, 1, dlC (Qek c r v i), 0⟩]⟩)
  (fun i => i % c = r ∧ i < v.length + c) (fun i => v.length + c - i) r ?_ ⟨qv hrc, by omega⟩ ?_
 ·have : Qek c r v r = startM := by
   have := Qck (c := c) (r := r) (i := 0) (v := v) r (fun t _ h2 => by rw [qv (by omega)]; omega)
   rw [yj] at this
   rw [this]; rfl
  rw [this]
  exact Qk (by simp [Am.look, QkH, Qdd])
 rintro i ⟨hi1, hi2⟩
 by_cases hlt : i < v.length
 ·have e2 := Qy2 hlt
  have hx : v[i] < 4294967296 := h32 _ (yb hlt)
  have hL' := hL (Qek c r v i) v[i] (Qzy h32 (by omega)) hx
  have hn : Qek c r v (i + c) = JA (Qek c r v i) v[i] := by
   have h1 := Qck (c := c) (r := r) (i := i + 1) (v := v) (c - 1) (fun t h1 h2 => QCl hi1 (by omega) (by omega))
   rw [show i + 1 + (c - 1) = i + c by omega] at h1
   rw [h1, QgV, qc hi1, qe, qg hlt]; rfl
  rw [← hn] at hL'
  have hm : (i + c) % c = r := by rw [Nat.add_mod_right]; exact hi1
  generalize hd' : Qek c r v (i + c) = d' at *
  generalize Qek c r v i = d at *
  obtain ⟨l0, l1, l2, l3⟩ := d
  obtain ⟨m0, m1, m2, m3⟩ := d'
  simp only [dlA, dlC] at hL'
  simp (disch := omega) only [rq, simprocAttr, QkH, Qdd, dlC, yq, hln, e2]
  refine Qc hL' ?_
  simp (disch := omega) only [rq, simprocAttr]
  refine ⟨i + c, ⟨hm, by omega⟩, by omega, ?_⟩
  rw [hd']
  exact Qh
 ·have hfin : XS c r v = Qek c r v i := by
   have h1 := Qck (c := c) (r := r) (i := v.length) (v := v) (i - v.length) (fun t h1 h2 => QAZ hi1 (by omega) (by omega))
   rw [show v.length + (i - v.length) = i by omega] at h1
   rw [h1]; rfl
  rw [hfin]
  generalize Qek c r v i = d at *
  obtain ⟨l0, l1, l2, l3⟩ := d
  simp (disch := omega) only [rq, simprocAttr, QkH, Qdd, dlC, dlA, yq, hln, QL, ht, Qm]
theorem Qqs (p : List UInt8) : Qc1 p < 4294967296 := by unfold Qc1; omega
def QmZ (P : Prg) (f : Nat) : Prop := ∀ p : List UInt8, p.length ≤ 1000000 → VC P f [bs p] (bs (p ++ leB (Qc1 p) 4))
theorem QoO {P : Prg} {f fO t0 : Nat} (bd : Qf P f 22 [.tmp 2] (XH fO t0)) (hO : Qx4 P fO) : QmZ P f := by
 intro p hp
 refine Qi 1 (by simp [isDL, Qr]) (Qr _) (Qb bd (by simp) ?_)
 have hO' := hO p hp
 rw [← Qc1] at hO'
 have hs := Qqs p
 generalize Qc1 p = s at *
 simp only [bs] at hO'
 have e1 : IntKind.u8.wrap (s : Int) = ((s % 256 : Nat) : Int) := by rw [Zn]; omega
 have a1 : Qu false .u32 (s : Int) 8 = some (.int .u32 ((s / 256 : Nat) : Int)) := Qnp (K := .u32) (k := 8) (by decide)
 have a2 : Qu false .u32 (s : Int) 16 = some (.int .u32 ((s / 65536 : Nat) : Int)) := Qnp (K := .u32) (k := 16) (by decide)
 have a3 : Qu false .u32 (s : Int) 24 = some (.int .u32 ((s / 16777216 : Nat) : Int)) := Qnp (K := .u32) (k := 24) (by decide)
 have e2 : IntKind.u8.wrap ((s / 256 : Nat) : Int) = ((s / 256 % 256 : Nat) : Int) := by rw [Zn]; omega
 have e3 : IntKind.u8.wrap ((s / 65536 : Nat) : Int) = ((s / 65536 % 256 : Nat) : Int) := by rw [Zn]; omega
 have e4 : IntKind.u8.wrap ((s / 16777216 : Nat) : Int) = ((s / 16777216 % 256 : Nat) : Int) := by rw [Zn]; omega
 have hb : u8 (p ++ leB s 4) = u8 p ++ [.int .u8 ((s % 256 : Nat) : Int), .int .u8 ((s / 256 % 256 : Nat) : Int), .int .u8 ((s / 65536 % 256 : Nat) : Int), .int .u8 ((s / 16777216 % 256 : Nat) : Int)] := by
  simp [u8, leB, qw]
 have hl : (p ++ leB s 4).length = p.length + 4 := by simp [Qy]
 rw [bs, hb, hl]
 generalize s % 256 = b0 at *
 generalize s / 256 % 256 = b1 at *
 generalize s / 65536 % 256 = b2 at *
 generalize s / 16777216 % 256 = b3 at *
 have tt : isTL (u8 p ++ [.int .u8 (b0 : Int), .int .u8 (b1 : Int), .int .u8 (b2 : Int), .int .u8 (b3 : Int)]) = true := by simp [Xm, Q9, isTL, isT]
 simp (disch := omega) only [rq, simprocAttr, XH, bs]
 refine Qa hO' ?_
 simp (disch := omega) only [rq, simprocAttr, e1, a1, a2, a3, e2, e3, e4]
 simp [QI, Qz, frzL, Qv, frzL_T _ tt]
def opA (b : List UInt8) : AV := if QeY b = 0 then .tup [bs (b.take (b.length - 4)), .int .i64 0] else .tup [.list 0 [], .int .i64 (QeY b : Nat)]
def QmQ (P : Prg) (f : Nat) : Prop := ∀ b : List UInt8, b.length ≤ 1000000 → VC P f [bs b] (opA b)
theorem Qj7 {P : Prg} {f fS fV : Nat} (bd : Qf P f 46 [.tmp 2, .tmp 3] (ZG fS fV)) (hS : QpR P fS) (hV : Qd9 P fV) : QmQ P f := by
 intro b hb
 refine Qi 1 (by simp [isDL, Qr]) (by unfold opA; split <;> simp [isD, isDL, Qr]) (Qb bd (by simp) ?_)
 unfold opA QeY
 by_cases h1 : b.length < 5
 ·simp only [h1, yf]
  simp (disch := omega) only [rq, simprocAttr, ZG, bs]
  simp [QI, Qz, frzL, Qv]
 simp only [h1, yl]
 by_cases h2 : 41254 < b.length
 ·simp only [h2, yf]
  simp (disch := omega) only [rq, simprocAttr, ZG, bs]
  simp [QI, Qz, frzL, Qv]
 simp only [h2, yl]
 have hS' := hS (b.take (b.length - 4))
 rw [qa (by simp; omega), ← Qc1] at hS'
 have hl1 : (b.take (b.length - 4)).length = b.length - 4 := by simp
 have hl2 : (b.drop (b.length - 4)).length = 4 := by simp; omega
 have hs := Qqs (b.take (b.length - 4))
 have hV' := hV (b.drop (b.length - 4)) (by omega) (by omega)
 have tk : (u8 b).take (b.length - 4) = u8 (b.take (b.length - 4)) := by simp [u8, yW]
 have dk : (u8 b).drop (b.length - 4) = u8 (b.drop (b.length - 4)) := by simp [u8, ji]
 simp only [bs, hl1, hl2] at hS' hV'
 have hq : leN (b.drop (b.length - 4)) < 4294967296 := by
  have := Qhu (b.drop (b.length - 4))
  rw [hl2] at this
  exact this
 have hpl : (u8 (b.take (b.length - 4))).length = b.length - 4 := by rw [Qe, hl1]
 have hql : (u8 (b.drop (b.length - 4))).length = 4 := by rw [Qe, hl2]
 have tq : (u8 (b.drop (b.length - 4))).take 4 = u8 (b.drop (b.length - 4)) := qf (by omega)
 generalize b.take (b.length - 4) = p at *
 generalize b.drop (b.length - 4) = q at *
 generalize Qc1 p = s at *
 generalize leN q = w at *
 have n4 : b.length - (b.length - 4) = 4 := by omega
 have n5 : b.length - 4 - 0 = b.length - 4 := by omega
 have n6 : min (b.length - 4) b.length = b.length - 4 := by omega
 have tp : isTL (u8 p) = true := Q9 _
 by_cases h3 : w = s
 ·subst h3
  simp only [yf]
  simp (disch := omega) only [rq, simprocAttr, ZG, bs, tk, dk, n4, n5, tq]
  refine Qa hS' ?_
  simp (disch := omega) only [rq, simprocAttr, tk, dk, n4, n5, tq]
  refine Qa hV' ?_
  simp (disch := omega) only [rq, simprocAttr, tk, dk, n4, n5, tq]
  simp [QI, Qz, frzL, Qv, frzL_T _ tp, bs, hl1]
  try omega
 ·simp only [h3, yl]
  simp (disch := omega) only [rq, simprocAttr, ZG, bs, tk, dk, n4, n5, tq]
  refine Qa hS' ?_
  simp (disch := omega) only [rq, simprocAttr, tk, dk, n4, n5, tq]
  refine Qa hV' ?_
  simp (disch := omega) only [rq, simprocAttr, tk, dk, n4, n5, tq]
  simp [QI, Qz, frzL, Qv]
def Qm5 (P : Prg) (f : Nat) : Prop := ∀ b : List UInt8, b.length ≤ 1000000 → VC P f [bs b] (.int .i64 (QeY b : Nat))
theorem QtR {b : List UInt8} (h : 5 ≤ b.length) : (b.take (b.length - 4) ++ leB (Qc1 (b.take (b.length - 4))) 4 = b) ↔ leN (b.drop (b.length - 4)) = Qc1 (b.take (b.length - 4)) := by
 have hl : (b.drop (b.length - 4)).length = 4 := by simp; omega
 constructor
 ·intro e
  have : leB (Qc1 (b.take (b.length - 4))) 4 = b.drop (b.length - 4) := by
   have h2 := yz (b.length - 4) b
   exact List.append_cancel_left (e.trans h2.symm)
  rw [← this, QsW 4 _ (Qqs _)]
 ·intro e
  rw [← e]
  have := Qq9 (b.drop (b.length - 4))
  rw [hl] at this
  rw [this, yz]
theorem QoM {P : Prg} {f fS : Nat} (bd : Qf P f 19 [.tmp 2] (Q7 fS)) (hS : QmZ P fS) : Qm5 P f := by
 intro b hb
 refine Qn (by simp [isDL, Qr]) rfl bd ?_
 unfold QeY
 by_cases h1 : b.length < 5
 ·simp only [h1, yf]
  simp (disch := omega) only [rq, simprocAttr, Q7, bs]
 simp only [h1, yl]
 by_cases h2 : 41254 < b.length
 ·simp only [h2, yf]
  simp (disch := omega) only [rq, simprocAttr, Q7, bs]
 simp only [h2, yl]
 have hS' := hS (b.take (b.length - 4)) (by simp; omega)
 have hl1 : (b.take (b.length - 4)).length = b.length - 4 := by simp
 have hi := QtR (b := b) (by omega)
 have tk : (u8 b).take (b.length - 4) = u8 (b.take (b.length - 4)) := by simp [u8, yW]
 simp only [bs, hl1] at hS'
 have e1 : (b.take (b.length - 4) ++ leB (Qc1 (b.take (b.length - 4))) 4 == b) = decide (leN (b.drop (b.length - 4)) = Qc1 (b.take (b.length - 4))) := by
  rw [Yj]; simp [hi]
 generalize b.take (b.length - 4) ++ leB (Qc1 (b.take (b.length - 4))) 4 = sb at *
 have n5 : b.length - 4 - 0 = b.length - 4 := by omega
 by_cases h3 : leN (b.drop (b.length - 4)) = Qc1 (b.take (b.length - 4))
 ·rw [qc h3]
  rw [decide_eq_true h3] at e1
  simp (disch := omega) only [rq, simprocAttr, Q7, bs, tk, n5]
  refine Qc hS' ?_
  simp (disch := omega) only [rq, simprocAttr, Qbh, e1]
 ·rw [qa h3]
  rw [decide_eq_false h3] at e1
  simp (disch := omega) only [rq, simprocAttr, Q7, bs, tk, n5]
  refine Qc hS' ?_
  simp (disch := omega) only [rq, simprocAttr, Qbh, e1]
def QsC (F : Nat → Dl) : List AV := dlC (F 0) ++ dlC (F 1) ++ dlC (F 2) ++ dlC (F 3) ++ dlC (F 4) ++ dlC (F 5)
theorem Qw0 (F : Nat → Dl) : isTL (QsC F) = true := rfl
theorem QsB (F : Nat → Dl) : (QsC F).length = 24 := rfl
theorem QyF (F : Nat → Dl) {j : Nat} (h : j < 6) : ∃ r, (QsC F).drop (j * 4) = .int .i64 (F j).k0 :: .int .i64 (F j).k1 :: .int .u64 (F j).s0 :: .int .u64 (F j).s1 :: r := by
 rcases (by omega : j = 0 ∨ j = 1 ∨ j = 2 ∨ j = 3 ∨ j = 4 ∨ j = 5) with rfl | rfl | rfl | rfl | rfl | rfl <;> exact ⟨_, rfl⟩
def QBN (F : Nat → Dl) (j : Nat) (d : Dl) : Nat → Dl := fun i => if i = j then d else F i
theorem QsA (F : Nat → Dl) {j : Nat} (h : j < 6) (d : Dl) : (QsC F).take (j * 4) ++ [.int .i64 d.k0, .int .i64 d.k1, .int .u64 d.s0, .int .u64 d.s1] ++ (QsC F).drop (j * 4 + 4) = QsC (QBN F j d) := by
 rcases (by omega : j = 0 ∨ j = 1 ∨ j = 2 ∨ j = 3 ∨ j = 4 ∨ j = 5) with rfl | rfl | rfl | rfl | rfl | rfl <;> rfl
def vlA : (Nat × List Nat) ⊕ (List Nat × Nat) → AV
 | .inl (e, _) => .tup [.list 0 [], .int .i64 0, .int .i64 e]
 | .inr (o, a) => .tup [QkH o, .int .i64 a, .int .i64 0]
def Qr1 (P : Prg) (f : Nat) : Prop := ∀ N V c n : Nat, V < 2 ^ N → N ≤ 330000 → 1 ≤ c → c ≤ 6 → n * c ≤ 4000 → VC P f [.int .i64 c, .int .i64 n, bA N V] (vlA (Qa6 V N c (n * c) [] 0))
set_option maxHeartbeats 2000000 in
theorem Qj6 {P : Prg} {f fS fC fR t0 t1 t2 t3 : Nat} (bd : Qf P f 76 [.tmp 6, .tmp 7, .tmp 8] (QaG fS fC fR t0 t1 t2 t3)) (hS : Qb9 P fS) (hC : QBF P fC) (hR : Qr2 P fR) : Qr1 P f := by
 intro N V c n hV hN hc hc6 hnc
 refine Qi 1 (by simp [isDL, QaR, isD]) (by unfold vlA; split <;> simp [isD, isDL, QlZ]) (Qb bd (by simp) ?_)
 simp only [Qb9, startM, dlA, dlC] at hS
 have hn4 : n ≤ 4000 := by
  have : n * 1 ≤ n * c := yA _ hc
  omega
 have tu : isTL (u8 (leB V (nB N))) = true := Q9 _
 obtain ⟨T, hT⟩ : ∃ T, T = n * c := ⟨_, rfl⟩
 obtain ⟨R, hR0⟩ : ∃ R, R = Qa6 V N c (n * c) [] 0 := ⟨_, rfl⟩
 have eT : (n : Int) * c = (T : Int) := by rw [hT]; simp
 rw [← hR0]
 simp (disch := omega) only [rq, simprocAttr, QaG, bA]
 refine Qg (ι := Nat) (fun i => ⟨[(19, .int .i64 i), (9, .ref 1 1 0), (8, .int .i64 0), (7, .int .i64 0), (6, .emp true), (5, .ref 0 1 0), (0, .int .i64 c), (1, .int .i64 n)],
   [⟨t0, 2, 1, [.list (nB N) (u8 (leB V (nB N))), .int .i64 N], 0⟩, ⟨t1, 24, 1, QsC (fun j => if j < i then startM else ⟨0, 0, 0, 0⟩), 0⟩]⟩) (fun i => i ≤ 6) (fun i => 6 - i) 0 (Qh) (by omega) ?_
 intro i hi
 by_cases hlt : i < 6
 ·have e1 := QsA (fun j => if j < i then startM else ⟨0, 0, 0, 0⟩) hlt startM
  have e2 : QBN (fun j => if j < i then startM else ⟨0, 0, 0, 0⟩) i startM = fun j => if j < i + 1 then startM else ⟨0, 0, 0, 0⟩ := by
   funext j
   unfold QBN
   by_cases h1 : j = i
   ·subst h1; simp
   ·by_cases h2 : j < i
    ·simp [h1, h2, show j < i + 1 by omega]
    ·simp [h1, h2, show ¬ j < i + 1 by omega]
  rw [e2] at e1
  have e3 := QsB (fun j => if j < i then startM else ⟨0, 0, 0, 0⟩)
  simp (disch := omega) only [rq, simprocAttr]
  refine Qa hS ?_
  generalize hF : QsC (fun j => if j < i then startM else ⟨0, 0, 0, 0⟩) = F at *
  have e1' : F.take (i * 4) ++ [.int .i64 10, .int .i64 10, .int .u64 16384, .int .u64 16384] ++ F.drop (i * 4 + 4) = QsC fun j => if j < i + 1 then startM else ⟨0, 0, 0, 0⟩ := e1
  simp (disch := omega) only [rq, simprocAttr, e3]
  refine ⟨i + 1, by omega, by omega, ?_⟩
  rw [e1']
  exact Qh
 obtain rfl : i = 6 := by omega
 have hk0 : ∀ o : List Nat, (ks .u32 (o.map fun n : Nat => (n : Int))).length = o.length := fun o => by simp [ks]
 simp (disch := omega) only [rq, simprocAttr, eT]
 refine Qg (ι := Nat × List Nat × Nat) (fun s => ⟨[(29, .int .i64 s.1), (28, .int .i64 T), (12, .int .i64 s.2.2), (11, .own 2 s.2.1.length), (9, .ref 1 1 0), (5, .ref 0 1 0), (0, .int .i64 c)],
   [⟨t0, 2, 1, [.list (nB N) (u8 (leB V (nB N))), .int .i64 N], 0⟩, ⟨t1, 24, 1, QsC (fun j => if j < c then XS c j s.2.1 else startM), 0⟩, ⟨t3, 1, s.2.1.length, ks .u32 (s.2.1.map fun n : Nat => (n : Int)), 0⟩]⟩)
  (fun s => s.1 ≤ T ∧ s.2.1.length = s.1 ∧ s.2.2 ≤ N ∧ N32 s.2.1 ∧ Qa6 V N c (T - s.1) s.2.1 s.2.2 = R) (fun s => T - s.1) (0, [], 0) ?_ ⟨yF _, rfl, yF _, fun x hx => (by simp at hx), (by rw [hR0, hT]; rfl)⟩ ?_
 ·have z1 : QsC (fun j => if j < 6 then startM else ⟨0, 0, 0, 0⟩) = QsC (fun _ => startM) := rfl
  have z2 : (fun j => if j < c then XS c j [] else startM) = fun _ => startM := by
   funext j
   split <;> rfl
  simp only [z2]
  rw [z1]
  exact Le.trans (Qa2 11 t3 1 (by decide) rfl) (Qh)
 rintro ⟨k, out, a⟩ ⟨h1, h2, h3, h4, h5⟩
 simp only at h1 h2 h3 h4 h5 ⊢
 by_cases hlt : k < T
 ·obtain ⟨r, hr⟩ : ∃ r, r = k % c := ⟨_, rfl⟩
  have hrc : r < c := by rw [hr]; exact qz _ (by omega)
  have e1 : (k : Int) % c = (r : Int) := by rw [hr]; simp [Int.natCast_emod]
  have e1' : ((k : Int)).tmod (c : Int) = (r : Int) := by rw [jn (by omega), e1]
  have hc0 : (c : Int) ≠ 0 := by omega
  obtain ⟨b, hb⟩ : ∃ b, b = min (a + 81) N := ⟨_, rfl⟩
  have e2 : (if (N : Int) < (a : Int) + 81 then (N : Int) else (a : Int) + 81) = (b : Int) := by split <;> omega
  have hpn : b - a = Qhs N a := by rw [hb]; rfl
  have hC' : VC P fC [bA N V, .int .i64 a, .int .i64 b] (.tup [bA (Qhs N a) (Quv V N a), .int .i64 0]) := by
   have := hC N V a b hV hN (by omega) (by omega)
   rw [hpn] at this
   exact this
  have hpl : Qhs N a ≤ 81 := by unfold Qhs; omega
  have hd := Qrz (c := c) (r := r) h4
  have hR' := hR (Qhs N a) (Quv V N a) 0 (XS c r out) (QAT V N a) (by omega) (by omega) hd
  have hF : (fun j => if j < c then XS c j out else startM) r = XS c r out := by simp [hrc]
  obtain ⟨rest, hg⟩ := QyF (fun j => if j < c then XS c j out else startM) (j := r) (by omega)
  simp only [hrc, yf] at hg
  have hst := fun d => QsA (fun j => if j < c then XS c j out else startM) (j := r) (by omega) d
  have hln := QsB (fun j => if j < c then XS c j out else startM)
  have hupd : ∀ v : Nat, QBN (fun j => if j < c then XS c j out else startM) r (JA (XS c r out) v) = fun j => if j < c then XS c j (out ++ [v]) else startM := by
   intro v
   funext j
   unfold QBN
   by_cases hj : j = r
   ·subst hj
    rw [qc rfl, qc hrc, Qpr, qc (by rw [h2, hr])]
   ·rw [qa hj]
    by_cases hjc : j < c
    ·simp only [hjc, yf]
     rw [Qpr, qa (by rw [h2, ← hr]; exact fun e => hj e.symm)]
    ·simp only [hjc, yl]
  have hkT : T - k = (T - k - 1) + 1 := by omega
  rw [hkT, Qa6, h2, ← hr] at h5
  have hgl := fun v nx (h : Qnq (Quv V N a) (Qhs N a) 0 (XS c r out) = .inr (v, nx)) => Qs8 hd h
  have hge := fun e (h : Qnq (Quv V N a) (Qhs N a) 0 (XS c r out) = .inl e) => Qri h
  have hpN : Qhs N a ≤ N - a := by unfold Qhs; omega
  simp only [bA] at hC' hR'
  have hk1 := hk0 out
  have tk : isTL (ks .u32 (out.map fun n : Nat => (n : Int))) = true := Qq _ _
  cases hgm : Qnq (Quv V N a) (Qhs N a) 0 (XS c r out) with
  | inl e =>
   have he := hge e hgm
   rw [hgm] at hR' h5
   simp only at h5
   have he0 : (e : Int) ≠ 0 := by omega
   rw [← h5, vlA]
   generalize QsC (fun j => if j < c then XS c j out else startM) = F at *
   generalize XS c r out = d at *
   obtain ⟨d0, d1, d2, d3⟩ := d
   simp only [dlA, dlC, drA] at hR'
   simp only at hg
   simp (disch := omega) only [rq, simprocAttr, e2]
   refine Qa hC' ?_
   simp (disch := omega) only [rq, simprocAttr, e1, e1', hc0, hg, hln]
   refine Qc hR' ?_
   simp (disch := omega) only [rq, simprocAttr]
   simp [QI, Qz, frzL, Qv]
  | inr w =>
   obtain ⟨v, nx⟩ := w
   obtain ⟨v1, v2⟩ := hgl v nx hgm
   rw [hgm] at hR' h5
   simp only at h5
   have hset := hst (JA (XS c r out) v)
   rw [hupd v] at hset
   generalize hFF : QsC (fun j => if j < c then XS c j out else startM) = F at *
   generalize XS c r out = d at *
   obtain ⟨d0, d1, d2, d3⟩ := d
   simp only [drA] at hR'
   generalize JA ⟨d0, d1, d2, d3⟩ v = d' at *
   obtain ⟨m0, m1, m2, m3⟩ := d'
   simp only [dlA, dlC] at hR'
   simp only at hg hset
   simp (disch := omega) only [rq, simprocAttr, e2]
   refine Qa hC' ?_
   simp (disch := omega) only [rq, simprocAttr, e1, e1', hc0, hg, hln]
   refine Qc hR' ?_
   simp (disch := omega) only [rq, simprocAttr, e1, e1', hc0, hg, hln, hk1, h2]
   have hap : ks .u32 (out.map fun n : Nat => (n : Int)) ++ [.int .u32 (v : Int)] = ks .u32 ((out ++ [v]).map fun n : Nat => (n : Int)) := by simp [ks]
   have hol : (out ++ [v]).length = k + 1 := by simp [h2]
   refine ⟨(k + 1, out ++ [v], a + nx), ⟨by omega, hol, by simp only; omega, fun x hx => ?_, ?_⟩, by simp only; omega, ?_⟩
   ·rcases qB.1 hx with h | h
    ·exact h4 x h
    ·simp at h; subst h; exact v1
   ·simp only
    rw [show T - (k + 1) = T - k - 1 by omega]
    exact h5
   ·simp only [hol]
    rw [hset, hap]
    exact Zt [_, _, _] (by simp [Qw0, Qq, isTL, isT, Q9]) (by simp [Am.look, Qz, frzL, Qv])
 ·obtain rfl : k = T := by omega
  rw [jy, Qa6] at h5
  rw [← h5, vlA, QkH, Qdd, yq]
  simp (disch := omega) only [rq, simprocAttr]
  simp [QI, Qz, frzL, Qv, frzL_T _ (Qq _ _)]
def rdM (V N : Nat) : (Nat × List Nat) ⊕ (List Nat × Nat) → List Nat × Nat
 | .inl (e, o) => (o, e)
 | .inr (o, a) => (o, Qc4 V N a)
def QzS (w : List Nat × Nat) : AV := .tup [QkH w.1, .int .i64 w.2]
theorem Qwf {V N a : Nat} (h : a < N) (h7 : N - a ≤ 7) : Qc4 V N a = if V / 2 ^ a % 2 = 0 then Qc4 V N (a + 1) else 12 := by
 have hd : V / 2 ^ (a + 1) = V / 2 ^ a / 2 := by rw [yc, qw]
 unfold Qc4
 rw [qa (show ¬ 7 < N - a by omega), qa (show ¬ 7 < N - (a + 1) by omega), hd]
 generalize V / 2 ^ a = x
 by_cases h2 : x % 2 = 0
 ·rw [qc h2]
  by_cases h3 : x = 0
  ·subst h3; simp
  ·rw [qa h3, qa (by omega)]
 ·rw [qa h2, qa (by omega)]
theorem QcF.flatA {P : Prg} {Q : Exit → St → Prop} {f : FuncId} {avs ds rs : List AV} (k : Nat) (h : VC P f ds (.agg rs)) (hr : rs.all Go.Am.flat = true) {ob : List Ob} (hf : QI (fun _ => true) ob (k + 1) avs = some ds) {os : List AO} {fr : List (Nat × AV)} {dst : Option Nat} (hK : wpQ P os Q ⟨Xy fr dst (.agg rs), ob⟩) : QcF P f avs ob os Q fr dst := by
 obtain ⟨h0, h1, h2, h3⟩ := h
 refine ⟨h0, fun B w be C vs g hG hrep => ?_⟩
 have hd := Qcj (X := ⟨w, ob, be, C⟩) g (C' := fun _ _ => False) (fun _ _ h => h.elim) (ok := fun _ => true) (fun _ _ _ _ _ _ _ _ _ h => h) (k + 1) avs ds vs hf hrep
 refine (h3 w (fun _ _ => False) vs (fun _ _ h => h.elim) (hG.data fun b k v hc _ => ⟨hc, fun h => (QlV.1 h)⟩) hd).mono ?_
 rintro e w' ⟨v, rfl, hb, hv⟩
 refine ⟨v, .agg rs, ob, be, rfl, hb.mono g.size, g.below hb, Moves.below (X := ⟨w, ob, be, C⟩) hb, ?_, hK⟩
 simp only [Rep] at hv ⊢
 obtain ⟨vs', e, h2⟩ := hv
 exact ⟨vs', e, RepL.flat hr h2⟩
theorem QuQ {c : Nat} {v : List Nat} (h : v.length < c) : XS c (v.length % c) v = startM := by
 have h1 := Qck (c := c) (r := v.length % c) (i := 0) (v := v) v.length (fun t _ h2 => by rw [qv (by omega), qv h]; omega)
 rw [yj] at h1
 exact h1
def Qsa (P : Prg) (f : Nat) : Prop := ∀ (p : List UInt8) (c n : Nat), p.length ≤ 41250 → 1 ≤ c → c ≤ 6 → n * c ≤ 4000 → VC P f [.int .i64 c, .int .i64 n, bs p] (QzS (rdM (leN p) (8 * p.length) (Qa6 (leN p) (8 * p.length) c (n * c) [] 0)))
set_option maxHeartbeats 2000000 in
theorem Qud {P : Prg} {f fS fT fB fG fA t0 t1 t2 : Nat} (bd : Qf P f 80 [.tmp 6, .tmp 7] (Jp fS fT fB fG fA t0 t1 t2)) (hS : Qb9 P fS) (hT0 : QmY P fT) (hB : Qjs P fB) (hG : Qx0 P fG) (hA : Qsl P fA) : Qsa P f := by
 intro p c n hp hc hc6 hnc
 refine Qi 1 (by simp [isDL, Qr, isD]) (by simp [QzS, isD, isDL, QlZ]) (Qb bd (by simp) ?_)
 simp only [Qb9, startM, dlA, dlC] at hS
 have hn4 : n ≤ 4000 := by
  have : n * 1 ≤ n * c := yA _ hc
  omega
 have hV := QwT p
 have hbA := QBs p
 rw [bs] at hbA
 obtain ⟨N, hN⟩ : ∃ N, N = 8 * p.length := ⟨_, rfl⟩
 obtain ⟨V, hVV⟩ : ∃ V, V = leN p := ⟨_, rfl⟩
 rw [← hN, ← hVV] at hV hbA ⊢
 have hN3 : N ≤ 330000 := by omega
 have tu : isTL (u8 p) = true := Q9 _
 obtain ⟨T, hT⟩ : ∃ T, T = n * c := ⟨_, rfl⟩
 obtain ⟨R, hR0⟩ : ∃ R, R = Qa6 V N c (n * c) [] 0 := ⟨_, rfl⟩
 have eT : (n : Int) * c = (T : Int) := by rw [hT]; simp
 have eN : (8 : Int) * p.length = (N : Int) := by omega
 rw [← hR0]
 have hk0 : ∀ o : List Nat, (ks .u32 (o.map fun n : Nat => (n : Int))).length = o.length := fun o => by simp [ks]
 simp (disch := omega) only [rq, simprocAttr, Jp, bs, eN]
 refine Qg (ι := Nat × List Nat × Nat) (fun s => ⟨[(11, .int .i64 s.1), (10, .int .i64 s.2.2), (9, .own 1 s.2.1.length), (8, .ref 0 1 0), (0, .int .i64 c), (1, .int .i64 n)],
   [⟨t0, 2, 1, [.list p.length (u8 p), .int .i64 N], 0⟩, ⟨t2, 1, s.2.1.length, ks .u32 (s.2.1.map fun n : Nat => (n : Int)), 0⟩]⟩)
  (fun s => s.1 ≤ T ∧ s.2.1.length = s.1 ∧ s.2.2 ≤ N ∧ N32 s.2.1 ∧ Qa6 V N c (T - s.1) s.2.1 s.2.2 = R) (fun s => T - s.1) (0, [], 0) (Le.trans (Qa2 9 t2 1 (by decide) rfl) (Qh)) ⟨yF _, rfl, yF _, fun x hx => (by simp at hx), (by rw [hR0, hT]; rfl)⟩ ?_
 rintro ⟨k, out, a⟩ ⟨h1, h2, h3, h4, h5⟩
 simp only at h1 h2 h3 h4 h5 ⊢
 have tk : isTL (ks .u32 (out.map fun n : Nat => (n : Int))) = true := Qq _ _
 by_cases hlt : k < T
 ·obtain ⟨b, hb⟩ : ∃ b, b = min (a + 81) N := ⟨_, rfl⟩
  have e2 : (if (N : Int) < (a : Int) + 81 then (N : Int) else (a : Int) + 81) = (b : Int) := by split <;> omega
  have hpn : b - a = Qhs N a := by rw [hb]; rfl
  have hB' : VC P fB [bA N V, .int .i64 a, .int .i64 b] (bA (Qhs N a) (Quv V N a)) := by
   have := hB N V a b hV hN3 (by omega) (by omega)
   rw [hpn] at this
   exact this
  have hpl : Qhs N a ≤ 81 := by unfold Qhs; omega
  have hpN : Qhs N a ≤ N - a := by unfold Qhs; omega
  have hd := Qrz (c := c) (r := out.length % c) h4
  have hT' := hT0 c out hc hc6 (by omega) h4
  have hfi := QuQ (c := c) (v := out)
  have hG' := hG (Qhs N a) (Quv V N a) 0 (XS c (out.length % c) out) (by omega) (by omega) hd
  have hkT : T - k = (T - k - 1) + 1 := by omega
  rw [hkT, Qa6] at h5
  have hgl := fun v nx (h : Qnq (Quv V N a) (Qhs N a) 0 (XS c (out.length % c) out) = .inr (v, nx)) => Qs8 hd h
  have hge := fun e (h : Qnq (Quv V N a) (Qhs N a) 0 (XS c (out.length % c) out) = .inl e) => Qri h
  rw [hbA] at hB'
  simp only [bA] at hB' hG'
  have hk1 := hk0 out
  have hkc : k < c → XS c (out.length % c) out = startM := fun h => hfi (by omega)
  generalize Qnq (Quv V N a) (Qhs N a) 0 (XS c (out.length % c) out) = G at *
  generalize XS c (out.length % c) out = d at *
  cases G with
  | inl e =>
   have he := hge e rfl
   have he0 : (e : Int) ≠ 0 := by omega
   simp only at h5
   rw [← h5, rdM, QzS, QkH, Qdd, yq]
   simp only [rcA] at hG'
   by_cases hkk : k < c
   ·have hd0 := hkc hkk
    subst hd0
    simp only [startM, dlA, dlC] at hG'
    simp (disch := omega) only [rq, simprocAttr, eT, e2]
    refine Qa hS ?_
    simp (disch := omega) only [rq, simprocAttr, eT, e2]
    iterate 2 (refine Qa (by assumption) ?_; simp (disch := omega) only [rq, simprocAttr])
    simp [QI, Qz, frzL, Qv, frzL_T _ tk]
   ·obtain ⟨d0, d1, d2, d3⟩ := d
    simp only [dlA, dlC, QkH, Qdd, yq] at hG' hT'
    simp (disch := omega) only [rq, simprocAttr, eT, e2]
    refine Qa hS ?_
    simp (disch := omega) only [rq, simprocAttr, eT, e2]
    refine QcF.flatA 2 hT' rfl (by simp [QI, Qz, frzL, Qv, frzL_T _ tk]) ?_
    simp (disch := omega) only [rq, simprocAttr, eT, e2]
    iterate 2 (refine Qa (by assumption) ?_; simp (disch := omega) only [rq, simprocAttr])
    simp [QI, Qz, frzL, Qv, frzL_T _ tk]
  | inr w =>
   obtain ⟨v, nx⟩ := w
   obtain ⟨v1, v2⟩ := hgl v nx rfl
   simp only at h5
   simp only [rcA] at hG'
   have hap : ks .u32 (out.map fun n : Nat => (n : Int)) ++ [.int .u32 (v : Int)] = ks .u32 ((out ++ [v]).map fun n : Nat => (n : Int)) := by simp [ks]
   have hol : (out ++ [v]).length = k + 1 := by simp [h2]
   have fin : (k + 1 ≤ T ∧ (out ++ [v]).length = k + 1 ∧ a + nx ≤ N ∧ N32 (out ++ [v]) ∧ Qa6 V N c (T - (k + 1)) (out ++ [v]) (a + nx) = R) := by
    refine ⟨by omega, hol, by omega, fun x hx => ?_, ?_⟩
    ·rcases qB.1 hx with h | h
     ·exact h4 x h
     ·simp at h; subst h; exact v1
    ·rw [show T - (k + 1) = T - k - 1 by omega]
     exact h5
   by_cases hkk : k < c
   ·have hd0 := hkc hkk
    subst hd0
    simp only [startM, dlA, dlC] at hG'
    simp (disch := omega) only [rq, simprocAttr, eT, e2]
    refine Qa hS ?_
    simp (disch := omega) only [rq, simprocAttr, eT, e2]
    refine Qa hB' ?_
    simp (disch := omega) only [rq, simprocAttr]
    refine Qa hG' ?_
    simp (disch := omega) only [rq, simprocAttr, hk1, h2]
    refine ⟨(k + 1, out ++ [v], a + nx), fin, by simp only; omega, ?_⟩
    simp only [hol]
    rw [hap]
    exact Zt [_, _] (by simp [Qq, isTL, isT, Q9]) (by simp [Am.look, Qz, frzL, Qv])
   ·obtain ⟨d0, d1, d2, d3⟩ := d
    simp only [dlA, dlC, QkH, Qdd, yq] at hG' hT'
    simp (disch := omega) only [rq, simprocAttr, eT, e2]
    refine Qa hS ?_
    simp (disch := omega) only [rq, simprocAttr, eT, e2]
    refine QcF.flatA 2 hT' rfl (by simp [QI, Qz, frzL, Qv, frzL_T _ tk]) ?_
    simp (disch := omega) only [rq, simprocAttr, eT, e2]
    refine Qa hB' ?_
    simp (disch := omega) only [rq, simprocAttr]
    refine Qa hG' ?_
    simp (disch := omega) only [rq, simprocAttr, hk1, h2]
    refine ⟨(k + 1, out ++ [v], a + nx), fin, by simp only; omega, ?_⟩
    simp only [hol]
    rw [hap]
    exact Zt [_, _] (by simp [Qq, isTL, isT, Q9]) (by simp [Am.look, Qz, frzL, Qv])
 ·obtain rfl : k = T := by omega
  rw [jy, Qa6] at h5
  rw [← h5, rdM]
  by_cases h7 : 7 < N - a
  ·have hr : Qc4 V N a = 12 := by unfold Qc4; rw [qc h7]
   rw [hr, QzS, QkH, Qdd, yq]
   simp (disch := omega) only [rq, simprocAttr, eT]
   simp [QI, Qz, frzL, Qv, frzL_T _ tk]
  ·simp (disch := omega) only [rq, simprocAttr, eT]
   refine Qg (ι := Nat) (fun j => ⟨[(10, .int .i64 j), (9, .own 1 out.length), (8, .ref 0 1 0)],
    [⟨t0, 2, 1, [.list p.length (u8 p), .int .i64 N], 0⟩, ⟨t2, 1, out.length, ks .u32 (out.map fun n : Nat => (n : Int)), 0⟩]⟩) (fun j => a ≤ j ∧ j ≤ N ∧ Qc4 V N a = Qc4 V N j) (fun j => N - j) a (Qh) ⟨qj _, h3, rfl⟩ ?_
   rintro j ⟨j1, j2, j3⟩
   by_cases hj : j < N
   ·have hA' := hA N V j (by omega) hj
    rw [hbA] at hA'
    have hst := Qwf (V := V) hj (by omega)
    have hb2 : V / 2 ^ j % 2 < 2 := qz _ (by decide)
    by_cases h0 : V / 2 ^ j % 2 = 0
    ·rw [qc h0] at hst
     rw [h0] at hA'
     simp (disch := omega) only [rq, simprocAttr]
     refine Qa hA' ?_
     simp (disch := omega) only [rq, simprocAttr]
     exact ⟨j + 1, ⟨by omega, by omega, by rw [j3, hst]⟩, by omega, Qh⟩
    ·rw [qa h0] at hst
     rw [show V / 2 ^ j % 2 = 1 by omega] at hA'
     rw [j3, hst, QzS, QkH, Qdd, yq]
     simp (disch := omega) only [rq, simprocAttr]
     refine Qa hA' ?_
     simp (disch := omega) only [rq, simprocAttr]
     simp [QI, Qz, frzL, Qv, frzL_T _ tk]
   ·obtain rfl : j = N := by omega
    have hr : Qc4 V j j = 0 := by unfold Qc4; rw [qa (by omega), yK hV, qc rfl]
    rw [j3, hr, QzS, QkH, Qdd, yq]
    simp (disch := omega) only [rq, simprocAttr]
    simp [QI, Qz, frzL, Qv, frzL_T _ tk]
def iL (o : List Nat) : List Int := o.map fun n : Nat => (n : Int)
def QAd (V N c : Nat) (x : Int) (t : List Int) (w : (Nat × List Nat) ⊕ (List Nat × Nat)) : AV :=
 match w with
 | .inl (e, _) => erA e
 | .inr (o, a) => if Qc4 V N a ≠ 0 then erA 12 else QoB x (unB c x t (iL o))
def Qyi (c x : Int) (t : List Int) (n : Int) (b : List UInt8) : AV :=
 if QcJ c x n ≠ 0 then erA 2 else if QeY b ≠ 0 then erA (QeY b : Nat) else
  QAd (leN (b.take (b.length - 4))) (8 * (b.take (b.length - 4)).length) c.toNat x t (Qa6 (leN (b.take (b.length - 4))) (8 * (b.take (b.length - 4)).length) c.toNat (n.toNat * c.toNat) [] 0)
theorem Qzj (V N c : Nat) (x : Int) (t : List Int) (w : (Nat × List Nat) ⊕ (List Nat × Nat)) : isD (QAd V N c x t w) = true := by
 unfold QAd
 split
 ·rfl
 ·split
  ·rfl
  ·exact Qrb _ _
theorem Qs3 (c x : Int) (t : List Int) (n : Int) (b : List UInt8) : isD (Qyi c x t n b) = true := by
 unfold Qyi
 split
 ·rfl
 split
 ·rfl
 ·exact Qzj _ _ _ _ _ _
theorem Qi9 {c x n : Int} (h : QcJ c x n = 0) : QbI c x = 0 ∧ ∃ c' n' : Nat, c = c' ∧ n = n' ∧ 1 ≤ c' ∧ c' ≤ 6 ∧ 1 ≤ n' ∧ n' * c' ≤ 4000 ∧ J0 x ≠ 0 := by
 unfold QcJ at h
 rcases Qdu c x with h1 | ⟨h1, h2, h3, h4⟩
 ·rw [qc (by omega)] at h; omega
 ·rw [qa (by omega)] at h
  split at h
  ·omega
  split at h
  ·omega
  rename_i h5 h6
  refine ⟨h1, c.toNat, n.toNat, by omega, by omega, by omega, by omega, by omega, ?_, h2⟩
  have h7 : n.toNat ≤ 4000 / c.toNat := by
   have : ((4000 / c.toNat : Nat) : Int) = 4000 / c := by rw [jp, Int.toNat_of_nonneg (by omega)]; rfl
   omega
  exact (Nat.le_div_iff_mul_le (by omega)).1 h7
theorem QzW {V N c n : Nat} {o : List Nat} {a : Nat} (hc : 1 ≤ c) (hc6 : c ≤ 6) (hn : 1 ≤ n) (hnc : n * c ≤ 4000) (h : Qa6 V N c (n * c) [] 0 = .inr (o, a)) : okV c (iL o) ∧ a ≤ N ∧ o.length = n * c := by
 obtain ⟨_, h2⟩ := QfK (V := V) (N := N) (c := c) (n * c) [] 0 (yF _) (fun x hx => by simp at hx)
 obtain ⟨q1, q2, q3⟩ := h2 o a h
 rw [yE, yj] at q3
 have hpos : 0 < n * c := Yo hn hc
 refine ⟨⟨hc, hc6, by simp [iL]; omega, by simp [iL]; omega, by simp [iL, q3], fun x hx => ?_⟩, q2, q3⟩
 simp only [iL, qY] at hx
 obtain ⟨y, hy, rfl⟩ := hx
 have := q1 y hy
 omega
def QbR (P : Prg) (f : Nat) : Prop := ∀ (c x n : Int) (t : List Int) (b : List UInt8), t.length = 16 → I32 t → b.length ≤ 1000000 → VC P f [shA c x, .agg (ks .i32 t), .int .i64 n, bs b] (Qyi c x t n b)
set_option maxHeartbeats 2000000 in
theorem QoN {P : Prg} {f fA fO fR fU fG t0 t1 : Nat} (bd : Qf P f 44 [.tmp 8, .tmp 9] (QV fA fO fR fU fG t0 t1)) (hA : Qsm P fA) (hO : Qm5 P fO) (hR : Qsa P fR) (hU : Qji P fU) (hG : Qm2 P fG) : QbR P f := by
 intro c x n t b ht hI hb
 refine Qi 1 (by simp [isDL, Qr, ZA, isD, shA]) (Qs3 _ _ _ _ _) (Qb bd (by simp) ?_)
 have hA' := hA c x n
 have hO' := hO b hb
 have hk : (ks .i32 t).length = 16 := by simp [Qd, ht]
 have tt : (ks .i32 t).take 16 = ks .i32 t := Qw (by omega)
 have ot := Z4 .i32 t
 rw [shA] at hA'
 simp only [bs] at hO'
 unfold Qyi
 by_cases h1 : QcJ c x n = 0
 case neg =>
  rw [qc h1, erA]
  generalize QcJ c x n = m at *
  simp (disch := omega) only [rq, simprocAttr, QV, shA, bs, hk, tt, ot]
  refine Qa hA' ?_
  simp (disch := omega) only [rq, simprocAttr]
  simp [QI, Qz, frzL, Qv]
 rw [qa (by omega)]
 obtain ⟨hE, c', n', rfl, rfl, q1, q2, q3, q4, q5⟩ := Qi9 h1
 rw [h1] at hA'
 by_cases h2 : QeY b = 0
 case neg =>
  have h2' : ((QeY b : Nat) : Int) ≠ 0 := by omega
  rw [qc h2, erA]
  generalize QeY b = m at *
  simp (disch := omega) only [rq, simprocAttr, QV, shA, bs, hk, tt, ot]
  iterate 3 (refine Qa (by assumption) ?_; simp (disch := omega) only [rq, simprocAttr])
  simp [QI, Qz, frzL, Qv]
 rw [qa (by omega)]
 have hbl : 5 ≤ b.length ∧ b.length ≤ 41254 := by
  unfold QeY at h2
  split at h2
  ·omega
  split at h2
  ·omega
  ·omega
 rw [h2] at hO'
 have hpl : (b.take (b.length - 4)).length = b.length - 4 := by simp
 have hR' := hR (b.take (b.length - 4)) c' n' (by omega) q1 q2 q4
 have tk : (u8 b).take (b.length - 4) = u8 (b.take (b.length - 4)) := by simp [u8, yW]
 simp only [qu]
 simp only [bs, hpl] at hR' ⊢
 have n5 : b.length - 4 - 0 = b.length - 4 := by omega
 generalize hp : b.take (b.length - 4) = p at *
 generalize leN p = V at *
 generalize 8 * (b.length - 4) = N at *
 have hokv := fun o a (h : Qa6 V N c' (n' * c') [] 0 = .inr (o, a)) => QzW q1 q2 q3 q4 h
 have hspec := QfK (V := V) (N := N) (c := c') (n' * c') [] 0 (yF _) (fun x hx => by simp at hx)
 cases hw : Qa6 V N c' (n' * c') [] 0 with
 | inl w =>
  obtain ⟨e, o⟩ := w
  have he := (hspec.1 e o hw).1
  have he0 : (e : Int) ≠ 0 := by omega
  rw [hw, rdM, QzS, QkH, Qdd] at hR'
  simp only [QAd, erA]
  simp (disch := omega) only [rq, simprocAttr, QV, shA, bs, hk, tt, ot]
  refine Qa hA' ?_
  simp (disch := omega) only [rq, simprocAttr]
  refine Qa hO' ?_
  simp (disch := omega) only [rq, simprocAttr, tk, n5]
  refine Qc hR' ?_
  simp (disch := omega) only [rq, simprocAttr]
  simp [QI, Qz, frzL, Qv]
 | inr w =>
  obtain ⟨o, a⟩ := w
  obtain ⟨hv, ha, hol⟩ := hokv o a hw
  rw [hw, rdM, QzS, QkH, Qdd] at hR'
  simp only [QAd]
  have hU' := hU c' x t (iL o) ht hI hv q5
  have hI2 : I32 (unB c' x t (iL o)) := by
   unfold unB
   exact Qk1 (Qnm _ _ _ _)
  have hG' := hG c' x (unB c' x t (iL o)) hI2
  rw [shA, Qdd, iL, yq] at hU'
  rw [shA] at hG'
  by_cases h3 : Qc4 V N a = 0
  ·rw [h3] at hR'
   rw [qa (by omega)]
   simp only [iL] at hG' ⊢
   generalize unB c' x t (o.map fun n : Nat => (n : Int)) = z at *
   simp only [il] at hU' hG'
   unfold QoB at hG' ⊢
   simp (disch := omega) only [rq, simprocAttr, QV, shA, bs, hk, tt, ot]
   refine Qa hA' ?_
   simp (disch := omega) only [rq, simprocAttr]
   refine Qa hO' ?_
   simp (disch := omega) only [rq, simprocAttr, tk, n5]
   refine Qc hR' ?_
   simp (disch := omega) only [rq, simprocAttr, hk, tt, ot]
   refine Qc hU' ?_
   simp (disch := omega) only [rq, simprocAttr]
   refine Qc hG' ?_
   by_cases h4 : Zo x z = 0
   ·rw [qa (by omega)]
    simp (disch := omega) only [rq, simprocAttr, il]
    simp [QI, Qz, frzL, Qv, frzL_T _ (Qq _ _)]
   ·rw [qc h4]
    simp (disch := omega) only [rq, simprocAttr]
    simp [QI, Qz, frzL, Qv]
  ·rw [qc h3, erA]
   have h12 : Qc4 V N a = 12 := by
    unfold Qc4 at h3 ⊢
    split at h3
    ·rename_i h; rw [qc h]
    ·rename_i h
     rw [qa h]
     split at h3
     ·omega
     ·rename_i h'; rw [qa h']
   rw [h12] at hR'
   simp (disch := omega) only [rq, simprocAttr, QV, shA, bs, hk, tt, ot]
   refine Qa hA' ?_
   simp (disch := omega) only [rq, simprocAttr]
   refine Qa hO' ?_
   simp (disch := omega) only [rq, simprocAttr, tk, n5]
   refine Qc hR' ?_
   simp (disch := omega) only [rq, simprocAttr]
   simp [QI, Qz, frzL, Qv]
set_option maxHeartbeats 2000000 in
theorem Qj8 {P : Prg} {f fE fO fF fV fG fS t0 t1 t2 : Nat} (bd : Qf P f 87 [.tmp 8, .tmp 9] (QS fE fO fF fV fG fS t0 t1 t2)) (hE0 : Qeg P fE) (hO : QmQ P fO) (hF : QBD P fF) (hV : Qr1 P fV) (hG : QkV P fG) (hS : Qx3 P fS) : QbR P f := by
 intro c x n t b ht hI hb
 refine Qi 1 (by simp [isDL, Qr, ZA, isD, shA]) (Qs3 _ _ _ _ _) (Qb bd (by simp) ?_)
 have hE' := hE0 c x
 have hO' := hO b hb
 have hk : (ks .i32 t).length = 16 := by simp [Qd, ht]
 have tt : (ks .i32 t).take 16 = ks .i32 t := Qw (by omega)
 have ot := Z4 .i32 t
 rw [shA] at hE'
 simp only [bs] at hO'
 unfold Qyi
 rcases Qdu c x with g1 | ⟨g1, g2, g3, g4⟩
 ·have h1 : QcJ c x n = 2 := by unfold QcJ; rw [qc (by omega)]
  rw [g1] at hE'
  rw [qc (by omega), erA]
  simp (disch := omega) only [rq, simprocAttr, QS, shA, bs, hk, tt, ot]
  refine Qa hE' ?_
  simp (disch := omega) only [rq, simprocAttr]
  simp [QI, Qz, frzL, Qv]
 rw [g1] at hE'
 have ed : ((4000 : Int)).tdiv c = 4000 / c := qJ (by omega)
 have hc0 : c ≠ 0 := by omega
 have hd1 : 4000 / c ≤ 4000 := by
  have := jK c (show (0 : Int) ≤ 4000 by omega)
  exact this
 have hd0 : 0 ≤ 4000 / c := jS (by omega) (by omega)
 by_cases h1 : QcJ c x n = 0
 case neg =>
  rw [qc h1, erA]
  have h1' : n < 1 ∨ 4000 / c < n := by
   unfold QcJ at h1
   rw [qa (by omega)] at h1
   split at h1
   ·exact .inl (by assumption)
   split at h1
   ·exact .inr (by assumption)
   ·omega
  obtain ⟨q, hq⟩ : ∃ q, q = 4000 / c := ⟨_, rfl⟩
  rw [← hq] at hd0 hd1 h1' ed
  have ed2 : (4000 : Int) / c = q := hq.symm
  clear hq
  by_cases h1'' : n < 1
  ·simp (disch := omega) only [rq, simprocAttr, QS, shA, bs, hk, tt, ot]
   refine Qa hE' ?_
   simp (disch := omega) only [rq, simprocAttr]
   simp [QI, Qz, frzL, Qv]
  ·have h1''' : q < n := by omega
   simp (disch := omega) only [rq, simprocAttr, QS, shA, bs, hk, tt, ot]
   refine Qa hE' ?_
   simp (disch := omega) only [rq, simprocAttr, ed, ed2, hc0]
   simp [QI, Qz, frzL, Qv]
 rw [qa (by omega)]
 obtain ⟨_, c', n', rfl, rfl, q1, q2, q3, q4, q5⟩ := Qi9 h1
 have hnq : (n' : Int) ≤ 4000 / (c' : Int) := by
  unfold QcJ at h1
  rw [qa (by omega)] at h1
  split at h1
  ·omega
  split at h1
  ·omega
  ·omega
 obtain ⟨q, hq⟩ : ∃ q, q = (4000 : Int) / (c' : Int) := ⟨_, rfl⟩
 rw [← hq] at hd0 hd1 hnq ed
 have ed2 : (4000 : Int) / (c' : Int) = q := hq.symm
 clear hq
 by_cases h2 : QeY b = 0
 case neg =>
  have h2' : ((QeY b : Nat) : Int) ≠ 0 := by omega
  rw [opA, qa h2] at hO'
  rw [qc h2, erA]
  generalize QeY b = m at *
  simp (disch := omega) only [rq, simprocAttr, QS, shA, bs, hk, tt, ot]
  refine Qa hE' ?_
  simp (disch := omega) only [rq, simprocAttr, ed, ed2, hc0]
  refine Qa hO' ?_
  simp (disch := omega) only [rq, simprocAttr]
  simp [QI, Qz, frzL, Qv]
 rw [qa (by omega)]
 have hbl : 5 ≤ b.length ∧ b.length ≤ 41254 := by
  unfold QeY at h2
  split at h2
  ·omega
  split at h2
  ·omega
  ·omega
 rw [opA, qc h2] at hO'
 have hpl : (b.take (b.length - 4)).length = b.length - 4 := by simp
 have hF' := hF (b.take (b.length - 4)) (by omega)
 have hVlt := QwT (b.take (b.length - 4))
 have hbA := QBs (b.take (b.length - 4))
 rw [ofA, qa (by omega), hbA] at hF'
 simp only [qu]
 have hV' := hV (8 * (b.take (b.length - 4)).length) (leN (b.take (b.length - 4))) c' n' hVlt (by omega) q1 q2 q4
 have hG0 := fun a m => hG (8 * (b.take (b.length - 4)).length) (leN (b.take (b.length - 4))) a m hVlt (by omega)
 rw [hbA] at hV'
 simp only [hbA] at hG0
 simp only [bs, hpl] at hF' hV' hG0 hO' hVlt ⊢
 have hNN : 8 * (b.length - 4) ≤ 330000 := by omega
 generalize hp : b.take (b.length - 4) = p at *
 generalize leN p = V at *
 obtain ⟨N, hN⟩ : ∃ N, N = 8 * (b.length - 4) := ⟨_, rfl⟩
 rw [← hN] at hF' hV' hG0 hVlt hNN ⊢
 have hokv := fun o a (h : Qa6 V N c' (n' * c') [] 0 = .inr (o, a)) => QzW q1 q2 q3 q4 h
 have hspec := QfK (V := V) (N := N) (c := c') (n' * c') [] 0 (yF _) (fun x hx => by simp at hx)
 cases hw : Qa6 V N c' (n' * c') [] 0 with
 | inl w =>
  obtain ⟨e, o⟩ := w
  have he := (hspec.1 e o hw).1
  have he0 : (e : Int) ≠ 0 := by omega
  rw [hw, vlA] at hV'
  simp only [QAd, erA]
  simp (disch := omega) only [rq, simprocAttr, QS, shA, bs, hk, tt, ot]
  refine Qa hE' ?_
  simp (disch := omega) only [rq, simprocAttr, ed, ed2, hc0]
  iterate 3 (refine Qa (by assumption) ?_; simp (disch := omega) only [rq, simprocAttr])
  simp [QI, Qz, frzL, Qv]
 | inr w =>
  obtain ⟨o, a⟩ := w
  obtain ⟨hv, ha, hol⟩ := hokv o a hw
  rw [hw, vlA, QkH, Qdd, yq] at hV'
  simp only [QAd]
  have hS' := hS c' x t (iL o) ht hI hv q5
  rw [shA, Qdd, iL, yq] at hS'
  by_cases h8 : 7 < N - a
  ·have h12 : Qc4 V N a = 12 := by unfold Qc4; rw [qc h8]
   rw [h12, qc (by omega), erA]
   simp (disch := omega) only [rq, simprocAttr, QS, shA, bs, hk, tt, ot]
   refine Qa hE' ?_
   simp (disch := omega) only [rq, simprocAttr, ed, ed2, hc0]
   iterate 3 (refine Qa (by assumption) ?_; simp (disch := omega) only [rq, simprocAttr])
   simp [QI, Qz, frzL, Qv]
  ·have hG' := hG0 a (N - a) (by omega) (by omega)
   rw [qa (by omega)] at hG'
   have hlt : V / 2 ^ a < 2 ^ (N - a) := j0 (by rw [← qZ, show a + (N - a) = N by omega]; exact hVlt)
   rw [qv hlt] at hG'
   have eNa : (N : Int) - a = ((N - a : Nat) : Int) := by omega
   have h7 : 2 ^ (N - a) ≤ 2 ^ 7 := qq (by omega) (by omega)
   have hr : Qc4 V N a = if V / 2 ^ a = 0 then 0 else 12 := by unfold Qc4; rw [qa h8]
   rw [hr]
   generalize V / 2 ^ a = y at *
   obtain ⟨m, hm⟩ : ∃ m, m = N - a := ⟨_, rfl⟩
   rw [← hm] at hG' eNa
   have hm7 : m ≤ 7 := by omega
   by_cases h0 : y = 0
   ·subst h0
    rw [qc rfl, qa (by omega)]
    have hG'' : VC P fG [.agg [.list (b.length - 4) (u8 p), .int .i64 N], .int .i64 a, .int .i64 m] (.tup [.int .u64 0, .int .i64 0]) := hG'
    simp (disch := omega) only [rq, simprocAttr, QS, shA, bs, hk, tt, ot]
    refine Qa hE' ?_
    simp (disch := omega) only [rq, simprocAttr, ed, ed2, hc0]
    iterate 2 (refine Qa (by assumption) ?_; simp (disch := omega) only [rq, simprocAttr])
    refine Qa hV' ?_
    simp (disch := omega) only [rq, simprocAttr, eNa]
    refine Qa hG'' ?_
    simp (disch := omega) only [rq, simprocAttr, hk, tt, ot]
    refine Qa hS' ?_
    simp only [iL]
    generalize unB c' x t (o.map fun n : Nat => (n : Int)) = z at *
    unfold QoB
    by_cases h4 : Zo x z = 0
    ·rw [qa (by omega)]
     simp (disch := omega) only [rq, simprocAttr, il]
     simp [QI, Qz, frzL, Qv, frzL_T _ (Qq _ _)]
    ·rw [qc h4]
     simp (disch := omega) only [rq, simprocAttr]
     simp [QI, Qz, frzL, Qv]
   ·rw [qa h0, qc (by omega), erA]
    simp (disch := omega) only [rq, simprocAttr, QS, shA, bs, hk, tt, ot]
    refine Qa hE' ?_
    simp (disch := omega) only [rq, simprocAttr, ed, ed2, hc0]
    iterate 2 (refine Qa (by assumption) ?_; simp (disch := omega) only [rq, simprocAttr])
    refine Qa hV' ?_
    simp (disch := omega) only [rq, simprocAttr, eNa]
    refine Qa hG' ?_
    simp (disch := omega) only [rq, simprocAttr]
    simp [QI, Qz, frzL, Qv]
theorem mod_mul (m c : Nat) : (m * c) % c = 0 := Nat.mul_mod_left m c
def QDf (p : List UInt8) : List UInt8 := p ++ leB (Qc1 p) 4
theorem Ze (o : List Nat) : (iL o).length = o.length := by simp [iL]
def nl (l : List Int) : AV := .list l.length (ks .i64 l)
theorem Qw3 (l : List Int) : isD (nl l) = true := by simp [nl, isD, ZA]
def nls (L : List (List Int)) : AV := .list L.length (L.map nl)
theorem Qs6 : ∀ L : List (List Int), isDL (L.map nl) = true
 | [] => rfl
 | l :: L => by simp [isDL, Qw3, Qs6 L]
def Qjr (t : Nat) (P : Prg) (f : Nat) : Prop := ∀ L : List (List Int), L.length ≤ 1000000 → 0 < L.flatten.length → L.flatten.length ≤ 1000000 → VO P f [nls L] (.own 0 L.flatten.length) ⟨t, 1, L.flatten.length, ks .i64 L.flatten, 0⟩
theorem grow_nilI {P : Prg} {f t : Nat} {ρ : Go.Shelf.Ren} (L : Go.Proofs.Lays8.n4 P.prog ρ) (hf : ρ.f 4 = f) (ht : ρ.t 25 = t) (h25 : (P.prog.info? t).map (fun i => (i.zero, i.size, i.bytes)) = some (some (.int .i64 0), 1, 8)) : ∀ (ob : List Ob) (n : Nat) (z : Bool) (K : AV → List Ob → Prop), 0 < n → n ≤ 1000000 → K (.own ob.length 0) (ob ++ [⟨t, 1, 0, [], 0⟩]) → ACall P f [.emp z, .int .i64 n] ob K := by
 intro ob n z K h1 h2 hK
 subst hf; subst ht
 exact ACall.grow_nilI (by omega) L h25 h1 (by omega) hK
def QkZ (t : Nat) (P : Prg) (f : Nat) : Prop := ∀ (ob : List Ob) (n : Nat) (z : Bool) (K : AV → List Ob → Prop), 0 < n → n ≤ 1000000 → K (.own ob.length 0) (ob ++ [⟨t, 1, 0, [], 0⟩]) → ACall P f [.emp z, .int .i64 n] ob K
theorem QkM {L : List (List Int)} {k : Nat} (h : k < L.length) : (L.take (k + 1)).flatten = (L.take k).flatten ++ L.getD k [] := by
 rw [qm h, List.flatten_append, qe, qg h]
 simp
theorem Qtb (L : List (List Int)) (k : Nat) : (L.take k).flatten.length ≤ L.flatten.length := by
 conv => rhs; rw [← yz k L, List.flatten_append, qx]
 omega
theorem QjY {P : Prg} {f fG t0 : Nat} (bd : Qf P f 36 [.tmp 2] (Xg fG t0)) (hG : QkZ t0 P fG) : Qjr t0 P f := by
 intro L hL h0 h1
 refine VO.of_walk (by simp [isDL, isD, nls, Qs6]) (ZA _ _) (by simp [okr]) (Qb bd (by simp) ?_)
 have hat : ∀ k, k < L.length → (L.map nl).drop k = nl (L.getD k []) :: (L.map nl).drop (k + 1) := fun k hk => by
  rw [qF (by simpa using hk)]
  simp [qe, qg hk]
 have hml : (L.map nl).length = L.length := by simp
 simp only [nl] at hat
 simp (disch := omega) only [rq, simprocAttr, Xg, nls]
 refine Qg (ι := Nat) (fun k => ⟨[(11, .int .i64 k), (10, .int .i64 L.length), (9, .list L.length (L.map nl)), (3, .int .i64 (L.take k).flatten.length), (0, .list L.length (L.map nl))], []⟩) (fun k => k ≤ L.length) (fun k => L.length - k) 0 (Qh) (by omega) ?_
 intro k hk
 by_cases hlt : k < L.length
 ·have ha := hat k hlt
  have hf := QkM hlt
  have hle := Qtb L (k + 1)
  rw [hf, qx] at hle
  have hl : ((L.take (k + 1)).flatten.length : Int) = (L.take k).flatten.length + (L.getD k []).length := by rw [hf]; simp
  generalize (L.take k).flatten.length = s at *
  generalize L.getD k [] = x at *
  simp (disch := omega) only [rq, simprocAttr, ha, hml]
  exact ⟨k + 1, by omega, by omega, by simp only [hl]; exact Qh⟩
 obtain rfl : k = L.length := by omega
 rw [qW]
 have hG' := fun K hK => hG [] L.flatten.length true K h0 h1 hK
 simp (disch := omega) only [rq, simprocAttr]
 refine hG' _ ?_
 simp (disch := omega) only [rq, simprocAttr]
 refine Qg (ι := Nat) (fun k => ⟨[(27, .int .i64 k), (26, .int .i64 L.length), (25, .list L.length (L.map nl)), (6, .own 0 (L.take k).flatten.length)], [⟨t0, 1, (L.take k).flatten.length, ks .i64 (L.take k).flatten, 0⟩]⟩) (fun k => k ≤ L.length) (fun k => L.length - k) 0 (Qk (by simp [Am.look, ks])) (by omega) ?_
 intro k hk
 by_cases hlt : k < L.length
 ·have ha := hat k hlt
  have hf := QkM hlt
  have hle := Qtb L (k + 1)
  rw [hf, qx] at hle
  have hl : (L.take (k + 1)).flatten.length = (L.take k).flatten.length + (L.getD k []).length := by rw [hf]; simp
  have hu : ks .i64 (L.take (k + 1)).flatten = ks .i64 (L.take k).flatten ++ ks .i64 (L.getD k []) := by rw [hf]; simp [ks]
  have hc : (ks .i64 (L.take k).flatten).length = (L.take k).flatten.length := Qd _ _
  have hx : (ks .i64 (L.getD k [])).length = (L.getD k []).length := Qd _ _
  generalize ks .i64 (L.take k).flatten = cs at *
  generalize (L.take k).flatten.length = s at *
  generalize ks .i64 (L.getD k []) = us at *
  generalize (L.getD k []).length = xl at *
  simp (disch := omega) only [rq, simprocAttr, ha, hml, hc, hx]
  exact ⟨k + 1, by omega, by omega, by rw [hl, hu]; exact Qh⟩
 obtain rfl : k = L.length := by omega
 rw [qW]
 simp (disch := omega) only [rq, simprocAttr]
 exact ⟨0, rfl, rfl⟩
def Qva (P : Prg) (f : Nat) : Prop := ∀ x y : Nat, x ≤ 65535 → y ≤ 65535 → VC P f [.int .u64 x, .int .u64 y] (.tup [.int .u64 0, .int .u64 ((x * y : Nat) : Int)])
theorem Qux {P : Prg} {f : Nat} (bd : Qf P f 51 [.tmp 4, .tmp 5] Qaf) : Qva P f := by
 intro x y hx hy
 refine Qn rfl rfl bd ?_
 have hxy : x * y ≤ 65535 * 65535 := jM hx hy
 have hm : (x : Int) * (y : Int) = ((x * y : Nat) : Int) := by simp
 have an : ∀ a : Nat, a ≤ 4294967295 → IntKind.u64.wrap (BitVec.ofInt IntKind.u64.bits (a : Int) &&& BitVec.ofInt IntKind.u64.bits 4294967295).toNat = (a : Int) := by
  intro a ha
  have := QrW a 4294967295 (by omega) (by decide)
  rw [show (4294967295 : Nat) = 2 ^ 32 - 1 from rfl, ja, qv (by omega)] at this
  exact this
 have sh : ∀ a : Nat, a ≤ 4294967295 → Qu false .u64 (a : Int) 32 = some (.int .u64 0) := by
  intro a ha
  have := Qnp (K := .u64) (n := a) (k := 32) (by decide)
  rw [yK (by omega)] at this
  exact this
 have a1 := an x (by omega)
 have a2 := an y (by omega)
 have a3 : IntKind.u64.wrap (BitVec.ofInt IntKind.u64.bits 0 &&& BitVec.ofInt IntKind.u64.bits 4294967295).toNat = 0 := by decide
 have s1 := sh x (by omega)
 have s2 := sh y (by omega)
 have s3 := sh (x * y) (by omega)
 have s4 : Qu false .u64 0 32 = some (.int .u64 0) := sh 0 (by omega)
 generalize x * y = z at *
 simp (disch := omega) only [rq, simprocAttr, Qaf, a1, a2, a3, s1, s2, s3, s4, hm, Int.zero_mul, Int.mul_zero, Yf, Int.zero_add]
theorem Qy4 {P : Prg} {f f32 f64 : Nat} (bd : Qf P f 30 [.tmp 4, .tmp 5] (QaZ f32 f64)) (h64 : Qva P f64) : Qva P f := by
 intro x y hx hy
 refine Qn rfl rfl bd ?_
 have h := h64 x y hx hy
 generalize x * y = z at *
 simp (disch := omega) only [rq, simprocAttr, QaZ]
 refine Qa h ?_
 simp (disch := omega) only [rq, simprocAttr]
def rpL (v : Int) (m c : Nat) : List Int := List.replicate m v ++ List.replicate (c - m) 0
theorem QB9 {v : Int} {m c : Nat} (h : m ≤ c) : (rpL v m c).length = c := by simp [rpL]; omega
def Qjh (t : Nat) (P : Prg) (f : Nat) : Prop := ∀ (v : Int) (c : Nat), c ≤ 1000 → VO P f [nl [v], .int .i64 c] (.own 0 c) ⟨t, 1, c, ks .i64 (List.replicate c v), 0⟩
theorem QjX {P : Prg} {f fM t0 : Nat} (bd : Qf P f 48 [.tmp 4] (Xf fM t0)) (hM : Qva P fM) : Qjh t0 P f := by
 intro v c hc
 refine VO.of_walk (by simp [isDL, Qw3, isD]) (ZA _ _) (by simp [okr]) (Qb bd (by simp) ?_)
 have hM' := hM 1 c (by omega) (by omega)
 rw [yS] at hM'
 have hM2 : VC P fM [.int .u64 1, .int .u64 c] (.tup [.int .u64 0, .int .u64 c]) := hM'
 have e1 : nl [v] = .list 1 [.int .i64 v] := rfl
 have er : Qs [.int .i64 0] c = ks .i64 (List.replicate c 0) := QkA .i64 c
 have hl : (ks .i64 (List.replicate c 0)).length = c := by simp [Qd]
 rw [e1]
 simp (disch := omega) only [rq, simprocAttr, Xf]
 refine Qa hM2 ?_
 by_cases h0 : c = 0
 ·subst h0
  simp (disch := omega) only [rq, simprocAttr, er]
  refine Qg (ι := Nat) (fun _ => ⟨[(8, .int .i64 0), (7, .own 0 0)], [⟨t0, 1, 0, [], 0⟩]⟩) (fun _ => True) (fun _ => 0) 0 (Qk (by simp [Am.look, ks])) trivial ?_
  intro _ _
  simp (disch := omega) only [rq, simprocAttr]
  exact ⟨0, rfl, rfl⟩
 ·have hmn : Nat.min 1 c = 1 := qA (by omega)
  have hst : (1 : Int) < (c : Int) ∨ c = 1 := by omega
  simp (disch := omega) only [rq, simprocAttr, er, hl, hmn]
  refine Qg (ι := Nat) (fun m => ⟨[(8, .int .i64 m), (7, .own 0 c)], [⟨t0, 1, c, ks .i64 (rpL v m c), 0⟩]⟩) (fun m => 1 ≤ m ∧ m ≤ c) (fun m => c - m) 1 ?_ (by omega) ?_
  ·have : [AV.int .i64 v] ++ (ks .i64 (List.replicate c 0)).drop 1 = ks .i64 (rpL v 1 c) := by simp [rpL, ks]
   rw [← this]
   exact Qh
  intro m hm
  obtain ⟨hm1, hm2⟩ := hm
  have hkl : (ks .i64 (rpL v m c)).length = c := by rw [Qd, QB9 hm2]
  by_cases hlt : m < c
  ·obtain ⟨q, hq⟩ : ∃ q, q = Nat.min m (c - m) := ⟨_, rfl⟩
   have hq1 : q ≤ m := by rw [hq]; exact Yz _ _
   have hq2 : q ≤ c - m := by rw [hq]; exact Yx _ _
   have hq3 : 1 ≤ q := by rw [hq]; exact Nat.le_min.2 ⟨hm1, by omega⟩
   have hmc : min m c = m := qA hm2
   have hal : ((ks .i64 (rpL v m c)).take m).all AV.one = true := by
    rw [ya]
    intro x hx
    exact ya.1 (Z4 .i64 (rpL v m c)) x (qM hx)
   have e1 : (rpL v m c).take m = List.replicate m v := by unfold rpL; rw [jF (by simp)]
   have e2 : (rpL v m c).drop (m + q) = List.replicate (c - (m + q)) 0 := by
    unfold rpL
    rw [j7, jO (by simp), yR, List.drop_replicate, yT]
    congr 1
    omega
   have hcs : (ks .i64 (rpL v m c)).take m ++ (((ks .i64 (rpL v m c)).take m).take q ++ (ks .i64 (rpL v m c)).drop (m + q)) = ks .i64 (rpL v (m + q) c) := by
    have k1 : ∀ l n, (ks .i64 l).take n = ks .i64 (l.take n) := fun l n => by simp [ks, yW]
    have k2 : ∀ l n, (ks .i64 l).drop n = ks .i64 (l.drop n) := fun l n => by simp [ks, ji]
    have k3 : ∀ a b, ks .i64 a ++ ks .i64 b = ks .i64 (a ++ b) := fun a b => by simp [ks]
    rw [k1, e1, k1, k2, e2, List.take_replicate, qA hq1, k3, k3, ← qy, List.replicate_append_replicate]
    rfl
   have hcs2 : (ks .i64 (rpL v m c)).take m ++ ((ks .i64 (rpL v m c)).take m).take q ++ (ks .i64 (rpL v m c)).drop (m + q) = ks .i64 (rpL v (m + q) c) := by rw [qy]; exact hcs
   simp (disch := omega) only [rq, simprocAttr, hkl, h0, yn, hmc, hal, ← hq, jz, hcs2, hcs]
   refine ⟨m + q, ⟨by omega, by omega⟩, by omega, ?_⟩
   exact Qh
  ·obtain rfl : m = c := by omega
   have : rpL v m m = List.replicate m v := by simp [rpL]
   rw [this]
   simp (disch := omega) only [rq, simprocAttr]
   exact ⟨0, rfl, rfl⟩
def Qx6 (t : Nat) (P : Prg) (f : Nat) : Prop := ∀ a b : List Int, 0 < a.length + b.length → a.length + b.length ≤ 1000000 → VO P f [nl a, nl b] (.own 0 (a.length + b.length)) ⟨t, 1, a.length + b.length, ks .i64 (a ++ b), 0⟩
theorem Qj0 {P : Prg} {f fC t0 t1 : Nat} (bd : Qf P f 9 [.tmp 4] (QaF fC t1)) (hC : Qjr t0 P fC) : Qx6 t0 P f := by
 intro a b h0 h1
 refine VO.of_walk (by simp [isDL, Qw3]) (ZA _ _) (by simp [okr]) (Qb bd (by simp) ?_)
 have hC' := hC [a, b] (by simp) (by simpa using h0) (by simpa using h1)
 have e1 : nls [a, b] = .list 2 [nl a, nl b] := rfl
 have e2 : [a, b].flatten = a ++ b := by simp
 rw [e1, e2, qx] at hC'
 have ta := Qq .i64 a
 have tb := Qq .i64 b
 simp only [nl] at hC' ⊢
 simp (disch := omega) only [rq, simprocAttr, QaF]
 refine QcF.vo_still 1 [0] hC' (by simp [QI, Qz, frzL, Qv, frzL_T _ ta, frzL_T _ tb]) ?_
 simp (disch := omega) only [rq, simprocAttr, QG, shr]
 exact ⟨1, rfl, rfl⟩
def okA (r n : Int) : Prop := 1 ≤ r ∧ r ≤ 1048576 ∧ 1 ≤ n ∧ n ≤ 4000 ∧ (QaC (ZI r).toNat n.toNat).length ≤ 1000
def Qx7 (t : Nat) (P : Prg) (f : Nat) : Prop := ∀ r n : Int, okA r n → VO P f [.int .i64 r, .int .i64 n] (.tup [.own 0 (QaC (ZI r).toNat n.toNat).length, .int .i64 0]) ⟨t, 1, (QaC (ZI r).toNat n.toNat).length, ks .i64 (QaC (ZI r).toNat n.toNat), 0⟩
theorem Qq8 {P : Prg} {f fC fL fR fB t0 : Nat} (bd : Qf P f 39 [.tmp 4, .tmp 5] (Qb1 fC fL fR fB t0)) (hC : Qgz P fC) (hL : Qid P fL) (hR : Qjh t0 P fR) (hB : Qx6 t0 P fB) : Qx7 t0 P f := by
 intro r n ⟨a1, a2, a3, a4, a5⟩
 refine VO.of_walk rfl (ZA _ _) (by simp [okr, flat]) (Qb bd (by simp) ?_)
 have hlong : 1 ≤ ZI r := by unfold ZI; split <;> omega
 obtain ⟨L, hLe⟩ : ∃ L : Nat, ZI r = L := ⟨(ZI r).toNat, by omega⟩
 obtain ⟨m, rfl⟩ : ∃ m : Nat, n = m := ⟨n.toNat, by omega⟩
 rw [hLe, qu, qu] at a5 ⊢
 rw [Qch] at a5
 obtain ⟨q, hq⟩ : ∃ q, q = (m - 1) / L := ⟨_, rfl⟩
 have hql : (QaC L m).length = q + 1 := by rw [Qch, hq]
 rw [← hq] at a5
 have hcd : ((m : Int) + (L : Int) - 1) / (L : Int) = ((q + 1 : Nat) : Int) := by
  have h1 : (m : Int) + (L : Int) - 1 = ((m - 1 + L : Nat) : Int) := by omega
  rw [h1, ← jp, Nat.add_div_right _ (by omega), ← hq]
 have hk : Qpq r m = .tup [.int .i64 ((q + 1 : Nat) : Int), .int .i64 0] := by
  rw [Qpq, qa (by omega), qa (by omega), hLe, hcd, qa (by omega)]
 have hC' := hC r m
 rw [hk] at hC'
 have hL' := hL r
 rw [QiP, qa (by omega), hLe] at hL'
 have hR' := hR L q (by omega)
 have hB' := hB (List.replicate q (L : Int)) [(m : Int) - ((q * L : Nat) : Int)] (by simp) (by simp; omega)
 have e1 : List.replicate q (L : Int) ++ [(m : Int) - ((q * L : Nat) : Int)] = QaC L m := by unfold QaC; rw [hq]
 rw [e1] at hB'
 have e2 : (List.replicate q (L : Int)).length + [(m : Int) - ((q * L : Nat) : Int)].length = q + 1 := by simp
 rw [e2] at hB'
 have e3 : nl [(L : Int)] = .list 1 [.int .i64 (L : Int)] := rfl
 have e4 : nl [(m : Int) - ((q * L : Nat) : Int)] = .list 1 [.int .i64 ((m : Int) - ((q * L : Nat) : Int))] := rfl
 rw [e3] at hR'
 rw [e4] at hB'
 have tr := Qq .i64 (List.replicate q (L : Int))
 have hqL : (q : Int) * (L : Int) = ((q * L : Nat) : Int) := by simp
 have hle : q * L ≤ m := by
  have := Nat.div_mul_le_self (m - 1) L
  rw [← hq] at this
  omega
 simp only [nl, yT] at hB'
 rw [hql]
 generalize ks .i64 (QaC L m) = LL at *
 generalize ks .i64 (List.replicate q (L : Int)) = RR at *
 generalize q * L = w at *
 simp only [yI, Int.cast_ofNat_Int] at hC'
 have hq1 : (q : Int) + 1 - 1 = (q : Int) := by omega
 simp (disch := omega) only [rq, simprocAttr, Qb1]
 refine Qa hC' ?_
 simp (disch := omega) only [rq, simprocAttr]
 refine Qa hL' ?_
 simp (disch := omega) only [rq, simprocAttr, hq1]
 refine QcF.vo_still 1 [0] hR' (by simp [QI, Qz, frzL, Qv]) ?_
 simp (disch := omega) only [rq, simprocAttr, QG, shr, hq1, hqL]
 refine QcF.vo_still 1 [1, 2] hB' (by simp [QI, Qz, frzL, Qv, frzL_T _ tr]) ?_
 simp (disch := omega) only [rq, simprocAttr, QG, shr]
 exact ⟨3, rfl, rfl⟩
def QpT (c : Nat) : Nat := (2 * c) % 18446744073709551616 ^^^ (if 9223372036854775808 ≤ c then 4823603603198064275 else 0)
def QfZ : Nat → Nat → Nat
 | 0, c => c
 | k + 1, c => QfZ k (QpT c)
theorem QqB (c : Nat) : QpT c < 18446744073709551616 := by
 unfold QpT
 have : (if 9223372036854775808 ≤ c then 4823603603198064275 else 0) < 2 ^ 64 := by split <;> decide
 exact yr (n := 64) (qz _ (by decide)) this
theorem QlB : ∀ (k : Nat) {c : Nat}, c < 18446744073709551616 → QfZ k c < 18446744073709551616
 | 0, _, h => h
 | k + 1, c, _ => QlB k (QqB c)
theorem Qot : ∀ (k c : Nat), QfZ (k + 1) c = QpT (QfZ k c)
 | 0, _ => rfl
 | k + 1, c => by rw [QfZ, Qot k, QfZ]
theorem Qs9 (c : Nat) (h : c < 18446744073709551616) : (9223372036854775808 ≤ c) ↔ c.testBit 63 = true := by
 constructor
 ·intro h2
  rw [Nat.testBit_eq_decide_div_mod_eq]
  have : c / 2 ^ 63 = 1 := by omega
  rw [this]; rfl
 ·intro h2
  exact Nat.ge_two_pow_of_testBit h2
theorem Qsy {x l : Nat} (hx : x < 18446744073709551616) (hl : l < 9223372036854775808) : QpT (x ^^^ l) = QpT x ^^^ 2 * l := by
 have hxl : x ^^^ l < 18446744073709551616 := yr (n := 64) hx (by omega)
 have e1 : (9223372036854775808 ≤ x ^^^ l) ↔ (9223372036854775808 ≤ x) := by
  rw [Qs9 _ hxl, Qs9 _ hx, y9, Nat.testBit_lt_two_pow (show l < 2 ^ 63 from hl), Bool.xor_false]
 have e2 : (2 * (x ^^^ l)) % 18446744073709551616 = (2 * x) % 18446744073709551616 ^^^ 2 * l := by
  apply jf
  intro i
  rw [show (18446744073709551616 : Nat) = 2 ^ 64 from rfl, yC, y9, yC]
  rw [show 2 * (x ^^^ l) = 2 ^ 1 * (x ^^^ l) from rfl, show 2 * x = 2 ^ 1 * x from rfl, show 2 * l = 2 ^ 1 * l from rfl, qH, qH, qH, y9]
  by_cases h : i < 64
  ·by_cases h1 : 1 ≤ i <;> simp [h, h1]
  ·have h2 : l.testBit (i - 1) = false := Nat.testBit_lt_two_pow (yy (show l < 2 ^ 63 from hl) (qq (by decide) (by omega)))
   simp [h, h2]
 unfold QpT
 rw [e2]
 by_cases h : 9223372036854775808 ≤ x
 ·rw [qc h, qc (e1.2 h), y3, y3, jG (2 * l)]
 ·rw [qa h, qa (fun h2 => h (e1.1 h2)), y3, y3, jG (2 * l)]
theorem Qsz : ∀ (k : Nat) {x l : Nat}, k ≤ 64 → x < 18446744073709551616 → l < 2 ^ (64 - k) → QfZ k (x ^^^ l) = QfZ k x ^^^ 2 ^ k * l
 | 0, x, l, _, _, _ => by simp [QfZ]
 | k + 1, x, l, hk, hx, hl => by
  have h1 : l < 9223372036854775808 := yy hl (qq (by omega) (by omega : 64 - (k + 1) ≤ 63))
  have h2 : 2 * l < 2 ^ (64 - k) := by
   rw [show 64 - k = (64 - (k + 1)) + 1 by omega, yc]; omega
  rw [QfZ, Qsy hx h1, Qsz k (by omega) (QqB x) h2, QfZ, yc, jw]
def QyG (s b : Nat) : Nat := QfZ 8 (s ^^^ b * 72057594037927936)
theorem QAo {s b : Nat} (hs : s < 18446744073709551616) : s ^^^ b * 72057594037927936 = (s / 72057594037927936 ^^^ b) * 72057594037927936 ^^^ s % 72057594037927936 := by
 have h := Qie s 56
 rw [show (2 : Nat) ^ 56 = 72057594037927936 from rfl] at h
 have e : (s / 72057594037927936 ^^^ b) * 72057594037927936 = s / 72057594037927936 * 72057594037927936 ^^^ b * 72057594037927936 := by
  apply jf
  intro i
  rw [y9, show (72057594037927936 : Nat) = 2 ^ 56 from rfl, qE _ (2 ^ 56), qE _ (2 ^ 56), qE b, qH, qH, qH, y9]
  by_cases h : 56 ≤ i <;> simp [h]
 rw [e, jG (s / 72057594037927936 * 72057594037927936), y3, qE (s / 72057594037927936), jG (72057594037927936 * _), ← h, jG]
theorem QtP {s b : Nat} (hs : s < 18446744073709551616) (hb : b < 256) : QyG s b = s * 256 % 18446744073709551616 ^^^ QfZ 8 ((s / 72057594037927936 ^^^ b) * 72057594037927936) := by
 have h0 : (s / 72057594037927936 ^^^ b) < 2 ^ 8 := yr (by omega) hb
 rw [QyG, QAo hs, Qsz 8 (by omega) (by omega) (by show s % 72057594037927936 < 2 ^ 56; exact qz _ (by decide)), jG]
 congr 1
 omega
theorem QAD {s b : Nat} (hs : s < 18446744073709551616) (hb : b < 256) : QyG s b < 18446744073709551616 := QlB 8 (yr (n := 64) hs (by omega))
def XT (s : Nat) (l : List UInt8) : Nat := l.foldl (fun s b => QyG s b.toNat) s
theorem Qou {s : Nat} {l : List UInt8} {k : Nat} (h : k < l.length) : XT s (l.take (k + 1)) = QyG (XT s (l.take k)) (l[k]).toNat := by
 rw [qm h, XT, jX]; rfl
theorem QeT : ∀ {l : List UInt8} {s : Nat}, s < 18446744073709551616 → XT s l < 18446744073709551616
 | [], _, h => h
 | b :: l, s, h => QeT (l := l) (QAD h (UInt8.toNat_lt b))
def Qv2 (s b : Nat) : Nat → Nat
 | 0 => s
 | k + 1 => QpT (Qv2 s b k ^^^ (b / 2 ^ (7 - k) % 2) * 9223372036854775808)
theorem Qv1 {s b : Nat} (hs : s < 18446744073709551616) : ∀ k, Qv2 s b k < 18446744073709551616
 | 0 => hs
 | k + 1 => QqB _
theorem QsD {s b : Nat} (hs : s < 18446744073709551616) (hb : b < 256) : ∀ k, k ≤ 8 → QfZ (8 - k) (Qv2 s b k ^^^ b % 2 ^ (8 - k) * 2 ^ (56 + k)) = QyG s b
 | 0, _ => by
  rw [Qv2, QyG]
  show QfZ 8 (s ^^^ b % 256 * 72057594037927936) = _
  rw [qv hb]
 | k + 1, h => by
  have ih := QsD hs hb k (by omega)
  have e1 : 8 - k = (8 - (k + 1)) + 1 := by omega
  have e2 : 8 - (k + 1) = 7 - k := by omega
  have hm := qz b (show 0 < 2 ^ (7 - k) by exact qR (by decide))
  have e3 : b % 2 ^ (8 - k) * 2 ^ (56 + k) = (b / 2 ^ (7 - k) % 2) * 9223372036854775808 ^^^ b % 2 ^ (7 - k) * 2 ^ (56 + k) := by
   apply jf
   intro i
   rw [y9, show (9223372036854775808 : Nat) = 2 ^ 63 from rfl, qE _ (2 ^ (56 + k)), qE _ (2 ^ 63), qE (b % 2 ^ (7 - k)), qH, qH, qH, yC, yC,
    show b / 2 ^ (7 - k) % 2 = b / 2 ^ (7 - k) % 2 ^ 1 from rfl, yC, Nat.testBit_div_two_pow]
   by_cases h1 : 56 + k ≤ i
   ·by_cases h2 : i = 63
    ·subst h2
     have h3 : ¬ (63 - (56 + k) < 7 - k) := by omega
     have h4 : 63 - (56 + k) < 8 - k := by omega
     simp [h1, show 63 - (56 + k) = 7 - k by omega, show 7 - k < 8 - k by omega]
    ·by_cases h3 : 63 ≤ i
     ·have h4 : ¬ (i - (56 + k) < 8 - k) := by omega
      have h5 : ¬ (i - 63 < 1) := by omega
      have h6 : ¬ (i - (56 + k) < 7 - k) := by omega
      simp [h1, h3, h4, h5, h6]
     ·have h4 : i - (56 + k) < 8 - k := by omega
      have h6 : i - (56 + k) < 7 - k := by omega
      simp [h1, h3, h4, h6]
   ·have h3 : ¬ 63 ≤ i := by omega
    simp [h1, h3]
  have hlt : b % 2 ^ (7 - k) * 2 ^ (56 + k) < 9223372036854775808 := by
   have h1 : b % 2 ^ (7 - k) * 2 ^ (56 + k) < 2 ^ (7 - k) * 2 ^ (56 + k) := Nat.mul_lt_mul_of_pos_right hm (qR (by decide))
   rw [← qZ, show 7 - k + (56 + k) = 63 by omega] at h1
   exact h1
  have hbit : (b / 2 ^ (7 - k) % 2) * 9223372036854775808 < 18446744073709551616 := by
   have := qz (b / 2 ^ (7 - k)) (show 0 < 2 by decide)
   omega
  rw [e3, e1, QfZ, ← y3, Qsy (yr (n := 64) (Qv1 hs k) hbit) hlt] at ih
  rw [← ih]
  show QfZ (8 - (k + 1)) (QpT _ ^^^ _) = _
  rw [e2, show 2 ^ (56 + (k + 1)) = 2 ^ (56 + k) * 2 by rw [← js, yc]]
  congr 2
  rw [← jw, qE]
theorem QB5 {s b : Nat} (hs : s < 18446744073709551616) (hb : b < 256) : Qv2 s b 8 = QyG s b := by
 have h := QsD hs hb 8 (by omega)
 rw [jy, jR, Yb, Yt, Yc, QfZ] at h
 exact h
def Qnn (i : Nat) : List Int := (List.range 256).map fun j => if j < i then ((QfZ 8 (j * 72057594037927936) : Nat) : Int) else 0
theorem JL (i : Nat) : (Qnn i).length = 256 := by simp [Qnn]
theorem QhX {i j : Nat} (h : j < 256) : (Qnn i)[j]'(by rw [JL]; exact h) = if j < i then ((QfZ 8 (j * 72057594037927936) : Nat) : Int) else 0 := by simp [Qnn]
theorem Qyu {i : Nat} (h : i < 256) : (Qnn i).set i ((QfZ 8 (i * 72057594037927936) : Nat) : Int) = Qnn (i + 1) := by
 refine yL (by simp [JL]) fun j h1 h2 => ?_
 have hj : j < 256 := by simpa [JL] using h2
 rw [jI, QhX hj]
 split
 ·rename_i e; subst e; rw [QhX hj, qc (by omega)]
 ·rename_i e; rw [QhX hj]
  by_cases h3 : j < i
  ·rw [qc h3, qc (by omega)]
  ·rw [qa h3, qa (by omega)]
theorem QAH (c : Nat) : Qu true .u64 (c : Int) 1 = some (.int .u64 (((2 * c) % 18446744073709551616 : Nat) : Int)) := by
 have h3 : ¬ ((1 : Int) < 0) := by omega
 simp only [Qu, qa h3, yf]
 have h5 : (min (1 : Int).toNat IntKind.u64.bits) = 1 := rfl
 rw [h5, ZS]
 congr 2
 omega
theorem Qv4 (c : Nat) : Qu true .u64 (c : Int) 8 = some (.int .u64 ((c * 256 % 18446744073709551616 : Nat) : Int)) := by
 have h3 : ¬ ((8 : Int) < 0) := by omega
 simp only [Qu, qa h3, yf]
 have h5 : (min (8 : Int).toNat IntKind.u64.bits) = 8 := rfl
 rw [h5, ZS]
 congr 2
def QmP (P : Prg) (f : Nat) : Prop := VC P f [] (.cell (ks .u64 (Qnn 256)))
set_option maxRecDepth 40000 in
theorem Qrw {P : Prg} {f t0 : Nat} (bd : Qf P f 25 [.tmp 0] (Qb4 t0)) : QmP P f := by
 refine Qi 1 rfl (by simp [isD, Qz4 (Qq _ _)]) (Qb bd (by simp) ?_)
 unfold Qb4
 simp (disch := omega) only [rq, simprocAttr]
 refine Qg (ι := Nat) (fun i => ⟨[(5, .int .i64 i), (1, .ref 0 1 0)], [⟨t0, 256, 1, ks .u64 (Qnn i), 0⟩]⟩) (fun i => i ≤ 256) (fun i => 256 - i) 0 (Qh) (by omega) ?_
 intro i hi
 by_cases hlt : i < 256
 ·have s0 : Qu true .u64 (i : Int) 56 = some (.int .u64 ((i * 72057594037927936 : Nat) : Int)) := by
   have := QyK (K := .u64) rfl (c := i) (s := 56) (by decide) (by show i * 2 ^ 56 < 2 ^ 64; omega)
   exact this
  have w0 : IntKind.u64.wrap (i : Int) = i := Qa5 (by omega) (by omega)
  simp (disch := omega) only [rq, simprocAttr, s0, w0]
  refine Qg (ι := Nat) (fun j => ⟨[(11, .int .i64 j), (3, .int .u64 (QfZ j (i * 72057594037927936))), (5, .int .i64 i), (2, .int .i64 i), (1, .ref 0 1 0)], [⟨t0, 256, 1, ks .u64 (Qnn i), 0⟩]⟩) (fun j => j ≤ 8) (fun j => 8 - j) 0 (Qk (by simp [Am.look, QfZ])) (by omega) ?_
  intro j hj
  by_cases hjl : j < 8
  ·have hc := QlB j (c := i * 72057594037927936) (by omega)
   have hn := Qot j (i * 72057594037927936)
   generalize QfZ j (i * 72057594037927936) = c at *
   have a1 := QAH c
   have a2 : Qu false .u64 (c : Int) 63 = some (.int .u64 ((c / 9223372036854775808 : Nat) : Int)) := Qnp (K := .u64) (n := c) (k := 63) (by decide)
   have hm := qz (2 * c) (show 0 < 18446744073709551616 by decide)
   by_cases h2 : 9223372036854775808 ≤ c
   ·have a3 : IntKind.u64.wrap (BitVec.ofInt IntKind.u64.bits ((2 * c % 18446744073709551616 : Nat) : Int) ^^^ BitVec.ofInt IntKind.u64.bits 4823603603198064275).toNat = ((QfZ (j + 1) (i * 72057594037927936) : Nat) : Int) := by
     rw [hn, QpT, qc h2]
     exact Qvc (K := .u64) rfl (a := 2 * c % 18446744073709551616) (b := 4823603603198064275) hm (by decide)
    have a4 : c / 9223372036854775808 = 1 := by omega
    rw [a4] at a2
    generalize 2 * c % 18446744073709551616 = d at *
    simp (disch := omega) only [rq, simprocAttr, a1, a2, a3]
    exact ⟨j + 1, by omega, by omega, Qh⟩
   ·have a3 : IntKind.u64.wrap (BitVec.ofInt IntKind.u64.bits ((2 * c % 18446744073709551616 : Nat) : Int) ^^^ BitVec.ofInt IntKind.u64.bits 0).toNat = ((QfZ (j + 1) (i * 72057594037927936) : Nat) : Int) := by
     rw [hn, QpT, qa h2]
     exact Qvc (K := .u64) rfl (a := 2 * c % 18446744073709551616) (b := 0) hm (by decide)
    have a4 : c / 9223372036854775808 = 0 := by omega
    rw [a4] at a2
    generalize 2 * c % 18446744073709551616 = d at *
    simp (disch := omega) only [rq, simprocAttr, a1, a2, a3]
    exact ⟨j + 1, by omega, by omega, Qh⟩
  ·obtain rfl : j = 8 := by omega
   have e1 := JL i
   have e2 := Qd .u64 (Qnn i)
   have e3 : (ks .u64 (Qnn i)).take i ++ [.int .u64 (QfZ 8 (i * 72057594037927936))] ++ (ks .u64 (Qnn i)).drop (i + 1) = ks .u64 (Qnn (i + 1)) := by
    rw [← Qyu hlt, ye, qc (by rw [JL]; exact hlt)]; simp [ks, yW, ji]
   simp (disch := omega) only [rq, simprocAttr, e1, e2, e3]
   exact ⟨i + 1, by omega, by omega, Qh⟩
 ·obtain rfl : i = 256 := by omega
  simp (disch := omega) only [rq, simprocAttr]
  simp [QI, Qz, frzL, Qv, frzL_T _ (Qq _ _)]
def Qjt (P : Prg) (f : Nat) : Prop := ∀ (s : Nat) (l : List UInt8), s < 18446744073709551616 → l.length ≤ 1000000 → VC P f [.cell (ks .u64 (Qnn 256)), .int .u64 s, bs l] (.int .u64 (XT s l : Nat))
set_option maxRecDepth 40000 in
theorem Qpp {P : Prg} {f : Nat} (bd : Qf P f 29 [.tmp 6] Qbr) : Qjt P f := by
 intro s l hs hl
 refine Qn (by simp [isDL, isD, Qr, ZA]) rfl bd ?_
 have t0 := Qd .u64 (Qnn 256)
 rw [JL] at t0
 simp (disch := omega) only [rq, simprocAttr, Qbr, bs]
 refine Qg (ι := Nat) (fun k => ⟨[(11, .int .i64 k), (10, .int .i64 l.length), (9, .list l.length (u8 l)), (0, .cell (ks .u64 (Qnn 256))), (1, .int .u64 (XT s (l.take k)))], []⟩) (fun k => k ≤ l.length) (fun k => l.length - k) 0 (Qk (by simp [Am.look, XT])) (by omega) ?_
 intro k hk
 have hc := QeT (l := l.take k) hs
 by_cases hlt : k < l.length
 ·have e1 := QbD hlt
  have hn := Qou (s := s) hlt
  generalize XT s (l.take k) = c at *
  have hb := (l[k]).toNat_lt
  rw [QtP hc hb] at hn
  have h0 : (c / 72057594037927936 ^^^ (l[k]).toNat) < 256 := yr (n := 8) (by omega) hb
  have h1 := QlB 8 (c := (c / 72057594037927936 ^^^ (l[k]).toNat) * 72057594037927936) (by omega)
  have a1 : Qu false .u64 (c : Int) 56 = some (.int .u64 ((c / 72057594037927936 : Nat) : Int)) := Qnp (K := .u64) (n := c) (k := 56) (by decide)
  have a0 := Qv4 c
  have a2 : IntKind.u8.wrap ((c / 72057594037927936 : Nat) : Int) = ((c / 72057594037927936 : Nat) : Int) := by rw [Zn]; omega
  have a3 : IntKind.u8.wrap (BitVec.ofInt IntKind.u8.bits ((c / 72057594037927936 : Nat) : Int) ^^^ BitVec.ofInt IntKind.u8.bits ((l[k]).toNat : Int)).toNat = ((c / 72057594037927936 ^^^ (l[k]).toNat : Nat) : Int) :=
   Qvc (K := .u8) rfl (a := c / 72057594037927936) (b := (l[k]).toNat) (by show c / 72057594037927936 < 256; omega) hb
  have hm := qz (c * 256) (show 0 < 18446744073709551616 by decide)
  have a4 : IntKind.u64.wrap (BitVec.ofInt IntKind.u64.bits ((c * 256 % 18446744073709551616 : Nat) : Int) ^^^ BitVec.ofInt IntKind.u64.bits ((QfZ 8 ((c / 72057594037927936 ^^^ (l[k]).toNat) * 72057594037927936) : Nat) : Int)).toNat = ((XT s (l.take (k + 1)) : Nat) : Int) := by
   rw [hn]; exact Qvc (K := .u64) rfl hm h1
  generalize c * 256 % 18446744073709551616 = d at *
  generalize c / 72057594037927936 ^^^ (l[k]).toNat = x at *
  have e2 : (ks .u64 (Qnn 256)).drop x = .int .u64 ((QfZ 8 (x * 72057594037927936) : Nat) : Int) :: ks .u64 ((Qnn 256).drop (x + 1)) := by
   rw [QaW, qF (by rw [JL]; exact h0), Qdr, QhX h0, qc h0]
  generalize c / 72057594037927936 = q at *
  simp (disch := omega) only [rq, simprocAttr, e1, a0, a1, a2, a3, a4, e2, t0]
  exact ⟨k + 1, by omega, by omega, Qh⟩
 ·have ek : k = l.length := by omega
  subst ek
  rw [qW]
  simp (disch := omega) only [rq, simprocAttr]
def Qhe (P : Prg) (f : Nat) : Prop := ∀ (s : Nat) (l : List UInt8), s < 18446744073709551616 → VC P f [.int .u64 s, bs l] (if 100000 < l.length then .tup [.int .u64 0, .int .i64 4] else .tup [.int .u64 (XT s l), .int .i64 0])
theorem QuM {P : Prg} {f fT fB : Nat} (bd : Qf P f 13 [.tmp 4, .tmp 5] (Qbb fT fB)) (hT : QmP P fT) (hB : Qjt P fB) : Qhe P f := by
 intro s l hs
 refine Qn (by simp [isDL, isD, Qr]) (by split <;> rfl) bd ?_
 by_cases hl : 100000 < l.length
 ·rw [qc hl]
  simp (disch := omega) only [rq, simprocAttr, Qbb, bs]
 ·rw [qa hl]
  have hB' := hB s l hs (by omega)
  rw [bs] at hB'
  have hT' : VC P fT [] _ := hT
  simp (disch := omega) only [rq, simprocAttr, Qbb, bs]
  iterate 2 (refine Qa (by assumption) ?_; simp (disch := omega) only [rq, simprocAttr])
def Qje (P : Prg) (f : Nat) : Prop := ∀ (l : List UInt8), VC P f [bs l] (if 100000 < l.length then .tup [.int .u64 0, .int .i64 4] else .tup [.int .u64 (XT 0 l), .int .i64 0])
theorem Qxm {P : Prg} {f fN : Nat} (bd : Qf P f 8 [.tmp 2, .tmp 3] (QbN fN)) (hN : Qhe P fN) : Qje P f := by
 intro l
 refine Qn (by simp [isDL, isD, Qr]) (by split <;> rfl) bd ?_
 have hN' := hN 0 l (by decide)
 rw [bs] at hN'
 by_cases hl : 100000 < l.length
 ·rw [qc hl] at hN' ⊢
  simp (disch := omega) only [rq, simprocAttr, QbN, bs]
  refine Qa hN' ?_
  simp (disch := omega) only [rq, simprocAttr]
 ·rw [qa hl] at hN' ⊢
  simp (disch := omega) only [rq, simprocAttr, QbN, bs]
  refine Qa hN' ?_
  simp (disch := omega) only [rq, simprocAttr]
theorem QyE {s b : Nat} (hs : s < 18446744073709551616) (hb : b < 2) : QpT (s ^^^ b * 9223372036854775808) = (2 * s) % 18446744073709551616 ^^^ (if (9223372036854775808 ≤ s ↔ b = 0) then 4823603603198064275 else 0) := by
 rcases (by omega : b = 0 ∨ b = 1) with rfl | rfl
 ·simp [QpT]
 ·have hx : s ^^^ 9223372036854775808 < 18446744073709551616 := yr (n := 64) hs (by decide)
  have e1 : (9223372036854775808 ≤ s ^^^ 9223372036854775808) ↔ ¬ (9223372036854775808 ≤ s) := by
   rw [Qs9 _ hx, Qs9 _ hs, y9, show (9223372036854775808 : Nat) = 2 ^ 63 from rfl, Nat.testBit_two_pow_self]
   simp
  have e2 : 2 * (s ^^^ 9223372036854775808) % 18446744073709551616 = 2 * s % 18446744073709551616 := by
   apply jf
   intro i
   rw [show (18446744073709551616 : Nat) = 2 ^ 64 from rfl, yC, yC, show 2 * (s ^^^ 9223372036854775808) = 2 ^ 1 * (s ^^^ 9223372036854775808) from rfl, show 2 * s = 2 ^ 1 * s from rfl, qH, qH, y9,
    show (9223372036854775808 : Nat) = 2 ^ 63 from rfl, Nat.testBit_two_pow]
   by_cases h : i < 64
   ·have h1 : ¬ (63 = i - 1) := by omega
    simp [h, h1]
   ·simp [h]
  rw [yS, QpT, e2]
  by_cases h : 9223372036854775808 ≤ s
  ·rw [qa (fun h2 => (e1.1 h2) h), qa (by simp [h])]
  ·rw [qc (e1.2 h), qc (by simp [h])]
def Qr6 (P : Prg) (f : Nat) : Prop := ∀ s b : Nat, s < 18446744073709551616 → b < 2 → VC P f [.int .u64 s, .int .i64 b] (.int .u64 (QpT (s ^^^ b * 9223372036854775808) : Nat))
theorem Qup {P : Prg} {f : Nat} (bd : Qf P f 18 [.tmp 4] Zk) : Qr6 P f := by
 intro s b hs hb
 refine Qn rfl rfl bd ?_
 rw [QyE hs hb]
 have hm := qz (2 * s) (show 0 < 18446744073709551616 by decide)
 have e1 : IntKind.u64.wrap (BitVec.ofInt IntKind.u64.bits ((2 * s % 18446744073709551616 : Nat) : Int) ^^^ BitVec.ofInt IntKind.u64.bits 4823603603198064275).toNat = ((2 * s % 18446744073709551616 ^^^ 4823603603198064275 : Nat) : Int) :=
  Qvc (K := .u64) rfl hm (by decide)
 have e2 : IntKind.u64.wrap ((s : Int) * 2) = ((2 * s % 18446744073709551616 : Nat) : Int) := by rw [ZS]; omega
 generalize 2 * s % 18446744073709551616 = d at *
 by_cases h : 9223372036854775808 ≤ s <;> rcases (by omega : b = 0 ∨ b = 1) with rfl | rfl
 ·rw [qc (by simp [h])]
  simp (disch := omega) only [rq, simprocAttr, Zk, e1, e2]
 ·rw [qa (by simp [h]), Yc]
  simp (disch := omega) only [rq, simprocAttr, Zk, e1, e2, yG]
 ·rw [qa (by simp [h]), Yc]
  simp (disch := omega) only [rq, simprocAttr, Zk, e1, e2]
 ·rw [qc (by simp [h])]
  simp (disch := omega) only [rq, simprocAttr, Zk, e1, e2, yU]
def Qsk (P : Prg) (f : Nat) : Prop := ∀ s b : Nat, s < 18446744073709551616 → b < 256 → VC P f [.int .u64 s, .int .u8 b] (.int .u64 (QyG s b : Nat))
theorem Qur {P : Prg} {f fS : Nat} (bd : Qf P f 18 [.tmp 4] (Jw fS)) (hS : Qr6 P fS) : Qsk P f := by
 intro s b hs hb
 refine Qn rfl rfl bd ?_
 simp (disch := omega) only [rq, simprocAttr, Jw]
 refine Qg (ι := Nat) (fun k => ⟨[(5, .int .i64 (128 / 2 ^ k : Nat)), (0, .int .u64 (Qv2 s b k)), (1, .int .u8 b)], []⟩) (fun k => k ≤ 8) (fun k => 8 - k) 0 (Qk (by simp [Am.look, Qv2])) (by omega) ?_
 intro k hk
 have hc := Qv1 (b := b) hs k
 by_cases hlt : k < 8
 ·have hn : Qv2 s b (k + 1) = QpT (Qv2 s b k ^^^ (b / 2 ^ (7 - k) % 2) * 9223372036854775808) := rfl
  have hp : 128 / 2 ^ k = 2 ^ (7 - k) := by
   rw [show (128 : Nat) = 2 ^ 7 from rfl, Nat.pow_div (by omega) (by decide)]
  have hd : 128 / 2 ^ (k + 1) = 128 / 2 ^ k / 2 := by rw [yc, qw]
  have hpos : 1 ≤ 128 / 2 ^ k := by rw [hp]; exact qR (by decide)
  have hle : 128 / 2 ^ k ≤ 128 := yJ _ _
  have h2 := hS (Qv2 s b k) (b / 2 ^ (7 - k) % 2) hc (qz _ (by decide))
  rw [← hn, ← hp] at h2
  generalize Qv2 s b k = c at *
  generalize 128 / 2 ^ k = p at *
  have e1 : ((b : Int)).tdiv (p : Int) = ((b / p : Nat) : Int) := by rw [qJ (by omega)]; simp
  have e0 : (b : Int) / (p : Int) = ((b / p : Nat) : Int) := by simp
  have hbp : b / p ≤ b := yJ _ _
  generalize b / p = x at *
  have e3 : ((x : Int)).tmod 2 = ((x % 2 : Nat) : Int) := rfl
  have e4 : (x : Int) % 2 = ((x % 2 : Nat) : Int) := by omega
  have e5 : ((p : Int)).tdiv 2 = ((p / 2 : Nat) : Int) := rfl
  have e6 : (p : Int) / 2 = ((p / 2 : Nat) : Int) := by omega
  simp (disch := omega) only [rq, simprocAttr, e0, e1, e3, e4]
  refine Qa h2 ?_
  simp (disch := omega) only [rq, simprocAttr, e5, e6]
  exact ⟨k + 1, by omega, by omega, Qk (by simp [Am.look, hd])⟩
 ·obtain rfl : k = 8 := by omega
  rw [QB5 hs hb]
  have e : (128 / 2 ^ 8 : Nat) = 0 := rfl
  rw [e]
  simp (disch := omega) only [rq, simprocAttr]
def Qed (P : Prg) (f : Nat) : Prop := ∀ (s : Nat) (l : List UInt8), s < 18446744073709551616 → l.length ≤ 1000000 → VC P f [.int .u64 s, bs l] (.int .u64 (XT s l : Nat))
theorem QoT {P : Prg} {f fB : Nat} (bd : Qf P f 19 [.tmp 4] (XJ fB)) (hB : Qsk P fB) : Qed P f := by
 intro s l hs hl
 refine Qn (by simp [isDL, isD, Qr]) rfl bd ?_
 simp (disch := omega) only [rq, simprocAttr, XJ, bs]
 refine Qg (ι := Nat) (fun k => ⟨[(5, .int .i64 k), (1, .list l.length (u8 l)), (0, .int .u64 (XT s (l.take k)))], []⟩) (fun k => k ≤ l.length) (fun k => l.length - k) 0 (Qk (by simp [Am.look, XT])) (by omega) ?_
 intro k hk
 have hc := QeT (l := l.take k) hs
 by_cases hlt : k < l.length
 ·have e1 := QbD hlt
  have hn := Qou (s := s) hlt
  have h2 := hB (XT s (l.take k)) (l[k]).toNat hc (l[k]).toNat_lt
  rw [← hn] at h2
  simp (disch := omega) only [rq, simprocAttr, e1]
  refine Qa h2 ?_
  simp (disch := omega) only [rq, simprocAttr]
  exact ⟨k + 1, by omega, by omega, Qh⟩
 ·have ek : k = l.length := by omega
  subst ek
  rw [qW]
  simp (disch := omega) only [rq, simprocAttr]
theorem Quq {P : Prg} {f fB : Nat} (bd : Qf P f 12 [.tmp 4, .tmp 5] (Xd fB)) (hB : Qed P fB) : Qhe P f := by
 intro s l hs
 refine Qn (by simp [isDL, isD, Qr]) (by split <;> rfl) bd ?_
 by_cases hl : 100000 < l.length
 ·rw [qc hl]
  simp (disch := omega) only [rq, simprocAttr, Xd, bs]
 ·rw [qa hl]
  have hB' := hB s l hs (by omega)
  rw [bs] at hB'
  simp (disch := omega) only [rq, simprocAttr, Xd, bs]
  refine Qa hB' ?_
  simp (disch := omega) only [rq, simprocAttr]
theorem Qwv {P : Prg} {f fN : Nat} (bd : Qf P f 8 [.tmp 2, .tmp 3] (Xt fN)) (hN : Qhe P fN) : Qje P f := by
 intro l
 refine Qn (by simp [isDL, isD, Qr]) (by split <;> rfl) bd ?_
 have hN' := hN 0 l (by decide)
 rw [bs] at hN'
 by_cases hl : 100000 < l.length
 ·rw [qc hl] at hN' ⊢
  simp (disch := omega) only [rq, simprocAttr, Xt, bs]
  refine Qa hN' ?_
  simp (disch := omega) only [rq, simprocAttr]
 ·rw [qa hl] at hN' ⊢
  simp (disch := omega) only [rq, simprocAttr, Xt, bs]
  refine Qa hN' ?_
  simp (disch := omega) only [rq, simprocAttr]
def sb8 (x : Nat) : Int := if 127 < x % 256 then ((x % 256 : Nat) : Int) - 256 else ((x % 256 : Nat) : Int)
theorem QB8 (x : Nat) : -128 ≤ sb8 x ∧ sb8 x ≤ 127 := by unfold sb8; split <;> omega
def ofK (d k : Nat) : List Int := (List.range 16).map fun i => if i < k then sb8 (d / 2 ^ (8 * i)) else 0
theorem Qbl (d k : Nat) : (ofK d k).length = 16 := by simp [ofK]
theorem QwH {d k : Nat} (h : k < 16) : (ofK d k).set k (sb8 (d / 2 ^ (8 * k))) = ofK d (k + 1) := by
 refine yL (by simp [Qbl]) fun j h1 h2 => ?_
 have hj : j < 16 := by simpa [Qbl] using h2
 rw [jI]
 simp only [ofK, jJ, Ym]
 split
 ·rename_i e; subst e; rw [qc (by omega)]
 ·by_cases h3 : j < k
  ·rw [qc h3, qc (by omega)]
  ·rw [qa h3, qa (by omega)]
theorem QAr (x : Nat) : IntKind.i8.wrap (x : Int) = sb8 x := by
 unfold sb8
 simp only [IntKind.wrap, IntKind.bits, IntKind.signed]
 simp
 split <;> split <;> omega
def QkX (P : Prg) (f : Nat) : Prop := ∀ d : Nat, d < 18446744073709551616 → VC P f [.int .u64 d] (.agg (ks .i32 (ofK d 8)))
theorem QAP {P : Prg} {f t0 : Nat} (bd : Qf P f 18 [.cell 2 t0] (Qg8 t0)) (ht : ZE P t0 = some (some 16)) : QkX P f := by
 intro d hd
 refine Qn rfl (by simp [isD, ZA]) bd ?_
 unfold Qg8
 have z : (z3L : List AV) = ks .i32 (ofK 0 0) := rfl
 have z0 : ks .i32 (ofK 0 0) = ks .i32 (ofK d 0) := rfl
 rw [z]
 have ol := Z4 .i32 (ofK 0 0)
 have kl0 : (ks .i32 (ofK 0 0)).length = 16 := rfl
 simp (disch := omega) only [rq, simprocAttr, ol, kl0]
 refine Qg (ι := Nat) (fun i => ⟨[(5, .int .i64 i), (0, .int .u64 d), (3, .ref 1 1 0), (2, .ref 0 1 0)], [⟨t0, 16, 1, ks .i32 (ofK 0 0), 0⟩, ⟨t0, 16, 1, ks .i32 (ofK d i), 0⟩]⟩) (fun i => i ≤ 8) (fun i => 8 - i) 0 (Qh) (by omega) ?_
 intro i hi
 have kl : (ks .i32 (ofK d i)).length = 16 := by rw [Qd, Qbl]
 by_cases hlt : i < 8
 ·have a1 : Qu false .u64 (d : Int) (8 * (i : Int)) = some (.int .u64 ((d / 2 ^ (8 * i) : Nat) : Int)) := by
   have := Qnp (K := .u64) (n := d) (k := 8 * i) (by show 8 * i ≤ 64; omega)
   simpa using this
  have a2 := QAr (d / 2 ^ (8 * i))
  have a3 := QB8 (d / 2 ^ (8 * i))
  have e3 : (ks .i32 (ofK d i)).take i ++ [.int .i32 (sb8 (d / 2 ^ (8 * i)))] ++ (ks .i32 (ofK d i)).drop (i + 1) = ks .i32 (ofK d (i + 1)) := by
   rw [← QwH (by omega), ye, qc (by rw [Qbl]; omega)]; simp [ks, yW, ji]
  generalize d / 2 ^ (8 * i) = q at *
  generalize sb8 q = y at *
  simp (disch := omega) only [rq, simprocAttr, a1, a2, kl, e3]
  exact ⟨i + 1, by omega, by omega, Qh⟩
 ·obtain rfl : i = 8 := by omega
  have o8 := Z4 .i32 (ofK d 8)
  have t8 : (ks .i32 (ofK d 8)).take 16 = ks .i32 (ofK d 8) := qf (by omega)
  simp (disch := omega) only [rq, simprocAttr, kl, kl0, t8, o8, QL, ht]
  try simp [kl]
theorem QyY {P : Prg} {f t0 : Nat} (bd : Qf P f 23 [.cell 2 t0] (Qaj t0)) (ht : ZE P t0 = some (some 16)) : QkX P f := by
 intro d hd
 refine Qn rfl (by simp [isD, ZA]) bd ?_
 unfold Qaj
 have z : (z3L : List AV) = ks .i32 (ofK 0 0) := rfl
 rw [z]
 have ol := Z4 .i32 (ofK 0 0)
 have kl0 : (ks .i32 (ofK 0 0)).length = 16 := rfl
 simp (disch := omega) only [rq, simprocAttr, ol, kl0]
 refine Qg (ι := Nat) (fun i => ⟨[(4, .int .i64 i), (0, .int .u64 (d / 2 ^ (8 * i) : Nat)), (3, .ref 1 1 0), (2, .ref 0 1 0)], [⟨t0, 16, 1, ks .i32 (ofK 0 0), 0⟩, ⟨t0, 16, 1, ks .i32 (ofK d i), 0⟩]⟩) (fun i => i ≤ 8) (fun i => 8 - i) 0 (Qh) (by omega) ?_
 intro i hi
 have kl : (ks .i32 (ofK d i)).length = 16 := by rw [Qd, Qbl]
 by_cases hlt : i < 8
 ·have hd2 : d / 2 ^ (8 * (i + 1)) = d / 2 ^ (8 * i) / 256 := by
   rw [show 8 * (i + 1) = 8 * i + 8 by omega, qZ, ← qw]
  have hq : d / 2 ^ (8 * i) ≤ d := yJ _ _
  have e3 : (ks .i32 (ofK d i)).take i ++ [.int .i32 (sb8 (d / 2 ^ (8 * i)))] ++ (ks .i32 (ofK d i)).drop (i + 1) = ks .i32 (ofK d (i + 1)) := by
   rw [← QwH (by omega), ye, qc (by rw [Qbl]; omega)]; simp [ks, yW, ji]
  generalize d / 2 ^ (8 * i) = q at *
  have a1 : ((q : Int)).tmod 256 = ((q % 256 : Nat) : Int) := rfl
  have a2 : (q : Int) % 256 = ((q % 256 : Nat) : Int) := by omega
  have a3 : ((q : Int)).tdiv 256 = ((q / 256 : Nat) : Int) := rfl
  have a4 : (q : Int) / 256 = ((q / 256 : Nat) : Int) := by omega
  have hb : q % 256 < 256 := qz _ (by decide)
  by_cases h : 127 < q % 256
  ·have s1 : sb8 q = ((q % 256 : Nat) : Int) - 256 := by rw [sb8, qc h]
   rw [s1] at e3
   generalize q % 256 = y at *
   simp (disch := omega) only [rq, simprocAttr, a1, a2, a3, a4, kl, e3]
   exact ⟨i + 1, by omega, by omega, Qk (by simp [Am.look, hd2])⟩
  ·have s1 : sb8 q = ((q % 256 : Nat) : Int) := by rw [sb8, qa h]
   rw [s1] at e3
   generalize q % 256 = y at *
   simp (disch := omega) only [rq, simprocAttr, a1, a2, a3, a4, kl, e3]
   exact ⟨i + 1, by omega, by omega, Qk (by simp [Am.look, hd2])⟩
 ·obtain rfl : i = 8 := by omega
  have o8 := Z4 .i32 (ofK d 8)
  have t8 : (ks .i32 (ofK d 8)).take 16 = ks .i32 (ofK d 8) := qf (by omega)
  simp (disch := omega) only [rq, simprocAttr, kl, kl0, t8, o8, QL, ht]
  try simp [kl]
theorem QwZ : ∀ p : List UInt8, isTL (u8 p) = true
 | [] => rfl
 | b :: p => by have := QwZ p; simp only [u8, yg, isTL, isT, Bool.true_and] at this ⊢; exact this
def Jk : List Int := List.replicate 16 0
def QeS (p : List UInt8) : AV := if 64 < p.length then .tup [.agg (ks .i32 Jk), .int .i64 2] else .tup [.agg (ks .i32 (ofK (XT 0 p) 8)), .int .i64 0]
theorem Qs0 (p : List UInt8) : isD (QeS p) = true := by unfold QeS; split <;> simp [isD, isDL, ZA]
def QhA (P : Prg) (f : Nat) : Prop := ∀ p : List UInt8, VC P f [.str p] (QeS p)
theorem Qv8 {P : Prg} {f fS fO t0 : Nat} (bd : Qf P f 22 [.cell 2 t0, .tmp 3] (QdQ fS fO t0)) (hS : Qje P fS) (hO : QkX P fO) (ht : ZE P t0 = some (some 16)) : QhA P f := by
 intro p
 refine Qn rfl (Qs0 p) bd ?_
 unfold QdQ
 have z : (z3L : List AV) = ks .i32 Jk := rfl
 rw [z]
 have ol := Z4 .i32 Jk
 have kl0 : (ks .i32 Jk).length = 16 := rfl
 have t0' : (ks .i32 Jk).take 16 = ks .i32 Jk := rfl
 by_cases hp : 64 < p.length
 ·have e9 : QeS p = .tup [.agg (ks .i32 Jk), .int .i64 2] := by rw [QeS, qc hp]
  simp (disch := omega) only [rq, simprocAttr, ol, kl0, QL, ht, t0', e9]
  rfl
 ·have e9 : QeS p = .tup [.agg (ks .i32 (ofK (XT 0 p) 8)), .int .i64 0] := by rw [QeS, qa hp]
  have hS' := hS p
  rw [qa (by omega)] at hS'
  have hO' := hO (XT 0 p) (QeT (by decide))
  have o8 := Z4 .i32 (ofK (XT 0 p) 8)
  have kl : (ks .i32 (ofK (XT 0 p) 8)).length = 16 := by rw [Qd, Qbl]
  have t8 : (ks .i32 (ofK (XT 0 p) 8)).take 16 = ks .i32 (ofK (XT 0 p) 8) := qf (by omega)
  have tp := QwZ p
  rw [bs] at hS'
  simp (disch := omega) only [rq, simprocAttr, ol, kl0]
  refine QkS 1 hS' rfl (by simp [QI, Qz, frzL, Qv, frzL_T _ tp]) ?_
  simp (disch := omega) only [rq, simprocAttr]
  refine Qa hO' ?_
  have zl : Jk.length = 16 := rfl
  have zd : (ks .i32 Jk).drop 16 = [] := rfl
  simp (disch := omega) only [rq, simprocAttr, o8, kl, t8, QL, ht, e9, zl, zd, qX]
  try simp [kl]
theorem Qug {P : Prg} {f fS fO t0 : Nat} (bd : Qf P f 18 [.cell 2 t0, .tmp 3] (Js fS fO t0)) (hS : Qje P fS) (hO : QkX P fO) (ht : ZE P t0 = some (some 16)) : QhA P f := by
 intro p
 refine Qn rfl (Qs0 p) bd ?_
 unfold Js
 have z : (z3L : List AV) = ks .i32 Jk := rfl
 rw [z]
 have ol := Z4 .i32 Jk
 have kl0 : (ks .i32 Jk).length = 16 := rfl
 have t0' : (ks .i32 Jk).take 16 = ks .i32 Jk := rfl
 by_cases hp : 64 < p.length
 ·have e9 : QeS p = .tup [.agg (ks .i32 Jk), .int .i64 2] := by rw [QeS, qc hp]
  simp (disch := omega) only [rq, simprocAttr, ol, kl0, QL, ht, t0', e9]
  rfl
 ·have e9 : QeS p = .tup [.agg (ks .i32 (ofK (XT 0 p) 8)), .int .i64 0] := by rw [QeS, qa hp]
  have hS' := hS p
  rw [qa (by omega)] at hS'
  have hO' := hO (XT 0 p) (QeT (by decide))
  have o8 := Z4 .i32 (ofK (XT 0 p) 8)
  have kl : (ks .i32 (ofK (XT 0 p) 8)).length = 16 := by rw [Qd, Qbl]
  have t8 : (ks .i32 (ofK (XT 0 p) 8)).take 16 = ks .i32 (ofK (XT 0 p) 8) := qf (by omega)
  have tp := QwZ p
  rw [bs] at hS'
  simp (disch := omega) only [rq, simprocAttr, ol, kl0]
  refine QkS 1 hS' rfl (by simp [QI, Qz, frzL, Qv, frzL_T _ tp]) ?_
  simp (disch := omega) only [rq, simprocAttr]
  refine Qa hO' ?_
  have zl : Jk.length = 16 := rfl
  have zd : (ks .i32 Jk).drop 16 = [] := rfl
  simp (disch := omega) only [rq, simprocAttr, o8, kl, t8, QL, ht, e9, zl, zd, qX]
  try simp [kl]
theorem Qso (d k : Nat) : I32 (ofK d k) := fun x hx => by
 unfold ofK at hx
 obtain ⟨i, _, rfl⟩ := qY.1 hx
 split
 ·have := QB8 (d / 2 ^ (8 * i)); omega
 ·omega
def Qto : List AV → List Int
 | .int _ n :: r => n :: Qto r
 | _ => []
def avP : AV → List Int
 | .tup (.list _ cs :: _) => Qto cs
 | _ => []
def avE : AV → Int
 | .tup [_, .int _ e] => e
 | _ => 0
theorem QxL (l : List Int) : Qto (ks .i32 l) = l := by
 induction l with
 | nil => rfl
 | cons x l ih => simp only [Qdr, Qto, ih]
def Qzr (c x : Int) (t : List Int) (n : Int) (b : List UInt8) : List Int := avP (Qyi c x t n b)
def QAe (c x : Int) (t : List Int) (n : Int) (b : List UInt8) : Int := avE (Qyi c x t n b)
theorem QBb (x : Int) : J0 x ≤ 8388608 := by
 unfold J0
 repeat' split
 all_goals omega
def okQ (x : Int) (l : List Int) : Prop := l.length ≤ 4000 ∧ ∀ v ∈ l, inR x v = true
theorem QyS (x : Int) (l : List Int) : ∃ (p : List Int) (e : Int), QoB x l = .tup [il p, .int .i64 e] ∧ okQ x p := by
 unfold QoB
 by_cases h : Zo x l = 0
 ·rw [qa (by omega)]
  refine ⟨l, 0, rfl, ?_⟩
  unfold Zo at h
  split at h
  ·cases h
  split at h
  ·cases h
  split at h
  ·rename_i h1 h2 h3
   exact ⟨by omega, ya.1 h3⟩
  ·cases h
 ·rw [qc h]
  exact ⟨[], _, rfl, by simp [okQ]⟩
theorem Ql9 (x e : Int) : ∃ (p : List Int) (e' : Int), erA e = .tup [il p, .int .i64 e'] ∧ okQ x p := ⟨[], e, rfl, by simp [okQ]⟩
theorem QCD (c x : Int) (t : List Int) (n : Int) (b : List UInt8) : ∃ (p : List Int) (e : Int), Qyi c x t n b = .tup [il p, .int .i64 e] ∧ okQ x p := by
 unfold Qyi
 split
 ·exact Ql9 _ _
 split
 ·exact Ql9 _ _
 unfold QAd
 split
 ·exact Ql9 _ _
 split
 ·exact Ql9 _ _
 ·exact QyS _ _
theorem Qxk (c x : Int) (t : List Int) (n : Int) (b : List UInt8) : Qyi c x t n b = .tup [il (Qzr c x t n b), .int .i64 (QAe c x t n b)] ∧ okQ x (Qzr c x t n b) := by
 obtain ⟨p, e, h1, h2⟩ := QCD c x t n b
 have hp : Qzr c x t n b = p := by rw [Qzr, h1]; simp only [avP, il, QxL]
 have he : QAe c x t n b = e := by rw [QAe, h1]; rfl
 rw [hp, he]
 exact ⟨h1, h2⟩
theorem QAn {x : Int} {l : List Int} (h : okQ x l) : I32 l := fun v hv => by
 have h1 := h.2 v hv
 simp only [inR, qo, qr] at h1
 have := QBb x
 omega
theorem Qyv (L n : Nat) : (QaC L n).sum = (n : Int) := by
 unfold QaC
 have hr : ∀ k : Nat, (List.replicate k (L : Int)).sum = (k * L : Nat) := fun k => by
  induction k with
  | zero => simp
  | succ k ih => rw [jl, yB, ih, Nat.succ_mul]; omega
 rw [jk, hr]
 simp
 omega
def Qsg (P : Prg) (f : Nat) : Prop := ∀ p : List UInt8, VC P f [.str p] (if 64 < p.length then .tup [.int .u64 0, .int .i64 2] else .tup [.int .u64 (XT 0 p), .int .i64 0])
theorem Qxj {P : Prg} {f fS : Nat} (bd : Qf P f 16 [.tmp 2, .tmp 3] (QbM fS)) (hS : Qje P fS) : Qsg P f := by
 intro p
 refine Qn rfl (by split <;> rfl) bd ?_
 by_cases h : 64 < p.length
 ·rw [qc h]
  simp (disch := omega) only [rq, simprocAttr, QbM]
 ·have hS' := hS p
  rw [qa (by omega)] at hS'
  rw [qa h]
  rw [bs] at hS'
  simp (disch := omega) only [rq, simprocAttr, QbM]
  refine Qa hS' ?_
  simp (disch := omega) only [rq, simprocAttr]
def QBj (p : List UInt8) : AV := if 64 < p.length then .tup [.list 0 [], .int .i64 2] else .tup [bs (leB (XT 0 p) 8), .int .i64 0]
theorem QA9 (p : List UInt8) : isD (QBj p) = true := by unfold QBj; split <;> simp [isD, isDL, Qr]
def Qhf (P : Prg) (f : Nat) : Prop := ∀ p : List UInt8, VC P f [.str p] (QBj p)
theorem Qpl {P : Prg} {f fO fB : Nat} (bd : Qf P f 18 [.tmp 2, .tmp 3] (Qah fO fB)) (hO : Qsg P fO) (hB : Qgv P fB) : Qhf P f := by
 intro p
 refine Qi 1 rfl (QA9 p) (Qb bd (by simp) ?_)
 have hO' := hO p
 by_cases h : 64 < p.length
 ·rw [qc h] at hO'
  rw [QBj, qc h]
  simp (disch := omega) only [rq, simprocAttr, Qah]
  refine Qa hO' ?_
  simp (disch := omega) only [rq, simprocAttr]
  simp [QI, Qz, frzL, Qv]
 ·rw [qa h] at hO'
  have hB' := hB (XT 0 p) 8 (by omega) (by omega) (QeT (by decide))
  have tb := Q9 (leB (XT 0 p) 8)
  rw [QBj, qa h]
  simp only [bs] at hB' ⊢
  simp (disch := omega) only [rq, simprocAttr, Qah]
  iterate 2 (refine Qa (by assumption) ?_; simp (disch := omega) only [rq, simprocAttr])
  simp [QI, Qz, frzL, Qv, frzL_T _ tb]
def QxU (P : Prg) (f : Nat) : Prop := ∀ p : List UInt8, p.length ≤ 1000000 → VC P f [.str p] (.int .u64 (XT 0 p))
theorem Qt8 {P : Prg} {f fB : Nat} (bd : Qf P f 6 [.tmp 2] (Jo fB)) (hB : Qed P fB) : QxU P f := by
 intro p hp
 refine Qn rfl rfl bd ?_
 have hB' := hB 0 p (by decide) hp
 rw [bs] at hB'
 simp (disch := omega) only [rq, simprocAttr, Jo]
 refine Qa hB' ?_
 simp (disch := omega) only [rq, simprocAttr]
def QmR (P : Prg) (f : Nat) : Prop := ∀ p : List UInt8, p.length ≤ 1000000 → VC P f [.str p] (bs (leB (XT 0 p) 8))
theorem QlI {P : Prg} {f fT fW : Nat} (bd : Qf P f 6 [.tmp 2] (Xp fT fW)) (hT : QxU P fT) (hW : Qgw P fW) : QmR P f := by
 intro p hp
 refine Qn rfl (Qr _) bd ?_
 have hT' := hT p hp
 have hW' := hW (XT 0 p) 8 (by omega) (QeT (by decide))
 simp (disch := omega) only [rq, simprocAttr, Xp]
 iterate 2 (refine Qa (by assumption) ?_; simp (disch := omega) only [rq, simprocAttr])
def Qno : Int → List Int → Prop
 | _, [] => True
 | m, n :: l => 5 ≤ n ∧ n ≤ m ∧ Qno (m - n) l
instance decSk : ∀ (m : Int) (l : List Int), Decidable (Qno m l)
 | _, [] => isTrue trivial
 | m, n :: l => by
  unfold Qno
  have := decSk (m - n) l
  exact inferInstance
def skN (l : List Int) : Int := if l.length = 0 ∨ 1000 < l.length then 8 else if Qno 100000 l then 0 else 8
def skL (m : Int) (l : List Int) : Nat → Int
 | 0 => m
 | k + 1 => skL m l k - l.getD k 0
theorem QyC (l : List Int) : ∀ (m : Int) , Qno m l ↔ ∀ k, k < l.length → 5 ≤ l.getD k 0 ∧ l.getD k 0 ≤ skL m l k := by
 induction l with
 | nil => intro m; simp [Qno]
 | cons n l ih =>
  intro m
  have e : ∀ k, skL m (n :: l) (k + 1) = skL (m - n) l k := fun k => by
   induction k with
   | zero => simp [skL]
   | succ k ih2 =>
    show skL m (n :: l) (k + 1) - (n :: l).getD (k + 1) 0 = skL (m - n) l k - l.getD k 0
    rw [ih2]; rfl
  rw [Qno, ih]
  constructor
  ·rintro ⟨h1, h2, h3⟩ k hk
   match k with
   | 0 => exact ⟨h1, h2⟩
   | k + 1 =>
    rw [e]
    exact h3 k (by simpa using hk)
  ·intro h
   refine ⟨(h 0 (by simp)).1, (h 0 (by simp)).2, fun k hk => ?_⟩
   have := h (k + 1) (by simpa using hk)
   rw [e] at this
   exact this
def Qbu (P : Prg) (f : Nat) : Prop := ∀ l : List Int, l.length ≤ 1000000 → (∀ v ∈ l, -9223372036854775808 ≤ v ∧ v ≤ 9223372036854775807) → VC P f [Xh l] (.int .i64 (skN l))
theorem QqF {P : Prg} {f : Nat} (bd : Qf P f 31 [.tmp 2] JC) : Qbu P f := by
 intro l hl hv
 refine Qn (by simp [isDL, XM]) rfl bd ?_
 by_cases h1 : l.length = 0 ∨ 1000 < l.length
 ·have e8 : skN l = 8 := by rw [skN, qc h1]
  rw [e8]
  rcases h1 with h1 | h1
  ·simp (disch := omega) only [rq, simprocAttr, JC, Xh]
  ·by_cases h0 : l.length = 0
   ·omega
   ·simp (disch := omega) only [rq, simprocAttr, JC, Xh]
 have e8 : skN l = if Qno 100000 l then 0 else 8 := by rw [skN, qa h1]
 rw [e8]
 clear e8
 have hiff := QyC l 100000
 have kl : (ks .i64 l).length = l.length := Qd _ _
 have h0 : ¬ l.length = 0 := by omega
 simp (disch := omega) only [rq, simprocAttr, JC, Xh]
 refine Qg (ι := Nat) (fun k => ⟨[(16, .int .i64 k), (15, .int .i64 l.length), (14, .list l.length (ks .i64 l)), (3, .int .i64 (skL 100000 l k))], []⟩) (fun k => k ≤ l.length ∧ (∀ j, j < k → 5 ≤ l.getD j 0 ∧ l.getD j 0 ≤ skL 100000 l j) ∧ 0 ≤ skL 100000 l k ∧ skL 100000 l k ≤ 100000) (fun k => l.length - k) 0 (Qk (by simp [Am.look, skL])) ⟨by omega, by omega, by simp [skL], by simp [skL]⟩ ?_
 rintro k ⟨hk, ha, hb, hc⟩
 by_cases hlt : k < l.length
 ·have e1 : (ks .i64 l).drop k = .int .i64 (l.getD k 0) :: (ks .i64 l).drop (k + 1) := by
   have h := J8 (K := .i64) (l := l) (i := k) hlt
   rw [← QaW] at h
   exact h
  have hr := hv (l.getD k 0) (by rw [qe, qg hlt]; exact yb _)
  have hs : skL 100000 l (k + 1) = skL 100000 l k - l.getD k 0 := rfl
  by_cases g1 : l.getD k 0 < 5
  ·have hn : ¬ Qno 100000 l := fun h => by have := (hiff.1 h k hlt).1; omega
   rw [qa hn]
   generalize l.getD k 0 = v at *
   simp (disch := omega) only [rq, simprocAttr, e1, kl]
  ·by_cases g2 : skL 100000 l k < l.getD k 0
   ·have hn : ¬ Qno 100000 l := fun h => by have := (hiff.1 h k hlt).2; omega
    rw [qa hn]
    generalize l.getD k 0 = v at *
    simp (disch := omega) only [rq, simprocAttr, e1, kl]
   ·have ha' : ∀ j, j < k + 1 → 5 ≤ l.getD j 0 ∧ l.getD j 0 ≤ skL 100000 l j := fun j hj => by
     by_cases e : j = k
     ·subst e; omega
     ·exact ha j (by omega)
    generalize l.getD k 0 = v at *
    generalize skL 100000 l k = m at *
    simp (disch := omega) only [rq, simprocAttr, e1, kl]
    refine ⟨k + 1, ⟨by omega, ha', by omega, by omega⟩, by omega, ?_⟩
    simp only [hs]
    exact Qh
 ·have ek : k = l.length := by omega
  subst ek
  rw [qc (hiff.2 ha)]
  simp (disch := omega) only [rq, simprocAttr]
def hdA (f c b r n : Int) : AV := .agg [.int .i64 f, .int .i64 c, .int .i64 b, .int .i64 r, .int .i64 n]
def shP (f c b r n : Int) : Prop := (b = 8 ∨ b = 16 ∨ b = 24) ∧ (f = 1 ∨ f = 2) ∧ 1 ≤ c ∧ c ≤ 6 ∧ 1 ≤ r ∧ r ≤ 1048576 ∧ 1 ≤ n
instance decShP (f c b r n : Int) : Decidable (shP f c b r n) := by unfold shP; exact inferInstance
def QcY (P : Prg) (g : Nat) : Prop := ∀ f c b r n : Int, VC P g [hdA f c b r n] (.bool (decide (shP f c b r n)))
theorem Ql3 {P : Prg} {g t0 : Nat} (bd : Qf P g 44 [.tmp 2] (Q2 t0)) : QcY P g := by
 intro f c b r n
 refine Qn rfl rfl bd ?_
 by_cases hb : b = 8 ∨ b = 16 ∨ b = 24
 case neg =>
  have hn : decide (shP f c b r n) = false := decide_eq_false fun h => hb h.1
  rw [hn]
  simp (disch := omega) only [rq, simprocAttr, Q2, hdA]
 by_cases hf : f = 1 ∨ f = 2
 case neg =>
  have hn : decide (shP f c b r n) = false := decide_eq_false fun h => hf h.2.1
  rw [hn]
  rcases hb with rfl | rfl | rfl <;> simp (disch := omega) only [rq, simprocAttr, Q2, hdA]
 by_cases hc1 : 1 ≤ c
 case neg =>
  have hn : decide (shP f c b r n) = false := decide_eq_false fun h => hc1 h.2.2.1
  rw [hn]
  rcases hb with rfl | rfl | rfl <;> rcases hf with rfl | rfl <;> simp (disch := omega) only [rq, simprocAttr, Q2, hdA]
 by_cases hc2 : c ≤ 6
 case neg =>
  have hn : decide (shP f c b r n) = false := decide_eq_false fun h => hc2 h.2.2.2.1
  rw [hn]
  rcases hb with rfl | rfl | rfl <;> rcases hf with rfl | rfl <;> simp (disch := omega) only [rq, simprocAttr, Q2, hdA]
 by_cases hr1 : 1 ≤ r
 case neg =>
  have hn : decide (shP f c b r n) = false := decide_eq_false fun h => hr1 h.2.2.2.2.1
  rw [hn]
  rcases hb with rfl | rfl | rfl <;> rcases hf with rfl | rfl <;> simp (disch := omega) only [rq, simprocAttr, Q2, hdA]
 by_cases hr2 : r ≤ 1048576
 case neg =>
  have hn : decide (shP f c b r n) = false := decide_eq_false fun h => hr2 h.2.2.2.2.2.1
  rw [hn]
  rcases hb with rfl | rfl | rfl <;> rcases hf with rfl | rfl <;> simp (disch := omega) only [rq, simprocAttr, Q2, hdA]
 by_cases hn1 : 1 ≤ n
 case neg =>
  have hn : decide (shP f c b r n) = false := decide_eq_false fun h => hn1 h.2.2.2.2.2.2
  rw [hn]
  rcases hb with rfl | rfl | rfl <;> rcases hf with rfl | rfl <;> simp (disch := omega) only [rq, simprocAttr, Q2, hdA]
 have hn : decide (shP f c b r n) = true := decide_eq_true ⟨hb, hf, hc1, hc2, hr1, hr2, hn1⟩
 rw [hn]
 rcases hb with rfl | rfl | rfl <;> rcases hf with rfl | rfl <;> simp (disch := omega) only [rq, simprocAttr, Q2, hdA]
def Ql7 (c r n : Int) : Prop := n ≤ 4000 / c ∧ Qyj r n = 0
instance decFitP (c r n : Int) : Decidable (Ql7 c r n) := by unfold Ql7; exact inferInstance
theorem Qxq {r n : Int} (h : Qyj r n = 0) : ∃ k : Int, Qpq r n = .tup [.int .i64 k, .int .i64 0] ∧ 0 ≤ k ∧ k ≤ 1000 := by
 unfold Qyj at h
 unfold Qpq
 split at h
 ·cases h
 rename_i a1
 split at h
 ·cases h
 rename_i a2
 split at h
 ·cases h
 rename_i a3
 rw [qa a1, qa a2, qa a3]
 have := Qdq r
 exact ⟨_, rfl, jS (by omega) (by omega), by omega⟩
def Qtt (P : Prg) (g : Nat) : Prop := ∀ f c b r n : Int, 1 ≤ c → c ≤ 6 → VC P g [hdA f c b r n] (.bool (decide (Ql7 c r n)))
theorem Qrf {P : Prg} {g fC t0 : Nat} (bd : Qf P g 25 [.tmp 2] (JD fC t0)) (hC : Qgz P fC) : Qtt P g := by
 intro f c b r n c1 c2
 refine Qn rfl rfl bd ?_
 have hC' := hC r n
 have q0 : ¬ c = 0 := by omega
 have q1 : (4000 : Int).tdiv c = 4000 / c := qJ (by omega)
 have q2 : 0 ≤ 4000 / c := jS (by omega) (by omega)
 have q3 : 4000 / c ≤ 4000 := jK _ (by omega)
 by_cases h1 : n ≤ 4000 / c
 case neg =>
  have hn : decide (Ql7 c r n) = false := decide_eq_false fun h => h1 h.1
  rw [hn]
  generalize hQ : 4000 / c = Q at *
  have hw : IntKind.i64.wrap Q = Q := ZT (by omega) (by omega)
  simp (disch := omega) only [rq, simprocAttr, JD, hdA, q1, hQ, hw]
 by_cases h2 : Qyj r n = 0
 ·have hn : decide (Ql7 c r n) = true := decide_eq_true ⟨h1, h2⟩
  rw [hn]
  obtain ⟨k, e, k1, k2⟩ := Qxq h2
  rw [e] at hC'
  generalize hQ : 4000 / c = Q at *
  have hw : IntKind.i64.wrap Q = Q := ZT (by omega) (by omega)
  simp (disch := omega) only [rq, simprocAttr, JD, hdA, q1, hQ, hw]
  refine Qa hC' ?_
  simp (disch := omega) only [rq, simprocAttr]
 ·have hn : decide (Ql7 c r n) = false := decide_eq_false fun h => h2 h.2
  rw [hn]
  obtain ⟨k, e⟩ := Qzx r n
  rw [e] at hC'
  generalize hQ : 4000 / c = Q at *
  have hw : IntKind.i64.wrap Q = Q := ZT (by omega) (by omega)
  generalize Qyj r n = E at *
  simp (disch := omega) only [rq, simprocAttr, JD, hdA, q1, hQ, hw]
  refine Qa hC' ?_
  simp (disch := omega) only [rq, simprocAttr]
def hdN (f c b r n : Int) : Int := if shP f c b r n ∧ Ql7 c r n then 0 else 8
def Qjn (P : Prg) (g : Nat) : Prop := ∀ f c b r n : Int, VC P g [hdA f c b r n] (.int .i64 (hdN f c b r n))
theorem Qpa {P : Prg} {g fS fF t0 : Nat} (bd : Qf P g 11 [.tmp 2] (X2 fS fF t0)) (hS : QcY P fS) (hF : Qtt P fF) : Qjn P g := by
 intro f c b r n
 refine Qn rfl rfl bd ?_
 have hS' := hS f c b r n
 by_cases h1 : shP f c b r n
 case neg =>
  have e : hdN f c b r n = 8 := by rw [hdN, qa fun h => h1 h.1]
  rw [decide_eq_false h1] at hS'
  rw [e]
  rw [hdA] at hS' ⊢
  simp (disch := omega) only [rq, simprocAttr, X2]
  refine Qa hS' ?_
  simp (disch := omega) only [rq, simprocAttr]
 have hF' := hF f c b r n h1.2.2.1 h1.2.2.2.1
 rw [decide_eq_true h1] at hS'
 by_cases h2 : Ql7 c r n
 ·have e : hdN f c b r n = 0 := by rw [hdN, qc ⟨h1, h2⟩]
  rw [decide_eq_true h2] at hF'
  rw [e]
  rw [hdA] at hS' hF' ⊢
  simp (disch := omega) only [rq, simprocAttr, X2]
  iterate 2 (refine Qa (by assumption) ?_; simp (disch := omega) only [rq, simprocAttr])
 ·have e : hdN f c b r n = 8 := by rw [hdN, qa fun h => h2 h.2]
  rw [decide_eq_false h2] at hF'
  rw [e]
  rw [hdA] at hS' hF' ⊢
  simp (disch := omega) only [rq, simprocAttr, X2]
  iterate 2 (refine Qa (by assumption) ?_; simp (disch := omega) only [rq, simprocAttr])
def QC4 : List AV := [.int .i64 2, .int .i64 2, .int .i64 2, .int .i64 4, .int .i64 4]
def hdP (f c b r n : Nat) : Nat → List UInt8
 | 0 => [84, 84, 65, 49]
 | 1 => [84, 84, 65, 49] ++ leB f 2
 | 2 => [84, 84, 65, 49] ++ leB f 2 ++ leB c 2
 | 3 => [84, 84, 65, 49] ++ leB f 2 ++ leB c 2 ++ leB b 2
 | 4 => [84, 84, 65, 49] ++ leB f 2 ++ leB c 2 ++ leB b 2 ++ leB r 4
 | _ => [84, 84, 65, 49] ++ leB f 2 ++ leB c 2 ++ leB b 2 ++ leB r 4 ++ leB n 4
def hdB (f c b r n : Nat) : List UInt8 := QDf (hdP f c b r n 5)
theorem Qw5 (f c b r n : Int) : hdN f c b r n = 0 ∨ hdN f c b r n = 8 := by unfold hdN; split <;> simp
def QDO (p : List UInt8) : Int := if p = [] then 1 else 2
def Qm9 (P : Prg) (f : Nat) : Prop := ∀ r : Int, 1 ≤ r → r ≤ 1048576 → VC P f [.int .i64 r] (.int .i64 (ZI r))
theorem Quc {P : Prg} {f : Nat} (bd : Qf P f 7 [.tmp 2] Xa) : Qm9 P f := by
 intro r h1 h2
 refine Qn rfl rfl bd ?_
 have h3 : (256 * r).tdiv 245 = 256 * r / 245 := qJ (by omega)
 have hX : 1 ≤ 256 * r / 245 := by omega
 have hl : ZI r = 256 * r / 245 := by unfold ZI; rw [qa (by omega)]
 rw [hl]
 by_cases hx : 1 < 256 * r / 245
 ·simp (disch := omega) only [rq, simprocAttr, Xa, h3]
 ·have hy : 256 * r / 245 = 1 := by omega
  rw [hy] at h3 hl ⊢
  simp (disch := omega) only [rq, simprocAttr, Xa, h3, hy]
def QDi (r : Int) (m : Nat) : Prop := 1 ≤ r ∧ r ≤ 1048576 ∧ 1 ≤ m ∧ m ≤ 4000
def QaT (P : Prg) (f : Nat) : Prop := ∀ (r : Int) (m : Nat), QDi r m → VC P f [.int .i64 r, .int .i64 m] (Xh (QaC (ZI r).toNat m))
theorem QqT {P : Prg} {f fL t0 : Nat} (bd : Qf P f 22 [.tmp 4] (X7 fL t0)) (hL : Qm9 P fL) : QaT P f := by
 intro r m ⟨o1, o2, o3, o4⟩
 refine Qi 1 rfl (XM _) (Qb bd (by simp) ?_)
 have hL' := hL r o1 o2
 have p1 := Qdq r
 have p2 := QsT (r := r) o2
 generalize ZI r = Li at *
 obtain ⟨L, rfl⟩ : ∃ L : Nat, Li = L := ⟨Li.toNat, by omega⟩
 rw [qu]
 have g1 : (m - 1) / L * L ≤ m - 1 := Nat.div_mul_le_self _ _
 have g2 : m - 1 < ((m - 1) / L + 1) * L := by
  have := Nat.lt_div_mul_add (a := m - 1) (b := L) (by omega)
  rw [yH, yS]; omega
 rw [yH, yS] at g2
 have g3 : (m - 1) / L ≤ m - 1 := yJ _ _
 have ll := Qch L m
 have lf : QaC L m = List.replicate ((m - 1) / L) (L : Int) ++ [(m : Int) - ((m - 1) / L * L : Nat)] := rfl
 have tl := Qq .i64 (QaC L m)
 rw [Xh, ll]
 generalize hq : (m - 1) / L = q at *
 simp (disch := omega) only [rq, simprocAttr, X7]
 refine Qg (ι := Option Nat) (fun i => match i with
   | some k => ⟨[(6, .int .i64 ((m : Int) - (k * L : Nat))), (5, .own 0 k), (0, .int .i64 r)], [⟨t0, 1, k, ks .i64 (List.replicate k (L : Int)), 0⟩]⟩
   | none => ⟨[(6, .int .i64 ((m : Int) - (q * L + L : Nat))), (5, .own 0 (q + 1)), (0, .int .i64 r)], [⟨t0, 1, q + 1, ks .i64 (QaC L m), 0⟩]⟩)
  (fun i => match i with | some k => k ≤ q | none => True) (fun i => match i with | some k => q - k + 1 | none => 0) (some 0)
  (by simp only [Yt]; exact Le.trans (Qa2 5 t0 1 (by omega) rfl) (Qh)) (by simp) ?_
 intro i hi
 cases i with
 | some k =>
  simp only at hi
  dsimp only
  have g4 : k * L ≤ q * L := qN L hi
  have lr : (List.replicate k (L : Int)).length = k := by simp
  have lk : (ks .i64 (List.replicate k (L : Int))).length = k := by rw [Qd, lr]
  by_cases hk : k < q
  ·have g5 : (k + 1) * L ≤ q * L := qN L (by omega)
   rw [yH, yS] at g5
   have hmn : (k + 1) * L = k * L + L := by rw [yH, yS]
   generalize k * L = kL at *
   generalize q * L = qL at *
   simp (disch := omega) only [rq, simprocAttr]
   refine Qa hL' ?_
   simp (disch := omega) only [rq, simprocAttr, QwX, QyU, lr]
   refine Qa hL' ?_
   simp (disch := omega) only [rq, simprocAttr]
   have ef : (m : Int) - (kL : Int) - (L : Int) = (m : Int) - ((kL + L : Nat) : Int) := by omega
   rw [ef, ← hmn]
   exact ⟨some (k + 1), by simp only; omega, by simp only; omega, Zt [_] (by simp [Qq]) (by simp [Am.look, Qz, frzL, Qv])⟩
  ·obtain rfl : k = q := by omega
   have hcat : ks .i64 (List.replicate k (L : Int)) ++ [.int .i64 ((m : Int) - (k * L : Nat))] = ks .i64 (QaC L m) := by rw [lf]; simp [ks]
   generalize k * L = kL at *
   simp (disch := omega) only [rq, simprocAttr]
   refine Qa hL' ?_
   simp (disch := omega) only [rq, simprocAttr, lk, hcat]
   refine Qa hL' ?_
   simp (disch := omega) only [rq, simprocAttr]
   have ef : (m : Int) - (kL : Int) - (L : Int) = (m : Int) - ((kL : Int) + (L : Int)) := by omega
   rw [ef]
   exact ⟨none, trivial, by simp only; omega, Zt [_] (by simp [Qq]) (by simp [Am.look, Qz, frzL, Qv])⟩
 | none =>
  dsimp only
  simp (disch := omega) only [rq, simprocAttr]
  simp [QI, Qz, frzL, Qv, frzL_T _ tl]
def Qhr (b p : List UInt8) : AV := if 64 < p.length ∨ b.length ≠ 8 then .tup [.bool false, .int .i64 2] else .tup [.bool (b == leB (XT 0 p) 8), .int .i64 0]
theorem Qw2 (b p : List UInt8) : isD (Qhr b p) = true := by unfold Qhr; split <;> rfl
def Qgy (P : Prg) (f : Nat) : Prop := ∀ b p : List UInt8, b.length ≤ 1000000 → VC P f [bs b, .str p] (Qhr b p)
theorem Qpk {P : Prg} {f fB fE : Nat} (bd : Qf P f 25 [.tmp 4, .tmp 5] (X3 fB fE)) (hB : Qhf P fB) (hE : QbP P fE) : Qgy P f := by
 intro b p hb
 refine Qn (by simp [isDL, Qr, isD]) (Qw2 b p) bd ?_
 have hB' := hB p
 have hE' := hE b (leB (XT 0 p) 8)
 rw [bs, bs, Qy] at hE'
 rw [bs]
 by_cases h : 64 < p.length
 ·rw [QBj, qc h] at hB'
  rw [Qhr, qc (.inl h)]
  simp (disch := omega) only [rq, simprocAttr, X3]
  refine Qa hB' ?_
  simp (disch := omega) only [rq, simprocAttr]
 ·rw [QBj, qa h, bs, Qy] at hB'
  by_cases h8 : b.length = 8
  ·rw [Qhr, qa (by omega)]
   rw [h8] at hE' ⊢
   simp (disch := omega) only [rq, simprocAttr, X3]
   iterate 2 (refine Qa (by assumption) ?_; simp (disch := omega) only [rq, simprocAttr])
  ·rw [Qhr, qc (.inr h8)]
   simp (disch := omega) only [rq, simprocAttr, X3]
   refine Qa hB' ?_
   simp (disch := omega) only [rq, simprocAttr]
def Qzl (f c b r n : Int) : AV := if hdN f c b r n = 0 then .tup [Xh (QaC (ZI r).toNat n.toNat), .int .i64 0] else .tup [.list 0 [], .int .i64 8]
theorem QA7 (f c b r n : Int) : isD (Qzl f c b r n) = true := by unfold Qzl; split <;> simp [isD, isDL, XM]
theorem Qhv {f c b r n : Int} (h : hdN f c b r n = 0) : ∃ m : Nat, n = m ∧ okA r m := by
 unfold hdN at h
 split at h
 case isFalse => cases h
 rename_i h1
 obtain ⟨⟨a1, a2, a3, a4, a5, a6, a7⟩, b1, b2⟩ := h1
 have q3 : 4000 / c ≤ 4000 := jK _ (by omega)
 obtain ⟨m, rfl⟩ : ∃ m : Nat, n = m := ⟨n.toNat, by omega⟩
 refine ⟨m, rfl, by omega, by omega, by omega, by omega, ?_⟩
 unfold Qyj at b2
 rw [qa (by omega), qa (by omega)] at b2
 split at b2
 ·cases b2
 rename_i b3
 have hlong : 1 ≤ ZI r := Qdq r
 obtain ⟨L, hLe⟩ : ∃ L : Nat, ZI r = L := ⟨(ZI r).toNat, by omega⟩
 rw [hLe, qu, qu, Qch]
 rw [hLe] at b3
 have h1 : (m : Int) + (L : Int) - 1 = ((m - 1 + L : Nat) : Int) := by omega
 rw [h1, ← jp, Nat.add_div_right _ (by omega)] at b3
 omega
def Qbj (P : Prg) (g : Nat) : Prop := ∀ f c b r n : Int, VC P g [hdA f c b r n] (Qzl f c b r n)
theorem Ql4 {P : Prg} {g fC fL t0 ti : Nat} (bd : Qf P g 17 [.tmp 2, .tmp 3] (JI fC fL t0)) (hC : Qjn P fC) (hL : Qx7 ti P fL) : Qbj P g := by
 intro f c b r n
 refine Qi 1 rfl (QA7 _ _ _ _ _) (Qb bd (by simp) ?_)
 have hC' := hC f c b r n
 rw [hdA] at hC' ⊢
 rcases Qw5 f c b r n with h | h
 ·rw [h] at hC'
  rw [Qzl, qc h]
  obtain ⟨m, rfl, hok⟩ := Qhv h
  have hL' := hL r m hok
  have tl := Qq .i64 (QaC (ZI r).toNat m)
  rw [qu] at hL' ⊢
  rw [Xh]
  generalize QaC (ZI r).toNat m = LL at *
  simp (disch := omega) only [rq, simprocAttr, JI]
  refine Qa hC' ?_
  simp (disch := omega) only [rq, simprocAttr]
  refine QcF.vo hL' ?_
  simp (disch := omega) only [rq, simprocAttr, shr]
  simp [QI, Qz, frzL, Qv, frzL_T _ tl]
 ·rw [h] at hC'
  rw [Qzl, qa (by omega)]
  simp (disch := omega) only [rq, simprocAttr, JI]
  refine Qa hC' ?_
  simp (disch := omega) only [rq, simprocAttr]
  simp [QI, Qz, frzL, Qv]
def rdF (b : List UInt8) (o k : Nat) : Nat := leN ((b.drop o).take k)
def QiO : List UInt8 := [84, 84, 65, 49]
def hrN (b : List UInt8) : Int :=
 if b.take 4 ≠ QiO.take b.length then 12
 else if b.length < 22 then 24
 else if Qc1 (b.take 18) ≠ rdF b 18 4 then 22
 else if ¬ shP (rdF b 4 2) (rdF b 6 2) (rdF b 8 2) (rdF b 10 4) (rdF b 14 4) then 12
 else if ¬ Ql7 (rdF b 6 2) (rdF b 10 4) (rdF b 14 4) then 4 else 0
def hrA (b : List UInt8) : AV := if hrN b = 0 then .tup [hdA (rdF b 4 2) (rdF b 6 2) (rdF b 8 2) (rdF b 10 4) (rdF b 14 4), .int .i64 0] else .tup [hdA 0 0 0 0 0, .int .i64 (hrN b)]
theorem Qw4 (b : List UInt8) : isD (hrA b) = true := by unfold hrA; split <;> rfl
theorem Qat (b : List UInt8) (o k : Nat) : rdF b o k < 2 ^ (8 * k) := by
 have h1 := Qhu ((b.drop o).take k)
 have h2 : 2 ^ (8 * ((b.drop o).take k).length) ≤ 2 ^ (8 * k) := qq (by omega) (by rw [qh]; omega)
 rw [rdF]; omega
def QkW (P : Prg) (f : Nat) : Prop := ∀ s t : List UInt8, s.length ≤ 1000000 → t.length ≤ 1000000 → VC P f [.str s, .str t] (.bool (s.take t.length == t))
theorem Qor {P : Prg} {f : Nat} (bd : Qf P f 18 [.tmp 4] QZ) : QkW P f := by
 intro s t hs ht
 refine Qn rfl rfl bd ?_
 by_cases h : t.length ≤ s.length
 ·have hs1 : Qbh .eql (s.take t.length) t = some (.bool (s.take t.length == t)) := rfl
  simp (disch := omega) only [rq, simprocAttr, QZ, hs1]
 ·have : (s.take t.length == t) = false := qT.2 fun e => by
   have := congrArg List.length e
   rw [qh] at this
   omega
  rw [this]
  simp (disch := omega) only [rq, simprocAttr, QZ]
theorem QgH {P : Prg} {f fS : Nat} (bd : Qf P f 8 [.tmp 4] (Jl fS)) (hS : QkW P fS) : QkW P f := by
 intro s t hs ht
 refine Qn rfl rfl bd ?_
 have hS' := hS s t hs ht
 simp (disch := omega) only [rq, simprocAttr, Jl]
 refine Qa hS' ?_
 simp (disch := omega) only [rq, simprocAttr]
def hrC (a b c d e : Nat) : Nat → List AV
 | 0 => [.int .i64 0, .int .i64 0, .int .i64 0, .int .i64 0, .int .i64 0]
 | 1 => [.int .i64 a, .int .i64 0, .int .i64 0, .int .i64 0, .int .i64 0]
 | 2 => [.int .i64 a, .int .i64 b, .int .i64 0, .int .i64 0, .int .i64 0]
 | 3 => [.int .i64 a, .int .i64 b, .int .i64 c, .int .i64 0, .int .i64 0]
 | 4 => [.int .i64 a, .int .i64 b, .int .i64 c, .int .i64 d, .int .i64 0]
 | _ => [.int .i64 a, .int .i64 b, .int .i64 c, .int .i64 d, .int .i64 e]
def hrT : Nat → Nat
 | 0 => 4
 | 1 => 6
 | 2 => 8
 | 3 => 10
 | 4 => 14
 | _ => 18
def QaK (P : Prg) (g : Nat) : Prop := ∀ b : List UInt8, b.length ≤ 1000000 → VC P g [bs b] (hrA b)
set_option maxHeartbeats 2000000 in
theorem Qrg {P : Prg} {g fP fA fS fH fF t0 t1 g0 : Nat} (bd : Qf P g 86 [.cell 2 t0, .tmp 3] (XB fP fA fS fH fF t0 t1 g0)) (hP : QkW P fP) (hA : Qja P fA) (hS : QpR P fS) (hH : QcY P fH) (hF : Qtt P fF) (ht : ZE P t0 = some (some 5)) (h0 : P.G.lookup g0 = some QC4) : QaK P g := by
 intro b hb
 refine Qn (by simp [isDL, Qr]) (Qw4 b) bd ?_
 have hP' := hP QiO (b.take 4) (by simp [QiO]) (by rw [qh]; omega)
 have hpre : (QiO.take (b.take 4).length == b.take 4) = decide (b.take 4 = QiO.take b.length) := by
  rw [qh]
  have : QiO.take (min 4 b.length) = QiO.take b.length := by
   rcases Nat.le_total 4 b.length with h | h
   ·rw [qA h, qf (by simp [QiO]), qf (by simp [QiO]; omega)]
   ·rw [jH h]
  rw [this, Yj, beq_iff_eq, qr]
  exact ⟨fun h => h.symm, fun h => h.symm⟩
 rw [hpre] at hP'
 have hP0 : VC P fP [.str [84, 84, 65, 49], .str (b.take 4)] (.bool (decide (b.take 4 = QiO.take b.length))) := hP'
 clear hP'
 have hmin : min 4 b.length = (b.take 4).length := by rw [qh]
 have hu4 : (u8 b).take (min 4 b.length) = u8 (b.take 4) := by
  rcases Nat.le_total 4 b.length with h | h
  ·rw [qA h, QJ]
  ·rw [jH h, QJ, qf (l := b) (by omega), qf (l := b) (by omega)]
 have hd4 := Q6 (b.take 4)
 have hmi : (if (b.length : Int) < 4 then (b.length : Int) else 4) = ((min 4 b.length : Nat) : Int) := by split <;> omega
 have hm1 : min 4 b.length ≤ b.length := Yx _ _
 clear hmin
 obtain ⟨mm, hm4⟩ : ∃ m, min 4 b.length = m := ⟨_, rfl⟩
 rw [hm4] at hmi hu4 hm1
 have hm2 : min mm b.length = mm := qA hm1
 by_cases c1 : b.take 4 = QiO.take b.length
 case neg =>
  have e : hrN b = 12 := by rw [hrN, qc c1]
  rw [decide_eq_false c1] at hP0
  rw [hrA, qa (by omega), e]
  rw [bs]
  simp (disch := omega) only [rq, simprocAttr, XB, hmi, hu4, hd4, yn, hm2, hm4]
  refine Qa hP0 ?_
  simp (disch := omega) only [rq, simprocAttr, QL, ht, Qm, hdA]
 rw [decide_eq_true c1] at hP0
 by_cases c2 : b.length < 22
 ·have e : hrN b = 24 := by rw [hrN, qa (by simpa using c1), qc c2]
  rw [hrA, qa (by omega), e]
  rw [bs]
  simp (disch := omega) only [rq, simprocAttr, XB, hmi, hu4, hd4, yn, hm2, hm4]
  refine Qa hP0 ?_
  simp (disch := omega) only [rq, simprocAttr, QL, ht, Qm, hdA]
 obtain rfl : mm = 4 := by omega
 have hA' := fun (a w : Nat) (h1 : 1 ≤ w) (h2 : w ≤ 8) (h3 : a + w ≤ 22) => by
  have := hA b a w (by omega) h1 h2 (by omega)
  rw [qc (by omega), bs, ← rdF] at this
  exact this
 have A18 := hA' 18 4 (by omega) (by omega) (by omega)
 have A0 := hA' 4 2 (by omega) (by omega) (by omega)
 have A1 := hA' 6 2 (by omega) (by omega) (by omega)
 have A2 := hA' 8 2 (by omega) (by omega) (by omega)
 have A3 := hA' 10 4 (by omega) (by omega) (by omega)
 have A4 := hA' 14 4 (by omega) (by omega) (by omega)
 have r18 := Qat b 18 4
 have r0 := Qat b 4 2
 have r1 := Qat b 6 2
 have r2 := Qat b 8 2
 have r3 := Qat b 10 4
 have r4 := Qat b 14 4
 have hl18 : (b.take 18).length = 18 := by rw [qh]; omega
 have hS' := hS (b.take 18)
 rw [qa (by omega), ← Qc1, bs, hl18] at hS'
 have hsm : Qc1 (b.take 18) < 4294967296 := by unfold Qc1; omega
 have hu18 : (u8 b).take 18 = u8 (b.take 18) := QJ _ _
 have hH' := hH (rdF b 4 2) (rdF b 6 2) (rdF b 8 2) (rdF b 10 4) (rdF b 14 4)
 have hF' := hF (rdF b 4 2) (rdF b 6 2) (rdF b 8 2) (rdF b 10 4) (rdF b 14 4)
 have g0' : QBc P.G g0 = .cell [.int .i64 2, .int .i64 2, .int .i64 2, .int .i64 4, .int .i64 4] := by simp [QBc, h0, QC4]
 by_cases c3 : Qc1 (b.take 18) = rdF b 18 4
 case neg =>
  have e : hrN b = 22 := by rw [hrN, qa (by simpa using c1), qa c2, qc c3]
  rw [hrA, qa (by omega), e]
  generalize rdF b 18 4 = R18 at *
  generalize Qc1 (b.take 18) = SM at *
  have c3' : ¬ (SM : Int) = (R18 : Int) := by omega
  rw [bs]
  simp (disch := omega) only [rq, simprocAttr, XB, hmi, hu4, hd4, yn, hm2, hm4]
  refine Qa hP0 ?_
  simp (disch := omega) only [rq, simprocAttr]
  refine Qa A18 ?_
  simp (disch := omega) only [rq, simprocAttr, hu18]
  refine Qa hS' ?_
  simp (disch := omega) only [rq, simprocAttr, QL, ht, Qm, hdA]
 have hN : hrN b = if ¬ shP (rdF b 4 2) (rdF b 6 2) (rdF b 8 2) (rdF b 10 4) (rdF b 14 4) then 12
   else if ¬ Ql7 (rdF b 6 2) (rdF b 10 4) (rdF b 14 4) then 4 else 0 := by rw [hrN, qa (by simpa using c1), qa c2, qa (by simpa using c3)]
 rw [hrA, hN]
 rw [← c3] at A18
 clear hN hA'
 generalize rdF b 4 2 = v0 at *
 generalize rdF b 6 2 = v1 at *
 generalize rdF b 8 2 = v2 at *
 generalize rdF b 10 4 = v3 at *
 generalize rdF b 14 4 = v4 at *
 generalize Qc1 (b.take 18) = SM at *
 rw [bs]
 rw [hdA] at hH' hF'
 generalize hE : (if ¬ shP v0 v1 v2 v3 v4 then (12 : Int) else if ¬ Ql7 v1 v3 v4 then 4 else 0) = E
 simp (disch := omega) only [rq, simprocAttr, XB, hmi, hu4, hd4, yn, hm2, hm4]
 refine Qa hP0 ?_
 simp (disch := omega) only [rq, simprocAttr]
 refine Qa A18 ?_
 simp (disch := omega) only [rq, simprocAttr, hu18]
 refine Qa hS' ?_
 simp (disch := omega) only [rq, simprocAttr, g0']
 refine Qg (ι := Nat) (fun j => ⟨[(45, .int .i64 j), (44, .agg [.int .i64 2, .int .i64 2, .int .i64 2, .int .i64 4, .int .i64 4]), (9, .int .i64 (hrT j)), (8, .ref 1 1 0), (2, .ref 0 1 0), (0, .list b.length (u8 b))], [⟨t0, 5, 1, [.int .i64 0, .int .i64 0, .int .i64 0, .int .i64 0, .int .i64 0], 0⟩, ⟨t1, 5, 1, hrC v0 v1 v2 v3 v4 j, 0⟩]⟩) (fun j => j ≤ 5) (fun j => 5 - j) 0 (Qk (by simp [Am.look, hrT, hrC])) (by omega) ?_
 intro j hj
 have hj5 : j = 0 ∨ j = 1 ∨ j = 2 ∨ j = 3 ∨ j = 4 ∨ j = 5 := by omega
 rcases hj5 with rfl | rfl | rfl | rfl | rfl | rfl
 ·simp (disch := omega) only [rq, simprocAttr, hrT, hrC]
  refine Qa A0 ?_
  simp (disch := omega) only [rq, simprocAttr]
  exact ⟨1, by omega, by omega, Qk (by simp [Am.look, hrT])⟩
 ·simp (disch := omega) only [rq, simprocAttr, hrT, hrC]
  refine Qa A1 ?_
  simp (disch := omega) only [rq, simprocAttr]
  exact ⟨2, by omega, by omega, Qk (by simp [Am.look, hrT])⟩
 ·simp (disch := omega) only [rq, simprocAttr, hrT, hrC]
  refine Qa A2 ?_
  simp (disch := omega) only [rq, simprocAttr]
  exact ⟨3, by omega, by omega, Qk (by simp [Am.look, hrT])⟩
 ·simp (disch := omega) only [rq, simprocAttr, hrT, hrC]
  refine Qa A3 ?_
  simp (disch := omega) only [rq, simprocAttr]
  exact ⟨4, by omega, by omega, Qk (by simp [Am.look, hrT])⟩
 ·simp (disch := omega) only [rq, simprocAttr, hrT, hrC]
  refine Qa A4 ?_
  simp (disch := omega) only [rq, simprocAttr]
  exact ⟨5, by omega, by omega, Qk (by simp [Am.look, hrT])⟩
 ·by_cases d1 : shP v0 v1 v2 v3 v4
  case neg =>
   rw [qc d1] at hE
   subst hE
   rw [qa (by omega)]
   rw [decide_eq_false d1] at hH'
   simp (disch := omega) only [rq, simprocAttr, hrT, hrC]
   refine Qa hH' ?_
   simp (disch := omega) only [rq, simprocAttr, QL, ht, Qm, hdA]
  rw [qa (fun q => q d1)] at hE
  rw [decide_eq_true d1] at hH'
  have hF2 := hF' d1.2.2.1 d1.2.2.2.1
  by_cases d2 : Ql7 v1 v3 v4
  ·rw [qa (fun q => q d2)] at hE
   subst hE
   rw [qc rfl]
   rw [decide_eq_true d2] at hF2
   simp (disch := omega) only [rq, simprocAttr, hrT, hrC]
   refine Qa hH' ?_
   simp (disch := omega) only [rq, simprocAttr]
   refine Qa hF2 ?_
   simp (disch := omega) only [rq, simprocAttr, QL, ht, Qm, hdA]
  ·rw [qc d2] at hE
   subst hE
   rw [qa (by omega)]
   rw [decide_eq_false d2] at hF2
   simp (disch := omega) only [rq, simprocAttr, hrT, hrC]
   refine Qa hH' ?_
   simp (disch := omega) only [rq, simprocAttr]
   refine Qa hF2 ?_
   simp (disch := omega) only [rq, simprocAttr, QL, ht, Qm, hdA]
def QxZ (P : Prg) (f : Nat) : Prop := ∀ b p : List UInt8, VC P f [bs b, .str p] (.bool true)
def QpP (P : Prg) (f : Nat) : Prop := ∀ s t : List UInt8, s.length ≤ 1000000 → t.length ≤ 1000000 → VC P f [bs s, bs t] (.bool (s.take t.length == t))
theorem Qi0 {P : Prg} {f fE : Nat} (bd : Qf P f 18 [.tmp 4] (XR fE)) (hE : QbP P fE) : QpP P f := by
 intro s t hs ht
 refine Qn (by simp [isDL, Qr]) rfl bd ?_
 by_cases h : t.length ≤ s.length
 ·have hE' := hE (s.take t.length) t
  have hl : (s.take t.length).length = t.length := by rw [qh]; omega
  have hu : (u8 s).take t.length = u8 (s.take t.length) := QJ _ _
  rw [bs, bs, hl] at hE'
  simp only [bs]
  simp (disch := omega) only [rq, simprocAttr, XR, hu, yn]
  refine Qa hE' ?_
  simp (disch := omega) only [rq, simprocAttr]
 ·have : (s.take t.length == t) = false := qT.2 fun e => by
   have := congrArg List.length e
   rw [qh] at this
   omega
  rw [this]
  simp only [bs]
  simp (disch := omega) only [rq, simprocAttr, XR]
def Qr4 (g : Nat) (P : Prg) (f : Nat) : Prop := ∀ b : List UInt8, VC P f [bs b] (.fn (.func g) [] [.cell [bs b]])
theorem QtL {P : Prg} {f g t0 : Nat} (bd : Qf P f 4 [.tmp 2] (QcO g t0)) : Qr4 g P f := by
 intro b
 refine Qi 1 (by simp [isDL, Qr]) (by simp [isD, isDL, Qr]) (Qb bd (by simp) ?_)
 have tb := Q9 b
 simp (disch := omega) only [rq, simprocAttr, QcO, bs]
 simp [QI, Qz, frzL, Qv, frzL_T _ tb]
def hdC (p : List UInt8) (c x r : Int) (n d : Nat) (F : AV) (y z : Nat) : List AV := [.int .i64 (QDO p), .int .i64 c, .int .i64 x, .int .i64 r, .int .i64 n, .int .i64 0, .int .i64 22, .int .i64 ((22 + d : Nat) : Int), .int .i64 y, .int .i64 z, F]
section
variable {P : Prg} {c x r : Int} {l NL : List Int} {p B : List UInt8} {FF : List (List UInt8)} {n d : Nat}
end
structure Rp where
 f : Int
 c : Int
 b : Int
 r : Int
 n : Int
 m : Int
 l : List Int
 e : Int
 p : Int
 q : Int
 g : Int
def Rp.av (x : Rp) : AV := .agg [.int .i64 x.f, .int .i64 x.c, .int .i64 x.b, .int .i64 x.r, .int .i64 x.n, .int .i64 x.m, Xh x.l, .int .i64 x.e, .int .u8 x.p, .int .i64 x.q, .int .i64 x.g]
def Rp.zero : Rp := ⟨0, 0, 0, 0, 0, 0, [], 0, 0, 0, 0⟩
def QDz (x : Rp) : Prop := hdN x.f x.c x.b x.r x.n = 0 ∧ skN x.l = 0 ∧ (QaC (ZI x.r).toNat x.n.toNat).length = x.l.length ∧ 22 ≤ x.m ∧ x.m ≤ 100000 ∧ 0 ≤ x.e ∧ x.e ≤ 99 ∧ 0 ≤ x.p ∧ x.p ≤ 6 ∧ 0 ≤ x.q ∧ x.q < x.l.length ∧ 0 ≤ x.g ∧ x.g ≤ 12000
instance decRpOk (x : Rp) : Decidable (QDz x) := by unfold QDz; exact inferInstance
theorem QyD : ∀ {l : List Int} {m : Int}, Qno m l → ∀ v ∈ l, 5 ≤ v ∧ v ≤ m := by
 intro l
 induction l with
 | nil => intro m _ v hv; cases hv
 | cons a l ih =>
  intro m h v hv
  simp only [Qno] at h
  rcases ym.1 hv with rfl | hv
  ·exact ⟨h.1, h.2.1⟩
  ·have := ih h.2.2 v hv
   omega
theorem Qz7 (x : Rp) : isD x.av = true := by simp [Rp.av, isD, isDL, XM]
end Go.Am
