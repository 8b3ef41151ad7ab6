/- What the functions that the law reaches return, for every program that has their code; the conditions stand in each statement. -/
import Derived.Lib.ItoaLen
import Derived.Test.YthckgihcbjpjeaaGreatDoorLinesTellsL3
set_option linter.unusedSectionVars false
set_option linter.unusedSimpArgs false
set_option linter.unusedVariables false
namespace Go.Am
open Go.RowKit
def prF (b : List UInt8) : Nat → Nat → List Int × Int
 | 0, _ => ([], 0)
 | k + 1, a => if (szN (b.drop a)).2 = 6 then ([], 0) else if (szN (b.drop a)).2 ≠ 0 then ([], (szN (b.drop a)).2) else if 4000 < a + (szN (b.drop a)).1.toNat then ([], 4) else if (prF b k (a + (szN (b.drop a)).1.toNat)).2 ≠ 0 then ([], (prF b k (a + (szN (b.drop a)).1.toNat)).2) else ((szN (b.drop a)).1 :: (prF b k (a + (szN (b.drop a)).1.toNat)).1, 0)
theorem QzT (b : List UInt8) : ∀ k a, frF b k a = (if (prF b k a).2 = 0 then (a : Int) + (prF b k a).1.sum else 0, (prF b k a).2)
 | 0, a => by simp [frF, prF]
 | k + 1, a => by
  have hs := Qho (b.drop a)
  have ih := QzT b k (a + (szN (b.drop a)).1.toNat)
  unfold frF prF
  by_cases h1 : (szN (b.drop a)).2 = 6
  ·rw [qc h1, qc h1]
   simp
  rw [qa h1, qa h1]
  by_cases h2 : (szN (b.drop a)).2 ≠ 0
  ·rw [qc h2, qc h2]
   dsimp only
   rw [qa h2]
  rw [qa h2, qa h2]
  by_cases h3 : 4000 < a + (szN (b.drop a)).1.toNat
  ·rw [qc h3, qc h3]
   rfl
  rw [qa h3, qa h3, ih]
  by_cases h : (prF b k (a + (szN (b.drop a)).1.toNat)).2 = 0
  ·have hn : ¬ ((prF b k (a + (szN (b.drop a)).1.toNat)).2 ≠ 0) := fun hh => hh h
   rw [qc h, qa hn]
   dsimp only
   rw [qc rfl, h, yB]
   congr 1
   omega
  ·rw [qa h, qc h]
   dsimp only
   rw [qa h]
theorem Qq4 (b : List UInt8) : ∀ k a, (prF b k a).1.length ≤ k ∧ ∀ v ∈ (prF b k a).1, 0 ≤ v ∧ v ≤ 4000
 | 0, a => by simp [prF]
 | k + 1, a => by
  have hs := Qho (b.drop a)
  have ih := Qq4 b k (a + (szN (b.drop a)).1.toNat)
  unfold prF
  split
  ·simp
  split
  ·simp
  split
  ·simp
  split
  ·simp
  ·refine ⟨by simp only [qV]; omega, fun v hv => ?_⟩
   rcases ym.1 hv with rfl | hv
   ·omega
   ·exact ih.2 v hv
def Qjl (P : Prg) (f : Nat) : Prop := ∀ b : List UInt8, b.length ≤ 1000000 → VC P f [bs b] (.tup [Xh (prF b 402 0).1, .int .i64 (prF b 402 0).2])
set_option maxHeartbeats 1000000 in
theorem QqN {P : Prg} {f fS fF t0 : Nat} (bd : Qf P f 39 [.tmp 2, .tmp 3] (X5 fS fF t0)) (hS : Qef P fS) (hF : Qcr P fF) : Qjl P f := by
 intro b hb
 refine Qi 1 (by simp [isDL, Qr]) (by simp [isD, isDL, XM]) (Qb bd (by simp) ?_)
 have hlu := Qe b
 obtain ⟨T, hT⟩ : ∃ T, T = prF b 402 0 := ⟨_, rfl⟩
 rw [← hT, bs]
 simp (maxSteps := 4000000) (disch := omega) only [rq, simprocAttr, X5]
 refine Qg (ι := Nat × Nat × List Int) (fun i => ⟨[(5, .int .i64 i.2.1), (4, .own 0 i.2.2.length), (0, .list b.length (u8 b))], [⟨t0, 1, i.2.2.length, ks .i64 i.2.2, 0⟩]⟩) (fun i => i.2.1 ≤ 4000 ∧ i.2.1 ≤ b.length ∧ 4001 ≤ i.2.1 + 10 * i.1 ∧ i.2.2.length ≤ i.2.1 ∧ T = if (prF b i.1 i.2.1).2 ≠ 0 then ([], (prF b i.1 i.2.1).2) else (i.2.2 ++ (prF b i.1 i.2.1).1, 0)) (fun i => i.1) (402, 0, []) (Le.trans (Qa2 4 t0 1 (by decide) rfl) (Qh)) ?_ ?_
 ·refine ⟨yF _, yF _, by simp only; omega, qj _, ?_⟩
  rw [hT]
  simp only [yR]
  split
  ·rename_i h
   unfold prF at h ⊢
   split
   ·rfl
   split
   ·rfl
   split
   ·rfl
   split
   ·rfl
   ·rename_i h1 h2 h3 h4; rw [qa h1, qa h2, qa h3, qa h4] at h; exact absurd rfl h
  ·rename_i h
   have h := Decidable.not_not.1 h
   exact Prod.ext rfl h
 rintro ⟨k', a, L⟩ ⟨ha1, ha2, hak, hLa, hTe⟩
 simp only at ha1 ha2 hak hLa hTe ⊢
 obtain ⟨k, rfl⟩ : ∃ k, k' = k + 1 := ⟨k' - 1, by omega⟩
 have hse := Qho (b.drop a)
 rw [ql] at hse
 have hS' := hS (b.drop a) (by rw [ql]; omega)
 have hF' := hF (b.drop a) (by rw [ql]; omega)
 have hsl : ((u8 b).drop a).take (b.length - a) = u8 (b.drop a) := by rw [QE]; exact qf (by rw [Qe, ql]; omega)
 rw [bs, ql] at hS' hF'
 have kL := Qd .i64 L
 have tL := Qq .i64 L
 unfold prF at hTe
 have hsz : szN (b.drop a) = if (idN (b.drop a)).2 ≠ 6 then idN (b.drop a) else apF (b.drop a) := rfl
 have walk : ∀ (n : Nat) (e : Int), szN (b.drop a) = ((n : Int), e) → (idN (b.drop a) = ((n : Int), e) ∧ e ≠ 6) ∨ ((idN (b.drop a)).2 = 6 ∧ apF (b.drop a) = ((n : Int), e)) := fun n e h => by
  rw [hsz] at h
  by_cases h6 : (idN (b.drop a)).2 ≠ 6
  ·rw [qc h6] at h
   exact .inl ⟨h, by rw [h] at h6; exact h6⟩
  ·rw [qa h6] at h
   exact .inr ⟨Decidable.not_not.1 h6, h⟩
 generalize hX : szN (b.drop a) = X at *
 obtain ⟨n, e⟩ := X
 simp only at hse hTe
 have hn0 : 0 ≤ n ∧ n ≤ 4000 := by omega
 obtain ⟨m, rfl⟩ : ∃ m : Nat, n = m := ⟨n.toNat, by omega⟩
 have walk' := walk m e rfl
 clear walk hsz
 rw [qu] at hTe
 generalize idN (b.drop a) = I at *
 generalize apF (b.drop a) = J at *
 have pr := Qq4 b k (a + m)
 have ksn : ks .i64 L ++ [.int .i64 m] = ks .i64 (L ++ [(m : Int)]) := by simp [ks]
 by_cases h6 : e = 6
 ·subst h6
  rw [qc rfl] at hTe
  simp only [ne_eq, not_true_eq_false, yl, qX] at hTe
  rw [hTe]
  rcases walk' with ⟨_, h⟩ | ⟨h1, rfl⟩
  ·exact absurd rfl h
  ·simp (maxSteps := 4000000) (disch := omega) only [rq, simprocAttr, hsl]
   refine Qa hS' ?_
   simp (maxSteps := 4000000) (disch := omega) only [rq, simprocAttr, h1, hsl]
   refine Qa hF' ?_
   simp (maxSteps := 4000000) (disch := omega) only [rq, simprocAttr]
   simp [QI, Qz, frzL, Qv, Xh, frzL_T _ tL]
 rw [qa h6] at hTe
 by_cases h0 : e ≠ 0
 ·rw [qc h0] at hTe
  simp only [qc h0] at hTe
  rw [hTe]
  rcases walk' with ⟨rfl, _⟩ | ⟨h1, rfl⟩
  ·simp (maxSteps := 4000000) (disch := omega) only [rq, simprocAttr, hsl]
   refine Qa hS' ?_
   simp (maxSteps := 4000000) (disch := omega) only [rq, simprocAttr]
   simp [QI, Qz, frzL, Qv, Xh, ks]
  ·simp (maxSteps := 4000000) (disch := omega) only [rq, simprocAttr, hsl]
   refine Qa hS' ?_
   simp (maxSteps := 4000000) (disch := omega) only [rq, simprocAttr, h1, hsl]
   refine Qa hF' ?_
   simp (maxSteps := 4000000) (disch := omega) only [rq, simprocAttr]
   simp [QI, Qz, frzL, Qv, Xh, ks]
 have h0' : e = 0 := Decidable.not_not.1 h0
 subst h0'
 rw [qa h0] at hTe
 by_cases h4 : 4000 < a + m
 ·rw [qc h4] at hTe
  simp only [ne_eq, (by omega : ¬ (4 : Int) = 0), not_false_eq_true, yf] at hTe
  rw [hTe]
  rcases walk' with ⟨rfl, _⟩ | ⟨h1, rfl⟩
  ·simp (maxSteps := 4000000) (disch := omega) only [rq, simprocAttr, hsl]
   refine Qa hS' ?_
   simp (maxSteps := 4000000) (disch := omega) only [rq, simprocAttr]
   simp [QI, Qz, frzL, Qv, Xh, ks]
  ·simp (maxSteps := 4000000) (disch := omega) only [rq, simprocAttr, hsl]
   refine Qa hS' ?_
   simp (maxSteps := 4000000) (disch := omega) only [rq, simprocAttr, h1, hsl]
   refine Qa hF' ?_
   simp (maxSteps := 4000000) (disch := omega) only [rq, simprocAttr]
   simp [QI, Qz, frzL, Qv, Xh, ks]
 rw [qa h4] at hTe
 have hTe2 : T = if (prF b k (a + m)).2 ≠ 0 then ([], (prF b k (a + m)).2) else ((L ++ [(m : Int)]) ++ (prF b k (a + m)).1, 0) := by
  rw [hTe]
  by_cases h : (prF b k (a + m)).2 ≠ 0
  ·rw [qc h, qc h, qc h]
  ·rw [qa h, qa h]; simp
 have last : ∀ fr, Le 0 ⟨(4, .own 0 (L.length + 1)) :: (5, .int .i64 ((a + m : Nat) : Int)) :: (0, .list b.length (u8 b)) :: fr, [⟨t0, 1, L.length + 1, ks .i64 (L ++ [(m : Int)]), 0⟩, ⟨t0, 1, 1, [.int .i64 m], 0⟩]⟩ ⟨[(5, .int .i64 ((a + m : Nat) : Int)), (4, .own 0 (L ++ [(m : Int)]).length), (0, .list b.length (u8 b))], [⟨t0, 1, (L ++ [(m : Int)]).length, ks .i64 (L ++ [(m : Int)]), 0⟩]⟩ := fun fr => by
  have tb := Q9 b
  have tL2 := Qq .i64 (L ++ [(m : Int)])
  rw [qx]
  refine Le.drop 1 2 (by omega) rfl (by simp [Am.look, Qz, frzL, Qv, frzL_T _ tb]) ?_
  intro i z hz
  match i, hz with
  | 0, hz => cases hz; exact ⟨_, rfl, by simp [Qz, frzL, Qv, frzL_T _ tL2]⟩
  | i + 1, hz => simp at hz
 rcases walk' with ⟨rfl, _⟩ | ⟨h1, rfl⟩
 ·simp (maxSteps := 4000000) (disch := omega) only [rq, simprocAttr, hsl]
  refine Qa hS' ?_
  simp (maxSteps := 4000000) (disch := omega) only [rq, simprocAttr, kL, ksn]
  refine ⟨(k, a + m, L ++ [(m : Int)]), ⟨by simp only; omega, by simp only; omega, by simp only; omega, by simp; omega, hTe2⟩, by simp, ?_⟩
  refine Le.trans ?_ (last [])
  exact Qh
 ·simp (maxSteps := 4000000) (disch := omega) only [rq, simprocAttr, hsl]
  refine Qa hS' ?_
  simp (maxSteps := 4000000) (disch := omega) only [rq, simprocAttr, h1, hsl]
  refine Qa hF' ?_
  simp (maxSteps := 4000000) (disch := omega) only [rq, simprocAttr, kL, ksn]
  refine ⟨(k, a + m, L ++ [(m : Int)]), ⟨by simp only; omega, by simp only; omega, by simp only; omega, by simp; omega, hTe2⟩, by simp, ?_⟩
  refine Le.trans ?_ (last [])
  exact Qh
theorem QqO {P : Prg} {f fP : Nat} (bd : Qf P f 27 [.tmp 2, .tmp 3] (X6 fP)) (hP : Qjl P fP) : QaL P f := by
 intro b hb
 refine Qn (by simp [isDL, Qr]) rfl bd ?_
 have hP' := hP b hb
 have hb1 := Qq4 b 402 0
 have hfr := QzT b 402 0
 have hnil : (prF b 402 0).2 ≠ 0 → (prF b 402 0).1 = [] := fun h => by
  unfold prF at h ⊢
  split
  ·rfl
  split
  ·rfl
  split
  ·rfl
  split
  ·rfl
  ·rename_i h1 h2 h3 h4; rw [qa h1, qa h2, qa h3, qa h4] at h; exact absurd rfl h
 have e : frN b = ((prF b 402 0).1.sum, (prF b 402 0).2) := by
  rw [frN, hfr]
  by_cases h : (prF b 402 0).2 = 0
  ·rw [qc h]; simp
  ·rw [qa h, hnil h]; rfl
 rw [e]
 clear e hfr hnil
 generalize prF b 402 0 = R at *
 obtain ⟨L, e⟩ := R
 simp only at hP' hb1 ⊢
 have hsum : ∀ k, 0 ≤ (L.take k).sum ∧ (L.take k).sum ≤ 4000 * k := by
  intro k
  induction k with
  | zero => simp
  | succ k ih =>
   by_cases hk : k < L.length
   ·rw [qm hk, jk]
    have := hb1.2 _ (yb hk)
    simp only [yB, jU]
    omega
   ·rw [qf (by omega)]
    rw [qf (by omega)] at ih
    omega
 have kL := Qd .i64 L
 rw [Xh] at hP'
 rw [bs] at hP' ⊢
 simp (maxSteps := 4000000) (disch := omega) only [rq, simprocAttr, X6]
 refine Qa hP' ?_
 simp (maxSteps := 4000000) (disch := omega) only [rq, simprocAttr]
 refine Qg (ι := Nat) (fun k => ⟨[(7, .int .i64 k), (6, .int .i64 (L.take k).sum), (5, .int .i64 e), (4, .list L.length (ks .i64 L))], []⟩) (fun k => k ≤ L.length) (fun k => L.length - k) 0 (Qh) (yF _) ?_
 intro k hk
 have hs := hsum k
 by_cases hlt : k < L.length
 ·have e2 := J8 (K := .i64) (l := L) (i := k) hlt
  have hs2 := hsum (k + 1)
  have hs1 : (L.take (k + 1)).sum = (L.take k).sum + L.getD k 0 := by
   rw [qm hlt]
   simp only [jk, yB, jU, qe, qg hlt, yD, Yf]
  generalize (L.take k).sum = s at *
  generalize L.getD k 0 = z at *
  simp (maxSteps := 4000000) (disch := omega) only [rq, simprocAttr, e2]
  refine ⟨k + 1, by omega, by omega, ?_⟩
  rw [hs1]
  exact Qh
 ·obtain rfl : k = L.length := by omega
  rw [qW]
  simp (maxSteps := 4000000) (disch := omega) only [rq, simprocAttr]
theorem QoH {P : Prg} {f fB : Nat} (bd : Qf P f 29 [.tmp 2, .tmp 3] (ZO fB)) (hB : QcZ P fB) : Qcq P f := by
 intro b hb
 refine Qn (by simp [isDL, Qr]) rfl bd ?_
 have hlu := Qe b
 unfold bhN
 by_cases h4 : 4000 < b.length
 ·rw [qc h4, bs]
  simp (maxSteps := 4000000) (disch := omega) only [rq, simprocAttr, ZO]
 rw [qa h4]
 generalize hR : bhF b.length b 0 = R
 rw [bs]
 simp (maxSteps := 4000000) (disch := omega) only [rq, simprocAttr, ZO]
 refine Qg (ι := Nat × List UInt8) (fun i => ⟨[(4, .int .i64 i.1), (0, .list i.2.length (u8 i.2))], []⟩) (fun i => i.1 + i.2.length ≤ 4000 ∧ ∃ k, i.2.length ≤ k ∧ bhF k i.2 i.1 = R) (fun i => i.2.length) (0, b) (Qh) ⟨by simp only; omega, _, qj _, hR⟩ ?_
 rintro ⟨c, d⟩ ⟨hcd, k, hk, hr⟩
 simp only at hcd hk hr ⊢
 have hdu := Qe d
 by_cases hd : d = []
 ·subst hd
  have hr' : R = ((c : Int), 0) := by
   rw [← hr]
   cases k with
   | zero => rfl
   | succ k => rw [bhF, qc rfl]
  rw [hr']
  simp (maxSteps := 4000000) (disch := omega) only [rq, simprocAttr, yE]
 ·have hl : 1 ≤ d.length := by cases d with
   | nil => exact absurd rfl hd
   | cons a l => simp
  obtain ⟨k, rfl⟩ : ∃ k', k = k' + 1 := ⟨k - 1, by omega⟩
  rw [bhF, qa hd] at hr
  have hok := QAl d
  have hB' := hB d (by omega)
  rw [bs] at hB'
  by_cases hz : (apB d).1 = 0
  ·rw [qc hz] at hr
   rw [← hr]
   have he : (apB d).2 ≠ 0 := by omega
   generalize apB d = x at *
   simp (maxSteps := 4000000) (disch := omega) only [rq, simprocAttr]
   refine Qa hB' ?_
   simp (maxSteps := 4000000) (disch := omega) only [rq, simprocAttr]
  ·rw [qa hz] at hr
   have he : (apB d).2 = 0 := by omega
   rw [he] at hB'
   generalize (apB d).1 = n at *
   obtain ⟨n, rfl⟩ : ∃ m : Nat, n = m := ⟨n.toNat, by omega⟩
   have hn : 32 ≤ n ∧ n ≤ d.length := by omega
   rw [qu] at hr
   have ht : (u8 d).take (d.length - n) = u8 (d.take (d.length - n)) := QJ _ _
   have htl : (d.take (d.length - n)).length = d.length - n := by rw [qh]; omega
   simp (maxSteps := 4000000) (disch := omega) only [rq, simprocAttr]
   refine Qa hB' ?_
   have e1 : (d.length : Int) - (n : Int) = ((d.length - n : Nat) : Int) := by omega
   simp (maxSteps := 4000000) (disch := omega) only [rq, simprocAttr, e1, ht, yn]
   refine ⟨(c + 1, d.take (d.length - n)), ⟨by simp only [htl]; omega, k, by simp only [htl]; omega, hr⟩, by simp only [htl]; omega, ?_⟩
   simp only [htl]
   exact Qh
set_option maxHeartbeats 2000000 in
theorem Qub {P : Prg} {g fO fC fH fM t0 : Nat} (bd : Qf P g 59 [.cell 2 t0, .tmp 3] (QT fO fC fH fM t0)) (hO : Qcn P fO) (hS : Qx4 P fC) (hH : QcY P fH) (hM : Qm7 P fM) (ht : ZE P t0 = some (some 5)) : QaK P g := by
 intro b hb
 refine Qn (by simp [isDL, Qr]) (Qw4 b) bd ?_
 have hu4 : (u8 b).take (min 4 b.length) = u8 (b.take 4) := by
  rcases Nat.le_total 4 b.length with h | h
  ·rw [qA h, QJ]
  ·rw [jH h, QJ, qf (l := b) (by omega), qf (l := b) (by omega)]
 have hd4 := Q6 (b.take 4)
 have hmi : (if (b.length : Int) < 4 then (b.length : Int) else 4) = ((min 4 b.length : Nat) : Int) := by split <;> omega
 have hm1 : min 4 b.length ≤ b.length := Yx _ _
 have hmag : QiO.take (min 4 b.length) = QiO.take b.length := by
  rcases Nat.le_total 4 b.length with h | h
  ·rw [qA h, qf (by simp [QiO]), qf (by simp [QiO]; omega)]
  ·rw [jH h]
 obtain ⟨mm, hm4⟩ : ∃ m, min 4 b.length = m := ⟨_, rfl⟩
 rw [hm4] at hmi hu4 hm1 hmag
 have hm2 : min mm b.length = mm := qA hm1
 have hm5 : mm ≤ 4 := by omega
 have hmag' : List.take mm [84, 84, 65, 49] = QiO.take b.length := hmag
 by_cases c1 : b.take 4 = QiO.take b.length
 case neg =>
  have e : hrN b = 12 := by rw [hrN, qc c1]
  have hne : Qbh .neq (b.take 4) (QiO.take b.length) = some (.bool true) := by rw [QaH, qT.2 c1]; rfl
  rw [hrA, qa (by omega), e]
  rw [bs]
  simp (maxSteps := 4000000) (disch := omega) only [rq, simprocAttr, QT, hmi, hu4, hd4, yn, hm2, hm4, hmag', hne, QL, ht, Qm, hdA]
 have hne : Qbh .neq (b.take 4) (QiO.take b.length) = some (.bool false) := by rw [QaH, beq_iff_eq.2 c1]; rfl
 by_cases c2 : b.length < 22
 ·have e : hrN b = 24 := by rw [hrN, qa (by simpa using c1), qc c2]
  rw [hrA, qa (by omega), e]
  rw [bs]
  simp (maxSteps := 4000000) (disch := omega) only [rq, simprocAttr, QT, hmi, hu4, hd4, yn, hm2, hm4, hmag', hne, QL, ht, Qm, hdA]
 obtain rfl : mm = 4 := by omega
 have hA' := fun (a w : Nat) (h2 : w ≤ 8) (h3 : a + w ≤ 22) => by
  have := hO ((b.drop a).take w) (by rw [qh]; omega)
  have hl : ((b.drop a).take w).length = w := by rw [qh, ql]; omega
  rw [← rdF, bs, hl] at this
  exact this
 have A18 := hA' 18 4 (by omega) (by omega)
 have A0 := hA' 4 2 (by omega) (by omega)
 have A1 := hA' 6 2 (by omega) (by omega)
 have A2 := hA' 8 2 (by omega) (by omega)
 have A3 := hA' 10 4 (by omega) (by omega)
 have A4 := hA' 14 4 (by omega) (by omega)
 have r18 := Qat b 18 4
 have r0 := Qat b 4 2
 have r1 := Qat b 6 2
 have r2 := Qat b 8 2
 have r3 := Qat b 10 4
 have r4 := Qat b 14 4
 have s18 : ((u8 b).drop 18).take 4 = u8 ((b.drop 18).take 4) := by rw [QE, QJ]
 have s0 : ((u8 b).drop 4).take 2 = u8 ((b.drop 4).take 2) := by rw [QE, QJ]
 have s1 : ((u8 b).drop 6).take 2 = u8 ((b.drop 6).take 2) := by rw [QE, QJ]
 have s2 : ((u8 b).drop 8).take 2 = u8 ((b.drop 8).take 2) := by rw [QE, QJ]
 have s3 : ((u8 b).drop 10).take 4 = u8 ((b.drop 10).take 4) := by rw [QE, QJ]
 have s4 : ((u8 b).drop 14).take 4 = u8 ((b.drop 14).take 4) := by rw [QE, QJ]
 have hl18 : (b.take 18).length = 18 := by rw [qh]; omega
 have hS' := hS (b.take 18) (by omega)
 rw [← Qc1, bs, hl18] at hS'
 have hsm : Qc1 (b.take 18) < 4294967296 := by unfold Qc1; omega
 have hu18 : (u8 b).take 18 = u8 (b.take 18) := QJ _ _
 have hH' := hH (rdF b 4 2) (rdF b 6 2) (rdF b 8 2) (rdF b 10 4) (rdF b 14 4)
 have hM' := hM (rdF b 4 2) (rdF b 6 2) (rdF b 8 2) (rdF b 10 4) (rdF b 14 4)
 have hlu := Qe b
 by_cases c3 : Qc1 (b.take 18) = rdF b 18 4
 case neg =>
  have e : hrN b = 22 := by rw [hrN, qa (by simpa using c1), qa c2, qc c3]
  rw [hrA, qa (by omega), e]
  generalize rdF b 18 4 = R18 at *
  generalize Qc1 (b.take 18) = SM at *
  have c3' : ¬ (R18 : Int) = (SM : Int) := by omega
  rw [bs]
  simp (maxSteps := 4000000) (disch := omega) only [rq, simprocAttr, QT, hmi, hu4, hd4, yn, hm2, hm4, hmag', hne, s18, QL, ht, Qm, hdA]
  refine Qc A18 ?_
  simp (maxSteps := 4000000) (disch := omega) only [rq, simprocAttr, hu18]
  refine Qc hS' ?_
  simp (maxSteps := 4000000) (disch := omega) only [rq, simprocAttr, QL, ht, Qm, hdA]
 have hN : hrN b = if ¬ shP (rdF b 4 2) (rdF b 6 2) (rdF b 8 2) (rdF b 10 4) (rdF b 14 4) then 12
   else if ¬ Ql7 (rdF b 6 2) (rdF b 10 4) (rdF b 14 4) then 4 else 0 := by rw [hrN, qa (by simpa using c1), qa c2, qa (by simpa using c3)]
 rw [hrA, hN]
 rw [← c3] at A18
 clear hN hA'
 generalize rdF b 4 2 = v0 at *
 generalize rdF b 6 2 = v1 at *
 generalize rdF b 8 2 = v2 at *
 generalize rdF b 10 4 = v3 at *
 generalize rdF b 14 4 = v4 at *
 generalize Qc1 (b.take 18) = SM at *
 rw [bs]
 rw [hdA] at hH' hM'
 generalize hE : (if ¬ shP v0 v1 v2 v3 v4 then (12 : Int) else if ¬ Ql7 v1 v3 v4 then 4 else 0) = E
 by_cases d1 : shP v0 v1 v2 v3 v4
 case neg =>
  rw [qc d1] at hE
  subst hE
  rw [qa (by omega)]
  rw [decide_eq_false d1] at hH'
  simp (maxSteps := 4000000) (disch := omega) only [rq, simprocAttr, QT, hmi, hu4, hd4, yn, hm2, hm4, hmag', hne, s18, QL, ht, Qm, hdA]
  refine Qc A18 ?_
  simp (maxSteps := 4000000) (disch := omega) only [rq, simprocAttr, hu18]
  refine Qc hS' ?_
  simp (maxSteps := 4000000) (disch := omega) only [rq, simprocAttr, s0]
  refine Qc A0 ?_
  simp (maxSteps := 4000000) (disch := omega) only [rq, simprocAttr, s1]
  refine Qc A1 ?_
  simp (maxSteps := 4000000) (disch := omega) only [rq, simprocAttr, s2]
  refine Qc A2 ?_
  simp (maxSteps := 4000000) (disch := omega) only [rq, simprocAttr, s3]
  refine Qc A3 ?_
  simp (maxSteps := 4000000) (disch := omega) only [rq, simprocAttr, s4]
  refine Qc A4 ?_
  simp (maxSteps := 4000000) (disch := omega) only [rq, simprocAttr]
  refine Qa hH' ?_
  simp (maxSteps := 4000000) (disch := omega) only [rq, simprocAttr, QL, ht, Qm, hdA]
 rw [qa (fun q => q d1)] at hE
 rw [decide_eq_true d1] at hH'
 have hM2 := hM' d1
 by_cases d2 : Ql7 v1 v3 v4
 ·rw [qa (fun q => q d2)] at hE
  subst hE
  rw [qc rfl]
  rw [decide_eq_false (fun q => q d2)] at hM2
  simp (maxSteps := 4000000) (disch := omega) only [rq, simprocAttr, QT, hmi, hu4, hd4, yn, hm2, hm4, hmag', hne, s18, QL, ht, Qm, hdA]
  refine Qc A18 ?_
  simp (maxSteps := 4000000) (disch := omega) only [rq, simprocAttr, hu18]
  refine Qc hS' ?_
  simp (maxSteps := 4000000) (disch := omega) only [rq, simprocAttr, s0]
  refine Qc A0 ?_
  simp (maxSteps := 4000000) (disch := omega) only [rq, simprocAttr, s1]
  refine Qc A1 ?_
  simp (maxSteps := 4000000) (disch := omega) only [rq, simprocAttr, s2]
  refine Qc A2 ?_
  simp (maxSteps := 4000000) (disch := omega) only [rq, simprocAttr, s3]
  refine Qc A3 ?_
  simp (maxSteps := 4000000) (disch := omega) only [rq, simprocAttr, s4]
  refine Qc A4 ?_
  simp (maxSteps := 4000000) (disch := omega) only [rq, simprocAttr]
  refine Qa hH' ?_
  simp (maxSteps := 4000000) (disch := omega) only [rq, simprocAttr]
  refine Qa hM2 ?_
  simp (maxSteps := 4000000) (disch := omega) only [rq, simprocAttr, QL, ht, Qm, hdA]
 ·rw [qc d2] at hE
  subst hE
  rw [qa (by omega)]
  rw [decide_eq_true d2] at hM2
  simp (maxSteps := 4000000) (disch := omega) only [rq, simprocAttr, QT, hmi, hu4, hd4, yn, hm2, hm4, hmag', hne, s18, QL, ht, Qm, hdA]
  refine Qc A18 ?_
  simp (maxSteps := 4000000) (disch := omega) only [rq, simprocAttr, hu18]
  refine Qc hS' ?_
  simp (maxSteps := 4000000) (disch := omega) only [rq, simprocAttr, s0]
  refine Qc A0 ?_
  simp (maxSteps := 4000000) (disch := omega) only [rq, simprocAttr, s1]
  refine Qc A1 ?_
  simp (maxSteps := 4000000) (disch := omega) only [rq, simprocAttr, s2]
  refine Qc A2 ?_
  simp (maxSteps := 4000000) (disch := omega) only [rq, simprocAttr, s3]
  refine Qc A3 ?_
  simp (maxSteps := 4000000) (disch := omega) only [rq, simprocAttr, s4]
  refine Qc A4 ?_
  simp (maxSteps := 4000000) (disch := omega) only [rq, simprocAttr]
  refine Qa hH' ?_
  simp (maxSteps := 4000000) (disch := omega) only [rq, simprocAttr]
  refine Qa hM2 ?_
  simp (maxSteps := 4000000) (disch := omega) only [rq, simprocAttr, QL, ht, Qm, hdA]
set_option maxHeartbeats 1000000 in
theorem Qt9 {P : Prg} {f fO fS fC t0 : Nat} (bd : Qf P f 56 [.tmp 4, .tmp 5] (Zw fO fS fC t0)) (hO : Qcn P fO) (hS : Qx4 P fS) (hC : Qbu P fC) : Qan P f := by
 intro b n hb n1 n2
 refine Qi 1 (by simp [isDL, Qr, isD]) (QlY b n) (Qb bd (by simp) ?_)
 have c4 : (4 : Int) * (n : Int) = ((4 * n : Nat) : Int) := by simp
 have hlu := Qe b
 unfold QvZ skR
 by_cases h1 : b.length < 4 * n + 4
 ·rw [qc h1, qa (by omega), bs]
  simp (maxSteps := 4000000) (disch := omega) only [rq, simprocAttr, Zw, c4]
  simp [QI, Qz, frzL, Qv]
 rw [qa h1]
 have hA0 := hO ((b.drop (4 * n)).take 4) (by rw [qh]; omega)
 have hl0 : ((b.drop (4 * n)).take 4).length = 4 := by rw [qh, ql]; omega
 have e0 : leN ((b.drop (4 * n)).take 4) = rdF b (4 * n) 4 := rfl
 rw [e0, bs, hl0] at hA0
 have hl4 : (b.take (4 * n)).length = 4 * n := by rw [qh]; omega
 have hS' := hS (b.take (4 * n)) (by omega)
 rw [← Qc1, bs, hl4] at hS'
 have hsm : Qc1 (b.take (4 * n)) < 4294967296 := by unfold Qc1; omega
 have hrd := Qat b (4 * n) 4
 have hfirst : (u8 b).take (4 * n) = u8 (b.take (4 * n)) := QJ _ _
 have hsec : ((u8 b).drop (4 * n)).take 4 = u8 ((b.drop (4 * n)).take 4) := by rw [QE, QJ]
 have hA1 := fun i (hi : i < n) => by
  have := hO ((b.drop (4 * i)).take 4) (by rw [qh]; omega)
  have hl : ((b.drop (4 * i)).take 4).length = 4 := by rw [qh, ql]; omega
  rw [bs, hl, show leN ((b.drop (4 * i)).take 4) = rdF b (4 * i) 4 from rfl] at this
  exact this
 have hv : ∀ v ∈ iL (QhI b n), -9223372036854775808 ≤ v ∧ v ≤ 9223372036854775807 := fun v hv => by
  simp only [iL, QhI, Yr, qY] at hv
  obtain ⟨i, _, rfl⟩ := hv
  have := Qat b (4 * i) 4
  simp only [Function.comp]
  omega
 have hC' := hC (iL (QhI b n)) (by rw [Ze, Z5]; omega) hv
 rw [Xh, Ze, Z5] at hC'
 have n0 : ¬ (n : Int) < 1 := by omega
 obtain ⟨M, hM⟩ : ∃ M, 4 * n + 4 = M := ⟨_, rfl⟩
 have q0 : M - 4 * n = 4 := by omega
 have s0 : 4 * n - 0 = 4 * n := rfl
 have c5 : (((4 * n : Nat) : Int) + 4) = (M : Int) := by omega
 have hat := fun i (hi : i < n) => QvL (b := b) hi
 have htn := Z5 b n
 rw [bs]
 generalize Qc1 (b.take (4 * n)) = sm at *
 generalize rdF b (4 * n) 4 = sr at *
 by_cases h2 : sm ≠ sr
 ·have h2' : ¬ (sr : Int) = (sm : Int) := by omega
  rw [qc h2, qa (by omega)]
  simp (maxSteps := 4000000) (disch := omega) only [rq, simprocAttr, Zw, c4, c5, q0, hsec]
  refine Qc hA0 ?_
  simp (maxSteps := 4000000) (disch := omega) only [rq, simprocAttr, c4, hfirst, s0]
  refine Qc hS' ?_
  simp (maxSteps := 4000000) (disch := omega) only [rq, simprocAttr]
  simp [QI, Qz, frzL, Qv]
 have h2' : sm = sr := Decidable.not_not.1 h2
 subst h2'
 rw [qa h2]
 have tl := Qq .i64 (iL (QhI b n))
 simp (maxSteps := 4000000) (disch := omega) only [rq, simprocAttr, Zw, c4, c5, q0, hsec]
 refine Qc hA0 ?_
 simp (maxSteps := 4000000) (disch := omega) only [rq, simprocAttr, c4, hfirst, s0]
 refine Qc hS' ?_
 simp (maxSteps := 4000000) (disch := omega) only [rq, simprocAttr]
 generalize QhI b n = L at *
 refine Qg (ι := Nat) (fun k => ⟨[(7, .int .i64 k), (6, .own 0 k), (1, .int .i64 n), (0, .list b.length (u8 b))], [⟨t0, 1, k, ks .i64 (iL (L.take k)), 0⟩]⟩) (fun k => k ≤ n) (fun k => n - k) 0 (Le.trans (Qa2 6 t0 1 (by decide) rfl) (Qh)) (by omega) ?_
 intro k hk
 have hkl : (ks .i64 (iL (L.take k))).length = k := by rw [Qd, Ze, qh]; omega
 by_cases hlt : k < n
 ·have hA2 := hA1 k hlt
  rw [← hat k hlt] at hA2
  have hzb := Qat b (4 * k) 4
  rw [← hat k hlt] at hzb
  have hst : ks .i64 (iL (L.take k)) ++ [.int .i64 ((L.getD k 0 : Nat) : Int)] = ks .i64 (iL (L.take (k + 1))) := by
   have htk : iL (L.take (k + 1)) = iL (L.take k) ++ [((L.getD k 0 : Nat) : Int)] := by
    rw [qm (by omega)]
    simp only [iL, yp, yg, Yd, qe, qg (show k < L.length by omega), yD]
   rw [htk]
   simp only [ks, yp, yg, Yd]
  have c4k : (4 : Int) * (k : Int) = ((4 * k : Nat) : Int) := by simp
  obtain ⟨K, hK⟩ : ∃ K, 4 * k + 4 = K := ⟨_, rfl⟩
  have c5k : (((4 * k : Nat) : Int) + 4) = (K : Int) := by omega
  have q0k : K - 4 * k = 4 := by omega
  have hseck : ((u8 b).drop (4 * k)).take 4 = u8 ((b.drop (4 * k)).take 4) := by rw [QE, QJ]
  generalize hzz : L.getD k 0 = z at *
  simp (maxSteps := 4000000) (disch := omega) only [rq, simprocAttr, c4k, c5k, q0k, hseck, hkl]
  refine Qa hA2 ?_
  simp (maxSteps := 4000000) (disch := omega) only [rq, simprocAttr, hkl, hst]
  refine ⟨k + 1, by omega, by omega, ?_⟩
  have tb := Q9 b
  have tL2 := Qq .i64 (iL (L.take (k + 1)))
  refine Le.drop 1 2 (by omega) rfl (by simp [Am.look, Qz, frzL, Qv, frzL_T _ tb]) ?_
  intro i z hz
  match i, hz with
  | 0, hz => cases hz; exact ⟨_, rfl, by simp [Qz, frzL, Qv, frzL_T _ tL2]⟩
  | i + 1, hz => simp at hz
 ·have ek : k = n := by omega
  subst ek
  have e0 : iL (L.take k) = iL L := by rw [qf (by omega)]
  rw [e0]
  by_cases h3 : skN (iL L) = 0
  ·rw [h3] at hC' ⊢
   simp only [ne_eq, not_true_eq_false, yl, yf, Xh, Ze, htn]
   simp (maxSteps := 4000000) (disch := omega) only [rq, simprocAttr]
   refine QO 1 [0] hC' (by simp [QI, Qz, frzL, Qv, frzL_T _ tl]) ?_
   simp (maxSteps := 4000000) (disch := omega) only [rq, simprocAttr, QG]
   simp [QI, Qz, frzL, Qv, frzL_T _ tl]
  ·rw [qc h3, qa (by omega)]
   simp (maxSteps := 4000000) (disch := omega) only [rq, simprocAttr]
   refine QO 1 [0] hC' (by simp [QI, Qz, frzL, Qv, frzL_T _ tl]) ?_
   simp (maxSteps := 4000000) (disch := omega) only [rq, simprocAttr, QG]
   simp [QI, Qz, frzL, Qv]
def opQ (b p : List UInt8) : Int := if oE1 b ≠ 0 then oE1 b else if oE2 b p ≠ 0 then oE2 b p else skR (oT b p) (oL b).length
def QwD (b p : List UInt8) : AV := if opQ b p = 0 then .tup [ixA b p, .int .i64 0] else .tup [ix0, .int .i64 (opQ b p)]
theorem Qzh (b p : List UInt8) : isD (QwD b p) = true := by unfold QwD; split <;> simp [isD, isDL, ixA, ix0, XM]
def Qic (P : Prg) (f : Nat) : Prop := ∀ b p : List UInt8, b.length ≤ 1000000 → p.length ≤ 1000000 → VC P f [bs b, .str p] (QwD b p)
set_option maxHeartbeats 4000000 in
theorem QoE {P : Prg} {f fF fR fD fM fS t0 t1 : Nat} (bd : Qf P f 91 [.cell 4 t0, .tmp 5] (Qp fF fR fD fM fS t0 t1)) (hF : QaL P fF) (hR : QaK P fR) (hD : QmR P fD) (hM : QaT P fM) (hS : Qan P fS) (ht : ZE P t0 = some (some 7)) : Qic P f := by
 intro b p hb hpl
 refine Qi 1 (by simp [isDL, Qr, isD]) (Qzh b p) (Qb bd (by simp) ?_)
 have hlu := Qe b
 have err : ∀ e : Int, opQ b p = e → e ≠ 0 → QwD b p = .tup [ix0, .int .i64 e] := fun e h h0 => by rw [QwD, h, qa h0]
 by_cases h2 : 100000 < b.length
 ·have e1 : oE1 b = 4 := by rw [oE1, qc h2]
  rw [err 4 (by rw [opQ, e1, qc (by omega)]) (by omega), ix0, bs]
  simp (maxSteps := 4000000) (disch := omega) only [rq, simprocAttr, Qp, QL, ht, Qm]
  simp [QI, Qz, frzL, Qv]
 have hF' := hF b hb
 rw [bs] at hF'
 by_cases h3 : (frN b).2 ≠ 0
 ·have e1 : oE1 b = (frN b).2 := by rw [oE1, qa h2, qc h3]
  rw [err (frN b).2 (by rw [opQ, e1, qc h3]) h3, ix0, bs]
  generalize (frN b).2 = e at *
  generalize (frN b).1 = m at *
  simp (maxSteps := 4000000) (disch := omega) only [rq, simprocAttr, Qp, QL, ht, Qm]
  refine Qa hF' ?_
  simp (maxSteps := 4000000) (disch := omega) only [rq, simprocAttr, QL, ht, Qm]
  simp [QI, Qz, frzL, Qv]
 have h3' : (frN b).2 = 0 := Decidable.not_not.1 h3
 have e1 : oE1 b = hrN (oH b) := by rw [oE1, qa h2, qa h3]
 have ha : (frN b).1 = oA b ∧ oA b ≤ 4000 ∧ oA b ≤ b.length := by
  rcases Qe1 b with ⟨_, n, hn, h4, h5⟩ | ⟨_, h5⟩
  ·rw [oA, hn, qu]; exact ⟨rfl, h4, h5⟩
  ·omega
 rw [h3', ha.1] at hF'
 have hHl : (oH b).length = b.length - oA b := by rw [oH, ql]
 have hR' := hR (oH b) (by omega)
 have hsH : ((u8 b).drop (oA b)).take (b.length - oA b) = u8 (oH b) := by
  rw [QE]; exact qf (by rw [Qe, ql]; exact qj _)
 rw [bs, hHl] at hR'
 rw [hrA] at hR'
 by_cases h4 : hrN (oH b) ≠ 0
 ·rw [err (hrN (oH b)) (by rw [opQ, e1, qc h4]) h4, ix0, bs]
  rw [qa h4, hdA] at hR'
  generalize hrN (oH b) = e at *
  generalize oA b = a at *
  simp (maxSteps := 4000000) (disch := omega) only [rq, simprocAttr, Qp, QL, ht, Qm]
  refine Qa hF' ?_
  simp (maxSteps := 4000000) (disch := omega) only [rq, simprocAttr, hsH]
  refine Qa hR' ?_
  simp (maxSteps := 4000000) (disch := omega) only [rq, simprocAttr, QL, ht, Qm]
  simp [QI, Qz, frzL, Qv]
 have h4' : hrN (oH b) = 0 := Decidable.not_not.1 h4
 rw [qc h4', hdA] at hR'
 have hf := Qga (b := b) (by rw [e1]; exact h4')
 obtain ⟨mN, hmN, hok⟩ := Qhv hf.hd
 have hM' := hM (oR b) mN (by have h1 := hok.2.2.1; have h2 := hok.2.2.2.1; exact ⟨hok.1, hok.2.1, by omega, by omega⟩)
 rw [← hmN, show mN = (oN b).toNat by omega, ← oL, Xh] at hM'
 have hR2 : VC P fR [.list (b.length - oA b) (u8 (oH b))] (.tup [.agg [.int .i64 (oF b), .int .i64 (oC b), .int .i64 (oX b), .int .i64 (oR b), .int .i64 (oN b)], .int .i64 0]) := hR'
 clear hR'
 have o2 : oE2 b p ≠ 0 → opQ b p = oE2 b p := fun h => by rw [opQ, e1, qa h4, qc h]
 have o3 : oE2 b p = 0 → opQ b p = skR (oT b p) (oL b).length := fun h => by rw [opQ, e1, qa h4, qa (by omega)]
 have hl := hf.len
 have hl1 := hf.l1
 have hl2 := hf.l2
 have h12 := hf.f12
 have hs8 : 100000 ≥ b.length := hf.le
 have hTl : (oT b p).length = b.length - (oA b + 22 + oD p) := by rw [oT, ql]
 have hsT : ((u8 b).drop (oA b + 22 + oD p)).take (b.length - (oA b + 22 + oD p)) = u8 (oT b p) := by
  rw [QE]; exact qf (by rw [Qe, ql]; exact qj _)
 have hS2 := hS (oT b p) (oL b).length (by omega) hl1 hl2
 rw [bs, hTl, QvZ] at hS2
 have hD' := hD p hpl
 have hs22 : ((u8 b).drop (oA b + 22)).take 8 = u8 ((b.drop (oA b + 22)).take 8) := by rw [QE, QJ]
 have hkL : (ks .i64 (oL b)).length = (oL b).length := Qd _ _
 have hzS : (iL (oS b p)).length = (oL b).length := by rw [Ze]; exact Z5 _ _
 have eS : QhI (oT b p) (oL b).length = oS b p := rfl
 rw [eS, Xh, hzS] at hS2
 have eM : oM b p = oA b + 22 + oD p + (4 * (oL b).length + 4) := rfl
 have tS := Qq .i64 (iL (oS b p))
 have hokA : opQ b p = 0 → QwD b p = .tup [.agg [.int .i64 (oF b), .int .i64 (oC b), .int .i64 (oX b), .int .i64 (oR b), .int .i64 (oN b), .int .i64 ((oA b + 22 + oD p + (4 * (oL b).length + 4) : Nat) : Int), .list (oL b).length (ks .i64 (iL (oS b p)))], .int .i64 0] := fun h => by rw [QwD, qc h, ixA, Xh, hzS, eM]
 have hE0 := QhY p []
 by_cases hp : p = []
 ·have e3 : (p == []) = true := by rw [hp]; rfl
  have eD : oD p = 0 := by rw [oD, qc hp]
  rw [eD, yP] at hS2 hsT hokA
  by_cases h5 : oF b = 1
  ·have e2 : oE2 b p = 0 := by rw [oE2, qa (fun h => h.elim (fun h => h.2 h5) (fun h => h.1 hp)), qc hp]
   have o4 := o3 e2
   by_cases h6 : skR (oT b p) (oL b).length = 0
   ·rw [qc h6] at hS2
    rw [hokA (by rw [o4, h6]), bs]
    clear hokA o2 o3 o4 err hD' hF hR hD hM hS eM eS h6 hzS
    rw [h5] at hR2 ⊢
    generalize oA b = a at *
    generalize oS b p = S at *
    generalize skR (oT b p) (oL b).length = sk at *
    generalize oH b = H at *
    generalize oT b p = T at *
    generalize (oL b).length = n at *
    generalize oL b = L at *
    simp (maxSteps := 4000000) (disch := omega) only [rq, simprocAttr, Qp, QL, ht, Qm, hE0, e3]
    refine Qa hF' ?_
    simp (maxSteps := 4000000) (disch := omega) only [rq, simprocAttr, hsH]
    refine Qa hR2 ?_
    simp (maxSteps := 4000000) (disch := omega) only [rq, simprocAttr, hE0, e3]
    refine Qc hM' ?_
    simp (maxSteps := 4000000) (disch := omega) only [rq, simprocAttr, hsT]
    refine Qc hS2 ?_
    simp (maxSteps := 4000000) (disch := omega) only [rq, simprocAttr, QL, ht, Qm]
    simp [QI, Qz, frzL, Qv, frzL_T _ tS]
    omega
   ·rw [qa h6] at hS2
    rw [err _ o4 h6, ix0, bs]
    clear hokA o2 o3 o4 err hD' hF hR hD hM hS eM eS hzS
    rw [h5] at hR2
    generalize oA b = a at *
    generalize oS b p = S at *
    generalize skR (oT b p) (oL b).length = sk at *
    generalize oH b = H at *
    generalize oT b p = T at *
    generalize (oL b).length = n at *
    generalize oL b = L at *
    simp (maxSteps := 4000000) (disch := omega) only [rq, simprocAttr, Qp, QL, ht, Qm, hE0, e3]
    refine Qa hF' ?_
    simp (maxSteps := 4000000) (disch := omega) only [rq, simprocAttr, hsH]
    refine Qa hR2 ?_
    simp (maxSteps := 4000000) (disch := omega) only [rq, simprocAttr, hE0, e3]
    refine Qc hM' ?_
    simp (maxSteps := 4000000) (disch := omega) only [rq, simprocAttr, hsT]
    refine Qc hS2 ?_
    simp (maxSteps := 4000000) (disch := omega) only [rq, simprocAttr, QL, ht, Qm]
    simp [QI, Qz, frzL, Qv, frzL_T _ tS]
  ·have e2 : oE2 b p = 26 := by rw [oE2, qc (.inl ⟨hp, h5⟩)]
   rw [err _ (o2 (by omega)) (by omega), e2, ix0, bs]
   have h5' : oF b = 2 := by omega
   clear hokA o2 o3 err hD' hF hR hD hM hS eM eS hzS
   rw [h5'] at hR2
   generalize oA b = a at *
   generalize oS b p = S at *
   generalize skR (oT b p) (oL b).length = sk at *
   generalize oH b = H at *
   generalize oT b p = T at *
   generalize (oL b).length = n at *
   generalize oL b = L at *
   simp (maxSteps := 4000000) (disch := omega) only [rq, simprocAttr, Qp, QL, ht, Qm, hE0, e3]
   refine Qa hF' ?_
   simp (maxSteps := 4000000) (disch := omega) only [rq, simprocAttr, hsH]
   refine Qa hR2 ?_
   simp (maxSteps := 4000000) (disch := omega) only [rq, simprocAttr, hE0, e3, QL, ht, Qm]
   simp [QI, Qz, frzL, Qv]
 ·have e3 : (p == []) = false := qT.2 hp
  have eD : oD p = 8 := by rw [oD, qa hp]
  rw [eD, js (oA b) 22 8] at hS2 hsT hokA
  simp only [Nat.reduceAdd] at hS2 hsT hokA
  by_cases h5 : oF b = 1
  ·have e2 : oE2 b p = 26 := by rw [oE2, qc (.inr ⟨hp, h5⟩)]
   rw [err _ (o2 (by omega)) (by omega), e2, ix0, bs]
   clear hokA o2 o3 err hD' hF hR hD hM hS eM eS hzS
   rw [h5] at hR2
   generalize oA b = a at *
   generalize oS b p = S at *
   generalize skR (oT b p) (oL b).length = sk at *
   generalize oH b = H at *
   generalize oT b p = T at *
   generalize (oL b).length = n at *
   generalize oL b = L at *
   simp (maxSteps := 4000000) (disch := omega) only [rq, simprocAttr, Qp, QL, ht, Qm, hE0, e3]
   refine Qa hF' ?_
   simp (maxSteps := 4000000) (disch := omega) only [rq, simprocAttr, hsH]
   refine Qa hR2 ?_
   simp (maxSteps := 4000000) (disch := omega) only [rq, simprocAttr, hE0, e3, QL, ht, Qm]
   simp [QI, Qz, frzL, Qv]
  have h5' : oF b = 2 := by omega
  have e0 : ¬ ((p = [] ∧ oF b ≠ 1) ∨ (p ≠ [] ∧ oF b = 1)) := fun h => h.elim (fun h => hp h.1) (fun h => h5 h.2)
  by_cases h7 : b.length < oA b + 30
  ·have e2 : oE2 b p = 24 := by rw [oE2, qa e0, qa hp, qc h7]
   rw [err _ (o2 (by omega)) (by omega), e2, ix0, bs]
   clear hokA o2 o3 err hD' hF hR hD hM hS eM eS hzS e0
   rw [h5'] at hR2
   generalize oA b = a at *
   generalize oS b p = S at *
   generalize skR (oT b p) (oL b).length = sk at *
   generalize oH b = H at *
   generalize oT b p = T at *
   generalize (oL b).length = n at *
   generalize oL b = L at *
   simp (maxSteps := 4000000) (disch := omega) only [rq, simprocAttr, Qp, QL, ht, Qm, hE0, e3]
   refine Qa hF' ?_
   simp (maxSteps := 4000000) (disch := omega) only [rq, simprocAttr, hsH]
   refine Qa hR2 ?_
   simp (maxSteps := 4000000) (disch := omega) only [rq, simprocAttr, hE0, e3, QL, ht, Qm]
   simp [QI, Qz, frzL, Qv]
  have h8l : ((b.drop (oA b + 22)).take 8).length = 8 := by rw [qh, ql]; omega
  have lE : (leB (XT 0 p) 8).length = 8 := Qy _ _
  have hnq := QaH ((b.drop (oA b + 22)).take 8) (leB (XT 0 p) 8)
  have hdD := Q6 ((b.drop (oA b + 22)).take 8)
  have hdE := Q6 (leB (XT 0 p) 8)
  rw [bs, lE] at hD'
  have eX : (b.drop (oA b + 22)).take 8 ≠ leB (XT 0 p) 8 ↔ ((b.drop (oA b + 22)).take 8 == leB (XT 0 p) 8) = false := by simp
  have hX2 : oE2 b p = if ((b.drop (oA b + 22)).take 8 == leB (XT 0 p) 8) = false then 26 else 0 := by
   rw [oE2, qa e0, qa hp, qa h7]
   by_cases hh : (b.drop (oA b + 22)).take 8 = leB (XT 0 p) 8
   ·rw [qa (by simpa using hh), qa (by simpa using hh)]
   ·rw [qc hh, qc (by simpa using hh)]
  clear eX e0
  generalize ((b.drop (oA b + 22)).take 8 == leB (XT 0 p) 8) = r at *
  generalize (b.drop (oA b + 22)).take 8 = D8 at *
  generalize leB (XT 0 p) 8 = E8 at *
  have q8 : oA b + 22 + 8 - (oA b + 22) = 8 := by omega
  have q30 : (oA b : Int) + 22 + 8 = ((oA b + 30 : Nat) : Int) := by omega
  cases r with
  | false =>
   rw [qc rfl] at hX2
   rw [err _ (o2 (by omega)) (by omega), hX2, ix0, bs]
   have hD2 := hD'
   clear hokA o2 o3 err hD' hF hR hD hM hS eM eS hzS
   rw [h5'] at hR2
   generalize oA b = a at *
   generalize oS b p = S at *
   generalize skR (oT b p) (oL b).length = sk at *
   generalize oH b = H at *
   generalize oT b p = T at *
   generalize (oL b).length = n at *
   generalize oL b = L at *
   simp (maxSteps := 4000000) (disch := omega) only [rq, simprocAttr, Qp, QL, ht, Qm, hE0, e3]
   refine Qa hF' ?_
   simp (maxSteps := 4000000) (disch := omega) only [rq, simprocAttr, hsH]
   refine Qa hR2 ?_
   simp (maxSteps := 4000000) (disch := omega) only [rq, simprocAttr, hE0, e3, q8, hs22, hdD, h8l]
   refine Qc hD2 ?_
   simp (maxSteps := 4000000) (disch := omega) only [rq, simprocAttr, hdE, lE, hnq, QL, ht, Qm, yU]
   simp [QI, Qz, frzL, Qv]
  | true =>
   rw [qa (fun h => Bool.noConfusion h)] at hX2
   have o4 := o3 hX2
   have hD2 := hD'
   by_cases h6 : skR (oT b p) (oL b).length = 0
   ·rw [qc h6] at hS2
    rw [hokA (by rw [o4, h6]), bs]
    clear hokA o2 o3 o4 err hD' hF hR hD hM hS eM eS h6 hzS
    rw [h5'] at hR2 ⊢
    generalize oA b = a at *
    generalize oS b p = S at *
    generalize skR (oT b p) (oL b).length = sk at *
    generalize oH b = H at *
    generalize oT b p = T at *
    generalize (oL b).length = n at *
    generalize oL b = L at *
    simp (maxSteps := 4000000) (disch := omega) only [rq, simprocAttr, Qp, QL, ht, Qm, hE0, e3]
    refine Qa hF' ?_
    simp (maxSteps := 4000000) (disch := omega) only [rq, simprocAttr, hsH]
    refine Qa hR2 ?_
    simp (maxSteps := 4000000) (disch := omega) only [rq, simprocAttr, hE0, e3, q8, hs22, hdD, h8l]
    refine Qc hD2 ?_
    simp (maxSteps := 4000000) (disch := omega) only [rq, simprocAttr, hdE, lE, hnq, yG, hsT]
    refine Qc hM' ?_
    simp (maxSteps := 4000000) (disch := omega) only [rq, simprocAttr, hsT]
    refine Qc hS2 ?_
    simp (maxSteps := 4000000) (disch := omega) only [rq, simprocAttr, QL, ht, Qm]
    simp [QI, Qz, frzL, Qv, frzL_T _ tS]
    omega
   ·rw [qa h6] at hS2
    rw [err _ o4 h6, ix0, bs]
    clear hokA o2 o3 o4 err hD' hF hR hD hM hS eM eS hzS
    rw [h5'] at hR2
    generalize oA b = a at *
    generalize oS b p = S at *
    generalize skR (oT b p) (oL b).length = sk at *
    generalize oH b = H at *
    generalize oT b p = T at *
    generalize (oL b).length = n at *
    generalize oL b = L at *
    simp (maxSteps := 4000000) (disch := omega) only [rq, simprocAttr, Qp, QL, ht, Qm, hE0, e3]
    refine Qa hF' ?_
    simp (maxSteps := 4000000) (disch := omega) only [rq, simprocAttr, hsH]
    refine Qa hR2 ?_
    simp (maxSteps := 4000000) (disch := omega) only [rq, simprocAttr, hE0, e3, q8, hs22, hdD, h8l]
    refine Qc hD2 ?_
    simp (maxSteps := 4000000) (disch := omega) only [rq, simprocAttr, hdE, lE, hnq, yG, hsT]
    refine Qc hM' ?_
    simp (maxSteps := 4000000) (disch := omega) only [rq, simprocAttr, hsT]
    refine Qc hS2 ?_
    simp (maxSteps := 4000000) (disch := omega) only [rq, simprocAttr, QL, ht, Qm]
    simp [QI, Qz, frzL, Qv, frzL_T _ tS]
theorem QDg {b p : List UInt8} (h : ¬ 64 < p.length) : opN b p = opQ b p := by rw [opN, qa h]; rfl
theorem QCd {b p : List UInt8} (h : ¬ 64 < p.length) : QpU b p = QwD b p := by rw [QpU, QDg h]; rfl
theorem Qt0 {P : Prg} {f fO t0 : Nat} (bd : Qf P f 15 [.cell 4 t0, .tmp 5] (Zu fO t0)) (hO : Qic P fO) (ht : ZE P t0 = some (some 7)) : Qbf P f := by
 intro b p hb
 refine Qi 1 (by simp [isDL, Qr, isD]) (Qs1 b p) (Qb bd (by simp) ?_)
 have hlu := Qe b
 by_cases h1 : 64 < p.length
 ·have e : QpU b p = .tup [ix0, .int .i64 2] := by rw [QpU, opN, qc h1, qa (by omega)]
  rw [e, ix0, bs]
  simp (maxSteps := 4000000) (disch := omega) only [rq, simprocAttr, Zu, QL, ht, Qm]
  simp [QI, Qz, frzL, Qv]
 have hO' := hO b p hb (by omega)
 rw [QCd h1]
 have tS := Qq .i64 (iL (oS b p))
 rw [QwD, ixA, ix0, Xh, bs] at *
 by_cases h2 : opQ b p = 0
 ·rw [qc h2] at hO' ⊢
  simp (maxSteps := 4000000) (disch := omega) only [rq, simprocAttr, Zu]
  refine Qa hO' ?_
  simp (maxSteps := 4000000) (disch := omega) only [rq, simprocAttr, QL, ht, Qm]
  simp [QI, Qz, frzL, Qv, frzL_T _ tS]
 ·rw [qa h2] at hO' ⊢
  generalize opQ b p = e at *
  simp (maxSteps := 4000000) (disch := omega) only [rq, simprocAttr, Zu]
  refine Qa hO' ?_
  simp (maxSteps := 4000000) (disch := omega) only [rq, simprocAttr, QL, ht, Qm]
  simp [QI, Qz, frzL, Qv]
set_option maxHeartbeats 1000000 in
theorem QqX {P : Prg} {f fC fO t0 : Nat} (bd : Qf P f 30 [.tmp 4, .tmp 5] (Z1 fC fO t0)) (hC : QbQ P fC) (hO : Qsc P fO) : Qea P f := by
 intro b l hl
 have hC' := hC b l hl
 by_cases h0 : Zo b l ≠ 0
 ·rw [qc h0]
  refine Qi 1 (by simp [isDL, isD, QaQ]) rfl (Qb bd (by simp) ?_)
  rw [il] at *
  generalize Zo b l = e at *
  simp (maxSteps := 4000000) (disch := omega) only [rq, simprocAttr, Z1]
  iterate 2 (refine Qa (by assumption) ?_; simp (maxSteps := 4000000) (disch := omega) only [rq, simprocAttr])
  simp [QI, Qz, frzL, Qv]
 rw [qa h0]
 have h0' : Zo b l = 0 := Decidable.not_not.1 h0
 have hb : J0 b ≠ 0 := fun h => h0 (by rw [Zo, qc h]; omega)
 have hll : l.length ≤ 4000 := by
  rw [Zo, qa hb] at h0'
  split at h0'
  ·cases h0'
  ·omega
 refine Qi 1 (by simp [isDL, isD, QaQ]) (by simp [isD, isDL, Qr]) (Qb bd (by simp) ?_)
 rw [h0'] at hC'
 have hin := fun k (hk : k < l.length) => Qz9 h0' hk
 have kl : (ks .i32 l).length = l.length := Qd _ _
 have hw : (b / 8).toNat ≤ 3 := by rcases ZF b with ⟨rfl, _⟩ | ⟨rfl, _⟩ | ⟨rfl, _⟩ | ⟨_, _, _, h⟩ <;> first | decide | exact absurd h hb
 have hpl : ∀ m, (QbU b (l.take m)).length ≤ 12000 := fun m => by
  rw [Qcx, qh]
  have : min m l.length * (b / 8).toNat ≤ 4000 * 3 := jM (by omega) hw
  omega
 simp only [il] at hC' ⊢
 simp (maxSteps := 4000000) (disch := omega) only [rq, simprocAttr, Z1]
 refine Qa hC' ?_
 simp (maxSteps := 4000000) (disch := omega) only [rq, simprocAttr]
 refine Qg (ι := Nat) (fun k => ⟨[(7, .int .i64 k), (1, .list l.length (ks .i32 l)), (0, .int .i64 b), (6, .own 0 (QbU b (l.take k)).length)], [⟨t0, 1, (QbU b (l.take k)).length, u8 (QbU b (l.take k)), 0⟩]⟩) (fun k => k ≤ l.length) (fun k => l.length - k) 0 (Le.trans (Qa2 6 t0 1 (by omega) rfl) (Qk (by simp [Am.look, QbU]))) (by omega) ?_
 intro k hk
 have hpk := hpl k
 by_cases hlt : k < l.length
 ·have e1 := QaD (K := .i32) hlt
  obtain ⟨i1, i2⟩ := hin k hlt
  have hO' := hO b l[k] hb i1 i2
  have hs := Qop (b := b) hlt
  have hpk1 := hpl (k + 1)
  have hul : (u8 (Qqy b l[k])).length = (Qqy b l[k]).length := Qe _
  have hcat : u8 (QbU b (l.take k)) ++ u8 (Qqy b l[k]) = u8 (QbU b (l.take (k + 1))) := by rw [hs]; simp [u8]
  have hlen : (QbU b (l.take k)).length + (Qqy b l[k]).length = (QbU b (l.take (k + 1))).length := by rw [hs, qx]
  rw [bs] at hO'
  generalize hB1 : QbU b (l.take (k + 1)) = B1 at *
  generalize QbU b (l.take k) = B0 at *
  generalize Qqy b l[k] = E at *
  generalize l[k] = z at *
  simp (maxSteps := 4000000) (disch := omega) only [rq, simprocAttr, kl, e1]
  refine Qa hO' ?_
  simp (maxSteps := 4000000) (disch := omega) only [rq, simprocAttr, hul, hcat, hlen]
  refine ⟨k + 1, by omega, by omega, ?_⟩
  simp only [hB1]
  exact Qh
 ·have ek : k = l.length := by omega
  subst ek
  rw [qW] at hpk ⊢
  have tB := Q9 (QbU b l)
  generalize QbU b l = B at *
  simp (maxSteps := 4000000) (disch := omega) only [rq, simprocAttr, kl]
  simp [QI, Qz, frzL, Qv, frzL_T _ tB, bs]
def Qjf (P : Prg) (f : Nat) : Prop := ∀ (b p : List UInt8) (k : Nat), opN b p = 0 → k ≤ (oL b).length → VC P f [ixA b p, .int .i64 k] (.int .i64 (oW b p k))
theorem Qz8 (b p : List UInt8) : isD (ixA b p) = true := by simp [isD, isDL, ixA, XM]
theorem QqJ {P : Prg} {f t0 : Nat} (bd : Qf P f 22 [.tmp 4] (X4 t0)) : Qjf P f := by
 intro b p n hop hn
 refine Qn (by simp [isDL, isD, Qz8]) rfl bd ?_
 obtain ⟨h64, hf, h2, h3⟩ := Qc2 hop
 have hl2 := hf.l2
 have hzL : (oS b p).length = (oL b).length := Z5 _ _
 have hil : (iL (oS b p)).length = (oS b p).length := Ze _
 have kl : (ks .i64 (iL (oS b p))).length = (oS b p).length := by rw [Qd, hil]
 have hs := QiL b p
 have hW := fun k => Qo0 hop k
 have h0 : oW b p 0 = oM b p := by rw [oW, yV]; rfl
 have hM := (hW 0).1
 rw [h0] at hM
 have e0 := fun i (hi : i < n) => J8 (K := .i64) (l := iL (oS b p)) (i := i) (by omega)
 simp only [Qo8] at e0
 rw [ixA, Xh, hil]
 generalize iL (oS b p) = J at *
 generalize oS b p = S at *
 generalize oM b p = m at *
 simp (maxSteps := 4000000) (disch := omega) only [rq, simprocAttr, X4]
 refine Qg (ι := Nat) (fun k => ⟨[(6, .int .i64 k), (5, .int .i64 (oW b p k)), (2, .ref 0 1 0), (1, .int .i64 n)], [⟨t0, 7, 1, [.int .i64 (oF b), .int .i64 (oC b), .int .i64 (oX b), .int .i64 (oR b), .int .i64 (oN b), .int .i64 m, .list S.length (ks .i64 J)], 0⟩]⟩) (fun k => k ≤ n) (fun k => n - k) 0 (Qk (by simp [Am.look, h0])) (by omega) ?_
 intro k hk
 have hWk := hW k
 have hsk := hs k
 by_cases hlt : k < n
 ·have e1 := e0 k hlt
  have hW1 := hW (k + 1)
  generalize S.getD k 0 = z at *
  have w : (oW b p k : Int) + (z : Int) = (oW b p (k + 1) : Int) := by omega
  generalize hw1 : oW b p (k + 1) = w1 at *
  generalize oW b p k = w0 at *
  simp (maxSteps := 4000000) (disch := omega) only [rq, simprocAttr, e1, kl, w]
  refine ⟨k + 1, by omega, by omega, ?_⟩
  simp only [hw1]
  exact Qh
 ·have ek : k = n := by omega
  subst ek
  generalize oW b p k = w0 at *
  simp (maxSteps := 4000000) (disch := omega) only [rq, simprocAttr]
def Qsf (P : Prg) (f : Nat) : Prop := ∀ (b p : List UInt8) (k : Nat), opN b p = 0 → k < (oL b).length → VC P f [bs b, .str p, ixA b p, .int .i64 k] (Qyh b p k)
set_option maxHeartbeats 2000000 in
theorem Qwl {P : Prg} {f fS fT fM fD fB t0 t1 : Nat} (bd : Qf P f 79 [.tmp 8, .tmp 9] (JN fS fT fM fD fB t0 t1)) (hS : Qjf P fS) (hT : QhA P fT) (hM : QaT P fM) (hD : QbR P fD) (hB : Qea P fB) : Qsf P f := by
 intro b p k hop hk
 obtain ⟨h64, hf, h2, h3⟩ := Qc2 hop
 refine Qi 1 (by simp [isDL, isD, Qz8, Qr]) (Ql0 b p k) (Qb bd (by simp) ?_)
 have hle := hf.le
 have hlu := Qe b
 have hl2 := hf.l2
 have hS' := hS b p k hop (by omega)
 have hT' := hT p
 rw [QeS, qa h64] at hT'
 obtain ⟨hTl, hTI⟩ := Qvz p
 have eT : ofK (XT 0 p) 8 = tpT p := rfl
 rw [eT] at hT'
 have kT : (ks .i32 (tpT p)).length = 16 := by rw [Qd, hTl]
 have tT : (ks .i32 (tpT p)).take 16 = ks .i32 (tpT p) := qf (by omega)
 have oT := Z4 .i32 (tpT p)
 have z16 : z3L = ks .i32 Jk := rfl
 have ol := Z4 .i32 Jk
 have kl0 : (ks .i32 Jk).length = 16 := rfl
 have zd : (ks .i32 Jk).drop 16 = [] := rfl
 obtain ⟨mN, hmN, hok0⟩ := Qhv hf.hd
 have hM' := hM (oR b) mN (by have h1 := hok0.2.2.1; have h2 := hok0.2.2.2.1; exact ⟨hok0.1, hok0.2.1, by omega, by omega⟩)
 rw [← hmN, show mN = (oN b).toNat by omega, ← oL, Xh] at hM'
 have hzL : (oS b p).length = (oL b).length := Z5 _ _
 have hil : (iL (oS b p)).length = (oL b).length := by rw [Ze]; omega
 have kS : (ks .i64 (iL (oS b p))).length = (oL b).length := by rw [Qd, hil]
 have kL : (ks .i64 (oL b)).length = (oL b).length := Qd _ _
 have e1 := J8 (K := .i64) (l := iL (oS b p)) (i := k) (by rw [Ze]; omega)
 rw [Qo8] at e1
 have e3 := J8 (K := .i64) (l := oL b) (i := k) hk
 have hW := Qo0 hop k
 have hWs := QiL b p k
 have hW2 := Qo0 hop (k + 1)
 rw [ixA, Xh, hil] at hS' ⊢
 unfold Qyh
 unfold JN
 rw [z16]
 by_cases hsh : b.length < oW b p (k + 1)
 ·have e5 : ofE b p k = 24 := by rw [ofE, qc hsh]
  rw [e5, qc (by omega)]
  clear hD hB e5
  simp only [bs]
  generalize oW b p (k + 1) = w at *
  generalize oW b p k = w' at *
  generalize (oS b p).getD k 0 = z at *
  simp (maxSteps := 4000000) (disch := omega) only [rq, simprocAttr, kS, e1]
  refine Qa hS' ?_
  simp (maxSteps := 4000000) (disch := omega) only [rq, simprocAttr, kS, e1]
  simp [QI, Qz, frzL, Qv]
 have hbl : (ofB b p k).length = (oS b p).getD k 0 := by rw [ofB, qh, ql]; omega
 have hat : ((u8 b).drop (oW b p k)).take ((oS b p).getD k 0) = u8 (ofB b p k) := by rw [QE, QJ]; rfl
 have hD' := hD (oC b) (oX b) ((oL b).getD k 0) (tpT p) (ofB b p k) hTl hTI (by omega)
 have hpe := Qxk (oC b) (oX b) (tpT p) ((oL b).getD k 0) (ofB b p k)
 rw [hpe.1, shA, bs, il, hbl] at hD'
 have e6 : Qzr (oC b) (oX b) (tpT p) ((oL b).getD k 0) (ofB b p k) = ofP b p k := rfl
 have e7 : ofE b p k = QAe (oC b) (oX b) (tpT p) ((oL b).getD k 0) (ofB b p k) := by rw [ofE, qa hsh]
 have hok := hpe.2
 rw [e6] at hok
 rw [e6, ← e7] at hD'
 have hB' := hB (oX b) (ofP b p k) (QAn hok)
 rw [qa (by rw [QAg (Qrh hf.hd) hok]; simp), il] at hB'
 have q0 : oW b p (k + 1) - oW b p k = (oS b p).getD k 0 := by omega
 have q1 : (oW b p k : Int) + ((oS b p).getD k 0 : Nat) = (oW b p (k + 1) : Int) := by omega
 have kp := Qd .i32 (ofP b p k)
 have hpl := QiK b p k
 by_cases h8 : ofE b p k ≠ 0
 ·rw [qc h8]
  clear hD hB e6 e7 hB' hpe hok
  simp only [bs]
  generalize ofE b p k = e at *
  generalize ofP b p k = P1 at *
  generalize ofB b p k = B1 at *
  generalize (oL b).getD k 0 = N1 at *
  generalize oW b p (k + 1) = w at *
  generalize oW b p k = w' at *
  generalize (oS b p).getD k 0 = z at *
  simp (maxSteps := 4000000) (disch := omega) only [rq, simprocAttr, kS, e1]
  refine Qa hS' ?_
  simp (maxSteps := 4000000) (disch := omega) only [rq, simprocAttr, kS, e1]
  refine Qa hT' ?_
  simp (maxSteps := 4000000) (disch := omega) only [rq, simprocAttr, ol, kl0, oT, kT, zd, qX, tT, kS, e1]
  refine Qc hM' ?_
  simp (maxSteps := 4000000) (disch := omega) only [rq, simprocAttr, kL, e3, kS, e1, q0, q1, hat]
  refine Qc hD' ?_
  simp (maxSteps := 4000000) (disch := omega) only [rq, simprocAttr]
  simp [QI, Qz, frzL, Qv]
 have h8' : ofE b p k = 0 := Decidable.not_not.1 h8
 rw [qa h8]
 rw [h8'] at hD'
 clear hD hB e6 e7 hpe hok h8 h8'
 simp only [bs] at hB' ⊢
 have ts := Q9 (QbU (oX b) (ofP b p k))
 generalize QbU (oX b) (ofP b p k) = R at *
 generalize ofP b p k = P1 at *
 generalize ofB b p k = B1 at *
 generalize (oL b).getD k 0 = N1 at *
 generalize oW b p (k + 1) = w at *
 generalize oW b p k = w' at *
 generalize (oS b p).getD k 0 = z at *
 simp (maxSteps := 4000000) (disch := omega) only [rq, simprocAttr, kS, e1]
 refine Qa hS' ?_
 simp (maxSteps := 4000000) (disch := omega) only [rq, simprocAttr, kS, e1]
 refine Qa hT' ?_
 simp (maxSteps := 4000000) (disch := omega) only [rq, simprocAttr, ol, kl0, oT, kT, zd, qX, tT, kS, e1]
 refine Qc hM' ?_
 simp (maxSteps := 4000000) (disch := omega) only [rq, simprocAttr, kL, e3, kS, e1, q0, q1, hat]
 refine Qc hD' ?_
 simp (maxSteps := 4000000) (disch := omega) only [rq, simprocAttr]
 refine Qa hB' ?_
 simp (maxSteps := 4000000) (disch := omega) only [rq, simprocAttr]
 simp [QI, Qz, frzL, Qv, frzL_T _ ts]
def fiA (b : List UInt8) : AV := if oE1 b = 0 then .tup [.int .i64 (oA b), hdA (oF b) (oC b) (oX b) (oR b) (oN b), .int .i64 0] else .tup [.int .i64 (if 100000 < b.length ∨ (frN b).2 ≠ 0 then 0 else (oA b : Int)), hdA 0 0 0 0 0, .int .i64 (oE1 b)]
theorem QA8 (b : List UInt8) : isD (fiA b) = true := by unfold fiA; split <;> rfl
def Qjq (P : Prg) (f : Nat) : Prop := ∀ b : List UInt8, b.length ≤ 1000000 → VC P f [bs b] (fiA b)
set_option maxHeartbeats 1000000 in
theorem QqL {P : Prg} {f fF fR t0 : Nat} (bd : Qf P f 31 [.tmp 2, .cell 3 t0, .tmp 4] (Zb fF fR t0)) (hF : QaL P fF) (hR : QaK P fR) (ht : ZE P t0 = some (some 5)) : Qjq P f := by
 intro b hb
 refine Qn (by simp [isDL, Qr]) (QA8 b) bd ?_
 have hlu := Qe b
 by_cases h2 : 100000 < b.length
 ·have e1 : oE1 b = 4 := by rw [oE1, qc h2]
  rw [fiA, e1, qa (by omega), qc (.inl h2), hdA, bs]
  simp (maxSteps := 4000000) (disch := omega) only [rq, simprocAttr, Zb, QL, ht, Qm]
 have hF' := hF b hb
 rw [bs] at hF'
 by_cases h3 : (frN b).2 ≠ 0
 ·have e1 : oE1 b = (frN b).2 := by rw [oE1, qa h2, qc h3]
  rw [fiA, e1, qa h3, qc (.inr h3), hdA, bs]
  generalize (frN b).2 = e at *
  generalize (frN b).1 = m at *
  simp (maxSteps := 4000000) (disch := omega) only [rq, simprocAttr, Zb, QL, ht, Qm]
  refine Qa hF' ?_
  simp (maxSteps := 4000000) (disch := omega) only [rq, simprocAttr, QL, ht, Qm]
 have h3' : (frN b).2 = 0 := Decidable.not_not.1 h3
 have e1 : oE1 b = hrN (oH b) := by rw [oE1, qa h2, qa h3]
 have ha : (frN b).1 = oA b ∧ oA b ≤ 4000 ∧ oA b ≤ b.length := by
  rcases Qe1 b with ⟨_, n, hn, h4, h5⟩ | ⟨_, h5⟩
  ·rw [oA, hn, qu]; exact ⟨rfl, h4, h5⟩
  ·omega
 rw [h3', ha.1] at hF'
 have hHl : (oH b).length = b.length - oA b := by rw [oH, ql]
 have hR' := hR (oH b) (by omega)
 have hsH : ((u8 b).drop (oA b)).take (b.length - oA b) = u8 (oH b) := by
  rw [QE]; exact qf (by rw [Qe, ql]; exact qj _)
 rw [bs, hHl] at hR'
 rw [hrA] at hR'
 rw [fiA, e1]
 by_cases h4 : hrN (oH b) ≠ 0
 ·rw [qa h4, hdA] at hR'
  rw [qa h4, qa (fun h => h.elim h2 h3), hdA, bs]
  generalize hrN (oH b) = e at *
  generalize oA b = a at *
  simp (maxSteps := 4000000) (disch := omega) only [rq, simprocAttr, Zb]
  refine Qa hF' ?_
  simp (maxSteps := 4000000) (disch := omega) only [rq, simprocAttr, hsH]
  refine Qa hR' ?_
  simp (maxSteps := 4000000) (disch := omega) only [rq, simprocAttr, QL, ht, Qm]
 have h4' : hrN (oH b) = 0 := Decidable.not_not.1 h4
 rw [qc h4', hdA] at hR'
 rw [qc h4', hdA, bs]
 have hR2 : VC P fR [.list (b.length - oA b) (u8 (oH b))] (.tup [.agg [.int .i64 (oF b), .int .i64 (oC b), .int .i64 (oX b), .int .i64 (oR b), .int .i64 (oN b)], .int .i64 0]) := hR'
 clear hR'
 generalize oA b = a at *
 simp (maxSteps := 4000000) (disch := omega) only [rq, simprocAttr, Zb]
 refine Qa hF' ?_
 simp (maxSteps := 4000000) (disch := omega) only [rq, simprocAttr, hsH]
 refine Qa hR2 ?_
 simp (maxSteps := 4000000) (disch := omega) only [rq, simprocAttr, QL, ht, Qm]
def Qm4 (P : Prg) (f : Nat) : Prop := ∀ b p : List UInt8, oE1 b = 0 → p.length ≤ 1000000 → VC P f [bs b, .int .i64 ((oA b + 22 : Nat) : Int), hdA (oF b) (oC b) (oX b) (oR b) (oN b), .str p] (.tup [.int .i64 (if oE2 b p = 0 then ((oA b + 22 + oD p : Nat) : Int) else 0), .int .i64 (oE2 b p)])
set_option maxHeartbeats 1000000 in
theorem QoG {P : Prg} {f fD t0 : Nat} (bd : Qf P f 36 [.tmp 8, .tmp 9] (QM fD t0)) (hD : QmR P fD) : Qm4 P f := by
 intro b p h0 hpl
 refine Qn (by simp [isDL, Qr, isD, hdA]) rfl bd ?_
 have hf := Qga h0
 have hle := hf.le
 have hub := Qe b
 have h12 := hf.f12
 have hl := hf.len
 have hD' := hD p hpl
 have hs22 : ((u8 b).drop (oA b + 22)).take 8 = u8 ((b.drop (oA b + 22)).take 8) := by rw [QE, QJ]
 have hE0 := QhY p []
 have hdD := Q6 ((b.drop (oA b + 22)).take 8)
 have hdE := Q6 (leB (XT 0 p) 8)
 have lE : (leB (XT 0 p) 8).length = 8 := Qy _ _
 have hnq := QaH ((b.drop (oA b + 22)).take 8) (leB (XT 0 p) 8)
 rw [bs, lE] at hD'
 simp only [hdA]
 by_cases e : p = []
 ·have e3 : (p == []) = true := by rw [e]; rfl
  by_cases h5 : oF b = 1
  ·have e2 : oE2 b p = 0 := by rw [oE2, qa (fun h => h.elim (fun h => h.2 h5) (fun h => h.1 e)), qc e]
   have eD : oD p = 0 := by rw [oD, qc e]
   rw [e2, eD, qc rfl, h5]
   generalize oA b = a at *
   rw [bs]
   simp (maxSteps := 4000000) (disch := omega) only [rq, simprocAttr, QM, hE0, e3]
  ·have e2 : oE2 b p = 26 := by rw [oE2, qc (.inl ⟨e, h5⟩)]
   have h5' : oF b = 2 := by omega
   rw [e2, qa (by omega), h5']
   generalize oA b = a at *
   rw [bs]
   simp (maxSteps := 4000000) (disch := omega) only [rq, simprocAttr, QM, hE0, e3]
 have e3 : (p == []) = false := qT.2 e
 by_cases h5 : oF b = 1
 ·have e2 : oE2 b p = 26 := by rw [oE2, qc (.inr ⟨e, h5⟩)]
  rw [e2, qa (by omega), h5]
  generalize oA b = a at *
  rw [bs]
  simp (maxSteps := 4000000) (disch := omega) only [rq, simprocAttr, QM, hE0, e3]
 have h5' : oF b = 2 := by omega
 have e0 : ¬ ((p = [] ∧ oF b ≠ 1) ∨ (p ≠ [] ∧ oF b = 1)) := fun h => h.elim (fun h => e h.1) (fun h => h5 h.2)
 by_cases h7 : b.length < oA b + 30
 ·have e2 : oE2 b p = 24 := by rw [oE2, qa e0, qa e, qc h7]
  rw [e2, qa (by omega), h5']
  clear e0
  generalize oA b = a at *
  rw [bs]
  simp (maxSteps := 4000000) (disch := omega) only [rq, simprocAttr, QM, hE0, e3]
 have h8l : ((b.drop (oA b + 22)).take 8).length = 8 := by rw [qh, ql]; omega
 have hX2 : oE2 b p = if ((b.drop (oA b + 22)).take 8 == leB (XT 0 p) 8) = false then 26 else 0 := by
  rw [oE2, qa e0, qa e, qa h7]
  by_cases hh : (b.drop (oA b + 22)).take 8 = leB (XT 0 p) 8
  ·rw [qa (by simpa using hh), qa (by simpa using hh)]
  ·rw [qc hh, qc (by simpa using hh)]
 clear e0
 have eD : oD p = 8 := by rw [oD, qa e]
 rw [hX2, eD, h5']
 generalize ((b.drop (oA b + 22)).take 8 == leB (XT 0 p) 8) = r at *
 generalize (b.drop (oA b + 22)).take 8 = D8 at *
 generalize leB (XT 0 p) 8 = E8 at *
 have q8 : oA b + 22 + 8 - (oA b + 22) = 8 := by omega
 generalize oA b = a at *
 rw [bs]
 cases r with
 | false =>
  rw [qc rfl, qa (by omega)]
  simp (maxSteps := 4000000) (disch := omega) only [rq, simprocAttr, QM, hE0, e3, q8, hs22, hdD, h8l]
  refine Qc hD' ?_
  simp (maxSteps := 4000000) (disch := omega) only [rq, simprocAttr, hdE, lE, hnq, yU]
 | true =>
  rw [qa (fun h => Bool.noConfusion h), qc rfl]
  simp (maxSteps := 4000000) (disch := omega) only [rq, simprocAttr, QM, hE0, e3, q8, hs22, hdD, h8l]
  refine Qc hD' ?_
  simp (maxSteps := 4000000) (disch := omega) only [rq, simprocAttr, hdE, lE, hnq, yG]
def Qjc (P : Prg) (f : Nat) : Prop := ∀ b p : List UInt8, oE1 b = 0 → oE2 b p = 0 → VC P f [bs b, .int .i64 ((oA b + 22 + oD p : Nat) : Int), hdA (oF b) (oC b) (oX b) (oR b) (oN b)] (QvZ (oT b p) (oL b).length)
theorem QqK {P : Prg} {f fM fS t0 : Nat} (bd : Qf P f 20 [.tmp 6, .tmp 7] (ZY fM fS t0)) (hM : QaT P fM) (hS : Qan P fS) : Qjc P f := by
 intro b p h0 h2
 refine Qi 1 (by simp [isDL, Qr, isD, hdA]) (QlY _ _) (Qb bd (by simp) ?_)
 have hf := Qga h0
 have hle := hf.le
 have hub := Qe b
 have hl1 := hf.l1
 have hl2 := hf.l2
 obtain ⟨hd, hdl⟩ := QzX hf h2
 obtain ⟨mN, hmN, hok0⟩ := Qhv hf.hd
 have hM' := hM (oR b) mN (by have h1 := hok0.2.2.1; have h2 := hok0.2.2.2.1; exact ⟨hok0.1, hok0.2.1, by omega, by omega⟩)
 rw [← hmN, show mN = (oN b).toNat by omega, ← oL, Xh] at hM'
 have hTl : (oT b p).length = b.length - (oA b + 22 + oD p) := by rw [oT, ql]
 have hsT : ((u8 b).drop (oA b + 22 + oD p)).take (b.length - (oA b + 22 + oD p)) = u8 (oT b p) := by
  rw [QE]; exact qf (by rw [Qe, ql]; exact qj _)
 have hS2 := hS (oT b p) (oL b).length (by omega) hl1 hl2
 have tS := Qq .i64 (iL (QhI (oT b p) (oL b).length))
 rw [bs, hTl] at hS2
 rw [QvZ, Xh] at *
 generalize oA b + 22 + oD p = a at *
 rw [bs, hdA]
 generalize iL (QhI (oT b p) (oL b).length) = J at *
 by_cases h : skR (oT b p) (oL b).length = 0
 ·rw [qc h] at hS2 ⊢
  generalize oT b p = T at *
  generalize (oL b).length = n at *
  generalize oL b = L at *
  simp (maxSteps := 4000000) (disch := omega) only [rq, simprocAttr, ZY, hsT]
  refine Qc hM' ?_
  simp (maxSteps := 4000000) (disch := omega) only [rq, simprocAttr, hsT]
  refine Qc hS2 ?_
  simp (maxSteps := 4000000) (disch := omega) only [rq, simprocAttr]
  simp [QI, Qz, frzL, Qv, frzL_T _ tS]
 ·rw [qa h] at hS2 ⊢
  generalize skR (oT b p) (oL b).length = e at *
  generalize oT b p = T at *
  generalize (oL b).length = n at *
  generalize oL b = L at *
  simp (maxSteps := 4000000) (disch := omega) only [rq, simprocAttr, ZY, hsT]
  refine Qc hM' ?_
  simp (maxSteps := 4000000) (disch := omega) only [rq, simprocAttr, hsT]
  refine Qc hS2 ?_
  simp (maxSteps := 4000000) (disch := omega) only [rq, simprocAttr]
  simp [QI, Qz, frzL, Qv]
set_option maxHeartbeats 4000000 in
theorem Qt2 {P : Prg} {f fS fP fT fM fs fD fB t0 t1 t2 t3 : Nat} (bd : Qf P f 145 [.cell 4 t0, .tmp 5] (Jn fS fP fT fM fs fD fB t0 t1 t2 t3)) (hS : Qjq P fS) (hP : Qm4 P fP) (hT : Qjc P fT) (hM : QaT P fM) (hs : QhA P fs) (hD : QbR P fD) (hB : Qcq P fB) (ht : ZE P t0 = some (some 4)) : Qeb P f := by
 intro b p hb
 refine Qi 2 (by simp [isDL, isD, Qr]) (Qs5 b p) (Qb bd (by simp) ?_)
 have hlu := Qe b
 have err : ∀ e : Int, clN b p = e → e ≠ 0 → QuP b p = .tup [.agg [.int .i64 0, .int .i64 0, .int .i64 0, .list 0 []], .int .i64 e] := fun e h h0 => by rw [QuP, h, qa h0]; rfl
 have z16 : z3L = ks .i32 Jk := rfl
 unfold Jn
 rw [z16]
 by_cases h1 : 64 < p.length
 ·have e0 : opN b p = 2 := by rw [opN, qc h1]
  rw [err 2 (by rw [QeM (by omega), e0]) (by omega), bs]
  clear err hS hP hT hM hs hD hB
  simp (maxSteps := 4000000) (disch := omega) only [rq, simprocAttr, QL, ht, Qm]
  simp [QI, Qz, frzL, Qv]
 have hS' := hS b hb
 rw [fiA] at hS'
 by_cases h2 : oE1 b ≠ 0
 ·rw [qa h2] at hS'
  have e0 : opN b p = oE1 b := by rw [opN, qa h1, qc h2]
  rw [err (oE1 b) (by rw [QeM (by omega), e0]) h2, bs]
  rw [bs, hdA] at hS'
  clear err hP hT hM hs hD hB e0
  generalize oE1 b = e at *
  generalize (if 100000 < b.length ∨ (frN b).2 ≠ 0 then (0 : Int) else (oA b : Int)) = aa at *
  simp (maxSteps := 4000000) (disch := omega) only [rq, simprocAttr]
  refine Qa hS' ?_
  simp (maxSteps := 4000000) (disch := omega) only [rq, simprocAttr, QL, ht, Qm]
  simp [QI, Qz, frzL, Qv]
 have h2' : oE1 b = 0 := Decidable.not_not.1 h2
 rw [qc h2', hdA] at hS'
 have hf := Qga h2'
 have hle := hf.le
 have h4000 := hf.a4
 have hP' := hP b p h2' (by omega)
 rw [hdA] at hP'
 by_cases h3 : oE2 b p ≠ 0
 ·rw [qa h3] at hP'
  have e0 : opN b p = oE2 b p := by rw [opN, qa h1, qa h2, qc h3]
  rw [err (oE2 b p) (by rw [QeM (by omega), e0]) h3]
  rw [bs] at hS' hP' ⊢
  clear err hS hP hT hM hs hD hB e0
  generalize oE2 b p = e at *
  generalize oA b = a at *
  simp (maxSteps := 4000000) (disch := omega) only [rq, simprocAttr]
  refine Qa hS' ?_
  simp (maxSteps := 4000000) (disch := omega) only [rq, simprocAttr]
  refine Qa hP' ?_
  simp (maxSteps := 4000000) (disch := omega) only [rq, simprocAttr, QL, ht, Qm]
  simp [QI, Qz, frzL, Qv]
 have h3' : oE2 b p = 0 := Decidable.not_not.1 h3
 rw [qc h3', h3'] at hP'
 have hT' := hT b p h2' h3'
 rw [QvZ, hdA, Xh, Ze, Z5] at hT'
 have eS : QhI (oT b p) (oL b).length = oS b p := rfl
 rw [eS] at hT'
 obtain ⟨A, hA⟩ : ∃ A, A = oA b + 22 + oD p := ⟨_, rfl⟩
 have hDl := QsO p
 have hA1 : A ≤ 10000 := by omega
 have hMA : oM b p = A + (4 * (oL b).length + 4) := by rw [hA]; rfl
 rw [← hA] at hP' hT'
 have hop : opN b p = skR (oT b p) (oL b).length := by rw [opN, qa h1, qa h2, qa h3]
 by_cases h4 : skR (oT b p) (oL b).length ≠ 0
 ·rw [err _ (by rw [QeM (by omega), hop]) h4]
  rw [qa h4] at hT'
  rw [bs] at hS' hP' hT' ⊢
  clear err hS hP hT hM hs hD hB hop hA hMA
  generalize skR (oT b p) (oL b).length = e at *
  generalize oA b = a at *
  simp (maxSteps := 4000000) (disch := omega) only [rq, simprocAttr]
  iterate 2 (refine Qa (by assumption) ?_; simp (maxSteps := 4000000) (disch := omega) only [rq, simprocAttr])
  refine Qa hT' ?_
  simp (maxSteps := 4000000) (disch := omega) only [rq, simprocAttr, QL, ht, Qm]
  simp [QI, Qz, frzL, Qv]
 have h4' := Decidable.not_not.1 h4
 rw [qc h4'] at hT'
 rw [h4'] at hop
 obtain ⟨mN, hmN, hok0⟩ := Qhv hf.hd
 have hM' := hM (oR b) mN (by have h1 := hok0.2.2.1; have h2 := hok0.2.2.2.1; exact ⟨hok0.1, hok0.2.1, by omega, by omega⟩)
 rw [← hmN, show mN = (oN b).toNat by omega, ← oL, Xh] at hM'
 have hs' := hs p
 rw [QeS, qa h1] at hs'
 have hTl : (ofK (XT 0 p) 8).length = 16 := Qbl _ _
 have hTI := Qso (XT 0 p) 8
 have eT : ofK (XT 0 p) 8 = tpT p := rfl
 rw [eT] at hs' hTl hTI
 have oT := Z4 .i32 (tpT p)
 have kT : (ks .i32 (tpT p)).length = 16 := by rw [Qd, hTl]
 have tT : (ks .i32 (tpT p)).take 16 = ks .i32 (tpT p) := qf (by omega)
 have tTT := Qq .i32 (tpT p)
 have ol := Z4 .i32 Jk
 have kl0 : (ks .i32 Jk).length = 16 := rfl
 have zd : (ks .i32 Jk).drop 16 = [] := rfl
 have hl1 := hf.l1
 have hl2 := hf.l2
 have hzL : (oS b p).length = (oL b).length := Z5 _ _
 have hzS : (iL (oS b p)).length = (oL b).length := by rw [Ze]; exact hzL
 have kS : (ks .i64 (iL (oS b p))).length = (oL b).length := by rw [Qd, hzS]
 have kL : (ks .i64 (oL b)).length = (oL b).length := Qd _ _
 have hW := Qo0 hop
 have hWs := QiL b p
 have hin := fun {k : Nat} => QCf (k := k) hop
 have hbad := fun {k : Nat} (hk : k < (oL b).length) h1 h2 => err (ofE b p k) (Qxs (k := k) hop hk h1 h2) h2
 have hall := fun h1 => Qxt hop h1
 have hok : clN b p = 0 → QuP b p = .tup [.agg [.int .i64 (oC b), .int .i64 (oX b), .int .i64 (oR b), .list (smF b p (oL b).length).length (ks .i32 (smF b p (oL b).length))], .int .i64 0] := fun h => by rw [QuP, qc h]; rfl
 have hsl := Qqz b p
 rw [bs] at hS' hP' hT' ⊢
 have hM0 : oW b p 0 = oM b p := by rw [oW, yV]; simp
 have hMI : (A : Int) + (4 * ((oL b).length : Int) + 4) = (oM b p : Int) := by omega
 have hML : oM b p ≤ 100000 := by have := (QeX hop).1; omega
 clear hS hP hT hM hs hop h2 h3 h4 eT hA hMA hok0
 simp (maxSteps := 4000000) (disch := omega) only [rq, simprocAttr]
 iterate 2 (refine Qa (by assumption) ?_; simp (maxSteps := 4000000) (disch := omega) only [rq, simprocAttr])
 refine Qa hT' ?_
 simp (maxSteps := 4000000) (disch := omega) only [rq, simprocAttr, hMI]
 refine Qa hM' ?_
 simp (maxSteps := 4000000) (disch := omega) only [rq, simprocAttr]
 refine Qa hs' ?_
 simp (maxSteps := 4000000) (disch := omega) only [rq, simprocAttr, ol, kl0, oT, kT, zd, qX, tT]
 refine Qg (ι := Nat) (fun k => ⟨[(14, .int .i64 k), (13, .ref 3 1 0), (11, .ref 2 1 0), (10, .list (oL b).length (ks .i64 (oL b))), (9, .list (oL b).length (ks .i64 (iL (oS b p)))), (7, .ref 1 1 0), (6, .int .i64 (oW b p k)), (4, .ref 0 1 0), (5, .int .i64 0), (0, .list b.length (u8 b))],
  [⟨t0, 4, 1, [.int .i64 0, .int .i64 0, .int .i64 0, .emp true], 0⟩, ⟨t1, 5, 1, [.int .i64 (oF b), .int .i64 (oC b), .int .i64 (oX b), .int .i64 (oR b), .int .i64 (oN b)], 0⟩, ⟨t2, 16, 1, ks .i32 (tpT p), 0⟩, ⟨t0, 4, 1, [.int .i64 (oC b), .int .i64 (oX b), .int .i64 (oR b), .own 4 (smF b p k).length], 0⟩, ⟨t3, 1, (smF b p k).length, ks .i32 (smF b p k), 0⟩]⟩) (fun k => k ≤ (oL b).length ∧ ∀ j, j < k → ofE b p j = 0) (fun k => (oL b).length - k) 0 (Le.trans (Le.virtC 3 3 t3 1 (by decide) rfl rfl) ?_) ⟨by omega, fun j hj => absurd hj (by omega)⟩ ?_
 ·rw [hM0]
  simp only [smF, yE, QwY]
  exact Qh
 rintro k ⟨hk, hz⟩
 have hWk := hW k
 have hWk1 := hW (k + 1)
 have hink := hin hz
 have hslk := hsl k
 have kP := Qd .i32 (smF b p k)
 by_cases hlt : k < (oL b).length
 ·have e2 := J8 (K := .i64) (l := iL (oS b p)) (i := k) (by omega)
  rw [Qo8] at e2
  have e3 := J8 (K := .i64) (l := oL b) (i := k) hlt
  have hWsk := hWs k
  by_cases hsh : b.length < oW b p (k + 1)
  ·have e5 : ofE b p k = 24 := by rw [ofE, qc hsh]
   have hE := hbad hlt hz (by omega)
   rw [e5] at hE
   rw [hE]
   rw [hWsk] at hsh
   clear err hbad hall hok hin hsl hWs hW hD hB hE
   generalize oW b p k = s at *
   generalize (oS b p).getD k 0 = z at *
   simp (maxSteps := 4000000) (disch := omega) only [rq, simprocAttr, e2, kS, QL, ht, Qm]
   simp [QI, Qz, frzL, Qv]
  have hbl : (ofB b p k).length = (oS b p).getD k 0 := by rw [ofB, qh, ql]; omega
  have hat : ((u8 b).drop (oW b p k)).take ((oS b p).getD k 0) = u8 (ofB b p k) := by rw [QE, QJ]; rfl
  have hD' := hD (oC b) (oX b) ((oL b).getD k 0) (tpT p) (ofB b p k) hTl hTI (by omega)
  rw [(Qxk _ _ _ _ _).1, shA, bs, il, hbl] at hD'
  have e6 : Qzr (oC b) (oX b) (tpT p) ((oL b).getD k 0) (ofB b p k) = ofP b p k := rfl
  have e7 : ofE b p k = QAe (oC b) (oX b) (tpT p) ((oL b).getD k 0) (ofB b p k) := by rw [ofE, qa hsh]
  rw [e6, ← e7] at hD'
  have kp := Qd .i32 (ofP b p k)
  have hpl := QiK b p k
  have hcat : ks .i32 (smF b p k) ++ ks .i32 (ofP b p k) = ks .i32 (smF b p (k + 1)) := by rw [smF, Qci]
  have hcl : (smF b p (k + 1)).length = (smF b p k).length + (ofP b p k).length := by rw [smF, qx]
  have hsk1 := hsl (k + 1)
  rw [hWsk] at hsh
  by_cases h8 : ofE b p k ≠ 0
  ·rw [hbad hlt hz h8]
   clear err hbad hall hok hin hsl hWs hW hD hB e6 e7 hcat
   generalize ofE b p k = e at *
   generalize ofP b p k = P1 at *
   generalize ofB b p k = B1 at *
   generalize (oL b).getD k 0 = N1 at *
   generalize oW b p k = s at *
   generalize (oS b p).getD k 0 = z at *
   simp (maxSteps := 4000000) (disch := omega) only [rq, simprocAttr, e2, e3, kS, kL, tT, kT, hat, yh]
   refine Qc hD' ?_
   simp (maxSteps := 4000000) (disch := omega) only [rq, simprocAttr, QL, ht, Qm]
   simp [QI, Qz, frzL, Qv]
  have h8' : ofE b p k = 0 := Decidable.not_not.1 h8
  rw [h8'] at hD'
  clear err hbad hall hok hin hsl hWs hW hD hB e6 e7
  generalize ofP b p k = P1 at *
  generalize ofB b p k = B1 at *
  generalize (oL b).getD k 0 = N1 at *
  generalize hsg : oW b p k = s at *
  generalize (oS b p).getD k 0 = z at *
  simp (maxSteps := 4000000) (disch := omega) only [rq, simprocAttr, e2, e3, kS, kL, tT, kT, hat, yh]
  refine Qc hD' ?_
  simp (maxSteps := 4000000) (disch := omega) only [rq, simprocAttr, kP, kp, hcat, e2, kS]
  refine ⟨k + 1, ⟨by omega, fun j hj => ?_⟩, by omega, ?_⟩
  ·by_cases hjk : j < k
   ·exact hz j hjk
   ·rw [show j = k by omega]; exact h8'
  rw [hWsk, hcl]
  simp only [yI]
  exact Qh
 ·obtain rfl : k = (oL b).length := by omega
  have hB' := hB (b.drop (oW b p (oL b).length)) (by rw [ql]; omega)
  have hbl : (b.drop (oW b p (oL b).length)).length = b.length - oW b p (oL b).length := ql
  have hat : ((u8 b).drop (oW b p (oL b).length)).take (b.length - oW b p (oL b).length) = u8 (b.drop (oW b p (oL b).length)) := by
   rw [QE]; exact qf (by rw [Qe, hbl]; exact qj _)
  rw [bs, hbl] at hB'
  have hcl := hall hz
  have tl := Qq .i32 (smF b p (oL b).length)
  by_cases h9 : (bhN (b.drop (oW b p (oL b).length))).2 ≠ 0
  ·rw [qc h9] at hcl
   rw [err 38 hcl (by omega)]
   clear err hbad hall hok hin hsl hWs hW hD hB hcl
   generalize (bhN (b.drop (oW b p (oL b).length))).2 = e at *
   generalize (bhN (b.drop (oW b p (oL b).length))).1 = c at *
   generalize oW b p (oL b).length = s at *
   simp (maxSteps := 4000000) (disch := omega) only [rq, simprocAttr, hat]
   refine Qa hB' ?_
   simp (maxSteps := 4000000) (disch := omega) only [rq, simprocAttr, QL, ht, Qm]
   simp [QI, Qz, frzL, Qv]
  ·rw [qa h9] at hcl
   rw [hok hcl]
   rw [Decidable.not_not.1 h9] at hB'
   clear err hbad hall hok hin hsl hWs hW hD hB hcl h9
   generalize (bhN (b.drop (oW b p (oL b).length))).1 = c at *
   generalize oW b p (oL b).length = s at *
   simp (maxSteps := 4000000) (disch := omega) only [rq, simprocAttr, hat]
   refine Qa hB' ?_
   simp (maxSteps := 4000000) (disch := omega) only [rq, simprocAttr, QL, ht, Qm]
   simp [QI, Qz, frzL, Qv, isDL, isD, frzL_T _ tl]
theorem QqM {P : Prg} {f fC t0 : Nat} (bd : Qf P f 14 [.tmp 4] (ZZ fC t0)) (hC : Qeb P fC) : Qco P f := by
 intro b p hb
 refine Qn (by simp [isDL, isD, Qr]) rfl bd ?_
 have hC' := hC b p hb
 have hlu := Qe b
 rw [QuP] at hC'
 rw [bs] at hC' ⊢
 by_cases h : clN b p = 0
 ·rw [qc h, clA, il] at hC'
  rw [h]
  simp (maxSteps := 4000000) (disch := omega) only [rq, simprocAttr, ZZ]
  refine Qa hC' ?_
  simp (maxSteps := 4000000) (disch := omega) only [rq, simprocAttr]
 ·rw [qa h, clA, il] at hC'
  generalize clN b p = e at *
  simp (maxSteps := 4000000) (disch := omega) only [rq, simprocAttr, ZZ]
  refine Qa hC' ?_
  simp (maxSteps := 4000000) (disch := omega) only [rq, simprocAttr]
theorem Qix {α : Type} {B : List α} {m i j : Nat} (h : i + j ≤ m) : ((B.take m).drop i).take j = (B.drop i).take j := by
 rw [jA, jC, qA (by omega)]
theorem QeR {α : Type} {B : List α} {m j : Nat} (h : j ≤ m) : (B.take m).take j = B.take j := by
 rw [jC, qA h]
theorem QvC {B : List UInt8} {m i : Nat} (h : i < m) : (B.take m).getD i 0 = B.getD i 0 := by
 simp only [qe, yO, h, yf]
theorem QzO {B : List UInt8} {m : Nat} (h : (idN B).2 = 6) (hm : 3 ≤ m) : (idN (B.take m)).2 = 6 := by
 have hb : B.take 3 ≠ [73, 68, 51] := fun hb => by
  unfold idN at h
  rw [qa (fun hh => hh hb)] at h
  dsimp only at h
  repeat' split at h
  all_goals cases h
 unfold idN
 rw [QeR hm, qc hb]
theorem QC7 {B : List UInt8} {m : Nat} (h : (idN B).2 = 0) (hm : (idN B).1 ≤ m) : idN (B.take m) = idN B := by
 have hk := QCs h
 have h10 : 10 ≤ m := by omega
 have h3 : B.take 3 = [73, 68, 51] := Decidable.not_not.1 fun hh => by unfold idN at h; rw [qc hh] at h; cases h
 have hml : (B.take m).length = min m B.length := qh
 have e0 : ¬ B.length < 10 := by omega
 have e0' : ¬ (B.take m).length < 10 := by omega
 unfold idN at h hm hk ⊢
 rw [QeR (by omega : 3 ≤ m), Qix (by omega : 6 + 4 ≤ m), Qix (by omega : 3 + 7 ≤ m), QvC (by omega : 3 < m), QvC (by omega : 4 < m), QvC (by omega : 5 < m)]
 rw [qa (fun hh => hh h3), qa e0] at h hm hk
 have g3 : ¬ (B.take 3 ≠ [73, 68, 51]) := fun hh => hh h3
 simp only [qa g3, qa e0, qa e0']
 split at h
 ·cases h
 rename_i c1
 rw [qa c1] at hm hk
 simp only [qa c1]
 generalize hn : (Qp4 ((B.drop 6).take 4)).1 + 10 + (if (B.getD 5 0).toNat = 16 then (10 : Int) else 0) = n at h hm hk ⊢
 dsimp only at h hm hk ⊢
 by_cases h4 : 4000 < n
 ·rw [qc h4] at h; cases h
 rw [qa h4] at h hm hk ⊢
 by_cases h5 : (B.length : Int) < n
 ·rw [qc h5] at h; cases h
 rw [qa h5] at h hm hk
 split at h
 ·cases h
 rename_i h6
 rw [qa h6] at hm hk
 simp only at hm hk
 have h5' : ¬ ((B.take m).length : Int) < n := by omega
 simp only [Qix (show (n - 10).toNat + 3 ≤ m by omega), Qix (show (n - 7).toNat + 7 ≤ m by omega), qa h5', qa h6, qa h4, qa h5]
theorem QBW {B : List UInt8} {m : Nat} (h : (apF B).2 = 6) (hm : 8 ≤ m) : (apF (B.take m)).2 = 6 := by
 have hb : B.take 8 ≠ [65, 80, 69, 84, 65, 71, 69, 88] := fun hb => by
  unfold apF at h
  rw [qa (fun hh => hh hb)] at h
  repeat' split at h
  all_goals cases h
 unfold apF
 rw [QeR hm, qc hb]
theorem QC9 {B : List UInt8} {m : Nat} (h : (apF B).2 = 0) (hm : (apF B).1 ≤ m) : apF (B.take m) = apF B := by
 have hk := QBw h
 have h32 : 64 ≤ m := by omega
 have hml : (B.take m).length = min m B.length := qh
 unfold apF at h hm hk ⊢
 rw [QeR (by omega : 8 ≤ m), QeR (by omega : 32 ≤ m)]
 split at h
 ·cases h
 rename_i c1
 rw [qa c1] at hm hk ⊢
 split at h
 ·cases h
 rename_i c2
 rw [qa c2] at hm hk
 split at h
 ·cases h
 rename_i c3
 rw [qa c3] at hm hk
 split at h
 ·cases h
 rename_i c4
 rw [qa c4] at hm hk
 split at h
 ·cases h
 rename_i c5
 rw [qa c5] at hm hk
 simp only at hm hk
 have d2 : ¬ (B.take m).length < 32 := by omega
 have d4 : ¬ (B.take m).length < Zs (B.take 32) + 32 := by omega
 simp only [Qix (show Zs (B.take 32) + 32 ≤ m by omega), qa d2, qa d4, qa c1, qa c2, qa c3, qa c4, qa c5]
theorem QC5 {B : List UInt8} {m : Nat} (h : (szN B).2 = 0) (hm : (szN B).1 ≤ m) : szN (B.take m) = szN B := by
 unfold szN at h hm ⊢
 by_cases h6 : (idN B).2 ≠ 6
 ·rw [qc h6] at h hm ⊢
  rw [QC7 h hm, qc h6]
 ·rw [qa h6] at h hm ⊢
  have hk := QBw h
  rw [qa (fun hh => hh (QzO (Decidable.not_not.1 h6) (by omega))), QC9 h hm]
theorem QBU {B : List UInt8} {m : Nat} (h : (szN B).2 = 6) (hm : 8 ≤ m) : (szN (B.take m)).2 = 6 := by
 unfold szN at h ⊢
 by_cases h6 : (idN B).2 ≠ 6
 ·rw [qc h6] at h
  exact absurd h h6
 ·rw [qa h6] at h
  rw [qa (fun hh => hh (QzO (Decidable.not_not.1 h6) (by omega))), QBW h hm]
theorem QAa (b : List UInt8) : ∀ k a, (frF b k a).2 = 0 → (a : Int) ≤ (frF b k a).1
 | 0, a, _ => by simp [frF]
 | k + 1, a, h => by
  unfold frF at h ⊢
  split at h
  ·rename_i h1; rw [qc h1]; exact Int.le_refl _
  rename_i h1
  rw [qa h1]
  split at h
  ·rename_i h2; exact absurd h h2
  rename_i h2
  rw [qa h2]
  split at h
  ·cases h
  rename_i h3
  rw [qa h3]
  have := QAa b k _ h
  omega
theorem QBV (b : List UInt8) (m : Nat) : ∀ k a, (frF b k a).2 = 0 → (frF b k a).1 + 8 ≤ m → frF (b.take m) k a = frF b k a
 | 0, a, _, _ => by simp [frF]
 | k + 1, a, h, hm => by
  have hd : (b.take m).drop a = (b.drop a).take (m - a) := jA
  have hs := Qho (b.drop a)
  unfold frF at h hm ⊢
  rw [hd]
  by_cases h1 : (szN (b.drop a)).2 = 6
  ·rw [qc h1] at h hm
   simp only at hm
   rw [qc (QBU h1 (by omega)), qc h1]
  rw [qa h1] at h hm
  by_cases h2 : (szN (b.drop a)).2 ≠ 0
  ·rw [qc h2] at h; exact absurd h h2
  rw [qa h2] at h hm
  have h2' := Decidable.not_not.1 h2
  by_cases h3 : 4000 < a + (szN (b.drop a)).1.toNat
  ·rw [qc h3] at h; cases h
  rw [qa h3] at h hm
  have hg := QAa b k _ h
  rw [QC5 h2' (by omega), qa h1, qa h2, qa h3, qa h1, qa h2, qa h3]
  exact QBV b m k _ h hm
theorem Qlx {B : List UInt8} {m i j : Nat} (h : i + j ≤ m) : rdF (B.take m) i j = rdF B i j := by rw [rdF, rdF, Qix h]
theorem QC8 {B : List UInt8} {m : Nat} (hm : 22 ≤ m) (hB : 22 ≤ B.length) : hrN (B.take m) = hrN B := by
 have hml : (B.take m).length = min m B.length := qh
 have hg : QiO.take (B.take m).length = QiO.take B.length := by
  rw [qf (by simp [QiO]; omega), qf (by simp [QiO]; omega)]
 unfold hrN
 rw [hg, QeR (by omega : 4 ≤ m), QeR (by omega : 18 ≤ m), Qlx (by omega : 18 + 4 ≤ m), Qlx (by omega : 4 + 2 ≤ m), Qlx (by omega : 6 + 2 ≤ m), Qlx (by omega : 8 + 2 ≤ m), Qlx (by omega : 10 + 4 ≤ m), Qlx (by omega : 14 + 4 ≤ m)]
 rw [show (if (B.take m).length < 22 then (24 : Int) else _) = _ from qa (by omega), show (if B.length < 22 then (24 : Int) else _) = _ from qa (by omega)]
theorem QC6 {b p : List UInt8} (hf : FOk b) (hp : p ≠ []) (h2 : oF b = 2) (hl : oA b + 30 ≤ b.length) : opQ (b.take (oA b + 30)) p = (if oE2 b p ≠ 0 then oE2 b p else 24) := by
 have hfa := hf.fa
 have hle := hf.le
 have hml : (b.take (oA b + 30)).length = oA b + 30 := by rw [qh]; omega
 have f1 : frN (b.take (oA b + 30)) = frN b := QBV b _ 402 0 hf.fr (by have : (frF b 402 0).1 = oA b := hfa; omega)
 have a1 : oA (b.take (oA b + 30)) = oA b := by rw [oA, f1]; rfl
 have H1 : oH (b.take (oA b + 30)) = (oH b).take 30 := by rw [oH, a1, oH, jA]; congr 1; omega
 have hHl : 30 ≤ (oH b).length := by rw [oH, ql]; omega
 have r1 : hrN (oH (b.take (oA b + 30))) = 0 := by rw [H1, QC8 (by omega) (by omega), hf.hr]
 have F1 : oF (b.take (oA b + 30)) = oF b := by rw [oF, H1, Qlx (by omega)]; rfl
 have R1 : oR (b.take (oA b + 30)) = oR b := by rw [oR, H1, Qlx (by omega)]; rfl
 have N1 : oN (b.take (oA b + 30)) = oN b := by rw [oN, H1, Qlx (by omega)]; rfl
 have L1 : oL (b.take (oA b + 30)) = oL b := by rw [oL, R1, N1]; rfl
 have E1 : oE1 (b.take (oA b + 30)) = 0 := by
  unfold oE1
  rw [qa (by omega), f1, qa (fun h => h hf.fr), r1]
 have E2 : oE2 (b.take (oA b + 30)) p = oE2 b p := by
  unfold oE2
  rw [F1, a1, Qix (by omega), hml]
  simp only [qa hp, qa (show ¬ oA b + 30 < oA b + 30 by omega), qa (show ¬ b.length < oA b + 30 by omega)]
 have T1 : oT (b.take (oA b + 30)) p = [] := by
  rw [oT, a1, oD, qa hp]
  exact qP (by omega)
 unfold opQ
 rw [E1, qa (by omega), E2, T1, L1]
 by_cases h : oE2 b p ≠ 0
 ·rw [qc h, qc h]
 ·rw [qa h, qa h, skR, qc (by simp)]
def Qnc (P : Prg) (f : Nat) : Prop := ∀ (b : List UInt8) (k : Nat), FOk b → k ≤ (oL b).length → VC P f [hdA (oF b) (oC b) (oX b) (oR b) (oN b), .int .i64 k] (.int .i64 (gdN b k))
theorem QtX {P : Prg} {f fM fo t0 : Nat} (bd : Qf P f 32 [.tmp 4] (Jm fM fo t0)) (hM : QaT P fM) (ho : Qm6 P fo) : Qnc P f := by
 intro b k hf hk
 refine Qn rfl rfl bd ?_
 obtain ⟨mN, hmN, hok0⟩ := Qhv hf.hd
 have hM' := hM (oR b) mN (by have h1 := hok0.2.2.1; have h2 := hok0.2.2.2.1; exact ⟨hok0.1, hok0.2.1, by omega, by omega⟩)
 rw [← hmN, show mN = (oN b).toNat by omega, ← oL, Xh] at hM'
 rw [hdA]
 have hl2 := hf.l2
 obtain ⟨n, hn, hn4, hsum, hat⟩ := QwJ hf
 have hkL : (ks .i64 (oL b)).length = (oL b).length := Qd _ _
 have hc : 1 ≤ oC b ∧ oC b ≤ 6 ∧ (oX b = 8 ∨ oX b = 16 ∨ oX b = 24) := by
  have h := hf.hd
  unfold hdN at h
  split at h
  ·rename_i hh; exact ⟨hh.1.2.2.1, hh.1.2.2.2.1, hh.1.1⟩
  ·cases h
 have ho' := ho (oC b) (oX b) hc.1 hc.2.1 (Qrh hf.hd)
 rw [shA] at ho'
 clear hmN hok0
 simp (maxSteps := 4000000) (disch := omega) only [rq, simprocAttr, Jm]
 refine Qa hM' ?_
 simp (maxSteps := 4000000) (disch := omega) only [rq, simprocAttr]
 refine Qg (ι := Nat) (fun j => ⟨[(7, .int .i64 j), (1, .int .i64 k), (6, .int .i64 ((oL b).take j).sum), (5, .list (oL b).length (ks .i64 (oL b))), (2, .ref 0 1 0)], [⟨t0, 5, 1, [.int .i64 (oF b), .int .i64 (oC b), .int .i64 (oX b), .int .i64 (oR b), .int .i64 (oN b)], 0⟩]⟩) (fun j => j ≤ k) (fun j => k - j) 0 ?_ (by omega) ?_
 ·simp only [yV, jU]
  exact Qh
 intro j hj
 have hs := hsum j
 by_cases hlt : j < k
 ·have e3 := J8 (K := .i64) (l := oL b) (i := j) (by omega)
  have hs1 := QwI b (k := j) (by omega)
  have hs2 := hsum (j + 1)
  have ha := hat j (by omega)
  generalize ((oL b).take j).sum = s at *
  generalize (oL b).getD j 0 = z at *
  simp (maxSteps := 4000000) (disch := omega) only [rq, simprocAttr, e3, hkL]
  refine ⟨j + 1, by omega, by omega, ?_⟩
  rw [hs1]
  exact Qh
 ·obtain rfl : j = k := by omega
  have hgd := Qrj hf j
  have q : ((oL b).take j).sum * (oC b * oX b / 8) = gdN b j := by
   rw [gdN]
   generalize ((oL b).take j).sum = s
   obtain ⟨_, _, c3⟩ := hc
   rcases c3 with h | h | h <;> rw [h]
   ·rw [Ya _ (by omega), Ya _ (by omega)]
   ·rw [show oC b * 16 / 8 = oC b * 2 by omega, show s * oC b * 16 = s * oC b * 2 * 8 by omega, Ya _ (by omega), Int.mul_assoc]
   ·rw [show oC b * 24 / 8 = oC b * 3 by omega, show s * oC b * 24 = s * oC b * 3 * 8 by omega, Ya _ (by omega), Int.mul_assoc]
  generalize ((oL b).take j).sum = s at *
  generalize oC b * oX b / 8 = M at *
  generalize gdN b j = gd at *
  simp (maxSteps := 4000000) (disch := omega) only [rq, simprocAttr]
  refine Qa ho' ?_
  simp (maxSteps := 4000000) (disch := omega) only [rq, simprocAttr, q]
def Qjo (P : Prg) (f : Nat) : Prop := ∀ b p : List UInt8, b.length ≤ 1000000 → p.length ≤ 64 → VC P f [bs b, .str p] (.int .u8 (ptF b (opN b p)))
set_option maxHeartbeats 2000000 in
theorem QqI {P : Prg} {f fF fR fO t0 t1 : Nat} (bd : Qf P f 61 [.tmp 4] (QA fF fR fO t0 t1)) (hF : QaL P fF) (hR : QaK P fR) (hO : Qic P fO) : Qjo P f := by
 intro b p hb hp64
 refine Qn (by simp [isDL, Qr, isD]) rfl bd ?_
 have hlu := Qe b
 have hE0 := QhY p []
 by_cases h2 : 100000 < b.length
 ·rw [ptF, qc h2, bs]
  simp (maxSteps := 4000000) (disch := omega) only [rq, simprocAttr, QA]
 have hF' := hF b hb
 rw [bs] at hF'
 by_cases h3 : (frN b).2 ≠ 0
 ·rw [ptF, qa h2, qc h3, bs]
  generalize (frN b).2 = e' at *
  generalize (frN b).1 = m at *
  simp (maxSteps := 4000000) (disch := omega) only [rq, simprocAttr, QA]
  refine Qa hF' ?_
  simp (maxSteps := 4000000) (disch := omega) only [rq, simprocAttr]
 have h3' : (frN b).2 = 0 := Decidable.not_not.1 h3
 have e1 : oE1 b = hrN (oH b) := by rw [oE1, qa h2, qa h3]
 have ha : (frN b).1 = oA b ∧ oA b ≤ 4000 ∧ oA b ≤ b.length := by
  rcases Qe1 b with ⟨_, n, hn, h4, h5⟩ | ⟨_, h5⟩
  ·rw [oA, hn, qu]; exact ⟨rfl, h4, h5⟩
  ·omega
 rw [h3', ha.1] at hF'
 have hHl : (oH b).length = b.length - oA b := by rw [oH, ql]
 have hR' := hR (oH b) (by omega)
 have hsH : ((u8 b).drop (oA b)).take (b.length - oA b) = u8 (oH b) := by
  rw [QE]; exact qf (by rw [Qe, ql]; exact qj _)
 rw [bs, hHl] at hR'
 rw [hrA] at hR'
 by_cases h4 : hrN (oH b) ≠ 0
 ·rw [ptF, qa h2, qa h3, qc h4, bs]
  rw [qa h4, hdA] at hR'
  generalize hrN (oH b) = e' at *
  generalize oA b = a at *
  simp (maxSteps := 4000000) (disch := omega) only [rq, simprocAttr, QA]
  refine Qa hF' ?_
  simp (maxSteps := 4000000) (disch := omega) only [rq, simprocAttr, hsH]
  refine Qa hR' ?_
  simp (maxSteps := 4000000) (disch := omega) only [rq, simprocAttr]
 have h4' : hrN (oH b) = 0 := Decidable.not_not.1 h4
 rw [qc h4', hdA] at hR'
 have hR2 : VC P fR [.list (b.length - oA b) (u8 (oH b))] (.tup [.agg [.int .i64 (oF b), .int .i64 (oC b), .int .i64 (oX b), .int .i64 (oR b), .int .i64 (oN b)], .int .i64 0]) := hR'
 have hf := Qga (b := b) (by rw [e1]; exact h4')
 have h12 := hf.f12
 have hop : opN b p = if oE2 b p ≠ 0 then oE2 b p else skR (oT b p) (oL b).length := by rw [opN, qa (by omega), e1, qa h4]
 have hsk := QiA (oT b p) (oL b).length
 have hl22 := hf.len
 rw [ptF, qa h2, qa h3, qa h4, bs]
 clear hR' hR hF h3 h4
 by_cases e : p = []
 ·have e3 : (p == []) = true := by rw [e]; rfl
  by_cases h5 : oF b = 1
  ·have e2 : oE2 b p = 0 := by rw [oE2, qa (fun h => h.elim (fun h => h.2 h5) (fun h => h.1 e)), qc e]
   rw [qa (by rw [hop, e2, qa (by omega)]; omega)]
   rw [h5] at hR2
   generalize oA b = a at *
   simp (maxSteps := 4000000) (disch := omega) only [rq, simprocAttr, QA]
   refine Qa hF' ?_
   simp (maxSteps := 4000000) (disch := omega) only [rq, simprocAttr, hsH]
   refine Qa hR2 ?_
   simp (maxSteps := 4000000) (disch := omega) only [rq, simprocAttr, hE0, e3]
  ·have e2 : oE2 b p = 26 := by rw [oE2, qc (.inl ⟨e, h5⟩)]
   have h5' : oF b = 2 := by omega
   rw [qc (.inl (by rw [hop, e2, qc (by omega)]))]
   rw [h5'] at hR2
   generalize oA b = a at *
   simp (maxSteps := 4000000) (disch := omega) only [rq, simprocAttr, QA]
   refine Qa hF' ?_
   simp (maxSteps := 4000000) (disch := omega) only [rq, simprocAttr, hsH]
   refine Qa hR2 ?_
   simp (maxSteps := 4000000) (disch := omega) only [rq, simprocAttr, hE0, e3]
 have e3 : (p == []) = false := qT.2 e
 by_cases h5 : oF b = 1
 ·have e2 : oE2 b p = 26 := by rw [oE2, qc (.inr ⟨e, h5⟩)]
  rw [qc (.inl (by rw [hop, e2, qc (by omega)]))]
  rw [h5] at hR2
  generalize oA b = a at *
  simp (maxSteps := 4000000) (disch := omega) only [rq, simprocAttr, QA]
  refine Qa hF' ?_
  simp (maxSteps := 4000000) (disch := omega) only [rq, simprocAttr, hsH]
  refine Qa hR2 ?_
  simp (maxSteps := 4000000) (disch := omega) only [rq, simprocAttr, hE0, e3]
 have h5' : oF b = 2 := by omega
 have e0 : ¬ ((p = [] ∧ oF b ≠ 1) ∨ (p ≠ [] ∧ oF b = 1)) := fun h => h.elim (fun h => e h.1) (fun h => h5 h.2)
 have ixd : ∀ (q : List UInt8), QwD q p = .tup [(if opQ q p = 0 then ixA q p else ix0), .int .i64 (opQ q p)] := fun q => by
  unfold QwD
  split
  ·rename_i h; rw [h]
  ·rfl
 have ixf : ∀ (q : List UInt8), ∃ i0 i1 i2 i3 i4 i5 n L, (if opQ q p = 0 then ixA q p else ix0) = .agg [.int .i64 i0, .int .i64 i1, .int .i64 i2, .int .i64 i3, .int .i64 i4, .int .i64 i5, .list n L] := fun q => by
  split
  ·exact ⟨_, _, _, _, _, _, _, _, rfl⟩
  ·exact ⟨_, _, _, _, _, _, _, _, rfl⟩
 have q30 : (oA b : Int) + 22 + 8 = ((oA b + 30 : Nat) : Int) := by omega
 by_cases h7 : b.length < oA b + 30
 ·have hO' := hO b p hb (by omega)
  have e2 : oE2 b p = 24 := by rw [oE2, qa e0, qa e, qc h7]
  have e4 : opQ b p = 24 := by rw [opQ, qa (by omega), qc (by omega), e2]
  obtain ⟨i0, i1, i2, i3, i4, i5, n, L, hI⟩ := ixf b
  rw [ixd, hI, e4, bs] at hO'
  rw [qc (.inr ⟨h5', h7⟩)]
  rw [h5'] at hR2
  have hmn : (if (b.length : Int) < (oA b : Int) + 30 then (b.length : Int) else (oA b : Int) + 30) = (b.length : Int) := qc (by omega)
  have htk : (u8 b).take b.length = u8 b := qf (by omega)
  clear e0 ixd ixf hI hop
  generalize oA b = a at *
  simp (maxSteps := 4000000) (disch := omega) only [rq, simprocAttr, QA]
  refine Qa hF' ?_
  simp (maxSteps := 4000000) (disch := omega) only [rq, simprocAttr, hsH]
  refine Qa hR2 ?_
  simp (maxSteps := 4000000) (disch := omega) only [rq, simprocAttr, hE0, e3, hmn, htk, yn]
  refine Qa hO' ?_
  simp (maxSteps := 4000000) (disch := omega) only [rq, simprocAttr]
 ·have hO' := hO (b.take (oA b + 30)) p (by rw [qh]; omega) (by omega)
  have htl : (b.take (oA b + 30)).length = oA b + 30 := by rw [qh]; omega
  have e4 := QC6 hf e h5' (by omega)
  obtain ⟨i0, i1, i2, i3, i4, i5, n, L, hI⟩ := ixf (b.take (oA b + 30))
  rw [ixd, hI, bs, htl, e4] at hO'
  have e2 := QwK b p
  have e2' : oE2 b p ≠ 24 := fun h => by
   rw [oE2, qa e0, qa e, qa h7] at h
   split at h <;> cases h
  rw [h5'] at hR2
  have hmn : (if (oA b : Int) + 22 + 8 < (b.length : Int) then (oA b : Int) + 22 + 8 else (b.length : Int)) = ((oA b + 30 : Nat) : Int) := by split <;> omega
  have htk : (u8 b).take (oA b + 30) = u8 (b.take (oA b + 30)) := QJ _ _
  obtain ⟨M, hM⟩ : ∃ M, oA b + 30 = M := ⟨_, rfl⟩
  rw [hM] at hmn htk hO' htl
  clear ixd ixf hI e4
  by_cases h8 : oE2 b p = 0
  ·rw [qa (by rw [hop, h8, qa (by omega)]; omega)]
   rw [h8, qa (by omega)] at hO'
   clear hop e0
   generalize b.take M = B at *
   generalize oA b = a at *
   simp (maxSteps := 4000000) (disch := omega) only [rq, simprocAttr, QA]
   refine Qa hF' ?_
   simp (maxSteps := 4000000) (disch := omega) only [rq, simprocAttr, hsH]
   refine Qa hR2 ?_
   simp (maxSteps := 4000000) (disch := omega) only [rq, simprocAttr, hE0, e3, hmn, htk, yn]
   refine Qa hO' ?_
   simp (maxSteps := 4000000) (disch := omega) only [rq, simprocAttr]
  ·have h9 : oE2 b p = 26 := by omega
   rw [qc (.inl (by rw [hop, h9, qc (by omega)]))]
   rw [h9, qc (by omega)] at hO'
   clear hop e0
   generalize b.take M = B at *
   generalize oA b = a at *
   simp (maxSteps := 4000000) (disch := omega) only [rq, simprocAttr, QA]
   refine Qa hF' ?_
   simp (maxSteps := 4000000) (disch := omega) only [rq, simprocAttr, hsH]
   refine Qa hR2 ?_
   simp (maxSteps := 4000000) (disch := omega) only [rq, simprocAttr, hE0, e3, hmn, htk, yn]
   refine Qa hO' ?_
   simp (maxSteps := 4000000) (disch := omega) only [rq, simprocAttr]
set_option maxHeartbeats 4000000 in
theorem QtY {P : Prg} {f fC fO fF fG fR t0 t1 : Nat} (bd : Qf P f 72 [.cell 4 t0, .tmp 5] (Zg fC fO fF fG fR t0 t1)) (hC : Qco P fC) (hO : Qbf P fO) (hF : Qjo P fF) (hG : Qnc P fG) (hR : Qsf P fR) (ht : ZE P t0 = some (some 4)) : Qec P f := by
 intro b p hb
 refine Qi 1 (by simp [isDL, Qr, isD]) (Qw1 b p) (Qb bd (by simp) ?_)
 have hlu := Qe b
 unfold tdA
 by_cases h1 : 64 < p.length
 ·rw [qc h1, bs]
  simp (maxSteps := 4000000) (disch := omega) only [rq, simprocAttr, Zg, QL, ht, Qm]
  simp [QI, Qz, frzL, Qv]
 rw [qa h1]
 have hC' := hC b p hb
 have hO' := hO b p hb
 unfold QpU at hO'
 by_cases h2 : opN b p ≠ 0
 ·have hF' := hF b p hb (by omega)
  rw [qa h2, ix0] at hO'
  have e1 : clN b p = opN b p := QeM h2
  rw [tdP, qc h2, tdQ, qa (fun h => h2 h.1), tdG, qc h2, e1]
  rw [e1] at hC'
  rw [bs] at hC' hO' hF' ⊢
  have hp0 := QwB b (opN b p)
  generalize ptF b (opN b p) = q at *
  generalize opN b p = e at *
  clear e1
  simp (maxSteps := 4000000) (disch := omega) only [rq, simprocAttr, Zg]
  iterate 2 (refine Qa (by assumption) ?_; simp (maxSteps := 4000000) (disch := omega) only [rq, simprocAttr])
  refine Qa hF' ?_
  simp (maxSteps := 4000000) (disch := omega) only [rq, simprocAttr, QL, ht, Qm]
  simp [QI, Qz, frzL, Qv]
 have h2' : opN b p = 0 := Decidable.not_not.1 h2
 obtain ⟨_, hf, _, _⟩ := Qc2 h2'
 have hl1 := hf.l1
 have hl2 := hf.l2
 obtain ⟨_, _, g3⟩ := QeX h2'
 rw [qc h2', ixA, Xh, Ze, g3] at hO'
 rw [tdP, qa h2, tdQ, tdG, qa h2]
 simp only [h2', true_and]
 have hR' := fun k (hk : k < (oL b).length) => hR b p k h2' hk
 have hG' := fun k (hk : k ≤ (oL b).length) => hG b k hf hk
 have hob := QAX b p
 have hbnd := Qrj hf
 have hsl : (ks .i64 (iL (oS b p))).length = (oL b).length := by rw [Qd, Ze, g3]
 simp only [hdA] at hG'
 simp only [ixA, Xh, Ze, g3] at hR'
 rw [bs] at hC' hO' ⊢
 simp only [bs] at hR'
 have hG2 := hG' (oL b).length (qj _)
 have hgb := hbnd (oL b).length
 by_cases hcl : clN b p = 0
 ·have e1 := QCh h2' hcl
  rw [e1, hcl, qa (by omega), qa (by omega), qa (by omega)]
  rw [hcl] at hC'
  clear hG' hR' hbnd e1 hcl hC hO hF hR hG
  generalize gdN b (oL b).length = gd at *
  simp (maxSteps := 4000000) (disch := omega) only [rq, simprocAttr, Zg]
  iterate 2 (refine Qa (by assumption) ?_; simp (maxSteps := 4000000) (disch := omega) only [rq, simprocAttr])
  refine Qa hG2 ?_
  simp (maxSteps := 4000000) (disch := omega) only [rq, simprocAttr, QL, ht, Qm]
  simp [QI, Qz, frzL, Qv]
 ·simp only [qc (show clN b p ≠ 0 from hcl)]
  have hcl' := hcl
  generalize hcn : clN b p = cl at *
  generalize hgn : gdN b (oL b).length = gn at *
  simp (maxSteps := 4000000) (disch := omega) only [rq, simprocAttr, Zg]
  iterate 3 (refine Qa (by assumption) ?_; simp (maxSteps := 4000000) (disch := omega) only [rq, simprocAttr])
  refine Qg (ι := Nat) (fun k => ⟨[(9, .int .i64 k), (7, .ref 2 1 0), (6, .ref 1 1 0), (4, .ref 0 1 0), (5, .int .i64 0), (0, .list b.length (u8 b)), (1, .str p)], [⟨t0, 4, 1, [.int .i64 0, .int .u8 0, .int .i64 0, .int .i64 0], 0⟩, ⟨t0, 4, 1, [.int .i64 cl, .int .u8 0, .int .i64 0, .int .i64 gn], 0⟩, ⟨t1, 7, 1, [.int .i64 (oF b), .int .i64 (oC b), .int .i64 (oX b), .int .i64 (oR b), .int .i64 (oN b), .int .i64 (oM b p), .list (oL b).length (ks .i64 (iL (oS b p)))], 0⟩]⟩) (fun k => k ≤ (oL b).length ∧ ∀ j, j < k → ofE b p j = 0) (fun k => (oL b).length - k) 0 (Qh) ⟨by omega, fun j hj => absurd hj (by omega)⟩ ?_
  rintro k ⟨hk, hz⟩
  by_cases hlt : k < (oL b).length
  ·have hR2 := hR' k hlt
   unfold Qyh at hR2
   by_cases h8 : ofE b p k ≠ 0
   ·have e1 := QCg hlt hz h8
    have hG3 := hG' k hk
    have hgb2 := hbnd k
    rw [e1, qc hlt, qc hlt]
    rw [qc h8] at hR2
    clear hG' hR' hbnd e1 hC hO hF hR hG hcn
    generalize ofE b p k = e at *
    generalize gdN b k = gd at *
    simp (maxSteps := 4000000) (disch := omega) only [rq, simprocAttr]
    refine Qa hR2 ?_
    simp (maxSteps := 4000000) (disch := omega) only [rq, simprocAttr]
    refine Qa hG3 ?_
    simp (maxSteps := 4000000) (disch := omega) only [rq, simprocAttr, QL, ht, Qm]
    simp [QI, Qz, frzL, Qv]
   ·rw [qa h8] at hR2
    have h8' := Decidable.not_not.1 h8
    clear hG' hR' hbnd hC hO hF hR hG hcn
    simp only [bs] at hR2
    simp (maxSteps := 4000000) (disch := omega) only [rq, simprocAttr]
    refine Qa hR2 ?_
    simp (maxSteps := 4000000) (disch := omega) only [rq, simprocAttr]
    refine ⟨k + 1, ⟨by omega, fun j hj => ?_⟩, by omega, Qh⟩
    by_cases hjk : j < k
    ·exact hz j hjk
    ·rw [show j = k by omega]; exact h8'
  ·obtain rfl : k = (oL b).length := by omega
   have e1 := QzZ hz
   rw [e1, hgn, qa (by omega), qa (by omega)]
   clear hG' hR' hbnd e1 hC hO hF hR hG hcn
   simp (maxSteps := 4000000) (disch := omega) only [rq, simprocAttr, QL, ht, Qm]
   simp [QI, Qz, frzL, Qv]
theorem QyV {P : Prg} {f fO fT t0 t1 t2 : Nat} (bd : Qf P f 29 [.cell 4 t0, .tmp 5] (XQ fO fT t0 t1 t2)) (hO : Qbf P fO) (hT : Qec P fT) (ht : ZE P t0 = some (some 11)) : Qvb P f := by
 intro b p hb
 refine Qi 1 (by simp [isDL, Qr, isD]) (Qs2 b p) (Qb bd (by simp) ?_)
 have hlu := Qe b
 have hO' := hO b p hb
 have hT' := hT b p hb
 unfold QpU at hO'
 unfold QA1
 by_cases h : opN b p = 0
 ·obtain ⟨h64, hf, _, _⟩ := Qc2 h
  rw [tdA, qa h64] at hT'
  rw [qc h, ixA, Xh] at hO'
  rw [qc h, Rp.av, rpF]
  have tS := Qq .i64 (iL (oS b p))
  simp only [Xh]
  rw [bs] at hO' hT' ⊢
  generalize clN b p = e at *
  generalize tdP b p = q1 at *
  generalize tdQ b p = q2 at *
  generalize tdG b p = q3 at *
  simp (maxSteps := 4000000) (disch := omega) only [rq, simprocAttr, XQ]
  refine Qa hO' ?_
  simp (maxSteps := 4000000) (disch := omega) only [rq, simprocAttr]
  refine Qa hT' ?_
  simp (maxSteps := 4000000) (disch := omega) only [rq, simprocAttr, QL, ht, Qm]
  simp [QI, Qz, frzL, Qv, frzL_T _ tS]
 ·rw [qa h, ix0] at hO'
  rw [qa h]
  rw [bs] at hO' ⊢
  generalize opN b p = e at *
  simp (maxSteps := 4000000) (disch := omega) only [rq, simprocAttr, XQ]
  refine Qa hO' ?_
  simp (maxSteps := 4000000) (disch := omega) only [rq, simprocAttr, QL, ht, Qm]
  simp [QI, Qz, frzL, Qv, Rp.av, Rp.zero, Xh, ks]
theorem QhK {P : Prg} {f fL fO fI fS t0 : Nat} (bd : Qf P f 36 [.tmp 4] (Q5 fL fO fI fS t0)) (hL : Qm8 P fL) (hO : Qvb P fO) (hI : Qvb P fI) (hS : Qm0 P fS) : QxZ P f := by
 intro b p
 refine Qn (by simp [isDL, Qr, isD]) rfl bd ?_
 have hlu := Qe b
 have hL' := hL b
 rw [bs] at hL'
 cases hg : QCV b.length with
 | true =>
  rw [hg] at hL'
  rw [bs]
  simp (maxSteps := 4000000) (disch := omega) only [rq, simprocAttr, Q5]
  refine Qa hL' ?_
  simp (maxSteps := 4000000) (disch := omega) only [rq, simprocAttr]
 | false =>
 rw [hg] at hL'
 have hb : b.length ≤ 12100 := by
  unfold QCV at hg
  simp only [Bool.or_eq_false_iff, Yg] at hg
  omega
 by_cases h100 : 100 < p.length
 ·rw [bs]
  simp (maxSteps := 4000000) (disch := omega) only [rq, simprocAttr, Q5]
  refine Qa hL' ?_
  simp (maxSteps := 4000000) (disch := omega) only [rq, simprocAttr]
 have hO' := hO b p (by omega)
 have hI' := hI b p (by omega)
 have key : ∃ (x : Rp) (e : Int), x.l.length ≤ 1000000 ∧ QA1 b p = .tup [x.av, .int .i64 e] := by
  unfold QA1
  by_cases h : opN b p = 0
  ·obtain ⟨_, hf, _, _⟩ := Qc2 h
   obtain ⟨_, _, g3⟩ := QeX h
   have hl2 := hf.l2
   rw [qc h]
   exact ⟨rpF b p, 0, by show (iL (oS b p)).length ≤ 1000000; rw [Ze, g3]; omega, rfl⟩
  ·rw [qa h]
   exact ⟨Rp.zero, _, by simp [Rp.zero], rfl⟩
 obtain ⟨x, e, hx, hk⟩ := key
 rw [hk] at hO' hI'
 have hS' := hS x x hx hx
 rw [(Qwc _).1, (Qwc _).2] at hS'
 rw [Rp.av, Xh] at hO' hI' hS'
 rw [bs] at hO' hI' ⊢
 clear hO hI hS hL hk
 simp (maxSteps := 4000000) (disch := omega) only [rq, simprocAttr, Q5]
 iterate 3 (refine Qa (by assumption) ?_; simp (maxSteps := 4000000) (disch := omega) only [rq, simprocAttr])
 refine Qa hS' ?_
 simp (maxSteps := 4000000) (disch := omega) only [rq, simprocAttr, Qve]
theorem QyW {P : Prg} {f fE : Nat} (bd : Qf P f 8 [.tmp 4] (Z8 fE)) (hE : Qao P fE) : Qtr P f := by
 exact fun n c hn hc => Qt4 bd hE n c hn hc
theorem QyX {P : Prg} {f fE : Nat} (bd : Qf P f 14 [.tmp 6] (Zv fE)) (hE : Qao P fE) : Qts P f := by
 exact fun n c w hn hc => Qt5 bd hE n c w hn hc
end Go.Am
