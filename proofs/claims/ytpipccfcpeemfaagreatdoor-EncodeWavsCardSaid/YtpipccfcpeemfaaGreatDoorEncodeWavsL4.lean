/- What the functions that the law reaches return, for every program that has their code; the conditions stand in each statement. -/
import Derived.Test.YtpipccfcpeemfaaGreatDoorEncodeWavsL3
set_option linter.unusedSectionVars false
set_option linter.unusedSimpArgs false
set_option linter.unusedVariables false
namespace Go.Am
open Go.RowKit
def Qzr (c r n : Int) : Prop := n ≤ 4000 / c ∧ QjS r n = 0
instance decFitP (c r n : Int) : Decidable (Qzr c r n) := by unfold Qzr; exact inferInstance
theorem QwU {r n : Int} (h : QjS r n = 0) : ∃ k : Int, Qit r n = .tup [.int .i64 k, .int .i64 0] ∧ 0 ≤ k ∧ k ≤ 1000 := by
 unfold QjS at h
 unfold Qit
 split at h
 ·cases h
 rename_i a1
 split at h
 ·cases h
 rename_i a2
 split at h
 ·cases h
 rename_i a3
 rw [if_neg a1, if_neg a2, if_neg a3]
 have := Xw r
 exact ⟨_, rfl, Int.ediv_nonneg (by omega) (by omega), by omega⟩
def QxD (P : Prg) (g : Nat) : Prop := ∀ f c b r n : Int, 1 ≤ c → c ≤ 6 → VC P g [hdA f c b r n] (.bool (decide (Qzr c r n)))
theorem QqK {P : Prg} {g fC t0 : Nat} (bd : Qf P g 25 [.tmp 2] (Jq fC t0)) (hC : QaD P fC) : QxD P g := by
 intro f c b r n c1 c2
 refine VC.of_acall rfl rfl (ACall.of_body bd (by simp) ?_)
 have hC' := hC r n
 have q0 : ¬ c = 0 := by omega
 have q1 : (4000 : Int).tdiv c = 4000 / c := Int.tdiv_eq_ediv_of_nonneg (by omega)
 have q2 : 0 ≤ 4000 / c := Int.ediv_nonneg (by omega) (by omega)
 have q3 : 4000 / c ≤ 4000 := Int.ediv_le_self _ (by omega)
 by_cases h1 : n ≤ 4000 / c
 case neg =>
  have hn : decide (Qzr c r n) = false := decide_eq_false fun h => h1 h.1
  rw [hn]
  generalize hQ : 4000 / c = Q at *
  have hw : IntKind.i64.wrap Q = Q := QE (by omega) (by omega)
  simp (disch := omega) only [rq, simprocAttr, Jq, hdA, q1, hQ, hw]
 by_cases h2 : QjS r n = 0
 ·have hn : decide (Qzr c r n) = true := decide_eq_true ⟨h1, h2⟩
  rw [hn]
  obtain ⟨k, e, k1, k2⟩ := QwU h2
  rw [e] at hC'
  generalize hQ : 4000 / c = Q at *
  have hw : IntKind.i64.wrap Q = Q := QE (by omega) (by omega)
  simp (disch := omega) only [rq, simprocAttr, Jq, hdA, q1, hQ, hw]
  refine Qb.vc hC' ?_
  simp (disch := omega) only [rq, simprocAttr]
 ·have hn : decide (Qzr c r n) = false := decide_eq_false fun h => h2 h.2
  rw [hn]
  obtain ⟨k, e⟩ := Ql0 r n
  rw [e] at hC'
  generalize hQ : 4000 / c = Q at *
  have hw : IntKind.i64.wrap Q = Q := QE (by omega) (by omega)
  generalize QjS r n = E at *
  simp (disch := omega) only [rq, simprocAttr, Jq, hdA, q1, hQ, hw]
  refine Qb.vc hC' ?_
  simp (disch := omega) only [rq, simprocAttr]
def hdN (f c b r n : Int) : Int := if shP f c b r n ∧ Qzr c r n then 0 else 8
def Qi7 (P : Prg) (g : Nat) : Prop := ∀ f c b r n : Int, VC P g [hdA f c b r n] (.int .i64 (hdN f c b r n))
theorem QoA {P : Prg} {g fS fF t0 : Nat} (bd : Qf P g 11 [.tmp 2] (XE fS fF t0)) (hS : QmG P fS) (hF : QxD P fF) : Qi7 P g := by
 intro f c b r n
 refine VC.of_acall rfl rfl (ACall.of_body bd (by simp) ?_)
 have hS' := hS f c b r n
 by_cases h1 : shP f c b r n
 case neg =>
  have e : hdN f c b r n = 8 := by rw [hdN, if_neg fun h => h1 h.1]
  rw [decide_eq_false h1] at hS'
  rw [e]
  rw [hdA] at hS' ⊢
  simp (disch := omega) only [rq, simprocAttr, XE]
  refine Qb.vc hS' ?_
  simp (disch := omega) only [rq, simprocAttr]
 have hF' := hF f c b r n h1.2.2.1 h1.2.2.2.1
 rw [decide_eq_true h1] at hS'
 by_cases h2 : Qzr c r n
 ·have e : hdN f c b r n = 0 := by rw [hdN, if_pos ⟨h1, h2⟩]
  rw [decide_eq_true h2] at hF'
  rw [e]
  rw [hdA] at hS' hF' ⊢
  simp (disch := omega) only [rq, simprocAttr, XE]
  refine Qb.vc hS' ?_
  simp (disch := omega) only [rq, simprocAttr]
  refine Qb.vc hF' ?_
  simp (disch := omega) only [rq, simprocAttr]
 ·have e : hdN f c b r n = 8 := by rw [hdN, if_neg fun h => h2 h.2]
  rw [decide_eq_false h2] at hF'
  rw [e]
  rw [hdA] at hS' hF' ⊢
  simp (disch := omega) only [rq, simprocAttr, XE]
  refine Qb.vc hS' ?_
  simp (disch := omega) only [rq, simprocAttr]
  refine Qb.vc hF' ?_
  simp (disch := omega) only [rq, simprocAttr]
def mkA (c x r : Int) (l : List Int) (p : List UInt8) : AV := if Zc c x r l ≠ 0 then .tup [hdA 0 0 0 0 0, .int .i64 8] else if 64 < p.length then .tup [hdA 0 0 0 0 0, .int .i64 2] else .tup [hdA (if p = [] then 1 else 2) c x r (l.length / c), .int .i64 0]
theorem QAk (c x r : Int) (l : List Int) (p : List UInt8) : isD (mkA c x r l p) = true := by
 unfold mkA
 repeat' split
 all_goals rfl
def QmQ (P : Prg) (g : Nat) : Prop := ∀ (c x r : Int) (l : List Int) (p : List UInt8), I32 l → l.length ≤ 1000000 → VC P g [clA c x r l, .str p] (mkA c x r l p)
theorem QqL {P : Prg} {g fC t0 t1 : Nat} (bd : Qf P g 35 [.cell 4 t1, .tmp 5] (Xc fC t0 t1)) (hC : Z4 P fC) (ht : Q6 P t1 = some (some 5)) : QmQ P g := by
 intro c x r l p hI hl
 refine VC.of_acall (by simp [isDL, isD, QZ, clA]) (QAk _ _ _ _ _) (ACall.of_body bd (by simp) ?_)
 have hC' := hC c x r l hI hl
 rw [il] at hC'
 rcases Qbm c x r l with h | h
 case inr =>
  rw [h] at hC'
  rw [mkA, if_pos (by omega)]
  simp (disch := omega) only [rq, simprocAttr, Xc, clA, il]
  refine Qb.vc hC' ?_
  simp (disch := omega) only [rq, simprocAttr, QD, ht, Qz, hdA]
 rw [h] at hC'
 rw [mkA, if_neg (by omega)]
 by_cases hp : 64 < p.length
 ·rw [if_pos hp]
  simp (disch := omega) only [rq, simprocAttr, Xc, clA, il]
  refine Qb.vc hC' ?_
  simp (disch := omega) only [rq, simprocAttr, QD, ht, Qz, hdA]
 rw [if_neg hp]
 obtain ⟨k, n, rfl, k1, k2, hlen, hok, h4⟩ := Qan h
 have hk0 : (l.length : Int) / (k : Int) = n := by rw [hlen, Int.natCast_mul, Int.mul_ediv_cancel _ (by omega)]
 have hk3 : ((l.length : Int)).tdiv (k : Int) = n := by rw [Int.tdiv_eq_ediv_of_nonneg (by omega), hk0]
 have hq0 : (k : Int) ≠ 0 := by omega
 have hn4 : n ≤ 4000 := by have := hok.2.2.2.1; omega
 rw [hk0]
 by_cases hn : p = []
 ·subst hn
  simp (disch := omega) only [rq, simprocAttr, Xc, clA, il]
  refine Qb.vc hC' ?_
  simp (disch := omega) only [rq, simprocAttr, QD, ht, Qz, hdA, Qfo, hk0, hk3]
 ·have hs : Qfo .neq p [] = some (.bool true) := by simp [Qfo, hn]
  have h2 : (if p = [] then (1 : Int) else 2) = 2 := if_neg hn
  rw [h2]
  simp (disch := omega) only [rq, simprocAttr, Xc, clA, il]
  refine Qb.vc hC' ?_
  simp (disch := omega) only [rq, simprocAttr, QD, ht, Qz, hdA, hs, hk0, hk3]
def QBT : List AV := [.int .i64 2, .int .i64 2, .int .i64 2, .int .i64 4, .int .i64 4]
def hdP (f c b r n : Nat) : Nat → List UInt8
 | 0 => [84, 84, 65, 49]
 | 1 => [84, 84, 65, 49] ++ leB f 2
 | 2 => [84, 84, 65, 49] ++ leB f 2 ++ leB c 2
 | 3 => [84, 84, 65, 49] ++ leB f 2 ++ leB c 2 ++ leB b 2
 | 4 => [84, 84, 65, 49] ++ leB f 2 ++ leB c 2 ++ leB b 2 ++ leB r 4
 | _ => [84, 84, 65, 49] ++ leB f 2 ++ leB c 2 ++ leB b 2 ++ leB r 4 ++ leB n 4
def hdB (f c b r n : Nat) : List UInt8 := ZU (hdP f c b r n 5)
theorem Qwn {f c b r n : Int} (h : hdN f c b r n = 0) : ∃ f' c' b' r' n' : Nat, f = f' ∧ c = c' ∧ b = b' ∧ r = r' ∧ n = n' ∧ f' ≤ 2 ∧ c' ≤ 6 ∧ b' ≤ 24 ∧ r' ≤ 1048576 ∧ n' ≤ 4000 := by
 unfold hdN at h
 split at h
 case isFalse => cases h
 rename_i h1
 obtain ⟨⟨a1, a2, a3, a4, a5, a6, a7⟩, b1, b2⟩ := h1
 have q3 : 4000 / c ≤ 4000 := Int.ediv_le_self _ (by omega)
 exact ⟨f.toNat, c.toNat, b.toNat, r.toNat, n.toNat, by omega, by omega, by omega, by omega, by omega, by omega, by omega, by omega, by omega, by omega⟩
def hwA (f c b r n : Int) : AV := if hdN f c b r n = 0 then .tup [bs (hdB f.toNat c.toNat b.toNat r.toNat n.toNat), .int .i64 0] else .tup [.list 0 [], .int .i64 8]
theorem QAl (f c b r n : Int) : isD (hwA f c b r n) = true := by unfold hwA; split <;> simp [isD, isDL, QC]
theorem Qwo (f c b r n : Int) : hdN f c b r n = 0 ∨ hdN f c b r n = 8 := by unfold hdN; split <;> simp
def Qi6 (P : Prg) (g : Nat) : Prop := ∀ f c b r n : Int, VC P g [hdA f c b r n] (hwA f c b r n)
set_option maxHeartbeats 2000000 in
theorem Qoz {P : Prg} {g fC fB fS t0 t1 g0 : Nat} (bd : Qf P g 63 [.tmp 2, .tmp 3] (JZ fC fB fS t0 t1 g0)) (hC : Qi7 P fC) (hB : Qbt P fB) (hS : Qpm P fS) (h0 : P.G.lookup g0 = some QBT) : Qi6 P g := by
 intro f c b r n
 refine VC.of_walk 1 rfl (QAl _ _ _ _ _) (ACall.of_body bd (by simp) ?_)
 have hC' := hC f c b r n
 have g0' : QuE P.G g0 = .cell QBT := by simp [QuE, h0]
 rcases Qwo f c b r n with h | h
 case inr =>
  rw [h] at hC'
  rw [hwA, if_neg (by omega)]
  rw [hdA] at hC' ⊢
  simp (disch := omega) only [rq, simprocAttr, JZ]
  refine Qb.vc hC' ?_
  simp (disch := omega) only [rq, simprocAttr]
  simp [QF, Qu, frzL, Qs]
 rw [h] at hC'
 rw [hwA, if_pos h]
 obtain ⟨f, c, b, r, n, rfl, rfl, rfl, rfl, rfl, a1, a2, a3, a4, a5⟩ := Qwn h
 simp only [Int.toNat_natCast]
 rw [hdA] at hC' ⊢
 have B1 := hB f 2 (by omega) (by omega) (by simp; omega)
 have B2 := hB c 2 (by omega) (by omega) (by simp; omega)
 have B3 := hB b 2 (by omega) (by omega) (by simp; omega)
 have B4 := hB r 4 (by omega) (by omega) (by simp; omega)
 have B5 := hB n 4 (by omega) (by omega) (by simp; omega)
 rw [bs, Qd] at B1 B2 B3 B4 B5
 have u2 : ∀ m, (u8 (leB m 2)).length = 2 := fun m => by rw [Qy, Qd]
 have u4 : ∀ m, (u8 (leB m 4)).length = 4 := fun m => by rw [Qy, Qd]
 have c0 : u8 (hdP f c b r n 0) ++ u8 (leB f 2) = u8 (hdP f c b r n 1) := by simp [hdP, u8]
 have c1 : u8 (hdP f c b r n 1) ++ u8 (leB c 2) = u8 (hdP f c b r n 2) := by simp [hdP, u8]
 have c2 : u8 (hdP f c b r n 2) ++ u8 (leB b 2) = u8 (hdP f c b r n 3) := by simp [hdP, u8]
 have c3 : u8 (hdP f c b r n 3) ++ u8 (leB r 4) = u8 (hdP f c b r n 4) := by simp [hdP, u8]
 have c4 : u8 (hdP f c b r n 4) ++ u8 (leB n 4) = u8 (hdP f c b r n 5) := by simp [hdP, u8]
 have l0 : (hdP f c b r n 0).length = 4 := rfl
 have l1 : (hdP f c b r n 1).length = 6 := by simp [hdP, Qd]
 have l2 : (hdP f c b r n 2).length = 8 := by simp [hdP, Qd]
 have l3 : (hdP f c b r n 3).length = 10 := by simp [hdP, Qd]
 have l4 : (hdP f c b r n 4).length = 14 := by simp [hdP, Qd]
 have l5 : (hdP f c b r n 5).length = 18 := by simp [hdP, Qd]
 have e0 : u8 (hdP f c b r n 0) = [.int .u8 84, .int .u8 84, .int .u8 65, .int .u8 49] := rfl
 have hcat : u8 (hdP f c b r n 5) ++ u8 (leB (Qcc (hdP f c b r n 5)) 4) = u8 (hdB f c b r n) := by simp [u8, hdB, ZU]
 have hlen : (hdB f c b r n).length = 22 := by rw [hdB, ZU, List.length_append, Qd, l5]
 have hS' := hS (hdP f c b r n 5)
 rw [if_neg (by omega), ← Qcc, bs, l5] at hS'
 have hsm : Qcc (hdP f c b r n 5) < 4294967296 := by unfold Qcc; omega
 have B6 := hB (Qcc (hdP f c b r n 5)) 4 (by omega) (by omega) (by simpa using hsm)
 rw [bs, Qd] at B6
 have t5 := Qv (hdP f c b r n 5)
 have tb := Qv (hdB f c b r n)
 rw [bs, hlen]
 obtain ⟨H, hH⟩ : ∃ H, H = hdP f c b r n := ⟨_, rfl⟩
 rw [← hH] at c0 c1 c2 c3 c4 l0 l1 l2 l3 l4 l5 e0 hcat hS' hsm B6 t5
 generalize Qcc (H 5) = sm at *
 generalize hdB f c b r n = D at *
 have g0'' : QuE P.G g0 = .cell [.int .i64 2, .int .i64 2, .int .i64 2, .int .i64 4, .int .i64 4] := g0'
 simp (disch := omega) only [rq, simprocAttr, JZ]
 refine Qb.vc hC' ?_
 simp (disch := omega) only [rq, simprocAttr]
 refine Qx.by (ι := Nat) (fun j => ⟨[(32, .int .i64 j), (31, .agg [.int .i64 f, .int .i64 c, .int .i64 b, .int .i64 r, .int .i64 n]), (5, .own 1 (H j).length)], [⟨t0, 5, 1, [.int .i64 f, .int .i64 c, .int .i64 b, .int .i64 r, .int .i64 n], 0⟩, ⟨t1, 1, (H j).length, u8 (H j), 1⟩]⟩) (fun j => j ≤ 5) (fun j => 5 - j) 0 ?_ (by omega) ?_
 ·simp only [e0, l0]
  exact Le.slots (by simp [Am.look])
 intro j hj
 have hj5 : j = 0 ∨ j = 1 ∨ j = 2 ∨ j = 3 ∨ j = 4 ∨ j = 5 := by omega
 rcases hj5 with rfl | rfl | rfl | rfl | rfl | rfl
 ·simp (disch := omega) only [rq, simprocAttr, g0'', l0]
  refine Qb.vc B1 ?_
  simp (disch := omega) only [rq, simprocAttr, u2, c0]
  exact ⟨1, by omega, by omega, by rw [l1]; exact Le.slots (by simp [Am.look])⟩
 ·simp (disch := omega) only [rq, simprocAttr, g0'', l1]
  refine Qb.vc B2 ?_
  simp (disch := omega) only [rq, simprocAttr, u2, c1]
  exact ⟨2, by omega, by omega, by rw [l2]; exact Le.slots (by simp [Am.look])⟩
 ·simp (disch := omega) only [rq, simprocAttr, g0'', l2]
  refine Qb.vc B3 ?_
  simp (disch := omega) only [rq, simprocAttr, u2, c2]
  exact ⟨3, by omega, by omega, by rw [l3]; exact Le.slots (by simp [Am.look])⟩
 ·simp (disch := omega) only [rq, simprocAttr, g0'', l3]
  refine Qb.vc B4 ?_
  simp (disch := omega) only [rq, simprocAttr, u4, c3]
  exact ⟨4, by omega, by omega, by rw [l4]; exact Le.slots (by simp [Am.look])⟩
 ·simp (disch := omega) only [rq, simprocAttr, g0'', l4]
  refine Qb.vc B5 ?_
  simp (disch := omega) only [rq, simprocAttr, u4, c4]
  exact ⟨5, by omega, by omega, by rw [l5]; exact Le.slots (by simp [Am.look])⟩
 ·simp (disch := omega) only [rq, simprocAttr, l5]
  refine Qb.flat 1 hS' rfl (by simp [QF, Qu, frzL, Qs, frzL_T _ t5]) ?_
  simp (disch := omega) only [rq, simprocAttr]
  refine Qb.vc B6 ?_
  simp (disch := omega) only [rq, simprocAttr, u4, hcat]
  simp [QF, Qu, frzL, Qs, frzL_T _ tb]
def QaS (L : List (List UInt8)) : List Int := L.map fun b => (b.length : Int)
theorem QfO (L : List (List UInt8)) : (QaS L).length = L.length := by simp [QaS]
theorem Qwc {L : List (List UInt8)} {k : Nat} (h : k < L.length) : (QaS L).getD k 0 = (L.getD k []).length := by
 simp [QaS, List.getD_eq_getElem?_getD, List.getElem?_eq_getElem h]
def Qxz (P : Prg) (f : Nat) : Prop := ∀ b : List UInt8, VC P f [bs b] (.int .i64 b.length)
theorem QlP {P : Prg} {f : Nat} (bd : Qf P f 5 [.tmp 2] QaQ) : Qxz P f := by
 intro b
 refine VC.of_acall (by simp [isDL, QC]) rfl (ACall.of_body bd (by simp) ?_)
 simp (disch := omega) only [rq, simprocAttr, QaQ, bs]
def QxF (g : Nat) (P : Prg) (f : Nat) : Prop := ∀ L : List (List UInt8), L.length ≤ 1000000 → (∀ j, (L.getD j []).length ≤ 1000000) → VC P f [bss L, .fn (.func g) [] []] (Qjj (QaS L))
theorem QqU {P : Prg} {f g t0 : Nat} (bd : Qf P f 26 [.tmp 4] (ZX t0)) (hg : Qxz P g) : QxF g P f := by
 intro L hL hL2
 refine VC.of_walk 1 (by simp [isDL, isD, QlH]) (QdN _) (ACall.of_body bd (by simp) ?_)
 have hmb : (L.map bs).length = L.length := by simp
 have hz : Qe [.int .i64 0] L.length = ks .i64 ((QaS L).take 0 ++ List.replicate (L.length - 0) 0) := by rw [Qr8]; simp
 have tl := Qm .i64 (QaS L)
 have hll := QfO L
 rw [Qjj, hll, bss]
 simp (disch := omega) only [rq, simprocAttr, ZX, hz]
 refine Qx.by (ι := Nat) (fun k => ⟨[(13, .int .i64 k), (12, .int .i64 L.length), (11, .list L.length (L.map bs)), (5, .own 0 L.length), (1, .fn (.func g) [] [])], [⟨t0, 1, L.length, ks .i64 ((QaS L).take k ++ List.replicate (L.length - k) 0), 0⟩]⟩) (fun k => k ≤ L.length) (fun k => L.length - k) 0 (Le.slots (by simp [Am.look])) (by omega) ?_
 intro k hk
 have hkl : (ks .i64 ((QaS L).take k ++ List.replicate (L.length - k) 0)).length = L.length := by rw [Qg, List.length_append, List.length_take, hll, List.length_replicate]; omega
 by_cases hlt : k < L.length
 ·have e1 := Qxe (L := L) (k := k) hlt
  have hg' := hg (L.getD k [])
  have hst : (ks .i64 ((QaS L).take k ++ List.replicate (L.length - k) 0)).take k ++ .int .i64 ((L.getD k []).length : Int) :: (ks .i64 ((QaS L).take k ++ List.replicate (L.length - k) 0)).drop (k + 1) = ks .i64 ((QaS L).take (k + 1) ++ List.replicate (L.length - (k + 1)) 0) := by
   have hq : (QaS L)[k]? = some ((L.getD k []).length : Int) := by simp [QaS, List.getD_eq_getElem?_getD, List.getElem?_eq_getElem hlt]
   have htk : (QaS L).take (k + 1) = (QaS L).take k ++ [((L.getD k []).length : Int)] := by rw [List.take_add_one, hq]; rfl
   have hl1 : ((QaS L).take k).length = k := by rw [List.length_take, hll]; omega
   rw [QqF, QaJ, htk, List.take_append_of_le_length (by omega), List.take_of_length_le (by omega), List.drop_append, List.drop_eq_nil_of_le (by omega), hl1, List.drop_replicate, List.nil_append]
   simp only [ks, List.map_append, List.map_cons, List.map_nil, List.append_assoc, List.cons_append, List.nil_append]
   rw [show L.length - k - (k + 1 - k) = L.length - (k + 1) by omega]
  have hst2 : (ks .i64 ((QaS L).take k ++ List.replicate (L.length - k) 0)).take k ++ [.int .i64 ((L.getD k []).length : Int)] ++ (ks .i64 ((QaS L).take k ++ List.replicate (L.length - k) 0)).drop (k + 1) = ks .i64 ((QaS L).take (k + 1) ++ List.replicate (L.length - (k + 1)) 0) := by rw [← hst]; simp
  rw [bs] at e1 hg'
  have hl2 := hL2 k
  generalize L.getD k [] = b at *
  simp (disch := omega) only [rq, simprocAttr, e1, hmb, hkl]
  refine Qb.vc hg' ?_
  simp (disch := omega) only [rq, simprocAttr, hkl, hst, hst2]
  exact ⟨k + 1, by omega, by omega, Le.slots (by simp [Am.look])⟩
 ·have ek : k = L.length := by omega
  subst ek
  have e0 : (QaS L).take L.length ++ List.replicate (L.length - L.length) (0 : Int) = QaS L := by rw [← hll, List.take_length]; simp
  rw [e0]
  simp (disch := omega) only [rq, simprocAttr]
  simp [QF, Qu, frzL, Qs, frzL_T _ tl]
def QrH (P : Prg) (f : Nat) : Prop := ∀ L : List (List UInt8), L.length ≤ 1000000 → L.flatten.length ≤ 1000000 → VC P f [bss L] (bs L.flatten)
theorem QqT {P : Prg} {f t0 : Nat} (bd : Qf P f 17 [.tmp 2] (Qb3 t0)) : QrH P f := by
 intro L hL hF
 refine VC.of_walk 1 (by simp [isDL, QlH]) (QC _) (ACall.of_cut 2 bd (by simp) ?_)
 have hmb : (L.map bs).length = L.length := by simp
 rw [bs, bss]
 simp (disch := omega) only [rq, simprocAttr, Qb3, Qdl]
 refine ⟨_, Le.virt 3 t0 1 (by decide) rfl, ?_⟩
 simp (disch := omega) only [rq, simprocAttr, Qdl]
 refine Qx.by (ι := Nat) (fun k => ⟨[(8, .int .i64 k), (7, .int .i64 L.length), (6, .list L.length (L.map bs)), (3, .own 0 (L.take k).flatten.length)], [⟨t0, 1, (L.take k).flatten.length, u8 (L.take k).flatten, 0⟩]⟩) (fun k => k ≤ L.length) (fun k => L.length - k) 0 (Le.slots (by simp [Am.look, u8])) (by omega) ?_
 intro k hk
 have hle : (L.take k).flatten.length ≤ L.flatten.length := by
  conv => rhs; rw [← List.take_append_drop k L, List.flatten_append, List.length_append]
  omega
 by_cases hlt : k < L.length
 ·have e1 := Qxe (L := L) (k := k) hlt
  have hs : (L.take (k + 1)).flatten = (L.take k).flatten ++ L.getD k [] := by
   rw [List.take_succ_eq_append_getElem hlt, List.flatten_append]
   simp [List.getD_eq_getElem?_getD, List.getElem?_eq_getElem hlt]
  have hle2 : (L.take (k + 1)).flatten.length ≤ L.flatten.length := by
   conv => rhs; rw [← List.take_append_drop (k + 1) L, List.flatten_append, List.length_append]
   omega
  rw [hs, List.length_append] at hle2
  have hcat : u8 (L.take k).flatten ++ u8 (L.getD k []) = u8 (L.take (k + 1)).flatten := by rw [hs]; simp [u8]
  have hlen : (L.take k).flatten.length + (L.getD k []).length = (L.take (k + 1)).flatten.length := by rw [hs, List.length_append]
  have hbl : (u8 (L.getD k [])).length = (L.getD k []).length := Qy _
  rw [bs] at e1
  generalize hY : (L.take (k + 1)).flatten = Y at *
  generalize L.getD k [] = b at *
  generalize (L.take k).flatten = X at *
  simp (disch := omega) only [rq, simprocAttr, Qdl, e1, hmb, hbl, hcat, hlen]
  refine ⟨k + 1, by omega, by omega, ?_⟩
  simp only [hY]
  exact Le.slots (by simp [Am.look])
 ·have ek : k = L.length := by omega
  subst ek
  have tF := Qv L.flatten
  rw [List.take_length]
  simp (disch := omega) only [rq, simprocAttr, Qdl]
  simp [QF, Qu, frzL, Qs, frzL_T _ tF]
theorem QrX : ∀ {l : List Int} {m : Int}, QrZ m l → l.sum ≤ m ∨ l = []
 | [], _, _ => .inr rfl
 | n :: l, m, h => by
  obtain ⟨h1, h2, h3⟩ := h
  rcases QrX h3 with h4 | h4
  ·left; rw [List.sum_cons]; omega
  ·left; subst h4; simp; omega
theorem Qlj : ∀ L : List (List UInt8), (QaS L).sum = (L.flatten.length : Int)
 | [] => rfl
 | b :: L => by
  have h := Qlj L
  simp only [QaS, List.map_cons, List.sum_cons, List.flatten_cons, List.length_append] at h ⊢
  omega
def Qm4 (p : List UInt8) : Int := if p = [] then 1 else 2
theorem QsG {c x r : Int} {l : List Int} (p : List UInt8) (h : Zc c x r l = 0) : hdN (Qm4 p) c x r (l.length / c) = 0 := by
 obtain ⟨h1, h2⟩ := Qui h
 obtain ⟨⟨o1, o2, o3, o4, o5⟩, he, hn1, hn2⟩ := QAs h2
 have hce : QjS r (l.length / c) = 0 := by
  rw [Qie] at h2
  by_cases h9 : QcG c x (l.length / c) = 0 ∧ QjS r (l.length / c) = 0
  ·exact h9.2
  ·rw [if_neg h9] at h2; cases h2
 have hc : Jk x ≠ 0 ∧ 1 ≤ c ∧ c ≤ 6 := by
  rcases ZB c x with q | ⟨q, a, b, d⟩
  ·omega
  ·exact ⟨by omega, by omega, by omega⟩
 have hx := (Qag x).1 hc.1
 rw [hdN, if_pos ⟨⟨hx, by unfold Qm4; split <;> simp, hc.2.1, hc.2.2, o1, o2, hn1⟩, hn2, hce⟩]
def Qu4 (p : List UInt8) : List UInt8 := if p = [] then [] else leB (Z5 0 p) 8
def QqR (c x r : Int) (l : List Int) (p : List UInt8) : List UInt8 :=
 hdB (Qm4 p).toNat c.toNat x.toNat r.toNat (l.length / c.toNat) ++ (Qu4 p ++ (ZU (Jl (QaS (Qq c x r l (ofK (Z5 0 p) 8)))) ++ (Qq c x r l (ofK (Z5 0 p) 8)).flatten))
def Qim (c x r : Int) (l : List Int) (p : List UInt8) : AV :=
 if Zc c x r l ≠ 0 then .tup [.list 0 [], .int .i64 8] else if 64 < p.length then .tup [.list 0 [], .int .i64 2] else if skN (QaS (Qq c x r l (ofK (Z5 0 p) 8))) ≠ 0 then .tup [.list 0 [], .int .i64 8] else .tup [bs (QqR c x r l p), .int .i64 0]
theorem QsC (c x r : Int) (l : List Int) (p : List UInt8) : isD (Qim c x r l p) = true := by
 unfold Qim
 repeat' split
 all_goals simp [isD, isDL, QC]
def QmW (P : Prg) (f : Nat) : Prop := ∀ (c x r : Int) (l : List Int) (p : List UInt8), I32 l → l.length ≤ 1000000 → VC P f [clA c x r l, .str p] (Qim c x r l p)
set_option maxHeartbeats 2000000 in
theorem QqV {P : Prg} {f fM fF fW fD fE fg fS fJ t0 t1 t2 : Nat} (bd : Qf P f 62 [.tmp 4, .tmp 5] (Zj fM fF fW fD fE fg fS fJ t0 t1 t2)) (hM : QmQ P fM) (hF : QmR P fF) (hW : Qi6 P fW) (hD : QgV P fD) (hE : QxF fg P fE) (hS : QiR P fS) (hJ : QrH P fJ) : QmW P f := by
 intro c x r l p hI hl
 refine VC.of_walk 1 (by simp [isDL, isD, QZ, clA]) (QsC _ _ _ _ _) (ACall.of_body bd (by simp) ?_)
 have hM' := hM c x r l p hI hl
 have tl := Qm .i32 l
 rcases Qbm c x r l with h | h
 case inr =>
  rw [mkA, if_pos (by omega), hdA] at hM'
  rw [Qim, if_pos (by omega)]
  rw [clA, il] at hM' ⊢
  simp (disch := omega) only [rq, simprocAttr, Zj]
  refine Qb.vc hM' ?_
  simp (disch := omega) only [rq, simprocAttr]
  simp [QF, Qu, frzL, Qs]
 rw [mkA, if_neg (by omega)] at hM'
 rw [Qim, if_neg (by omega)]
 by_cases hp : 64 < p.length
 ·rw [if_pos hp, hdA] at hM'
  rw [if_pos hp]
  rw [clA, il] at hM' ⊢
  simp (disch := omega) only [rq, simprocAttr, Zj]
  refine Qb.vc hM' ?_
  simp (disch := omega) only [rq, simprocAttr]
  simp [QF, Qu, frzL, Qs]
 rw [if_neg hp, ← Qm4] at hM'
 rw [if_neg hp]
 have hF' := hF c x r l p hI hl
 rw [Qwq h hp] at hF'
 have hW' := hW (Qm4 p) c x r (l.length / c)
 rw [hwA, if_pos (QsG p h)] at hW'
 have hD' := hD p
 rw [QAT, if_neg hp] at hD'
 have hfr := QoC (T := ofK (Z5 0 p) 8) h hI
 have hfl := Qaz c x r l (ofK (Z5 0 p) 8)
 have hple := Qce h
 obtain ⟨k, n, rfl, k1, k2, hlen, hok, h4⟩ := Qan h
 have hk0 : (l.length : Int) / (k : Int) = n := by rw [hlen, Int.natCast_mul, Int.mul_ediv_cancel _ (by omega)]
 have hk1 : l.length / k = n := by rw [hlen, Nat.mul_div_cancel _ (by omega)]
 simp only [QqR, Int.toNat_natCast, hk0, hk1] at hM' hW' ⊢
 have hE' := hE (Qq k x r l (ofK (Z5 0 p) 8)) hfr.1 hfr.2
 have hv : ∀ v ∈ QaS (Qq k x r l (ofK (Z5 0 p) 8)), -9223372036854775808 ≤ v ∧ v ≤ 9223372036854775807 := fun v hv => by
  obtain ⟨b, hb, rfl⟩ := List.mem_map.1 hv
  obtain ⟨i, hi, rfl⟩ := List.mem_iff_getElem.1 hb
  have := hfr.2 i
  rw [List.getD_eq_getElem?_getD, List.getElem?_eq_getElem hi] at this
  simp only [Option.getD_some] at this
  omega
 have hS' := hS (QaS (Qq k x r l (ofK (Z5 0 p) 8))) (by rw [QfO]; omega) hv
 have hff := Qlj (Qq k x r l (ofK (Z5 0 p) 8))
 have hll := QfO (Qq k x r l (ofK (Z5 0 p) 8))
 have htl := Qht (QaS (Qq k x r l (ofK (Z5 0 p) 8)))
 have hJ0 := fun A B C hx hy => hJ (A :: B :: C :: Qq k x r l (ofK (Z5 0 p) 8)) hx hy
 generalize Qq k x r l (ofK (Z5 0 p) 8) = FF at *
 generalize hHd : hdB (Qm4 p).toNat k x.toNat r.toNat n = HD at *
 have hHl : HD.length = 22 := by
  rw [← hHd, hdB, ZU, List.length_append, Qd]
  simp [hdP, Qd]
 rw [Qjj, hll] at hE' hS'
 have hmf : (FF.map bs).length = FF.length := by simp
 have tF := QbG FF
 have kn : (ks .i64 (QaS FF)).length = FF.length := by rw [Qg, hll]
 rw [bss] at hF' hE'
 simp only [clA, il, hdA] at hM' hF' hW' ⊢
 rcases QnV (QaS FF) with hs | ⟨hs, s1, s2, s3⟩
 ·rw [skA, if_neg (by omega), hs] at hS'
  rw [if_pos (by omega)]
  by_cases hn : p = []
  ·have hf : Qm4 p = 1 := by rw [Qm4, if_pos hn]
   rw [hf] at hM' hW'
   simp (disch := omega) only [rq, simprocAttr, Zj]
   refine Qb.vc hM' ?_
   simp (disch := omega) only [rq, simprocAttr]
   refine Qb.vc hF' ?_
   simp (disch := omega) only [rq, simprocAttr]
   refine Qb.vc hW' ?_
   simp (disch := omega) only [rq, simprocAttr]
   refine Qb.vc hE' ?_
   simp (disch := omega) only [rq, simprocAttr]
   refine Qb.vc hS' ?_
   simp (disch := omega) only [rq, simprocAttr]
   simp [QF, Qu, frzL, Qs]
  ·have hf : Qm4 p = 2 := by rw [Qm4, if_neg hn]
   rw [hf] at hM' hW'
   simp (disch := omega) only [rq, simprocAttr, Zj]
   refine Qb.vc hM' ?_
   simp (disch := omega) only [rq, simprocAttr]
   refine Qb.vc hF' ?_
   simp (disch := omega) only [rq, simprocAttr]
   refine Qb.vc hW' ?_
   simp (disch := omega) only [rq, simprocAttr]
   refine Qb.vc hD' ?_
   simp (disch := omega) only [rq, simprocAttr]
   refine Qb.vc hE' ?_
   simp (disch := omega) only [rq, simprocAttr]
   refine Qb.vc hS' ?_
   simp (disch := omega) only [rq, simprocAttr]
   simp [QF, Qu, frzL, Qs]
 ·rw [skA, if_pos hs] at hS'
  rw [if_neg (by omega)]
  have hsum : FF.flatten.length ≤ 100000 := by
   have hok2 : QrZ 100000 (QaS FF) := by
    unfold skN at hs
    split at hs
    ·cases hs
    split at hs
    ·assumption
    ·cases hs
   rcases QrX hok2 with q | q
   ·rw [hff] at q; omega
   ·rw [q] at s1; simp at s1
  have hTb : (ZU (Jl (QaS FF))).length ≤ 5000 := by rw [ZU, List.length_append, Qd, htl]; omega
  have tH := Qv HD
  have tT := Qv (ZU (Jl (QaS FF)))
  generalize ZU (Jl (QaS FF)) = TB at *
  by_cases hn : p = []
  ·have hf : Qm4 p = 1 := by rw [Qm4, if_pos hn]
   have hsb : Qu4 p = [] := by rw [Qu4, if_pos hn]
   rw [hf] at hM' hW'
   rw [hsb, List.nil_append]
   have hJ' := hJ0 HD [] TB (by simp only [List.length_cons]; omega) (by simp only [List.flatten_cons, List.length_append, List.length_nil]; omega)
   simp only [List.flatten_cons, List.nil_append] at hJ'
   have tX := Qv (HD ++ (TB ++ FF.flatten))
   generalize HD ++ (TB ++ FF.flatten) = XX at *
   simp only [bss, bs, List.map_cons, List.length_cons, Qj6, List.length_nil] at hJ' hW' hS' ⊢
   simp (disch := omega) only [rq, simprocAttr, Zj]
   refine Qb.vc hM' ?_
   simp (disch := omega) only [rq, simprocAttr]
   refine Qb.vc hF' ?_
   simp (disch := omega) only [rq, simprocAttr]
   refine Qb.vc hW' ?_
   simp (disch := omega) only [rq, simprocAttr]
   refine Qb.vc hE' ?_
   simp (disch := omega) only [rq, simprocAttr]
   refine Qb.vc hS' ?_
   simp (disch := omega) only [rq, simprocAttr, hmf]
   refine Qb.still 1 [2] hJ' (by simp [QF, Qu, frzL, Qs, frzL_T _ tH, frzL_T _ tT, frzL_T _ tF]; omega) ?_
   simp (disch := omega) only [rq, simprocAttr]
   simp [QF, Qu, frzL, Qs, frzL_T _ tX]
  ·have hf : Qm4 p = 2 := by rw [Qm4, if_neg hn]
   have hsb : Qu4 p = leB (Z5 0 p) 8 := by rw [Qu4, if_neg hn]
   rw [hf] at hM' hW'
   rw [hsb]
   have hJ' := hJ0 HD (leB (Z5 0 p) 8) TB (by simp only [List.length_cons]; omega) (by simp only [List.flatten_cons, List.length_append, Qd]; omega)
   simp only [List.flatten_cons] at hJ'
   have tX := Qv (HD ++ (leB (Z5 0 p) 8 ++ (TB ++ FF.flatten)))
   have tS := Qv (leB (Z5 0 p) 8)
   have l8 : (leB (Z5 0 p) 8).length = 8 := Qd _ _
   generalize HD ++ (leB (Z5 0 p) 8 ++ (TB ++ FF.flatten)) = XX at *
   generalize leB (Z5 0 p) 8 = SB at *
   simp only [bss, bs, List.map_cons, List.length_cons] at hJ' hW' hS' hD' ⊢
   simp (disch := omega) only [rq, simprocAttr, Zj]
   refine Qb.vc hM' ?_
   simp (disch := omega) only [rq, simprocAttr]
   refine Qb.vc hF' ?_
   simp (disch := omega) only [rq, simprocAttr]
   refine Qb.vc hW' ?_
   simp (disch := omega) only [rq, simprocAttr]
   refine Qb.vc hD' ?_
   simp (disch := omega) only [rq, simprocAttr]
   refine Qb.vc hE' ?_
   simp (disch := omega) only [rq, simprocAttr]
   refine Qb.vc hS' ?_
   simp (disch := omega) only [rq, simprocAttr, hmf]
   refine Qb.still 1 [2] hJ' (by simp [QF, Qu, frzL, Qs, frzL_T _ tH, frzL_T _ tT, frzL_T _ tF, frzL_T _ tS]; omega) ?_
   simp (disch := omega) only [rq, simprocAttr]
   simp [QF, Qu, frzL, Qs, frzL_T _ tX]
def QmN (P : Prg) (f : Nat) : Prop := ∀ r : Int, 1 ≤ r → r ≤ 1048576 → VC P f [.int .i64 r] (.int .i64 (QL r))
theorem Qtx {P : Prg} {f : Nat} (bd : Qf P f 7 [.tmp 2] ZK) : QmN P f := by
 intro r h1 h2
 refine VC.of_acall rfl rfl (ACall.of_body bd (by simp) ?_)
 have h3 : (256 * r).tdiv 245 = 256 * r / 245 := Int.tdiv_eq_ediv_of_nonneg (by omega)
 have hX : 1 ≤ 256 * r / 245 := by omega
 have hl : QL r = 256 * r / 245 := by unfold QL; rw [if_neg (by omega)]
 rw [hl]
 by_cases hx : 1 < 256 * r / 245
 ·simp (disch := omega) only [rq, simprocAttr, ZK, h3]
 ·have hy : 256 * r / 245 = 1 := by omega
  rw [hy] at h3 hl ⊢
  simp (disch := omega) only [rq, simprocAttr, ZK, h3, hy]
def QiQ (P : Prg) (f : Nat) : Prop := ∀ (r : Int) (m : Nat), okA r m → VC P f [.int .i64 r, .int .i64 m] (Qjj (Q7 (QL r).toNat m))
theorem Qqi {P : Prg} {f fL t0 : Nat} (bd : Qf P f 22 [.tmp 4] (XL fL t0)) (hL : QmN P fL) : QiQ P f := by
 intro r m ⟨o1, o2, o3, o4, o5⟩
 refine VC.of_walk 1 rfl (QdN _) (ACall.of_body bd (by simp) ?_)
 have hL' := hL r o1 o2
 have p1 := Xw r
 have p2 := QlE (r := r) o2
 generalize QL r = Li at *
 obtain ⟨L, rfl⟩ : ∃ L : Nat, Li = L := ⟨Li.toNat, by omega⟩
 rw [Int.toNat_natCast]
 have g1 : (m - 1) / L * L ≤ m - 1 := Nat.div_mul_le_self _ _
 have g2 : m - 1 < ((m - 1) / L + 1) * L := by
  have := Nat.lt_div_mul_add (a := m - 1) (b := L) (by omega)
  rw [Nat.add_mul, Nat.one_mul]; omega
 rw [Nat.add_mul, Nat.one_mul] at g2
 have g3 : (m - 1) / L ≤ m - 1 := Nat.div_le_self _ _
 have ll := Xx L m
 have lf : Q7 L m = List.replicate ((m - 1) / L) (L : Int) ++ [(m : Int) - ((m - 1) / L * L : Nat)] := rfl
 have tl := Qm .i64 (Q7 L m)
 rw [Qjj, ll]
 generalize hq : (m - 1) / L = q at *
 simp (disch := omega) only [rq, simprocAttr, XL]
 refine Qx.by (ι := Option Nat) (fun i => match i with
   | some k => ⟨[(6, .int .i64 ((m : Int) - (k * L : Nat))), (5, .own 0 k), (0, .int .i64 r)], [⟨t0, 1, k, ks .i64 (List.replicate k (L : Int)), 0⟩]⟩
   | none => ⟨[(6, .int .i64 ((m : Int) - (q * L + L : Nat))), (5, .own 0 (q + 1)), (0, .int .i64 r)], [⟨t0, 1, q + 1, ks .i64 (Q7 L m), 0⟩]⟩)
  (fun i => match i with | some k => k ≤ q | none => True) (fun i => match i with | some k => q - k + 1 | none => 0) (some 0)
  (by simp only [Nat.zero_mul]; exact Le.trans (Le.virt 5 t0 1 (by omega) rfl) (Le.slots (by simp [Am.look]))) (by simp) ?_
 intro i hi
 cases i with
 | some k =>
  simp only at hi
  dsimp only
  have g4 : k * L ≤ q * L := Nat.mul_le_mul_right L hi
  have lr : (List.replicate k (L : Int)).length = k := by simp
  have lk : (ks .i64 (List.replicate k (L : Int))).length = k := by rw [Qg, lr]
  by_cases hk : k < q
  ·have g5 : (k + 1) * L ≤ q * L := Nat.mul_le_mul_right L (by omega)
   rw [Nat.add_mul, Nat.one_mul] at g5
   have hmn : (k + 1) * L = k * L + L := by rw [Nat.add_mul, Nat.one_mul]
   generalize k * L = kL at *
   generalize q * L = qL at *
   simp (disch := omega) only [rq, simprocAttr]
   refine Qb.vc hL' ?_
   simp (disch := omega) only [rq, simprocAttr, JA, Qr7, lr]
   refine Qb.vc hL' ?_
   simp (disch := omega) only [rq, simprocAttr]
   have ef : (m : Int) - (kL : Int) - (L : Int) = (m : Int) - ((kL + L : Nat) : Int) := by omega
   rw [ef, ← hmn]
   exact ⟨some (k + 1), by simp only; omega, by simp only; omega, Le.dropT [_] (by simp [Qm]) (by simp [Am.look, Qu, frzL, Qs])⟩
  ·obtain rfl : k = q := by omega
   have hcat : ks .i64 (List.replicate k (L : Int)) ++ [.int .i64 ((m : Int) - (k * L : Nat))] = ks .i64 (Q7 L m) := by rw [lf]; simp [ks]
   generalize k * L = kL at *
   simp (disch := omega) only [rq, simprocAttr]
   refine Qb.vc hL' ?_
   simp (disch := omega) only [rq, simprocAttr, lk, hcat]
   refine Qb.vc hL' ?_
   simp (disch := omega) only [rq, simprocAttr]
   have ef : (m : Int) - (kL : Int) - (L : Int) = (m : Int) - ((kL : Int) + (L : Int)) := by omega
   rw [ef]
   exact ⟨none, trivial, by simp only; omega, Le.dropT [_] (by simp [Qm]) (by simp [Am.look, Qu, frzL, Qs])⟩
 | none =>
  dsimp only
  simp (disch := omega) only [rq, simprocAttr]
  simp [QF, Qu, frzL, Qs, frzL_T _ tl]
def QxB (P : Prg) (g : Nat) : Prop := ∀ (c x r : Int) (l : List Int) (p : List UInt8), Zc c x r l = 0 → VC P g [clA c x r l, .str p] (hdA (Qm4 p) c x r (l.length / c))
theorem Qyt {P : Prg} {g t0 t1 : Nat} (bd : Qf P g 23 [.cell 4 t1] (Xr t0 t1)) (ht : Q6 P t1 = some (some 5)) : QxB P g := by
 intro c x r l p h
 refine VC.of_acall (by simp [isDL, isD, QZ, clA]) rfl (ACall.of_body bd (by simp) ?_)
 obtain ⟨k, n, rfl, k1, k2, hlen, hok, h4⟩ := Qan h
 have hk0 : (l.length : Int) / (k : Int) = n := by rw [hlen, Int.natCast_mul, Int.mul_ediv_cancel _ (by omega)]
 have hk3 : ((l.length : Int)).tdiv (k : Int) = n := by rw [Int.tdiv_eq_ediv_of_nonneg (by omega), hk0]
 have hq0 : (k : Int) ≠ 0 := by omega
 have hn4 : n ≤ 4000 := by have := hok.2.2.2.1; omega
 rw [hk0]
 by_cases hn : p = []
 ·subst hn
  have hf : Qm4 [] = 1 := rfl
  rw [hf]
  simp (disch := omega) only [rq, simprocAttr, Xr, clA, il, QD, ht, Qz, hdA, Qfo, hk0, hk3]
 ·have hs : Qfo .neq p [] = some (.bool true) := by simp [Qfo, hn]
  have hf : Qm4 p = 2 := by rw [Qm4, if_neg hn]
  rw [hf]
  simp (disch := omega) only [rq, simprocAttr, Xr, clA, il, QD, ht, Qz, hdA, hs, hk0, hk3]
def Qjd (P : Prg) (f : Nat) : Prop := ∀ l : List Int, l.length ≤ 1000 → (∀ k, k < l.length → 0 ≤ l.getD k 0 ∧ l.getD k 0 ≤ 4000000000) → VC P f [Qjj l] (bs (ZU (Jl l)))
theorem Qqh {P : Prg} {f fW fO t0 : Nat} (bd : Qf P f 25 [.tmp 2] (XJ fW fO t0)) (hW : Qbu P fW) (hO : QxG P fO) : Qjd P f := by
 intro l hl hr
 refine VC.of_walk 1 (by simp [isDL, QdN]) (QC _) (ACall.of_cut 2 bd (by simp) ?_)
 have kl : (ks .i64 l).length = l.length := Qg _ _
 have hpl : ∀ m, (Jl (l.take m)).length ≤ 4000 := fun m => by rw [Qht, List.length_take]; omega
 rw [Qjj]
 simp (disch := omega) only [rq, simprocAttr, XJ, Qdl]
 refine ⟨_, Le.virt 3 t0 1 (by decide) rfl, ?_⟩
 simp (disch := omega) only [rq, simprocAttr, Qdl]
 refine Qx.by (ι := Nat) (fun k => ⟨[(4, .int .i64 k), (0, .list l.length (ks .i64 l)), (3, .own 0 (Jl (l.take k)).length)], [⟨t0, 1, (Jl (l.take k)).length, u8 (Jl (l.take k)), 0⟩]⟩) (fun k => k ≤ l.length) (fun k => l.length - k) 0 (Le.slots (by simp [Am.look, Jl, u8])) (by omega) ?_
 intro k hk
 have hpk := hpl k
 by_cases hlt : k < l.length
 ·have e1 : (ks .i64 l).drop k = .int .i64 (l.getD k 0) :: (ks .i64 l).drop (k + 1) := by
   have h := Qcf (K := .i64) (l := l) (i := k) hlt
   rw [← QaJ] at h
   exact h
  have hs := QnT l k hlt
  have hrk := hr k hlt
  generalize hz : l.getD k 0 = z at *
  obtain ⟨z, rfl⟩ : ∃ m : Nat, z = m := ⟨z.toNat, by omega⟩
  rw [Int.toNat_natCast] at hs
  have hW' := hW z 4 (by omega) (by omega)
  rw [bs, Qd] at hW'
  have hul : (u8 (leB z 4)).length = 4 := by rw [Qy, Qd]
  have hcat : u8 (Jl (l.take k)) ++ u8 (leB z 4) = u8 (Jl (l.take (k + 1))) := by rw [hs]; simp [u8]
  have hlen : (Jl (l.take k)).length + 4 = (Jl (l.take (k + 1))).length := by rw [hs, List.length_append, Qd]
  generalize hB1 : Jl (l.take (k + 1)) = B1 at *
  generalize Jl (l.take k) = B0 at *
  simp (disch := omega) only [rq, simprocAttr, Qdl, kl, e1]
  refine Qb.vc hW' ?_
  simp (disch := omega) only [rq, simprocAttr, Qdl, hul, hcat, hlen]
  refine ⟨k + 1, by omega, by omega, ?_⟩
  simp only [hB1]
  exact Le.slots (by simp [Am.look])
 ·have ek : k = l.length := by omega
  subst ek
  rw [List.take_length] at hpk ⊢
  have tB := Qv (Jl l)
  have hO' := hO (Jl l) (by omega)
  have hsm : Qcc (Jl l) < 4294967296 := by unfold Qcc; omega
  rw [← Qcc, bs] at hO'
  have hW' := hW (Qcc (Jl l)) 4 (by omega) (by omega)
  rw [bs, Qd] at hW'
  have hul : (u8 (leB (Qcc (Jl l)) 4)).length = 4 := by rw [Qy, Qd]
  have hcat : u8 (Jl l) ++ u8 (leB (Qcc (Jl l)) 4) = u8 (ZU (Jl l)) := by simp [u8, ZU]
  have hlen : (Jl l).length + 4 = (ZU (Jl l)).length := by rw [ZU, List.length_append, Qd]
  have tS := Qv (ZU (Jl l))
  rw [bs]
  generalize ZU (Jl l) = B1 at *
  generalize Qcc (Jl l) = sm at *
  generalize Jl l = B0 at *
  simp (disch := omega) only [rq, simprocAttr, Qdl, kl]
  refine Qb.flat 1 hO' rfl (by simp [QF, Qu, frzL, Qs, frzL_T _ tB]) ?_
  simp (disch := omega) only [rq, simprocAttr, Qdl]
  refine Qb.vc hW' ?_
  simp (disch := omega) only [rq, simprocAttr, hul, hcat, hlen, Qdl]
  simp [QF, Qu, frzL, Qs, frzL_T _ tS]
def QgU (t : Nat) (P : Prg) (g : Nat) : Prop := ∀ f c b r n : Nat, f ≤ 2 → c ≤ 6 → b ≤ 24 → r ≤ 1048576 → n ≤ 4000 → VO P g [hdA f c b r n] (.own 0 22) ⟨t, 1, 22, u8 (hdB f c b r n), 1⟩
set_option maxHeartbeats 2000000 in
theorem Qqj {P : Prg} {g fW fO t0 t1 : Nat} (bd : Qf P g 42 [.tmp 2] (XM fW fO t0 t1)) (hW : Qbu P fW) (hO : QxG P fO) : QgU t1 P g := by
 intro f c b r n a1 a2 a3 a4 a5
 refine VO.of_walk rfl (by simp [QeO]) (by simp [okr]) (ACall.of_body bd (by simp) ?_)
 have B1 := hW f 2 (by omega) (by omega)
 have B2 := hW c 2 (by omega) (by omega)
 have B3 := hW b 2 (by omega) (by omega)
 have B4 := hW r 4 (by omega) (by omega)
 have B5 := hW n 4 (by omega) (by omega)
 rw [bs, Qd] at B1 B2 B3 B4 B5
 have u2 : ∀ m, (u8 (leB m 2)).length = 2 := fun m => by rw [Qy, Qd]
 have u4 : ∀ m, (u8 (leB m 4)).length = 4 := fun m => by rw [Qy, Qd]
 have e0 : ([.int .u8 84, .int .u8 84, .int .u8 65, .int .u8 49] : List AV) = u8 (hdP f c b r n 0) := rfl
 have c0 : (.int .u8 84 :: .int .u8 84 :: .int .u8 65 :: .int .u8 49 :: u8 (leB f 2) : List AV) = u8 (hdP f c b r n 1) := by simp [hdP, u8]
 have c1 : u8 (hdP f c b r n 1) ++ u8 (leB c 2) = u8 (hdP f c b r n 2) := by simp [hdP, u8]
 have c2 : u8 (hdP f c b r n 2) ++ u8 (leB b 2) = u8 (hdP f c b r n 3) := by simp [hdP, u8]
 have c3 : u8 (hdP f c b r n 3) ++ u8 (leB r 4) = u8 (hdP f c b r n 4) := by simp [hdP, u8]
 have c4 : u8 (hdP f c b r n 4) ++ u8 (leB n 4) = u8 (hdP f c b r n 5) := by simp [hdP, u8]
 have l1 : (hdP f c b r n 1).length = 6 := by simp [hdP, Qd]
 have l2 : (hdP f c b r n 2).length = 8 := by simp [hdP, Qd]
 have l3 : (hdP f c b r n 3).length = 10 := by simp [hdP, Qd]
 have l4 : (hdP f c b r n 4).length = 14 := by simp [hdP, Qd]
 have l5 : (hdP f c b r n 5).length = 18 := by simp [hdP, Qd]
 have hcat : u8 (hdP f c b r n 5) ++ u8 (leB (Qcc (hdP f c b r n 5)) 4) = u8 (hdB f c b r n) := by simp [u8, hdB, ZU]
 have hO' := hO (hdP f c b r n 5) (by omega)
 rw [← Qcc, bs, l5] at hO'
 have hsm : Qcc (hdP f c b r n 5) < 4294967296 := by unfold Qcc; omega
 have B6 := hW (Qcc (hdP f c b r n 5)) 4 (by omega) (by omega)
 rw [bs, Qd] at B6
 have t5 := Qv (hdP f c b r n 5)
 have v1 : (u8 (hdP f c b r n 1)).length = 6 := by rw [Qy, l1]
 have v2 : (u8 (hdP f c b r n 2)).length = 8 := by rw [Qy, l2]
 have v3 : (u8 (hdP f c b r n 3)).length = 10 := by rw [Qy, l3]
 have v4 : (u8 (hdP f c b r n 4)).length = 14 := by rw [Qy, l4]
 have v5 : (u8 (hdP f c b r n 5)).length = 18 := by rw [Qy, l5]
 obtain ⟨H, hH⟩ : ∃ H, H = hdP f c b r n := ⟨_, rfl⟩
 rw [← hH] at c0 c1 c2 c3 c4 hcat hO' hsm B6 t5 v1 v2 v3 v4 v5
 generalize Qcc (H 5) = sm at *
 generalize hdB f c b r n = D at *
 rw [hdA]
 simp (disch := omega) only [rq, simprocAttr, XM]
 refine Qb.vc B1 ?_
 simp (disch := omega) only [rq, simprocAttr, u2, c0]
 refine Qb.vc B2 ?_
 simp (disch := omega) only [rq, simprocAttr, u2, c1, v1]
 refine Qb.vc B3 ?_
 simp (disch := omega) only [rq, simprocAttr, u2, c2, v2]
 refine Qb.vc B4 ?_
 simp (disch := omega) only [rq, simprocAttr, u4, c3, v3]
 refine Qb.vc B5 ?_
 simp (disch := omega) only [rq, simprocAttr, u4, c4, v4]
 refine Qb.flat 1 hO' rfl (by simp [QF, Qu, frzL, Qs, frzL_T _ t5]) ?_
 simp (disch := omega) only [rq, simprocAttr]
 refine Qb.vc B6 ?_
 simp (disch := omega) only [rq, simprocAttr, u4, hcat, v5]
 exact ⟨1, rfl, rfl⟩
def QA0 (c x r : Int) (l : List Int) (p : List UInt8) : AV := match Qim c x r l p with
 | .tup [.list n _, e] => .tup [.int .i64 n, e]
 | v => v
theorem QnW (c x r : Int) (l : List Int) (p : List UInt8) : ∃ (b : List UInt8) (e : Int), Qim c x r l p = .tup [bs b, .int .i64 e] ∧ QA0 c x r l p = .tup [.int .i64 b.length, .int .i64 e] := by
 unfold QA0 Qim
 split
 ·exact ⟨[], 8, rfl, rfl⟩
 split
 ·exact ⟨[], 2, rfl, rfl⟩
 split
 ·exact ⟨[], 8, rfl, rfl⟩
 ·exact ⟨_, 0, rfl, rfl⟩
def QxC (P : Prg) (f : Nat) : Prop := ∀ (c x r : Int) (l : List Int) (p : List UInt8), I32 l → Zc c x r l = 0 → p.length ≤ 64 → VC P f [clA c x r l, .str p] (bss (Qq c x r l (ofK (Z5 0 p) 8)))
set_option maxHeartbeats 2000000 in
theorem Qn7 {P : Prg} {f fT fS fE t0 t1 t2 : Nat} (bd : Qf P f 66 [.tmp 4] (Xe fT fS fE t0 t1 t2)) (hT : Qky P fT) (hS : QiQ P fS) (hE : QuC P fE) : QxC P f := by
 intro c x r l p hI h hp
 refine VC.of_walk 1 (by simp [isDL, isD, QZ, clA]) (QlH _) (ACall.of_body bd (by simp) ?_)
 have tl := Qm .i32 l
 have hT' := hT p
 rw [Qd4, if_neg (by omega)] at hT'
 generalize hTT : ofK (Z5 0 p) 8 = T at *
 have hTl : T.length = 16 := by rw [← hTT]; simp [ofK]
 have hTI : I32 T := by rw [← hTT]; exact QxM _ _
 have hk : (ks .i32 T).length = 16 := by simp [Qg, hTl]
 have tt : (ks .i32 T).take 16 = ks .i32 T := Qo (by omega)
 have ot := X6 .i32 T
 have hpl := QeM c r l
 have hple := Qce h
 have hfl := Qaz c x r l T
 have hfat := fun j (hj : j < (QV c r l).length) => QoD (c := c) (x := x) (r := r) (l := l) (T := T) hj
 have hask := fun j (hj : j < (QV c r l).length) => (Qcd h ((QV c r l).getD j []) (by rw [List.getD_eq_getElem?_getD, List.getElem?_eq_getElem hj]; exact List.getElem_mem _)).1
 have hpI := Qsf h hI
 have hpk : ∀ j, ((QV c r l).getD j []).length ≤ 4000 := fun j => QAu (fun q hq => (Qcd h q hq).2.1) j
 obtain ⟨k, n, rfl, k1, k2, hlen, hok, h4⟩ := Qan h
 have hS' := hS r n hok
 have hk0 : (l.length : Int) / (k : Int) = n := by rw [hlen, Int.natCast_mul, Int.mul_ediv_cancel _ (by omega)]
 have hk3 : ((l.length : Int)).tdiv (k : Int) = n := by rw [Int.tdiv_eq_ediv_of_nonneg (by omega), hk0]
 have hq0 : (k : Int) ≠ 0 := by omega
 have hn4 : n ≤ 4000 := by have := hok.2.2.2.1; omega
 have hw : IntKind.i64.wrap ((l.length : Int) / (k : Int)) = n := by rw [hk0]; exact QE (by omega) (by omega)
 have hn1 : 1 ≤ n := by have := hok.2.2.1; omega
 have hL1 : 1 ≤ (QL r).toNat := by have := Xw r; omega
 have hg : ∀ j, j < (QV k r l).length → (QV k r l).getD j [] = QaV ((QL r).toNat * k) l j := fun j hj => by
  unfold QV at hj ⊢
  rw [List.getD_eq_getElem?_getD, List.getElem?_map, List.getElem?_range (by simpa using hj)]
  simp only [Int.toNat_natCast, Option.map_some, Option.getD_some]
 rw [Int.toNat_natCast, hlen, Nat.mul_div_cancel _ (by omega)] at hpl
 have hpf := fun j (hj : j < (Q7 (QL r).toNat n).length) => Qgo (j := j) hlen hn1 hL1 hj
 generalize hLk : (QL r).toNat * k = Lk at *
 generalize Q7 (QL r).toNat n = LL at *
 generalize Qq k x r l T = FF at *
 generalize QV k r l = S at *
 have kn : (ks .i64 LL).length = S.length := by rw [Qg, hpl]
 rw [Qjj, ← hpl] at hS'
 rw [bss, hfl]
 simp only [clA, il] at hT' ⊢
 have tF := fun j => QbG (FF.take j)
 simp (disch := omega) only [rq, simprocAttr, Xe]
 refine Qb.vc hT' ?_
 simp (disch := omega) only [rq, simprocAttr, hk, ot, tt]
 rw [hk0]
 refine QU.vc hS' ?_
 simp (disch := omega) only [rq, simprocAttr]
 refine Qx.by (ι := Nat) (fun j => ⟨[(10, .int .i64 j), (9, .int .i64 (min (j * Lk) (n * k) : Nat)), (8, .own 2 j), (7, .list S.length (ks .i64 LL)), (5, .ref 1 1 0), (2, .ref 0 1 0)],
  [⟨t0, 4, 1, [.int .i64 k, .int .i64 x, .int .i64 r, .list l.length (ks .i32 l)], 0⟩, ⟨t1, 16, 1, ks .i32 T, 0⟩, ⟨t2, 1, j, (FF.take j).map bs, 0⟩]⟩) (fun j => j ≤ S.length) (fun j => S.length - j) 0
  (Le.trans (Le.virt 8 t2 1 (by omega) rfl) (Le.slots (by simp [Am.look]))) (by omega) ?_
 intro j hj
 have hmj : ((FF.take j).map bs).length = j := by rw [List.length_map, List.length_take]; omega
 by_cases hlt : j < S.length
 ·obtain ⟨m, q1, q2, q3, q4, q5, q6, q7⟩ := hpf j (by omega)
  have e3 : (ks .i64 LL).drop j = .int .i64 (LL.getD j 0) :: (ks .i64 LL).drop (j + 1) := by
   have h := Qcf (K := .i64) (l := LL) (i := j) (by omega)
   rw [← QaJ] at h
   exact h
  have hsj : S.getD j [] = (l.drop (j * Lk)).take (m * k) := by rw [hg j hlt, q6]
  have hE' := hE k x T (S.getD j []) hTl hTI (hpI j)
  rw [QAx (hask j hlt), ← (by have := hfat j hlt; rw [Int.toNat_natCast] at this; exact this : FF.getD j [] = Qjk k x T (S.getD j []))] at hE'
  have hln : ((l.drop (j * Lk)).take (m * k)).length = m * k := by rw [List.length_take, List.length_drop, hlen]; omega
  have hcs : ((ks .i32 l).drop (j * Lk)).take (m * k) = ks .i32 (S.getD j []) := by rw [QaJ, QqF, hsj]
  have hsl : (S.getD j []).length = m * k := by rw [hsj, hln]
  have hw3 : (m : Int) * (k : Int) = ((m * k : Nat) : Int) := by simp
  rw [q1] at e3
  rw [q3]
  have hs1 : (FF.take j).map bs ++ [bs (FF.getD j [])] = (FF.take (j + 1)).map bs := by
   rw [List.take_succ_eq_append_getElem (by omega), List.map_append]
   simp [List.getD_eq_getElem?_getD, List.getElem?_eq_getElem (show j < FF.length by omega)]
  simp only [shA, il, bs, hsl] at hE' hs1
  generalize S.getD j [] = Sj at *
  generalize FF.getD j [] = Fj at *
  have hnk : n * k ≤ 4000 := by omega
  generalize hA0 : j * Lk = A0 at *
  generalize hmk : m * k = MK at *
  generalize n * k = NK at *
  have hA : A0 + MK - A0 = MK := by omega
  simp (disch := omega) only [rq, simprocAttr, e3, kn, hw3, hmk, tt, hA, hcs]
  refine QU.vc hE' ?_
  simp (disch := omega) only [rq, simprocAttr, hmj, hs1]
  refine ⟨j + 1, by omega, by omega, ?_⟩
  simp only [q5, Int.natCast_add]
  have tFT : isTL (List.take (j + 1) (List.map bs FF)) = true := by rw [← List.map_take]; exact QbG _
  exact Le.dropT [_, _, _] (by simp [Qm, isTL, isT, tl, tFT]) (by simp [Am.look, Qu, frzL, Qs, frzL_T _ (Qm .i64 LL)])
 ·have ej : j = S.length := by omega
  subst ej
  have tF := QbG FF
  rw [show FF.take S.length = FF by rw [← hfl, List.take_length]]
  simp (disch := omega) only [rq, simprocAttr, kn]
  simp [QF, Qu, frzL, Qs, frzL_T _ tF]
theorem QsL {B : Nat} : ∀ L : List (List UInt8), (∀ b ∈ L, b.length ≤ B) → L.flatten.length ≤ L.length * B
 | [], _ => by simp
 | b :: L, h => by
  have h1 := QsL L fun q hq => h q (List.mem_cons_of_mem _ hq)
  have h2 := h b List.mem_cons_self
  rw [List.flatten_cons, List.length_append, List.length_cons, Nat.add_mul, Nat.one_mul]
  omega
def QAQ (P : Prg) (f : Nat) : Prop := ∀ (c x r : Int) (l : List Int) (p : List UInt8), I32 l → Zc c x r l = 0 → p.length ≤ 64 → VC P f [clA c x r l, .str p] (bs (QqR c x r l p))
set_option maxHeartbeats 2000000 in
theorem Qqc {P : Prg} {f fF fO fB fW fT t0 t1 t2 : Nat} (bd : Qf P f 50 [.tmp 4] (XF fF fO fB fW fT t0 t1 t2)) (hF : QxC P fF) (hO : QxB P fO) (hB : QgU t1 P fB) (hW : QrC P fW) (hT : Qjd P fT) : QAQ P f := by
 intro c x r l p hI h hp
 refine VC.of_walk 1 (by simp [isDL, isD, QZ, clA]) (QC _) (ACall.of_body bd (by simp) ?_)
 have tl := Qm .i32 l
 have hF' := hF c x r l p hI h hp
 have hO' := hO c x r l p h
 have hfr := QoC (T := ofK (Z5 0 p) 8) h hI
 have hfl := Qaz c x r l (ofK (Z5 0 p) 8)
 have hple := Qce h
 have hhd := QsG p h
 obtain ⟨k, n, rfl, k1, k2, hlen, hok, h4⟩ := Qan h
 have hk0 : (l.length : Int) / (k : Int) = n := by rw [hlen, Int.natCast_mul, Int.mul_ediv_cancel _ (by omega)]
 have hk1 : l.length / k = n := by rw [hlen, Nat.mul_div_cancel _ (by omega)]
 rw [hk0] at hO' hhd
 obtain ⟨f', c', x', r', n', e1, e2, e3, e4, e5, a1, a2, a3, a4, a5⟩ := Qwn hhd
 have hB' := hB f' c' x' r' n' a1 a2 a3 a4 a5
 have hfile : QqR k x r l p = hdB f' c' x' r' n' ++ (Qu4 p ++ (ZU (Jl (QaS (Qq k x r l (ofK (Z5 0 p) 8)))) ++ (Qq k x r l (ofK (Z5 0 p) 8)).flatten)) := by
  rw [QqR, Int.toNat_natCast, hk1, e1, e3, e4]
  simp only [Int.toNat_natCast]
  rw [show k = c' by omega, show n = n' by omega]
 rw [hfile]
 have hW' := hW p (by omega)
 have hmem : ∀ b ∈ Qq k x r l (ofK (Z5 0 p) 8), b.length ≤ 1000000 := fun b hb => by
  obtain ⟨i, hi, rfl⟩ := List.mem_iff_getElem.1 hb
  have := hfr.2 i
  rw [List.getD_eq_getElem?_getD, List.getElem?_eq_getElem hi] at this
  exact this
 have hfla := QsL _ hmem
 have hll := QfO (Qq k x r l (ofK (Z5 0 p) 8))
 have hT' := hT (QaS (Qq k x r l (ofK (Z5 0 p) 8))) (by omega) (fun j hj => by rw [Qwc (by omega)]; have := hfr.2 j; omega)
 have hlat := fun j hj => Qwc (L := Qq k x r l (ofK (Z5 0 p) 8)) (k := j) hj
 have htb : (ZU (Jl (QaS (Qq k x r l (ofK (Z5 0 p) 8))))).length ≤ 5000 := by rw [ZU, List.length_append, Qd, Qht]; omega
 have hfr2 := hfr.2
 generalize Qq k x r l (ofK (Z5 0 p) 8) = FF at *
 generalize hTB : ZU (Jl (QaS FF)) = TB at *
 have hHl : (hdB f' c' x' r' n').length = 22 := by
  rw [hdB, ZU, List.length_append, Qd]
  simp [hdP, Qd]
 generalize hdB f' c' x' r' n' = HD at *
 have hfn : FF.length ≤ 1000 := by omega
 have hfla2 : FF.flatten.length ≤ 1000000000 := by
  have : FF.length * 1000000 ≤ 1000 * 1000000 := Nat.mul_le_mul_right _ hfn
  omega
 rw [Qjj, hll] at hT'
 have tL := Qm .i64 (QaS FF)
 have tX := Qv (HD ++ (Qu4 p ++ (TB ++ FF.flatten)))
 have hmf : (FF.map bs).length = FF.length := by simp
 rw [hdA, ← e1, ← e2, ← e3, ← e4, ← e5] at hB'
 rw [hdA] at hO'
 rw [bss] at hF'
 simp only [clA, il] at hF' hO' ⊢
 simp (disch := omega) only [rq, simprocAttr, XF]
 refine Qb.vc hF' ?_
 simp (disch := omega) only [rq, simprocAttr]
 refine Qb.vc hO' ?_
 simp (disch := omega) only [rq, simprocAttr]
 rw [← hHl] at hB'
 have hgo : ∀ HS : List UInt8, HS.length ≤ 30 → True := fun _ _ => trivial
 refine Qb.vo hB' ?_
 by_cases hn : p = []
 have hsb : Qu4 p = [] := by rw [Qu4, if_pos hn]
 have hs : Qfo .neq p [] = some (.bool false) := by simp [Qfo, hn]
 rw [hsb, List.nil_append] at tX ⊢
 have hHS : 22 ≤ HD.length ∧ HD.length ≤ 30 := by omega
 clear hgo hB' hHl hfile
 generalize HD = HS at *
 simp (disch := omega) only [rq, simprocAttr, shr, hs]
 rotate_left
 have hsb : Qu4 p = leB (Z5 0 p) 8 := by rw [Qu4, if_neg hn]
 have hs : Qfo .neq p [] = some (.bool true) := by simp [Qfo, hn]
 rw [hsb] at tX ⊢
 have l8 : (leB (Z5 0 p) 8).length = 8 := Qd _ _
 have v8 : (u8 (leB (Z5 0 p) 8)).length = 8 := by rw [Qy, l8]
 rw [bs, l8] at hW'
 generalize leB (Z5 0 p) 8 = SB at *
 have hcat : u8 HD ++ u8 SB = u8 (HD ++ SB) := by simp [u8]
 have hlen : HD.length + SB.length = (HD ++ SB).length := by rw [List.length_append]
 have hHS : 22 ≤ (HD ++ SB).length ∧ (HD ++ SB).length ≤ 30 := by omega
 rw [← List.append_assoc] at tX ⊢
 clear hgo hB'
 simp (disch := omega) only [rq, simprocAttr, shr, hs]
 refine Qb.vc hW' ?_
 simp (disch := omega) only [rq, simprocAttr, v8, hcat, hlen]
 have hlen8 : HD.length + 8 = (HD ++ SB).length := by rw [List.length_append, l8]
 rw [hlen8]
 generalize HD ++ SB = HS at *
 rotate_left
 all_goals
  refine Qx.by (ι := Nat) (fun j => ⟨[(9, .int .i64 j), (8, .own 3 (FF.take j).flatten.length), (7, .own 2 j), (6, .own 1 HS.length), (5, .list FF.length (FF.map bs))], [⟨t0, 4, 1, [.int .i64 k, .int .i64 x, .int .i64 r, .list l.length (ks .i32 l)], 0⟩, ⟨t1, 1, HS.length, u8 HS, 1⟩, ⟨t2, 1, j, ks .i64 ((QaS FF).take j), 0⟩, ⟨t1, 1, (FF.take j).flatten.length, u8 (FF.take j).flatten, 0⟩]⟩) (fun j => j ≤ FF.length) (fun j => FF.length - j) 0
   (Le.trans (Le.virt 7 t2 1 (by omega) rfl) (Le.trans (Le.virt 8 t1 1 (by omega) rfl) (Le.slots (by simp [Am.look, u8])))) (by omega) ?_
  intro j hj
  have hle : (FF.take j).flatten.length ≤ FF.flatten.length := by
   conv => rhs; rw [← List.take_append_drop j FF, List.flatten_append, List.length_append]
   omega
  have hjl : (ks .i64 ((QaS FF).take j)).length = j := by rw [Qg, List.length_take, hll]; omega
  by_cases hlt : j < FF.length
  ·have e1 := Qxe (L := FF) (k := j) hlt
   have hs2 : (FF.take (j + 1)).flatten = (FF.take j).flatten ++ FF.getD j [] := by
    rw [List.take_succ_eq_append_getElem hlt, List.flatten_append]
    simp [List.getD_eq_getElem?_getD, List.getElem?_eq_getElem hlt]
   have hb2 := hfr2 j
   have hq : (QaS FF)[j]? = some ((FF.getD j []).length : Int) := by simp [QaS, List.getD_eq_getElem?_getD, List.getElem?_eq_getElem hlt]
   have hks : ks .i64 ((QaS FF).take j) ++ [.int .i64 ((FF.getD j []).length : Int)] = ks .i64 ((QaS FF).take (j + 1)) := by
    rw [List.take_add_one, hq]
    simp [ks]
   have hc2 : u8 (FF.take j).flatten ++ u8 (FF.getD j []) = u8 (FF.take (j + 1)).flatten := by rw [hs2]; simp [u8]
   have hl2 : (FF.take j).flatten.length + (FF.getD j []).length = (FF.take (j + 1)).flatten.length := by rw [hs2, List.length_append]
   have hbl : (u8 (FF.getD j [])).length = (FF.getD j []).length := Qy _
   rw [bs] at e1
   generalize hY : (FF.take (j + 1)).flatten = Y at *
   generalize FF.getD j [] = b at *
   generalize (FF.take j).flatten = X at *
   simp (disch := omega) only [rq, simprocAttr, e1, hmf, hbl, hjl, hks, hc2, hl2]
   refine ⟨j + 1, by omega, by omega, ?_⟩
   simp only [hY]
   exact Le.dropT [_, _, _, _] (by simp [Qm, isTL, isT, tl, Qv]) (by simp [Am.look, Qu, frzL, Qs, frzL_T _ (QbG FF)])
  ·have ej : j = FF.length := by omega
   subst ej
   have tH := Qv HS
   rw [List.take_length, show (QaS FF).take FF.length = QaS FF by rw [← hll, List.take_length]]
   have ht1 : (u8 TB).length = TB.length := Qy _
   have ht2 : (u8 FF.flatten).length = FF.flatten.length := Qy _
   rw [bs] at hT' ⊢
   have hk1 : u8 HS ++ u8 TB = u8 (HS ++ TB) := by simp [u8]
   have hk2 : u8 (HS ++ TB) ++ u8 FF.flatten = u8 (HS ++ (TB ++ FF.flatten)) := by simp [u8]
   have hk3 : HS.length + TB.length + FF.flatten.length = (HS ++ (TB ++ FF.flatten)).length := by simp only [List.length_append]; omega
   have hHT : 22 ≤ (HS ++ TB).length := by rw [List.length_append]; omega
   generalize HS ++ (TB ++ FF.flatten) = XX at *
   generalize FF.flatten = ZZ at *
   generalize HS ++ TB = HT at *
   simp (disch := omega) only [rq, simprocAttr]
   refine Qb.still 1 [2] hT' (by simp [QF, Qu, frzL, Qs, frzL_T _ tL]) ?_
   simp (disch := omega) only [rq, simprocAttr, QA, ht1, ht2, hk1, hk2, hk3]
   simp [QF, Qu, frzL, Qs, frzL_T _ tX]
def QqQ (c x r : Int) (l : List Int) (p : List UInt8) : AV :=
 if Zc c x r l ≠ 0 then .tup [.list 0 [], .int .i64 8] else if 64 < p.length then .tup [.list 0 [], .int .i64 2] else .tup [bs (QqR c x r l p), .int .i64 0]
theorem Qwl (c x r : Int) (l : List Int) (p : List UInt8) : isD (QqQ c x r l p) = true := by
 unfold QqQ
 repeat' split
 all_goals simp [isD, isDL, QC]
def QmK (P : Prg) (f : Nat) : Prop := ∀ (c x r : Int) (l : List Int) (p : List UInt8), I32 l → l.length ≤ 1000000 → VC P f [clA c x r l, .str p] (QqQ c x r l p)
theorem Qtr {P : Prg} {f fC fB t0 : Nat} (bd : Qf P f 18 [.tmp 4, .tmp 5] (Zd fC fB t0)) (hC : Z4 P fC) (hB : QAQ P fB) : QmK P f := by
 intro c x r l p hI hl
 refine VC.of_walk 1 (by simp [isDL, isD, QZ, clA]) (Qwl _ _ _ _ _) (ACall.of_body bd (by simp) ?_)
 have hC' := hC c x r l hI hl
 have hB' := hB c x r l p hI
 rw [il] at hC'
 rw [clA, il] at hB' ⊢
 rcases Qbm c x r l with h | h
 case inr =>
  rw [h] at hC'
  rw [QqQ, if_pos (by omega)]
  simp (disch := omega) only [rq, simprocAttr, Zd]
  refine Qb.vc hC' ?_
  simp (disch := omega) only [rq, simprocAttr]
  simp [QF, Qu, frzL, Qs]
 rw [h] at hC'
 rw [QqQ, if_neg (by omega)]
 by_cases hp : 64 < p.length
 ·rw [if_pos hp]
  simp (disch := omega) only [rq, simprocAttr, Zd]
  refine Qb.vc hC' ?_
  simp (disch := omega) only [rq, simprocAttr]
  simp [QF, Qu, frzL, Qs]
 ·rw [if_neg hp]
  have hB2 := hB' h (by omega)
  have tb := Qv (QqR c x r l p)
  rw [bs] at hB2 ⊢
  simp (disch := omega) only [rq, simprocAttr, Zd]
  refine Qb.vc hC' ?_
  simp (disch := omega) only [rq, simprocAttr]
  refine Qb.vc hB2 ?_
  simp (disch := omega) only [rq, simprocAttr]
  simp [QF, Qu, frzL, Qs, frzL_T _ tb]
theorem QAy {c x : Int} {t l : List Int} (hL : I32 l) (h : QdV c x l = 0) : (Qjk c.toNat x t l).length ≤ 11 * l.length + 5 := by
 obtain ⟨k, m, rfl, hkM, hx, e1, e2, e3, e4, e5, e6⟩ := Qmv hL h
 have hvl := Qfq k x t l
 obtain ⟨_, q2, _⟩ := Qch (c := k) (QkH k x t l) (Qs1 k x t l).length
 rw [Int.toNat_natCast, Qjk, Qn2, QhB]
 unfold nB
 omega
theorem Qvj : ∀ (l : List Int) (m : Int), (∀ v ∈ l, 5 ≤ v) → l.sum ≤ m → QrZ m l
 | [], _, _, _ => trivial
 | n :: l, m, h, hs => by
  have h1 := h n List.mem_cons_self
  rw [List.sum_cons] at hs
  have hn : 0 ≤ l.sum := by
   have : ∀ l : List Int, (∀ v ∈ l, 5 ≤ v) → 0 ≤ l.sum := fun l => by
    induction l with
    | nil => intro _; simp
    | cons a l ih =>
     intro h
     have := h a List.mem_cons_self
     have := ih fun v hv => h v (List.mem_cons_of_mem _ hv)
     rw [List.sum_cons]; omega
   exact this l fun v hv => h v (List.mem_cons_of_mem _ hv)
  exact ⟨h1, by omega, Qvj l (m - n) (fun v hv => h v (List.mem_cons_of_mem _ hv)) (by omega)⟩
theorem Qwz {c x : Int} {T : List Int} : ∀ S : List (List Int), (∀ q ∈ S, I32 q ∧ QdV c x q = 0) → ((S.map (Qjk c.toNat x T)).flatten.length ≤ 11 * S.flatten.length + 5 * S.length)
 | [], _ => by simp
 | q :: S, h => by
  have h1 := Qwz (T := T) S fun p hp => h p (List.mem_cons_of_mem _ hp)
  obtain ⟨h2, h3⟩ := h q List.mem_cons_self
  have h4 := QAy (t := T) h2 h3
  rw [List.map_cons, List.flatten_cons, List.flatten_cons, List.length_append, List.length_append, List.length_cons]
  omega
theorem QzP {c x r : Int} {l T : List Int} (h : Zc c x r l = 0) (hI : I32 l) : skN (QaS (Qq c x r l T)) = 0 ∧ (Qq c x r l T).flatten.length ≤ 49000 := by
 have hple := Qce h
 have hfl := Qaz c x r l T
 have hpl := QeM c r l
 have hf := Qwz (T := T) (QV c r l) fun q hq => ⟨Qol h hI q hq, (Qcd h q hq).1⟩
 rw [Qgn h] at hf
 have h4 : l.length ≤ 4000 := by obtain ⟨_, _, _, _, _, _, _, h4⟩ := Qan h; exact h4
 have hfr : (Qq c x r l T).flatten.length ≤ 49000 := by
  show ((QV c r l).map (Qjk c.toNat x T)).flatten.length ≤ 49000
  omega
 have hll := QfO (Qq c x r l T)
 have h1 : 1 ≤ (Qq c x r l T).length := by rw [hfl, hpl, Xx]; exact Nat.le_add_left 1 _
 refine ⟨?_, hfr⟩
 rw [skN, if_neg (by omega), if_pos]
 refine Qvj _ _ (fun v hv => ?_) (by rw [Qlj]; omega)
 obtain ⟨b, hb, rfl⟩ := List.mem_map.1 hv
 obtain ⟨q, hq, rfl⟩ := List.mem_map.1 (show b ∈ (QV c r l).map (Qjk c.toNat x T) from hb)
 have := (QwF (t := T) (Qol h hI q hq) (Qcd h q hq).1).2
 omega
theorem QAw {c x r : Int} {l : List Int} {p : List UInt8} (hI : I32 l) : Qim c x r l p = QqQ c x r l p := by
 unfold Qim QqQ
 rcases Qbm c x r l with h | h
 ·have a : ¬ Zc c x r l ≠ 0 := by omega
  have b : ¬ skN (QaS (Qq c x r l (ofK (Z5 0 p) 8))) ≠ 0 := by rw [(QzP h hI).1]; simp
  simp only [if_neg a, if_neg b]
 ·have a : Zc c x r l ≠ 0 := by omega
  simp only [if_pos a]
def ewA (b p : List UInt8) : AV := match Qly b with
 | .inl e => .tup [.list 0 [], .int .i64 e]
 | .inr (c, x, r, l) => Qim c x r l p
theorem QAm (b p : List UInt8) : isD (ewA b p) = true := by
 unfold ewA
 split
 ·simp [isD, isDL]
 ·exact QsC _ _ _ _ _
def QkD (P : Prg) (f : Nat) : Prop := ∀ b p : List UInt8, b.length < 140737488355328 → VC P f [bs b, .str p] (ewA b p)
theorem Qkq {P : Prg} {f fR fF t0 : Nat} (bd : Qf P f 21 [.tmp 4, .tmp 5] (Qa0 fR fF t0)) (hR : Qcl P fR) (hF : QmW P fF) : QkD P f := by
 intro b p hb
 refine VC.of_walk 1 (by simp [isDL, QC, isD]) (QAm b p) (ACall.of_body bd (by simp) ?_)
 have hR' := hR b hb
 unfold ewA
 cases h : Qly b with
 | inl e =>
  rw [h, bs] at hR'
  have he := QvN h
  simp only
  rw [bs]
  simp (disch := omega) only [rq, simprocAttr, Qa0]
  refine Qb.vc hR' ?_
  simp (disch := omega) only [rq, simprocAttr, Zl, clA, il, ks]
  simp [QF, Qu, frzL, Qs]
 | inr q =>
  obtain ⟨c, x, r, l⟩ := q
  rw [h, bs] at hR'
  obtain ⟨h0, hI, h4⟩ := Qyx h
  have hF' := hF c x r l p hI (by omega)
  obtain ⟨o, y, e1, _⟩ := QnW c x r l p
  simp only
  rw [e1] at hF' ⊢
  simp only [clA, il, bs] at hF' ⊢
  simp (disch := omega) only [rq, simprocAttr, Qa0]
  refine Qb.vc hR' ?_
  simp (disch := omega) only [rq, simprocAttr, Zl, clA, il]
  refine Qb.vc hF' ?_
  simp (disch := omega) only [rq, simprocAttr]
  simp [QF, Qu, frzL, Qs, frzL_T _ (Qv _)]
theorem Qz4 {P : Prg} {f : Nat} (h : QmK P f) : QmW P f := fun c x r l p hI hl => by rw [QAw hI]; exact h c x r l p hI hl
theorem QvC {P : Prg} {f fR fF t0 : Nat} (bd : Qf P f 21 [.tmp 4, .tmp 5] (Qbr fR fF t0)) (hR : Qcl P fR) (hF : QmK P fF) : QkD P f := by
 exact Qkq (P := P) (f := f) (fR := fR) (fF := fF) (t0 := t0) bd hR (Qz4 hF)
def QxA (P : Prg) (f : Nat) : Prop := ∀ b p : List UInt8, VC P f [bs b, .str p] (.bool true)
theorem QyX (b p : List UInt8) : ∃ o y, ewA b p = .tup [bs o, .int .i64 y] := by
 unfold ewA
 split
 ·exact ⟨[], _, rfl⟩
 ·obtain ⟨o, y, e1, _⟩ := QnW _ _ _ _ _
  exact ⟨o, y, e1⟩
theorem Qhj {P : Prg} {f fE fR : Nat} (bd : Qf P f 39 [.tmp 4] (QS fE fR)) (hE : QkD P fE) (hR : QkD P fR) : QxA P f := by
 intro b p
 refine VC.of_acall (by simp [isDL, isD, QC]) rfl (ACall.of_body bd (by simp) ?_)
 by_cases hb : 2000 < b.length
 ·rw [bs]
  simp (disch := omega) only [rq, simprocAttr, QS]
 by_cases hp : 200 < p.length
 ·rw [bs]
  simp (disch := omega) only [rq, simprocAttr, QS]
 have hE' := hE b p (by omega)
 have hR' := hR b p (by omega)
 obtain ⟨o, y, e1⟩ := QyX b p
 rw [e1] at hE' hR'
 simp only [bs] at hE' hR' ⊢
 have hd := QhE o
 have hs1 : Qfo .eql o o = some (.bool true) := by simp [Qfo]
 simp (disch := omega) only [rq, simprocAttr, QS]
 refine Qb.vc hE' ?_
 simp (disch := omega) only [rq, simprocAttr]
 refine Qb.vc hR' ?_
 simp (disch := omega) only [rq, simprocAttr, hd, hs1]
end Go.Am
