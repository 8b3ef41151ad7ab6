/- What the functions that the law reaches return, for every program that has their code; the conditions stand in each statement. -/
import Derived.Test.YtpipccfcpeemfaaGreatDoorEncodeWavsL2
set_option linter.unusedSectionVars false
set_option linter.unusedSimpArgs false
set_option linter.unusedVariables false
namespace Go.Am
open Go.RowKit
def uN (n : Nat) : Nat := min (n + 1) 48
def Qxr (P : Prg) (f : Nat) : Prop := ∀ n : Nat, n ≤ 48 → VC P f [.int .i64 n] (.tup [.int .i64 (uN n), .int .i64 0])
theorem QnO {P : Prg} {f : Nat} (bd : Qf P f 13 [.tmp 2, .tmp 3] Qbp) : Qxr P f := by
 intro n hn
 refine VC.of_acall rfl rfl (ACall.of_body bd (by simp) ?_)
 have e1 : (if (48 : Int) < (n : Int) + 1 then (48 : Int) else (n : Int) + 1) = (uN n : Nat) := by unfold uN; split <;> omega
 simp (disch := omega) only [rq, simprocAttr, Qbp, e1]
theorem QvV {n : Nat} (h : n ≤ 48) : 2 ^ n ≤ 281474976710656 := Nat.pow_le_pow_right (by omega) h
def Qmx (P : Prg) (f : Nat) : Prop := ∀ N V n : Nat, V < 2 ^ N → n ≤ 48 → N + uN n ≤ 330000 → VC P f [bA N V, .int .i64 n] (.tup [bA (N + uN n) (V + 2 ^ N * (2 ^ n - 1)), .int .i64 0])
theorem QpV {P : Prg} {f fC fL fP t0 : Nat} (bd : Qf P f 32 [.cell 4 t0, .tmp 5] (QbX fC fL fP t0)) (hC : QdX P fC) (hL : Qxr P fL) (hP : Qpk P fP) (ht : Q6 P t0 = some (some 2)) : Qmx P f := by
 intro N V n hV hn hN
 refine VC.of_walk 1 (by simp [isDL, QeC, isD]) (by simp [isD, isDL, QeC]) (ACall.of_body bd (by simp) ?_)
 have hC' := hC N V hV (by omega)
 have hL' := hL n hn
 have hp := QvV hn
 have hpos : 0 < 2 ^ n := Nat.pow_pos (by omega)
 have hlt : 2 ^ n - 1 < 2 ^ uN n := by
  unfold uN
  rcases Nat.lt_or_ge n 48 with h | h
  ·rw [Nat.min_eq_left (by omega), Nat.pow_succ]; omega
  ·obtain rfl : n = 48 := by omega
   decide
 have hP' := hP N V (2 ^ n - 1) (uN n) hV hlt (by unfold uN; omega) hN
 have e3 : Qn true .u64 1 (n : Int) = some (.int .u64 ((2 ^ n : Nat) : Int)) := by
  have := Qvo (K := .u64) rfl (c := 1) (s := n) (by show n ≤ 64; omega) (by show 1 * 2 ^ n < 18446744073709551616; omega)
  rw [Nat.one_mul] at this
  exact this
 have e4 : IntKind.u64.wrap (((2 ^ n : Nat) : Int) - 1) = ((2 ^ n - 1 : Nat) : Int) := by rw [ZQ]; omega
 generalize V + 2 ^ N * (2 ^ n - 1) = W at *
 generalize 2 ^ n - 1 = x at *
 generalize 2 ^ n = p at *
 generalize uN n = u at *
 have tl : isTL (u8 (leB W (nB (N + u)))) = true := Qv _
 simp only [bA] at hC' hP' ⊢
 simp (disch := omega) only [rq, simprocAttr, QbX]
 refine Qb.vc hC' ?_
 simp (disch := omega) only [rq, simprocAttr]
 refine Qb.vc hL' ?_
 simp (disch := omega) only [rq, simprocAttr, e3, e4]
 refine QU.vc hP' ?_
 simp (disch := omega) only [rq, simprocAttr, QD, ht, Qz]
 simp [QF, Qu, frzL, Qs, frzL_T _ tl]
def Qmz (P : Prg) (f : Nat) : Prop := ∀ N V v k : Nat, V < 2 ^ N → v < 4294967296 → k ≤ 24 → N + 80 ≤ 330000 → VC P f [bA N V, .int .u32 v, .int .i64 k] (.tup [bA (N + Qd5 v k) (V + 2 ^ N * Qhi v k), .int .i64 0])
theorem Qtq {P : Prg} {f fC fE fU fP t0 : Nat} (bd : Qf P f 57 [.cell 6 t0, .tmp 7] (QaZ fC fE fU fP t0)) (hC : QdX P fC) (hE : QAO P fE) (hU : Qmx P fU) (hP : Qpk P fP) (ht : Q6 P t0 = some (some 2)) : Qmz P f := by
 intro N V v k hV hv hk hN
 refine VC.of_walk 1 (by simp [isDL, QeC, isD]) (by simp [isD, isDL, QeC]) (ACall.of_body bd (by simp) ?_)
 have hC' := hC N V hV (by omega)
 have hE' := hE v k hk hv
 obtain ⟨q1, _⟩ := p24 hk
 have hpk : 0 < 2 ^ k := Nat.pow_pos (by omega)
 have e1 : Qn false .u32 (v : Int) (k : Int) = some (.int .u32 ((v / 2 ^ k : Nat) : Int)) := Qlo (K := .u32) (by show k ≤ 32; omega)
 have e2 : Qn true .u32 1 (k : Int) = some (.int .u32 ((2 ^ k : Nat) : Int)) := by
  have := Qvo (K := .u32) rfl (c := 1) (s := k) (by show k ≤ 32; omega) (by show 1 * 2 ^ k < 4294967296; omega)
  rw [Nat.one_mul] at this
  exact this
 have e3 : IntKind.u32.wrap (((2 ^ k : Nat) : Int) - 1) = ((2 ^ k - 1 : Nat) : Int) := by rw [Qat]; omega
 have e4 : IntKind.u32.wrap (BitVec.ofInt IntKind.u32.bits (v : Int) &&& BitVec.ofInt IntKind.u32.bits ((2 ^ k - 1 : Nat) : Int)).toNat = ((v % 2 ^ k : Nat) : Int) := by
  rw [QCe (K := .u32) rfl hv (by show 2 ^ k - 1 < 4294967296; omega), Nat.and_two_pow_sub_one_eq_mod]
 have hqv : v / 2 ^ k ≤ v := Nat.div_le_self _ _
 have hrv : v % 2 ^ k < 2 ^ k := Nat.mod_lt _ hpk
 unfold Qd5 Qhi
 by_cases hq : 48 ≤ v / 2 ^ k
 ·rw [if_pos hq, if_pos hq]
  simp only [hq, decide_true] at hE'
  have hU' := hU N V 48 hV (Nat.le_refl _) (by unfold uN; omega)
  have hu : uN 48 = 48 := rfl
  rw [hu] at hU'
  have hV1 : V + 2 ^ N * (2 ^ 48 - 1) < 2 ^ (N + 48) := Z8 hV (by decide)
  have hP' := hP (N + 48) (V + 2 ^ N * (2 ^ 48 - 1)) v 32 hV1 hv (by omega) (by omega)
  have hW : V + 2 ^ N * (2 ^ 48 - 1) + 2 ^ (N + 48) * v = V + 2 ^ N * (2 ^ 48 - 1 + 2 ^ 48 * v) := by rw [Nat.pow_add, Nat.mul_add, Nat.mul_assoc, Nat.add_assoc]
  rw [hW] at hP'
  generalize V + 2 ^ N * (2 ^ 48 - 1 + 2 ^ 48 * v) = W at *
  generalize V + 2 ^ N * (2 ^ 48 - 1) = W1 at *
  have hNN : N + 48 + 32 = N + 80 := by omega
  rw [hNN] at hP'
  have tl : isTL (u8 (leB W (nB (N + 80)))) = true := Qv _
  simp only [bA] at hC' hP' hU' ⊢
  have hU'' : VC P fU [.agg [.list (nB N) (u8 (leB V (nB N))), .int .i64 N], .int .i64 48] (.tup [.agg [.list (nB (N + 48)) (u8 (leB W1 (nB (N + 48)))), .int .i64 ((N + 48 : Nat) : Int)], .int .i64 0]) := hU'
  have hP'' : VC P fP [.agg [.list (nB (N + 48)) (u8 (leB W1 (nB (N + 48)))), .int .i64 ((N + 48 : Nat) : Int)], .int .u64 v, .int .i64 32] (.tup [.agg [.list (nB (N + 80)) (u8 (leB W (nB (N + 80)))), .int .i64 ((N + 80 : Nat) : Int)], .int .i64 0]) := hP'
  generalize v / 2 ^ k = q at *
  generalize v % 2 ^ k = r at *
  generalize 2 ^ k - 1 = mk at *
  generalize 2 ^ k = pk at *
  simp (disch := omega) only [rq, simprocAttr, QaZ]
  refine Qb.vc hC' ?_
  simp (disch := omega) only [rq, simprocAttr, e1, e2, e3, e4]
  refine Qb.vc hE' ?_
  simp (disch := omega) only [rq, simprocAttr]
  refine Qb.vc hU'' ?_
  simp (disch := omega) only [rq, simprocAttr]
  refine Qb.vc hP'' ?_
  simp (disch := omega) only [rq, simprocAttr, QD, ht, Qz]
  simp [QF, Qu, frzL, Qs, frzL_T _ tl]
 ·rw [if_neg hq, if_neg hq]
  simp only [hq, decide_false] at hE'
  have hu : uN (v / 2 ^ k) = v / 2 ^ k + 1 := by unfold uN; omega
  have hU' := hU N V (v / 2 ^ k) hV (by omega) (by rw [hu]; omega)
  rw [hu] at hU'
  have hlt : 2 ^ (v / 2 ^ k) - 1 < 2 ^ (v / 2 ^ k + 1) := by
   have : 0 < 2 ^ (v / 2 ^ k) := Nat.pow_pos (by omega)
   rw [Nat.pow_succ]; omega
  have hV1 : V + 2 ^ N * (2 ^ (v / 2 ^ k) - 1) < 2 ^ (N + (v / 2 ^ k + 1)) := Z8 hV hlt
  have hP' := hP (N + (v / 2 ^ k + 1)) (V + 2 ^ N * (2 ^ (v / 2 ^ k) - 1)) (v % 2 ^ k) k hV1 hrv (by omega) (by omega)
  have hW : V + 2 ^ N * (2 ^ (v / 2 ^ k) - 1) + 2 ^ (N + (v / 2 ^ k + 1)) * (v % 2 ^ k) = V + 2 ^ N * (2 ^ (v / 2 ^ k) - 1 + 2 ^ (v / 2 ^ k + 1) * (v % 2 ^ k)) := by rw [Nat.pow_add 2 N, Nat.mul_add, Nat.mul_assoc, Nat.add_assoc]
  rw [hW] at hP'
  generalize V + 2 ^ N * (2 ^ (v / 2 ^ k) - 1 + 2 ^ (v / 2 ^ k + 1) * (v % 2 ^ k)) = W at *
  generalize V + 2 ^ N * (2 ^ (v / 2 ^ k) - 1) = W1 at *
  have hNN : N + (v / 2 ^ k + 1) + k = N + (v / 2 ^ k + 1 + k) := by omega
  rw [hNN] at hP'
  have tl : isTL (u8 (leB W (nB (N + (v / 2 ^ k + 1 + k))))) = true := Qv _
  simp only [bA] at hC' hP' hU' ⊢
  generalize v / 2 ^ k = q at *
  generalize v % 2 ^ k = r at *
  generalize 2 ^ k - 1 = mk at *
  generalize 2 ^ k = pk at *
  generalize hM : N + (q + 1 + k) = M at *
  generalize hM1 : N + (q + 1) = M1 at *
  simp (disch := omega) only [rq, simprocAttr, QaZ]
  refine Qb.vc hC' ?_
  simp (disch := omega) only [rq, simprocAttr, e1, e2, e3, e4]
  refine Qb.vc hE' ?_
  simp (disch := omega) only [rq, simprocAttr]
  refine Qb.vc hU' ?_
  simp (disch := omega) only [rq, simprocAttr]
  refine Qb.vc hP' ?_
  simp (disch := omega) only [rq, simprocAttr, QD, ht, Qz]
  simp [QF, Qu, frzL, Qs, frzL_T _ tl]
def QmB (P : Prg) (f : Nat) : Prop := ∀ (N V v : Nat) (d : Dl), V < 2 ^ N → v < 4294967296 → okD d → N + 81 ≤ 330000 → VC P f [bA N V, dlA d, .int .u32 v] (.tup [bA (N + QeQ d v) (V + 2 ^ N * QjR d v), dlA (Jn d v), .int .i64 0])
theorem Qt9 {P : Prg} {f fC fD fV fP fR fL fl1 fll t0 t1 : Nat} (bd : Qf P f 69 [.cell 6 t0, .cell 7 t1, .tmp 8] (Qa2 fC fD fV fP fR fL t0 t1)) (hC : QdX P fC) (hD : QmX P fD) (hLv : Qi3 P fV) (hP : Qpk P fP) (hR : Qmz P fR)
  (bL : Qf P fL 36 [] (J0 fl1 fll)) (b1 : Qf P fl1 58 [] Qt) (hL : Qi3 P fll) (ht0 : Q6 P t0 = some (some 2)) (ht : Q6 P t1 = some (some 4)) : QmB P f := by
 intro N V v d hV hv hd hN
 refine VC.of_walk 1 (by simp [isDL, QeC, QqH, isD]) (by simp [isD, isDL, QeC, QqH]) (ACall.of_cut 7 bd (by simp) ?_)
 have hd' := hd
 have hC' := hC N V hV (by omega)
 have hD' := hD d hd
 have hLv' := hLv d v hd hv
 have hL1 : ∀ {ob : List Ob} {p : Nat} {v : Nat} {K : AV → List Ob → Prop}, ob[p]? = some ⟨t1, 4, 1, dlC d, 0⟩ → v < 4294967296 → K (.tup []) (ob.set p ⟨t1, 4, 1, dlC (Jn d v), 0⟩) → ACall P fL [.ref p 1 0, .int .u32 v] ob K :=
  fun hp hv hK => Qt8 bL b1 hL hp hd hv hK
 obtain ⟨k0, k1, s0, s1⟩ := d
 obtain ⟨h1, h2, h3, h4⟩ := hd'
 simp only at h1 h2 h3 h4
 obtain ⟨pk, _⟩ := p24 h1
 simp only [bA] at hC'
 simp only [dlA, dlC] at hD' hLv'
 unfold QeQ QjR
 by_cases c : v < 2 ^ k0
 ·simp only [c, if_true] at hLv' ⊢
  have hP1 := hP N V 0 1 hV (by decide) (by omega) (by omega)
  rw [Nat.mul_zero, Nat.add_zero] at hP1
  have hV1 : V < 2 ^ (N + 1) := Nat.lt_of_lt_of_le hV (Nat.pow_le_pow_right (by omega) (by omega))
  have hP2 := hP (N + 1) V v k0 hV1 c (by omega) (by omega)
  have hW : V + 2 ^ (N + 1) * v = V + 2 ^ N * (2 * v) := by rw [Nat.pow_succ, Nat.mul_assoc]
  rw [hW, Nat.add_assoc] at hP2
  generalize V + 2 ^ N * (2 * v) = W at *
  have tl : isTL (u8 (leB W (nB (N + (1 + k0))))) = true := Qv _
  simp only [bA] at hP1 hP2 ⊢
  have hP1' : VC P fP [.agg [.list (nB N) (u8 (leB V (nB N))), .int .i64 N], .int .u64 0, .int .i64 1] (.tup [.agg [.list (nB (N + 1)) (u8 (leB V (nB (N + 1)))), .int .i64 ((N + 1 : Nat) : Int)], .int .i64 0]) := hP1
  simp (disch := omega) only [rq, simprocAttr, Qdl, Qa2, dlA, dlC]
  refine Qb.vc hC' ?_
  simp (disch := omega) only [rq, simprocAttr, Qdl]
  refine Qb.vc hD' ?_
  simp (disch := omega) only [rq, simprocAttr, Qdl]
  refine Qb.vc hLv' ?_
  simp (disch := omega) only [rq, simprocAttr, Qdl]
  refine Qb.vc hP1' ?_
  simp (disch := omega) only [rq, simprocAttr, Qdl]
  refine Qb.vc hP2 ?_
  simp (disch := omega) only [rq, simprocAttr, Qdl]
  refine hL1 (v := v) rfl hv ?_
  generalize Jn ⟨k0, k1, s0, s1⟩ v = d'
  obtain ⟨l0, l1, l2, l3⟩ := d'
  simp (disch := omega) only [rq, simprocAttr, Qdl]
  refine ⟨⟨[(8, .int .i64 0), (7, .ref 3 1 0), (6, .ref 2 1 0), (4, .cell [.int .i64 l0, .int .i64 l1, .int .u64 l2, .int .u64 l3]), (3, .ref 0 1 0)], _⟩, Le.still [1] 1 (by simp [Am.look, Qu, frzL, Qs, dlC, isDL, isD]), ?_⟩
  simp (disch := omega) only [rq, simprocAttr, QD, ht, ht0, Qz, dlC, QA]
  simp [QF, Qu, frzL, Qs, frzL_T _ tl]
 ·simp only [c, if_false] at hLv' ⊢
  have hP1 := hP N V 1 1 hV (by decide) (by omega) (by omega)
  rw [Nat.mul_one] at hP1
  have hV1 : V + 2 ^ N < 2 ^ (N + 1) := by rw [Nat.pow_succ]; omega
  have hl : v - 2 ^ k0 < 4294967296 := Nat.lt_of_le_of_lt (Nat.sub_le _ _) hv
  have hR2 := hR (N + 1) (V + 2 ^ N) (v - 2 ^ k0) k1 hV1 hl h2 (by omega)
  have hW : V + 2 ^ N + 2 ^ (N + 1) * Qhi (v - 2 ^ k0) k1 = V + 2 ^ N * (1 + 2 * Qhi (v - 2 ^ k0) k1) := by rw [Nat.pow_succ, Nat.mul_assoc, Nat.mul_add, Nat.mul_one, Nat.add_assoc]
  rw [hW, Nat.add_assoc] at hR2
  generalize V + 2 ^ N * (1 + 2 * Qhi (v - 2 ^ k0) k1) = W at *
  generalize Qd5 (v - 2 ^ k0) k1 = rn at *
  generalize v - 2 ^ k0 = lf at *
  generalize V + 2 ^ N = W1 at *
  have tl : isTL (u8 (leB W (nB (N + (1 + rn))))) = true := Qv _
  simp only [bA] at hP1 hR2 ⊢
  have hP1' : VC P fP [.agg [.list (nB N) (u8 (leB V (nB N))), .int .i64 N], .int .u64 1, .int .i64 1] (.tup [.agg [.list (nB (N + 1)) (u8 (leB W1 (nB (N + 1)))), .int .i64 ((N + 1 : Nat) : Int)], .int .i64 0]) := hP1
  simp (disch := omega) only [rq, simprocAttr, Qdl, Qa2, dlA, dlC]
  refine Qb.vc hC' ?_
  simp (disch := omega) only [rq, simprocAttr, Qdl]
  refine Qb.vc hD' ?_
  simp (disch := omega) only [rq, simprocAttr, Qdl]
  refine Qb.vc hLv' ?_
  simp (disch := omega) only [rq, simprocAttr, Qdl]
  refine Qb.vc hP1' ?_
  simp (disch := omega) only [rq, simprocAttr, Qdl]
  refine Qb.vc hR2 ?_
  simp (disch := omega) only [rq, simprocAttr, Qdl]
  refine hL1 (v := v) rfl hv ?_
  generalize Jn ⟨k0, k1, s0, s1⟩ v = d'
  obtain ⟨l0, l1, l2, l3⟩ := d'
  simp (disch := omega) only [rq, simprocAttr, Qdl]
  refine ⟨⟨[(8, .int .i64 0), (7, .ref 3 1 0), (6, .ref 2 1 0), (4, .cell [.int .i64 l0, .int .i64 l1, .int .u64 l2, .int .u64 l3]), (3, .ref 0 1 0)], _⟩, Le.still [1] 1 (by simp [Am.look, Qu, frzL, Qs, dlC, isDL, isD]), ?_⟩
  simp (disch := omega) only [rq, simprocAttr, QD, ht, ht0, Qz, dlC, QA]
  simp [QF, Qu, frzL, Qs, frzL_T _ tl]
theorem Low.putB {ob : List Ob} (h : Low ob.length ob) {t t0 t2 o p N V N' n C : Nat} (ho : o < ob.length) : Low (ob.length + 1) (Qac ob o p (bY t0 N V) (bO t o N') ++ [⟨t2, 2, 1, [.list (nB n) (u8 (leB C (nB n))), .int .i64 n], 0⟩]) :=
 ((h.put ho).mono (by omega)).append (Low.cons (by simp [lowL, Xu, lowL_D _ (ZH _ _)]) Low.nil)
set_option maxHeartbeats 1000000 in
theorem QqS {P : Prg} {f t0 t1 : Nat} (bd : Qf P f 64 [] (Qar t0 t1)) {ob : List Ob} {t p o N V C n : Nat} (hp : ob[p]? = some (bO t o N)) (ho : ob[o]? = some (bY t1 N V)) (hpo : p ≠ o) (hV : V < 2 ^ N) (hC : C < 2 ^ n) (hn : n ≤ 1000) (hN : N + n ≤ 400000) (hfz : Low ob.length ob)
  {K : AV → List Ob → Prop} (hK : K (.tup []) (Qac ob o p (bY t1 (N + n) (V + 2 ^ N * C)) (bO t o (N + n)))) : ACall P f [.ref p 1 0, bA n C] ob K := by
 have hol : o < ob.length := (List.getElem?_eq_some_iff.1 ho).1
 have hpl : p < ob.length := (List.getElem?_eq_some_iff.1 hp).1
 refine ACall.low (ACall.of_body bd (by simp) ?_)
 have g0 : ∀ x y J, (Qac ob o p x y ++ J)[p]? = some y := fun x y J => by rw [List.getElem?_append_left (by rw [ZA]; exact hpl)]; exact QpT hpl
 have g1 : ∀ x y J, (Qac ob o p x y ++ J)[o]? = some x := fun x y J => by rw [List.getElem?_append_left (by rw [ZA]; exact hol)]; exact QpU hol hpo
 have g2 : ∀ x y J y', (Qac ob o p x y ++ J).set p y' = Qac ob o p x y' ++ J := fun x y J y' => by rw [List.set_append_left _ _ (by rw [ZA]; exact hpl), QuV]
 have g3 : ∀ x y J x', (Qac ob o p x y ++ J).set o x' = Qac ob o p x' y ++ J := fun x y J x' => by rw [List.set_append_left _ _ (by rw [ZA]; exact hol), QuW hpo]
 have g4 : ∀ x y (J : List Ob), (Qac ob o p x y ++ J)[ob.length]? = J[0]? := fun x y J => by rw [List.getElem?_append_right (by rw [ZA]; exact Nat.le_refl _), ZA, Nat.sub_self]
 have g5 : ∀ x y (J : List Ob), (Qac ob o p x y ++ J)[ob.length + 1]? = J[1]? := fun x y J => by rw [List.getElem?_append_right (by rw [ZA]; omega), ZA, Nat.add_sub_cancel_left]
 have ln : ∀ x y, (Qac ob o p x y).length = ob.length := fun x y => ZA
 have hs : ob = Qac ob o p (bY t1 N V) (bO t o N) := (QnN ho hp hpo).symm
 simp (disch := omega) only [rq, simprocAttr, Qar, bA, QtX]
 refine Qx.by (ι := Nat) (fun j => ⟨[(8, .int .i64 j), (7, .int .i64 n), (3, .ref ob.length 1 0), (0, .ref p 1 0)], Qac ob o p (bY t1 (N + j) (V + 2 ^ N * (C % 2 ^ j))) (bO t o (N + j)) ++ [⟨t0, 2, 1, [.list (nB n) (u8 (leB C (nB n))), .int .i64 n], 0⟩]⟩) (fun j => j ≤ n) (fun j => n - j) 0 ?_ (by omega) ?_
 ·rw [Nat.add_zero, Nat.pow_zero, Nat.mod_one, Nat.mul_zero, Nat.add_zero, ← hs]
  exact Le.slots (by simp [Am.look])
 intro j hj
 by_cases hlt : j < n
 ·obtain ⟨M, hM⟩ : ∃ M, M = N + j := ⟨_, rfl⟩
  obtain ⟨i, hi⟩ : ∃ i, i = M / 8 := ⟨_, rfl⟩
  obtain ⟨a, ha⟩ : ∃ a, a = M % 8 := ⟨_, rfl⟩
  obtain ⟨q, hq⟩ : ∃ q, q = j / 8 := ⟨_, rfl⟩
  obtain ⟨r, hr⟩ : ∃ r, r = j % 8 := ⟨_, rfl⟩
  obtain ⟨b, hb0⟩ : ∃ b, b = C / 2 ^ j % 2 := ⟨_, rfl⟩
  have hM8 : M = 8 * i + a := by omega
  have hj8 : 8 * q + r = j := by omega
  have hb : b < 2 := by rw [hb0]; exact Nat.mod_lt _ (by decide)
  have hW : V + 2 ^ N * (C % 2 ^ j) < 2 ^ M := by
   rw [hM]
   exact Z8 hV (Nat.mod_lt _ (Nat.pow_pos (by omega)))
  have hstep := QBL (V := V) (N := N) (v := C) (j := j) (r := 1)
  rw [← hM, Nat.pow_one, ← hb0] at hstep
  have hat := Qwf (V := C) (k := nB n) (i := q) (by unfold nB; omega)
  have hbit := QzB C q r (by omega)
  rw [hj8, ← hb0] at hbit
  have hby : C / 256 ^ q % 256 < 256 := Nat.mod_lt _ (by decide)
  have s1 : Qn false .u8 ((C / 256 ^ q % 256 : Nat) : Int) (r : Int) = some (.int .u8 ((C / 256 ^ q % 256 / 2 ^ r : Nat) : Int)) := Qlo (K := .u8) (by show r ≤ 8; omega)
  have hle : C / 256 ^ q % 256 / 2 ^ r ≤ C / 256 ^ q % 256 := Nat.div_le_self _ _
  have s2 : IntKind.u8.wrap (BitVec.ofInt IntKind.u8.bits ((C / 256 ^ q % 256 / 2 ^ r : Nat) : Int) &&& BitVec.ofInt IntKind.u8.bits ((1 : Nat) : Int)).toNat = ((b : Nat) : Int) := by
   rw [QCe (K := .u8) rfl (by show _ < 256; omega) (by decide), Nat.and_one_is_mod, hbit]
  have s2' : IntKind.u8.wrap (BitVec.ofInt IntKind.u8.bits ((C / 256 ^ q % 256 / 2 ^ r : Nat) : Int) &&& BitVec.ofInt IntKind.u8.bits 1).toNat = ((b : Nat) : Int) := s2
  generalize C / 256 ^ q % 256 / 2 ^ r = y1 at *
  generalize C / 256 ^ q % 256 = y0 at *
  rw [← hM]
  have hq1 : (j : Int) / 8 = (q : Int) := by omega
  have hr1 : (j : Int) % 8 = (r : Int) := by omega
  have hi1 : (M : Int) / 8 = (i : Int) := by omega
  have ha1 : (M : Int) % 8 = (a : Int) := by omega
  have hnq : q < nB n := by unfold nB; omega
  generalize V + 2 ^ N * (C % 2 ^ j) = W at *
  generalize hWW : V + 2 ^ N * (C % 2 ^ (j + 1)) = W' at *
  have h2a : 2 ^ a ≤ 2 ^ 7 := Nat.pow_le_pow_right (by omega) (by omega)
  have hpos : 0 < 2 ^ a := Nat.pow_pos (by omega)
  obtain ⟨l1, l2⟩ := Qbn (V := W) (i := i) (at_ := a) (by rw [← hM8]; exact hW) (by omega)
  obtain ⟨b1, b2, _⟩ := Qao (V := W) (i := i) (at_ := a) (w := b) (r := 1) (by rw [← hM8]; exact hW) (by omega) (by omega)
  rw [← hM8, ← hstep] at b1
  have hyb : W / 256 ^ i < 256 := by omega
  have hyb2 : W / 256 ^ i + 2 ^ a * b < 256 := by
   have : 2 ^ (a + 1) ≤ 2 ^ 8 := Nat.pow_le_pow_right (by omega) (by omega)
   omega
  have hca : b * 2 ^ a < 2 ^ 8 := by
   rcases (by omega : b = 0 ∨ b = 1) with rfl | rfl <;> omega
  have hu : ∀ y, y < 256 → u8 [UInt8.ofNat y] = [.int .u8 (y : Int)] := fun y hy => by simp [u8]; omega
  have e8 : IntKind.u8.wrap (BitVec.ofInt IntKind.u8.bits ((W / 256 ^ i : Nat) : Int) ||| BitVec.ofInt IntKind.u8.bits ((b * 2 ^ a : Nat) : Int)).toNat = ((W / 256 ^ i + 2 ^ a * b : Nat) : Int) := by
   rw [orK (K := .u8) rfl hyb hca, Qsh l2, Nat.mul_comm]
  have e7 : Qn true .u8 (b : Int) (a : Int) = some (.int .u8 ((b * 2 ^ a : Nat) : Int)) := Qvo rfl (by show a ≤ 8; omega) hca
  have hnB : nB (M + 1) = i + 1 := by unfold nB; omega
  have hcell : u8 (leB W' (i + 1)) = u8 (leB W i) ++ [.int .u8 ((W / 256 ^ i + 2 ^ a * b : Nat) : Int)] := by
   rw [b1, show u8 (leB W i ++ [UInt8.ofNat (W / 256 ^ i + 2 ^ a * b)]) = u8 (leB W i) ++ u8 [UInt8.ofNat (W / 256 ^ i + 2 ^ a * b)] by simp [u8]]
   rw [hu _ hyb2]
  have hlen : (u8 (leB W i)).length = i := by simp [u8, Qd]
  generalize W / 256 ^ i + 2 ^ a * b = y' at *
  generalize b * 2 ^ a = ca at *
  have d1 : ∀ z : AV, (u8 (leB W i) ++ [z]).drop i = [z] := fun z => by rw [List.drop_left' hlen]
  have d2 : ∀ z : AV, (u8 (leB W i) ++ [z]).take i = u8 (leB W i) := fun z => by rw [List.take_left' hlen]
  have d3 : ∀ z : AV, (u8 (leB W i) ++ [z]).drop (i + 1) = [] := fun z => List.drop_of_length_le (by simp [hlen])
  have el : (⟨t1, 1, i + 1, u8 (leB W i) ++ [.int .u8 (y' : Int)], 0⟩ : Ob) = bY t1 (M + 1) W' := by rw [bY, hnB, hcell]
  have er : (⟨t, 2, 1, [.own o (i + 1), .int .i64 ((M : Int) + 1)], 0⟩ : Ob) = bO t o (M + 1) := by rw [bO, hnB, Int.natCast_add]; rfl
  have hMr : N + (j + 1) = M + 1 := by omega
  have hcl : (u8 (leB C (nB n))).length = nB n := by simp [u8, Qd]
  by_cases h0 : a = 0
  ·subst h0
   have hnM : nB M = i := by unfold nB; omega
   have hW0 : W / 256 ^ i = 0 := by
    have := l2
    rw [Nat.pow_zero] at this
    exact Nat.lt_one_iff.1 this
   rw [hW0] at e8
   have e8' : IntKind.u8.wrap (BitVec.ofInt IntKind.u8.bits 0 ||| BitVec.ofInt IntKind.u8.bits (ca : Int)).toNat = (y' : Int) := e8
   have e7' : Qn true .u8 (b : Int) 0 = some (.int .u8 (ca : Int)) := e7
   have ha1' : (M : Int) % 8 = 0 := ha1
   simp (disch := omega) only [rq, simprocAttr, bO, bY, g0, g1, g2, g3, g4, g5, ln, hnM, hlen, hcl, hat, s1, s2', e7', e8', hq1, hr1, hi1, ha1', d1, d2, d3, List.append_assoc, List.cons_append, List.nil_append]
   refine ⟨j + 1, by omega, by omega, ?_⟩
   show Le ob.length _ ⟨[(8, .int .i64 ((j + 1 : Nat) : Int)), (7, .int .i64 n), (3, .ref ob.length 1 0), (0, .ref p 1 0)], Qac ob o p (bY t1 (N + (j + 1)) (V + 2 ^ N * (C % 2 ^ (j + 1)))) (bO t o (N + (j + 1))) ++ [⟨t0, 2, 1, [.list (nB n) (u8 (leB C (nB n))), .int .i64 n], 0⟩]⟩
   rw [hWW, hMr, el, er, List.append_cons]
   have hl : (Qac ob o p (bY t1 (M + 1) W') (bO t o (M + 1)) ++ [⟨t0, 2, 1, [.list (nB n) (u8 (leB C (nB n))), .int .i64 n], 0⟩] : List Ob).length = ob.length + 1 := by simp [ln]
   exact Le.low (by rw [hl]; omega) (by rw [hl]; exact hfz.putB hol) (by rw [hl]; simp [Am.look, Xu, Nat.lt_succ_of_lt hpl])
  ·have hnM : nB M = i + 1 := by unfold nB; omega
   have l3 : u8 (leB W (i + 1)) = u8 (leB W i) ++ [.int .u8 ((W / 256 ^ i : Nat) : Int)] := by
    rw [l1, show u8 (leB W i ++ [UInt8.ofNat (W / 256 ^ i)]) = u8 (leB W i) ++ u8 [UInt8.ofNat (W / 256 ^ i)] by simp [u8], hu _ hyb]
   have ha0 : (a : Int) ≠ 0 := by omega
   generalize W / 256 ^ i = y at *
   simp (disch := omega) only [rq, simprocAttr, bO, bY, g0, g1, g2, g3, g4, g5, ln, hnM, hlen, hcl, l3, hat, s1, s2', e7, e8, hq1, hr1, hi1, ha1, d1, d2, d3, List.append_assoc, List.cons_append, List.nil_append]
   refine ⟨j + 1, by omega, by omega, ?_⟩
   show Le ob.length _ ⟨[(8, .int .i64 ((j + 1 : Nat) : Int)), (7, .int .i64 n), (3, .ref ob.length 1 0), (0, .ref p 1 0)], Qac ob o p (bY t1 (N + (j + 1)) (V + 2 ^ N * (C % 2 ^ (j + 1)))) (bO t o (N + (j + 1))) ++ [⟨t0, 2, 1, [.list (nB n) (u8 (leB C (nB n))), .int .i64 n], 0⟩]⟩
   rw [hWW, hMr, el, er]
   exact Le.slots (by simp [Am.look])
 ·obtain rfl : j = n := by omega
  rw [Nat.mod_eq_of_lt hC]
  simp (disch := omega) only [rq, simprocAttr]
  exact ⟨Qac ob o p (bY t1 (N + j) (V + 2 ^ N * C)) (bO t o (N + j)), _, rfl, by rw [ln]; exact Nat.le_refl _, by rw [ln]; exact hfz.put hol, by rfl, hK⟩
theorem Qw3 (c : J8) (x : Int) : -2147483648 ≤ Qiw c x ∧ Qiw c x ≤ 2147483647 := Jw _
def Qs1 (c : Nat) (x : Int) (t l : List Int) : List Nat := (Qkc c (Xm c l) (Qam x t) l.length).map Int.toNat
def Qjk (c : Nat) (x : Int) (t l : List Int) : List UInt8 := ZU (Qd7 c (Qs1 c x t l))
theorem Qsg (c : Nat) (L : List Int) (z : J8) (a : Nat) : U32 (Qkc c L z a) := by
 intro y hy
 simp only [Qkc, List.mem_map] at hy
 obtain ⟨j, _, rfl⟩ := hy
 exact Qwu (Qw3 _ _)
theorem QyS {v : List Int} (h : U32 v) : iL (v.map Int.toNat) = v := by
 unfold iL
 rw [List.map_map]
 conv => rhs; rw [← List.map_id v]
 apply List.map_congr_left
 intro y hy
 have := h y hy
 simp; omega
theorem QxK {v : List Int} (h : U32 v) : N32 (v.map Int.toNat) := by
 intro y hy
 simp only [List.mem_map] at hy
 obtain ⟨z, hz, rfl⟩ := hy
 have := h z hz
 omega
theorem Qfq (c : Nat) (x : Int) (t l : List Int) : (Qs1 c x t l).length = l.length := by simp [Qs1, Qhx]
theorem QkH (c : Nat) (x : Int) (t l : List Int) : N32 (Qs1 c x t l) := QxK (Qsg _ _ _ _)
theorem QAr (c : Nat) (x : Int) (t l : List Int) : iL (Qs1 c x t l) = Qkc c (Xm c l) (Qam x t) l.length := QyS (Qsg _ _ _ _)
theorem QqM {c : Nat} {v : List Nat} (h : N32 v) (h1 : 1 ≤ v.length) (h2 : v.length ≤ 4000) : 1 ≤ (Qd7 c v).length ∧ (Qd7 c v).length ≤ 40500 := by
 obtain ⟨_, q2, q3⟩ := Qch (c := c) h v.length
 rw [QhB]
 unfold nB
 omega
theorem rest0 {V N a : Nat} (hV : V < 2 ^ a) (h : N - a ≤ 7) : QA9 V N a = 0 := by
 unfold QA9
 rw [if_neg (by omega), if_pos (Nat.div_eq_of_lt hV)]
theorem Qmv {c x : Int} {l : List Int} (hI : I32 l) (h : QdV c x l = 0) : ∃ k m : Nat, c = k ∧ okM k l ∧ Jk x ≠ 0 ∧ ZC c x = 0 ∧ Q3 x l = 0 ∧ l.length = m * k ∧ 1 ≤ m ∧ (l.length : Int) / c = m ∧ QcG c x ((l.length : Int) / c) = 0 := by
 obtain ⟨k, rfl, hk, hx⟩ := Qrw hI h
 have hk' := hk
 obtain ⟨h1, h2, h3, h4, h5, _⟩ := hk'
 have e1 : ZC k x = 0 := by
  rcases ZB k x with q | ⟨q, _⟩
  ·rw [Qmt q] at h; omega
  ·exact q
 have e2 : Q3 x l = 0 := by
  rcases Int.decEq (Q3 x l) 0 with q | q
  ·rw [Qmu e1 q] at h; exact absurd h q
  ·exact q
 have e3 : l.length = l.length / k * k := by have := Nat.div_add_mod l.length k; rw [Nat.mul_comm] at this; omega
 have e4 : 1 ≤ l.length / k := by
  rcases Nat.eq_zero_or_pos (l.length / k) with q | q
  ·rw [q] at e3; omega
  ·exact q
 have e5 : (l.length : Int) / (k : Int) = ((l.length / k : Nat) : Int) := by rw [Int.natCast_ediv]
 refine ⟨k, l.length / k, rfl, hk, hx, e1, e2, e3, e4, e5, ?_⟩
 have e6 : l.length / k ≤ 4000 / k := Nat.div_le_div_right h4
 have e7 : (4000 : Int) / (k : Int) = ((4000 / k : Nat) : Int) := by rw [Int.natCast_ediv]; rfl
 unfold QcG
 rw [if_neg (by omega), e5, e7, if_neg (by omega), if_neg (by omega)]
def Qgc (P : Prg) (f : Nat) : Prop := VC P f [] (.agg (QfG fun _ => QR))
theorem QjJ {P : Prg} {f fS t0 : Nat} (bd : Qf P f 11 [.cell 0 t0] (Qak fS t0)) (hS : QdE P fS) (ht : Q6 P t0 = some (some 24)) : Qgc P f := by
 refine VC.of_acall rfl rfl (ACall.of_body bd (by simp) ?_)
 simp only [QdE, QR, dlA, dlC] at hS
 simp (disch := omega) only [rq, simprocAttr, Qak]
 refine Qx.by (ι := Nat) (fun i => ⟨[(3, .int .i64 i), (1, .ref 1 1 0), (0, .ref 0 1 0)],
   [⟨t0, 24, 1, QfG (fun _ => ⟨0, 0, 0, 0⟩), 0⟩, ⟨t0, 24, 1, QfG (fun j => if j < i then QR else ⟨0, 0, 0, 0⟩), 0⟩]⟩) (fun i => i ≤ 6) (fun i => 6 - i) 0 (Le.slots (by simp [Am.look])) (by omega) ?_
 intro i hi
 by_cases hlt : i < 6
 ·have e1 := Qr2 (fun j => if j < i then QR else ⟨0, 0, 0, 0⟩) hlt QR
  have e2 : QAU (fun j => if j < i then QR else ⟨0, 0, 0, 0⟩) i QR = fun j => if j < i + 1 then QR else ⟨0, 0, 0, 0⟩ := by
   funext j
   unfold QAU
   by_cases h1 : j = i
   ·subst h1; simp
   ·by_cases h2 : j < i
    ·simp [h1, h2, show j < i + 1 by omega]
    ·simp [h1, h2, show ¬ j < i + 1 by omega]
  rw [e2] at e1
  have e3 := QfF (fun j => if j < i then QR else ⟨0, 0, 0, 0⟩)
  simp (disch := omega) only [rq, simprocAttr]
  refine Qb.vc hS ?_
  generalize hF : QfG (fun j => if j < i then QR else ⟨0, 0, 0, 0⟩) = F at *
  have e1' : F.take (i * 4) ++ [.int .i64 10, .int .i64 10, .int .u64 16384, .int .u64 16384] ++ F.drop (i * 4 + 4) = QfG fun j => if j < i + 1 then QR else ⟨0, 0, 0, 0⟩ := e1
  generalize QfG (fun _ => (⟨0, 0, 0, 0⟩ : Dl)) = Z
  simp (disch := omega) only [rq, simprocAttr, e3]
  refine ⟨i + 1, by omega, by omega, ?_⟩
  rw [e1']
  exact Le.slots (by simp [Am.look])
 obtain rfl : i = 6 := by omega
 have z1 : QfG (fun j => if j < 6 then QR else ⟨0, 0, 0, 0⟩) = QfG (fun _ => QR) := rfl
 have z2 := QfF fun _ => QR
 have z3 := QfF fun _ => (⟨0, 0, 0, 0⟩ : Dl)
 rw [z1]
 have z4 : (QfG fun _ => QR).all AV.one = true := rfl
 have z5 : (QfG fun _ => QR).take 24 = QfG fun _ => QR := rfl
 have z6 : (QfG fun _ => (⟨0, 0, 0, 0⟩ : Dl)).drop 24 = [] := rfl
 generalize (QfG fun _ => (⟨0, 0, 0, 0⟩ : Dl)) = Z at *
 generalize (QfG fun _ => QR) = S at *
 simp (disch := omega) only [rq, simprocAttr, QD, ht, Qz, z2, z3, z4, z5, z6, List.take_zero, List.nil_append, List.append_nil]
def Qse (L : List (List UInt8)) : AV := .list L.length (L.map bs)
def QmY (P : Prg) (f : Nat) : Prop := ∀ L : List (List UInt8), L.length ≤ 1000000 → 0 < L.flatten.length → L.flatten.length ≤ 1000000 → VC P f [Qse L] (bs L.flatten)
def Qi8 (t : Nat) (P : Prg) (f : Nat) : Prop := ∀ (ob : List Ob) (n : Nat) (z : Bool) (K : AV → List Ob → Prop), 0 < n → n ≤ 140737488355328 → K (.own ob.length 0) (ob ++ [⟨t, 1, 0, [], 0⟩]) → ACall P f [.emp z, .int .i64 n] ob K
theorem grow_nil {P : Prg} {f t : Nat} {ρ : Go.Shelf.Ren} (L : Go.Proofs.Lays8.n4 P.prog ρ) (hf : ρ.f 4 = f) (ht : ρ.t 25 = t) (h25 : (P.prog.info? t).map (fun i => (i.zero, i.size, i.bytes)) = some (some (.int .u8 0), 1, 1)) : Qi8 t P f := by
 intro ob n z K h1 h2 hK
 subst hf; subst ht
 exact ACall.grow_nil L h25 h1 h2 hK
theorem QoF {L : List (List UInt8)} {k : Nat} (h : k < L.length) : (L.take (k + 1)).flatten = (L.take k).flatten ++ L.getD k [] := by
 rw [List.take_succ_eq_append_getElem h, List.flatten_append, List.getD_eq_getElem?_getD, List.getElem?_eq_getElem h]
 simp
theorem Qwy (L : List (List UInt8)) (k : Nat) : (L.take k).flatten.length ≤ L.flatten.length := by
 conv => rhs; rw [← List.take_append_drop k L, List.flatten_append, List.length_append]
 omega
theorem Qlm {P : Prg} {f fG t0 : Nat} (bd : Qf P f 36 [.tmp 2] (Zv fG t0)) (hG : Qi8 t0 P fG) : QmY P f := by
 intro L hL h0 h1
 refine VC.of_walk 1 (by simp [isDL, isD, Qse, QlI]) (QC _) (ACall.of_body bd (by simp) ?_)
 have hat : ∀ k, k < L.length → (L.map bs).drop k = bs (L.getD k []) :: (L.map bs).drop (k + 1) := fun k hk => by
  rw [List.drop_eq_getElem_cons (by simpa using hk)]
  simp [List.getD_eq_getElem?_getD, List.getElem?_eq_getElem hk]
 have hml : (L.map bs).length = L.length := by simp
 simp only [bs] at hat
 simp (disch := omega) only [rq, simprocAttr, Zv, Qse]
 refine Qx.by (ι := Nat) (fun k => ⟨[(11, .int .i64 k), (10, .int .i64 L.length), (9, .list L.length (L.map bs)), (3, .int .i64 (L.take k).flatten.length), (0, .list L.length (L.map bs))], []⟩) (fun k => k ≤ L.length) (fun k => L.length - k) 0 (Le.slots (by simp [Am.look])) (by omega) ?_
 intro k hk
 by_cases hlt : k < L.length
 ·have ha := hat k hlt
  have hf := QoF hlt
  have hle := Qwy L (k + 1)
  rw [hf, List.length_append] at hle
  have hl : ((L.take (k + 1)).flatten.length : Int) = (L.take k).flatten.length + (L.getD k []).length := by rw [hf]; simp
  generalize (L.take k).flatten.length = s at *
  generalize L.getD k [] = x at *
  simp (disch := omega) only [rq, simprocAttr, ha, hml]
  exact ⟨k + 1, by omega, by omega, by simp only [hl]; exact Le.slots (by simp [Am.look])⟩
 obtain rfl : k = L.length := by omega
 rw [List.take_length]
 have hG' := fun K hK => hG [] L.flatten.length true K h0 (by omega) hK
 simp (disch := omega) only [rq, simprocAttr]
 refine hG' _ ?_
 simp (disch := omega) only [rq, simprocAttr]
 refine Qx.by (ι := Nat) (fun k => ⟨[(27, .int .i64 k), (26, .int .i64 L.length), (25, .list L.length (L.map bs)), (6, .own 0 (L.take k).flatten.length)], [⟨t0, 1, (L.take k).flatten.length, u8 (L.take k).flatten, 0⟩]⟩) (fun k => k ≤ L.length) (fun k => L.length - k) 0 (Le.slots (by simp [Am.look])) (by omega) ?_
 intro k hk
 by_cases hlt : k < L.length
 ·have ha := hat k hlt
  have hf := QoF hlt
  have hle := Qwy L (k + 1)
  rw [hf, List.length_append] at hle
  have hl : (L.take (k + 1)).flatten.length = (L.take k).flatten.length + (L.getD k []).length := by rw [hf]; simp
  have hu : u8 (L.take (k + 1)).flatten = u8 (L.take k).flatten ++ u8 (L.getD k []) := by rw [hf, JS]
  have hc : (u8 (L.take k).flatten).length = (L.take k).flatten.length := Qy _
  have hx : (u8 (L.getD k [])).length = (L.getD k []).length := Qy _
  generalize u8 (L.take k).flatten = cs at *
  generalize (L.take k).flatten.length = s at *
  generalize u8 (L.getD k []) = us at *
  generalize (L.getD k []).length = xl at *
  simp (disch := omega) only [rq, simprocAttr, ha, hml, hc, hx]
  exact ⟨k + 1, by omega, by omega, by rw [hl, hu]; exact Le.slots (by simp [Am.look])⟩
 obtain rfl : k = L.length := by omega
 rw [List.take_length]
 simp (disch := omega) only [rq, simprocAttr]
 simp [QF, Qu, frzL, Qs, frzL_T _ (Qv _), bs]
theorem QnP (c : Nat) (x : Int) (t l : List Int) : QpW (Qkc c (Xm c l) (Qam x t) l.length) = .list l.length (ks .u32 ((Qs1 c x t l).map fun n : Nat => (n : Int))) := by
 have := QAr c x t l
 unfold iL at this
 rw [this, QpW, Qhx]
theorem Qx4 {c i : Nat} {v : List Nat} (hc : 1 ≤ c) (hi : i < v.length) : QAU (fun j => if j < c then Zm c j (v.take i) else QR) (i % c) (Jn (Zm c (i % c) (v.take i)) (v.getD i 0)) = fun j => if j < c then Zm c j (v.take (i + 1)) else QR := by
 have ht : v.take (i + 1) = v.take i ++ [v.getD i 0] := by
  rw [List.take_succ_eq_append_getElem hi]
  simp [List.getD_eq_getElem?_getD, List.getElem?_eq_getElem hi]
 have hl : (v.take i).length = i := by simp; omega
 have hr : i % c < c := Nat.mod_lt _ (by omega)
 funext j
 unfold QAU
 rw [ht]
 by_cases hj : j = i % c
 ·subst hj
  rw [if_pos rfl, if_pos hr, Qiv, if_pos (by rw [hl])]
 ·rw [if_neg hj]
  by_cases hjc : j < c
  ·simp only [hjc, if_true]
   rw [Qiv, if_neg (by rw [hl]; exact fun e => hj e.symm)]
  ·simp only [hjc, if_false]
def Qzt (c x : Int) (t l : List Int) : AV := if QdV c x l ≠ 0 then .tup [.list 0 [], .int .i64 (QdV c x l)] else .tup [bs (Qjk c.toNat x t l), .int .i64 0]
theorem QsD (c x : Int) (t l : List Int) : isD (Qzt c x t l) = true := by unfold Qzt; split <;> simp [isD, isDL, QC]
def QuC (P : Prg) (f : Nat) : Prop := ∀ (c x : Int) (t l : List Int), t.length = 16 → I32 t → I32 l → VC P f [shA c x, .agg (ks .i32 t), il l] (Qzt c x t l)
set_option maxHeartbeats 2000000 in
set_option maxRecDepth 20000 in
theorem QjL {P : Prg} {f fV fS fW fP fC fB fK t0 t1 t2 t3 t4 t5 tp tb : Nat} (bd : Qf P f 85 [.tmp 6, .tmp 7] (X5 fV fS fW fP fC fB fK t0 t1 t2 t3 t4 t5)) (hV : QrK P fV) (hS : Qgc P fS) (hW : QmB P fW) (bP : Qf P fP 64 [] (Qar tp tb)) (hC : Qpm P fC) (hB : Qbt P fB) (hK : QmY P fK) : QuC P f := by
 intro c x t l ht hI hL
 refine VC.of_walk 1 (by simp [isDL, isD, QW, QZ, shA]) (QsD _ _ _ _) (ACall.of_body bd (by simp) ?_)
 have hk : (ks .i32 t).length = 16 := by simp [Qg, ht]
 have tt : (ks .i32 t).take 16 = ks .i32 t := Qo (by omega)
 have ot := X6 .i32 t
 have hV' := hV c x t l ht hI hL
 unfold Qzt
 by_cases h0 : QdV c x l = 0
 case neg =>
  rw [Qx3, if_pos h0] at hV'
  rw [if_pos h0]
  rw [shA] at hV' ⊢
  simp (disch := omega) only [rq, simprocAttr, X5, hk, ot, tt]
  refine Qb.vc hV' ?_
  simp (disch := omega) only [rq, simprocAttr, h0]
  simp [QF, Qu, frzL, Qs]
 obtain ⟨k, m, rfl, hkM, hx, e1, e2, e3, e4, e5, e6⟩ := Qmv hL h0
 obtain ⟨c1, c6, l0, l4, lm, _⟩ := hkM
 rw [Qx3, if_neg (by omega), Int.toNat_natCast, QnP] at hV'
 rw [if_neg (by omega), Int.toNat_natCast, Qjk, ZU]
 have hv := QkH k x t l
 have hvl := Qfq k x t l
 rw [← hvl] at hV' l0 l4
 generalize Qs1 k x t l = v at *
 rw [shA] at hV' ⊢
 have hfb := Qch (c := k) hv
 have hkv : (ks .u32 (v.map fun n : Nat => (n : Int))).length = v.length := by simp [ks]
 have s24 := QfF fun _ => QR
 have sone : (QfG fun _ => QR).all AV.one = true := rfl
 have stk : (QfG fun _ => QR).take 24 = QfG fun _ => QR := rfl
 have z2 : (fun j => if j < k then Zm k j (v.take 0) else QR) = fun _ => QR := by
  funext j
  rw [List.take_zero]
  split <;> rfl
 simp only [Qgc] at hS
 simp (disch := omega) only [rq, simprocAttr, X5, hk, ot, tt]
 refine Qb.vc hV' ?_
 simp (disch := omega) only [rq, simprocAttr, hkv]
 refine Qb.vc hS ?_
 generalize hS0 : (QfG fun _ => QR) = S0 at *
 simp (disch := omega) only [rq, simprocAttr, hkv, s24, sone, stk, List.append_nil, List.take_zero, List.nil_append]
 refine Qx.by (ι := Nat) (fun i => ⟨[(32, .int .i64 i), (31, .int .i64 v.length), (30, .list v.length (ks .u32 (v.map fun n : Nat => (n : Int)))), (11, .ref 3 1 0), (10, .ref 2 1 0), (7, .int .i64 0), (6, .emp true), (3, .ref 0 1 0)],
   [⟨t0, 2, 1, [.int .i64 k, .int .i64 x], 0⟩, ⟨t1, 16, 1, ks .i32 t, 0⟩, ⟨t2, 24, 1, QfG (fun j => if j < k then Zm k j (v.take i) else QR), 0⟩, bO t3 4 (Qg8 k v i), bY tb (Qg8 k v i) (QtZ k v i)]⟩)
  (fun i => i ≤ v.length) (fun i => v.length - i) 0 ?_ (by omega) ?_
 ·simp only [z2, hS0]
  rw [Qii, Qig]
  refine Le.trans (Le.virtF 3 tb 1 (by decide) rfl rfl) ?_
  exact Le.slots (by simp [Am.look])
 intro i hi
 by_cases hlt : i < v.length
 ·obtain ⟨r, hr⟩ : ∃ r, r = i % k := ⟨_, rfl⟩
  have hrc : r < k := by rw [hr]; exact Nat.mod_lt _ (by omega)
  have q1 : (i : Int) % k = (r : Int) := by rw [hr]; simp [Int.natCast_emod]
  have q1' : ((i : Int)).tmod (k : Int) = (r : Int) := by rw [Int.tmod_eq_emod_of_nonneg (by omega), q1]
  have hc0 : (k : Int) ≠ 0 := by omega
  obtain ⟨b1, b2, b3⟩ := hfb i
  obtain ⟨_, b5, _⟩ := hfb (i + 1)
  have hd := Ql3 (c := k) (r := r) (hv.take i)
  have hvi := hv.getD i
  have hW' := hW 0 0 (v.getD i 0) (Zm k r (v.take i)) (by decide) hvi hd (by omega)
  rw [Nat.zero_add, Nat.pow_zero, Nat.one_mul, Nat.zero_add] at hW'
  have hcl := QlZ (d := Zm k r (v.take i)) hvi
  have hcn := QlY (v := v.getD i 0) hd
  obtain ⟨rest, hg⟩ := Qyi (fun j => if j < k then Zm k j (v.take i) else QR) (j := r) (by omega)
  simp only [hrc, if_true] at hg
  have hset := Qr2 (fun j => if j < k then Zm k j (v.take i) else QR) (j := r) (by omega) (Jn (Zm k r (v.take i)) (v.getD i 0))
  have hup := Qx4 c1 hlt
  rw [← hr] at hup
  rw [hup] at hset
  have hln := QfF (fun j => if j < k then Zm k j (v.take i) else QR)
  have hkat := Qcf (K := .u32) (l := v.map fun n : Nat => (n : Int)) (i := i) (by simpa using hlt)
  have hgd : (v.map fun n : Nat => (n : Int)).getD i 0 = ((v.getD i 0 : Nat) : Int) := by simp [List.getD_eq_getElem?_getD, List.getElem?_eq_getElem hlt]
  rw [hgd] at hkat
  have hsN := Qij k v i
  have hsV := Qih k v i
  rw [← hr] at hsN hsV
  have hb6 : Qg8 k v i + QeQ (Zm k r (v.take i)) (v.getD i 0) ≤ 400000 := by omega
  have hD6 : isDL (QfG (fun j => if j < k then Zm k j (v.take (i + 1)) else QR)) = true := QeB (Qwj _)
  generalize hF1 : QfG (fun j => if j < k then Zm k j (v.take (i + 1)) else QR) = F' at *
  generalize QfG (fun j => if j < k then Zm k j (v.take i) else QR) = F at *
  generalize hN0 : Qg8 k v i = N at *
  generalize hV0 : QtZ k v i = V at *
  generalize hN1 : Qg8 k v (i + 1) = N1 at *
  generalize hV1 : QtZ k v (i + 1) = V1 at *
  generalize hn0 : QeQ (Zm k r (v.take i)) (v.getD i 0) = n at *
  generalize hC0 : QjR (Zm k r (v.take i)) (v.getD i 0) = C at *
  generalize Jn (Zm k r (v.take i)) (v.getD i 0) = d' at *
  generalize Zm k r (v.take i) = d at *
  generalize v.getD i 0 = vi at *
  obtain ⟨d0, d1, d2, d3⟩ := d
  obtain ⟨m0, m1, m2, m3⟩ := d'
  simp only [dlA, dlC, bA] at hW'
  simp only at hg hset
  have hfr : QF (fun o => ([] : List Nat).contains o) [⟨t0, 2, 1, [.int .i64 k, .int .i64 x], 0⟩, ⟨t1, 16, 1, ks .i32 t, 0⟩, ⟨t2, 24, 1, F, 0⟩, ⟨t3, 2, 1, [.own 4 (nB N), .int .i64 N], 0⟩, bY tb N V] (0 + 1) [.agg [.emp true, .int .i64 0], .agg [.int .i64 d0, .int .i64 d1, .int .u64 d2, .int .u64 d3], .int .u32 vi] =
   some [.agg [.list (nB 0) (u8 (leB 0 (nB 0))), .int .i64 ((0 : Nat) : Int)], .agg [.int .i64 d0, .int .i64 d1, .int .u64 d2, .int .u64 d3], .int .u32 vi] := by
   simp [QF, Qu, frzL, Qs, nB, leB, u8]
  have pt : ∀ (Q : Exit → St → Prop) os fr dst, wpQ P os Q ⟨Z7 fr dst (.tup []), [⟨t0, 2, 1, [.int .i64 k, .int .i64 x], 0⟩, ⟨t1, 16, 1, ks .i32 t, 0⟩, ⟨t2, 24, 1, F', 0⟩, bO t3 4 N1, bY tb N1 V1, ⟨t3, 2, 1, [.list (nB n) (u8 (leB C (nB n))), .int .i64 n], 0⟩, ⟨t4, 4, 1, [.int .i64 m0, .int .i64 m1, .int .u64 m2, .int .u64 m3], 0⟩]⟩ →
    Qb P fP [.ref 3 1 0, .agg [.list (nB n) (u8 (leB C (nB n))), .int .i64 n]] [⟨t0, 2, 1, [.int .i64 k, .int .i64 x], 0⟩, ⟨t1, 16, 1, ks .i32 t, 0⟩, ⟨t2, 24, 1, F', 0⟩, ⟨t3, 2, 1, [.own 4 (nB N), .int .i64 N], 0⟩, bY tb N V, ⟨t3, 2, 1, [.list (nB n) (u8 (leB C (nB n))), .int .i64 n], 0⟩, ⟨t4, 4, 1, [.int .i64 m0, .int .i64 m1, .int .u64 m2, .int .u64 m3], 0⟩] os Q fr dst := fun Q os fr dst h =>
   QqS bP (ob := [⟨t0, 2, 1, [.int .i64 k, .int .i64 x], 0⟩, ⟨t1, 16, 1, ks .i32 t, 0⟩, ⟨t2, 24, 1, F', 0⟩, ⟨t3, 2, 1, [.own 4 (nB N), .int .i64 N], 0⟩, bY tb N V, ⟨t3, 2, 1, [.list (nB n) (u8 (leB C (nB n))), .int .i64 n], 0⟩, ⟨t4, 4, 1, [.int .i64 m0, .int .i64 m1, .int .u64 m2, .int .u64 m3], 0⟩]) (t := t3) (p := 3) (o := 4) (N := N) (V := V) (C := C) (n := n) rfl rfl (by decide) b1 hcl (by omega) (by omega)
    (Low.cons (by simp [lowL, Xu]) (Low.cons (lowL_D _ (QW _ _)) (Low.cons (lowL_D _ hD6) (Low.cons (by simp [lowL, Xu]) (Low.cons (lowL_D _ (ZH _ _)) (Low.cons (by simp [lowL, Xu, lowL_D _ (ZH _ _)]) (Low.cons (by simp [lowL, Xu]) Low.nil)))))))
    (by rw [hsN, hsV] at h; exact h)
  simp (disch := omega) only [rq, simprocAttr, bO, hkat, hkv, q1, q1', hc0, hg, hln]
  refine Qb.still 0 [] hW' hfr ?_
  simp (disch := omega) only [rq, simprocAttr, QA, hkat, hkv, q1, q1', hc0, hg, hln, hset]
  refine pt _ _ _ _ ?_
  simp (disch := omega) only [rq, simprocAttr]
  refine ⟨i + 1, by omega, by omega, ?_⟩
  simp only [hN1, hV1, hF1]
  refine Le.low (ob := [⟨t0, 2, 1, [.int .i64 k, .int .i64 x], 0⟩, ⟨t1, 16, 1, ks .i32 t, 0⟩, ⟨t2, 24, 1, F', 0⟩, bO t3 4 N1, bY tb N1 V1]) (J := [_, _]) (Nat.zero_le _) ?_ (by simp [Am.look, Xu, lowL_D _ (QW _ _)])
  exact Low.cons (by simp [lowL, Xu]) (Low.cons (lowL_D _ (QW _ _)) (Low.cons (lowL_D _ hD6) (Low.cons (by simp [bO, lowL, Xu]) (Low.cons (lowL_D _ (ZH _ _)) Low.nil))))
 ·obtain rfl : i = v.length := by omega
  obtain ⟨_, b5, b6⟩ := hfb v.length
  have hfl := QhB k v
  have hle : nB (Qg8 k v v.length) ≤ 40500 := by unfold nB; omega
  have hC' := hC (Qd7 k v)
  rw [if_neg (by omega), ← Qcc] at hC'
  have hsm := Qu3 (Qd7 k v)
  have hB' := hB (Qcc (Qd7 k v)) 4 (by omega) (by omega) hsm
  have hK' := hK [Qd7 k v, leB (Qcc (Qd7 k v)) 4] (by simp) (by simp [Qd]) (by simp [Qd]; omega)
  have hfe : Qd7 k v = leB (QtZ k v v.length) (nB (Qg8 k v v.length)) := rfl
  simp only [Qse, bs, List.map_cons, List.map_nil, List.length_cons, List.length_nil, List.flatten_cons, List.flatten_nil, List.append_nil, List.length_append, hfl, Qd] at hC' hB' hK' ⊢
  have tfl : isTL (u8 (Qd7 k v)) = true := Qv _
  have tfs : isTL (u8 (leB (Qcc (Qd7 k v)) 4)) = true := Qv _
  have tfa : isTL (u8 (Qd7 k v ++ leB (Qcc (Qd7 k v)) 4)) = true := Qv _
  have hul : (u8 (Qd7 k v)).length = nB (Qg8 k v v.length) := by rw [Qy, hfl]
  generalize QfG (fun j => if j < k then Zm k j (v.take v.length) else QR) = F at *
  simp only [bO, bY]
  rw [← hfe]
  generalize Qd7 k v ++ leB (Qcc (Qd7 k v)) 4 = R at *
  generalize leB (Qcc (Qd7 k v)) 4 = s4 at *
  generalize Qcc (Qd7 k v) = sm at *
  generalize Qd7 k v = fb at *
  generalize nB (Qg8 k v v.length) = nn at *
  simp (disch := omega) only [rq, simprocAttr]
  refine Qb.still 1 [4] hC' (by simp [QF, Qu, frzL, Qs, frzL_T _ tfl]) ?_
  simp (disch := omega) only [rq, simprocAttr, QA]
  refine Qb.vc hB' ?_
  simp (disch := omega) only [rq, simprocAttr]
  refine Qb.still 2 [5, 4] hK' (by simp [QF, Qu, frzL, Qs, frzL_T _ tfl, frzL_T _ tfs]) ?_
  simp (disch := omega) only [rq, simprocAttr, QA]
  simp [QF, Qu, frzL, Qs, frzL_T _ tfa]
theorem QAI (t N V : Nat) : bY t N V ≠ ph := fun e => by have := congrArg Ob.sz e; simp [ph, bY] at this
theorem QB2 (ob J : List Ob) (o : Nat) (x y : Ob) (h : o < ob.length) : (ob.set o x ++ J).set o y = ob.set o y ++ J := by rw [List.set_append_left _ _ (by simpa using h), List.set_set]
theorem QB1 (ob J : List Ob) (o : Nat) (y : Ob) (h : o < ob.length) : (ob ++ J).set o y = ob.set o y ++ J := List.set_append_left _ _ h
theorem QCb (ob J : List Ob) (o : Nat) (x : Ob) (h : o < ob.length) : (ob.set o x ++ J)[o]? = some x := by rw [List.getElem?_append_left (by simpa using h)]; simp [h]
theorem QsI (ob J : List Ob) (o : Nat) (x : Ob) (k : Nat) : (ob.set o x ++ J)[ob.length + k]? = J[k]? := by rw [List.getElem?_append_right (by simp), List.length_set, Nat.add_sub_cancel_left]
theorem Qgw (ob J : List Ob) (o : Nat) (x : Ob) : (ob.set o x ++ J)[ob.length]? = J[0]? := QsI ob J o x 0
theorem Qr5 (ob J : List Ob) (o : Nat) (x : Ob) (k : Nat) (y : Ob) : (ob.set o x ++ J).set (ob.length + k) y = ob.set o x ++ J.set k y := by rw [List.set_append_right _ _ (by simp), List.length_set, Nat.add_sub_cancel_left]
theorem Qgi (ob J : List Ob) (o : Nat) (x : Ob) (y : Ob) : (ob.set o x ++ J).set ob.length y = ob.set o x ++ J.set 0 y := Qr5 ob J o x 0 y
theorem Qrz {P : Prg} {f t0 t1 : Nat} (bd : Qf P f 43 [.cell 4 t0] (Qp t0 t1)) (ht : Q6 P t0 = some (some 2)) {ob : List Ob} {o N V b : Nat} (ho : ob[o]? = some (bY t1 N V)) (hV : V < 2 ^ N) (hb : b < 2) (hN : N ≤ 400000) {K : AV → List Ob → Prop}
  (hK : K (.agg [.own o (nB (N + 1)), .int .i64 ((N + 1 : Nat) : Int)]) (ob.set o (bY t1 (N + 1) (V + 2 ^ N * b)))) : ACall P f [.agg [.own o (nB N), .int .i64 N], .int .i64 b] ob K :=
 ACall.withLow bd.ent fun hl => QvM bd ht ho hV hb hN hl hK
set_option maxHeartbeats 1000000 in
theorem Qdi {P : Prg} {f fA t0 ta tb : Nat} (bd : Qf P f 21 [.cell 6 t0] (QT fA t0)) (bA' : Qf P fA 43 [.cell 4 ta] (Qp ta tb)) (ht : Q6 P t0 = some (some 2)) (hta : Q6 P ta = some (some 2)) {ob : List Ob} {o N V v n : Nat} (ho : ob[o]? = some (bY tb N V)) (hV : V < 2 ^ N) (hv : v < 2 ^ n) (hn : n ≤ 64) (hN : N + n ≤ 400000) {K : AV → List Ob → Prop}
  (hK : K (.agg [.own o (nB (N + n)), .int .i64 ((N + n : Nat) : Int)]) (ob.set o (bY tb (N + n) (V + 2 ^ N * v)))) : ACall P f [.agg [.own o (nB N), .int .i64 N], .int .u64 v, .int .i64 n] ob K := by
 have hol : o < ob.length := (List.getElem?_eq_some_iff.1 ho).1
 refine ACall.withLow bd.ent fun hl => ACall.low (ACall.of_body bd (by simp) ?_)
 simp (disch := omega) only [rq, simprocAttr, QT, List.append_assoc, List.cons_append, List.nil_append]
 refine Qx.by (ι := Nat) (fun j => ⟨[(7, .int .i64 j), (6, .ref (ob.length + 1) 1 0), (3, .ref ob.length 1 0), (2, .int .i64 n), (1, .int .u64 ((v / 2 ^ j : Nat) : Int))],
   ob.set o (bY tb (N + j) (V + 2 ^ N * (v % 2 ^ j))) ++ [⟨t0, 2, 1, [.own o (nB (N + j)), .int .i64 ((N + j : Nat) : Int)], 0⟩, ⟨t0, 2, 1, [.emp true, .int .i64 0], 0⟩]⟩) (fun j => j ≤ n) (fun j => n - j) 0 ?_ (by omega) ?_
 ·have : ob.set o (bY tb (N + 0) (V + 2 ^ N * (v % 2 ^ 0))) = ob := by
   rw [Nat.add_zero, Nat.pow_zero, Nat.mod_one, Nat.mul_zero, Nat.add_zero]
   exact Qcr ho
  rw [this]
  exact Le.slots (by simp [Am.look])
 intro j hj
 by_cases hlt : j < n
 ·obtain ⟨M, hM⟩ : ∃ M, M = N + j := ⟨_, rfl⟩
  have hW : V + 2 ^ N * (v % 2 ^ j) < 2 ^ M := by
   rw [hM]
   exact Z8 hV (Nat.mod_lt _ (Nat.pow_pos (by omega)))
  have hstep := QBL (V := V) (N := N) (v := v) (j := j) (r := 1)
  rw [← hM, Nat.pow_one] at hstep
  have hd : v / 2 ^ (j + 1) = v / 2 ^ j / 2 := by rw [Nat.pow_succ, Nat.div_div_eq_div_mul]
  have hb : v / 2 ^ j % 2 < 2 := Nat.mod_lt _ (by decide)
  have hvj : v / 2 ^ j < 18446744073709551616 := by
   have h1 : v / 2 ^ j ≤ v := Nat.div_le_self _ _
   have h2 : 2 ^ n ≤ 2 ^ 64 := Nat.pow_le_pow_right (by omega) hn
   omega
  have hMr : N + (j + 1) = M + 1 := by omega
  have hMi : (N : Int) + ((j : Int) + 1) = (M : Int) + 1 := by omega
  rw [← hM]
  generalize V + 2 ^ N * (v % 2 ^ j) = W at *
  generalize hWW : V + 2 ^ N * (v % 2 ^ (j + 1)) = W' at *
  generalize hx1 : v / 2 ^ (j + 1) = x1 at *
  generalize v / 2 ^ j = x at *
  have q1 : ((x : Int)).tmod 2 = ((x % 2 : Nat) : Int) := by rw [Int.tmod_eq_emod_of_nonneg (by omega)]; omega
  have q2 : ((x : Int)).tdiv 2 = ((x / 2 : Nat) : Int) := by rw [Int.tdiv_eq_ediv_of_nonneg (by omega)]; omega
  have ad : ∀ (K : AV → List Ob → Prop), K (.agg [.own o (nB (M + 1)), .int .i64 ((M + 1 : Nat) : Int)]) (ob.set o (bY tb (M + 1) W') ++ [⟨t0, 2, 1, [.own o (nB M), .int .i64 (M : Int)], 0⟩, ⟨t0, 2, 1, [.emp true, .int .i64 0], 0⟩]) →
    ACall P fA [.agg [.own o (nB M), .int .i64 M], .int .i64 ((x % 2 : Nat) : Int)] (ob.set o (bY tb M W) ++ [⟨t0, 2, 1, [.own o (nB M), .int .i64 (M : Int)], 0⟩, ⟨t0, 2, 1, [.emp true, .int .i64 0], 0⟩]) K := fun K h => by
   refine Qrz bA' hta (N := M) (V := W) (b := x % 2) (QCb _ _ _ _ hol) hW hb (by omega) ?_
   rw [QB2 _ _ _ _ _ hol, ← hstep]
   exact h
  simp (disch := omega) only [rq, simprocAttr, QsI, Qgw, Qr5, Qgi, q1, q2]
  refine ad _ ?_
  simp (disch := omega) only [rq, simprocAttr, QsI, Qgw, Qr5, Qgi, q1, q2]
  refine ⟨j + 1, by omega, by omega, ?_⟩
  simp only [hWW, hMr, hx1, hd]
  simp only [Int.natCast_add, Int.cast_ofNat_Int, hMi]
  exact Le.slots (by simp [Am.look])
 ·obtain rfl : j = n := by omega
  rw [Nat.mod_eq_of_lt hv]
  simp (disch := omega) only [rq, simprocAttr, QsI, Qgw, Qr5, Qgi, QD, ht, Qz]
  refine ⟨ob.set o (bY tb (N + j) (V + 2 ^ N * v)), _, rfl, by simp, ?_, by simp [Xu, lowL, hol], hK⟩
  rw [List.length_set]
  exact hl.set (lowL_D _ (ZH _ _))
theorem Qog {P : Prg} {f fA t0 ta tb : Nat} (bd : Qf P f 18 [.cell 4 t0] (Zp fA t0)) (bA' : Qf P fA 43 [.cell 4 ta] (Qp ta tb)) (ht : Q6 P t0 = some (some 2)) (hta : Q6 P ta = some (some 2)) {ob : List Ob} {o N V n : Nat} (ho : ob[o]? = some (bY tb N V)) (hV : V < 2 ^ N) (hn : n ≤ 48) (hN : N + n ≤ 300000) {K : AV → List Ob → Prop}
  (hK : K (.agg [.own o (nB (N + uN n)), .int .i64 ((N + uN n : Nat) : Int)]) (ob.set o (bY tb (N + uN n) (V + 2 ^ N * (2 ^ n - 1))))) : ACall P f [.agg [.own o (nB N), .int .i64 N], .int .i64 n] ob K := by
 have hol : o < ob.length := (List.getElem?_eq_some_iff.1 ho).1
 refine ACall.withLow bd.ent fun hl => ACall.low (ACall.of_body bd (by simp) ?_)
 have add1 : ∀ (M W b : Nat) (K : AV → List Ob → Prop), W < 2 ^ M → b < 2 → M ≤ 400000 → K (.agg [.own o (nB (M + 1)), .int .i64 ((M + 1 : Nat) : Int)]) (ob.set o (bY tb (M + 1) (W + 2 ^ M * b)) ++ [⟨t0, 2, 1, [.own o (nB M), .int .i64 (M : Int)], 0⟩, ⟨t0, 2, 1, [.emp true, .int .i64 0], 0⟩]) →
   ACall P fA [.agg [.own o (nB M), .int .i64 M], .int .i64 (b : Int)] (ob.set o (bY tb M W) ++ [⟨t0, 2, 1, [.own o (nB M), .int .i64 (M : Int)], 0⟩, ⟨t0, 2, 1, [.emp true, .int .i64 0], 0⟩]) K := fun M W b K hW hb hM h => by
  refine Qrz bA' hta (N := M) (V := W) (b := b) (QCb _ _ _ _ hol) hW hb hM ?_
  rw [QB2 _ _ _ _ _ hol]
  exact h
 simp (disch := omega) only [rq, simprocAttr, Zp, List.append_assoc, List.cons_append, List.nil_append]
 refine Qx.by (ι := Nat) (fun j => ⟨[(5, .int .i64 j), (4, .ref (ob.length + 1) 1 0), (2, .ref ob.length 1 0), (1, .int .i64 n)],
   ob.set o (bY tb (N + j) (V + 2 ^ N * (2 ^ j - 1))) ++ [⟨t0, 2, 1, [.own o (nB (N + j)), .int .i64 ((N + j : Nat) : Int)], 0⟩, ⟨t0, 2, 1, [.emp true, .int .i64 0], 0⟩]⟩) (fun j => j ≤ n) (fun j => n - j) 0 ?_ (by omega) ?_
 ·have : ob.set o (bY tb (N + 0) (V + 2 ^ N * (2 ^ 0 - 1))) = ob := by
   rw [Nat.add_zero, Nat.pow_zero, Nat.sub_self, Nat.mul_zero, Nat.add_zero]
   exact Qcr ho
  rw [this]
  exact Le.slots (by simp [Am.look])
 intro j hj
 obtain ⟨M, hM⟩ : ∃ M, M = N + j := ⟨_, rfl⟩
 have hpj : 0 < 2 ^ j := Nat.pow_pos (by omega)
 have hW : V + 2 ^ N * (2 ^ j - 1) < 2 ^ M := by
  rw [hM]
  exact Z8 hV (by omega)
 by_cases hlt : j < n
 ·have hstep : V + 2 ^ N * (2 ^ j - 1) + 2 ^ M * 1 = V + 2 ^ N * (2 ^ (j + 1) - 1) := by
   rw [hM, Nat.pow_add, Nat.mul_one, Nat.add_assoc, ← Nat.mul_add, Nat.pow_succ]
   congr 2
   omega
  have hMr : N + (j + 1) = M + 1 := by omega
  have hMi : (N : Int) + ((j : Int) + 1) = (M : Int) + 1 := by omega
  rw [← hM]
  have ad := fun K => add1 M (V + 2 ^ N * (2 ^ j - 1)) 1 K hW (by omega) (by omega)
  rw [hstep] at ad
  generalize V + 2 ^ N * (2 ^ j - 1) = W at *
  generalize hWW : V + 2 ^ N * (2 ^ (j + 1) - 1) = W' at *
  simp (disch := omega) only [rq, simprocAttr, QsI, Qgw, Qr5, Qgi]
  refine ad _ ?_
  simp (disch := omega) only [rq, simprocAttr, QsI, Qgw, Qr5, Qgi]
  refine ⟨j + 1, by omega, by omega, ?_⟩
  simp only [hWW, hMr]
  simp only [Int.natCast_add, Int.cast_ofNat_Int, hMi]
  exact Le.slots (by simp [Am.look])
 ·obtain rfl : j = n := by omega
  have fin : ∀ J, ∃ ob1 J', ob.set o (bY tb (N + uN j) (V + 2 ^ N * (2 ^ j - 1))) ++ J = ob1 ++ J' ∧ ob.length ≤ ob1.length ∧ Low ob1.length ob1 ∧ Xu ob1.length (.agg [.own o (nB (N + uN j)), .int .i64 ((N + uN j : Nat) : Int)]) = true ∧ K (.agg [.own o (nB (N + uN j)), .int .i64 ((N + uN j : Nat) : Int)]) ob1 := by
   intro J
   refine ⟨ob.set o (bY tb (N + uN j) (V + 2 ^ N * (2 ^ j - 1))), J, rfl, by simp, ?_, by simp [Xu, lowL, hol], hK⟩
   rw [List.length_set]
   exact hl.set (lowL_D _ (ZH _ _))
  by_cases h48 : j < 48
  ·have hu : N + uN j = M + 1 := by unfold uN; omega
   have ad := fun K => add1 M (V + 2 ^ N * (2 ^ j - 1)) 0 K hW (by omega) (by omega)
   rw [hu] at fin
   rw [← hM]
   rw [Nat.mul_zero, Nat.add_zero] at ad
   have ad' : ∀ (K : AV → List Ob → Prop), K (.agg [.own o (nB (M + 1)), .int .i64 ((M + 1 : Nat) : Int)]) (ob.set o (bY tb (M + 1) (V + 2 ^ N * (2 ^ j - 1))) ++ [⟨t0, 2, 1, [.own o (nB M), .int .i64 (M : Int)], 0⟩, ⟨t0, 2, 1, [.emp true, .int .i64 0], 0⟩]) →
    ACall P fA [.agg [.own o (nB M), .int .i64 M], .int .i64 0] (ob.set o (bY tb M (V + 2 ^ N * (2 ^ j - 1))) ++ [⟨t0, 2, 1, [.own o (nB M), .int .i64 (M : Int)], 0⟩, ⟨t0, 2, 1, [.emp true, .int .i64 0], 0⟩]) K := ad
   generalize V + 2 ^ N * (2 ^ j - 1) = W at *
   simp only [Int.natCast_add, Int.cast_ofNat_Int] at fin
   simp (disch := omega) only [rq, simprocAttr, QsI, Qgw, Qr5, Qgi]
   refine ad' _ ?_
   simp (disch := omega) only [rq, simprocAttr, QsI, Qgw, Qr5, Qgi, QD, ht, Qz]
   exact fin _
  ·obtain rfl : j = 48 := by omega
   have hu : N + uN 48 = M := by rw [hM]; rfl
   rw [hu] at fin
   rw [← hM]
   generalize V + 2 ^ N * (2 ^ 48 - 1) = W at *
   simp (disch := omega) only [rq, simprocAttr, QsI, Qgw, Qr5, Qgi, QD, ht, Qz]
   exact fin _
theorem QvK {P : Prg} {f fQ fU fN fP fA6 t0 ta tb t6 tn fAn : Nat} (bd : Qf P f 28 [.cell 6 t0] (Zo fQ fU fN fP t0)) (hQ : QmM P fQ) (b6 : Qf P fU 18 [.cell 4 t6] (Zp fA6 t6)) (bN : Qf P fN 21 [.cell 6 tn] (QT fAn tn)) (hP : QdF P fP)
  (bA1 : Qf P fA6 43 [.cell 4 ta] (Qp ta tb)) (bA2 : Qf P fAn 43 [.cell 4 ta] (Qp ta tb)) (ht : Q6 P t0 = some (some 2)) (ht6 : Q6 P t6 = some (some 2)) (htn : Q6 P tn = some (some 2)) (hta : Q6 P ta = some (some 2))
  {ob : List Ob} {o N V v k : Nat} (ho : ob[o]? = some (bY tb N V)) (hV : V < 2 ^ N) (hv : v < 4294967296) (hk : k ≤ 24) (hN : N ≤ 1000) {K : AV → List Ob → Prop}
  (hK : K (.agg [.own o (nB (N + Qd5 v k)), .int .i64 ((N + Qd5 v k : Nat) : Int)]) (ob.set o (bY tb (N + Qd5 v k) (V + 2 ^ N * Qhi v k)))) : ACall P f [.agg [.own o (nB N), .int .i64 N], .int .u32 v, .int .i64 k] ob K := by
 have hol : o < ob.length := (List.getElem?_eq_some_iff.1 ho).1
 refine ACall.withLow bd.ent fun hl => ACall.low (ACall.of_body bd (by simp) ?_)
 have hQ' := hQ v k hk hv
 have hP' := hP k (by omega)
 obtain ⟨q1, _⟩ := p24 hk
 have hpk : 0 < 2 ^ k := Nat.pow_pos (by omega)
 have hqv : v / 2 ^ k ≤ v := Nat.div_le_self _ _
 have hrv : v % 2 ^ k < 2 ^ k := Nat.mod_lt _ hpk
 have sA := fun J x y => QB2 ob J o x y hol
 have sA0 := fun J y => QB1 ob J o y hol
 have gA := fun J x => QCb ob J o x hol
 have g0 : ∀ J, (ob ++ J)[o]? = some (bY tb N V) := fun J => by rw [List.getElem?_append_left hol]; exact ho
 unfold Qd5 Qhi at hK
 by_cases hq : 48 ≤ v / 2 ^ k
 ·rw [if_pos hq, if_pos hq] at hK
  rw [Nat.min_eq_left hq] at hQ'
  have hQ'' : VC P fQ [.int .u32 v, .int .i64 k] (.int .i64 48) := hQ'
  have hV1 : V + 2 ^ N * (2 ^ 48 - 1) < 2 ^ (N + 48) := Z8 hV (by decide)
  have hW : V + 2 ^ N * (2 ^ 48 - 1) + 2 ^ (N + 48) * v = V + 2 ^ N * (2 ^ 48 - 1 + 2 ^ 48 * v) := by rw [Nat.pow_add, Nat.mul_add, Nat.mul_assoc, Nat.add_assoc]
  have a6 : ∀ (K : AV → List Ob → Prop) J, K (.agg [.own o (nB (N + 48)), .int .i64 ((N + 48 : Nat) : Int)]) (ob.set o (bY tb (N + 48) (V + 2 ^ N * (2 ^ 48 - 1))) ++ J) → ACall P fU [.agg [.own o (nB N), .int .i64 N], .int .i64 48] (ob ++ J) K := fun K J h => by
   have := Qog b6 bA1 ht6 hta (n := 48) (g0 J) hV (by omega) (by omega) (K := K)
   rw [sA0] at this
   exact this h
  have aN : ∀ (K : AV → List Ob → Prop) J, K (.agg [.own o (nB (N + 80)), .int .i64 ((N + 80 : Nat) : Int)]) (ob.set o (bY tb (N + 80) (V + 2 ^ N * (2 ^ 48 - 1 + 2 ^ 48 * v))) ++ J) → ACall P fN [.agg [.own o (nB (N + 48)), .int .i64 ((N + 48 : Nat) : Int)], .int .u64 v, .int .i64 32] (ob.set o (bY tb (N + 48) (V + 2 ^ N * (2 ^ 48 - 1))) ++ J) K := fun K J h => by
   have := Qdi bN bA2 htn hta (n := 32) (v := v) (gA J (bY tb (N + 48) (V + 2 ^ N * (2 ^ 48 - 1)))) hV1 hv (by omega) (by omega) (K := K)
   rw [sA, hW, show N + 48 + 32 = N + 80 by omega] at this
   exact this h
  have fin : ∀ J, ∃ ob1 J', ob.set o (bY tb (N + 80) (V + 2 ^ N * (2 ^ 48 - 1 + 2 ^ 48 * v))) ++ J = ob1 ++ J' ∧ ob.length ≤ ob1.length ∧ Low ob1.length ob1 ∧ Xu ob1.length (.agg [.own o (nB (N + 80)), .int .i64 ((N + 80 : Nat) : Int)]) = true ∧ K (.agg [.own o (nB (N + 80)), .int .i64 ((N + 80 : Nat) : Int)]) ob1 := by
   intro J
   refine ⟨_, J, rfl, by simp, ?_, by simp [Xu, lowL, hol], hK⟩
   rw [List.length_set]
   exact hl.set (lowL_D _ (ZH _ _))
  generalize V + 2 ^ N * (2 ^ 48 - 1 + 2 ^ 48 * v) = W at *
  generalize V + 2 ^ N * (2 ^ 48 - 1) = W1 at *
  simp only [Int.natCast_add, Int.cast_ofNat_Int] at a6 aN fin
  simp (disch := omega) only [rq, simprocAttr, Zo, List.append_assoc, List.cons_append, List.nil_append]
  refine Qb.vc hQ'' ?_
  simp (disch := omega) only [rq, simprocAttr, QBo, QtX]
  refine a6 _ _ ?_
  simp (disch := omega) only [rq, simprocAttr, QsI, Qgw, Qr5, Qgi]
  refine aN _ _ ?_
  simp (disch := omega) only [rq, simprocAttr, QsI, Qgw, Qr5, Qgi, QD, ht, Qz]
  exact fin _
 ·rw [if_neg hq, if_neg hq] at hK
  rw [Nat.min_eq_right (by omega)] at hQ'
  have hu : uN (v / 2 ^ k) = v / 2 ^ k + 1 := by unfold uN; omega
  have hlt : 2 ^ (v / 2 ^ k) - 1 < 2 ^ (v / 2 ^ k + 1) := by
   have : 0 < 2 ^ (v / 2 ^ k) := Nat.pow_pos (by omega)
   rw [Nat.pow_succ]; omega
  have hV1 : V + 2 ^ N * (2 ^ (v / 2 ^ k) - 1) < 2 ^ (N + (v / 2 ^ k + 1)) := Z8 hV hlt
  have hW : V + 2 ^ N * (2 ^ (v / 2 ^ k) - 1) + 2 ^ (N + (v / 2 ^ k + 1)) * (v % 2 ^ k) = V + 2 ^ N * (2 ^ (v / 2 ^ k) - 1 + 2 ^ (v / 2 ^ k + 1) * (v % 2 ^ k)) := by rw [Nat.pow_add 2 N, Nat.mul_add, Nat.mul_assoc, Nat.add_assoc]
  have a6 : ∀ (K : AV → List Ob → Prop) J, K (.agg [.own o (nB (N + (v / 2 ^ k + 1))), .int .i64 ((N + (v / 2 ^ k + 1) : Nat) : Int)]) (ob.set o (bY tb (N + (v / 2 ^ k + 1)) (V + 2 ^ N * (2 ^ (v / 2 ^ k) - 1))) ++ J) → ACall P fU [.agg [.own o (nB N), .int .i64 N], .int .i64 ((v / 2 ^ k : Nat) : Int)] (ob ++ J) K := fun K J h => by
   have := Qog b6 bA1 ht6 hta (n := v / 2 ^ k) (g0 J) hV (by omega) (by omega) (K := K)
   rw [sA0, hu] at this
   exact this h
  have aN : ∀ (K : AV → List Ob → Prop) J, K (.agg [.own o (nB (N + (v / 2 ^ k + 1 + k))), .int .i64 ((N + (v / 2 ^ k + 1 + k) : Nat) : Int)]) ((ob.set o (bY tb (N + (v / 2 ^ k + 1)) (V + 2 ^ N * (2 ^ (v / 2 ^ k) - 1))) ++ J).set o (bY tb (N + (v / 2 ^ k + 1 + k)) (V + 2 ^ N * (2 ^ (v / 2 ^ k) - 1 + 2 ^ (v / 2 ^ k + 1) * (v % 2 ^ k))))) →
    ACall P fN [.agg [.own o (nB (N + (v / 2 ^ k + 1))), .int .i64 ((N + (v / 2 ^ k + 1) : Nat) : Int)], .int .u64 ((v % 2 ^ k : Nat) : Int), .int .i64 k] (ob.set o (bY tb (N + (v / 2 ^ k + 1)) (V + 2 ^ N * (2 ^ (v / 2 ^ k) - 1))) ++ J) K := fun K J h => by
   have := Qdi bN bA2 htn hta (n := k) (v := v % 2 ^ k) (gA J (bY tb (N + (v / 2 ^ k + 1)) (V + 2 ^ N * (2 ^ (v / 2 ^ k) - 1)))) hV1 hrv (by omega) (by omega) (K := K)
   rw [hW, show N + (v / 2 ^ k + 1) + k = N + (v / 2 ^ k + 1 + k) by omega] at this
   exact this h
  have fin : ∀ J, ∃ ob1 J', ob.set o (bY tb (N + (v / 2 ^ k + 1 + k)) (V + 2 ^ N * (2 ^ (v / 2 ^ k) - 1 + 2 ^ (v / 2 ^ k + 1) * (v % 2 ^ k)))) ++ J = ob1 ++ J' ∧ ob.length ≤ ob1.length ∧ Low ob1.length ob1 ∧ Xu ob1.length (.agg [.own o (nB (N + (v / 2 ^ k + 1 + k))), .int .i64 ((N + (v / 2 ^ k + 1 + k) : Nat) : Int)]) = true ∧ K (.agg [.own o (nB (N + (v / 2 ^ k + 1 + k))), .int .i64 ((N + (v / 2 ^ k + 1 + k) : Nat) : Int)]) ob1 := by
   intro J
   refine ⟨_, J, rfl, by simp, ?_, by simp [Xu, lowL, hol], hK⟩
   rw [List.length_set]
   exact hl.set (lowL_D _ (ZH _ _))
  have q2 : ((v : Int)).tmod ((2 ^ k : Nat) : Int) = ((v % 2 ^ k : Nat) : Int) := by rw [Int.tmod_eq_emod_of_nonneg (by omega), Int.natCast_emod]
  have q3 : (((2 ^ k : Nat) : Int)) ≠ 0 := by omega
  have q4 : (v : Int) % ((2 ^ k : Nat) : Int) = ((v % 2 ^ k : Nat) : Int) := by rw [Int.natCast_emod]
  generalize V + 2 ^ N * (2 ^ (v / 2 ^ k) - 1 + 2 ^ (v / 2 ^ k + 1) * (v % 2 ^ k)) = W at *
  generalize V + 2 ^ N * (2 ^ (v / 2 ^ k) - 1) = W1 at *
  generalize v / 2 ^ k = q at *
  generalize v % 2 ^ k = r at *
  generalize 2 ^ k = pk at *
  generalize N + (q + 1 + k) = M2 at *
  obtain ⟨M1, hM1⟩ : ∃ M1, M1 = N + (q + 1) := ⟨_, rfl⟩
  rw [← hM1] at a6 aN hV1
  have hne : bY tb M1 W1 ≠ ph := QAI _ _ _
  simp (disch := omega) only [rq, simprocAttr, Zo, List.append_assoc, List.cons_append, List.nil_append]
  refine Qb.vc hQ' ?_
  simp (disch := omega) only [rq, simprocAttr, QBo, QtX]
  refine a6 _ _ ?_
  simp (disch := omega) only [rq, simprocAttr, QsI, Qgw, Qr5, Qgi]
  refine QU.vc hP' ?_
  simp (disch := omega) only [rq, simprocAttr, QsI, Qgw, Qr5, Qgi, q2, q3, q4]
  refine callE.by (o := o) (gA _ _) hne (fun K hK => aN K _ hK) ?_
  simp (disch := omega) only [rq, simprocAttr, sA, QsI, Qgw, Qr5, Qgi, QD, ht, Qz]
  exact fin _
def Qxt (P : Prg) (f : Nat) : Prop := ∀ (d : Dl) (v : Nat) (z : Bool), okD d → v < 4294967296 → VC P f [.agg [.emp z, .int .i64 0], dlA d, .int .u32 v] (bA (QeQ d v) (QjR d v))
set_option maxHeartbeats 1000000 in
theorem QvJ {P : Prg} {f fL fA fN fF fR fQ fU fN2 fP fA6 fAn fAn2 t0 t1 ta tb t6 t7 tn : Nat} (bd : Qf P f 25 [.cell 6 t0] (Z2 fL fA fN fF fR t0 t1)) (hL : QsW P fL) (hF : QmO P fF) (bA0 : Qf P fA 43 [.cell 4 ta] (Qp ta tb)) (bN : Qf P fN 21 [.cell 6 tn] (QT fAn tn)) (bAn : Qf P fAn 43 [.cell 4 ta] (Qp ta tb))
  (bR : Qf P fR 28 [.cell 6 t7] (Zo fQ fU fN2 fP t7)) (hQ : QmM P fQ) (b6 : Qf P fU 18 [.cell 4 t6] (Zp fA6 t6)) (bN2 : Qf P fN2 21 [.cell 6 tn] (QT fAn2 tn)) (hP : QdF P fP)
  (bA1 : Qf P fA6 43 [.cell 4 ta] (Qp ta tb)) (bA2 : Qf P fAn2 43 [.cell 4 ta] (Qp ta tb)) (ht : Q6 P t0 = some (some 2)) (ht7 : Q6 P t7 = some (some 2)) (ht6 : Q6 P t6 = some (some 2)) (htn : Q6 P tn = some (some 2)) (hta : Q6 P ta = some (some 2)) : Qxt P f := by
 intro d v z hd hv
 refine VC.of_walk 1 (by simp [isDL, isD, QqH]) (QeC _ _) (ACall.pad (ACall.of_body bd (by simp) ?_))
 have hL' := hL d v hd hv
 have hF' := hF d v hd hv
 obtain ⟨k0, k1, s0, s1⟩ := d
 obtain ⟨h1, h2, h3, h4⟩ := hd
 simp only at h1 h2 h3 h4
 have one : ∀ b, b < 2 → ∀ ob', ob'[0]? = some ph2 → ACall P fA [.agg [.emp z, .int .i64 0], .int .i64 ((b : Nat) : Int)] ob' (fun r' ob'' => r' = .agg [.own 0 (nB 1), .int .i64 1] ∧ ob'' = ob'.set 0 (bY tb 1 b)) := by
  intro b hb ob' h
  refine ACall.virtP h tb 1 (by decide) ?_
  have hol := (List.getElem?_eq_some_iff.1 h).1
  refine Qrz bA0 hta (o := 0) (N := 0) (V := 0) (b := b) (by rw [List.getElem?_set_self hol]; rfl) (by decide) hb (by omega) ⟨rfl, ?_⟩
  rw [List.set_set, Nat.pow_zero, Nat.one_mul, Nat.zero_add, Nat.zero_add]
 unfold QeQ QjR
 simp only [dlA, dlC] at hL' hF' ⊢
 by_cases c : v < 2 ^ k0
 ·simp only [c, decide_true] at hL'
  simp only [c, if_true]
  have hV1 : (0 : Nat) < 2 ^ 1 := by decide
  have aN : ∀ (K : AV → List Ob → Prop) J, K (.agg [.own 0 (nB (1 + k0)), .int .i64 ((1 + k0 : Nat) : Int)]) ((bY tb 1 0 :: J).set 0 (bY tb (1 + k0) (2 * v))) → ACall P fN [.agg [.own 0 (nB 1), .int .i64 1], .int .u64 v, .int .i64 k0] (bY tb 1 0 :: J) K := fun K J h => by
   have := Qdi bN bAn htn hta (ob := bY tb 1 0 :: J) (o := 0) (N := 1) (V := 0) (v := v) (n := k0) rfl hV1 c (by omega) (by omega) (K := K)
   rw [Nat.pow_one, Nat.zero_add] at this
   exact this h
  have tl : isTL (u8 (leB (2 * v) (nB (1 + k0)))) = true := Qv _
  have o0 := one 0 (by decide)
  simp (disch := omega) only [rq, simprocAttr, Z2]
  refine Qb.vc hL' ?_
  simp (disch := omega) only [rq, simprocAttr]
  refine QU.at 0 (bY tb 1 0) bA0.ent o0 rfl Nat.one_ne_zero ?_
  simp (disch := omega) only [rq, simprocAttr]
  refine callE.by (o := 0) (x := bY tb 1 0) rfl (QAI _ _ _) (fun K hK => aN K _ hK) ?_
  simp (disch := omega) only [rq, simprocAttr, QD, ht, Qz]
  simp [QF, Qu, frzL, Qs, frzL_T _ tl, bY, bA]
 ·simp only [c, decide_false] at hL'
  simp only [c, if_false]
  have hF'' := hF' (by omega)
  have hl : v - 2 ^ k0 < 4294967296 := Nat.lt_of_le_of_lt (Nat.sub_le _ _) hv
  generalize v - 2 ^ k0 = lf at *
  have aR : ∀ (K : AV → List Ob → Prop) J, K (.agg [.own 0 (nB (1 + Qd5 lf k1)), .int .i64 ((1 + Qd5 lf k1 : Nat) : Int)]) ((bY tb 1 1 :: J).set 0 (bY tb (1 + Qd5 lf k1) (1 + 2 * Qhi lf k1))) → ACall P fR [.agg [.own 0 (nB 1), .int .i64 1], .int .u32 lf, .int .i64 k1] (bY tb 1 1 :: J) K := fun K J h => by
   have := QvK bR hQ b6 bN2 hP bA1 bA2 ht7 ht6 htn hta (ob := bY tb 1 1 :: J) (o := 0) (N := 1) (V := 1) (v := lf) (k := k1) rfl (by decide) hl h2 (by omega) (K := K)
   rw [Nat.pow_one] at this
   exact this h
  generalize Qd5 lf k1 = rn at *
  generalize 1 + 2 * Qhi lf k1 = W at *
  have tl : isTL (u8 (leB W (nB (1 + rn)))) = true := Qv _
  have o1 := one 1 (by decide)
  simp (disch := omega) only [rq, simprocAttr, Z2]
  refine Qb.vc hL' ?_
  simp (disch := omega) only [rq, simprocAttr]
  refine QU.at 0 (bY tb 1 1) bA0.ent o1 rfl Nat.one_ne_zero ?_
  simp (disch := omega) only [rq, simprocAttr]
  refine QU.vc hF'' ?_
  simp (disch := omega) only [rq, simprocAttr]
  refine callE.by (o := 0) (x := bY tb 1 1) rfl (QAI _ _ _) (fun K hK => aR K _ hK) ?_
  simp (disch := omega) only [rq, simprocAttr, QD, ht, Qz]
  simp [QF, Qu, frzL, Qs, frzL_T _ tl, bY, bA]
theorem QdT {c r : Nat} {v : List Nat} : ∀ i, i ≤ v.length → Zm c r (v.take i) = Qra c r v i
 | 0, _ => by rw [List.take_zero]; rfl
 | i + 1, h => by
  have ht : v.take (i + 1) = v.take i ++ [v.getD i 0] := by
   rw [List.take_succ_eq_append_getElem (by omega : i < v.length)]
   simp [List.getD_eq_getElem?_getD, List.getElem?_eq_getElem (by omega : i < v.length)]
  have hl : (v.take i).length = i := by simp; omega
  rw [ht, Qiv, hl, QgD, QdT i (by omega)]
theorem Qul {c i : Nat} {v : List Nat} (h : i < c) (hi : i ≤ v.length) : Zm c (i % c) (v.take i) = QR := by
 have hl : (v.take i).length = i := by simp; omega
 have h1 := QgE (c := c) (r := i % c) (i := 0) (v := v) i (fun t _ h2 => by rw [Nat.mod_eq_of_lt (by omega), Nat.mod_eq_of_lt h]; omega)
 rw [Nat.zero_add] at h1
 rw [QdT i hi, h1]
 rfl
theorem Qw1 {c i : Nat} {v : List Nat} (hc : 1 ≤ c) (h : c ≤ i) (hi : i ≤ v.length) : Zm c (i % c) (v.take i) = Jn (Zm c ((i - c) % c) (v.take (i - c))) (v.getD (i - c) 0) := by
 have hr : (i - c) % c = i % c := by
  conv => rhs; rw [show i = i - c + c by omega, Nat.add_mod_right]
 rw [QdT i hi, QdT (i - c) (by omega), hr]
 have h1 := QgE (c := c) (r := i % c) (i := i - c + 1) (v := v) (c - 1) (fun t h1 h2 => QBf hr (by omega) (by omega))
 rw [show i - c + 1 + (c - 1) = i by omega] at h1
 rw [h1, QgD, if_pos hr]
def stL (c : Nat) (v : List Nat) : Nat → List AV
 | 0 => []
 | i + 1 => stL c v i ++ dlC (Zm c (i % c) (v.take i))
theorem Qh0 (c : Nat) (v : List Nat) : ∀ m, (stL c v m).length = m * 4
 | 0 => rfl
 | m + 1 => by rw [stL, List.length_append, Qh0 c v m]; simp only [dlC, List.length_cons, List.length_nil]; omega
theorem QyP (d : Dl) : isTL (dlC d) = true := rfl
theorem QfQ (c : Nat) (v : List Nat) : ∀ m, isTL (stL c v m) = true
 | 0 => rfl
 | m + 1 => by rw [stL, Qcz, QfQ c v m, QyP]; rfl
theorem Qu6 {c : Nat} {v : List Nat} : ∀ {m i : Nat}, i < m → ∃ r, (stL c v m).drop (i * 4) = .int .i64 (Zm c (i % c) (v.take i)).k0 :: .int .i64 (Zm c (i % c) (v.take i)).k1 :: .int .u64 (Zm c (i % c) (v.take i)).s0 :: .int .u64 (Zm c (i % c) (v.take i)).s1 :: r
 | m + 1, i, h => by
  rw [stL]
  by_cases e : i = m
  ·subst e
   rw [List.drop_left' (Qh0 c v i)]
   exact ⟨[], rfl⟩
  ·obtain ⟨r, hr⟩ := Qu6 (c := c) (v := v) (show i < m by omega)
   rw [List.drop_append_of_le_length (by rw [Qh0]; omega), hr]
   exact ⟨_, rfl⟩
def QiL (P : Prg) (f : Nat) : Prop := ∀ (c : Nat) (v : List Nat), 1 ≤ c → c ≤ 6 → v.length ≤ 4000 → N32 v → VC P f [.int .i64 c, QyC v] (.list v.length (stL c v v.length))
set_option maxHeartbeats 1000000 in
theorem Qn9 {P : Prg} {f fS fL t0 : Nat} (bd : Qf P f 37 [.tmp 4] (Xg fS fL t0)) (hS : QdE P fS) (hL : QmP P fL) : QiL P f := by
 intro c v hc hc6 hv h32
 refine VC.of_walk 1 (by simp [isDL, QsA, isD]) (by simp only [isD]; exact QeB (QfQ _ _ _)) (ACall.of_body bd (by simp) ?_)
 have hln : (ks .u32 (v.map fun n : Nat => (n : Int))).length = v.length := by simp [ks]
 simp only [QdE, QR, dlA, dlC] at hS
 simp (disch := omega) only [rq, simprocAttr, Xg, QyC, QpW, List.length_map]
 refine Qx.by (ι := Nat) (fun i => ⟨[(6, .int .i64 i), (5, .own 0 i), (1, .list v.length (ks .u32 (v.map fun n : Nat => (n : Int)))), (0, .int .i64 c)], [⟨t0, 4, i, stL c v i, 0⟩]⟩) (fun i => i ≤ v.length) (fun i => v.length - i) 0
  (Le.trans (Le.virt 5 t0 4 (by decide) rfl) (Le.slots (by simp [Am.look]))) (by omega) ?_
 intro i hi
 have hlen := Qh0 c v i
 have hD := QeB (QfQ c v (i + 1))
 by_cases hlt : i < v.length
 ·have hs : stL c v (i + 1) = stL c v i ++ dlC (Zm c (i % c) (v.take i)) := rfl
  by_cases h1 : i < c
  ·rw [Qul h1 hi] at hs
   rw [hs] at hD
   have hs' : stL c v (i + 1) = stL c v i ++ [.int .i64 10, .int .i64 10, .int .u64 16384, .int .u64 16384] := hs
   have hD' : isDL (stL c v i ++ [.int .i64 10, .int .i64 10, .int .u64 16384, .int .u64 16384]) = true := hD
   generalize hg : stL c v i = S at *
   simp (disch := omega) only [rq, simprocAttr]
   refine Qb.vc hS ?_
   simp (disch := omega) only [rq, simprocAttr, hlen]
   refine ⟨i + 1, by omega, by omega, ?_⟩
   rw [hs']
   refine Le.low (ob := [⟨t0, 4, i + 1, S ++ [.int .i64 10, .int .i64 10, .int .u64 16384, .int .u64 16384], 0⟩]) (J := [_]) (Nat.zero_le _) ?_ ?_
   ·exact (Low.cons (lowL_D _ hD') Low.nil)
   ·simp [Am.look, Xu, lowL_D _ (QW _ _)]
  ·have hcb := Qw1 hc (by omega : c ≤ i) hi
   obtain ⟨rest, hat⟩ := Qu6 (c := c) (v := v) (m := i) (i := i - c) (by omega)
   have hok := Ql3 (c := c) (r := (i - c) % c) (h32.take (i - c))
   have hx := h32.getD (i - c)
   have hL' := hL _ _ hok hx
   rw [← hcb] at hL'
   have e2 := Qcf (K := .u32) (l := v.map fun n : Nat => (n : Int)) (i := i - c) (by simp; omega)
   have hgd : (v.map fun n : Nat => (n : Int)).getD (i - c) 0 = ((v.getD (i - c) 0 : Nat) : Int) := by simp [List.getD_eq_getElem?_getD, List.getElem?_eq_getElem (by omega : i - c < v.length)]
   rw [hgd] at e2
   rw [hs] at hD
   generalize hg : stL c v i = S at *
   generalize Zm c (i % c) (v.take i) = d' at *
   generalize Zm c ((i - c) % c) (v.take (i - c)) = d at *
   generalize v.getD (i - c) 0 = x at *
   obtain ⟨l0, l1, l2, l3⟩ := d
   obtain ⟨m0, m1, m2, m3⟩ := d'
   simp only [dlA, dlC] at hL' hs hD
   simp only at hat
   have ic : ((i : Int) - c).toNat = i - c := by omega
   have ii : (i : Int) - c = ((i - c : Nat) : Int) := by omega
   simp (disch := omega) only [rq, simprocAttr, hln, e2, hlen, hat, ii, ic]
   refine QU.vc hL' ?_
   simp (disch := omega) only [rq, simprocAttr, hln, e2, hlen, hat, ii, ic]
   refine ⟨i + 1, by omega, by omega, ?_⟩
   rw [hs]
   refine Le.low (ob := [⟨t0, 4, i + 1, S ++ [.int .i64 m0, .int .i64 m1, .int .u64 m2, .int .u64 m3], 0⟩]) (J := [_, _]) (Nat.zero_le _) ?_ ?_
   ·exact (Low.cons (lowL_D _ hD) Low.nil)
   ·simp [Am.look, Xu, lowL_D _ (QW _ _)]
 ·obtain rfl : i = v.length := by omega
  have hT := QfQ c v v.length
  generalize stL c v v.length = S at *
  simp (disch := omega) only [rq, simprocAttr]
  simp [QF, Qu, frzL, Qs, frzL_T _ hT]
def QmA (P : Prg) (f : Nat) : Prop := ∀ (c : Nat) (v : List Nat), 1 ≤ c → c ≤ 6 → v.length ≤ 4000 → N32 v → VC P f [.int .i64 c, QyC v] (bs (ZU (Qd7 c v)))
set_option maxHeartbeats 2000000 in
theorem Qqq {P : Prg} {f fS fA fZ t0 tb : Nat} (bd : Qf P f 69 [.tmp 4] (XR fS fA fZ t0 tb)) (hS : QiL P fS) (hA : Qxt P fA) (hZ : QmH P fZ) : QmA P f := by
 intro c v hc hc6 hv h32
 refine VC.of_walk 1 (by simp [isDL, QsA, isD]) (QC _) (ACall.of_body bd (by simp) ?_)
 have hln : (ks .u32 (v.map fun n : Nat => (n : Int))).length = v.length := by simp [ks]
 have hS' := hS c v hc hc6 hv h32
 have hfb := Qch (c := c) h32
 have hsl := Qh0 c v v.length
 simp only [QyC, QpW, List.length_map] at hS' ⊢
 simp (disch := omega) only [rq, simprocAttr, XR]
 refine Qb.vc hS' ?_
 simp (disch := omega) only [rq, simprocAttr]
 refine Qx.by (ι := Nat) (fun i => ⟨[(8, .int .i64 i), (7, .list v.length (stL c v v.length)), (6, .int .i64 (Qg8 c v i)), (5, .own 0 (nB (Qg8 c v i))), (1, .list v.length (ks .u32 (v.map fun n : Nat => (n : Int))))], [bY tb (Qg8 c v i) (QtZ c v i)]⟩) (fun i => i ≤ v.length) (fun i => v.length - i) 0 ?_ (by omega) ?_
 ·rw [Qii, Qig, show bY tb 0 0 = ⟨tb, 1, 0, [], 0⟩ from rfl, show nB 0 = 0 from rfl]
  exact Le.trans (Le.virt 5 tb 1 (by decide) rfl) (Le.slots (by simp [Am.look]))
 intro i hi
 by_cases hlt : i < v.length
 ·obtain ⟨rest, hat⟩ := Qu6 (c := c) (v := v) hlt
  have hd := Ql3 (c := c) (r := i % c) (h32.take i)
  have hvi := h32.getD i
  have hA' := hA _ _ true hd hvi
  have e2 := Qcf (K := .u32) (l := v.map fun n : Nat => (n : Int)) (i := i) (by simpa using hlt)
  have hgd : (v.map fun n : Nat => (n : Int)).getD i 0 = ((v.getD i 0 : Nat) : Int) := by simp [List.getD_eq_getElem?_getD, List.getElem?_eq_getElem hlt]
  rw [hgd] at e2
  obtain ⟨hV, hN1, _⟩ := hfb i
  have hCl := QlZ (d := Zm c (i % c) (v.take i)) hvi
  have hcn := QlY (v := v.getD i 0) hd
  have hsN := Qij c v i
  have hsV := Qih c v i
  have hD4 := QeB (QfQ c v v.length)
  generalize hN2 : Qg8 c v (i + 1) = N2 at *
  generalize hV2 : QtZ c v (i + 1) = V2 at *
  generalize Qg8 c v i = N at *
  generalize QtZ c v i = V at *
  generalize QeQ (Zm c (i % c) (v.take i)) (v.getD i 0) = n at *
  generalize QjR (Zm c (i % c) (v.take i)) (v.getD i 0) = C at *
  generalize Zm c (i % c) (v.take i) = d at *
  generalize v.getD i 0 = vi at *
  generalize stL c v v.length = S at *
  obtain ⟨d0, d1, d2, d3⟩ := d
  simp only [dlA, dlC, bA] at hA'
  simp only at hat
  simp (disch := omega) only [rq, simprocAttr, hln, e2, hsl, hat]
  refine QU.vc hA' ?_
  simp (disch := omega) only [rq, simprocAttr]
  refine Qx.by (ι := Nat) (fun k => ⟨[(10, .int .i64 k), (9, .ref 1 1 0), (8, .int .i64 i), (7, .list v.length S), (6, .int .i64 ((N + k : Nat) : Int)), (5, .own 0 (nB (N + k))), (1, .list v.length (ks .u32 (v.map fun n : Nat => (n : Int))))],
    [bY tb (N + k) (V + 2 ^ N * (C % 2 ^ k)), ⟨t0, 2, 1, [.list (nB n) (u8 (leB C (nB n))), .int .i64 n], 0⟩]⟩) (fun k => k ≤ n) (fun k => n - k) 0 ?_ (by omega) ?_
  ·rw [Nat.add_zero, Nat.pow_zero, Nat.mod_one, Nat.mul_zero, Nat.add_zero]
   exact Le.slots (by simp [Am.look])
  intro k hk
  by_cases hkl : k < n
  ·obtain ⟨M, hM⟩ : ∃ M, M = N + k := ⟨_, rfl⟩
   obtain ⟨ii, hii⟩ : ∃ i, i = M / 8 := ⟨_, rfl⟩
   obtain ⟨a, ha⟩ : ∃ a, a = M % 8 := ⟨_, rfl⟩
   obtain ⟨q, hq⟩ : ∃ q, q = k / 8 := ⟨_, rfl⟩
   obtain ⟨r, hr⟩ : ∃ r, r = k % 8 := ⟨_, rfl⟩
   obtain ⟨b, hb0⟩ : ∃ b, b = C / 2 ^ k % 2 := ⟨_, rfl⟩
   have hM8 : M = 8 * ii + a := by omega
   have hj8 : 8 * q + r = k := by omega
   have hb : b < 2 := by rw [hb0]; exact Nat.mod_lt _ (by decide)
   have hW : V + 2 ^ N * (C % 2 ^ k) < 2 ^ M := by
    rw [hM]
    exact Z8 hV (Nat.mod_lt _ (Nat.pow_pos (by omega)))
   have hstep := QBL (V := V) (N := N) (v := C) (j := k) (r := 1)
   rw [← hM, Nat.pow_one, ← hb0] at hstep
   have hbat := Qwf (V := C) (k := nB n) (i := q) (by unfold nB; omega)
   have hbit := QzB C q r (by omega)
   rw [hj8, ← hb0] at hbit
   have hby : C / 256 ^ q % 256 < 256 := Nat.mod_lt _ (by decide)
   have s1 : Qn false .u8 ((C / 256 ^ q % 256 : Nat) : Int) (r : Int) = some (.int .u8 ((C / 256 ^ q % 256 / 2 ^ r : Nat) : Int)) := Qlo (K := .u8) (by show r ≤ 8; omega)
   have hle : C / 256 ^ q % 256 / 2 ^ r ≤ C / 256 ^ q % 256 := Nat.div_le_self _ _
   generalize C / 256 ^ q % 256 / 2 ^ r = y1 at *
   generalize C / 256 ^ q % 256 = y0 at *
   have s2 : ((y1 : Int)).tmod 2 = (b : Int) := by rw [Int.tmod_eq_emod_of_nonneg (by omega)]; omega
   have s2' : (y1 : Int) % 2 = (b : Int) := by omega
   have hq1 : (k : Int) / 8 = (q : Int) := by omega
   have hr1 : (k : Int) % 8 = (r : Int) := by omega
   have hi1 : (M : Int) / 8 = (ii : Int) := by omega
   have ha1 : (M : Int) % 8 = (a : Int) := by omega
   have hnq : q < nB n := by unfold nB; omega
   have hMr : N + (k + 1) = M + 1 := by omega
   have hMi : (N : Int) + ((k : Int) + 1) = (M : Int) + 1 := by omega
   have hM4 : M ≤ 400000 := by omega
   rw [← hM]
   generalize V + 2 ^ N * (C % 2 ^ k) = W at *
   generalize hWW : V + 2 ^ N * (C % 2 ^ (k + 1)) = W' at *
   have h2a : 2 ^ a ≤ 2 ^ 7 := Nat.pow_le_pow_right (by omega) (by omega)
   have hpos : 0 < 2 ^ a := Nat.pow_pos (by omega)
   obtain ⟨l1, l2⟩ := Qbn (V := W) (i := ii) (at_ := a) (by rw [← hM8]; exact hW) (by omega)
   obtain ⟨b1, b2, _⟩ := Qao (V := W) (i := ii) (at_ := a) (w := b) (r := 1) (by rw [← hM8]; exact hW) (by omega) (by omega)
   rw [← hM8, ← hstep] at b1
   have hyb : W / 256 ^ ii < 256 := by omega
   have hyb2 : W / 256 ^ ii + 2 ^ a * b < 256 := by
    have : 2 ^ (a + 1) ≤ 2 ^ 8 := Nat.pow_le_pow_right (by omega) (by omega)
    omega
   have hu : ∀ y, y < 256 → u8 [UInt8.ofNat y] = [.int .u8 (y : Int)] := fun y hy => by simp [u8]; omega
   have e7 : Qn true .u8 1 (a : Int) = some (.int .u8 ((2 ^ a : Nat) : Int)) := by
    have := Qvo (K := .u8) rfl (c := 1) (s := a) (by show a ≤ 8; omega) (by show 1 * 2 ^ a < 256; omega)
    rw [Nat.one_mul] at this
    exact this
   have hnB : nB (M + 1) = ii + 1 := by unfold nB; omega
   have hcell : u8 (leB W' (ii + 1)) = u8 (leB W ii) ++ [.int .u8 ((W / 256 ^ ii + 2 ^ a * b : Nat) : Int)] := by
    rw [b1, show u8 (leB W ii ++ [UInt8.ofNat (W / 256 ^ ii + 2 ^ a * b)]) = u8 (leB W ii) ++ u8 [UInt8.ofNat (W / 256 ^ ii + 2 ^ a * b)] by simp [u8]]
    rw [hu _ hyb2]
   have hlen : (u8 (leB W ii)).length = ii := by simp [u8, Qd]
   have d1 : ∀ z : AV, (u8 (leB W ii) ++ [z]).drop ii = [z] := fun z => by rw [List.drop_left' hlen]
   have d2 : ∀ z : AV, (u8 (leB W ii) ++ [z]).take ii = u8 (leB W ii) := fun z => by rw [List.take_left' hlen]
   have d3 : ∀ z : AV, (u8 (leB W ii) ++ [z]).drop (ii + 1) = [] := fun z => List.drop_of_length_le (by simp [hlen])
   have hcl : (u8 (leB C (nB n))).length = nB n := by simp [u8, Qd]
   have hby' : bY tb (M + 1) W' = ⟨tb, 1, ii + 1, u8 (leB W ii) ++ [.int .u8 ((W / 256 ^ ii + 2 ^ a * b : Nat) : Int)], 0⟩ := by rw [bY, hnB, hcell]
   have low : Low 2 [bY tb (M + 1) W', ⟨t0, 2, 1, [.list (nB n) (u8 (leB C (nB n))), .int .i64 n], 0⟩] := Low.cons (lowL_D _ (ZH _ _)) (Low.cons (by simp [lowL, Xu, lowL_D _ (ZH _ _)]) Low.nil)
   have hb01 : b = 0 ∨ b = 1 := by omega
   by_cases h0 : a = 0
   ·subst h0
    have hnM : nB M = ii := by unfold nB; omega
    have hW0 : W / 256 ^ ii = 0 := by
     have := l2
     rw [Nat.pow_zero] at this
     exact Nat.lt_one_iff.1 this
    rw [hW0, Nat.zero_add, Nat.pow_zero, Nat.one_mul] at hby'
    rw [Nat.pow_zero] at e7
    have e7' : Qn true .u8 1 0 = some (.int .u8 1) := e7
    have ha1' : (M : Int) % 8 = 0 := ha1
    rcases hb01 with rfl | rfl
    ·have z0 : bY tb (M + 1) W' = ⟨tb, 1, ii + 1, u8 (leB W ii) ++ [.int .u8 0], 0⟩ := hby'
     simp only [bY] at z0
     simp only [bY] at low ⊢
     simp (disch := omega) only [rq, simprocAttr, hnM, hlen, hcl, hbat, s1, s2, s2', hq1, hr1, hi1, ha1', d1, d2, d3]
     refine ⟨k + 1, by omega, by omega, ?_⟩
     simp only [hWW, hMr]
     simp only [Int.natCast_add, Int.cast_ofNat_Int, hMi]
     rw [← z0]
     refine Le.low (ob := [_, _]) (J := [_]) (Nat.zero_le _) low ?_
     simp [Am.look, Xu, lowL_D _ (QW _ _), lowL_D _ hD4, hnB]
    ·have z0 : bY tb (M + 1) W' = ⟨tb, 1, ii + 1, u8 (leB W ii) ++ [.int .u8 1], 0⟩ := hby'
     simp only [bY] at z0
     simp only [bY] at low ⊢
     simp (disch := omega) only [rq, simprocAttr, hnM, hlen, hcl, hbat, s1, s2, s2', e7', hq1, hr1, hi1, ha1', d1, d2, d3]
     refine ⟨k + 1, by omega, by omega, ?_⟩
     simp only [hWW, hMr]
     simp only [Int.natCast_add, Int.cast_ofNat_Int, hMi]
     rw [← z0]
     refine Le.low (ob := [_, _]) (J := [_]) (Nat.zero_le _) low ?_
     simp [Am.look, Xu, lowL_D _ (QW _ _), lowL_D _ hD4, hnB]
   ·have hnM : nB M = ii + 1 := by unfold nB; omega
    have l3 : u8 (leB W (ii + 1)) = u8 (leB W ii) ++ [.int .u8 ((W / 256 ^ ii : Nat) : Int)] := by
     rw [l1, show u8 (leB W ii ++ [UInt8.ofNat (W / 256 ^ ii)]) = u8 (leB W ii) ++ u8 [UInt8.ofNat (W / 256 ^ ii)] by simp [u8], hu _ hyb]
    have ha0 : (a : Int) ≠ 0 := by omega
    generalize W / 256 ^ ii = y at *
    rcases hb01 with rfl | rfl
    ·have z0 : bY tb (M + 1) W' = ⟨tb, 1, ii + 1, u8 (leB W ii) ++ [.int .u8 (y : Int)], 0⟩ := by rw [hby', Nat.mul_zero]; rfl
     simp only [bY] at z0
     simp only [bY] at low ⊢
     simp (disch := omega) only [rq, simprocAttr, hnM, hlen, hcl, l3, hbat, s1, s2, s2', hq1, hr1, hi1, ha1, d1, d2, d3]
     refine ⟨k + 1, by omega, by omega, ?_⟩
     simp only [hWW, hMr]
     simp only [Int.natCast_add, Int.cast_ofNat_Int, hMi]
     rw [z0]
     exact Le.slots (by simp [Am.look, hnB])
    ·rw [Nat.mul_one] at hby' hyb2
     have z0 := hby'
     simp only [bY] at z0
     simp only [bY] at low ⊢
     have ey : ((y + 2 ^ a : Nat) : Int) = (y : Int) + ((2 ^ a : Nat) : Int) := by omega
     rw [ey] at z0
     generalize 2 ^ a = pa at *
     simp (disch := omega) only [rq, simprocAttr, hnM, hlen, hcl, l3, hbat, s1, s2, s2', e7, hq1, hr1, hi1, ha1, d1, d2, d3]
     refine ⟨k + 1, by omega, by omega, ?_⟩
     simp only [hWW, hMr]
     simp only [Int.natCast_add, Int.cast_ofNat_Int, hMi]
     rw [← z0]
     exact Le.slots (by simp [Am.look, hnB])
  ·obtain rfl : k = n := by omega
   rw [Nat.mod_eq_of_lt hCl, ← hsN, ← hsV]
   simp (disch := omega) only [rq, simprocAttr]
   refine ⟨i + 1, by omega, by omega, ?_⟩
   simp only [hN2, hV2]
   refine Le.low (ob := [_]) (J := [_]) (Nat.zero_le _) (Low.cons (lowL_D _ (ZH _ _)) Low.nil) ?_
   simp [Am.look, Xu, lowL_D _ (QW _ _), lowL_D _ hD4]
 ·obtain rfl : i = v.length := by omega
  obtain ⟨hV, hN1, _⟩ := hfb v.length
  have hfl := QhB c v
  have hZ' := hZ (Qd7 c v) (by rw [hfl]; unfold nB; omega)
  have hse : ZU (Qd7 c v) = Qd7 c v ++ leB (Qcc (Qd7 c v)) 4 := rfl
  rw [← hse] at hZ'
  have hfe : Qd7 c v = leB (QtZ c v v.length) (nB (Qg8 c v v.length)) := rfl
  have tl : isTL (u8 (Qd7 c v)) = true := Qv _
  have tl2 : isTL (u8 (ZU (Qd7 c v))) = true := Qv _
  simp only [bY]
  rw [← hfe]
  simp only [bs, hfl] at hZ' ⊢
  generalize ZU (Qd7 c v) = R at *
  generalize Qd7 c v = fb at *
  generalize nB (Qg8 c v v.length) = nn at *
  generalize Qg8 c v v.length = N at *
  simp (disch := omega) only [rq, simprocAttr]
  refine Qb.still 1 [0] hZ' (by simp [QF, Qu, frzL, Qs, frzL_T _ tl]) ?_
  simp (disch := omega) only [rq, simprocAttr, QA]
  simp [QF, Qu, frzL, Qs, frzL_T _ tl2]
theorem Qv7 (c : Nat) (x : Int) (t l : List Int) : QpW (Qkc c (Xm c l) (Qam x t) l.length) = QyC (Qs1 c x t l) := by
 rw [QnP, QyC, QpW, List.length_map, Qfq]
theorem Qob {P : Prg} {f fA fC fB t0 t1 : Nat} (bd : Qf P f 22 [.tmp 6, .tmp 7] (Zs fA fC fB t0 t1)) (hA : Qi9 P fA) (hC : QmL P fC) (hB : QmA P fB) : QuC P f := by
 intro c x t l ht hI hL
 refine VC.of_walk 1 (by simp [isDL, isD, QW, QZ, shA]) (QsD _ _ _ _) (ACall.of_body bd (by simp) ?_)
 have hk : (ks .i32 t).length = 16 := by simp [Qg, ht]
 have tt : (ks .i32 t).take 16 = ks .i32 t := Qo (by omega)
 have ot := X6 .i32 t
 have hA' := hA c x l hL
 unfold Qzt
 by_cases h0 : QdV c x l = 0
 case neg =>
  rw [if_pos h0]
  rw [shA] at hA' ⊢
  simp (disch := omega) only [rq, simprocAttr, Zs, hk, ot, tt]
  refine Qb.vc hA' ?_
  simp (disch := omega) only [rq, simprocAttr, h0]
  refine Qb.vc hA' ?_
  simp (disch := omega) only [rq, simprocAttr, h0]
  simp [QF, Qu, frzL, Qs]
 obtain ⟨k, m, rfl, hkM, hx, e1, e2, e3, e4, e5, e6⟩ := Qmv hL h0
 have hC' := hC k x t l ht hI hkM hx
 obtain ⟨c1, c6, l0, l4, lm, _⟩ := hkM
 have hv := QkH k x t l
 have hvl := Qfq k x t l
 have hB' := hB k (Qs1 k x t l) c1 c6 (by omega) hv
 rw [Qv7] at hC'
 rw [if_neg (by omega), Int.toNat_natCast, Qjk]
 rw [h0] at hA'
 have tl : isTL (u8 (ZU (Qd7 k (Qs1 k x t l)))) = true := Qv _
 generalize QyC (Qs1 k x t l) = nv at *
 generalize ZU (Qd7 k (Qs1 k x t l)) = R at *
 rw [shA] at hA' hC' ⊢
 simp only [bs] at hB' ⊢
 simp (disch := omega) only [rq, simprocAttr, Zs, hk, ot, tt]
 refine Qb.vc hA' ?_
 simp (disch := omega) only [rq, simprocAttr, hk, ot, tt]
 refine QU.vc hC' ?_
 simp (disch := omega) only [rq, simprocAttr]
 refine QU.vc hB' ?_
 simp (disch := omega) only [rq, simprocAttr]
 simp [QF, Qu, frzL, Qs, frzL_T _ tl]
theorem QwF {c x : Int} {t l : List Int} (hL : I32 l) (h : QdV c x l = 0) : (Qjk c.toNat x t l).length ≤ 40504 ∧ 5 ≤ (Qjk c.toNat x t l).length := by
 obtain ⟨k, m, rfl, hkM, hx, e1, e2, e3, e4, e5, e6⟩ := Qmv hL h
 obtain ⟨c1, c6, l0, l4, lm, _⟩ := hkM
 have hvl := Qfq k x t l
 have := QqM (c := k) (QkH k x t l) (by omega) (by omega)
 rw [Int.toNat_natCast, Qjk, Qn2]
 omega
theorem QAx {k : Nat} {x : Int} {t l : List Int} (h : QdV k x l = 0) : Qzt k x t l = .tup [bs (Qjk k x t l), .int .i64 0] := by
 rw [Qzt, if_neg (by omega), Int.toNat_natCast]
def emL : List AV → List AV
 | [] => []
 | .emp _ :: l => .list 0 [] :: emL l
 | a :: l => a :: emL l
theorem QsX {X : Cx} : ∀ (l : List AV) (vs : List Value), RepL X l vs → RepL X (emL l) vs
 | [], _, h => h
 | a :: l, vs, h => by
  simp only [RepL] at h
  obtain ⟨v, rest, e, g1, g2⟩ := h
  have h2 := QsX l rest g2
  cases a with
  | emp z =>
   simp only [emL, RepL]
   refine ⟨v, rest, e, ?_, h2⟩
   simp only [Rep] at g1 ⊢
   obtain ⟨a, e, _⟩ := g1
   exact ⟨a, 0, [], e, Nat.le_refl _, .inl rfl, by simp [RepL]⟩
  | _ => simp only [emL, RepL]; exact ⟨v, rest, e, g1, h2⟩
theorem VC.emp {P : Prg} {f : FuncId} (avs : List AV) {r : AV} (h : VC P f (emL avs) r) (hd : isDL avs = true) : VC P f avs r :=
 ⟨h.1, hd, h.2.2.1, fun w C vs hC hG hr => h.2.2.2 w C vs hC hG (QsX _ _ hr)⟩
def nl (l : List Int) : AV := .list l.length (ks .i64 l)
theorem Qwk (l : List Int) : isD (nl l) = true := by simp [nl, isD, QW]
def nls (L : List (List Int)) : AV := .list L.length (L.map nl)
theorem QsF : ∀ L : List (List Int), isDL (L.map nl) = true
 | [] => rfl
 | l :: L => by simp [isDL, Qwk, QsF L]
def Qjb (t : Nat) (P : Prg) (f : Nat) : Prop := ∀ L : List (List Int), L.length ≤ 1000000 → 0 < L.flatten.length → L.flatten.length ≤ 1000000 → VO P f [nls L] (.own 0 L.flatten.length) ⟨t, 1, L.flatten.length, ks .i64 L.flatten, 0⟩
theorem grow_nilI {P : Prg} {f t : Nat} {ρ : Go.Shelf.Ren} (L : Go.Proofs.Lays8.n4 P.prog ρ) (hf : ρ.f 4 = f) (ht : ρ.t 25 = t) (h25 : (P.prog.info? t).map (fun i => (i.zero, i.size, i.bytes)) = some (some (.int .i64 0), 1, 8)) : ∀ (ob : List Ob) (n : Nat) (z : Bool) (K : AV → List Ob → Prop), 0 < n → n ≤ 1000000 → K (.own ob.length 0) (ob ++ [⟨t, 1, 0, [], 0⟩]) → ACall P f [.emp z, .int .i64 n] ob K := by
 intro ob n z K h1 h2 hK
 subst hf; subst ht
 exact ACall.grow_nilI (by omega) L h25 h1 (by omega) hK
def QkB (t : Nat) (P : Prg) (f : Nat) : Prop := ∀ (ob : List Ob) (n : Nat) (z : Bool) (K : AV → List Ob → Prop), 0 < n → n ≤ 1000000 → K (.own ob.length 0) (ob ++ [⟨t, 1, 0, [], 0⟩]) → ACall P f [.emp z, .int .i64 n] ob K
theorem Qkm {L : List (List Int)} {k : Nat} (h : k < L.length) : (L.take (k + 1)).flatten = (L.take k).flatten ++ L.getD k [] := by
 rw [List.take_succ_eq_append_getElem h, List.flatten_append, List.getD_eq_getElem?_getD, List.getElem?_eq_getElem h]
 simp
theorem QsM (L : List (List Int)) (k : Nat) : (L.take k).flatten.length ≤ L.flatten.length := by
 conv => rhs; rw [← List.take_append_drop k L, List.flatten_append, List.length_append]
 omega
theorem QjD {P : Prg} {f fG t0 : Nat} (bd : Qf P f 36 [.tmp 2] (ZP fG t0)) (hG : QkB t0 P fG) : Qjb t0 P f := by
 intro L hL h0 h1
 refine VO.of_walk (by simp [isDL, isD, nls, QsF]) (QW _ _) (by simp [okr]) (ACall.of_body bd (by simp) ?_)
 have hat : ∀ k, k < L.length → (L.map nl).drop k = nl (L.getD k []) :: (L.map nl).drop (k + 1) := fun k hk => by
  rw [List.drop_eq_getElem_cons (by simpa using hk)]
  simp [List.getD_eq_getElem?_getD, List.getElem?_eq_getElem hk]
 have hml : (L.map nl).length = L.length := by simp
 simp only [nl] at hat
 simp (disch := omega) only [rq, simprocAttr, ZP, nls]
 refine Qx.by (ι := Nat) (fun k => ⟨[(11, .int .i64 k), (10, .int .i64 L.length), (9, .list L.length (L.map nl)), (3, .int .i64 (L.take k).flatten.length), (0, .list L.length (L.map nl))], []⟩) (fun k => k ≤ L.length) (fun k => L.length - k) 0 (Le.slots (by simp [Am.look])) (by omega) ?_
 intro k hk
 by_cases hlt : k < L.length
 ·have ha := hat k hlt
  have hf := Qkm hlt
  have hle := QsM L (k + 1)
  rw [hf, List.length_append] at hle
  have hl : ((L.take (k + 1)).flatten.length : Int) = (L.take k).flatten.length + (L.getD k []).length := by rw [hf]; simp
  generalize (L.take k).flatten.length = s at *
  generalize L.getD k [] = x at *
  simp (disch := omega) only [rq, simprocAttr, ha, hml]
  exact ⟨k + 1, by omega, by omega, by simp only [hl]; exact Le.slots (by simp [Am.look])⟩
 obtain rfl : k = L.length := by omega
 rw [List.take_length]
 have hG' := fun K hK => hG [] L.flatten.length true K h0 h1 hK
 simp (disch := omega) only [rq, simprocAttr]
 refine hG' _ ?_
 simp (disch := omega) only [rq, simprocAttr]
 refine Qx.by (ι := Nat) (fun k => ⟨[(27, .int .i64 k), (26, .int .i64 L.length), (25, .list L.length (L.map nl)), (6, .own 0 (L.take k).flatten.length)], [⟨t0, 1, (L.take k).flatten.length, ks .i64 (L.take k).flatten, 0⟩]⟩) (fun k => k ≤ L.length) (fun k => L.length - k) 0 (Le.slots (by simp [Am.look, ks])) (by omega) ?_
 intro k hk
 by_cases hlt : k < L.length
 ·have ha := hat k hlt
  have hf := Qkm hlt
  have hle := QsM L (k + 1)
  rw [hf, List.length_append] at hle
  have hl : (L.take (k + 1)).flatten.length = (L.take k).flatten.length + (L.getD k []).length := by rw [hf]; simp
  have hu : ks .i64 (L.take (k + 1)).flatten = ks .i64 (L.take k).flatten ++ ks .i64 (L.getD k []) := by rw [hf]; simp [ks]
  have hc : (ks .i64 (L.take k).flatten).length = (L.take k).flatten.length := Qg _ _
  have hx : (ks .i64 (L.getD k [])).length = (L.getD k []).length := Qg _ _
  generalize ks .i64 (L.take k).flatten = cs at *
  generalize (L.take k).flatten.length = s at *
  generalize ks .i64 (L.getD k []) = us at *
  generalize (L.getD k []).length = xl at *
  simp (disch := omega) only [rq, simprocAttr, ha, hml, hc, hx]
  exact ⟨k + 1, by omega, by omega, by rw [hl, hu]; exact Le.slots (by simp [Am.look])⟩
 obtain rfl : k = L.length := by omega
 rw [List.take_length]
 simp (disch := omega) only [rq, simprocAttr]
 exact ⟨0, rfl, rfl⟩
def QuB (P : Prg) (f : Nat) : Prop := ∀ x y : Nat, x ≤ 65535 → y ≤ 65535 → VC P f [.int .u64 x, .int .u64 y] (.tup [.int .u64 0, .int .u64 ((x * y : Nat) : Int)])
theorem QtS {P : Prg} {f : Nat} (bd : Qf P f 51 [.tmp 4, .tmp 5] JY) : QuB P f := by
 intro x y hx hy
 refine VC.of_acall rfl rfl (ACall.of_body bd (by simp) ?_)
 have hxy : x * y ≤ 65535 * 65535 := Nat.mul_le_mul hx hy
 have hm : (x : Int) * (y : Int) = ((x * y : Nat) : Int) := by simp
 have an : ∀ a : Nat, a ≤ 4294967295 → IntKind.u64.wrap (BitVec.ofInt IntKind.u64.bits (a : Int) &&& BitVec.ofInt IntKind.u64.bits 4294967295).toNat = (a : Int) := by
  intro a ha
  have := Qxq a 4294967295 (by omega) (by decide)
  rw [show (4294967295 : Nat) = 2 ^ 32 - 1 from rfl, Nat.and_two_pow_sub_one_eq_mod, Nat.mod_eq_of_lt (by omega)] at this
  exact this
 have sh : ∀ a : Nat, a ≤ 4294967295 → Qn false .u64 (a : Int) 32 = some (.int .u64 0) := by
  intro a ha
  have := Qlo (K := .u64) (n := a) (k := 32) (by decide)
  rw [Nat.div_eq_of_lt (by omega)] at this
  exact this
 have a1 := an x (by omega)
 have a2 := an y (by omega)
 have a3 : IntKind.u64.wrap (BitVec.ofInt IntKind.u64.bits 0 &&& BitVec.ofInt IntKind.u64.bits 4294967295).toNat = 0 := by decide
 have s1 := sh x (by omega)
 have s2 := sh y (by omega)
 have s3 := sh (x * y) (by omega)
 have s4 : Qn false .u64 0 32 = some (.int .u64 0) := sh 0 (by omega)
 generalize x * y = z at *
 simp (disch := omega) only [rq, simprocAttr, JY, a1, a2, a3, s1, s2, s3, s4, hm, Int.zero_mul, Int.mul_zero, Int.add_zero, Int.zero_add]
theorem QyF {P : Prg} {f f32 f64 : Nat} (bd : Qf P f 30 [.tmp 4, .tmp 5] (QaL f32 f64)) (h64 : QuB P f64) : QuB P f := by
 intro x y hx hy
 refine VC.of_acall rfl rfl (ACall.of_body bd (by simp) ?_)
 have h := h64 x y hx hy
 generalize x * y = z at *
 simp (disch := omega) only [rq, simprocAttr, QaL]
 refine Qb.vc h ?_
 simp (disch := omega) only [rq, simprocAttr]
def rpL (v : Int) (m c : Nat) : List Int := List.replicate m v ++ List.replicate (c - m) 0
theorem QA8 {v : Int} {m c : Nat} (h : m ≤ c) : (rpL v m c).length = c := by simp [rpL]; omega
def QiU (t : Nat) (P : Prg) (f : Nat) : Prop := ∀ (v : Int) (c : Nat), c ≤ 1000 → VO P f [nl [v], .int .i64 c] (.own 0 c) ⟨t, 1, c, ks .i64 (List.replicate c v), 0⟩
theorem QjC {P : Prg} {f fM t0 : Nat} (bd : Qf P f 48 [.tmp 4] (ZO fM t0)) (hM : QuB P fM) : QiU t0 P f := by
 intro v c hc
 refine VO.of_walk (by simp [isDL, Qwk, isD]) (QW _ _) (by simp [okr]) (ACall.of_body bd (by simp) ?_)
 have hM' := hM 1 c (by omega) (by omega)
 rw [Nat.one_mul] at hM'
 have hM2 : VC P fM [.int .u64 1, .int .u64 c] (.tup [.int .u64 0, .int .u64 c]) := hM'
 have e1 : nl [v] = .list 1 [.int .i64 v] := rfl
 have er : Qe [.int .i64 0] c = ks .i64 (List.replicate c 0) := Qr8 .i64 c
 have hl : (ks .i64 (List.replicate c 0)).length = c := by simp [Qg]
 rw [e1]
 simp (disch := omega) only [rq, simprocAttr, ZO]
 refine Qb.vc hM2 ?_
 by_cases h0 : c = 0
 ·subst h0
  simp (disch := omega) only [rq, simprocAttr, er]
  refine Qx.by (ι := Nat) (fun _ => ⟨[(8, .int .i64 0), (7, .own 0 0)], [⟨t0, 1, 0, [], 0⟩]⟩) (fun _ => True) (fun _ => 0) 0 (Le.slots (by simp [Am.look, ks])) trivial ?_
  intro _ _
  simp (disch := omega) only [rq, simprocAttr]
  exact ⟨0, rfl, rfl⟩
 ·have hmn : Nat.min 1 c = 1 := Nat.min_eq_left (by omega)
  have hst : (1 : Int) < (c : Int) ∨ c = 1 := by omega
  simp (disch := omega) only [rq, simprocAttr, er, hl, hmn]
  refine Qx.by (ι := Nat) (fun m => ⟨[(8, .int .i64 m), (7, .own 0 c)], [⟨t0, 1, c, ks .i64 (rpL v m c), 0⟩]⟩) (fun m => 1 ≤ m ∧ m ≤ c) (fun m => c - m) 1 ?_ (by omega) ?_
  ·have : [AV.int .i64 v] ++ (ks .i64 (List.replicate c 0)).drop 1 = ks .i64 (rpL v 1 c) := by simp [rpL, ks]
   rw [← this]
   exact Le.slots (by simp [Am.look])
  intro m hm
  obtain ⟨hm1, hm2⟩ := hm
  have hkl : (ks .i64 (rpL v m c)).length = c := by rw [Qg, QA8 hm2]
  by_cases hlt : m < c
  ·obtain ⟨q, hq⟩ : ∃ q, q = Nat.min m (c - m) := ⟨_, rfl⟩
   have hq1 : q ≤ m := by rw [hq]; exact Nat.min_le_left _ _
   have hq2 : q ≤ c - m := by rw [hq]; exact Nat.min_le_right _ _
   have hq3 : 1 ≤ q := by rw [hq]; exact Nat.le_min.2 ⟨hm1, by omega⟩
   have hmc : min m c = m := Nat.min_eq_left hm2
   have hal : ((ks .i64 (rpL v m c)).take m).all AV.one = true := by
    rw [List.all_eq_true]
    intro x hx
    exact List.all_eq_true.1 (X6 .i64 (rpL v m c)) x (List.mem_of_mem_take hx)
   have e1 : (rpL v m c).take m = List.replicate m v := by unfold rpL; rw [List.take_left' (by simp)]
   have e2 : (rpL v m c).drop (m + q) = List.replicate (c - (m + q)) 0 := by
    unfold rpL
    rw [List.drop_append, List.drop_of_length_le (by simp), List.nil_append, List.drop_replicate, List.length_replicate]
    congr 1
    omega
   have hcs : (ks .i64 (rpL v m c)).take m ++ (((ks .i64 (rpL v m c)).take m).take q ++ (ks .i64 (rpL v m c)).drop (m + q)) = ks .i64 (rpL v (m + q) c) := by
    have k1 : ∀ l n, (ks .i64 l).take n = ks .i64 (l.take n) := fun l n => by simp [ks, List.map_take]
    have k2 : ∀ l n, (ks .i64 l).drop n = ks .i64 (l.drop n) := fun l n => by simp [ks, List.map_drop]
    have k3 : ∀ a b, ks .i64 a ++ ks .i64 b = ks .i64 (a ++ b) := fun a b => by simp [ks]
    rw [k1, e1, k1, k2, e2, List.take_replicate, Nat.min_eq_left hq1, k3, k3, ← List.append_assoc, List.replicate_append_replicate]
    rfl
   have hcs2 : (ks .i64 (rpL v m c)).take m ++ ((ks .i64 (rpL v m c)).take m).take q ++ (ks .i64 (rpL v m c)).drop (m + q) = ks .i64 (rpL v (m + q) c) := by rw [List.append_assoc]; exact hcs
   simp (disch := omega) only [rq, simprocAttr, hkl, h0, Nat.sub_zero, hmc, hal, ← hq, Nat.mul_one, hcs2, hcs]
   refine ⟨m + q, ⟨by omega, by omega⟩, by omega, ?_⟩
   exact Le.slots (by simp [Am.look])
  ·obtain rfl : m = c := by omega
   have : rpL v m m = List.replicate m v := by simp [rpL]
   rw [this]
   simp (disch := omega) only [rq, simprocAttr]
   exact ⟨0, rfl, rfl⟩
def QxI (t : Nat) (P : Prg) (f : Nat) : Prop := ∀ a b : List Int, 0 < a.length + b.length → a.length + b.length ≤ 1000000 → VO P f [nl a, nl b] (.own 0 (a.length + b.length)) ⟨t, 1, a.length + b.length, ks .i64 (a ++ b), 0⟩
theorem QjI {P : Prg} {f fC t0 t1 : Nat} (bd : Qf P f 9 [.tmp 4] (Qaj fC t1)) (hC : Qjb t0 P fC) : QxI t0 P f := by
 intro a b h0 h1
 refine VO.of_walk (by simp [isDL, Qwk]) (QW _ _) (by simp [okr]) (ACall.of_body bd (by simp) ?_)
 have hC' := hC [a, b] (by simp) (by simpa using h0) (by simpa using h1)
 have e1 : nls [a, b] = .list 2 [nl a, nl b] := rfl
 have e2 : [a, b].flatten = a ++ b := by simp
 rw [e1, e2, List.length_append] at hC'
 have ta := Qm .i64 a
 have tb := Qm .i64 b
 simp only [nl] at hC' ⊢
 simp (disch := omega) only [rq, simprocAttr, Qaj]
 refine Qb.vo_still 1 [0] hC' (by simp [QF, Qu, frzL, Qs, frzL_T _ ta, frzL_T _ tb]) ?_
 simp (disch := omega) only [rq, simprocAttr, QA, shr]
 exact ⟨1, rfl, rfl⟩
def okA (r n : Int) : Prop := 1 ≤ r ∧ r ≤ 1048576 ∧ 1 ≤ n ∧ n ≤ 4000 ∧ (Q7 (QL r).toNat n.toNat).length ≤ 1000
def QxJ (t : Nat) (P : Prg) (f : Nat) : Prop := ∀ r n : Int, okA r n → VO P f [.int .i64 r, .int .i64 n] (.tup [.own 0 (Q7 (QL r).toNat n.toNat).length, .int .i64 0]) ⟨t, 1, (Q7 (QL r).toNat n.toNat).length, ks .i64 (Q7 (QL r).toNat n.toNat), 0⟩
theorem QqC {P : Prg} {f fC fL fR fB t0 : Nat} (bd : Qf P f 39 [.tmp 4, .tmp 5] (Qb1 fC fL fR fB t0)) (hC : QaD P fC) (hL : QcU P fL) (hR : QiU t0 P fR) (hB : QxI t0 P fB) : QxJ t0 P f := by
 intro r n ⟨a1, a2, a3, a4, a5⟩
 refine VO.of_walk rfl (QW _ _) (by simp [okr, flat]) (ACall.of_body bd (by simp) ?_)
 have hlong : 1 ≤ QL r := by unfold QL; split <;> omega
 obtain ⟨L, hLe⟩ : ∃ L : Nat, QL r = L := ⟨(QL r).toNat, by omega⟩
 obtain ⟨m, rfl⟩ : ∃ m : Nat, n = m := ⟨n.toNat, by omega⟩
 rw [hLe, Int.toNat_natCast, Int.toNat_natCast] at a5 ⊢
 rw [Xx] at a5
 obtain ⟨q, hq⟩ : ∃ q, q = (m - 1) / L := ⟨_, rfl⟩
 have hql : (Q7 L m).length = q + 1 := by rw [Xx, hq]
 rw [← hq] at a5
 have hcd : ((m : Int) + (L : Int) - 1) / (L : Int) = ((q + 1 : Nat) : Int) := by
  have h1 : (m : Int) + (L : Int) - 1 = ((m - 1 + L : Nat) : Int) := by omega
  rw [h1, ← Int.natCast_ediv, Nat.add_div_right _ (by omega), ← hq]
 have hk : Qit r m = .tup [.int .i64 ((q + 1 : Nat) : Int), .int .i64 0] := by
  rw [Qit, if_neg (by omega), if_neg (by omega), hLe, hcd, if_neg (by omega)]
 have hC' := hC r m
 rw [hk] at hC'
 have hL' := hL r
 rw [QcZ, if_neg (by omega), hLe] at hL'
 have hR' := hR L q (by omega)
 have hB' := hB (List.replicate q (L : Int)) [(m : Int) - ((q * L : Nat) : Int)] (by simp) (by simp; omega)
 have e1 : List.replicate q (L : Int) ++ [(m : Int) - ((q * L : Nat) : Int)] = Q7 L m := by unfold Q7; rw [hq]
 rw [e1] at hB'
 have e2 : (List.replicate q (L : Int)).length + [(m : Int) - ((q * L : Nat) : Int)].length = q + 1 := by simp
 rw [e2] at hB'
 have e3 : nl [(L : Int)] = .list 1 [.int .i64 (L : Int)] := rfl
 have e4 : nl [(m : Int) - ((q * L : Nat) : Int)] = .list 1 [.int .i64 ((m : Int) - ((q * L : Nat) : Int))] := rfl
 rw [e3] at hR'
 rw [e4] at hB'
 have tr := Qm .i64 (List.replicate q (L : Int))
 have hqL : (q : Int) * (L : Int) = ((q * L : Nat) : Int) := by simp
 have hle : q * L ≤ m := by
  have := Nat.div_mul_le_self (m - 1) L
  rw [← hq] at this
  omega
 simp only [nl, List.length_replicate] at hB'
 rw [hql]
 generalize ks .i64 (Q7 L m) = LL at *
 generalize ks .i64 (List.replicate q (L : Int)) = RR at *
 generalize q * L = w at *
 simp only [Int.natCast_add, Int.cast_ofNat_Int] at hC'
 have hq1 : (q : Int) + 1 - 1 = (q : Int) := by omega
 simp (disch := omega) only [rq, simprocAttr, Qb1]
 refine Qb.vc hC' ?_
 simp (disch := omega) only [rq, simprocAttr]
 refine Qb.vc hL' ?_
 simp (disch := omega) only [rq, simprocAttr, hq1]
 refine Qb.vo_still 1 [0] hR' (by simp [QF, Qu, frzL, Qs]) ?_
 simp (disch := omega) only [rq, simprocAttr, QA, shr, hq1, hqL]
 refine Qb.vo_still 1 [1, 2] hB' (by simp [QF, Qu, frzL, Qs, frzL_T _ tr]) ?_
 simp (disch := omega) only [rq, simprocAttr, QA, shr]
 exact ⟨3, rfl, rfl⟩
def QaV (Lc : Nat) (l : List Int) (j : Nat) : List Int := (l.drop (j * Lc)).take Lc
def Qi1 (t : Nat) (P : Prg) (f : Nat) : Prop := ∀ (k n : Nat) (x r : Int) (l : List Int), 1 ≤ k → k ≤ 1000 → l.length = n * k → okA r n →
 QxL P f [.int .i64 k, .int .i64 x, .int .i64 r, il l] [t] (cnt := (Q7 (QL r).toNat n).length) (fun j => il (QaV ((QL r).toNat * k) l j.1))
theorem QdI {X : Cx} {a : Act} : ∀ i, Rep X (look [] i) (a.tmps.getD i undef) := fun i => by simp only [look, Rep]
theorem Q4 {X : Cx} {a : Act} {fr : List (Nat × AV)} {j : Nat} {v : AV} (h : Rep X v (a.tmps.getD j undef)) (g : ∀ i, Rep X (look fr i) (a.tmps.getD i undef)) : ∀ i, Rep X (look ((j, v) :: fr) i) (a.tmps.getD i undef) := fun i => by
 simp only [look]
 split
 ·rename_i e; subst e; exact h
 ·exact g i
theorem QBY {N : Nat} {fr : List (Nat × AV)} {a : Act} {W : World} (hd : a.defers = []) (hz : a.tmps.size = N) (h : ∀ i, Rep ⟨W, [], [], fun _ _ => False⟩ (look fr i) (a.tmps.getD i undef)) : Sim ⟨W.heap.size, ⟨W, [], [], fun _ _ => False⟩, N, []⟩ ⟨fr, []⟩ a W :=
 ⟨hd, hz, Below.refl _ _, [], ⟨rfl, by simp, by simp, by simp, fun _ _ h => h.elim, Nat.le_refl _⟩, Moves.refl _, h⟩
theorem Qbo {W W' : World} (h : Below W.heap.size W W') : W.grownBy W' none := ⟨h.os, h.tape, h.output, h.size, fun k hk _ => h.block k hk⟩
theorem Qgo {k n L j : Nat} {l : List Int} (hl : l.length = n * k) (hn : 1 ≤ n) (hL : 1 ≤ L) (hj : j < (Q7 L n).length) :
  ∃ m : Nat, (Q7 L n).getD j 0 = m ∧ m ≤ n ∧ min (j * (L * k)) (n * k) = j * (L * k) ∧ j * (L * k) ≤ n * k ∧ min ((j + 1) * (L * k)) (n * k) = j * (L * k) + m * k ∧ QaV (L * k) l j = (l.drop (j * (L * k))).take (m * k) ∧ j * (L * k) + m * k ≤ n * k := by
 rw [Xx] at hj
 have g0 : (n - 1) / L * L ≤ n - 1 := Nat.div_mul_le_self _ _
 have g2 : n - 1 < (n - 1) / L * L + L := Nat.lt_div_mul_add (by omega)
 have g1 : j * L ≤ (n - 1) / L * L := Nat.mul_le_mul_right _ (by omega)
 have e0 : j * (L * k) = j * L * k := by rw [Nat.mul_assoc]
 have e1 : (j + 1) * (L * k) = (j * L + L) * k := by rw [← Nat.mul_assoc, Nat.add_mul, Nat.one_mul]
 have h3 : j * L * k ≤ n * k := Nat.mul_le_mul_right _ (by omega)
 by_cases hq : j < (n - 1) / L
 ·have g3 : (j + 1) * L ≤ (n - 1) / L * L := Nat.mul_le_mul_right _ (by omega)
  rw [Nat.add_mul, Nat.one_mul] at g3
  have h7 : j * L + L ≤ n := Nat.le_trans g3 (Nat.le_trans g0 (Nat.sub_le _ _))
  have h4 : (j * L + L) * k ≤ n * k := Nat.mul_le_mul_right _ h7
  refine ⟨L, ?_, by omega, by rw [e0]; exact Nat.min_eq_left h3, by rw [e0]; exact h3, by rw [e1, e0, Nat.min_eq_left h4, Nat.add_mul], rfl, by rw [e0, ← Nat.add_mul]; exact h4⟩
  unfold Q7
  rw [List.getD_eq_getElem?_getD, List.getElem?_append_left (by simpa using hq), List.getElem?_replicate, if_pos hq]
  rfl
 ·have hjq : j = (n - 1) / L := by omega
  have h7 : n ≤ j * L + L := by rw [hjq]; generalize (n - 1) / L * L = w at *; omega
  have h8 : n - j * L ≤ L := by omega
  have h4 : n * k ≤ (j * L + L) * k := Nat.mul_le_mul_right _ h7
  have h5 : j * L * k + (n - j * L) * k = n * k := by rw [← Nat.add_mul]; congr 1; omega
  refine ⟨n - j * L, ?_, Nat.sub_le _ _, by rw [e0]; exact Nat.min_eq_left h3, by rw [e0]; exact h3, by rw [e1, e0, Nat.min_eq_right h4, h5], ?_, by rw [e0, h5]; exact Nat.le_refl _⟩
  ·unfold Q7
   rw [List.getD_eq_getElem?_getD, List.getElem?_append_right (by simp; omega)]
   simp only [List.length_replicate, ← hjq, Nat.sub_self, List.getElem?_cons_zero, Option.getD_some]
   omega
  ·unfold QaV
   have h6 : (l.drop (j * (L * k))).length = (n - j * L) * k := by rw [List.length_drop, hl, e0]; omega
   rw [List.take_of_length_le (by rw [h6]; exact Nat.mul_le_mul_right _ h8), List.take_of_length_le (by rw [h6]; exact Nat.le_refl _)]
theorem QwD {m j : Nat} (h : j < m) : (List.finRange m).take (j + 1) = (List.finRange m).take j ++ [⟨j, h⟩] := by
 rw [List.take_succ_eq_append_getElem (by simpa using h)]
 simp
theorem QyG (L n : Nat) : 1 ≤ (Q7 L n).length := by rw [Xx]; exact Nat.le_add_left 1 _
set_option maxHeartbeats 1000000 in
theorem Qq7 {P : Prg} {f fA t0 : Nat} (bd : Qf P f 43 [] (J2 fA)) (hA : QxJ t0 P fA) : Qi1 t0 P f := by
 intro k n x r l hk1 hk2 hl hok
 obtain ⟨L, hL⟩ : ∃ L, (QL r).toNat = L := ⟨_, rfl⟩
 have hL1 : 1 ≤ L := by have := Xw r; omega
 obtain ⟨a1, a2, a3, a4, a5⟩ := hok
 have hn1 : 1 ≤ n := by omega
 have hn2 : n ≤ 4000 := by omega
 have hA' := hA r n ⟨a1, a2, a3, a4, a5⟩
 rw [hL, Int.toNat_natCast] at hA' a5
 rw [hL]
 refine ⟨fun j => QZ _, fun w C v1 hv1 hex hG => ?_⟩
 have hv1' := hv1
 simp only [Rep] at hv1
 obtain ⟨b, o, vs, hv1e, hat, hvs⟩ := hv1
 simp only [RepL] at hvs
 obtain ⟨u0, q0, rfl, hu0, u1, q1, rfl, hu1, u2, q2, rfl, hu2, u3, q3, rfl, hu3, rfl⟩ := hvs
 have hu0' := hu0
 have hu3' := hu3
 simp only [Rep] at hu0 hu1 hu2
 rw [il] at hu3
 simp only [Rep] at hu3
 obtain ⟨sa, cap, ws, e3, hcap, hws, hwr⟩ := hu3
 rw [hl] at hcap
 obtain ⟨atN, hatN⟩ : ∃ atN : Nat → Nat, ∀ j, atN j = min (j * (L * k)) (n * k) := ⟨_, fun _ => rfl⟩
 obtain ⟨cnt, hcnt⟩ : ∃ cnt, (Q7 L n).length = cnt := ⟨_, rfl⟩
 have hnk : n * k ≤ 4000000 := Nat.mul_le_mul hn2 hk2
 rw [hcnt] at hA' a5 ⊢
 have hcnt1 : 1 ≤ cnt := by rw [← hcnt]; exact QyG _ _
 have pf : ∀ j, j < cnt → ∃ m : Nat, (Q7 L n).getD j 0 = m ∧ m ≤ n ∧ atN j = j * (L * k) ∧ atN (j + 1) = atN j + m * k ∧ QaV (L * k) l j = (l.drop (atN j)).take (m * k) ∧ atN j + m * k ≤ n * k := fun j hj => by
  obtain ⟨m, h1, h2, h3, h4, h5, h6, h7⟩ := Qgo (j := j) hl hn1 hL1 (by rw [hcnt]; exact hj)
  refine ⟨m, h1, h2, by rw [hatN]; exact h3, by rw [hatN, hatN, h3]; exact h5, by rw [hatN, h3]; exact h6, by rw [hatN, h3]; exact h7⟩
 have hun : ∀ {W' : World}, (∀ (b k : Nat) (v : Value), ¬ C b k → w.cell? ⟨b, k, none⟩ = some v → W'.cell? ⟨b, k, none⟩ = some v) → ∀ (c : AV) (v : Value), isD c = true → Rep ⟨w, [], [], C⟩ c v → Rep ⟨W', [], [], fun _ _ => False⟩ c v := fun h c v hd hr =>
  Rep.data (X := ⟨w, [], [], C⟩) (Y := ⟨_, [], [], fun _ _ => False⟩) (fun b k v hc ha => ⟨h b k v (fun h => ha (.inl h)) hc, fun h => by
   rcases h with h | ⟨o, x, c, h1, _⟩
   ·exact h.elim
   ·simp at h1⟩) c v hd hr
 have hlit : ∀ {W' : World}, (∀ (b k : Nat) (v : Value), ¬ C b k → w.cell? ⟨b, k, none⟩ = some v → W'.cell? ⟨b, k, none⟩ = some v) → Rep ⟨W', [], [], fun _ _ => False⟩ (.cell [.int .i64 k, .int .i64 x, .int .i64 r, .lit u3]) v1 := fun {W'} h => by
  have h1 : Rep ⟨w, [], [], C⟩ (.cell [.int .i64 k, .int .i64 x, .int .i64 r, .lit u3]) v1 := by
   simp only [Rep]
   exact ⟨b, o, _, hv1e, hat, by simp only [RepL, Rep]; exact ⟨u0, _, rfl, hu0, u1, _, rfl, hu1, u2, _, rfl, hu2, u3, _, rfl, rfl, rfl⟩⟩
  exact hun h _ _ rfl h1
 refine ⟨fun j => .slice (if cap = atN j.1 then sa else sa.map (·.add (atN j.1 * 1))) (atN (j.1 + 1) - atN j.1) (cap - atN j.1), fun j => ?rep, ?seq⟩
 case rep =>
  obtain ⟨m, h1, h2, h3, h4, h5, h6⟩ := pf j.1 j.2
  have g : Held 0 ⟨w, [], [], fun _ _ => False⟩ := ⟨rfl, by simp, by simp, by simp, fun _ _ h => h.elim, Nat.zero_le _⟩
  have e4 : ((atN (j.1 + 1) : Nat) - (atN j.1 : Nat) : Int).toNat = m * k := by omega
  have e5 : (QaV (L * k) l j.1).length = m * k := by rw [h5, List.length_take, List.length_drop, hl]; omega
  have hs : QfB [] 1 (il l) (atN j.1 : Nat) (atN (j.1 + 1) : Nat) = some (il (QaV (L * k) l j.1)) := by
   simp only [QfB, il]
   rw [if_pos (by omega), if_pos (by rw [hl]; simp [ks]; omega), e4, e5, h5]
   simp [ks, List.map_take, List.map_drop]
  have hr := Qp9 (X := ⟨w, [], [], fun b k => C b k ∧ b < w.heap.size⟩) (B := w.heap.size) ⟨rfl, by simp, by simp, by simp, fun _ _ h => h.2, Nat.le_refl _⟩ (η := fun _ => .any) (ρ := fun _ => undef) (fun _ => by simp only [Rep]) (sz := 1) (n := l.length) (cs := ks .i32 l) (a := sa) (cap := cap) (m := cap) (by
   rw [← e3]
   exact Rep.data (X := ⟨w, [], [], C⟩) (Y := ⟨w, [], [], fun b k => C b k ∧ b < w.heap.size⟩) (fun b k v hc ha => ⟨hc, fun h => ha (by
    rcases h with h | ⟨o, x, c, h1, _⟩
    ·exact .inl h.1
    ·simp at h1)⟩) _ _ (QZ l) hu3') rfl hs (by omega) (.inl (Nat.le_refl _))
  have hr2 := hr.2.2.2
  simp only [Int.toNat_natCast] at hr2
  exact Rep.data (X := ⟨w, [], [], fun b k => C b k ∧ b < w.heap.size⟩) (Y := ⟨w, [], [], C⟩) (fun b k v hc ha => ⟨hc, fun h => ha (by
   rcases h with h | ⟨o, x, c, h1, _⟩
   ·exact .inl ⟨h, World.block_lt_of_cell? w _ hc⟩
   ·simp at h1)⟩) _ _ (QZ _) hr2
 case seq =>
  intro ll J Jx W hW hJ hJx hY hJ0
  have hkw : ∀ (b k : Nat) (v : Value), ¬ C b k → w.cell? ⟨b, k, none⟩ = some v → W.cell? ⟨b, k, none⟩ = some v := fun b k v _ hc => (hW.cell (p := ⟨b, k, none⟩) (World.block_lt_of_cell? w _ hc)).trans hc
  obtain ⟨fn, hf, hnm, hN, hrl, hc'⟩ := bd
  obtain ⟨c, hb, hc⟩ := Option.bind_eq_some_iff.1 hc'
  refine callsIn_of_wp hf hb trivial ?_ rfl
  rw [hN]
  unfold J2 at hc
  obtain ⟨c1, r1, rfl, hc1, hr1⟩ := Jo hc
  obtain ⟨c2, r2, rfl, hc2, hr2⟩ := Jo hr1
  obtain ⟨c3, c4, rfl, hc3, hc4⟩ := Jo hr2
  obtain ⟨c5, rfl, hc5⟩ := Qix hc4
  obtain ⟨c6, rfl, hc6⟩ := Quo hc5
  obtain ⟨d1, s1, rfl, hd1, hs1⟩ := Jo hc6
  obtain ⟨d2, s2, rfl, hd2, hs2⟩ := Jo hs1
  obtain ⟨y1, y2, rfl, hy1, hy2⟩ := Qkw hd2
  obtain rfl := Qkv hy1
  obtain rfl := Qup hy2
  obtain ⟨d3, d9, rfl, hd3, hd9⟩ := Jo hs2
  obtain ⟨d4, rfl, hd4⟩ := Qix hd3
  obtain ⟨d5, s5, rfl, hd5, hs5⟩ := Jo hd4
  obtain ⟨d6, s6, rfl, hd6, hs6⟩ := Jo hs5
  obtain ⟨s7, d8, rfl, hs7, hd8⟩ := Jo hs6
  obtain ⟨d7, dc, rfl, hd7, hdc⟩ := Jo hs7
  obtain ⟨y3, y4, rfl, hy3, hy4⟩ := Qkw hdc
  obtain rfl := Qxc hy3
  obtain rfl := Qkv hy4
  obtain ⟨id7, ops, rfl, hm7⟩ := Qo0 hd7
  obtain ⟨l5, l3, hops, hm5, hm3⟩ := Qss (q1 := [_, _, _, _, _]) hm7
  obtain ⟨oS, l2, rfl, hoS, hm2⟩ := Qsr hm3
  obtain ⟨oY, l1, rfl, hoY, hm1⟩ := Qsr hm2
  generalize hyv : (Value.func (.yield ll) #[] #[]) = yv at *
  let a0 : Act := { tmps := #[yv] ++ #[v1] ++ Array.replicate (43 - (#[yv] ++ #[v1]).size) undef, defers := [] }
  show Code.wpIn _ _ _ _ _ a0 _
  have z0 : a0.tmps.size = 43 := by simp [a0]
  have t00 : a0.tmps.getD 0 undef = yv := by simp [a0]
  have t01 : a0.tmps.getD 1 undef = v1 := by simp [a0]
  let C0 : Nat → Nat → Prop := fun b k => C b k ∧ b < W.heap.size
  have g0 : Held W.heap.size ⟨W, [ph2], [none], C0⟩ := by
   have g := (Held.empty (B := W.heap.size) (X := ⟨W, [], [], C0⟩) ⟨rfl, by simp, by simp, by simp, fun _ _ h => h.2, Nat.le_refl _⟩ 1 0).1
   exact g
  have hC0 : ∀ c v, isD c = true → Rep ⟨w, [], [], C⟩ c v → Rep ⟨W, [ph2], [none], C0⟩ c v := fun c v hd hr =>
   Rep.data (X := ⟨w, [], [], C⟩) (Y := ⟨W, [ph2], [none], C0⟩) (fun b k v hc ha => ⟨hkw b k v (fun h => ha (.inl h)) hc, fun h => by
    rcases h with h | ⟨o, x, c, h1, h2, _⟩
    ·exact ha (.inl h.1)
    ·rcases o with _ | o <;> simp at h2⟩) c v hd hr
  let Γ0 : Ctx := ⟨W.heap.size, ⟨W, [ph2], [none], C0⟩, 43, []⟩
  have hs0 : Sim Γ0 ⟨[(0, .lit yv), (1, .cell [.int .i64 k, .int .i64 x, .int .i64 r, il l])], [ph2]⟩ a0 W :=
   ⟨rfl, z0, Below.refl _ _, [none], g0, Moves.refl _, Q4 (by rw [t00]; simp only [Rep]) (Q4 (by rw [t01]; exact hC0 _ _ (by simp [isD, isDL, QZ]) hv1') QdI)⟩
  have hF0 : Fit P 43 Γ0 := ⟨rfl, fun q cs hq => hC0 _ _ (by simp only [isD]; exact P.gd q cs hq) (hG q cs hq)⟩
  refine wpIn_seq ?_
  have hk0 : ((n * k : Nat) : Int) / (k : Int) = n := by
   rw [Int.natCast_mul, Int.mul_ediv_cancel _ (by omega)]
  have hk3 : ((n * k : Nat) : Int).tdiv (k : Int) = n := by rw [Int.tdiv_eq_ediv_of_nonneg (by omega), hk0]
  refine QwM (Q := fun _ st' => st'.ob = [⟨t0, 1, cnt, ks .i64 (Q7 L n), 0⟩] ∧ look st'.fr 0 = .lit yv ∧ look st'.fr 3 = .own 0 cnt) hF0 hc1 1 (by rfl) t01 ?_ hs0 ?_
  ·simp only [il]
   simp (disch := omega) only [rq, simprocAttr, hl, hk3, hk0]
   refine ⟨shr 0 (.tup [.own 0 cnt, .int .i64 0]), some (0, ⟨t0, 1, cnt, ks .i64 (Q7 L n), 0⟩), ?_, ?_⟩
   ·unfold QcV
    rw [if_pos rfl]
    exact ⟨ACall.of_vo_at hA' rfl ⟨rfl, rfl⟩, fun o x' e => by cases e; exact ⟨ph2, rfl, by simp [ph2, ph]⟩⟩
   ·simp (disch := omega) only [rq, simprocAttr, shr]
  ·intro st1 a1 W1 ⟨hob1, h10, h13⟩ hs1 t11
   show (Code.seq c2 _).wpIn Fence.wide 4 _ _ a1 W1
   let row : Ob := ⟨t0, 1, cnt, ks .i64 (Q7 L n), 0⟩
   have hs1' : Sim Γ0 ⟨[(0, .lit yv), (3, .own 0 cnt)], [row]⟩ a1 W1 := by
    have h : st1 = ⟨st1.fr, [row]⟩ := by rw [← hob1]
    rw [h] at hs1
    exact Le.slots (M := 1) (by simp [h10, h13]) Γ0 a1 W1 rfl hs1
   refine wpIn_seq ?_
   refine Qcv (Q := fun _ st' => st' = ⟨[(5, .int .i64 0), (0, .lit yv), (3, .own 0 cnt)], [row]⟩) hF0 hc2 [(1, v1)] (by simp only [List.mem_singleton]; rintro _ rfl; exact ⟨rfl, t11⟩) (by simp (disch := omega) only [rq, simprocAttr]) hs1' ?_
   rintro _ a2 W2 rfl hs2 t2
   show (Code.seq c3 _).wpIn Fence.wide 4 _ _ a2 W2
   refine wpIn_seq ?_
   refine Qcv (Q := fun _ st' => st' = ⟨[(23, .int .i64 0), (22, .int .i64 cnt), (21, .own 0 cnt), (5, .int .i64 0), (0, .lit yv), (3, .own 0 cnt)], [row]⟩) hF0 hc3 [(1, v1)] (by simp only [List.mem_singleton]; rintro _ rfl; exact ⟨rfl, t2 _ (by simp)⟩) (by simp (disch := omega) only [rq, simprocAttr, row]) hs2 ?_
   rintro _ a3 W3 rfl hs3 t3
   show (Code.block 0 (.loop _)).wpIn Fence.wide 4 _ _ a3 W3
   obtain ⟨f1, f2, f3, be, f4, f5, f6⟩ := hs3
   have f1' : a3.defers = [] := f1
   have f2' : a3.tmps.size = 43 := f2
   obtain ⟨e, he, hoke⟩ := f4.get (o := 0) (x := row) rfl
   have f21 := f6 21
   simp only [look, Nat.reduceEqDiff, if_false, if_true, Rep] at f21
   obtain ⟨⟨rw', hrw, _, _, hown⟩, _⟩ := f21
   have hrw' : row = rw' := by simpa using hrw
   subst hrw'
   have hown' := hown rfl
   have he' : be[0]? = some e := he
   simp only [he'] at hown'
   cases e with
   | none => exact absurd hoke.1 (by simp only [row]; omega)
   | some p =>
   obtain ⟨br, capr⟩ := p
   obtain ⟨cur, ⟨frz, hblk, _⟩, hcs, hnc, _, hcl, hcr, hone⟩ := hoke
   simp only [OwnV] at hown'
   have hblk' : W3.heap[br]? = some (.cells cur t0 frz) := hblk
   obtain ⟨sv, hsv⟩ : ∃ sv, sv = Value.slice (some ⟨br, 0, none⟩) cnt capr := ⟨_, rfl⟩
   have hcr' : ∀ {Y : Cx}, RepL Y (ks .i64 (Q7 L n)) (cur.toList.take cnt) := fun {Y} => by
    have h := RepL.flat (Y := Y) (by simp [row, ks, flat]) hcr
    have e : row.cs.length = cnt := by simp [row, ks, hcnt]
    rw [e] at h
    exact h
   have hrowR : ∀ {W' : World}, W'.heap[br]? = some (.cells cur t0 frz) → Rep ⟨W', [], [], fun _ _ => False⟩ (.list cnt (ks .i64 (Q7 L n))) sv := fun {W'} h => by
    simp only [Rep]
    refine ⟨_, _, cur.toList.take cnt, hsv, hnc, .inr ⟨br, 0, rfl, fun i v hv => ?_⟩, hcr'⟩
    rw [List.getElem?_take] at hv
    split at hv
    ·have hv2 : cur[i]? = some v := by simpa using hv
     refine ⟨⟨by simp [World.cell?, h, hv2], fun h => ?_⟩, hone v (by
      obtain ⟨h1, h2⟩ := Array.getElem?_eq_some_iff.1 hv2
      rw [← h2]; simp)⟩
     rcases h with h | ⟨o, x, c, h1, _⟩
     ·exact h.elim
     ·simp at h1
    ·cases hv
   have hJ3 : J [] W3 := hJ _ W W3 none hJ0 (Qbo f3) (fun r h => by cases h)
   refine wpIn_block ?_
   refine wpIn_loop (fun a W' => ∃ j, j ≤ cnt ∧ a.defers = [] ∧ a.tmps.size = 43 ∧ a.tmps.getD 0 undef = yv ∧ a.tmps.getD 1 undef = v1 ∧ a.tmps.getD 5 undef = .int .i64 (atN j : Nat) ∧ a.tmps.getD 21 undef = sv ∧ a.tmps.getD 22 undef = .int .i64 cnt ∧ a.tmps.getD 23 undef = .int .i64 j ∧
     W'.heap[br]? = some (.cells cur t0 frz) ∧ (∀ (b k : Nat) (v : Value), ¬ C b k → w.cell? ⟨b, k, none⟩ = some v → W'.cell? ⟨b, k, none⟩ = some v) ∧ J ((List.finRange cnt).take j) W')
    (fun a _ => match a.tmps.getD 23 undef with | .int _ z => cnt - z.toNat | _ => 0) ?_ ?_
   ·refine ⟨0, Nat.zero_le _, f1', f2', ?_, t3 (1, v1) (by simp), ?_, by rw [hsv]; exact hown', ?_, ?_, hblk', ?_, hJ3⟩
    ·have h := f6 0
     simpa [look, Rep] using h
    ·have h := f6 5
     have e0 : atN 0 = 0 := by rw [hatN]; simp
     simpa [look, Rep, e0] using h
    ·have h := f6 22
     simpa [look, Rep] using h
    ·have h := f6 23
     simpa [look, Rep] using h
    ·intro b k v hc hv
     have h := hkw b k v hc hv
     exact (f3.cell (p := ⟨b, k, none⟩) (World.block_lt_of_cell? W _ h)).trans h
   intro a Wj ⟨j, hj, i1, i2, i3, i4, i5, i6, i7, i8, i9, i10, i11⟩
   let ΓW : World → Ctx := fun W' => ⟨W'.heap.size, ⟨W', [], [], fun _ _ => False⟩, 43, []⟩
   have hF : ∀ {W' : World}, (∀ (b k : Nat) (v : Value), ¬ C b k → w.cell? ⟨b, k, none⟩ = some v → W'.cell? ⟨b, k, none⟩ = some v) → Fit P 43 (ΓW W') := fun {W'} h => ⟨rfl, fun q cs hq => hun h _ _ (by simp only [isD]; exact P.gd q cs hq) (hG q cs hq)⟩
   have hsA : Sim (ΓW Wj) ⟨[(0, .lit yv), (1, .cell [.int .i64 k, .int .i64 x, .int .i64 r, .lit u3]), (5, .int .i64 (atN j : Nat)), (21, .list cnt (ks .i64 (Q7 L n))), (22, .int .i64 cnt), (23, .int .i64 j)], []⟩ a Wj :=
    QBY i1 i2 (Q4 (by rw [i3]; simp only [Rep]) (Q4 (by rw [i4]; exact hlit i10) (Q4 (by rw [i5]; simp only [Rep]) (Q4 (by rw [i6]; exact hrowR i9) (Q4 (by rw [i7]; simp only [Rep]) (Q4 (by rw [i8]; simp only [Rep]) QdI))))))
   have hI : ∀ {qs : List AO} {a : Act}, Qh8 1 qs = true → Qh8 21 qs = true → a.tmps.getD 1 undef = v1 → a.tmps.getD 21 undef = sv → ∀ p ∈ [(1, v1), (21, sv)], Qh8 p.1 qs = true ∧ a.tmps.getD p.1 undef = p.2 := fun h1 h2 h3 h4 p hp => by
    simp only [List.mem_cons, List.not_mem_nil, or_false] at hp
    rcases hp with rfl | rfl
    ·exact ⟨h1, h3⟩
    ·exact ⟨h2, h4⟩
   refine wpIn_seq ?_
   refine Qcv (Q := fun _ st' => st' = ⟨[(24, .bool (decide ((j : Int) < cnt))), (0, .lit yv), (1, .cell [.int .i64 k, .int .i64 x, .int .i64 r, .lit u3]), (5, .int .i64 (atN j : Nat)), (21, .list cnt (ks .i64 (Q7 L n))), (22, .int .i64 cnt), (23, .int .i64 j)], []⟩) (hF i10) hd1 [(1, v1), (21, sv)] (hI rfl rfl i4 i6) (by simp (disch := omega) only [rq, simprocAttr]) hsA ?_
   rintro _ aB WB rfl hsB tB
   have bW : Below Wj.heap.size Wj WB := hsB.2.2.1
   show (Code.seq (.cond _ .skip (.exit 0)) _).wpIn Fence.wide 4 _ _ aB WB
   have h24 : aB.eval (.tmp 24) = .bool (decide ((j : Int) < cnt)) := by
    obtain ⟨_, _, _, _, _, _, h⟩ := hsB
    have h : Rep _ (.bool _) (aB.tmps.getD 24 undef) := h 24
    simp only [Rep] at h
    exact h
   refine wpIn_seq ?_
   by_cases hjc : j < cnt
   ·have e24 : decide ((j : Int) < cnt) = true := by simp; omega
    rw [e24] at h24 hsB
    obtain ⟨m, p1, p2, p3, p4, p5, p6⟩ := pf j hjc
    have la : (ks .i64 (Q7 L n)).drop j = .int .i64 m :: (ks .i64 (Q7 L n)).drop (j + 1) := by
     have h := Qcf (K := .i64) (l := Q7 L n) (i := j) (by omega)
     rw [p1, ← QaJ] at h
     exact h
    refine wpIn_cond_true h24 (wpIn_skip ?_)
    show (Code.seq (.block 1 (.seq d5 _)) _).wpIn Fence.wide 4 _ _ aB WB
    obtain ⟨mk, hmk⟩ : ∃ mk, m * k = mk := ⟨_, rfl⟩
    rw [hmk] at p4 p5 p6
    have emk : (m : Int) * (k : Int) = mk := by rw [← hmk]; simp
    have e8 : ((atN j : Nat) : Int) + (mk : Int) = ((atN (j + 1) : Nat) : Int) := by omega
    obtain ⟨nk, hnk'⟩ : ∃ nk, n * k = nk := ⟨_, rfl⟩
    rw [hnk'] at p6 hnk hcap hl
    have hm4 : (m : Int) ≤ 4000 := by omega
    refine wpIn_seq (wpIn_block (wpIn_seq ?_))
    refine Qcv (Q := fun _ st' => Le 0 st' ⟨[(7, .int .i64 m), (0, .lit yv), (1, .cell [.int .i64 k, .int .i64 x, .int .i64 r, .lit u3]), (5, .int .i64 (atN j : Nat)), (21, .list cnt (ks .i64 (Q7 L n))), (22, .int .i64 cnt), (23, .int .i64 j)], []⟩) (hF i10) hd5 [(1, v1), (21, sv)] (hI rfl rfl (tB (1, v1) (by simp)) (tB (21, sv) (by simp)))
     (by simp (disch := omega) only [rq, simprocAttr, la, Qg]; exact Le.slots (by simp [Am.look])) hsB ?_
    intro st5 a5 W5 hle5 hs5' t5
    have hs5 := hle5 _ _ _ rfl hs5'
    show (Code.seq d6 _).wpIn Fence.wide 4 _ _ a5 W5
    refine wpIn_seq ?_
    refine Qcv (Q := fun _ st' => Le 0 st' ⟨[(8, .int .i64 (atN (j + 1) : Nat)), (0, .lit yv), (1, .cell [.int .i64 k, .int .i64 x, .int .i64 r, .lit u3]), (5, .int .i64 (atN j : Nat)), (21, .list cnt (ks .i64 (Q7 L n))), (22, .int .i64 cnt), (23, .int .i64 j)], []⟩) (hF i10) hd6 [(1, v1), (21, sv)] (hI rfl rfl (t5 (1, v1) (by simp)) (t5 (21, sv) (by simp)))
     (by simp (disch := omega) only [rq, simprocAttr, emk, e8]; exact Le.slots (by simp [Am.look])) hs5 ?_
    intro st6 a6 W6 hle6 hs6' t6
    have hs6 := hle6 _ _ _ rfl hs6'
    show (Code.seq (.seq (.region id7 ops false) _) d8).wpIn Fence.wide 4 _ _ a6 W6
    refine wpIn_seq (wpIn_seq (wpIn_region_list ?_))
    rw [hops]
    refine Qc9 l5 _ a6 W6 (QJ ?_ _ _ _ (QfM (Q := fun _ st' => Le 0 st' ⟨[(33, .lit yv), (0, .lit yv), (35, .lit u3), (36, .int .i64 (atN j : Nat)), (37, .int .i64 (atN (j + 1) : Nat)), (8, .int .i64 (atN (j + 1) : Nat)), (22, .int .i64 cnt), (23, .int .i64 j)], []⟩) (hF i10) hm5 [(1, v1), (21, sv)] (hI rfl rfl (t6 (1, v1) (by simp)) (t6 (21, sv) (by simp)))
     (by simp (disch := omega) only [rq, simprocAttr]; exact Le.slots (by simp [Am.look])) hs6))
    rintro _ a7 W7 ⟨rfl, st7, hle7, hs7', t7⟩
    have hs7 := hle7 _ _ _ rfl hs7'
    show wpListIn Fence.wide 4 _ _ _ (oS :: oY :: l1) a7 W7
    have W7b : Below Wj.heap.size Wj W7 := hs7.2.2.1
    have hd7 : a7.defers = [] := hs7.1
    have hz7 : a7.tmps.size = 43 := hs7.2.1
    have f7 : ∀ {i : Nat} {v : Value}, Rep ⟨W7, [], [], fun _ _ => False⟩ (.lit v) (a7.tmps.getD i undef) → a7.tmps.getD i undef = v := fun h => by simpa only [Rep] using h
    have f33 : a7.tmps.getD 33 undef = yv := by obtain ⟨_, _, _, _, _, _, h⟩ := hs7; have h : Rep _ (.lit yv) (a7.tmps.getD 33 undef) := h 33; simpa only [Rep] using h
    have f35 : a7.tmps.getD 35 undef = u3 := by obtain ⟨_, _, _, _, _, _, h⟩ := hs7; have h : Rep _ (.lit u3) (a7.tmps.getD 35 undef) := h 35; simpa only [Rep] using h
    have f8 : a7.tmps.getD 8 undef = .int .i64 (atN (j + 1) : Nat) := by obtain ⟨_, _, _, _, _, _, h⟩ := hs7; have h : Rep _ (.int .i64 _) (a7.tmps.getD 8 undef) := h 8; simpa only [Rep] using h
    have f22 : a7.tmps.getD 22 undef = .int .i64 cnt := by obtain ⟨_, _, _, _, _, _, h⟩ := hs7; have h : Rep _ (.int .i64 _) (a7.tmps.getD 22 undef) := h 22; simpa only [Rep] using h
    have f23 : a7.tmps.getD 23 undef = .int .i64 j := by obtain ⟨_, _, _, _, _, _, h⟩ := hs7; have h : Rep _ (.int .i64 _) (a7.tmps.getD 23 undef) := h 23; simpa only [Rep] using h
    obtain ⟨be7, g7, _, hη, _⟩ := hs7.eta (hF i10).2
    obtain ⟨cS, dS, _, gS⟩ := X3 hoS
    obtain ⟨tS, eS, opS, uS, zS⟩ := Qw7 (Qkx cS (by intro h; cases h))
    have gS' : oS.guard = none := by
     rcases gS with ⟨h, _⟩ | ⟨_, _, _, _, _, h⟩
     ·exact h
     ·cases h
    have ex : a7.eval (.tmp 35) = .slice sa nk cap := by rw [← hl]; exact f35.trans e3
    have hrun := Qp0 (X := ⟨W7, [], be7, fun _ _ => False⟩) g7 hη opS uS zS ex (l := (atN j : Nat)) (h := (atN (j + 1) : Nat)) (by simp [loA, opd, look]) (by simp [hiA, opd, look]) (by omega) (by omega) (by omega)
    simp only [Int.toNat_natCast] at hrun
    unfold wpListIn
    rw [if_pos (by simp [Region.wanted, gS'])]
    unfold Oper.wpIn
    refine ⟨fun _ _ => trivial, ?_⟩
    rw [QBK, hrun]
    show wpListIn Fence.wide 4 _ _ _ (oY :: l1) (a7.put oS.dst _) W7
    rw [← dS]
    obtain ⟨cY, dY, _, gY⟩ := X3 hoY
    obtain ⟨cl, opY, calY, argY⟩ := Qdm cY
    have gY' : oY.guard = none := by
     rcases gY with ⟨h, _⟩ | ⟨_, _, _, _, _, h⟩
     ·exact h
     ·cases h
    have argY' : cl.args = #[.tmp 38] := Array.ext' argY.symm
    unfold wpListIn
    rw [if_pos (by simp [Region.wanted, gY'])]
    have hJ7 : J ((List.finRange cnt).take j) W7 := hJ _ Wj W7 none i11 (Qbo W7b) (fun r h => by cases h)
    have hlen : ((List.finRange cnt).take j).length < cnt := by simp; omega
    obtain ⟨vj, hvj⟩ : ∃ vj : Value, vj = .slice (if cap = atN j then sa else sa.map (·.add (atN j * 1))) (atN (j + 1) - atN j) (cap - atN j) := ⟨_, rfl⟩
    have hY' := hY ((List.finRange cnt).take j) ⟨j, hjc⟩ W7 hJ7 hlen
    simp only at hY'
    rw [← hvj] at hY' ⊢
    have p38 : (a7.put (some 38) vj).tmps.getD 38 undef = vj := by simp [Act.put, hz7]
    have p33 : (a7.put (some 38) vj).tmps.getD 33 undef = .func (.yield ll) #[] #[] := by rw [JT (by simp), f33]; exact hyv.symm
    refine QsZ opY calY argY' p33 p38 hY' ?_
    rw [← dY]
    have z8 : ∀ bb : Bool, ((a7.put (some 38) vj).put (some 39) (.bool bb)).tmps.size = 43 := fun bb => by rw [Qhw, Qhw]; exact hz7
    have p39 : ∀ bb : Bool, ((a7.put (some 38) vj).put (some 39) (.bool bb)).tmps.getD 39 undef = .bool bb := fun bb => by simp [Act.put, hz7]
    have pO : ∀ (bb : Bool) (i : Nat), i ≠ 38 → i ≠ 39 → ((a7.put (some 38) vj).put (some 39) (.bool bb)).tmps.getD i undef = a7.tmps.getD i undef := fun bb i h1 h2 => by
     rw [JT (by simpa using fun h => h2 h.symm), JT (by simpa using fun h => h1 h.symm)]
    have d8' : ∀ bb : Bool, ((a7.put (some 38) vj).put (some 39) (.bool bb)).defers = [] := fun bb => by rw [Qgm, Qgm]; exact hd7
    have hI3 : ∀ {qs : List AO} {a : Act}, Qh8 0 qs = true → Qh8 1 qs = true → Qh8 21 qs = true → a.tmps.getD 0 undef = yv → a.tmps.getD 1 undef = v1 → a.tmps.getD 21 undef = sv → ∀ p ∈ [(0, yv), (1, v1), (21, sv)], Qh8 p.1 qs = true ∧ a.tmps.getD p.1 undef = p.2 := fun h1 h2 h3 h4 h5 h6 p hp => by
     simp only [List.mem_cons, List.not_mem_nil, or_false] at hp
     rcases hp with rfl | rfl | rfl
     ·exact ⟨h1, h4⟩
     ·exact ⟨h2, h5⟩
     ·exact ⟨h3, h6⟩
    have f0 : a7.tmps.getD 0 undef = yv := by obtain ⟨_, _, _, _, _, _, h⟩ := hs7; have h : Rep _ (.lit yv) (a7.tmps.getD 0 undef) := h 0; simpa only [Rep] using h
    have q0 : ∀ bb : Bool, _ := fun bb => (pO bb 0 (by omega) (by omega)).trans f0
    have q1 : ∀ bb : Bool, _ := fun bb => (pO bb 1 (by omega) (by omega)).trans (t7 (1, v1) (by simp))
    have q21 : ∀ bb : Bool, _ := fun bb => (pO bb 21 (by omega) (by omega)).trans (t7 (21, sv) (by simp))
    rintro e W8 (⟨rfl, hJ8, hK8⟩ | ⟨rfl, hX8⟩)
    ·refine ⟨true, rfl, ?_⟩
     have hbr7 : W7.heap[br]? = some (.cells cur t0 frz) := (W7b.block br (Array.getElem?_eq_some_iff.1 i9).1).trans i9
     have hbr8 : W8.heap[br]? = some (.cells cur t0 frz) := (hK8.1 br cur t0 frz hbr7 (by simp)).trans hbr7
     have hk8 : ∀ (b k : Nat) (v : Value), ¬ C b k → w.cell? ⟨b, k, none⟩ = some v → W8.cell? ⟨b, k, none⟩ = some v := fun b k v hc hv => by
      have h1 := i10 b k v hc hv
      exact hK8.2 b k v hc ((W7b.cell (p := ⟨b, k, none⟩) (World.block_lt_of_cell? Wj _ h1)).trans h1)
     have hs8 : Sim (ΓW W8) ⟨[(39, .bool true), (8, .int .i64 (atN (j + 1) : Nat)), (22, .int .i64 cnt), (23, .int .i64 j)], []⟩ ((a7.put (some 38) vj).put (some 39) (.bool true)) W8 :=
      QBY (d8' true) (z8 true) (Q4 (by rw [p39]; simp only [Rep]) (Q4 (by rw [pO true 8 (by omega) (by omega), f8]; simp only [Rep]) (Q4 (by rw [pO true 22 (by omega) (by omega), f22]; simp only [Rep]) (Q4 (by rw [pO true 23 (by omega) (by omega), f23]; simp only [Rep]) QdI))))
     refine QJ ?_ _ _ _ (QfM (Q := fun _ st' => Le 0 st' ⟨[(40, .bool false), (8, .int .i64 (atN (j + 1) : Nat)), (22, .int .i64 cnt), (23, .int .i64 j)], []⟩) (hF hk8) hm1 [(0, yv), (1, v1), (21, sv)] (hI3 rfl rfl rfl (q0 true) (q1 true) (q21 true))
      (by simp (disch := omega) only [rq, simprocAttr, Bool.not_true]; exact Le.slots (by simp [Am.look])) hs8)
     rintro _ a9 W9 ⟨rfl, st9, hle9, hs9', t9⟩
     have hs9 := hle9 _ _ _ rfl hs9'
     show (Code.cond _ .ret .skip).wpIn Fence.wide 4 _ _ a9 W9
     have h40 : a9.eval (.tmp 40) = .bool false := by obtain ⟨_, _, _, _, _, _, h⟩ := hs9; have h : Rep _ (.bool _) (a9.tmps.getD 40 undef) := h 40; simp only [Rep] at h; exact h
     refine wpIn_cond_false h40 (wpIn_skip ?_)
     show d8.wpIn Fence.wide 4 _ _ a9 W9
     refine Qcv (Q := fun _ st' => Le 0 st' ⟨[(5, .int .i64 (atN (j + 1) : Nat)), (22, .int .i64 cnt), (23, .int .i64 j)], []⟩) (hF hk8) hd8 [(0, yv), (1, v1), (21, sv)] (hI3 rfl rfl rfl (t9 (0, yv) (by simp)) (t9 (1, v1) (by simp)) (t9 (21, sv) (by simp)))
      (by simp (disch := omega) only [rq, simprocAttr]; exact Le.slots (by simp [Am.look])) hs9 ?_
     intro stA aA WA hleA hsA' tA
     have hsA2 := hleA _ _ _ rfl hsA'
     show d9.wpIn Fence.wide 4 _ _ aA WA
     refine Qcv (Q := fun _ st' => Le 0 st' ⟨[(5, .int .i64 (atN (j + 1) : Nat)), (22, .int .i64 cnt), (23, .int .i64 ((j + 1 : Nat) : Int))], []⟩) (hF hk8) hd9 [(0, yv), (1, v1), (21, sv)] (hI3 rfl rfl rfl (tA (0, yv) (by simp)) (tA (1, v1) (by simp)) (tA (21, sv) (by simp)))
      (by simp (disch := omega) only [rq, simprocAttr]; exact Le.slots (by simp [Am.look])) hsA2 ?_
     intro stC aC WC hleC hsC' tC
     have hsC := hleC _ _ _ rfl hsC'
     have WCb : Below W8.heap.size W8 WC := hsC.2.2.1
     obtain ⟨h1, h2, _, _, _, _, hC⟩ := hsC
     have c5 : aC.tmps.getD 5 undef = .int .i64 (atN (j + 1) : Nat) := by have h : Rep _ (.int .i64 _) (aC.tmps.getD 5 undef) := hC 5; simpa only [Rep] using h
     have c22 : aC.tmps.getD 22 undef = .int .i64 cnt := by have h : Rep _ (.int .i64 _) (aC.tmps.getD 22 undef) := hC 22; simpa only [Rep] using h
     have c23 : aC.tmps.getD 23 undef = .int .i64 ((j + 1 : Nat) : Int) := by have h : Rep _ (.int .i64 _) (aC.tmps.getD 23 undef) := hC 23; simpa only [Rep] using h
     refine ⟨⟨j + 1, by omega, h1, h2, tC (0, yv) (by simp), tC (1, v1) (by simp), c5, tC (21, sv) (by simp), c22, c23, (WCb.block br (Array.getElem?_eq_some_iff.1 hbr8).1).trans hbr8, fun b k v hc hv => ?_, ?_⟩, ?_⟩
     ·have h := hk8 b k v hc hv
      exact (WCb.cell (p := ⟨b, k, none⟩) (World.block_lt_of_cell? W8 _ h)).trans h
     ·rw [QwD hjc]
      exact hJ _ W8 WC none hJ8 (Qbo WCb) (fun r h => by cases h)
     ·simp only [c23, i8, Int.toNat_natCast]
      omega
    ·refine ⟨false, rfl, ?_⟩
     have hs8 : Sim (ΓW W8) ⟨[(39, .bool false)], []⟩ ((a7.put (some 38) vj).put (some 39) (.bool false)) W8 :=
      QBY (d8' false) (z8 false) (Q4 (by rw [p39]; simp only [Rep]) QdI)
     let P0 : Prg := ⟨P.prog, [], fun _ _ h => by cases h⟩
     refine QJ ?_ _ _ _ (QfM (P := P0) (N := 43) (Γ := ΓW W8) (Q := fun _ st' => Le 0 st' ⟨[(40, .bool true)], []⟩) ⟨rfl, fun _ _ h => by cases h⟩ hm1 [] (fun p hp => by cases hp)
      (by simp (disch := omega) only [rq, simprocAttr, Bool.not_false]; exact Le.slots (by simp [Am.look])) hs8)
     rintro _ a9 W9 ⟨rfl, st9, hle9, hs9', t9⟩
     have hs9 := hle9 _ _ _ rfl hs9'
     show (Code.cond _ .ret .skip).wpIn Fence.wide 4 _ _ a9 W9
     have h40 : a9.eval (.tmp 40) = .bool true := by obtain ⟨_, _, _, _, _, _, h⟩ := hs9; have h : Rep _ (.bool _) (a9.tmps.getD 40 undef) := h 40; simp only [Rep] at h; exact h
     refine wpIn_cond_true h40 (wpIn_ret ?_)
     have hX9 := hJx _ W8 W9 none hX8 (Qbo hs9.2.2.1) (fun r h => by cases h)
     exact ⟨hs9.1, .tuple #[], results_none (Array.ext' hrl) _ _ _, ⟨_, rfl⟩, .inr ⟨_, trivial, hX9⟩⟩
   ·have e24 : decide ((j : Int) < cnt) = false := by simp; omega
    rw [e24] at h24
    refine wpIn_cond_false h24 (wpIn_exit ?_)
    have hjc' : j = cnt := by omega
    rw [hjc', List.take_of_length_le (by simp)] at i11
    have hJB : J (List.finRange cnt) WB := hJ _ Wj WB none i11 (Qbo bW) (fun r h => by cases h)
    have hdB : aB.defers = [] := hsB.1
    exact ⟨hdB, .tuple #[], results_none (Array.ext' hrl) _ _ _, ⟨_, rfl⟩, .inl ⟨_, rfl, hJB⟩⟩
def Qi2 (g : Nat) (P : Prg) (f : Nat) : Prop := ∀ (c x r : Int) (l : List Int), VC P f [clA c x r l] (.fn (.func g) [] [.cell [.int .i64 c, .int .i64 x, .int .i64 r, il l]])
theorem Quh {P : Prg} {f g t0 : Nat} (b : Qf P f 4 [.tmp 2] (QcO g t0)) : Qi2 g P f := by
 intro c x r l
 refine VC.of_walk 1 (by simp [isDL, isD, QZ, clA]) (by simp [isD, isDL, QZ]) (ACall.of_body b (by simp) ?_)
 simp (disch := omega) only [rq, simprocAttr, QcO, clA, il]
 simp [QF, Qu, frzL, Qs, isDL, isD, frzL_T _ (Qm .i32 _)]
def QV (c r : Int) (l : List Int) : List (List Int) := (List.range (Q7 (QL r).toNat (l.length / c.toNat)).length).map (QaV ((QL r).toNat * c.toNat) l)
theorem Qan {c x r : Int} {l : List Int} (h : Zc c x r l = 0) : ∃ k n : Nat, c = k ∧ 1 ≤ k ∧ k ≤ 1000 ∧ l.length = n * k ∧ okA r n ∧ l.length ≤ 4000 := by
 unfold Zc at h
 split at h
 ·cases h
 rename_i h1
 split at h
 ·cases h
 rename_i h2
 split at h
 ·cases h
 rename_i h3
 have h3' : Xz c x r (l.length / c) = 0 := by simpa using h3
 have h2' : (l.length : Int) % c = 0 := by simpa using h2
 obtain ⟨k, rfl⟩ : ∃ k : Nat, c = k := ⟨c.toNat, by omega⟩
 have e1 : (l.length : Int) / (k : Int) = ((l.length / k : Nat) : Int) := by simp
 have e2 : l.length % k = 0 := by exact_mod_cast h2'
 rw [e1] at h3'
 have e3 := Nat.div_add_mod l.length k
 rw [e2, Nat.add_zero, Nat.mul_comm] at e3
 unfold Xz at h3'
 split at h3'
 ·cases h3'
 rename_i a1
 split at h3'
 ·cases h3'
 rename_i a2
 split at h3'
 ·cases h3'
 rename_i a3
 split at h3'
 ·cases h3'
 rename_i a4
 obtain ⟨n, hn⟩ : ∃ n, l.length / k = n := ⟨_, rfl⟩
 rw [hn] at e3 a2 a3 a4
 have a5 : ZC k x = 0 := by simpa using a1
 have a6 : QjS r n = 0 := by simpa using a4
 rcases ZB (k : Int) x with h4 | ⟨_, h5, h6, h7⟩
 ·omega
 have hle : n * k ≤ 4000 := by
  have h8 : (n : Int) ≤ 4000 / (k : Int) := by omega
  have h9 := Int.mul_le_of_le_ediv (a := (n : Int)) (b := 4000) (c := (k : Int)) (by omega) h8
  have h10 : ((n * k : Nat) : Int) ≤ 4000 := by rw [Int.natCast_mul]; exact h9
  omega
 have hn4 : n ≤ 4000 := Nat.le_trans (Nat.le_mul_of_pos_right n (by omega)) hle
 refine ⟨k, n, rfl, by omega, by omega, e3.symm, ?_, by omega⟩
 unfold QjS at a6
 split at a6
 ·cases a6
 split at a6
 ·cases a6
 split at a6
 ·cases a6
 rename_i b1 b2 b3
 refine ⟨by omega, by omega, by omega, by omega, ?_⟩
 have hlong : 1 ≤ QL r := Xw r
 obtain ⟨L, hLe⟩ : ∃ L : Nat, QL r = L := ⟨(QL r).toNat, by omega⟩
 rw [hLe, Int.toNat_natCast, Int.toNat_natCast, Xx]
 rw [hLe] at b3
 have h1 : (n : Int) + (L : Int) - 1 = ((n - 1 + L : Nat) : Int) := by omega
 rw [h1, ← Int.natCast_ediv, Nat.add_div_right _ (by omega)] at b3
 omega
theorem QeM (c r : Int) (l : List Int) : (QV c r l).length = (Q7 (QL r).toNat (l.length / c.toNat)).length := by simp [QV]
theorem Qbm (c x r : Int) (l : List Int) : Zc c x r l = 0 ∨ Zc c x r l = 8 := by
 unfold Zc; repeat' split
 all_goals simp
theorem Qkb (Lc : Nat) (l : List Int) : ∀ m : Nat, ((List.range m).map (QaV Lc l)).flatten = l.take (m * Lc)
 | 0 => by simp
 | m + 1 => by
  rw [List.range_succ, List.map_append, List.flatten_append, Qkb Lc l m, Nat.add_mul, Nat.one_mul, List.take_add]
  simp [QaV]
theorem Qgn {c x r : Int} {l : List Int} (h : Zc c x r l = 0) : (QV c r l).flatten = l := by
 obtain ⟨k, n, rfl, h1, h2, h3, ⟨o1, o2, o3, o4, o5⟩, h4⟩ := Qan h
 unfold QV
 rw [Qkb, Int.toNat_natCast, h3, Nat.mul_div_cancel _ (by omega), Xx, List.take_of_length_le]
 have hL : 1 ≤ (QL r).toNat := by have := Xw r; omega
 have g2 : n - 1 < (n - 1) / (QL r).toNat * (QL r).toNat + (QL r).toNat := Nat.lt_div_mul_add (by omega)
 rw [h3, ← Nat.mul_assoc, Nat.add_mul, Nat.one_mul]
 refine Nat.mul_le_mul_right _ ?_
 generalize (n - 1) / (QL r).toNat * (QL r).toNat = w at *
 omega
theorem Qce {c x r : Int} {l : List Int} (h : Zc c x r l = 0) : (QV c r l).length ≤ 1000 := by
 obtain ⟨k, n, rfl, h1, h2, h3, ⟨o1, o2, o3, o4, o5⟩, h4⟩ := Qan h
 rw [QeM, Int.toNat_natCast, h3, Nat.mul_div_cancel _ (by omega)]
 rwa [Int.toNat_natCast] at o5
theorem QAu {L : List (List Int)} {z : Nat} (h : ∀ p ∈ L, p.length ≤ z) (j : Nat) : (L.getD j []).length ≤ z := by
 rw [List.getD_eq_getElem?_getD]
 cases e : L[j]? with
 | none => simp
 | some p => exact h p (List.mem_of_getElem? e)
def Qpo (c : Nat) : Nat := (2 * c) % 18446744073709551616 ^^^ (if 9223372036854775808 ≤ c then 4823603603198064275 else 0)
def QfE : Nat → Nat → Nat
 | 0, c => c
 | k + 1, c => QfE k (Qpo c)
theorem Qp2 (c : Nat) : Qpo c < 18446744073709551616 := by
 unfold Qpo
 have : (if 9223372036854775808 ≤ c then 4823603603198064275 else 0) < 2 ^ 64 := by split <;> decide
 exact Nat.xor_lt_two_pow (n := 64) (Nat.mod_lt _ (by decide)) this
theorem Qln : ∀ (k : Nat) {c : Nat}, c < 18446744073709551616 → QfE k c < 18446744073709551616
 | 0, _, h => h
 | k + 1, c, _ => Qln k (Qp2 c)
theorem QnX : ∀ (k c : Nat), QfE (k + 1) c = Qpo (QfE k c)
 | 0, _ => rfl
 | k + 1, c => by rw [QfE, QnX k, QfE]
theorem QsJ (c : Nat) (h : c < 18446744073709551616) : (9223372036854775808 ≤ c) ↔ c.testBit 63 = true := by
 constructor
 ·intro h2
  rw [Nat.testBit_eq_decide_div_mod_eq]
  have : c / 2 ^ 63 = 1 := by omega
  rw [this]; rfl
 ·intro h2
  exact Nat.ge_two_pow_of_testBit h2
theorem Qr0 {x l : Nat} (hx : x < 18446744073709551616) (hl : l < 9223372036854775808) : Qpo (x ^^^ l) = Qpo x ^^^ 2 * l := by
 have hxl : x ^^^ l < 18446744073709551616 := Nat.xor_lt_two_pow (n := 64) hx (by omega)
 have e1 : (9223372036854775808 ≤ x ^^^ l) ↔ (9223372036854775808 ≤ x) := by
  rw [QsJ _ hxl, QsJ _ hx, Nat.testBit_xor, Nat.testBit_lt_two_pow (show l < 2 ^ 63 from hl), Bool.xor_false]
 have e2 : (2 * (x ^^^ l)) % 18446744073709551616 = (2 * x) % 18446744073709551616 ^^^ 2 * l := by
  apply Nat.eq_of_testBit_eq
  intro i
  rw [show (18446744073709551616 : Nat) = 2 ^ 64 from rfl, Nat.testBit_mod_two_pow, Nat.testBit_xor, Nat.testBit_mod_two_pow]
  rw [show 2 * (x ^^^ l) = 2 ^ 1 * (x ^^^ l) from rfl, show 2 * x = 2 ^ 1 * x from rfl, show 2 * l = 2 ^ 1 * l from rfl, Nat.testBit_two_pow_mul, Nat.testBit_two_pow_mul, Nat.testBit_two_pow_mul, Nat.testBit_xor]
  by_cases h : i < 64
  ·by_cases h1 : 1 ≤ i <;> simp [h, h1]
  ·have h2 : l.testBit (i - 1) = false := Nat.testBit_lt_two_pow (Nat.lt_of_lt_of_le (show l < 2 ^ 63 from hl) (Nat.pow_le_pow_right (by decide) (by omega)))
   simp [h, h2]
 unfold Qpo
 rw [e2]
 by_cases h : 9223372036854775808 ≤ x
 ·rw [if_pos h, if_pos (e1.2 h), Nat.xor_assoc, Nat.xor_assoc, Nat.xor_comm (2 * l)]
 ·rw [if_neg h, if_neg (fun h2 => h (e1.1 h2)), Nat.xor_assoc, Nat.xor_assoc, Nat.xor_comm (2 * l)]
theorem Qr1 : ∀ (k : Nat) {x l : Nat}, k ≤ 64 → x < 18446744073709551616 → l < 2 ^ (64 - k) → QfE k (x ^^^ l) = QfE k x ^^^ 2 ^ k * l
 | 0, x, l, _, _, _ => by simp [QfE]
 | k + 1, x, l, hk, hx, hl => by
  have h1 : l < 9223372036854775808 := Nat.lt_of_lt_of_le hl (Nat.pow_le_pow_right (by omega) (by omega : 64 - (k + 1) ≤ 63))
  have h2 : 2 * l < 2 ^ (64 - k) := by
   rw [show 64 - k = (64 - (k + 1)) + 1 by omega, Nat.pow_succ]; omega
  rw [QfE, Qr0 hx h1, Qr1 k (by omega) (Qp2 x) h2, QfE, Nat.pow_succ, Nat.mul_assoc]
def Qyj (s b : Nat) : Nat := QfE 8 (s ^^^ b * 72057594037927936)
theorem QzE {s b : Nat} (hs : s < 18446744073709551616) : s ^^^ b * 72057594037927936 = (s / 72057594037927936 ^^^ b) * 72057594037927936 ^^^ s % 72057594037927936 := by
 have h := QhK s 56
 rw [show (2 : Nat) ^ 56 = 72057594037927936 from rfl] at h
 have e : (s / 72057594037927936 ^^^ b) * 72057594037927936 = s / 72057594037927936 * 72057594037927936 ^^^ b * 72057594037927936 := by
  apply Nat.eq_of_testBit_eq
  intro i
  rw [Nat.testBit_xor, show (72057594037927936 : Nat) = 2 ^ 56 from rfl, Nat.mul_comm _ (2 ^ 56), Nat.mul_comm _ (2 ^ 56), Nat.mul_comm b, Nat.testBit_two_pow_mul, Nat.testBit_two_pow_mul, Nat.testBit_two_pow_mul, Nat.testBit_xor]
  by_cases h : 56 ≤ i <;> simp [h]
 rw [e, Nat.xor_comm (s / 72057594037927936 * 72057594037927936), Nat.xor_assoc, Nat.mul_comm (s / 72057594037927936), Nat.xor_comm (72057594037927936 * _), ← h, Nat.xor_comm]
theorem Qtl {s b : Nat} (hs : s < 18446744073709551616) (hb : b < 256) : Qyj s b = s * 256 % 18446744073709551616 ^^^ QfE 8 ((s / 72057594037927936 ^^^ b) * 72057594037927936) := by
 have h0 : (s / 72057594037927936 ^^^ b) < 2 ^ 8 := Nat.xor_lt_two_pow (by omega) hb
 rw [Qyj, QzE hs, Qr1 8 (by omega) (by omega) (by show s % 72057594037927936 < 2 ^ 56; exact Nat.mod_lt _ (by decide)), Nat.xor_comm]
 congr 1
 omega
theorem QzQ {s b : Nat} (hs : s < 18446744073709551616) (hb : b < 256) : Qyj s b < 18446744073709551616 := Qln 8 (Nat.xor_lt_two_pow (n := 64) hs (by omega))
def Z5 (s : Nat) (l : List UInt8) : Nat := l.foldl (fun s b => Qyj s b.toNat) s
theorem QnY {s : Nat} {l : List UInt8} {k : Nat} (h : k < l.length) : Z5 s (l.take (k + 1)) = Qyj (Z5 s (l.take k)) (l[k]).toNat := by
 rw [List.take_succ_eq_append_getElem h, Z5, List.foldl_append]; rfl
theorem QeI : ∀ {l : List UInt8} {s : Nat}, s < 18446744073709551616 → Z5 s l < 18446744073709551616
 | [], _, h => h
 | b :: l, s, h => QeI (l := l) (QzQ h (UInt8.toNat_lt b))
def Qvm (s b : Nat) : Nat → Nat
 | 0 => s
 | k + 1 => Qpo (Qvm s b k ^^^ (b / 2 ^ (7 - k) % 2) * 9223372036854775808)
theorem Qvl {s b : Nat} (hs : s < 18446744073709551616) : ∀ k, Qvm s b k < 18446744073709551616
 | 0 => hs
 | k + 1 => Qp2 _
theorem Qr3 {s b : Nat} (hs : s < 18446744073709551616) (hb : b < 256) : ∀ k, k ≤ 8 → QfE (8 - k) (Qvm s b k ^^^ b % 2 ^ (8 - k) * 2 ^ (56 + k)) = Qyj s b
 | 0, _ => by
  rw [Qvm, Qyj]
  show QfE 8 (s ^^^ b % 256 * 72057594037927936) = _
  rw [Nat.mod_eq_of_lt hb]
 | k + 1, h => by
  have ih := Qr3 hs hb k (by omega)
  have e1 : 8 - k = (8 - (k + 1)) + 1 := by omega
  have e2 : 8 - (k + 1) = 7 - k := by omega
  have hm := Nat.mod_lt b (show 0 < 2 ^ (7 - k) by exact Nat.pow_pos (by decide))
  have e3 : b % 2 ^ (8 - k) * 2 ^ (56 + k) = (b / 2 ^ (7 - k) % 2) * 9223372036854775808 ^^^ b % 2 ^ (7 - k) * 2 ^ (56 + k) := by
   apply Nat.eq_of_testBit_eq
   intro i
   rw [Nat.testBit_xor, show (9223372036854775808 : Nat) = 2 ^ 63 from rfl, Nat.mul_comm _ (2 ^ (56 + k)), Nat.mul_comm _ (2 ^ 63), Nat.mul_comm (b % 2 ^ (7 - k)), Nat.testBit_two_pow_mul, Nat.testBit_two_pow_mul, Nat.testBit_two_pow_mul, Nat.testBit_mod_two_pow, Nat.testBit_mod_two_pow,
    show b / 2 ^ (7 - k) % 2 = b / 2 ^ (7 - k) % 2 ^ 1 from rfl, Nat.testBit_mod_two_pow, Nat.testBit_div_two_pow]
   by_cases h1 : 56 + k ≤ i
   ·by_cases h2 : i = 63
    ·subst h2
     have h3 : ¬ (63 - (56 + k) < 7 - k) := by omega
     have h4 : 63 - (56 + k) < 8 - k := by omega
     simp [h1, show 63 - (56 + k) = 7 - k by omega, show 7 - k < 8 - k by omega]
    ·by_cases h3 : 63 ≤ i
     ·have h4 : ¬ (i - (56 + k) < 8 - k) := by omega
      have h5 : ¬ (i - 63 < 1) := by omega
      have h6 : ¬ (i - (56 + k) < 7 - k) := by omega
      simp [h1, h3, h4, h5, h6]
     ·have h4 : i - (56 + k) < 8 - k := by omega
      have h6 : i - (56 + k) < 7 - k := by omega
      simp [h1, h3, h4, h6]
   ·have h3 : ¬ 63 ≤ i := by omega
    simp [h1, h3]
  have hlt : b % 2 ^ (7 - k) * 2 ^ (56 + k) < 9223372036854775808 := by
   have h1 : b % 2 ^ (7 - k) * 2 ^ (56 + k) < 2 ^ (7 - k) * 2 ^ (56 + k) := Nat.mul_lt_mul_of_pos_right hm (Nat.pow_pos (by decide))
   rw [← Nat.pow_add, show 7 - k + (56 + k) = 63 by omega] at h1
   exact h1
  have hbit : (b / 2 ^ (7 - k) % 2) * 9223372036854775808 < 18446744073709551616 := by
   have := Nat.mod_lt (b / 2 ^ (7 - k)) (show 0 < 2 by decide)
   omega
  rw [e3, e1, QfE, ← Nat.xor_assoc, Qr0 (Nat.xor_lt_two_pow (n := 64) (Qvl hs k) hbit) hlt] at ih
  rw [← ih]
  show QfE (8 - (k + 1)) (Qpo _ ^^^ _) = _
  rw [e2, show 2 ^ (56 + (k + 1)) = 2 ^ (56 + k) * 2 by rw [← Nat.add_assoc, Nat.pow_succ]]
  congr 2
  rw [← Nat.mul_assoc, Nat.mul_comm]
theorem QA2 {s b : Nat} (hs : s < 18446744073709551616) (hb : b < 256) : Qvm s b 8 = Qyj s b := by
 have h := Qr3 hs hb 8 (by omega)
 rw [Nat.sub_self, Nat.pow_zero, Nat.mod_one, Nat.zero_mul, Nat.xor_zero, QfE] at h
 exact h
def Qm2 (i : Nat) : List Int := (List.range 256).map fun j => if j < i then ((QfE 8 (j * 72057594037927936) : Nat) : Int) else 0
theorem Jz (i : Nat) : (Qm2 i).length = 256 := by simp [Qm2]
theorem Qhu {i j : Nat} (h : j < 256) : (Qm2 i)[j]'(by rw [Jz]; exact h) = if j < i then ((QfE 8 (j * 72057594037927936) : Nat) : Int) else 0 := by simp [Qm2]
theorem Qx7 {i : Nat} (h : i < 256) : (Qm2 i).set i ((QfE 8 (i * 72057594037927936) : Nat) : Int) = Qm2 (i + 1) := by
 refine List.ext_getElem (by simp [Jz]) fun j h1 h2 => ?_
 have hj : j < 256 := by simpa [Jz] using h2
 rw [List.getElem_set, Qhu hj]
 split
 ·rename_i e; subst e; rw [Qhu hj, if_pos (by omega)]
 ·rename_i e; rw [Qhu hj]
  by_cases h3 : j < i
  ·rw [if_pos h3, if_pos (by omega)]
  ·rw [if_neg h3, if_neg (by omega)]
theorem QzV (c : Nat) : Qn true .u64 (c : Int) 1 = some (.int .u64 (((2 * c) % 18446744073709551616 : Nat) : Int)) := by
 have h3 : ¬ ((1 : Int) < 0) := by omega
 simp only [Qn, if_neg h3, if_true]
 have h5 : (min (1 : Int).toNat IntKind.u64.bits) = 1 := rfl
 rw [h5, ZQ]
 congr 2
 omega
theorem Qvn (c : Nat) : Qn true .u64 (c : Int) 8 = some (.int .u64 ((c * 256 % 18446744073709551616 : Nat) : Int)) := by
 have h3 : ¬ ((8 : Int) < 0) := by omega
 simp only [Qn, if_neg h3, if_true]
 have h5 : (min (8 : Int).toNat IntKind.u64.bits) = 8 := rfl
 rw [h5, ZQ]
 congr 2
def Qmy (P : Prg) (f : Nat) : Prop := VC P f [] (.cell (ks .u64 (Qm2 256)))
set_option maxRecDepth 40000 in
theorem Qq4 {P : Prg} {f t0 : Nat} (bd : Qf P f 25 [.tmp 0] (Qb4 t0)) : Qmy P f := by
 refine VC.of_walk 1 rfl (by simp [isD, QeB (Qm _ _)]) (ACall.of_body bd (by simp) ?_)
 unfold Qb4
 simp (disch := omega) only [rq, simprocAttr]
 refine Qx.by (ι := Nat) (fun i => ⟨[(5, .int .i64 i), (1, .ref 0 1 0)], [⟨t0, 256, 1, ks .u64 (Qm2 i), 0⟩]⟩) (fun i => i ≤ 256) (fun i => 256 - i) 0 (Le.slots (by simp [Am.look])) (by omega) ?_
 intro i hi
 by_cases hlt : i < 256
 ·have s0 : Qn true .u64 (i : Int) 56 = some (.int .u64 ((i * 72057594037927936 : Nat) : Int)) := by
   have := Qvo (K := .u64) rfl (c := i) (s := 56) (by decide) (by show i * 2 ^ 56 < 2 ^ 64; omega)
   exact this
  have w0 : IntKind.u64.wrap (i : Int) = i := ZR (by omega) (by omega)
  simp (disch := omega) only [rq, simprocAttr, s0, w0]
  refine Qx.by (ι := Nat) (fun j => ⟨[(11, .int .i64 j), (3, .int .u64 (QfE j (i * 72057594037927936))), (5, .int .i64 i), (2, .int .i64 i), (1, .ref 0 1 0)], [⟨t0, 256, 1, ks .u64 (Qm2 i), 0⟩]⟩) (fun j => j ≤ 8) (fun j => 8 - j) 0 (Le.slots (by simp [Am.look, QfE])) (by omega) ?_
  intro j hj
  by_cases hjl : j < 8
  ·have hc := Qln j (c := i * 72057594037927936) (by omega)
   have hn := QnX j (i * 72057594037927936)
   generalize QfE j (i * 72057594037927936) = c at *
   have a1 := QzV c
   have a2 : Qn false .u64 (c : Int) 63 = some (.int .u64 ((c / 9223372036854775808 : Nat) : Int)) := Qlo (K := .u64) (n := c) (k := 63) (by decide)
   have hm := Nat.mod_lt (2 * c) (show 0 < 18446744073709551616 by decide)
   by_cases h2 : 9223372036854775808 ≤ c
   ·have a3 : IntKind.u64.wrap (BitVec.ofInt IntKind.u64.bits ((2 * c % 18446744073709551616 : Nat) : Int) ^^^ BitVec.ofInt IntKind.u64.bits 4823603603198064275).toNat = ((QfE (j + 1) (i * 72057594037927936) : Nat) : Int) := by
     rw [hn, Qpo, if_pos h2]
     exact QuJ (K := .u64) rfl (a := 2 * c % 18446744073709551616) (b := 4823603603198064275) hm (by decide)
    have a4 : c / 9223372036854775808 = 1 := by omega
    rw [a4] at a2
    generalize 2 * c % 18446744073709551616 = d at *
    simp (disch := omega) only [rq, simprocAttr, a1, a2, a3]
    exact ⟨j + 1, by omega, by omega, Le.slots (by simp [Am.look])⟩
   ·have a3 : IntKind.u64.wrap (BitVec.ofInt IntKind.u64.bits ((2 * c % 18446744073709551616 : Nat) : Int) ^^^ BitVec.ofInt IntKind.u64.bits 0).toNat = ((QfE (j + 1) (i * 72057594037927936) : Nat) : Int) := by
     rw [hn, Qpo, if_neg h2]
     exact QuJ (K := .u64) rfl (a := 2 * c % 18446744073709551616) (b := 0) hm (by decide)
    have a4 : c / 9223372036854775808 = 0 := by omega
    rw [a4] at a2
    generalize 2 * c % 18446744073709551616 = d at *
    simp (disch := omega) only [rq, simprocAttr, a1, a2, a3]
    exact ⟨j + 1, by omega, by omega, Le.slots (by simp [Am.look])⟩
  ·obtain rfl : j = 8 := by omega
   have e1 := Jz i
   have e2 := Qg .u64 (Qm2 i)
   have e3 : (ks .u64 (Qm2 i)).take i ++ [.int .u64 (QfE 8 (i * 72057594037927936))] ++ (ks .u64 (Qm2 i)).drop (i + 1) = ks .u64 (Qm2 (i + 1)) := by
    rw [← Qx7 hlt, List.set_eq_take_append_cons_drop, if_pos (by rw [Jz]; exact hlt)]; simp [ks, List.map_take, List.map_drop]
   simp (disch := omega) only [rq, simprocAttr, e1, e2, e3]
   exact ⟨i + 1, by omega, by omega, Le.slots (by simp [Am.look])⟩
 ·obtain rfl : i = 256 := by omega
  simp (disch := omega) only [rq, simprocAttr]
  simp [QF, Qu, frzL, Qs, frzL_T _ (Qm _ _)]
def Qje (P : Prg) (f : Nat) : Prop := ∀ (s : Nat) (l : List UInt8), s < 18446744073709551616 → l.length ≤ 1000000 → VC P f [.cell (ks .u64 (Qm2 256)), .int .u64 s, bs l] (.int .u64 (Z5 s l : Nat))
set_option maxRecDepth 40000 in
theorem QoS {P : Prg} {f : Nat} (bd : Qf P f 29 [.tmp 6] Qbq) : Qje P f := by
 intro s l hs hl
 refine VC.of_acall (by simp [isDL, isD, QC, QW]) rfl (ACall.of_body bd (by simp) ?_)
 have t0 := Qg .u64 (Qm2 256)
 rw [Jz] at t0
 simp (disch := omega) only [rq, simprocAttr, Qbq, bs]
 refine Qx.by (ι := Nat) (fun k => ⟨[(11, .int .i64 k), (10, .int .i64 l.length), (9, .list l.length (u8 l)), (0, .cell (ks .u64 (Qm2 256))), (1, .int .u64 (Z5 s (l.take k)))], []⟩) (fun k => k ≤ l.length) (fun k => l.length - k) 0 (Le.slots (by simp [Am.look, Z5])) (by omega) ?_
 intro k hk
 have hc := QeI (l := l.take k) hs
 by_cases hlt : k < l.length
 ·have e1 := QbD hlt
  have hn := QnY (s := s) hlt
  generalize Z5 s (l.take k) = c at *
  have hb := (l[k]).toNat_lt
  rw [Qtl hc hb] at hn
  have h0 : (c / 72057594037927936 ^^^ (l[k]).toNat) < 256 := Nat.xor_lt_two_pow (n := 8) (by omega) hb
  have h1 := Qln 8 (c := (c / 72057594037927936 ^^^ (l[k]).toNat) * 72057594037927936) (by omega)
  have a1 : Qn false .u64 (c : Int) 56 = some (.int .u64 ((c / 72057594037927936 : Nat) : Int)) := Qlo (K := .u64) (n := c) (k := 56) (by decide)
  have a0 := Qvn c
  have a2 : IntKind.u8.wrap ((c / 72057594037927936 : Nat) : Int) = ((c / 72057594037927936 : Nat) : Int) := by rw [Jv]; omega
  have a3 : IntKind.u8.wrap (BitVec.ofInt IntKind.u8.bits ((c / 72057594037927936 : Nat) : Int) ^^^ BitVec.ofInt IntKind.u8.bits ((l[k]).toNat : Int)).toNat = ((c / 72057594037927936 ^^^ (l[k]).toNat : Nat) : Int) :=
   QuJ (K := .u8) rfl (a := c / 72057594037927936) (b := (l[k]).toNat) (by show c / 72057594037927936 < 256; omega) hb
  have hm := Nat.mod_lt (c * 256) (show 0 < 18446744073709551616 by decide)
  have a4 : IntKind.u64.wrap (BitVec.ofInt IntKind.u64.bits ((c * 256 % 18446744073709551616 : Nat) : Int) ^^^ BitVec.ofInt IntKind.u64.bits ((QfE 8 ((c / 72057594037927936 ^^^ (l[k]).toNat) * 72057594037927936) : Nat) : Int)).toNat = ((Z5 s (l.take (k + 1)) : Nat) : Int) := by
   rw [hn]; exact QuJ (K := .u64) rfl hm h1
  generalize c * 256 % 18446744073709551616 = d at *
  generalize c / 72057594037927936 ^^^ (l[k]).toNat = x at *
  have e2 : (ks .u64 (Qm2 256)).drop x = .int .u64 ((QfE 8 (x * 72057594037927936) : Nat) : Int) :: ks .u64 ((Qm2 256).drop (x + 1)) := by
   rw [QaJ, List.drop_eq_getElem_cons (by rw [Jz]; exact h0), Qic, Qhu h0, if_pos h0]
  generalize c / 72057594037927936 = q at *
  simp (disch := omega) only [rq, simprocAttr, e1, a0, a1, a2, a3, a4, e2, t0]
  exact ⟨k + 1, by omega, by omega, Le.slots (by simp [Am.look])⟩
 ·have ek : k = l.length := by omega
  subst ek
  rw [List.take_length]
  simp (disch := omega) only [rq, simprocAttr]
def QgS (P : Prg) (f : Nat) : Prop := ∀ (s : Nat) (l : List UInt8), s < 18446744073709551616 → VC P f [.int .u64 s, bs l] (if 100000 < l.length then .tup [.int .u64 0, .int .i64 4] else .tup [.int .u64 (Z5 s l), .int .i64 0])
theorem Qud {P : Prg} {f fT fB : Nat} (bd : Qf P f 13 [.tmp 4, .tmp 5] (Qa3 fT fB)) (hT : Qmy P fT) (hB : Qje P fB) : QgS P f := by
 intro s l hs
 refine VC.of_acall (by simp [isDL, isD, QC]) (by split <;> rfl) (ACall.of_body bd (by simp) ?_)
 by_cases hl : 100000 < l.length
 ·rw [if_pos hl]
  simp (disch := omega) only [rq, simprocAttr, Qa3, bs]
 ·rw [if_neg hl]
  have hB' := hB s l hs (by omega)
  rw [bs] at hB'
  have hT' : VC P fT [] _ := hT
  simp (disch := omega) only [rq, simprocAttr, Qa3, bs]
  refine Qb.vc hT' ?_
  simp (disch := omega) only [rq, simprocAttr]
  refine Qb.vc hB' ?_
  simp (disch := omega) only [rq, simprocAttr]
def QiP (P : Prg) (f : Nat) : Prop := ∀ (l : List UInt8), VC P f [bs l] (if 100000 < l.length then .tup [.int .u64 0, .int .i64 4] else .tup [.int .u64 (Z5 0 l), .int .i64 0])
theorem QwP {P : Prg} {f fN : Nat} (bd : Qf P f 8 [.tmp 2, .tmp 3] (QbL fN)) (hN : QgS P fN) : QiP P f := by
 intro l
 refine VC.of_acall (by simp [isDL, isD, QC]) (by split <;> rfl) (ACall.of_body bd (by simp) ?_)
 have hN' := hN 0 l (by decide)
 rw [bs] at hN'
 by_cases hl : 100000 < l.length
 ·rw [if_pos hl] at hN' ⊢
  simp (disch := omega) only [rq, simprocAttr, QbL, bs]
  refine Qb.vc hN' ?_
  simp (disch := omega) only [rq, simprocAttr]
 ·rw [if_neg hl] at hN' ⊢
  simp (disch := omega) only [rq, simprocAttr, QbL, bs]
  refine Qb.vc hN' ?_
  simp (disch := omega) only [rq, simprocAttr]
theorem Qyh {s b : Nat} (hs : s < 18446744073709551616) (hb : b < 2) : Qpo (s ^^^ b * 9223372036854775808) = (2 * s) % 18446744073709551616 ^^^ (if (9223372036854775808 ≤ s ↔ b = 0) then 4823603603198064275 else 0) := by
 rcases (by omega : b = 0 ∨ b = 1) with rfl | rfl
 ·simp [Qpo]
 ·have hx : s ^^^ 9223372036854775808 < 18446744073709551616 := Nat.xor_lt_two_pow (n := 64) hs (by decide)
  have e1 : (9223372036854775808 ≤ s ^^^ 9223372036854775808) ↔ ¬ (9223372036854775808 ≤ s) := by
   rw [QsJ _ hx, QsJ _ hs, Nat.testBit_xor, show (9223372036854775808 : Nat) = 2 ^ 63 from rfl, Nat.testBit_two_pow_self]
   simp
  have e2 : 2 * (s ^^^ 9223372036854775808) % 18446744073709551616 = 2 * s % 18446744073709551616 := by
   apply Nat.eq_of_testBit_eq
   intro i
   rw [show (18446744073709551616 : Nat) = 2 ^ 64 from rfl, Nat.testBit_mod_two_pow, Nat.testBit_mod_two_pow, show 2 * (s ^^^ 9223372036854775808) = 2 ^ 1 * (s ^^^ 9223372036854775808) from rfl, show 2 * s = 2 ^ 1 * s from rfl, Nat.testBit_two_pow_mul, Nat.testBit_two_pow_mul, Nat.testBit_xor,
    show (9223372036854775808 : Nat) = 2 ^ 63 from rfl, Nat.testBit_two_pow]
   by_cases h : i < 64
   ·have h1 : ¬ (63 = i - 1) := by omega
    simp [h, h1]
   ·simp [h]
  rw [Nat.one_mul, Qpo, e2]
  by_cases h : 9223372036854775808 ≤ s
  ·rw [if_neg (fun h2 => (e1.1 h2) h), if_neg (by simp [h])]
  ·rw [if_pos (e1.2 h), if_pos (by simp [h])]
def QrE (P : Prg) (f : Nat) : Prop := ∀ s b : Nat, s < 18446744073709551616 → b < 2 → VC P f [.int .u64 s, .int .i64 b] (.int .u64 (Qpo (s ^^^ b * 9223372036854775808) : Nat))
theorem QtM {P : Prg} {f : Nat} (bd : Qf P f 18 [.tmp 4] Q1) : QrE P f := by
 intro s b hs hb
 refine VC.of_acall rfl rfl (ACall.of_body bd (by simp) ?_)
 rw [Qyh hs hb]
 have hm := Nat.mod_lt (2 * s) (show 0 < 18446744073709551616 by decide)
 have e1 : IntKind.u64.wrap (BitVec.ofInt IntKind.u64.bits ((2 * s % 18446744073709551616 : Nat) : Int) ^^^ BitVec.ofInt IntKind.u64.bits 4823603603198064275).toNat = ((2 * s % 18446744073709551616 ^^^ 4823603603198064275 : Nat) : Int) :=
  QuJ (K := .u64) rfl hm (by decide)
 have e2 : IntKind.u64.wrap ((s : Int) * 2) = ((2 * s % 18446744073709551616 : Nat) : Int) := by rw [ZQ]; omega
 generalize 2 * s % 18446744073709551616 = d at *
 by_cases h : 9223372036854775808 ≤ s <;> rcases (by omega : b = 0 ∨ b = 1) with rfl | rfl
 ·rw [if_pos (by simp [h])]
  simp (disch := omega) only [rq, simprocAttr, Q1, e1, e2]
 ·rw [if_neg (by simp [h]), Nat.xor_zero]
  simp (disch := omega) only [rq, simprocAttr, Q1, e1, e2, Bool.not_true]
 ·rw [if_neg (by simp [h]), Nat.xor_zero]
  simp (disch := omega) only [rq, simprocAttr, Q1, e1, e2]
 ·rw [if_pos (by simp [h])]
  simp (disch := omega) only [rq, simprocAttr, Q1, e1, e2, Bool.not_false]
def QrO (P : Prg) (f : Nat) : Prop := ∀ s b : Nat, s < 18446744073709551616 → b < 256 → VC P f [.int .u64 s, .int .u8 b] (.int .u64 (Qyj s b : Nat))
theorem QtO {P : Prg} {f fS : Nat} (bd : Qf P f 18 [.tmp 4] (Ji fS)) (hS : QrE P fS) : QrO P f := by
 intro s b hs hb
 refine VC.of_acall rfl rfl (ACall.of_body bd (by simp) ?_)
 simp (disch := omega) only [rq, simprocAttr, Ji]
 refine Qx.by (ι := Nat) (fun k => ⟨[(5, .int .i64 (128 / 2 ^ k : Nat)), (0, .int .u64 (Qvm s b k)), (1, .int .u8 b)], []⟩) (fun k => k ≤ 8) (fun k => 8 - k) 0 (Le.slots (by simp [Am.look, Qvm])) (by omega) ?_
 intro k hk
 have hc := Qvl (b := b) hs k
 by_cases hlt : k < 8
 ·have hn : Qvm s b (k + 1) = Qpo (Qvm s b k ^^^ (b / 2 ^ (7 - k) % 2) * 9223372036854775808) := rfl
  have hp : 128 / 2 ^ k = 2 ^ (7 - k) := by
   rw [show (128 : Nat) = 2 ^ 7 from rfl, Nat.pow_div (by omega) (by decide)]
  have hd : 128 / 2 ^ (k + 1) = 128 / 2 ^ k / 2 := by rw [Nat.pow_succ, Nat.div_div_eq_div_mul]
  have hpos : 1 ≤ 128 / 2 ^ k := by rw [hp]; exact Nat.pow_pos (by decide)
  have hle : 128 / 2 ^ k ≤ 128 := Nat.div_le_self _ _
  have h2 := hS (Qvm s b k) (b / 2 ^ (7 - k) % 2) hc (Nat.mod_lt _ (by decide))
  rw [← hn, ← hp] at h2
  generalize Qvm s b k = c at *
  generalize 128 / 2 ^ k = p at *
  have e1 : ((b : Int)).tdiv (p : Int) = ((b / p : Nat) : Int) := by rw [Int.tdiv_eq_ediv_of_nonneg (by omega)]; simp
  have e0 : (b : Int) / (p : Int) = ((b / p : Nat) : Int) := by simp
  have hbp : b / p ≤ b := Nat.div_le_self _ _
  generalize b / p = x at *
  have e3 : ((x : Int)).tmod 2 = ((x % 2 : Nat) : Int) := rfl
  have e4 : (x : Int) % 2 = ((x % 2 : Nat) : Int) := by omega
  have e5 : ((p : Int)).tdiv 2 = ((p / 2 : Nat) : Int) := rfl
  have e6 : (p : Int) / 2 = ((p / 2 : Nat) : Int) := by omega
  simp (disch := omega) only [rq, simprocAttr, e0, e1, e3, e4]
  refine Qb.vc h2 ?_
  simp (disch := omega) only [rq, simprocAttr, e5, e6]
  exact ⟨k + 1, by omega, by omega, Le.slots (by simp [Am.look, hd])⟩
 ·obtain rfl : k = 8 := by omega
  rw [QA2 hs hb]
  have e : (128 / 2 ^ 8 : Nat) = 0 := rfl
  rw [e]
  simp (disch := omega) only [rq, simprocAttr]
def QdZ (P : Prg) (f : Nat) : Prop := ∀ (s : Nat) (l : List UInt8), s < 18446744073709551616 → l.length ≤ 1000000 → VC P f [.int .u64 s, bs l] (.int .u64 (Z5 s l : Nat))
theorem Qoh {P : Prg} {f fB : Nat} (bd : Qf P f 19 [.tmp 4] (Xj fB)) (hB : QrO P fB) : QdZ P f := by
 intro s l hs hl
 refine VC.of_acall (by simp [isDL, isD, QC]) rfl (ACall.of_body bd (by simp) ?_)
 simp (disch := omega) only [rq, simprocAttr, Xj, bs]
 refine Qx.by (ι := Nat) (fun k => ⟨[(5, .int .i64 k), (1, .list l.length (u8 l)), (0, .int .u64 (Z5 s (l.take k)))], []⟩) (fun k => k ≤ l.length) (fun k => l.length - k) 0 (Le.slots (by simp [Am.look, Z5])) (by omega) ?_
 intro k hk
 have hc := QeI (l := l.take k) hs
 by_cases hlt : k < l.length
 ·have e1 := QbD hlt
  have hn := QnY (s := s) hlt
  have h2 := hB (Z5 s (l.take k)) (l[k]).toNat hc (l[k]).toNat_lt
  rw [← hn] at h2
  simp (disch := omega) only [rq, simprocAttr, e1]
  refine Qb.vc h2 ?_
  simp (disch := omega) only [rq, simprocAttr]
  exact ⟨k + 1, by omega, by omega, Le.slots (by simp [Am.look])⟩
 ·have ek : k = l.length := by omega
  subst ek
  rw [List.take_length]
  simp (disch := omega) only [rq, simprocAttr]
theorem QtN {P : Prg} {f fB : Nat} (bd : Qf P f 12 [.tmp 4, .tmp 5] (ZN fB)) (hB : QdZ P fB) : QgS P f := by
 intro s l hs
 refine VC.of_acall (by simp [isDL, isD, QC]) (by split <;> rfl) (ACall.of_body bd (by simp) ?_)
 by_cases hl : 100000 < l.length
 ·rw [if_pos hl]
  simp (disch := omega) only [rq, simprocAttr, ZN, bs]
 ·rw [if_neg hl]
  have hB' := hB s l hs (by omega)
  rw [bs] at hB'
  simp (disch := omega) only [rq, simprocAttr, ZN, bs]
  refine Qb.vc hB' ?_
  simp (disch := omega) only [rq, simprocAttr]
theorem QvL {P : Prg} {f fN : Nat} (bd : Qf P f 8 [.tmp 2, .tmp 3] (Z3 fN)) (hN : QgS P fN) : QiP P f := by
 intro l
 refine VC.of_acall (by simp [isDL, isD, QC]) (by split <;> rfl) (ACall.of_body bd (by simp) ?_)
 have hN' := hN 0 l (by decide)
 rw [bs] at hN'
 by_cases hl : 100000 < l.length
 ·rw [if_pos hl] at hN' ⊢
  simp (disch := omega) only [rq, simprocAttr, Z3, bs]
  refine Qb.vc hN' ?_
  simp (disch := omega) only [rq, simprocAttr]
 ·rw [if_neg hl] at hN' ⊢
  simp (disch := omega) only [rq, simprocAttr, Z3, bs]
  refine Qb.vc hN' ?_
  simp (disch := omega) only [rq, simprocAttr]
def sb8 (x : Nat) : Int := if 127 < x % 256 then ((x % 256 : Nat) : Int) - 256 else ((x % 256 : Nat) : Int)
theorem QA7 (x : Nat) : -128 ≤ sb8 x ∧ sb8 x ≤ 127 := by unfold sb8; split <;> omega
def ofK (d k : Nat) : List Int := (List.range 16).map fun i => if i < k then sb8 (d / 2 ^ (8 * i)) else 0
theorem Qcw (d k : Nat) : (ofK d k).length = 16 := by simp [ofK]
theorem Qv3 {d k : Nat} (h : k < 16) : (ofK d k).set k (sb8 (d / 2 ^ (8 * k))) = ofK d (k + 1) := by
 refine List.ext_getElem (by simp [Qcw]) fun j h1 h2 => ?_
 have hj : j < 16 := by simpa [Qcw] using h2
 rw [List.getElem_set]
 simp only [ofK, List.getElem_map, List.getElem_range]
 split
 ·rename_i e; subst e; rw [if_pos (by omega)]
 ·by_cases h3 : j < k
  ·rw [if_pos h3, if_pos (by omega)]
  ·rw [if_neg h3, if_neg (by omega)]
theorem QzH (x : Nat) : IntKind.i8.wrap (x : Int) = sb8 x := by
 unfold sb8
 simp only [IntKind.wrap, IntKind.bits, IntKind.signed]
 simp
 split <;> split <;> omega
def QkA (P : Prg) (f : Nat) : Prop := ∀ d : Nat, d < 18446744073709551616 → VC P f [.int .u64 d] (.agg (ks .i32 (ofK d 8)))
theorem Qz1 {P : Prg} {f t0 : Nat} (bd : Qf P f 18 [.cell 2 t0] (QgL t0)) (ht : Q6 P t0 = some (some 16)) : QkA P f := by
 intro d hd
 refine VC.of_acall rfl (by simp [isD, QW]) (ACall.of_body bd (by simp) ?_)
 unfold QgL
 have z : ([.int .i32 0, .int .i32 0, .int .i32 0, .int .i32 0, .int .i32 0, .int .i32 0, .int .i32 0, .int .i32 0, .int .i32 0, .int .i32 0, .int .i32 0, .int .i32 0, .int .i32 0, .int .i32 0, .int .i32 0, .int .i32 0] : List AV) = ks .i32 (ofK 0 0) := rfl
 have z0 : ks .i32 (ofK 0 0) = ks .i32 (ofK d 0) := rfl
 rw [z]
 have ol := X6 .i32 (ofK 0 0)
 have kl0 : (ks .i32 (ofK 0 0)).length = 16 := rfl
 simp (disch := omega) only [rq, simprocAttr, ol, kl0]
 refine Qx.by (ι := Nat) (fun i => ⟨[(5, .int .i64 i), (0, .int .u64 d), (3, .ref 1 1 0), (2, .ref 0 1 0)], [⟨t0, 16, 1, ks .i32 (ofK 0 0), 0⟩, ⟨t0, 16, 1, ks .i32 (ofK d i), 0⟩]⟩) (fun i => i ≤ 8) (fun i => 8 - i) 0 (Le.slots (by simp [Am.look])) (by omega) ?_
 intro i hi
 have kl : (ks .i32 (ofK d i)).length = 16 := by rw [Qg, Qcw]
 by_cases hlt : i < 8
 ·have a1 : Qn false .u64 (d : Int) (8 * (i : Int)) = some (.int .u64 ((d / 2 ^ (8 * i) : Nat) : Int)) := by
   have := Qlo (K := .u64) (n := d) (k := 8 * i) (by show 8 * i ≤ 64; omega)
   simpa using this
  have a2 := QzH (d / 2 ^ (8 * i))
  have a3 := QA7 (d / 2 ^ (8 * i))
  have e3 : (ks .i32 (ofK d i)).take i ++ [.int .i32 (sb8 (d / 2 ^ (8 * i)))] ++ (ks .i32 (ofK d i)).drop (i + 1) = ks .i32 (ofK d (i + 1)) := by
   rw [← Qv3 (by omega), List.set_eq_take_append_cons_drop, if_pos (by rw [Qcw]; omega)]; simp [ks, List.map_take, List.map_drop]
  generalize d / 2 ^ (8 * i) = q at *
  generalize sb8 q = y at *
  simp (disch := omega) only [rq, simprocAttr, a1, a2, kl, e3]
  exact ⟨i + 1, by omega, by omega, Le.slots (by simp [Am.look])⟩
 ·obtain rfl : i = 8 := by omega
  have o8 := X6 .i32 (ofK d 8)
  have t8 : (ks .i32 (ofK d 8)).take 16 = ks .i32 (ofK d 8) := List.take_of_length_le (by omega)
  simp (disch := omega) only [rq, simprocAttr, kl, kl0, t8, o8, QD, ht]
  try simp [kl]
theorem Qyu {P : Prg} {f t0 : Nat} (bd : Qf P f 23 [.cell 2 t0] (J4 t0)) (ht : Q6 P t0 = some (some 16)) : QkA P f := by
 intro d hd
 refine VC.of_acall rfl (by simp [isD, QW]) (ACall.of_body bd (by simp) ?_)
 unfold J4
 have z : ([.int .i32 0, .int .i32 0, .int .i32 0, .int .i32 0, .int .i32 0, .int .i32 0, .int .i32 0, .int .i32 0, .int .i32 0, .int .i32 0, .int .i32 0, .int .i32 0, .int .i32 0, .int .i32 0, .int .i32 0, .int .i32 0] : List AV) = ks .i32 (ofK 0 0) := rfl
 rw [z]
 have ol := X6 .i32 (ofK 0 0)
 have kl0 : (ks .i32 (ofK 0 0)).length = 16 := rfl
 simp (disch := omega) only [rq, simprocAttr, ol, kl0]
 refine Qx.by (ι := Nat) (fun i => ⟨[(4, .int .i64 i), (0, .int .u64 (d / 2 ^ (8 * i) : Nat)), (3, .ref 1 1 0), (2, .ref 0 1 0)], [⟨t0, 16, 1, ks .i32 (ofK 0 0), 0⟩, ⟨t0, 16, 1, ks .i32 (ofK d i), 0⟩]⟩) (fun i => i ≤ 8) (fun i => 8 - i) 0 (Le.slots (by simp [Am.look])) (by omega) ?_
 intro i hi
 have kl : (ks .i32 (ofK d i)).length = 16 := by rw [Qg, Qcw]
 by_cases hlt : i < 8
 ·have hd2 : d / 2 ^ (8 * (i + 1)) = d / 2 ^ (8 * i) / 256 := by
   rw [show 8 * (i + 1) = 8 * i + 8 by omega, Nat.pow_add, ← Nat.div_div_eq_div_mul]
  have hq : d / 2 ^ (8 * i) ≤ d := Nat.div_le_self _ _
  have e3 : (ks .i32 (ofK d i)).take i ++ [.int .i32 (sb8 (d / 2 ^ (8 * i)))] ++ (ks .i32 (ofK d i)).drop (i + 1) = ks .i32 (ofK d (i + 1)) := by
   rw [← Qv3 (by omega), List.set_eq_take_append_cons_drop, if_pos (by rw [Qcw]; omega)]; simp [ks, List.map_take, List.map_drop]
  generalize d / 2 ^ (8 * i) = q at *
  have a1 : ((q : Int)).tmod 256 = ((q % 256 : Nat) : Int) := rfl
  have a2 : (q : Int) % 256 = ((q % 256 : Nat) : Int) := by omega
  have a3 : ((q : Int)).tdiv 256 = ((q / 256 : Nat) : Int) := rfl
  have a4 : (q : Int) / 256 = ((q / 256 : Nat) : Int) := by omega
  have hb : q % 256 < 256 := Nat.mod_lt _ (by decide)
  by_cases h : 127 < q % 256
  ·have s1 : sb8 q = ((q % 256 : Nat) : Int) - 256 := by rw [sb8, if_pos h]
   rw [s1] at e3
   generalize q % 256 = y at *
   simp (disch := omega) only [rq, simprocAttr, a1, a2, a3, a4, kl, e3]
   exact ⟨i + 1, by omega, by omega, Le.slots (by simp [Am.look, hd2])⟩
  ·have s1 : sb8 q = ((q % 256 : Nat) : Int) := by rw [sb8, if_neg h]
   rw [s1] at e3
   generalize q % 256 = y at *
   simp (disch := omega) only [rq, simprocAttr, a1, a2, a3, a4, kl, e3]
   exact ⟨i + 1, by omega, by omega, Le.slots (by simp [Am.look, hd2])⟩
 ·obtain rfl : i = 8 := by omega
  have o8 := X6 .i32 (ofK d 8)
  have t8 : (ks .i32 (ofK d 8)).take 16 = ks .i32 (ofK d 8) := List.take_of_length_le (by omega)
  simp (disch := omega) only [rq, simprocAttr, kl, kl0, t8, o8, QD, ht]
  try simp [kl]
theorem Qwi : ∀ p : List UInt8, isTL (u8 p) = true
 | [] => rfl
 | b :: p => by have := Qwi p; simp only [u8, List.map_cons, isTL, isT, Bool.true_and] at this ⊢; exact this
def Qab : List Int := List.replicate 16 0
def Qd4 (p : List UInt8) : AV := if 64 < p.length then .tup [.agg (ks .i32 Qab), .int .i64 2] else .tup [.agg (ks .i32 (ofK (Z5 0 p) 8)), .int .i64 0]
theorem Qsy (p : List UInt8) : isD (Qd4 p) = true := by unfold Qd4; split <;> simp [isD, isDL, QW]
def Qky (P : Prg) (f : Nat) : Prop := ∀ p : List UInt8, VC P f [.str p] (Qd4 p)
theorem Qvs {P : Prg} {f fS fO t0 : Nat} (bd : Qf P f 22 [.cell 2 t0, .tmp 3] (QdA fS fO t0)) (hS : QiP P fS) (hO : QkA P fO) (ht : Q6 P t0 = some (some 16)) : Qky P f := by
 intro p
 refine VC.of_acall rfl (Qsy p) (ACall.of_body bd (by simp) ?_)
 unfold QdA
 have z : ([.int .i32 0, .int .i32 0, .int .i32 0, .int .i32 0, .int .i32 0, .int .i32 0, .int .i32 0, .int .i32 0, .int .i32 0, .int .i32 0, .int .i32 0, .int .i32 0, .int .i32 0, .int .i32 0, .int .i32 0, .int .i32 0] : List AV) = ks .i32 Qab := rfl
 rw [z]
 have ol := X6 .i32 Qab
 have kl0 : (ks .i32 Qab).length = 16 := rfl
 have t0' : (ks .i32 Qab).take 16 = ks .i32 Qab := rfl
 by_cases hp : 64 < p.length
 ·have e9 : Qd4 p = .tup [.agg (ks .i32 Qab), .int .i64 2] := by rw [Qd4, if_pos hp]
  simp (disch := omega) only [rq, simprocAttr, ol, kl0, QD, ht, t0', e9]
  rfl
 ·have e9 : Qd4 p = .tup [.agg (ks .i32 (ofK (Z5 0 p) 8)), .int .i64 0] := by rw [Qd4, if_neg hp]
  have hS' := hS p
  rw [if_neg (by omega)] at hS'
  have hO' := hO (Z5 0 p) (QeI (by decide))
  have o8 := X6 .i32 (ofK (Z5 0 p) 8)
  have kl : (ks .i32 (ofK (Z5 0 p) 8)).length = 16 := by rw [Qg, Qcw]
  have t8 : (ks .i32 (ofK (Z5 0 p) 8)).take 16 = ks .i32 (ofK (Z5 0 p) 8) := List.take_of_length_le (by omega)
  have tp := Qwi p
  rw [bs] at hS'
  simp (disch := omega) only [rq, simprocAttr, ol, kl0]
  refine Qb.flat 1 hS' rfl (by simp [QF, Qu, frzL, Qs, frzL_T _ tp]) ?_
  simp (disch := omega) only [rq, simprocAttr]
  refine Qb.vc hO' ?_
  have zl : Qab.length = 16 := rfl
  have zd : (ks .i32 Qab).drop 16 = [] := rfl
  simp (disch := omega) only [rq, simprocAttr, o8, kl, t8, QD, ht, e9, zl, zd, List.append_nil]
  try simp [kl]
theorem QtC {P : Prg} {f fS fO t0 : Nat} (bd : Qf P f 18 [.cell 2 t0, .tmp 3] (Jd fS fO t0)) (hS : QiP P fS) (hO : QkA P fO) (ht : Q6 P t0 = some (some 16)) : Qky P f := by
 intro p
 refine VC.of_acall rfl (Qsy p) (ACall.of_body bd (by simp) ?_)
 unfold Jd
 have z : ([.int .i32 0, .int .i32 0, .int .i32 0, .int .i32 0, .int .i32 0, .int .i32 0, .int .i32 0, .int .i32 0, .int .i32 0, .int .i32 0, .int .i32 0, .int .i32 0, .int .i32 0, .int .i32 0, .int .i32 0, .int .i32 0] : List AV) = ks .i32 Qab := rfl
 rw [z]
 have ol := X6 .i32 Qab
 have kl0 : (ks .i32 Qab).length = 16 := rfl
 have t0' : (ks .i32 Qab).take 16 = ks .i32 Qab := rfl
 by_cases hp : 64 < p.length
 ·have e9 : Qd4 p = .tup [.agg (ks .i32 Qab), .int .i64 2] := by rw [Qd4, if_pos hp]
  simp (disch := omega) only [rq, simprocAttr, ol, kl0, QD, ht, t0', e9]
  rfl
 ·have e9 : Qd4 p = .tup [.agg (ks .i32 (ofK (Z5 0 p) 8)), .int .i64 0] := by rw [Qd4, if_neg hp]
  have hS' := hS p
  rw [if_neg (by omega)] at hS'
  have hO' := hO (Z5 0 p) (QeI (by decide))
  have o8 := X6 .i32 (ofK (Z5 0 p) 8)
  have kl : (ks .i32 (ofK (Z5 0 p) 8)).length = 16 := by rw [Qg, Qcw]
  have t8 : (ks .i32 (ofK (Z5 0 p) 8)).take 16 = ks .i32 (ofK (Z5 0 p) 8) := List.take_of_length_le (by omega)
  have tp := Qwi p
  rw [bs] at hS'
  simp (disch := omega) only [rq, simprocAttr, ol, kl0]
  refine Qb.flat 1 hS' rfl (by simp [QF, Qu, frzL, Qs, frzL_T _ tp]) ?_
  simp (disch := omega) only [rq, simprocAttr]
  refine Qb.vc hO' ?_
  have zl : Qab.length = 16 := rfl
  have zd : (ks .i32 Qab).drop 16 = [] := rfl
  simp (disch := omega) only [rq, simprocAttr, o8, kl, t8, QD, ht, e9, zl, zd, List.append_nil]
  try simp [kl]
theorem QAe {L n j : Nat} (hn : 1 ≤ n) (hL : 1 ≤ L) (hj : j < (Q7 L n).length) : 1 ≤ (Q7 L n).getD j 0 := by
 rw [List.getD_eq_getElem?_getD, List.getElem?_eq_getElem hj, Option.getD_some]
 have hm := List.getElem_mem hj
 unfold Q7 at hm
 simp only [List.mem_append, List.mem_replicate, List.mem_singleton] at hm
 unfold Q7
 rcases hm with hm | hm
 ·rw [hm.2]; omega
 ·rw [hm]
  have g0 : (n - 1) / L * L ≤ n - 1 := Nat.div_mul_le_self _ _
  clear hm
  generalize (n - 1) / L * L = w at *
  omega
theorem QAJ {c x : Int} {l p : List Int} (h : QdV c x l = 0) (hs : ∀ v ∈ p, v ∈ l) (hp : 1 ≤ p.length) (hl : p.length ≤ l.length) (hc : (p.length : Int) % c = 0) : QdV c x p = 0 := by
 unfold QdV at h ⊢
 split at h
 ·cases h
 rename_i h1
 split at h
 ·rename_i h2; exact absurd h h2
 rename_i h2
 have h2' : Q3 x l = 0 := by simpa using h2
 have h3 : Q3 x p = 0 := by
  unfold Q3 at h2' ⊢
  split at h2'
  ·cases h2'
  rename_i a1
  split at h2'
  ·cases h2'
  rename_i a2
  split at h2'
  ·rename_i a3
   rw [if_neg a1, if_neg (by omega), if_pos (List.all_eq_true.2 fun v hv => List.all_eq_true.1 a3 v (hs v hv))]
  ·cases h2'
 rw [if_neg h1, if_neg (by rw [h3]; simp), if_neg (by omega)]
theorem Qcd {c x r : Int} {l : List Int} (h : Zc c x r l = 0) : ∀ p ∈ QV c r l, QdV c x p = 0 ∧ p.length ≤ 4000 ∧ 1 ≤ p.length := by
 have ha : QdV c x l = 0 := by
  have h2 := QfU (c := c) (x := x) (r := r) (l := l)
  rw [h] at h2
  by_cases h3 : QdV c x l = 0 ∧ Xz c x r (l.length / c) = 0
  ·exact h3.1
  ·rw [if_neg h3] at h2; cases h2
 obtain ⟨k, n, rfl, k1, k2, hlen, ⟨o1, o2, o3, o4, o5⟩, h4⟩ := Qan h
 intro p hp
 unfold QV at hp
 rw [Int.toNat_natCast, hlen, Nat.mul_div_cancel _ (by omega)] at hp
 obtain ⟨j, hj, rfl⟩ := List.mem_map.1 hp
 rw [List.mem_range] at hj
 have hL1 : 1 ≤ (QL r).toNat := by have := Xw r; omega
 obtain ⟨m, p1, p2, p3, p4, p5, p6, p7⟩ := Qgo (j := j) hlen (by omega) hL1 hj
 have hm1 := QAe (n := n) (by omega) hL1 hj
 rw [p1] at hm1
 have hlen2 : (QaV ((QL r).toNat * k) l j).length = m * k := by
  rw [p6, List.length_take, List.length_drop, hlen]
  omega
 have hmk : 1 ≤ m * k := Nat.mul_pos (by omega) k1
 have hmn : m * k ≤ n * k := Nat.mul_le_mul_right _ p2
 refine ⟨QAJ ha (fun v hv => ?_) (by rw [hlen2]; exact hmk) (by rw [hlen2, hlen]; exact hmn) ?_, by rw [hlen2]; omega, by rw [hlen2]; exact hmk⟩
 ·rw [p6] at hv
  exact List.mem_of_mem_drop (List.mem_of_mem_take hv)
 ·rw [hlen2, Int.natCast_mul, Int.mul_emod_left]
def Qq (c x r : Int) (l : List Int) (t : List Int) : List (List UInt8) := (QV c r l).map (Qjk c.toNat x t)
def Qbk (c x r : Int) (l : List Int) (p : List UInt8) : AV :=
 if Zc c x r l ≠ 0 then .tup [bss [], .int .i64 8] else if 64 < p.length then .tup [bss [], .int .i64 2] else .tup [bss (Qq c x r l (ofK (Z5 0 p) 8)), .int .i64 0]
theorem QqG (c x r : Int) (l : List Int) (p : List UInt8) : isD (Qbk c x r l p) = true := by unfold Qbk; split <;> (try split) <;> simp [isD, isDL, QlH]
theorem QxM (d k : Nat) : I32 (ofK d k) := fun x hx => by
 unfold ofK at hx
 obtain ⟨i, _, rfl⟩ := List.mem_map.1 hx
 split
 ·have := QA7 (d / 2 ^ (8 * i)); omega
 ·omega
def QmR (P : Prg) (f : Nat) : Prop := ∀ (c x r : Int) (l : List Int) (p : List UInt8), I32 l → l.length ≤ 1000000 → VC P f [clA c x r l, .str p] (Qbk c x r l p)
set_option maxHeartbeats 1000000 in
theorem Qq8 {P : Prg} {f fC fT fP fS fE fA g t0 t1 t2 t3 t4 ti : Nat} (b : QxP P f 45 [.cell 4 t1, .cell 5 t2] (Qb6 fC fT fP fS fE t0 t1 t2 t3 t4)) (hC : Z4 P fC) (hT : Qky P fT) (hP : Qi2 g P fP) (hI : Qi1 ti P g) (bG : Qf P g 43 [] (J2 fA)) (hS : QaC P fS) (hE : QuC P fE)
  (ht1 : Q6 P t1 = some none) (ht2 : Q6 P t2 = some none) (h0 : t0 ≠ ti) (h1 : t1 ≠ ti) (h2 : t2 ≠ ti) (h3 : t3 ≠ ti) (h4 : t4 ≠ ti) : QmR P f := by
 intro c x r l p hI32 hl
 refine VC.of_walk 2 (by simp [isDL, isD, QZ, clA]) (QqG _ _ _ _ _) (ACall.of_rangeC b (by simp) ?_)
 have hC' := hC c x r l hI32 hl
 rw [il] at hC'
 have tl := Qm .i32 l
 have z : ([.int .i32 0, .int .i32 0, .int .i32 0, .int .i32 0, .int .i32 0, .int .i32 0, .int .i32 0, .int .i32 0, .int .i32 0, .int .i32 0, .int .i32 0, .int .i32 0, .int .i32 0, .int .i32 0, .int .i32 0, .int .i32 0] : List AV) = ks .i32 Qab := rfl
 unfold Qb6
 rw [z]
 have ol := X6 .i32 Qab
 have kl0 : (ks .i32 Qab).length = 16 := rfl
 rcases Qbm c x r l with h | h
 ·rw [h] at hC'
  have hT' := hT p
  simp (disch := omega) only [rq, simprocAttr, clA, il, QdG, Qge, Qcg, Qkj, Qid, Qzn]
  refine Qb.vc hC' ?_
  simp (disch := omega) only [rq, simprocAttr, Qcg, Qkj, QdG, Qge]
  refine Qb.vc hT' ?_
  by_cases hp : 64 < p.length
  ·have e9 : Qbk c x r l p = .tup [bss [], .int .i64 2] := by rw [Qbk, if_neg (by omega), if_pos hp]
   have e8 : Qd4 p = .tup [.agg (ks .i32 Qab), .int .i64 2] := by rw [Qd4, if_pos hp]
   have t0' : (ks .i32 Qab).take 16 = ks .i32 Qab := rfl
   have zl : Qab.length = 16 := rfl
   have zd : (ks .i32 Qab).drop 16 = [] := rfl
   rw [e8]
   simp (disch := omega) only [rq, simprocAttr, Qcg, Qkj, QdG, Qge, ol, kl0, t0', zl, zd, List.append_nil, e9, QD, ht1, ht2]
   simp [QF, Qu, frzL, Qs, isDL, isD, bss]
  ·have e9 : Qbk c x r l p = .tup [bss (Qq c x r l (ofK (Z5 0 p) 8)), .int .i64 0] := by rw [Qbk, if_neg (by omega), if_neg hp]
   have e8 : Qd4 p = .tup [.agg (ks .i32 (ofK (Z5 0 p) 8)), .int .i64 0] := by rw [Qd4, if_neg hp]
   obtain ⟨T, hTe⟩ : ∃ T, ofK (Z5 0 p) 8 = T := ⟨_, rfl⟩
   have hTl : T.length = 16 := by rw [← hTe, Qcw]
   have hTI : I32 T := by rw [← hTe]; exact QxM _ _
   have oT := X6 .i32 T
   have kT : (ks .i32 T).length = 16 := by rw [Qg, hTl]
   have tT : (ks .i32 T).take 16 = ks .i32 T := List.take_of_length_le (by omega)
   have zl : Qab.length = 16 := rfl
   have zd : (ks .i32 Qab).drop 16 = [] := rfl
   rw [hTe] at e8 e9
   have hparts := Qcd h
   obtain ⟨k, n, rfl, k1, k2, hlen, hok, h4'⟩ := Qan h
   have hP' := hP k x r l
   have hI' := hI k n x r l k1 k2 hlen hok
   rw [clA] at hP'
   rw [il] at hP' hI'
   have hS' := hS k x r l
   rw [shA, il] at hS'
   rw [e8]
   simp (disch := omega) only [rq, simprocAttr, Qcg, Qkj, QdG, Qge, ol, kl0, oT, kT, zl, zd, List.append_nil]
   refine Qb.vc hP' ?_
   simp (disch := omega) only [rq, simprocAttr, Qid]
   obtain ⟨Lc, hLc⟩ : ∃ Lc, (QL r).toNat * k = Lc := ⟨_, rfl⟩
   rw [hLc] at hI'
   have hcnt : (Q7 (QL r).toNat n).length ≤ 1000 := by have := hok.2.2.2.2; rwa [Int.toNat_natCast] at this
   obtain ⟨cnt, hcn⟩ : ∃ cnt, (Q7 (QL r).toNat n).length = cnt := ⟨_, rfl⟩
   have hpo : QV k r l = (List.finRange cnt).map (fun j => QaV Lc l j.1) := by
    unfold QV
    rw [Int.toNat_natCast, hlen, Nat.mul_div_cancel _ (by omega), hcn, hLc]
    apply List.ext_getElem <;> simp
   rw [hcn] at hI' hcnt
   refine ⟨cnt, g, _, [ti], _, [(27, .fn (.func g) [] [.cell [.int .i64 k, .int .i64 x, .int .i64 r, .list l.length (ks .i32 l)]]), (2, .ref 0 1 0), (4, .ref 1 1 0), (5, .ref 2 1 0), (7, .ref 3 1 0), (9, .ref 4 1 0)],
    fun pre => [⟨t0, 4, 1, [.int .i64 k, .int .i64 x, .int .i64 r, .list l.length (ks .i32 l)], 0⟩, ⟨t1, 1, 1, [.list 0 []], 0⟩, ⟨t2, 1, 1, [.int .i64 0], 0⟩, ⟨t3, 16, 1, ks .i32 T, 0⟩, ⟨t1, 1, 1, [.own 5 pre.length], 0⟩, ⟨t4, 1, pre.length, pre.map (fun j => bs (Qjk k x T (QaV Lc l j.1))), 0⟩], ?_, rfl, bG.ent, by simp [isDL, isD, QW], hI', by omega, by omega, rfl, ?_, ?_, ?_⟩
   ·refine Le.trans (Le.virtF (p := 4) (ty := t4) (sz := 1) (by omega) rfl rfl) (Le.drop 6 2 (by omega) rfl (by simp [Am.look, Qu, frzL, Qs, frzL_T _ tl]) ?_)
    intro i z hz
    match i, hz with
    | 0, hz => cases hz; exact ⟨_, rfl, by simp [Qu, frzL, Qs, frzL_T _ tl]⟩
    | 1, hz => cases hz; exact ⟨_, rfl, by simp [Qu, frzL, Qs]⟩
    | 2, hz => cases hz; exact ⟨_, rfl, by simp [Qu, frzL, Qs]⟩
    | 3, hz => cases hz; exact ⟨_, rfl, by simp [Qu, frzL_T _ (Qm .i32 T)]⟩
    | 4, hz => cases hz; exact ⟨_, rfl, by simp [Qu, frzL, Qs]⟩
    | 5, hz => cases hz; exact ⟨_, rfl, by simp [Qu, frzL, Qs]⟩
    | i + 6, hz => simp at hz
   ·intro pre x hx
    simp only [List.mem_cons, List.not_mem_nil, or_false] at hx ⊢
    rcases hx with rfl | rfl | rfl | rfl | rfl | rfl
    ·exact h0
    ·exact h1
    ·exact h2
    ·exact h3
    ·exact h1
    ·exact h4
   ·intro pre y hpl
    have hmem : QaV Lc l y.1 ∈ QV k r l := by rw [hpo]; exact List.mem_map.2 ⟨y, List.mem_finRange _, rfl⟩
    obtain ⟨q1, q2, q3⟩ := hparts _ hmem
    have hqI : I32 (QaV Lc l y.1) := fun v hv => hI32 v (by
     unfold QaV at hv
     exact List.mem_of_mem_drop (List.mem_of_mem_take hv))
    have hE' := hE k x T (QaV Lc l y.1) hTl hTI hqI
    rw [Qzt, if_neg (by omega), Int.toNat_natCast] at hE'
    obtain ⟨w1, w2⟩ := QwF (t := T) hqI q1
    rw [Int.toNat_natCast] at w1 w2
    have hpm : (pre.map (fun j => bs (Qjk k x T (QaV Lc l j.1)))).length = pre.length := by simp
    obtain ⟨Y, hYe⟩ : ∃ Y, Qjk k x T (QaV Lc l y.1) = Y := ⟨_, rfl⟩
    rw [hYe] at hE' w1 w2
    obtain ⟨Z, hZ⟩ : ∃ Z, QaV Lc l y.1 = Z := ⟨_, rfl⟩
    rw [hZ] at hE' hqI q1 q2 q3 hYe ⊢
    rw [shA, il, bs] at hE'
    have tZ := Qm .i32 Z
    have tT2 := Qm .i32 T
    rw [il]
    simp (disch := omega) only [rq, simprocAttr, tT, kT]
    refine QU.vc hS' ?_
    simp (disch := omega) only [rq, simprocAttr, tT, kT]
    refine QU.vc hE' ?_
    simp (disch := omega) only [rq, simprocAttr, hpm]
    refine Le.drop 6 2 (by omega) rfl (by simp) ?_
    intro i z hz
    match i, hz with
    | 0, hz => cases hz; exact ⟨_, rfl, by simp [Qu, frzL, Qs, frzL_T _ tl]⟩
    | 1, hz => cases hz; exact ⟨_, rfl, by simp [Qu, frzL, Qs]⟩
    | 2, hz => cases hz; exact ⟨_, rfl, by simp [Qu, frzL, Qs]⟩
    | 3, hz => cases hz; exact ⟨_, rfl, by simp [Qu, frzL_T _ tT2]⟩
    | 4, hz => cases hz; exact ⟨_, rfl, by simp [Qu, frzL, Qs]⟩
    | 5, hz =>
     cases hz
     have e : (pre ++ [y]).map (fun j => bs (Qjk k x T (QaV Lc l j.1))) = pre.map (fun j => bs (Qjk k x T (QaV Lc l j.1))) ++ [.list Y.length (u8 Y)] := by
      simp only [List.map_append, List.map_cons, List.map_nil, hZ, hYe]
      rfl
     rw [e]
     refine ⟨_, rfl, frzL_T _ ?_⟩
     rw [← e]
     have := QbG ((pre ++ [y]).map (fun j => Qjk k x T (QaV Lc l j.1)))
     rwa [List.map_map] at this
    | i + 6, hz => simp at hz
   ·have hfl : (List.finRange cnt).length = cnt := by simp
    have hpi : (List.finRange cnt).map (fun j => bs (Qjk k x T (QaV Lc l j.1))) = (Qq k x r l T).map bs := by
     unfold Qq
     rw [hpo, List.map_map, List.map_map, Int.toNat_natCast]
     rfl
    dsimp only
    rw [hpi, hfl, e9]
    have hpl : (Qq k x r l T).length = cnt := by unfold Qq; rw [hpo]; simp
    have tp := QbG (Qq k x r l T)
    generalize hPP : (Qq k x r l T).map bs = PP at *
    simp (disch := omega) only [rq, simprocAttr, QD, ht1, ht2]
    simp [QF, Qu, frzL, Qs, isDL, isD, bss, hpl, hPP, frzL_T _ tp]
 ·rw [h] at hC'
  have e9 : Qbk c x r l p = .tup [bss [], .int .i64 8] := by rw [Qbk, if_pos (by omega)]
  simp (disch := omega) only [rq, simprocAttr, clA, il, QdG, Qge, Qcg, Qkj, Qid, Qzn]
  refine Qb.vc hC' ?_
  simp (disch := omega) only [rq, simprocAttr, Qcg, Qkj, QdG, Qge, e9, QD, ht1, ht2]
  simp [QF, Qu, frzL, Qs, isDL, isD, bss]
theorem Qxe {L : List (List UInt8)} {k : Nat} (h : k < L.length) : (L.map bs).drop k = bs (L.getD k []) :: (L.map bs).drop (k + 1) := by
 rw [List.drop_eq_getElem_cons (by simpa using h)]
 simp [List.getD_eq_getElem?_getD, List.getElem?_eq_getElem h]
theorem QAs {c x r n : Int} (h : Xz c x r n = 0) : okA r n ∧ ZC c x = 0 ∧ 1 ≤ n ∧ n ≤ 4000 / c := by
 unfold Xz at h
 split at h
 ·cases h
 rename_i a1
 split at h
 ·cases h
 rename_i a2
 split at h
 ·cases h
 rename_i a3
 split at h
 ·cases h
 rename_i a4
 have a5 : ZC c x = 0 := by simpa using a1
 have a6 : QjS r n = 0 := by simpa using a4
 refine ⟨?_, a5, by omega, by omega⟩
 unfold QjS at a6
 split at a6
 ·cases a6
 split at a6
 ·cases a6
 split at a6
 ·cases a6
 rename_i b1 b2 b3
 refine ⟨by omega, by omega, by omega, by omega, ?_⟩
 have hlong : 1 ≤ QL r := Xw r
 obtain ⟨L, hLe⟩ : ∃ L : Nat, QL r = L := ⟨(QL r).toNat, by omega⟩
 obtain ⟨m, rfl⟩ : ∃ m : Nat, n = m := ⟨n.toNat, by omega⟩
 rw [hLe, Int.toNat_natCast, Int.toNat_natCast, Xx]
 rw [hLe] at b3
 have h1 : (m : Int) + (L : Int) - 1 = ((m - 1 + L : Nat) : Int) := by omega
 rw [h1, ← Int.natCast_ediv, Nat.add_div_right _ (by omega)] at b3
 omega
theorem RepL.split {X : Cx} : ∀ {cs bs : List AV} {vs : List Value}, RepL X (cs ++ bs) vs → ∃ us ws, vs = us ++ ws ∧ RepL X cs us ∧ RepL X bs ws
 | [], bs, vs, h => ⟨[], vs, rfl, by simp [RepL], h⟩
 | a :: cs, bs, vs, h => by
  simp only [List.cons_append, RepL] at h
  obtain ⟨v, rest, rfl, h1, h2⟩ := h
  obtain ⟨us, ws, rfl, h3, h4⟩ := RepL.split h2
  exact ⟨v :: us, ws, rfl, by simp only [RepL]; exact ⟨v, us, rfl, h1, h3⟩, h4⟩
def ph3 : Ob := ⟨1, 1, 0, [], 0⟩
theorem Held.fill {B : Nat} {w : World} {ob : List Ob} {be : List (Option (Nat × Nat))} {C : Nat → Nat → Prop} {o : Nat} (g : Held B ⟨w, ob, be, C⟩) (ho : ob[o]? = some ph2) :
  Held B ⟨w, ob.set o ph3, be.set o none, C⟩ ∧ Moves ⟨w, ob, be, C⟩ ⟨w, ob.set o ph3, be.set o none, C⟩ := by
 have hol : o < ob.length := (List.getElem?_eq_some_iff.1 ho).1
 have hlen : be.length = ob.length := g.len
 have hav : ∀ b k, (Cx.mk w (ob.set o ph3) (be.set o none) C).av b k → (Cx.mk w ob be C).av b k := by
  rintro b k (h | ⟨o', x, c, h1, h2, h3⟩)
  ·exact .inl h
  ·simp only [List.getElem?_set] at h1 h2
   by_cases e : o = o'
   ·subst e; simp [hlen, hol] at h2
   ·simp [e] at h1 h2
    exact .inr ⟨o', x, c, h1, h2, h3⟩
 have m : Moves ⟨w, ob, be, C⟩ ⟨w, ob.set o ph3, be.set o none, C⟩ := by
  refine ⟨fun b k v hc ha => ⟨hc, fun h => ha (hav b k h)⟩, fun o' x hx => ?_, fun b hb hf => ⟨rfl, fun o' c h => ?_⟩⟩
  ·by_cases e : o = o'
   ·subst e
    have hx' : ob[o]? = some x := hx
    rw [ho] at hx'; cases hx'
    exact ⟨ph3, by simp [hol], Nat.le_refl _, fun h => absurd rfl h⟩
   ·exact ⟨x, by simp only [List.getElem?_set, e, if_false]; exact hx, Nat.le_refl _, fun h => ⟨h, fun _ => by simp only [List.getElem?_set, e, if_false]⟩⟩
  ·simp only [List.getElem?_set] at h
   by_cases e : o = o'
   ·subst e; simp [hlen, hol] at h
   ·simp [e] at h; exact hf o' c h
 refine ⟨⟨by simp [hlen], fun o' x e' hx he => ?_, fun o1 o2 b c c' q1 q2 => ?_, fun o1 b c q => ?_, g.bnd, g.size⟩, m⟩
 ·simp only [List.getElem?_set] at hx he
  by_cases e : o = o'
  ·subst e
   simp [hlen, hol] at hx he
   subst hx; subst he
   exact ⟨rfl, rfl⟩
  ·simp [e] at hx he
   exact (g.ok o' x e' hx he).move m fun _ _ _ => rfl
 ·simp only [List.getElem?_set] at q1 q2
  by_cases e : o = o1
  ·subst e; simp [hlen, hol] at q1
  ·by_cases e2 : o = o2
   ·subst e2; simp [hlen, hol] at q2
   ·simp [e] at q1; simp [e2] at q2
    exact g.inj o1 o2 b c c' q1 q2
 ·simp only [List.getElem?_set] at q
  by_cases e : o = o1
  ·subst e; simp [hlen, hol] at q
  ·simp [e] at q; exact g.base o1 b c q
theorem ACall.fill {P : Prg} {f : FuncId} {avs : List AV} {r : AV} {ob : List Ob} {o : Nat} (ho : ob[o]? = some ph2) (h : ACall P f avs ob (fun r' ob' => r' = r ∧ ob' = ob)) : ACall P f avs ob (fun r' ob' => r' = r ∧ ob' = ob.set o ph3) := by
 obtain ⟨hE, h⟩ := h
 refine ⟨hE, fun B w be C vs g hG hr => (h B w be C vs g hG hr).mono ?_⟩
 rintro e w' ⟨v, r', ob', be', rfl, hb, hh, hm, hv, rfl, rfl⟩
 obtain ⟨g1, m1⟩ := hh.fill ho
 exact ⟨v, r', _, _, rfl, hb, g1, hm.trans m1, Rep.move m1 _ _ hv, rfl, rfl⟩
theorem QU.own {P : Prg} {B : Nat} {Q : Exit → St → Prop} {f : FuncId} {avs : List AV} {r : AV} {ob : List Ob} (o : Nat) (he : QcX P f) (h : ∀ ob', ob'[o]? = some ph2 → ACall P f avs ob' (fun r' ob'' => r' = r ∧ ob'' = ob')) (ho : ob[o]? = some ph2)
  {xs : List It} {fr : List (Nat × AV)} {dst : Option Nat} (hK : Qco P B xs Q ⟨Z7 fr dst r, ob.set o ph3⟩) : QU P B false f avs xs Q fr ob dst := by
 refine QU.at (r := r) o ph3 he (fun ob' h' => ACall.fill h' (h ob' h')) ho (by decide) ?_
 simp only [app, if_pos (List.getElem?_eq_some_iff.1 ho).1]
 exact hK
def QCu (L : List (List UInt8)) : Prop := L.length ≤ 1000000 ∧ ∀ j, (L.getD j []).length ≤ 1000000
theorem Qwq {c x r : Int} {l : List Int} {p : List UInt8} (h : Zc c x r l = 0) (hp : ¬ 64 < p.length) : Qbk c x r l p = .tup [bss (Qq c x r l (ofK (Z5 0 p) 8)), .int .i64 0] := by rw [Qbk, if_neg (by omega), if_neg hp]
theorem Qaz (c x r : Int) (l T : List Int) : (Qq c x r l T).length = (QV c r l).length := by unfold Qq; simp
theorem callE.vo {P : Prg} {B : Nat} {Q : Exit → St → Prop} {f : FuncId} {ds : List AV} {r : AV} {x : Ob} (h : VO P f ds r x) {ob : List Ob} (o : Nat) (ho : ob[o]? = some ph2) {xs : List It} {fr : List (Nat × AV)} {dst : Option Nat} (hK : Qco P B xs Q ⟨Z7 fr dst (shr o r), ob.set o x⟩) : QU P B true f ds xs Q fr ob dst := by
 have hl : o < ob.length := (List.getElem?_eq_some_iff.1 ho).1
 have ha : app ob (some (o, x)) = ob.set o x := by simp [app, hl]
 refine ⟨shr o r, some (o, x), ?_, by rw [ha]; exact hK⟩
 unfold QcV
 rw [if_pos rfl]
 refine ⟨ACall.of_vo_at h ho ⟨rfl, by rw [ha]⟩, fun o' y e => ?_⟩
 cases e
 exact ⟨ph2, ho, by simp [ph2, ph]⟩
theorem Qui {c x r : Int} {l : List Int} (h : Zc c x r l = 0) : QdV c x l = 0 ∧ Xz c x r (l.length / c) = 0 := by
 have h' := QfU (c := c) (x := x) (r := r) (l := l)
 rw [h] at h'
 by_cases h9 : QdV c x l = 0 ∧ Xz c x r (l.length / c) = 0
 ·exact h9
 ·rw [if_neg h9] at h'; cases h'
theorem Qsf {c x r : Int} {l : List Int} (h : Zc c x r l = 0) (hI : I32 l) (j : Nat) : I32 ((QV c r l).getD j []) := fun v hv => by
 rcases Nat.lt_or_ge j (QV c r l).length with hj | hj
 ·refine hI v ?_
  rw [← Qgn h]
  refine List.mem_flatten.2 ⟨_, ?_, hv⟩
  rw [List.getD_eq_getElem?_getD, List.getElem?_eq_getElem hj]
  exact List.getElem_mem _
 ·rw [List.getD_eq_getElem?_getD, List.getElem?_eq_none hj] at hv
  simp at hv
theorem QoD {c x r : Int} {l T : List Int} {j : Nat} (hj : j < (QV c r l).length) : (Qq c x r l T).getD j [] = Qjk c.toNat x T ((QV c r l).getD j []) := by
 unfold Qq
 rw [List.getD_eq_getElem?_getD, List.getD_eq_getElem?_getD, List.getElem?_map, List.getElem?_eq_getElem hj]
 rfl
theorem QoC {c x r : Int} {l T : List Int} (h : Zc c x r l = 0) (hI : I32 l) : QCu (Qq c x r l T) := by
 have h1 := Qaz c x r l T
 have h2 := Qce h
 refine ⟨by omega, fun j => ?_⟩
 rcases Nat.lt_or_ge j (QV c r l).length with hj | hj
 ·rw [QoD hj]
  have hmem : (QV c r l).getD j [] ∈ QV c r l := by rw [List.getD_eq_getElem?_getD, List.getElem?_eq_getElem hj]; exact List.getElem_mem _
  have := (QwF (t := T) (Qsf h hI j) (Qcd h _ hmem).1).1
  omega
 ·rw [List.getD_eq_getElem?_getD, List.getElem?_eq_none (by omega)]; exact Nat.zero_le _
theorem Qol {c x r : Int} {l : List Int} (h : Zc c x r l = 0) (hI : I32 l) : ∀ q ∈ QV c r l, I32 q := fun q hq v hv => hI v (by rw [← Qgn h]; exact List.mem_flatten.2 ⟨q, hq, hv⟩)
def QrL (P : Prg) (f : Nat) : Prop := ∀ p : List UInt8, VC P f [.str p] (if 64 < p.length then .tup [.int .u64 0, .int .i64 2] else .tup [.int .u64 (Z5 0 p), .int .i64 0])
theorem QwN {P : Prg} {f fS : Nat} (bd : Qf P f 16 [.tmp 2, .tmp 3] (QbK fS)) (hS : QiP P fS) : QrL P f := by
 intro p
 refine VC.of_acall rfl (by split <;> rfl) (ACall.of_body bd (by simp) ?_)
 by_cases h : 64 < p.length
 ·rw [if_pos h]
  simp (disch := omega) only [rq, simprocAttr, QbK]
 ·have hS' := hS p
  rw [if_neg (by omega)] at hS'
  rw [if_neg h]
  rw [bs] at hS'
  simp (disch := omega) only [rq, simprocAttr, QbK]
  refine Qb.vc hS' ?_
  simp (disch := omega) only [rq, simprocAttr]
def QAT (p : List UInt8) : AV := if 64 < p.length then .tup [.list 0 [], .int .i64 2] else .tup [bs (leB (Z5 0 p) 8), .int .i64 0]
theorem QAn (p : List UInt8) : isD (QAT p) = true := by unfold QAT; split <;> simp [isD, isDL, QC]
def QgV (P : Prg) (f : Nat) : Prop := ∀ p : List UInt8, VC P f [.str p] (QAT p)
theorem QoP {P : Prg} {f fO fB : Nat} (bd : Qf P f 18 [.tmp 2, .tmp 3] (J1 fO fB)) (hO : QrL P fO) (hB : Qbt P fB) : QgV P f := by
 intro p
 refine VC.of_walk 1 rfl (QAn p) (ACall.of_body bd (by simp) ?_)
 have hO' := hO p
 by_cases h : 64 < p.length
 ·rw [if_pos h] at hO'
  rw [QAT, if_pos h]
  simp (disch := omega) only [rq, simprocAttr, J1]
  refine Qb.vc hO' ?_
  simp (disch := omega) only [rq, simprocAttr]
  simp [QF, Qu, frzL, Qs]
 ·rw [if_neg h] at hO'
  have hB' := hB (Z5 0 p) 8 (by omega) (by omega) (QeI (by decide))
  have tb := Qv (leB (Z5 0 p) 8)
  rw [QAT, if_neg h]
  simp only [bs] at hB' ⊢
  simp (disch := omega) only [rq, simprocAttr, J1]
  refine Qb.vc hO' ?_
  simp (disch := omega) only [rq, simprocAttr]
  refine Qb.vc hB' ?_
  simp (disch := omega) only [rq, simprocAttr]
  simp [QF, Qu, frzL, Qs, frzL_T _ tb]
def Qxu (P : Prg) (f : Nat) : Prop := ∀ p : List UInt8, p.length ≤ 1000000 → VC P f [.str p] (.int .u64 (Z5 0 p))
theorem Qtw {P : Prg} {f fB : Nat} (bd : Qf P f 6 [.tmp 2] (X9 fB)) (hB : QdZ P fB) : Qxu P f := by
 intro p hp
 refine VC.of_acall rfl rfl (ACall.of_body bd (by simp) ?_)
 have hB' := hB 0 p (by decide) hp
 rw [bs] at hB'
 simp (disch := omega) only [rq, simprocAttr, X9]
 refine Qb.vc hB' ?_
 simp (disch := omega) only [rq, simprocAttr]
def QrC (P : Prg) (f : Nat) : Prop := ∀ p : List UInt8, p.length ≤ 1000000 → VC P f [.str p] (bs (leB (Z5 0 p) 8))
theorem Qlt {P : Prg} {f fT fW : Nat} (bd : Qf P f 6 [.tmp 2] (ZY fT fW)) (hT : Qxu P fT) (hW : Qbu P fW) : QrC P f := by
 intro p hp
 refine VC.of_acall rfl (QC _) (ACall.of_body bd (by simp) ?_)
 have hT' := hT p hp
 have hW' := hW (Z5 0 p) 8 (by omega) (QeI (by decide))
 simp (disch := omega) only [rq, simprocAttr, ZY]
 refine Qb.vc hT' ?_
 simp (disch := omega) only [rq, simprocAttr]
 refine Qb.vc hW' ?_
 simp (disch := omega) only [rq, simprocAttr]
def QrZ : Int → List Int → Prop
 | _, [] => True
 | m, n :: l => 5 ≤ n ∧ n ≤ m ∧ QrZ (m - n) l
instance decSk : ∀ (m : Int) (l : List Int), Decidable (QrZ m l)
 | _, [] => isTrue trivial
 | m, n :: l => by
  unfold QrZ
  have := decSk (m - n) l
  exact inferInstance
def skN (l : List Int) : Int := if l.length = 0 ∨ 1000 < l.length then 8 else if QrZ 100000 l then 0 else 8
def skL (m : Int) (l : List Int) : Nat → Int
 | 0 => m
 | k + 1 => skL m l k - l.getD k 0
theorem QrY (l : List Int) : ∀ (m : Int) , QrZ m l ↔ ∀ k, k < l.length → 5 ≤ l.getD k 0 ∧ l.getD k 0 ≤ skL m l k := by
 induction l with
 | nil => intro m; simp [QrZ]
 | cons n l ih =>
  intro m
  have e : ∀ k, skL m (n :: l) (k + 1) = skL (m - n) l k := fun k => by
   induction k with
   | zero => simp [skL]
   | succ k ih2 =>
    show skL m (n :: l) (k + 1) - (n :: l).getD (k + 1) 0 = skL (m - n) l k - l.getD k 0
    rw [ih2]; rfl
  rw [QrZ, ih]
  constructor
  ·rintro ⟨h1, h2, h3⟩ k hk
   match k with
   | 0 => exact ⟨h1, h2⟩
   | k + 1 =>
    rw [e]
    exact h3 k (by simpa using hk)
  ·intro h
   refine ⟨(h 0 (by simp)).1, (h 0 (by simp)).2, fun k hk => ?_⟩
   have := h (k + 1) (by simpa using hk)
   rw [e] at this
   exact this
def QiS (P : Prg) (f : Nat) : Prop := ∀ l : List Int, l.length ≤ 1000000 → (∀ v ∈ l, -9223372036854775808 ≤ v ∧ v ≤ 9223372036854775807) → VC P f [Qjj l] (.int .i64 (skN l))
theorem Qp5 {P : Prg} {f : Nat} (bd : Qf P f 31 [.tmp 2] Jp) : QiS P f := by
 intro l hl hv
 refine VC.of_acall (by simp [isDL, QdN]) rfl (ACall.of_body bd (by simp) ?_)
 by_cases h1 : l.length = 0 ∨ 1000 < l.length
 ·have e8 : skN l = 8 := by rw [skN, if_pos h1]
  rw [e8]
  rcases h1 with h1 | h1
  ·simp (disch := omega) only [rq, simprocAttr, Jp, Qjj]
  ·by_cases h0 : l.length = 0
   ·omega
   ·simp (disch := omega) only [rq, simprocAttr, Jp, Qjj]
 have e8 : skN l = if QrZ 100000 l then 0 else 8 := by rw [skN, if_neg h1]
 rw [e8]
 clear e8
 have hiff := QrY l 100000
 have kl : (ks .i64 l).length = l.length := Qg _ _
 have h0 : ¬ l.length = 0 := by omega
 simp (disch := omega) only [rq, simprocAttr, Jp, Qjj]
 refine Qx.by (ι := Nat) (fun k => ⟨[(16, .int .i64 k), (15, .int .i64 l.length), (14, .list l.length (ks .i64 l)), (3, .int .i64 (skL 100000 l k))], []⟩) (fun k => k ≤ l.length ∧ (∀ j, j < k → 5 ≤ l.getD j 0 ∧ l.getD j 0 ≤ skL 100000 l j) ∧ 0 ≤ skL 100000 l k ∧ skL 100000 l k ≤ 100000) (fun k => l.length - k) 0 (Le.slots (by simp [Am.look, skL])) ⟨by omega, by omega, by simp [skL], by simp [skL]⟩ ?_
 rintro k ⟨hk, ha, hb, hc⟩
 by_cases hlt : k < l.length
 ·have e1 : (ks .i64 l).drop k = .int .i64 (l.getD k 0) :: (ks .i64 l).drop (k + 1) := by
   have h := Qcf (K := .i64) (l := l) (i := k) hlt
   rw [← QaJ] at h
   exact h
  have hr := hv (l.getD k 0) (by rw [List.getD_eq_getElem?_getD, List.getElem?_eq_getElem hlt]; exact List.getElem_mem _)
  have hs : skL 100000 l (k + 1) = skL 100000 l k - l.getD k 0 := rfl
  by_cases g1 : l.getD k 0 < 5
  ·have hn : ¬ QrZ 100000 l := fun h => by have := (hiff.1 h k hlt).1; omega
   rw [if_neg hn]
   generalize l.getD k 0 = v at *
   simp (disch := omega) only [rq, simprocAttr, e1, kl]
  ·by_cases g2 : skL 100000 l k < l.getD k 0
   ·have hn : ¬ QrZ 100000 l := fun h => by have := (hiff.1 h k hlt).2; omega
    rw [if_neg hn]
    generalize l.getD k 0 = v at *
    simp (disch := omega) only [rq, simprocAttr, e1, kl]
   ·have ha' : ∀ j, j < k + 1 → 5 ≤ l.getD j 0 ∧ l.getD j 0 ≤ skL 100000 l j := fun j hj => by
     by_cases e : j = k
     ·subst e; omega
     ·exact ha j (by omega)
    generalize l.getD k 0 = v at *
    generalize skL 100000 l k = m at *
    simp (disch := omega) only [rq, simprocAttr, e1, kl]
    refine ⟨k + 1, ⟨by omega, ha', by omega, by omega⟩, by omega, ?_⟩
    simp only [hs]
    exact Le.slots (by simp [Am.look])
 ·have ek : k = l.length := by omega
  subst ek
  rw [if_pos (hiff.2 ha)]
  simp (disch := omega) only [rq, simprocAttr]
def Jl (l : List Int) : List UInt8 := (l.map fun n => leB n.toNat 4).flatten
theorem QnT (l : List Int) (k : Nat) (h : k < l.length) : Jl (l.take (k + 1)) = Jl (l.take k) ++ leB (l.getD k 0).toNat 4 := by
 unfold Jl
 rw [List.take_succ_eq_append_getElem h, List.map_append, List.flatten_append]
 simp [List.getD_eq_getElem?_getD, List.getElem?_eq_getElem h]
theorem Qht (l : List Int) : (Jl l).length = 4 * l.length := by
 unfold Jl
 induction l with
 | nil => rfl
 | cons a l ih => simp only [List.map_cons, List.flatten_cons, List.length_append, Qd, ih, List.length_cons]; omega
def skA (l : List Int) : AV := if skN l = 0 then .tup [bs (ZU (Jl l)), .int .i64 0] else .tup [.list 0 [], .int .i64 (skN l)]
theorem QAj (l : List Int) : isD (skA l) = true := by unfold skA; split <;> simp [isD, isDL, QC]
theorem QnV (l : List Int) : skN l = 8 ∨ skN l = 0 ∧ 1 ≤ l.length ∧ l.length ≤ 1000 ∧ ∀ k, k < l.length → 5 ≤ l.getD k 0 ∧ l.getD k 0 ≤ 100000 := by
 by_cases h : l.length = 0 ∨ 1000 < l.length
 ·exact .inl (by rw [skN, if_pos h])
 ·by_cases h2 : QrZ 100000 l
  ·refine .inr ⟨by rw [skN, if_neg h, if_pos h2], by omega, by omega, fun k hk => ?_⟩
   have h3 := (QrY l 100000).1 h2
   have hm : ∀ k, k ≤ l.length → skL 100000 l k ≤ 100000 := fun k => by
    induction k with
    | zero => simp [skL]
    | succ k ih =>
     intro hk
     have := ih (by omega)
     have := (h3 k (by omega)).1
     simp only [skL]
     omega
   have := h3 k hk
   have := hm k (by omega)
   omega
  ·exact .inl (by rw [skN, if_neg h, if_neg h2])
def QiR (P : Prg) (f : Nat) : Prop := ∀ l : List Int, l.length ≤ 1000000 → (∀ v ∈ l, -9223372036854775808 ≤ v ∧ v ≤ 9223372036854775807) → VC P f [Qjj l] (skA l)
theorem Qp4 {P : Prg} {f fC fP fS fB t0 tb : Nat} (bd : Qf P f 38 [.tmp 2, .tmp 3] (Qap fC fP fS t0)) (hC : QiS P fC) (bP : Qf P fP 13 [] (Jt fB tb)) (hB : Qbt P fB) (hS : Qpm P fS) : QiR P f := by
 intro l hl hv
 refine VC.of_walk 1 (by simp [isDL, QdN]) (QAj l) (ACall.of_cut 3 bd (by simp) ?_)
 have hC' := hC l hl hv
 rw [Qjj] at hC' ⊢
 rcases QnV l with h | ⟨h, n1, n2, hr⟩
 ·rw [h] at hC'
  rw [skA, if_neg (by omega), h]
  simp (disch := omega) only [rq, simprocAttr, Qap, Qdl]
  refine Qb.vc hC' ?_
  simp (disch := omega) only [rq, simprocAttr, Qdl]
  simp [QF, Qu, frzL, Qs]
 rw [h] at hC'
 rw [skA, if_pos h]
 have kl : (ks .i64 l).length = l.length := Qg _ _
 have tl := Qm .i64 l
 have tB := fun m => Qv (Jl (l.take m))
 have hpl : ∀ m, (Jl (l.take m)).length ≤ 4000 := fun m => by rw [Qht, List.length_take]; omega
 simp (disch := omega) only [rq, simprocAttr, Qap, Qdl]
 refine Qb.vc hC' ?_
 simp (disch := omega) only [rq, simprocAttr, Qdl]
 refine ⟨_, Le.virtF 0 tb 1 (by decide) rfl rfl, ?_⟩
 simp (disch := omega) only [rq, simprocAttr, Qdl]
 refine Qx.by (ι := Nat) (fun k => ⟨[(19, .int .i64 k), (18, .int .i64 l.length), (17, .list l.length (ks .i64 l)), (6, .fn (.func fP) [] [.ref 0 1 0]), (5, .ref 0 1 0)], [⟨t0, 1, 1, [.own 1 (Jl (l.take k)).length], 0⟩, ⟨tb, 1, (Jl (l.take k)).length, u8 (Jl (l.take k)), 0⟩]⟩) (fun k => k ≤ l.length) (fun k => l.length - k) 0 (Le.slots (by simp [Am.look, Jl, u8])) (by omega) ?_
 intro k hk
 have hpk := hpl k
 by_cases hlt : k < l.length
 ·have e1 : (ks .i64 l).drop k = .int .i64 (l.getD k 0) :: (ks .i64 l).drop (k + 1) := by
   have h := Qcf (K := .i64) (l := l) (i := k) hlt
   rw [← QaJ] at h
   exact h
  have hs := QnT l k hlt
  have hrk := hr k hlt
  generalize hz : l.getD k 0 = z at *
  obtain ⟨z, rfl⟩ : ∃ m : Nat, z = m := ⟨z.toNat, by omega⟩
  rw [Int.toNat_natCast] at hs
  have hB' := hB z 4 (by omega) (by omega) (by simp; omega)
  rw [bs, Qd] at hB'
  have hul : (u8 (leB z 4)).length = 4 := by rw [Qy, Qd]
  have hcat : u8 (Jl (l.take k)) ++ u8 (leB z 4) = u8 (Jl (l.take (k + 1))) := by rw [hs]; simp [u8]
  have hlen : (Jl (l.take k)).length + 4 = (Jl (l.take (k + 1))).length := by rw [hs, List.length_append, Qd]
  generalize hB1 : Jl (l.take (k + 1)) = B1 at *
  generalize Jl (l.take k) = B0 at *
  simp (disch := omega) only [rq, simprocAttr, Qdl, kl, e1]
  refine ACall.of_body bP (by simp) ?_
  simp (disch := omega) only [rq, simprocAttr, Jt]
  refine Qb.vc hB' ?_
  simp (disch := omega) only [rq, simprocAttr, hul, hcat, hlen]
  refine ⟨k + 1, by omega, by omega, ?_⟩
  simp only [hB1]
  exact Le.slots (by simp [Am.look])
 ·have ek : k = l.length := by omega
  subst ek
  rw [List.take_length] at hpk ⊢
  have tB := Qv (Jl l)
  have hS' := hS (Jl l)
  rw [if_neg (by omega)] at hS'
  have hsm : Qcc (Jl l) < 4294967296 := by unfold Qcc; omega
  rw [← Qcc, bs] at hS'
  have hB' := hB (Qcc (Jl l)) 4 (by omega) (by omega) (by simpa using hsm)
  rw [bs, Qd] at hB'
  have hul : (u8 (leB (Qcc (Jl l)) 4)).length = 4 := by rw [Qy, Qd]
  have hcat : u8 (Jl l) ++ u8 (leB (Qcc (Jl l)) 4) = u8 (ZU (Jl l)) := by simp [u8, ZU]
  have hlen : (Jl l).length + 4 = (ZU (Jl l)).length := by rw [ZU, List.length_append, Qd]
  have tS := Qv (ZU (Jl l))
  rw [bs]
  generalize ZU (Jl l) = B1 at *
  generalize Qcc (Jl l) = sm at *
  generalize Jl l = B0 at *
  simp (disch := omega) only [rq, simprocAttr, Qdl, kl]
  refine Qb.still 1 [1] hS' (by simp [QF, Qu, frzL, Qs, frzL_T _ tB]) ?_
  simp (disch := omega) only [rq, simprocAttr, Qdl, QA]
  refine ACall.of_body bP (by simp) ?_
  simp (disch := omega) only [rq, simprocAttr, Jt]
  refine Qb.vc hB' ?_
  simp (disch := omega) only [rq, simprocAttr, hul, hcat, hlen, Qdl]
  simp [QF, Qu, frzL, Qs, frzL_T _ tS]
def hdA (f c b r n : Int) : AV := .agg [.int .i64 f, .int .i64 c, .int .i64 b, .int .i64 r, .int .i64 n]
def shP (f c b r n : Int) : Prop := (b = 8 ∨ b = 16 ∨ b = 24) ∧ (f = 1 ∨ f = 2) ∧ 1 ≤ c ∧ c ≤ 6 ∧ 1 ≤ r ∧ r ≤ 1048576 ∧ 1 ≤ n
instance decShP (f c b r n : Int) : Decidable (shP f c b r n) := by unfold shP; exact inferInstance
def QmG (P : Prg) (g : Nat) : Prop := ∀ f c b r n : Int, VC P g [hdA f c b r n] (.bool (decide (shP f c b r n)))
theorem QlJ {P : Prg} {g t0 : Nat} (bd : Qf P g 44 [.tmp 2] (QO t0)) : QmG P g := by
 intro f c b r n
 refine VC.of_acall rfl rfl (ACall.of_body bd (by simp) ?_)
 by_cases hb : b = 8 ∨ b = 16 ∨ b = 24
 case neg =>
  have hn : decide (shP f c b r n) = false := decide_eq_false fun h => hb h.1
  rw [hn]
  simp (disch := omega) only [rq, simprocAttr, QO, hdA]
 by_cases hf : f = 1 ∨ f = 2
 case neg =>
  have hn : decide (shP f c b r n) = false := decide_eq_false fun h => hf h.2.1
  rw [hn]
  rcases hb with rfl | rfl | rfl <;> simp (disch := omega) only [rq, simprocAttr, QO, hdA]
 by_cases hc1 : 1 ≤ c
 case neg =>
  have hn : decide (shP f c b r n) = false := decide_eq_false fun h => hc1 h.2.2.1
  rw [hn]
  rcases hb with rfl | rfl | rfl <;> rcases hf with rfl | rfl <;> simp (disch := omega) only [rq, simprocAttr, QO, hdA]
 by_cases hc2 : c ≤ 6
 case neg =>
  have hn : decide (shP f c b r n) = false := decide_eq_false fun h => hc2 h.2.2.2.1
  rw [hn]
  rcases hb with rfl | rfl | rfl <;> rcases hf with rfl | rfl <;> simp (disch := omega) only [rq, simprocAttr, QO, hdA]
 by_cases hr1 : 1 ≤ r
 case neg =>
  have hn : decide (shP f c b r n) = false := decide_eq_false fun h => hr1 h.2.2.2.2.1
  rw [hn]
  rcases hb with rfl | rfl | rfl <;> rcases hf with rfl | rfl <;> simp (disch := omega) only [rq, simprocAttr, QO, hdA]
 by_cases hr2 : r ≤ 1048576
 case neg =>
  have hn : decide (shP f c b r n) = false := decide_eq_false fun h => hr2 h.2.2.2.2.2.1
  rw [hn]
  rcases hb with rfl | rfl | rfl <;> rcases hf with rfl | rfl <;> simp (disch := omega) only [rq, simprocAttr, QO, hdA]
 by_cases hn1 : 1 ≤ n
 case neg =>
  have hn : decide (shP f c b r n) = false := decide_eq_false fun h => hn1 h.2.2.2.2.2.2
  rw [hn]
  rcases hb with rfl | rfl | rfl <;> rcases hf with rfl | rfl <;> simp (disch := omega) only [rq, simprocAttr, QO, hdA]
 have hn : decide (shP f c b r n) = true := decide_eq_true ⟨hb, hf, hc1, hc2, hr1, hr2, hn1⟩
 rw [hn]
 rcases hb with rfl | rfl | rfl <;> rcases hf with rfl | rfl <;> simp (disch := omega) only [rq, simprocAttr, QO, hdA]
end Go.Am
