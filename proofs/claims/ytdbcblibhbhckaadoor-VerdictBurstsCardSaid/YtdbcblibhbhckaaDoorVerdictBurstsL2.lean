/- What the functions that the law reaches return, for every program that has their code; the conditions stand in each statement. -/
import Derived.Test.YtdbcblibhbhckaaDoorVerdictBurstsL1
set_option linter.unusedSectionVars false
set_option linter.unusedSimpArgs false
set_option linter.unusedVariables false
namespace Go.Am
open Go.RowKit

/-! ### The state of the code with two levels -/

structure Dl where
  k0 : Nat
  k1 : Nat
  s0 : Nat
  s1 : Nat
def dlC (d : Dl) : List AV := [.int .i64 d.k0, .int .i64 d.k1, .int .u64 d.s0, .int .u64 d.s1]
def dlA (d : Dl) : AV := .agg (dlC d)
def okD (d : Dl) : Prop := d.k0 ≤ 24 ∧ d.k1 ≤ 24 ∧ d.s0 ≤ 68719476735 ∧ d.s1 ≤ 68719476735
def startM : Dl := ⟨10, 10, 16384, 16384⟩
def pairM (k s n : Nat) : Nat × Nat :=
  if 0 < k ∧ s + n - s / 16 < 2 ^ (k + 4) then (k - 1, s + n - s / 16) else if k < 24 ∧ 2 ^ (k + 5) < s + n - s / 16 then (k + 1, s + n - s / 16) else (k, s + n - s / 16)
def learnM (d : Dl) (v : Nat) : Dl :=
  if v < 2 ^ d.k0 then ⟨(pairM d.k0 d.s0 v).1, d.k1, (pairM d.k0 d.s0 v).2, d.s1⟩
  else ⟨(pairM d.k0 d.s0 v).1, (pairM d.k1 d.s1 (v - 2 ^ d.k0)).1, (pairM d.k0 d.s0 v).2, (pairM d.k1 d.s1 (v - 2 ^ d.k0)).2⟩

theorem pair_ok {k s n : Nat} (hk : k ≤ 24) (hs : s ≤ 68719476735) (hn : n < 4294967296) : (pairM k s n).1 ≤ 24 ∧ (pairM k s n).2 ≤ 68719476735 := by
  unfold pairM
  have ht : s + n - s / 16 ≤ 68719476735 := by omega
  generalize s + n - s / 16 = t at *
  split
  · exact ⟨by simp only; omega, ht⟩
  · split
    · rename_i h; exact ⟨by have := h.1; simp only; omega, ht⟩
    · exact ⟨hk, ht⟩
theorem learn_ok {d : Dl} {v : Nat} (h : okD d) (hv : v < 4294967296) : okD (learnM d v) := by
  obtain ⟨h1, h2, h3, h4⟩ := h
  have p0 := pair_ok h1 h3 hv
  have p1 := pair_ok (n := v - 2 ^ d.k0) h2 h4 (Nat.lt_of_le_of_lt (Nat.sub_le _ _) hv)
  unfold learnM
  split
  · exact ⟨p0.1, h2, p0.2, h4⟩
  · exact ⟨p0.1, p1.1, p0.2, p1.2⟩
theorem start_ok : okD startM := by unfold okD startM; decide
theorem isD_dlA (d : Dl) : isD (dlA d) = true := rfl

theorem p24 {k : Nat} (h : k ≤ 24) : 2 ^ k ≤ 16777216 ∧ 2 ^ (k + 4) = 16 * 2 ^ k ∧ 2 ^ (k + 5) = 32 * 2 ^ k := by
  have := Nat.pow_le_pow_right (n := 2) (by omega) h
  refine ⟨by simpa using this, ?_, ?_⟩ <;> rw [Nat.pow_add, Nat.mul_comm]

def S_Start (P : Prg) (f : Nat) : Prop := VC P f [] (dlA startM)
theorem dual_Start {P : Prg} {f t0 : Nat} (bd : Body P f 2 [.cell 0 t0] (ac_dual_Start t0)) (ht : aggO P t0 = some (some 4)) : S_Start P f := by
  refine VC.of_acall rfl rfl (ACall.of_body bd (by simp) ?_)
  simp (maxSteps := 4000000) (disch := omega) only [step, stepv, ev, wl, wn, wp, wz, aop, cV, cV1, AV.one, partCells, okW, onlyFr, app, sliceCells, cellsAt, srcA, subA, eqFs, Int.cast_ofNat_Int, simprocAttr, ac_dual_Start, resA, ht, oneOf, dlA, dlC, startM]
  try rfl
def S_DCheck (P : Prg) (f : Nat) : Prop := ∀ d : Dl, okD d → VC P f [dlA d] (.int .i64 0)
theorem dual_Check {P : Prg} {f t0 : Nat} (bd : Body P f 26 [.tmp 2] (ac_dual_Check t0)) : S_DCheck P f := by
  intro d h
  obtain ⟨k0, k1, s0, s1⟩ := d
  obtain ⟨h1, h2, h3, h4⟩ := h
  simp only at h1 h2 h3 h4
  refine VC.of_acall rfl rfl (ACall.of_cut 1 bd (by simp) ?_)
  simp (maxSteps := 4000000) (disch := omega) only [step, stepv, ev, wl, wn, wp, wz, aop, cV, cV1, AV.one, partCells, okW, onlyFr, app, sliceCells, cellsAt, srcA, subA, eqFs, Int.cast_ofNat_Int, simprocAttr, ac_dual_Check, dlA, dlC, cuts]
  refine ⟨⟨[(2, .int .i64 0), (1, .cell [.int .i64 k0, .int .i64 k1, .int .u64 s0, .int .u64 s1])], []⟩, Le.dropT [] (by simp) (by simp [Am.look, frzK, frzL, frzV]), ?_⟩
  simp (maxSteps := 4000000) (disch := omega) only [step, stepv, ev, wl, wn, wp, wz, aop, cV, cV1, AV.one, partCells, okW, onlyFr, app, sliceCells, cellsAt, srcA, subA, eqFs, Int.cast_ofNat_Int, simprocAttr]

def S_Level (P : Prg) (f : Nat) : Prop := ∀ (d : Dl) (v : Nat), okD d → v < 4294967296 → VC P f [dlA d, .int .u32 v] (if v < 2 ^ d.k0 then .tup [.int .i64 0, .int .u32 v] else .tup [.int .i64 1, .int .u32 ((v - 2 ^ d.k0 : Nat) : Int)])
theorem dual_level {P : Prg} {f t0 : Nat} (bd : Body P f 17 [.tmp 4, .tmp 5] (ac_dual_level t0)) : S_Level P f := by
  intro d v h hv
  obtain ⟨k0, k1, s0, s1⟩ := d
  obtain ⟨h1, h2, h3, h4⟩ := h
  simp only at h1 h2 h3 h4
  refine VC.of_acall rfl (by simp only; split <;> rfl) (ACall.of_body bd (by simp) ?_)
  have e1 : shiftA false .u32 (v : Int) (k0 : Int) = some (.int .u32 ((v / 2 ^ k0 : Nat) : Int)) := shrK (K := .u32) (by show k0 ≤ 32; omega)
  obtain ⟨q1, _⟩ := p24 h1
  have e2 : shiftA true .u32 1 (k0 : Int) = some (.int .u32 ((2 ^ k0 : Nat) : Int)) := by
    have := shlK (K := .u32) rfl (c := 1) (s := k0) (by show k0 ≤ 32; omega) (by show 1 * 2 ^ k0 < 4294967296; omega)
    rw [Nat.one_mul] at this
    exact this
  simp only
  by_cases c : v < 2 ^ k0
  · rw [if_pos c]
    rw [Nat.div_eq_of_lt c] at e1
    have e1' : shiftA false .u32 (v : Int) (k0 : Int) = some (.int .u32 0) := e1
    simp (maxSteps := 4000000) (disch := omega) only [step, stepv, ev, wl, wn, wp, wz, aop, cV, cV1, AV.one, partCells, okW, onlyFr, app, sliceCells, cellsAt, srcA, subA, eqFs, Int.cast_ofNat_Int, simprocAttr, ac_dual_level, dlA, dlC, e1']
  · rw [if_neg c]
    have hpos : 0 < v / 2 ^ k0 := Nat.div_pos (by omega) (Nat.pow_pos (by omega))
    have hle : v / 2 ^ k0 ≤ v := Nat.div_le_self _ _
    have e3 : ((v - 2 ^ k0 : Nat) : Int) = (v : Int) - ((2 ^ k0 : Nat) : Int) := by omega
    generalize v / 2 ^ k0 = w at *
    generalize 2 ^ k0 = p at *
    simp (maxSteps := 4000000) (disch := omega) only [step, stepv, ev, wl, wn, wp, wz, aop, cV, cV1, AV.one, partCells, okW, onlyFr, app, sliceCells, cellsAt, srcA, subA, eqFs, Int.cast_ofNat_Int, simprocAttr, ac_dual_level, dlA, dlC, e1, e2, e3]

theorem learn_pair {P : Prg} {f : Nat} (bd : Body P f 58 [] ac_dual_learn_1) {ob : List Ob} {p : Nat} {t : Nat} {d : Dl} (hp : ob[p]? = some ⟨t, 4, 1, dlC d, 0⟩) (hd : okD d) {n : Nat} (hn : n < 4294967296) (b : Bool) {K : AV → List Ob → Prop}
    (hK : K (.tup []) (ob.set p ⟨t, 4, 1, dlC (if b then ⟨d.k0, (pairM d.k1 d.s1 n).1, d.s0, (pairM d.k1 d.s1 n).2⟩ else ⟨(pairM d.k0 d.s0 n).1, d.k1, (pairM d.k0 d.s0 n).2, d.s1⟩), 0⟩)) :
    ACall P f [.ref p 1 (if b then 1 else 0), .ref p 1 (if b then 3 else 2), .int .u32 n] ob K := by
  have hpl : p < ob.length := (List.getElem?_eq_some_iff.1 hp).1
  have g1 : ∀ x, (ob.set p x)[p]? = some x := fun x => by simp [hpl]
  have g2 : ∀ x y, (ob.set p x).set p y = ob.set p y := fun x y => List.set_set _
  have key : ∀ k s : Nat, k ≤ 24 → s ≤ 68719476735 → ∃ t p4 p5 : Nat, t ≤ 68719476735 ∧ IntKind.u64.wrap ((s : Int) + IntKind.u64.wrap ((n : Int) - ((s / 16 : Nat) : Int))) = (t : Int) ∧ shiftA false .u64 (s : Int) 4 = some (.int .u64 ((s / 16 : Nat) : Int)) ∧
      shiftA true .u64 16 (k : Int) = some (.int .u64 (p4 : Int)) ∧ shiftA true .u64 32 (k : Int) = some (.int .u64 (p5 : Int)) ∧
      shiftA true .u64 16 (k : Int) = some (.int .u64 (p4 : Int)) ∧ pairM k s n = if 0 < k ∧ t < p4 then (k - 1, t) else if k < 24 ∧ p5 < t then (k + 1, t) else (k, t) := by
    intro k s hk hs
    obtain ⟨q1, q2, q3⟩ := p24 hk
    refine ⟨s + n - s / 16, 2 ^ (k + 4), 2 ^ (k + 5), by omega, ?_, shrK (K := .u64) (k := 4) (by decide), ?_, ?_, ?_, rfl⟩
    · rw [wrap_u64_mod, wrap_u64_mod]; omega
    · rw [q2]; exact shlK (K := .u64) rfl (c := 16) (by show k ≤ 64; omega) (by show 16 * 2 ^ k < 18446744073709551616; omega)
    · rw [q3]; exact shlK (K := .u64) rfl (c := 32) (by show k ≤ 64; omega) (by show 32 * 2 ^ k < 18446744073709551616; omega)
    · rw [q2]; exact shlK (K := .u64) rfl (c := 16) (by show k ≤ 64; omega) (by show 16 * 2 ^ k < 18446744073709551616; omega)
  obtain ⟨k0, k1, s0, s1⟩ := d
  obtain ⟨h1, h2, h3, h4⟩ := hd
  simp only at h1 h2 h3 h4
  refine ACall.of_body bd (by simp) ?_
  simp only [dlC] at hp hK
  cases b with
  | false =>
    obtain ⟨u, p4, p5, hu, e1, e2, e3, e4, _, e5⟩ := key k0 s0 h1 h3
    simp only [e5, Bool.false_eq_true, if_false] at hK ⊢
    by_cases c1 : 0 < k0
    · by_cases c2 : u < p4
      · rw [if_pos ⟨c1, c2⟩] at hK
        have e6 : ((k0 - 1 : Nat) : Int) = (k0 : Int) - 1 := by omega
        simp only [e6] at hK
        simp (maxSteps := 4000000) (disch := omega) only [step, stepv, ev, wl, wn, wp, wz, aop, cV, cV1, AV.one, partCells, okW, onlyFr, app, sliceCells, cellsAt, srcA, subA, eqFs, Int.cast_ofNat_Int, simprocAttr, ac_dual_learn_1, hp, g1, g2, e1, e2, e3, e4, e6]
        exact hK
      · rw [if_neg (fun h => c2 h.2)] at hK
        by_cases c3 : k0 < 24
        · by_cases c4 : p5 < u
          · rw [if_pos ⟨c3, c4⟩] at hK
            simp only [Int.natCast_add] at hK
            simp (maxSteps := 4000000) (disch := omega) only [step, stepv, ev, wl, wn, wp, wz, aop, cV, cV1, AV.one, partCells, okW, onlyFr, app, sliceCells, cellsAt, srcA, subA, eqFs, Int.cast_ofNat_Int, simprocAttr, ac_dual_learn_1, hp, g1, g2, e1, e2, e3, e4]
            exact hK
          · rw [if_neg (fun h => c4 h.2)] at hK
            simp (maxSteps := 4000000) (disch := omega) only [step, stepv, ev, wl, wn, wp, wz, aop, cV, cV1, AV.one, partCells, okW, onlyFr, app, sliceCells, cellsAt, srcA, subA, eqFs, Int.cast_ofNat_Int, simprocAttr, ac_dual_learn_1, hp, g1, g2, e1, e2, e3, e4]
            exact hK
        · rw [if_neg (fun h => c3 h.1)] at hK
          simp (maxSteps := 4000000) (disch := omega) only [step, stepv, ev, wl, wn, wp, wz, aop, cV, cV1, AV.one, partCells, okW, onlyFr, app, sliceCells, cellsAt, srcA, subA, eqFs, Int.cast_ofNat_Int, simprocAttr, ac_dual_learn_1, hp, g1, g2, e1, e2, e3, e4]
          exact hK
    · rw [if_neg (fun h => c1 h.1)] at hK
      by_cases c4 : p5 < u
      · rw [if_pos ⟨by omega, c4⟩] at hK
        simp only [Int.natCast_add] at hK
        simp (maxSteps := 4000000) (disch := omega) only [step, stepv, ev, wl, wn, wp, wz, aop, cV, cV1, AV.one, partCells, okW, onlyFr, app, sliceCells, cellsAt, srcA, subA, eqFs, Int.cast_ofNat_Int, simprocAttr, ac_dual_learn_1, hp, g1, g2, e1, e2, e3, e4]
        exact hK
      · rw [if_neg (fun h => c4 h.2)] at hK
        simp (maxSteps := 4000000) (disch := omega) only [step, stepv, ev, wl, wn, wp, wz, aop, cV, cV1, AV.one, partCells, okW, onlyFr, app, sliceCells, cellsAt, srcA, subA, eqFs, Int.cast_ofNat_Int, simprocAttr, ac_dual_learn_1, hp, g1, g2, e1, e2, e3, e4]
        exact hK
  | true =>
    obtain ⟨u, p4, p5, hu, e1, e2, e3, e4, _, e5⟩ := key k1 s1 h2 h4
    simp only [e5, if_true] at hK ⊢
    by_cases c1 : 0 < k1
    · by_cases c2 : u < p4
      · rw [if_pos ⟨c1, c2⟩] at hK
        have e6 : ((k1 - 1 : Nat) : Int) = (k1 : Int) - 1 := by omega
        simp only [e6] at hK
        simp (maxSteps := 4000000) (disch := omega) only [step, stepv, ev, wl, wn, wp, wz, aop, cV, cV1, AV.one, partCells, okW, onlyFr, app, sliceCells, cellsAt, srcA, subA, eqFs, Int.cast_ofNat_Int, simprocAttr, ac_dual_learn_1, hp, g1, g2, e1, e2, e3, e4, e6]
        exact hK
      · rw [if_neg (fun h => c2 h.2)] at hK
        by_cases c3 : k1 < 24
        · by_cases c4 : p5 < u
          · rw [if_pos ⟨c3, c4⟩] at hK
            simp only [Int.natCast_add] at hK
            simp (maxSteps := 4000000) (disch := omega) only [step, stepv, ev, wl, wn, wp, wz, aop, cV, cV1, AV.one, partCells, okW, onlyFr, app, sliceCells, cellsAt, srcA, subA, eqFs, Int.cast_ofNat_Int, simprocAttr, ac_dual_learn_1, hp, g1, g2, e1, e2, e3, e4]
            exact hK
          · rw [if_neg (fun h => c4 h.2)] at hK
            simp (maxSteps := 4000000) (disch := omega) only [step, stepv, ev, wl, wn, wp, wz, aop, cV, cV1, AV.one, partCells, okW, onlyFr, app, sliceCells, cellsAt, srcA, subA, eqFs, Int.cast_ofNat_Int, simprocAttr, ac_dual_learn_1, hp, g1, g2, e1, e2, e3, e4]
            exact hK
        · rw [if_neg (fun h => c3 h.1)] at hK
          simp (maxSteps := 4000000) (disch := omega) only [step, stepv, ev, wl, wn, wp, wz, aop, cV, cV1, AV.one, partCells, okW, onlyFr, app, sliceCells, cellsAt, srcA, subA, eqFs, Int.cast_ofNat_Int, simprocAttr, ac_dual_learn_1, hp, g1, g2, e1, e2, e3, e4]
          exact hK
    · rw [if_neg (fun h => c1 h.1)] at hK
      by_cases c4 : p5 < u
      · rw [if_pos ⟨by omega, c4⟩] at hK
        simp only [Int.natCast_add] at hK
        simp (maxSteps := 4000000) (disch := omega) only [step, stepv, ev, wl, wn, wp, wz, aop, cV, cV1, AV.one, partCells, okW, onlyFr, app, sliceCells, cellsAt, srcA, subA, eqFs, Int.cast_ofNat_Int, simprocAttr, ac_dual_learn_1, hp, g1, g2, e1, e2, e3, e4]
        exact hK
      · rw [if_neg (fun h => c4 h.2)] at hK
        simp (maxSteps := 4000000) (disch := omega) only [step, stepv, ev, wl, wn, wp, wz, aop, cV, cV1, AV.one, partCells, okW, onlyFr, app, sliceCells, cellsAt, srcA, subA, eqFs, Int.cast_ofNat_Int, simprocAttr, ac_dual_learn_1, hp, g1, g2, e1, e2, e3, e4]
        exact hK

end Go.Am

namespace Go.Am
open Go.RowKit

/-! ### Bits are put behind bits -/

def bO (t o N : Nat) : Ob := ⟨t, 2, 1, [.own o (nB N), .int .i64 N], 0⟩
def bY (t N V : Nat) : Ob := ⟨t, 1, nB N, u8 (leB V (nB N)), 0⟩

theorem isDL_leB (V n : Nat) : isDL (u8 (leB V n)) = true := isDL_u8 _
theorem Low.put {ob : List Ob} (h : Low ob.length ob) {t t0 o p N V N' : Nat} (ho : o < ob.length) : Low ob.length (upd2 ob o p (bY t0 N V) (bO t o N')) := by
  unfold upd2
  refine (h.set ?_).set ?_
  · exact lowL_D _ (isDL_leB _ _)
  · simp [bO, lowL, lowV, ho]
theorem Low.drop {ob : List Ob} (h : Low ob.length ob) {t t0 o p N V : Nat} (ho : o < ob.length) {M : Nat} (hM : M ≤ ob.length) {J : List Ob} {fr fr' : List (Nat × AV)}
    (hfr : ∀ q ∈ fr', q.2 = .any ∨ (q.2 = Am.look fr q.1 ∧ lowV ob.length q.2 = true)) :
    Le M ⟨fr, upd2 ob o p (bY t0 N V) (bO t o N) ++ J⟩ ⟨fr', upd2 ob o p (bY t0 N V) (bO t o N)⟩ := by
  have hl : (upd2 ob o p (bY t0 N V) (bO t o N)).length = ob.length := upd2_len
  refine Le.low (by omega) (by rw [hl]; exact h.put ho) ?_
  rw [hl]
  exact hfr

theorem putN {V N v j r : Nat} : V + 2 ^ N * (v % 2 ^ (j + r)) = V + 2 ^ N * (v % 2 ^ j) + 2 ^ (N + j) * (v / 2 ^ j % 2 ^ r) := by
  rw [Nat.pow_add, Nat.mod_mul, Nat.mul_add, Nat.pow_add, Nat.mul_assoc, Nat.add_assoc]

set_option maxHeartbeats 1000000 in
theorem bits_put {P : Prg} {f t0 t : Nat} (bd : Body P f 75 [] (ac_bits_put t0)) {ob : List Ob} {p o N V v n : Nat} (hp : ob[p]? = some (bO t o N)) (ho : ob[o]? = some (bY t0 N V)) (hpo : p ≠ o) (hV : V < 2 ^ N) (hv : v < 2 ^ n) (hn : n ≤ 64) (hN : N + n ≤ 400000) (hfz : Low ob.length ob)
    {K : AV → List Ob → Prop} (hK : K (.tup []) (upd2 ob o p (bY t0 (N + n) (V + 2 ^ N * v)) (bO t o (N + n)))) : ACall P f [.ref p 1 0, .int .u64 v, .int .i64 n] ob K := by
  have hol : o < ob.length := (List.getElem?_eq_some_iff.1 ho).1
  have hpl : p < ob.length := (List.getElem?_eq_some_iff.1 hp).1
  refine ACall.of_body bd (by simp) ?_
  have g0 : ∀ x y J, (upd2 ob o p x y ++ J)[p]? = some y := fun x y J => by rw [List.getElem?_append_left (by rw [upd2_len]; exact hpl)]; exact upd2_gp hpl
  have g1 : ∀ x y J, (upd2 ob o p x y ++ J)[o]? = some x := fun x y J => by rw [List.getElem?_append_left (by rw [upd2_len]; exact hol)]; exact upd2_go hol hpo
  have g2 : ∀ x y J y', (upd2 ob o p x y ++ J).set p y' = upd2 ob o p x y' ++ J := fun x y J y' => by rw [List.set_append_left _ _ (by rw [upd2_len]; exact hpl), upd2_p]
  have g3 : ∀ x y J x', (upd2 ob o p x y ++ J).set o x' = upd2 ob o p x' y ++ J := fun x y J x' => by rw [List.set_append_left _ _ (by rw [upd2_len]; exact hol), upd2_o hpo]
  have g4 : ∀ x y j, (upd2 ob o p x y ++ [j])[ob.length]? = some j := fun x y j => by rw [List.getElem?_append_right (by rw [upd2_len]; exact Nat.le_refl _), upd2_len, Nat.sub_self]; rfl
  have gp : ∀ x y, (upd2 ob o p x y)[p]? = some y := fun x y => upd2_gp hpl
  have go : ∀ x y, (upd2 ob o p x y)[o]? = some x := fun x y => upd2_go hol hpo
  have sp : ∀ x y y', (upd2 ob o p x y).set p y' = upd2 ob o p x y' := fun x y y' => upd2_p
  have so : ∀ x y x', (upd2 ob o p x y).set o x' = upd2 ob o p x' y := fun x y x' => upd2_o hpo
  have ln : ∀ x y, (upd2 ob o p x y).length = ob.length := fun x y => upd2_len
  simp (maxSteps := 4000000) (disch := omega) only [step, stepv, ev, wl, wn, wp, wz, aop, cV, cV1, AV.one, partCells, okW, onlyFr, app, sliceCells, cellsAt, srcA, subA, eqFs, Int.cast_ofNat_Int, simprocAttr, ac_bits_put]
  refine ALoop.by (ι := Nat) (fun j => ⟨[(2, .int .i64 ((n - j : Nat) : Int)), (1, .int .u64 ((v / 2 ^ j : Nat) : Int)), (0, .ref p 1 0)], upd2 ob o p (bY t0 (N + j) (V + 2 ^ N * (v % 2 ^ j))) (bO t o (N + j))⟩) (fun j => j ≤ n) (fun j => n - j) 0 ?_ (by omega) ?_
  · have : upd2 ob o p (bY t0 (N + 0) (V + 2 ^ N * (v % 2 ^ 0))) (bO t o (N + 0)) = ob := by
      rw [Nat.add_zero, Nat.pow_zero, Nat.mod_one, Nat.mul_zero, Nat.add_zero]
      exact upd2_same ho hp hpo
    rw [this]
    exact Le.slots (by simp [Am.look])
  intro j hj
  by_cases hlt : j < n
  · obtain ⟨M, hM⟩ : ∃ M, M = N + j := ⟨_, rfl⟩
    obtain ⟨i, hi⟩ : ∃ i, i = M / 8 := ⟨_, rfl⟩
    obtain ⟨a, ha⟩ : ∃ a, a = M % 8 := ⟨_, rfl⟩
    obtain ⟨r, hr⟩ : ∃ r, r = min (n - j) (8 - a) := ⟨_, rfl⟩
    have hM8 : M = 8 * i + a := by omega
    have hW : V + 2 ^ N * (v % 2 ^ j) < 2 ^ M := by
      have h1 : v % 2 ^ j < 2 ^ j := Nat.mod_lt _ (Nat.pow_pos (by omega))
      have h2 : 2 ^ N * (v % 2 ^ j + 1) ≤ 2 ^ N * 2 ^ j := Nat.mul_le_mul_left _ h1
      rw [hM, Nat.pow_add]; rw [Nat.mul_add, Nat.mul_one] at h2; omega
    have hstep := putN (V := V) (N := N) (v := v) (j := j) (r := r)
    rw [← hM] at hstep ⊢
    have hx : v / 2 ^ j < 18446744073709551616 := by
      have h1 : v / 2 ^ j ≤ v := Nat.div_le_self _ _
      have h2 : 2 ^ n ≤ 2 ^ 64 := Nat.pow_le_pow_right (by omega) hn
      omega
    have hxr : v / 2 ^ (j + r) = v / 2 ^ j / 2 ^ r := by rw [Nat.pow_add, Nat.div_div_eq_div_mul]
    generalize V + 2 ^ N * (v % 2 ^ j) = W at *
    generalize hWW : V + 2 ^ N * (v % 2 ^ (j + r)) = W' at *
    generalize hxx : v / 2 ^ j = x at *
    have h2r : 2 ^ r ≤ 2 ^ 8 := Nat.pow_le_pow_right (by omega) (by omega)
    have h2a : 2 ^ a * 2 ^ r ≤ 2 ^ 8 := by rw [← Nat.pow_add]; exact Nat.pow_le_pow_right (by omega) (by omega)
    have hpos : 0 < 2 ^ r := Nat.pow_pos (by omega)
    have hc : x % 2 ^ r < 2 ^ r := Nat.mod_lt _ hpos
    obtain ⟨l1, l2⟩ := bits_last (V := W) (i := i) (at_ := a) (by rw [← hM8]; exact hW) (by omega)
    obtain ⟨b1, b2, _⟩ := bits_put_plain (V := W) (i := i) (at_ := a) (w := x % 2 ^ r) (r := r) (by rw [← hM8]; exact hW) hc (by omega)
    rw [← hM8, ← hstep] at b1
    have hyb : W / 256 ^ i < 256 := by
      have : 2 ^ a ≤ 2 ^ 8 := Nat.pow_le_pow_right (by omega) (by omega)
      omega
    have hyb2 : W / 256 ^ i + 2 ^ a * (x % 2 ^ r) < 256 := by
      have : 2 ^ (a + r) ≤ 2 ^ 8 := Nat.pow_le_pow_right (by omega) (by omega)
      omega
    have hca : x % 2 ^ r * 2 ^ a < 2 ^ 8 := by
      rw [Nat.mul_comm]
      exact Nat.lt_of_lt_of_le (Nat.mul_lt_mul_of_pos_left hc (Nat.pow_pos (by omega))) h2a
    have hu : ∀ y, y < 256 → u8 [UInt8.ofNat y] = [.int .u8 (y : Int)] := fun y hy => by simp [u8]; omega
    have e8 : IntKind.u8.wrap (BitVec.ofInt IntKind.u8.bits ((W / 256 ^ i : Nat) : Int) ||| BitVec.ofInt IntKind.u8.bits ((x % 2 ^ r * 2 ^ a : Nat) : Int)).toNat = ((W / 256 ^ i + 2 ^ a * (x % 2 ^ r) : Nat) : Int) := by
      rw [orK (K := .u8) rfl hyb hca, or_add l2, Nat.mul_comm]
    have e7 : shiftA true .u8 ((x % 2 ^ r : Nat) : Int) (a : Int) = some (.int .u8 ((x % 2 ^ r * 2 ^ a : Nat) : Int)) := shlK rfl (by show a ≤ 8; omega) hca
    have e6 : IntKind.u8.wrap ((x % 2 ^ r : Nat) : Int) = ((x % 2 ^ r : Nat) : Int) := by rw [wrap_u8_mod]; omega
    have e5 : IntKind.u64.wrap (BitVec.ofInt IntKind.u64.bits (x : Int) &&& BitVec.ofInt IntKind.u64.bits ((2 ^ r - 1 : Nat) : Int)).toNat = ((x % 2 ^ r : Nat) : Int) := by
      rw [and_u64 _ _ hx (by omega), Nat.and_two_pow_sub_one_eq_mod]
    have e4 : IntKind.u64.wrap (((2 ^ r : Nat) : Int) - 1) = ((2 ^ r - 1 : Nat) : Int) := by rw [wrap_u64_mod]; omega
    have e3 : shiftA true .u64 1 (r : Int) = some (.int .u64 ((2 ^ r : Nat) : Int)) := by
      have := shlK (K := .u64) rfl (c := 1) (s := r) (by show r ≤ 64; omega) (by show 1 * 2 ^ r < 18446744073709551616; omega)
      rw [Nat.one_mul] at this
      exact this
    have e9 : shiftA false .u64 (x : Int) (r : Int) = some (.int .u64 ((x / 2 ^ r : Nat) : Int)) := shrK (K := .u64) (by show r ≤ 64; omega)
    have e1 := and7_i64 (n := M) (by omega)
    rw [← ha] at e1
    have e2 : (if (8 : Int) - a < ((n - j : Nat) : Int) then (8 : Int) - a else ((n - j : Nat) : Int)) = (r : Int) := by split <;> omega
    have hnB : nB (M + r) = i + 1 := by unfold nB; omega
    have hcell : u8 (leB W' (i + 1)) = u8 (leB W i) ++ [.int .u8 ((W / 256 ^ i + 2 ^ a * (x % 2 ^ r) : Nat) : Int)] := by
      rw [b1, show u8 (leB W i ++ [UInt8.ofNat (W / 256 ^ i + 2 ^ a * (x % 2 ^ r))]) = u8 (leB W i) ++ u8 [UInt8.ofNat (W / 256 ^ i + 2 ^ a * (x % 2 ^ r))] by simp [u8]]
      rw [hu _ hyb2]
    have hlen : (u8 (leB W i)).length = i := by simp [u8, leB_length]
    rw [← hxr] at e9
    generalize W / 256 ^ i + 2 ^ a * (x % 2 ^ r) = y' at *
    generalize x % 2 ^ r * 2 ^ a = ca at *
    generalize x % 2 ^ r = c at *
    generalize 2 ^ r - 1 = mk at *
    generalize 2 ^ r = pr at *
    have d1 : ∀ z : AV, (u8 (leB W i) ++ [z]).drop i = [z] := fun z => by rw [List.drop_left' hlen]
    have d2 : ∀ z : AV, (u8 (leB W i) ++ [z]).take i = u8 (leB W i) := fun z => by rw [List.take_left' hlen]
    have d3 : ∀ z : AV, (u8 (leB W i) ++ [z]).drop (i + 1) = [] := fun z => List.drop_of_length_le (by simp [hlen])
    have jr : n - j - r = n - (j + r) := by omega
    have el : (⟨t0, 1, i + 1, u8 (leB W i) ++ [.int .u8 (y' : Int)], 0⟩ : Ob) = bY t0 (M + r) W' := by rw [bY, hnB, hcell]
    have er : (⟨t, 2, 1, [.own o (i + 1), .int .i64 ((M : Int) + r)], 0⟩ : Ob) = bO t o (M + r) := by rw [bO, hnB, Int.natCast_add]
    have hMr : N + (j + r) = M + r := by omega
    have e10 : ((n - j : Nat) : Int) - r = ((n - (j + r) : Nat) : Int) := by omega
    have e11 : (M : Int) + r = ((M + r : Nat) : Int) := by omega
    by_cases h0 : a = 0
    · subst h0
      have hnM : nB M = i := by unfold nB; omega
      have hW0 : W / 256 ^ i = 0 := by
        have := l2
        rw [Nat.pow_zero] at this
        exact Nat.lt_one_iff.1 this
      rw [hW0] at e8
      have e8' : IntKind.u8.wrap (BitVec.ofInt IntKind.u8.bits 0 ||| BitVec.ofInt IntKind.u8.bits (ca : Int)).toNat = (y' : Int) := e8
      have e1' : IntKind.i64.wrap (BitVec.ofInt IntKind.i64.bits (M : Int) &&& BitVec.ofInt IntKind.i64.bits 7).toNat = 0 := e1
      have e2' : (if (8 : Int) < ((n - j : Nat) : Int) then (8 : Int) else ((n - j : Nat) : Int)) = (r : Int) := by split <;> omega
      have e12 : i + 1 - 1 = i := by omega
      have e7' : shiftA true .u8 (c : Int) 0 = some (.int .u8 (ca : Int)) := e7
      have e13 : (i : Int) + 1 - 1 = i := by omega
      simp (maxSteps := 4000000) (disch := omega) only [step, stepv, ev, wl, wn, wp, wz, aop, cV, cV1, AV.one, partCells, okW, onlyFr, app, sliceCells, cellsAt, srcA, subA, eqFs, Int.cast_ofNat_Int, simprocAttr, e2', e12, e13, bO, bY, gp, go, sp, so, ln, g0, g1, g2, g3, g4, hnM, hlen, e1', e2, e3, e4, e5, e6, e7', e8', e9, d1, d2, d3]
      refine ⟨j + r, by omega, by omega, ?_⟩
      show Le ob.length _ ⟨[(2, .int .i64 ((n - (j + r) : Nat) : Int)), (1, .int .u64 ((v / 2 ^ (j + r) : Nat) : Int)), (0, .ref p 1 0)], upd2 ob o p (bY t0 (N + (j + r)) (V + 2 ^ N * (v % 2 ^ (j + r)))) (bO t o (N + (j + r)))⟩
      rw [hWW, hMr, el, er]
      exact hfz.drop hol (Nat.le_refl _) (by simp [Am.look, lowV, hpl, e10])
    · have hnM : nB M = i + 1 := by unfold nB; omega
      have l3 : u8 (leB W (i + 1)) = u8 (leB W i) ++ [.int .u8 ((W / 256 ^ i : Nat) : Int)] := by
        rw [l1, show u8 (leB W i ++ [UInt8.ofNat (W / 256 ^ i)]) = u8 (leB W i) ++ u8 [UInt8.ofNat (W / 256 ^ i)] by simp [u8], hu _ hyb]
      have e12 : i + 1 - 1 = i := by omega
      have e13 : (i : Int) + 1 - 1 = i := by omega
      have ha0 : (a : Int) ≠ 0 := by omega
      generalize W / 256 ^ i = y at *
      simp (maxSteps := 4000000) (disch := omega) only [step, stepv, ev, wl, wn, wp, wz, aop, cV, cV1, AV.one, partCells, okW, onlyFr, app, sliceCells, cellsAt, srcA, subA, eqFs, Int.cast_ofNat_Int, simprocAttr, e12, e13, bO, bY, gp, go, sp, so, ln, hnM, hlen, l3, e1, e2, e3, e4, e5, e6, e7, e8, e9, d1, d2, d3]
      refine ⟨j + r, by omega, by omega, ?_⟩
      show Le ob.length _ ⟨[(2, .int .i64 ((n - (j + r) : Nat) : Int)), (1, .int .u64 ((v / 2 ^ (j + r) : Nat) : Int)), (0, .ref p 1 0)], upd2 ob o p (bY t0 (N + (j + r)) (V + 2 ^ N * (v % 2 ^ (j + r)))) (bO t o (N + (j + r)))⟩
      rw [hWW, hMr, el, er]
      exact Le.slots (by simp [Am.look, e10])
  · obtain rfl : j = n := by omega
    rw [Nat.mod_eq_of_lt hv]
    simp (maxSteps := 4000000) (disch := omega) only [step, stepv, ev, wl, wn, wp, wz, aop, cV, cV1, AV.one, partCells, okW, onlyFr, app, sliceCells, cellsAt, srcA, subA, eqFs, Int.cast_ofNat_Int, simprocAttr]
    exact hK

end Go.Am

namespace Go.Am
open Go.RowKit

/-! ### Codes are read -/

theorem dual_learn {P : Prg} {f f1 fL t : Nat} (bd : Body P f 36 [] (ac_dual_learn f1 fL)) (b1 : Body P f1 58 [] ac_dual_learn_1) (hL : S_Level P fL) {ob : List Ob} {p : Nat} {d : Dl} (hp : ob[p]? = some ⟨t, 4, 1, dlC d, 0⟩) (hd : okD d) {v : Nat} (hv : v < 4294967296) {K : AV → List Ob → Prop}
    (hK : K (.tup []) (ob.set p ⟨t, 4, 1, dlC (learnM d v), 0⟩)) : ACall P f [.ref p 1 0, .int .u32 v] ob K := by
  have hpl : p < ob.length := (List.getElem?_eq_some_iff.1 hp).1
  have hL' := hL d v hd hv
  have nph : ∀ cs, (⟨t, 4, 1, cs, 0⟩ : Ob) ≠ ph := fun cs e => by have := congrArg Ob.sz e; simp [ph] at this
  refine ACall.of_body bd (by simp) ?_
  unfold learnM at hK
  have hp0 := hp
  obtain ⟨k0, k1, s0, s1⟩ := d
  simp only [dlC] at hp
  simp only [dlA, dlC] at hL' hK
  by_cases c : v < 2 ^ k0
  · rw [if_pos c] at hL' hK
    simp (maxSteps := 4000000) (disch := omega) only [step, stepv, ev, wl, wn, wp, wz, aop, cV, cV1, AV.one, partCells, okW, onlyFr, app, sliceCells, cellsAt, srcA, subA, eqFs, Int.cast_ofNat_Int, simprocAttr, ac_dual_learn, hp]
    refine callQ.vc hL' ?_
    simp (maxSteps := 4000000) (disch := omega) only [step, stepv, ev, wl, wn, wp, wz, aop, cV, cV1, AV.one, partCells, okW, onlyFr, app, sliceCells, cellsAt, srcA, subA, eqFs, Int.cast_ofNat_Int, simprocAttr, hp]
    refine callE.by hp0 (nph _) (fun K hK => learn_pair b1 hp0 hd hv false hK) ?_
    simp (maxSteps := 4000000) (disch := omega) only [step, stepv, ev, wl, wn, wp, wz, aop, cV, cV1, AV.one, partCells, okW, onlyFr, app, sliceCells, cellsAt, srcA, subA, eqFs, Int.cast_ofNat_Int, simprocAttr]
    exact hK
  · rw [if_neg c] at hL' hK
    have hv2 : v - 2 ^ k0 < 4294967296 := Nat.lt_of_le_of_lt (Nat.sub_le _ _) hv
    obtain ⟨h1, h2, h3, h4⟩ := hd
    have pk := pair_ok h2 h4 hv2
    simp only at h1 h2 h3 h4 pk
    generalize v - 2 ^ k0 = w at *
    simp (maxSteps := 4000000) (disch := omega) only [step, stepv, ev, wl, wn, wp, wz, aop, cV, cV1, AV.one, partCells, okW, onlyFr, app, sliceCells, cellsAt, srcA, subA, eqFs, Int.cast_ofNat_Int, simprocAttr, ac_dual_learn, hp]
    refine callQ.vc hL' ?_
    simp (maxSteps := 4000000) (disch := omega) only [step, stepv, ev, wl, wn, wp, wz, aop, cV, cV1, AV.one, partCells, okW, onlyFr, app, sliceCells, cellsAt, srcA, subA, eqFs, Int.cast_ofNat_Int, simprocAttr, hp]
    refine callE.by hp0 (nph _) (fun K hK => learn_pair b1 hp0 ⟨h1, h2, h3, h4⟩ hv2 true hK) ?_
    have hp1 : (ob.set p ⟨t, 4, 1, dlC ⟨k0, (pairM k1 s1 w).1, s0, (pairM k1 s1 w).2⟩, 0⟩)[p]? = some ⟨t, 4, 1, dlC ⟨k0, (pairM k1 s1 w).1, s0, (pairM k1 s1 w).2⟩, 0⟩ := by simp [hpl]
    have hp2 := hp1
    simp only [dlC] at hp2
    simp (maxSteps := 4000000) (disch := omega) only [step, stepv, ev, wl, wn, wp, wz, aop, cV, cV1, AV.one, partCells, okW, onlyFr, app, sliceCells, cellsAt, srcA, subA, eqFs, Int.cast_ofNat_Int, simprocAttr, dlC, hp2]
    refine callE.by hp1 (nph _) (fun K hK => learn_pair b1 hp1 ⟨h1, pk.1, h3, pk.2⟩ hv false hK) ?_
    rw [List.set_set]
    simp (maxSteps := 4000000) (disch := omega) only [step, stepv, ev, wl, wn, wp, wz, aop, cV, cV1, AV.one, partCells, okW, onlyFr, app, sliceCells, cellsAt, srcA, subA, eqFs, Int.cast_ofNat_Int, simprocAttr]
    exact hK

theorem rice_escaped {P : Prg} {f : Nat} (bd : Body P f 9 [.tmp 4] ac_rice_escaped) {v k : Nat} (hk : k ≤ 24) (hv : v < 4294967296) : VC P f [.int .u32 v, .int .i64 k] (.bool (decide (48 ≤ v / 2 ^ k))) := by
  refine VC.of_acall rfl rfl (ACall.of_body bd (by simp) ?_)
  have e1 : shiftA false .u32 (v : Int) (k : Int) = some (.int .u32 ((v / 2 ^ k : Nat) : Int)) := shrK (K := .u32) (by show k ≤ 32; omega)
  generalize v / 2 ^ k = w at *
  have e2 : decide ((48 : Int) ≤ (w : Int)) = decide (48 ≤ w) := decide_eq_decide.2 (by omega)
  simp (maxSteps := 4000000) (disch := omega) only [step, stepv, ev, wl, wn, wp, wz, aop, cV, cV1, AV.one, partCells, okW, onlyFr, app, sliceCells, cellsAt, srcA, subA, eqFs, Int.cast_ofNat_Int, simprocAttr, ac_rice_escaped, e1, e2]
def S_esc (P : Prg) (f : Nat) : Prop := ∀ v k : Nat, k ≤ 24 → v < 4294967296 → VC P f [.int .u32 v, .int .i64 k] (.bool (decide (48 ≤ v / 2 ^ k)))
theorem rice_esc {P : Prg} {f : Nat} (bd : Body P f 9 [.tmp 4] ac_rice_escaped) : S_esc P f := by
  exact fun _ _ h1 h2 => rice_escaped bd h1 h2

def riceM (V N a k : Nat) : Nat ⊕ (Nat × Nat) :=
  match readU V N a with
  | .inl e => .inl e
  | .inr (q, nx) =>
    if N < nx + (if q = 48 then 32 else k) then .inl 24
    else if q < 48 then .inr (q * 2 ^ k + V / 2 ^ nx % 2 ^ k, nx + k)
    else if V / 2 ^ nx % 2 ^ 32 / 2 ^ k < 48 then .inl 12 else .inr (V / 2 ^ nx % 2 ^ 32, nx + 32)
def rcA : Nat ⊕ (Nat × Nat) → AV
  | .inl e => .tup [.int .u32 0, .int .i64 0, .int .i64 e]
  | .inr (v, n) => .tup [.int .u32 v, .int .i64 n, .int .i64 0]
theorem isD_rcA (o : Nat ⊕ (Nat × Nat)) : isD (rcA o) = true := by cases o <;> rfl

theorem readU_le {V N a q nx : Nat} (h : readU V N a = .inr (q, nx)) : q ≤ 48 ∧ nx ≤ N ∧ a ≤ nx := by
  unfold readU at h
  split at h
  · cases h
  split at h
  · cases h
    have := ones_le (min 48 (N - a)) (V / 2 ^ a)
    omega
  split at h
  · cases h; omega
  · cases h
theorem readU_err {V N a e : Nat} (h : readU V N a = .inl e) : e = 24 := by
  unfold readU at h
  split at h
  · cases h; rfl
  split at h
  · cases h
  split at h
  · cases h
  · cases h; rfl

def S_rRead (P : Prg) (f : Nat) : Prop := ∀ N V a k : Nat, V < 2 ^ N → N ≤ 330000 → a ≤ 400000 → k ≤ 24 → VC P f [bA N V, .int .i64 a, .int .i64 k] (rcA (riceM V N a k))
theorem rice_Read {P : Prg} {f fC fU fG fE t0 : Nat} (bd : Body P f 68 [.tmp 6, .tmp 7, .tmp 8] (ac_rice_Read fC fU fG fE t0)) (hC : S_bCheck P fC) (hU : S_uRead P fU) (hG : S_bGet P fG) (hE : S_esc P fE) : S_rRead P f := by
  intro N V a k hV hN ha hk
  refine VC.of_acall (by simp [isDL, isD_bA, isD]) (isD_rcA _) (ACall.of_body bd (by simp) ?_)
  have hC' := hC N V hV hN
  have hU' := hU N V a hV hN ha
  rw [bA] at hC' hU'
  unfold riceM
  cases hu : readU V N a with
  | inl e =>
    have he := readU_err hu
    rw [hu] at hU'
    subst he
    simp (maxSteps := 4000000) (disch := omega) only [step, stepv, ev, wl, wn, wp, wz, aop, cV, cV1, AV.one, partCells, okW, onlyFr, app, sliceCells, cellsAt, srcA, subA, eqFs, Int.cast_ofNat_Int, simprocAttr, ac_rice_Read, bA, rcA]
    refine callQ.vc hC' ?_
    simp (maxSteps := 4000000) (disch := omega) only [step, stepv, ev, wl, wn, wp, wz, aop, cV, cV1, AV.one, partCells, okW, onlyFr, app, sliceCells, cellsAt, srcA, subA, eqFs, Int.cast_ofNat_Int, simprocAttr]
    refine callQ.vc hU' ?_
    simp (maxSteps := 4000000) (disch := omega) only [step, stepv, ev, wl, wn, wp, wz, aop, cV, cV1, AV.one, partCells, okW, onlyFr, app, sliceCells, cellsAt, srcA, subA, eqFs, Int.cast_ofNat_Int, simprocAttr, unaA]
  | inr w =>
    obtain ⟨q, nx⟩ := w
    obtain ⟨u1, u2, u3⟩ := readU_le hu
    rw [hu] at hU'
    simp only
    by_cases hq : q = 48
    · have hG' := hG N V nx 32 hV hN (by omega) (by omega)
      subst hq
      rw [bA] at hG'
      simp only [if_true]
      by_cases hs : N < nx + 32
      · rw [if_pos hs] at hG' ⊢
        simp (maxSteps := 4000000) (disch := omega) only [step, stepv, ev, wl, wn, wp, wz, aop, cV, cV1, AV.one, partCells, okW, onlyFr, app, sliceCells, cellsAt, srcA, subA, eqFs, Int.cast_ofNat_Int, simprocAttr, ac_rice_Read, bA, rcA]
        refine callQ.vc hC' ?_
        simp (maxSteps := 4000000) (disch := omega) only [step, stepv, ev, wl, wn, wp, wz, aop, cV, cV1, AV.one, partCells, okW, onlyFr, app, sliceCells, cellsAt, srcA, subA, eqFs, Int.cast_ofNat_Int, simprocAttr]
        refine callQ.vc hU' ?_
        simp (maxSteps := 4000000) (disch := omega) only [step, stepv, ev, wl, wn, wp, wz, aop, cV, cV1, AV.one, partCells, okW, onlyFr, app, sliceCells, cellsAt, srcA, subA, eqFs, Int.cast_ofNat_Int, simprocAttr, unaA]
        refine callQ.vc hG' ?_
        simp (maxSteps := 4000000) (disch := omega) only [step, stepv, ev, wl, wn, wp, wz, aop, cV, cV1, AV.one, partCells, okW, onlyFr, app, sliceCells, cellsAt, srcA, subA, eqFs, Int.cast_ofNat_Int, simprocAttr]
      · rw [if_neg hs] at hG' ⊢
        have hx : V / 2 ^ nx % 2 ^ 32 < 4294967296 := Nat.mod_lt _ (by decide)
        generalize V / 2 ^ nx % 2 ^ 32 = x at *
        have hE' := hE x k hk hx
        rw [if_neg (by omega)]
        have e1 : IntKind.u32.wrap (x : Int) = x := wrap_u32 (by omega) (by omega)
        by_cases h4 : x / 2 ^ k < 48
        · rw [if_pos h4]
          rw [decide_eq_false (by omega)] at hE'
          simp (maxSteps := 4000000) (disch := omega) only [step, stepv, ev, wl, wn, wp, wz, aop, cV, cV1, AV.one, partCells, okW, onlyFr, app, sliceCells, cellsAt, srcA, subA, eqFs, Int.cast_ofNat_Int, simprocAttr, ac_rice_Read, bA, rcA]
          refine callQ.vc hC' ?_
          simp (maxSteps := 4000000) (disch := omega) only [step, stepv, ev, wl, wn, wp, wz, aop, cV, cV1, AV.one, partCells, okW, onlyFr, app, sliceCells, cellsAt, srcA, subA, eqFs, Int.cast_ofNat_Int, simprocAttr]
          refine callQ.vc hU' ?_
          simp (maxSteps := 4000000) (disch := omega) only [step, stepv, ev, wl, wn, wp, wz, aop, cV, cV1, AV.one, partCells, okW, onlyFr, app, sliceCells, cellsAt, srcA, subA, eqFs, Int.cast_ofNat_Int, simprocAttr, unaA]
          refine callQ.vc hG' ?_
          simp (maxSteps := 4000000) (disch := omega) only [step, stepv, ev, wl, wn, wp, wz, aop, cV, cV1, AV.one, partCells, okW, onlyFr, app, sliceCells, cellsAt, srcA, subA, eqFs, Int.cast_ofNat_Int, simprocAttr]
          refine callQ.vc hE' ?_
          simp (maxSteps := 4000000) (disch := omega) only [step, stepv, ev, wl, wn, wp, wz, aop, cV, cV1, AV.one, partCells, okW, onlyFr, app, sliceCells, cellsAt, srcA, subA, eqFs, Int.cast_ofNat_Int, simprocAttr]
        · rw [if_neg h4]
          rw [decide_eq_true (by omega)] at hE'
          simp (maxSteps := 4000000) (disch := omega) only [step, stepv, ev, wl, wn, wp, wz, aop, cV, cV1, AV.one, partCells, okW, onlyFr, app, sliceCells, cellsAt, srcA, subA, eqFs, Int.cast_ofNat_Int, simprocAttr, ac_rice_Read, bA, rcA]
          refine callQ.vc hC' ?_
          simp (maxSteps := 4000000) (disch := omega) only [step, stepv, ev, wl, wn, wp, wz, aop, cV, cV1, AV.one, partCells, okW, onlyFr, app, sliceCells, cellsAt, srcA, subA, eqFs, Int.cast_ofNat_Int, simprocAttr]
          refine callQ.vc hU' ?_
          simp (maxSteps := 4000000) (disch := omega) only [step, stepv, ev, wl, wn, wp, wz, aop, cV, cV1, AV.one, partCells, okW, onlyFr, app, sliceCells, cellsAt, srcA, subA, eqFs, Int.cast_ofNat_Int, simprocAttr, unaA]
          refine callQ.vc hG' ?_
          simp (maxSteps := 4000000) (disch := omega) only [step, stepv, ev, wl, wn, wp, wz, aop, cV, cV1, AV.one, partCells, okW, onlyFr, app, sliceCells, cellsAt, srcA, subA, eqFs, Int.cast_ofNat_Int, simprocAttr]
          refine callQ.vc hE' ?_
          simp (maxSteps := 4000000) (disch := omega) only [step, stepv, ev, wl, wn, wp, wz, aop, cV, cV1, AV.one, partCells, okW, onlyFr, app, sliceCells, cellsAt, srcA, subA, eqFs, Int.cast_ofNat_Int, simprocAttr]
    · have hG' := hG N V nx k hV hN (by omega) (by omega)
      rw [bA] at hG'
      rw [if_neg hq]
      by_cases hs : N < nx + k
      · rw [if_pos hs] at hG' ⊢
        simp (maxSteps := 4000000) (disch := omega) only [step, stepv, ev, wl, wn, wp, wz, aop, cV, cV1, AV.one, partCells, okW, onlyFr, app, sliceCells, cellsAt, srcA, subA, eqFs, Int.cast_ofNat_Int, simprocAttr, ac_rice_Read, bA, rcA]
        refine callQ.vc hC' ?_
        simp (maxSteps := 4000000) (disch := omega) only [step, stepv, ev, wl, wn, wp, wz, aop, cV, cV1, AV.one, partCells, okW, onlyFr, app, sliceCells, cellsAt, srcA, subA, eqFs, Int.cast_ofNat_Int, simprocAttr]
        refine callQ.vc hU' ?_
        simp (maxSteps := 4000000) (disch := omega) only [step, stepv, ev, wl, wn, wp, wz, aop, cV, cV1, AV.one, partCells, okW, onlyFr, app, sliceCells, cellsAt, srcA, subA, eqFs, Int.cast_ofNat_Int, simprocAttr, unaA]
        refine callQ.vc hG' ?_
        simp (maxSteps := 4000000) (disch := omega) only [step, stepv, ev, wl, wn, wp, wz, aop, cV, cV1, AV.one, partCells, okW, onlyFr, app, sliceCells, cellsAt, srcA, subA, eqFs, Int.cast_ofNat_Int, simprocAttr]
      · rw [if_neg hs] at hG' ⊢
        rw [if_pos (by omega)]
        have hx : V / 2 ^ nx % 2 ^ k < 2 ^ k := Nat.mod_lt _ (Nat.pow_pos (by omega))
        obtain ⟨pk, _⟩ := p24 hk
        have hqk : q * 2 ^ k ≤ 47 * 16777216 := Nat.mul_le_mul (by omega) pk
        have e1 : shiftA true .u32 (q : Int) (k : Int) = some (.int .u32 ((q * 2 ^ k : Nat) : Int)) := shlK (K := .u32) rfl (by show k ≤ 32; omega) (by show q * 2 ^ k < 4294967296; omega)
        have e2 : IntKind.u32.wrap (BitVec.ofInt IntKind.u32.bits ((q * 2 ^ k : Nat) : Int) ||| BitVec.ofInt IntKind.u32.bits ((V / 2 ^ nx % 2 ^ k : Nat) : Int)).toNat = ((q * 2 ^ k + V / 2 ^ nx % 2 ^ k : Nat) : Int) := by
          rw [orK (K := .u32) rfl (by show q * 2 ^ k < 4294967296; omega) (by show V / 2 ^ nx % 2 ^ k < 4294967296; omega), Nat.or_comm, or_add hx, Nat.add_comm]
        generalize V / 2 ^ nx % 2 ^ k = x at *
        generalize q * 2 ^ k + x = y at *
        generalize q * 2 ^ k = qk at *
        simp (maxSteps := 4000000) (disch := omega) only [step, stepv, ev, wl, wn, wp, wz, aop, cV, cV1, AV.one, partCells, okW, onlyFr, app, sliceCells, cellsAt, srcA, subA, eqFs, Int.cast_ofNat_Int, simprocAttr, ac_rice_Read, bA, rcA]
        refine callQ.vc hC' ?_
        simp (maxSteps := 4000000) (disch := omega) only [step, stepv, ev, wl, wn, wp, wz, aop, cV, cV1, AV.one, partCells, okW, onlyFr, app, sliceCells, cellsAt, srcA, subA, eqFs, Int.cast_ofNat_Int, simprocAttr]
        refine callQ.vc hU' ?_
        simp (maxSteps := 4000000) (disch := omega) only [step, stepv, ev, wl, wn, wp, wz, aop, cV, cV1, AV.one, partCells, okW, onlyFr, app, sliceCells, cellsAt, srcA, subA, eqFs, Int.cast_ofNat_Int, simprocAttr, unaA]
        refine callQ.vc hG' ?_
        simp (maxSteps := 4000000) (disch := omega) only [step, stepv, ev, wl, wn, wp, wz, aop, cV, cV1, AV.one, partCells, okW, onlyFr, app, sliceCells, cellsAt, srcA, subA, eqFs, Int.cast_ofNat_Int, simprocAttr, e1, e2]

end Go.Am

namespace Go.Am
open Go.RowKit

def gotM (V N a : Nat) (d : Dl) : Nat ⊕ (Nat × Nat) :=
  if N ≤ a then .inl 24
  else if V / 2 ^ a % 2 = 0 then (if N < a + 1 + d.k0 then .inl 24 else .inr (V / 2 ^ (a + 1) % 2 ^ d.k0, a + 1 + d.k0))
  else match riceM V N (a + 1) d.k1 with
    | .inl e => .inl e
    | .inr (l, nx) => if 4294967295 < l + 2 ^ d.k0 then .inl 12 else .inr (l + 2 ^ d.k0, nx)

theorem rice_lt {V N a k v nx : Nat} (hk : k ≤ 24) (h : riceM V N a k = .inr (v, nx)) : v < 4294967296 ∧ nx ≤ N := by
  unfold riceM at h
  cases hu : readU V N a with
  | inl e => rw [hu] at h; cases h
  | inr w =>
    obtain ⟨q, n⟩ := w
    obtain ⟨u1, u2, u3⟩ := readU_le hu
    rw [hu] at h
    simp only at h
    by_cases hs : N < n + (if q = 48 then 32 else k)
    · rw [if_pos hs] at h; cases h
    rw [if_neg hs] at h
    by_cases hq : q < 48
    · rw [if_pos hq] at h
      cases h
      obtain ⟨pk, _⟩ := p24 hk
      have hx : V / 2 ^ n % 2 ^ k < 2 ^ k := Nat.mod_lt _ (Nat.pow_pos (by omega))
      have hqk : q * 2 ^ k ≤ 47 * 16777216 := Nat.mul_le_mul (by omega) pk
      rw [if_neg (show ¬ q = 48 by omega)] at hs
      exact ⟨by omega, by omega⟩
    · rw [if_neg hq] at h
      rw [if_pos (show q = 48 by omega)] at hs
      by_cases h4 : V / 2 ^ n % 2 ^ 32 / 2 ^ k < 48
      · rw [if_pos h4] at h; cases h
      · rw [if_neg h4] at h
        cases h
        exact ⟨Nat.mod_lt _ (by decide), by omega⟩
theorem rice_err {V N a k e : Nat} (h : riceM V N a k = .inl e) : e = 24 ∨ e = 12 := by
  unfold riceM at h
  cases hu : readU V N a with
  | inl e' => rw [hu] at h; cases h; exact .inl (readU_err hu)
  | inr w =>
    obtain ⟨q, n⟩ := w
    rw [hu] at h
    simp only at h
    by_cases hs : N < n + (if q = 48 then 32 else k)
    · rw [if_pos hs] at h; cases h; exact .inl rfl
    rw [if_neg hs] at h
    by_cases hq : q < 48
    · rw [if_pos hq] at h; cases h
    · rw [if_neg hq] at h
      by_cases h4 : V / 2 ^ n % 2 ^ 32 / 2 ^ k < 48
      · rw [if_pos h4] at h; cases h; exact .inr rfl
      · rw [if_neg h4] at h; cases h
theorem got_lt {V N a v nx : Nat} {d : Dl} (hd : okD d) (h : gotM V N a d = .inr (v, nx)) : v < 4294967296 ∧ nx ≤ N := by
  obtain ⟨pk, _⟩ := p24 hd.1
  unfold gotM at h
  split at h
  · cases h
  split at h
  · split at h
    · cases h
    · cases h
      have : V / 2 ^ (a + 1) % 2 ^ d.k0 < 2 ^ d.k0 := Nat.mod_lt _ (Nat.pow_pos (by omega))
      exact ⟨by omega, by omega⟩
  · cases hr : riceM V N (a + 1) d.k1 with
    | inl e => rw [hr] at h; cases h
    | inr w =>
      obtain ⟨l, n⟩ := w
      rw [hr] at h
      simp only at h
      split at h
      · cases h
      · cases h
        exact ⟨by omega, (rice_lt hd.2.1 hr).2⟩
theorem got_err {V N a e : Nat} {d : Dl} (h : gotM V N a d = .inl e) : e = 24 ∨ e = 12 := by
  unfold gotM at h
  split at h
  · cases h; exact .inl rfl
  split at h
  · split at h
    · cases h; exact .inl rfl
    · cases h
  · cases hr : riceM V N (a + 1) d.k1 with
    | inl e' => rw [hr] at h; cases h; exact rice_err hr
    | inr w =>
      obtain ⟨l, n⟩ := w
      rw [hr] at h
      simp only at h
      split at h
      · cases h; exact .inr rfl
      · cases h

def drA (d : Dl) : Nat ⊕ (Nat × Nat) → AV
  | .inl e => .tup [.int .u32 0, .int .i64 0, dlA ⟨0, 0, 0, 0⟩, .int .i64 e]
  | .inr (v, nx) => .tup [.int .u32 v, .int .i64 nx, dlA (learnM d v), .int .i64 0]
def S_dRead (P : Prg) (f : Nat) : Prop := ∀ (N V a : Nat) (d : Dl), V < 2 ^ N → N ≤ 330000 → a ≤ 300000 → okD d → VC P f [bA N V, .int .i64 a, dlA d] (drA d (gotM V N a d))
theorem dual_Read {P : Prg} {f fC fD fG fR fL fl1 fll t0 t1 : Nat} (bd : Body P f 86 [.tmp 6, .tmp 7, .cell 8 t1, .tmp 9] (ac_dual_Read fC fD fG fR fL t0 t1)) (hC : S_bCheck P fC) (hD : S_DCheck P fD) (hG : S_bGet P fG) (hR : S_rRead P fR)
    (bL : Body P fL 36 [] (ac_dual_learn fl1 fll)) (b1 : Body P fl1 58 [] ac_dual_learn_1) (hL : S_Level P fll) (ht : aggO P t1 = some (some 4)) : S_dRead P f := by
  intro N V a d hV hN ha hd
  refine VC.of_acall (by simp [isDL, isD_bA, isD_dlA, isD]) (by cases gotM V N a d <;> rfl) (ACall.of_body bd (by simp) ?_)
  have hd' := hd
  have hC' := hC N V hV hN
  have hD' := hD d hd
  have hgl := fun v nx (h : gotM V N a d = .inr (v, nx)) => got_lt hd h
  have hL1 : ∀ {ob : List Ob} {p : Nat} {v : Nat} {K : AV → List Ob → Prop}, ob[p]? = some ⟨t1, 4, 1, dlC d, 0⟩ → v < 4294967296 → K (.tup []) (ob.set p ⟨t1, 4, 1, dlC (learnM d v), 0⟩) → ACall P fL [.ref p 1 0, .int .u32 v] ob K :=
    fun hp hv hK => dual_learn bL b1 hL hp hd hv hK
  rw [bA] at hC'
  obtain ⟨k0, k1, s0, s1⟩ := d
  obtain ⟨h1, h2, h3, h4⟩ := hd'
  simp only at h1 h2 h3 h4
  obtain ⟨pk, _⟩ := p24 h1
  have hG1 := hG N V a 1 hV hN (by omega) (by omega)
  rw [bA] at hG1
  simp only [dlA, dlC] at hD'
  unfold gotM at hgl ⊢
  by_cases hlt : N ≤ a
  · rw [if_pos hlt]
    rw [if_pos (by omega)] at hG1
    simp (maxSteps := 4000000) (disch := omega) only [step, stepv, ev, wl, wn, wp, wz, aop, cV, cV1, AV.one, partCells, okW, onlyFr, app, sliceCells, cellsAt, srcA, subA, eqFs, Int.cast_ofNat_Int, simprocAttr, ac_dual_Read, bA, drA, dlA, dlC]
    refine callQ.vc hC' ?_
    simp (maxSteps := 4000000) (disch := omega) only [step, stepv, ev, wl, wn, wp, wz, aop, cV, cV1, AV.one, partCells, okW, onlyFr, app, sliceCells, cellsAt, srcA, subA, eqFs, Int.cast_ofNat_Int, simprocAttr]
    refine callQ.vc hD' ?_
    simp (maxSteps := 4000000) (disch := omega) only [step, stepv, ev, wl, wn, wp, wz, aop, cV, cV1, AV.one, partCells, okW, onlyFr, app, sliceCells, cellsAt, srcA, subA, eqFs, Int.cast_ofNat_Int, simprocAttr]
    refine callQ.vc hG1 ?_
    simp (maxSteps := 4000000) (disch := omega) only [step, stepv, ev, wl, wn, wp, wz, aop, cV, cV1, AV.one, partCells, okW, onlyFr, app, sliceCells, cellsAt, srcA, subA, eqFs, Int.cast_ofNat_Int, simprocAttr, resA, ht, oneOf]
  rw [if_neg hlt] at hgl ⊢
  rw [if_neg (by omega)] at hG1
  have hb : V / 2 ^ a % 2 < 2 := Nat.mod_lt _ (by decide)
  rw [Nat.pow_one] at hG1
  by_cases h0 : V / 2 ^ a % 2 = 0
  · rw [if_pos h0] at hgl ⊢
    rw [h0] at hG1
    simp only at hgl ⊢
    have hG2 : VC P fG [bA N V, .int .i64 ((a : Int) + 1), .int .i64 k0] (if N < a + 1 + k0 then .tup [.int .u64 0, .int .i64 24] else .tup [.int .u64 ((V / 2 ^ (a + 1) % 2 ^ k0 : Nat) : Int), .int .i64 0]) := hG N V (a + 1) k0 hV hN (by omega) (by omega)
    rw [bA] at hG2
    by_cases hs : N < a + 1 + k0
    · rw [if_pos hs] at hG2 ⊢
      simp (maxSteps := 4000000) (disch := omega) only [step, stepv, ev, wl, wn, wp, wz, aop, cV, cV1, AV.one, partCells, okW, onlyFr, app, sliceCells, cellsAt, srcA, subA, eqFs, Int.cast_ofNat_Int, simprocAttr, ac_dual_Read, bA, drA, dlA, dlC]
      refine callQ.vc hC' ?_
      simp (maxSteps := 4000000) (disch := omega) only [step, stepv, ev, wl, wn, wp, wz, aop, cV, cV1, AV.one, partCells, okW, onlyFr, app, sliceCells, cellsAt, srcA, subA, eqFs, Int.cast_ofNat_Int, simprocAttr]
      refine callQ.vc hD' ?_
      simp (maxSteps := 4000000) (disch := omega) only [step, stepv, ev, wl, wn, wp, wz, aop, cV, cV1, AV.one, partCells, okW, onlyFr, app, sliceCells, cellsAt, srcA, subA, eqFs, Int.cast_ofNat_Int, simprocAttr]
      refine callQ.vc hG1 ?_
      simp (maxSteps := 4000000) (disch := omega) only [step, stepv, ev, wl, wn, wp, wz, aop, cV, cV1, AV.one, partCells, okW, onlyFr, app, sliceCells, cellsAt, srcA, subA, eqFs, Int.cast_ofNat_Int, simprocAttr]
      refine callQ.vc hG2 ?_
      simp (maxSteps := 4000000) (disch := omega) only [step, stepv, ev, wl, wn, wp, wz, aop, cV, cV1, AV.one, partCells, okW, onlyFr, app, sliceCells, cellsAt, srcA, subA, eqFs, Int.cast_ofNat_Int, simprocAttr, resA, ht, oneOf]
    · rw [if_neg hs] at hG2 hgl ⊢
      have hx : V / 2 ^ (a + 1) % 2 ^ k0 < 2 ^ k0 := Nat.mod_lt _ (Nat.pow_pos (by omega))
      generalize V / 2 ^ (a + 1) % 2 ^ k0 = x at *
      simp (maxSteps := 4000000) (disch := omega) only [step, stepv, ev, wl, wn, wp, wz, aop, cV, cV1, AV.one, partCells, okW, onlyFr, app, sliceCells, cellsAt, srcA, subA, eqFs, Int.cast_ofNat_Int, simprocAttr, ac_dual_Read, bA, drA, dlA, dlC]
      refine callQ.vc hC' ?_
      simp (maxSteps := 4000000) (disch := omega) only [step, stepv, ev, wl, wn, wp, wz, aop, cV, cV1, AV.one, partCells, okW, onlyFr, app, sliceCells, cellsAt, srcA, subA, eqFs, Int.cast_ofNat_Int, simprocAttr]
      refine callQ.vc hD' ?_
      simp (maxSteps := 4000000) (disch := omega) only [step, stepv, ev, wl, wn, wp, wz, aop, cV, cV1, AV.one, partCells, okW, onlyFr, app, sliceCells, cellsAt, srcA, subA, eqFs, Int.cast_ofNat_Int, simprocAttr]
      refine callQ.vc hG1 ?_
      simp (maxSteps := 4000000) (disch := omega) only [step, stepv, ev, wl, wn, wp, wz, aop, cV, cV1, AV.one, partCells, okW, onlyFr, app, sliceCells, cellsAt, srcA, subA, eqFs, Int.cast_ofNat_Int, simprocAttr]
      refine callQ.vc hG2 ?_
      simp (maxSteps := 4000000) (disch := omega) only [step, stepv, ev, wl, wn, wp, wz, aop, cV, cV1, AV.one, partCells, okW, onlyFr, app, sliceCells, cellsAt, srcA, subA, eqFs, Int.cast_ofNat_Int, simprocAttr]
      refine hL1 (v := x) rfl (by omega) ?_
      generalize learnM ⟨k0, k1, s0, s1⟩ x = d'
      obtain ⟨l0, l1, l2, l3⟩ := d'
      simp (maxSteps := 4000000) (disch := omega) only [step, stepv, ev, wl, wn, wp, wz, aop, cV, cV1, AV.one, partCells, okW, onlyFr, app, sliceCells, cellsAt, srcA, subA, eqFs, Int.cast_ofNat_Int, simprocAttr, resA, ht, oneOf, dlC]
  · rw [if_neg h0] at hgl ⊢
    rw [show V / 2 ^ a % 2 = 1 by omega] at hG1
    have hR' : VC P fR [bA N V, .int .i64 ((a : Int) + 1), .int .i64 k1] (rcA (riceM V N (a + 1) k1)) := hR N V (a + 1) k1 hV hN (by omega) h2
    rw [bA] at hR'
    simp only at hgl ⊢
    cases hr : riceM V N (a + 1) k1 with
    | inl e =>
      have he := rice_err hr
      rw [hr] at hR'
      have he0 : (e : Int) ≠ 0 := by omega
      simp (maxSteps := 4000000) (disch := omega) only [step, stepv, ev, wl, wn, wp, wz, aop, cV, cV1, AV.one, partCells, okW, onlyFr, app, sliceCells, cellsAt, srcA, subA, eqFs, Int.cast_ofNat_Int, simprocAttr, ac_dual_Read, bA, drA, dlA, dlC]
      refine callQ.vc hC' ?_
      simp (maxSteps := 4000000) (disch := omega) only [step, stepv, ev, wl, wn, wp, wz, aop, cV, cV1, AV.one, partCells, okW, onlyFr, app, sliceCells, cellsAt, srcA, subA, eqFs, Int.cast_ofNat_Int, simprocAttr]
      refine callQ.vc hD' ?_
      simp (maxSteps := 4000000) (disch := omega) only [step, stepv, ev, wl, wn, wp, wz, aop, cV, cV1, AV.one, partCells, okW, onlyFr, app, sliceCells, cellsAt, srcA, subA, eqFs, Int.cast_ofNat_Int, simprocAttr]
      refine callQ.vc hG1 ?_
      simp (maxSteps := 4000000) (disch := omega) only [step, stepv, ev, wl, wn, wp, wz, aop, cV, cV1, AV.one, partCells, okW, onlyFr, app, sliceCells, cellsAt, srcA, subA, eqFs, Int.cast_ofNat_Int, simprocAttr]
      refine callQ.vc hR' ?_
      simp (maxSteps := 4000000) (disch := omega) only [step, stepv, ev, wl, wn, wp, wz, aop, cV, cV1, AV.one, partCells, okW, onlyFr, app, sliceCells, cellsAt, srcA, subA, eqFs, Int.cast_ofNat_Int, simprocAttr, rcA, resA, ht, oneOf]
    | inr w =>
      obtain ⟨l, nx⟩ := w
      obtain ⟨r1, r2⟩ := rice_lt h2 hr
      rw [hr] at hR' hgl
      simp only at hgl ⊢
      have e2 : shiftA true .u32 1 (k0 : Int) = some (.int .u32 ((2 ^ k0 : Nat) : Int)) := by
        have := shlK (K := .u32) rfl (c := 1) (s := k0) (by show k0 ≤ 32; omega) (by show 1 * 2 ^ k0 < 4294967296; omega)
        rw [Nat.one_mul] at this
        exact this
      have hp0 : 0 < 2 ^ k0 := Nat.pow_pos (by omega)
      generalize 2 ^ k0 = p at *
      by_cases ho : 4294967295 < l + p
      · rw [if_pos ho]
        have e3 : IntKind.u32.wrap ((l : Int) + p) = (l : Int) + p - 4294967296 := by rw [wrap_u32_mod]; omega
        simp (maxSteps := 4000000) (disch := omega) only [step, stepv, ev, wl, wn, wp, wz, aop, cV, cV1, AV.one, partCells, okW, onlyFr, app, sliceCells, cellsAt, srcA, subA, eqFs, Int.cast_ofNat_Int, simprocAttr, ac_dual_Read, bA, drA, dlA, dlC]
        refine callQ.vc hC' ?_
        simp (maxSteps := 4000000) (disch := omega) only [step, stepv, ev, wl, wn, wp, wz, aop, cV, cV1, AV.one, partCells, okW, onlyFr, app, sliceCells, cellsAt, srcA, subA, eqFs, Int.cast_ofNat_Int, simprocAttr]
        refine callQ.vc hD' ?_
        simp (maxSteps := 4000000) (disch := omega) only [step, stepv, ev, wl, wn, wp, wz, aop, cV, cV1, AV.one, partCells, okW, onlyFr, app, sliceCells, cellsAt, srcA, subA, eqFs, Int.cast_ofNat_Int, simprocAttr]
        refine callQ.vc hG1 ?_
        simp (maxSteps := 4000000) (disch := omega) only [step, stepv, ev, wl, wn, wp, wz, aop, cV, cV1, AV.one, partCells, okW, onlyFr, app, sliceCells, cellsAt, srcA, subA, eqFs, Int.cast_ofNat_Int, simprocAttr]
        refine callQ.vc hR' ?_
        simp (maxSteps := 4000000) (disch := omega) only [step, stepv, ev, wl, wn, wp, wz, aop, cV, cV1, AV.one, partCells, okW, onlyFr, app, sliceCells, cellsAt, srcA, subA, eqFs, Int.cast_ofNat_Int, simprocAttr, rcA, e2, e3, resA, ht, oneOf]
      · rw [if_neg ho]
        simp (maxSteps := 4000000) (disch := omega) only [step, stepv, ev, wl, wn, wp, wz, aop, cV, cV1, AV.one, partCells, okW, onlyFr, app, sliceCells, cellsAt, srcA, subA, eqFs, Int.cast_ofNat_Int, simprocAttr, ac_dual_Read, bA, drA, dlA, dlC]
        refine callQ.vc hC' ?_
        simp (maxSteps := 4000000) (disch := omega) only [step, stepv, ev, wl, wn, wp, wz, aop, cV, cV1, AV.one, partCells, okW, onlyFr, app, sliceCells, cellsAt, srcA, subA, eqFs, Int.cast_ofNat_Int, simprocAttr]
        refine callQ.vc hD' ?_
        simp (maxSteps := 4000000) (disch := omega) only [step, stepv, ev, wl, wn, wp, wz, aop, cV, cV1, AV.one, partCells, okW, onlyFr, app, sliceCells, cellsAt, srcA, subA, eqFs, Int.cast_ofNat_Int, simprocAttr]
        refine callQ.vc hG1 ?_
        simp (maxSteps := 4000000) (disch := omega) only [step, stepv, ev, wl, wn, wp, wz, aop, cV, cV1, AV.one, partCells, okW, onlyFr, app, sliceCells, cellsAt, srcA, subA, eqFs, Int.cast_ofNat_Int, simprocAttr]
        refine callQ.vc hR' ?_
        simp (maxSteps := 4000000) (disch := omega) only [step, stepv, ev, wl, wn, wp, wz, aop, cV, cV1, AV.one, partCells, okW, onlyFr, app, sliceCells, cellsAt, srcA, subA, eqFs, Int.cast_ofNat_Int, simprocAttr, rcA, e2]
        refine hL1 (v := l + p) rfl (by omega) ?_
        generalize learnM ⟨k0, k1, s0, s1⟩ (l + p) = d'
        obtain ⟨l0, l1, l2, l3⟩ := d'
        simp (maxSteps := 4000000) (disch := omega) only [step, stepv, ev, wl, wn, wp, wz, aop, cV, cV1, AV.one, partCells, okW, onlyFr, app, sliceCells, cellsAt, srcA, subA, eqFs, Int.cast_ofNat_Int, simprocAttr, resA, ht, oneOf, dlC]

end Go.Am

namespace Go.Am
open Go.RowKit

/-! ### Bits of bytes, bits cut out -/

theorem slices_Clone {P : Prg} {f t0 : Nat} (b : Body P f 8 [.tmp 2] (ac_slices_Clone_byte_byte t0)) : S_bytes_Clone P f := by
  exact bytes_Clone b

theorem nB_len (l : List UInt8) : nB (8 * l.length) = l.length := by unfold nB; omega
theorem bA_of (l : List UInt8) : bA (8 * l.length) (leN l) = .agg [bs l, .int .i64 ((8 * l.length : Nat) : Int)] := by
  rw [bA, nB_len, leB_leN]; rfl
theorem leN_lt' (l : List UInt8) : leN l < 2 ^ (8 * l.length) := leN_lt l

def ofA (l : List UInt8) : AV := if 41250 < l.length then .tup [bA 0 0, .int .i64 4] else .tup [bA (8 * l.length) (leN l), .int .i64 0]
def S_bOf (P : Prg) (f : Nat) : Prop := ∀ l : List UInt8, l.length ≤ 1000000 → VC P f [bs l] (ofA l)
theorem bits_Of {P : Prg} {f fC t0 : Nat} (bd : Body P f 14 [.cell 2 t0, .tmp 3] (ac_bits_Of fC t0)) (hC : S_bytes_Clone P fC) (ht : aggO P t0 = some (some 2)) : S_bOf P f := by
  intro l hl
  refine VC.of_walk 2 (by simp [isDL, isD_bs]) (by unfold ofA; split <;> simp [isD, isDL, isD_bA]) (ACall.of_body bd (by simp) ?_)
  have hC' := hC l (by omega)
  simp only [bs] at hC'
  unfold ofA
  by_cases h : 41250 < l.length
  · rw [if_pos h]
    simp (maxSteps := 4000000) (disch := omega) only [step, stepv, ev, wl, wn, wp, wz, aop, cV, cV1, AV.one, partCells, okW, onlyFr, app, sliceCells, cellsAt, srcA, subA, eqFs, Int.cast_ofNat_Int, simprocAttr, ac_bits_Of, bs, resA, ht, oneOf]
    simp [frzN, frzK, frzL, frzV, bA, nB, leB, u8]
  · rw [if_neg h, bA_of]
    simp (maxSteps := 4000000) (disch := omega) only [step, stepv, ev, wl, wn, wp, wz, aop, cV, cV1, AV.one, partCells, okW, onlyFr, app, sliceCells, cellsAt, srcA, subA, eqFs, Int.cast_ofNat_Int, simprocAttr, ac_bits_Of, bs]
    refine callQ.vc hC' ?_
    simp (maxSteps := 4000000) (disch := omega) only [step, stepv, ev, wl, wn, wp, wz, aop, cV, cV1, AV.one, partCells, okW, onlyFr, app, sliceCells, cellsAt, srcA, subA, eqFs, Int.cast_ofNat_Int, simprocAttr, resA, ht, oneOf]
    simp [frzN, frzK, frzL, frzV, frzL_T _ (isT_u8 _), bs]

def S_Cut (P : Prg) (f : Nat) : Prop := ∀ N V a b : Nat, V < 2 ^ N → N ≤ 330000 → a ≤ b → b ≤ N → VC P f [bA N V, .int .i64 a, .int .i64 b] (.tup [bA (b - a) (V / 2 ^ a % 2 ^ (b - a)), .int .i64 0])
set_option maxHeartbeats 1000000 in
theorem bits_Cut {P : Prg} {f fC fG fP t0 tp : Nat} (bd : Body P f 46 [.cell 6 t0, .tmp 7] (ac_bits_Cut fC fG fP t0)) (hC : S_bCheck P fC) (hG : S_bget P fG) (bP : Body P fP 75 [] (ac_bits_put tp)) (ht : aggO P t0 = some (some 2)) : S_Cut P f := by
  intro N V a b hV hN hab hbN
  refine VC.of_walk 2 (by simp [isDL, isD_bA, isD]) (by simp [isD, isDL, isD_bA]) (ACall.of_body bd (by simp) ?_)
  have hC' := hC N V hV hN
  rw [bA] at hC'
  have tu : isTL (u8 (leB V (nB N))) = true := isT_u8 _
  simp (maxSteps := 4000000) (disch := omega) only [step, stepv, ev, wl, wn, wp, wz, aop, cV, cV1, AV.one, partCells, okW, onlyFr, app, sliceCells, cellsAt, srcA, subA, eqFs, Int.cast_ofNat_Int, simprocAttr, ac_bits_Cut, bA]
  refine callQ.vc hC' ?_
  simp (maxSteps := 4000000) (disch := omega) only [step, stepv, ev, wl, wn, wp, wz, aop, cV, cV1, AV.one, partCells, okW, onlyFr, app, sliceCells, cellsAt, srcA, subA, eqFs, Int.cast_ofNat_Int, simprocAttr]
  refine ALoop.by (ι := Nat) (fun k => ⟨[(9, .int .i64 ((a + 64 * k : Nat) : Int)), (8, .ref 2 1 0), (7, .int .i64 0), (6, .ref 1 1 0), (3, .ref 0 1 0), (2, .int .i64 b)],
      [⟨t0, 2, 1, [.list (nB N) (u8 (leB V (nB N))), .int .i64 N], 0⟩, ⟨t0, 2, 1, [.own 3 0, .int .i64 0], 0⟩, bO t0 4 (min (64 * k) (b - a)), ⟨tp, 1, 0, [], 0⟩, bY tp (min (64 * k) (b - a)) (V / 2 ^ a % 2 ^ min (64 * k) (b - a))]⟩)
    (fun k => 64 * k < b - a + 64) (fun k => b - a + 64 - 64 * k) 0 ?_ (by omega) ?_
  · refine Le.trans (Le.virtF 1 tp 1 (by decide) rfl rfl) ?_
    refine Le.trans (Le.virtF 2 tp 1 (by decide) rfl rfl) ?_
    simp only [List.length_cons, List.length_nil, List.set_cons_succ, List.set_cons_zero, List.cons_append, List.nil_append, List.length_append]
    rw [Nat.mul_zero, Nat.zero_min, Nat.pow_zero, Nat.mod_one]
    exact Le.slots (by simp [Am.look])
  intro k hk
  by_cases hlt : a + 64 * k < b
  · obtain ⟨n, hn⟩ : ∃ n, n = min 64 (b - (a + 64 * k)) := ⟨_, rfl⟩
    have hm : min (64 * k) (b - a) = 64 * k := by omega
    have hG' := hG N V (a + 64 * k) n hV (by omega) (by omega) (by omega)
    rw [bA] at hG'
    have e1 : (if (b : Int) - ((a + 64 * k : Nat) : Int) < 64 then (b : Int) - ((a + 64 * k : Nat) : Int) else 64) = (n : Int) := by split <;> omega
    have hv : V / 2 ^ (a + 64 * k) % 2 ^ n < 2 ^ n := Nat.mod_lt _ (Nat.pow_pos (by omega))
    have hW : V / 2 ^ a % 2 ^ (64 * k) < 2 ^ (64 * k) := Nat.mod_lt _ (Nat.pow_pos (by omega))
    have hs := get_step (X := V / 2 ^ a) (h := 64 * k) (t := n)
    rw [Nat.div_div_eq_div_mul, ← Nat.pow_add, Nat.mul_comm (V / 2 ^ (a + 64 * k) % 2 ^ n)] at hs
    rw [hm]
    generalize hvv : V / 2 ^ (a + 64 * k) % 2 ^ n = v at *
    generalize hWW : V / 2 ^ a % 2 ^ (64 * k) = W at *
    obtain ⟨s, hs0⟩ : ∃ s, s = a + 64 * k := ⟨_, rfl⟩
    rw [← hs0] at hG' e1 ⊢
    simp (maxSteps := 4000000) (disch := omega) only [step, stepv, ev, wl, wn, wp, wz, aop, cV, cV1, AV.one, partCells, okW, onlyFr, app, sliceCells, cellsAt, srcA, subA, eqFs, Int.cast_ofNat_Int, simprocAttr, e1]
    refine callQ.vc hG' ?_
    simp (maxSteps := 4000000) (disch := omega) only [step, stepv, ev, wl, wn, wp, wz, aop, cV, cV1, AV.one, partCells, okW, onlyFr, app, sliceCells, cellsAt, srcA, subA, eqFs, Int.cast_ofNat_Int, simprocAttr]
    refine bits_put bP (ob := [⟨t0, 2, 1, [.list (nB N) (u8 (leB V (nB N))), .int .i64 N], 0⟩, ⟨t0, 2, 1, [.own 3 0, .int .i64 0], 0⟩, bO t0 4 (64 * k), ⟨tp, 1, 0, [], 0⟩, bY tp (64 * k) W]) (p := 2) (o := 4) (t := t0) rfl rfl (by decide) hW hv (by omega) (by omega) ?_ ?_
    · refine Low.cons ?_ (Low.cons ?_ (Low.cons ?_ (Low.cons ?_ (Low.cons ?_ Low.nil)))) <;> simp [bO, bY, lowL, lowV, lowL_D _ (isDL_leB _ _)]
    · simp only [upd2, List.set_cons_succ, List.set_cons_zero]
      rw [← hs]
      have hm2 : min (64 * (k + 1)) (b - a) = 64 * k + n := by omega
      simp (maxSteps := 4000000) (disch := omega) only [step, stepv, ev, wl, wn, wp, wz, aop, cV, cV1, AV.one, partCells, okW, onlyFr, app, sliceCells, cellsAt, srcA, subA, eqFs, Int.cast_ofNat_Int, simprocAttr]
      refine ⟨k + 1, by omega, by omega, ?_⟩
      rw [hm2]
      exact Le.slots (by simp [Am.look, hs0]; omega)
  · have hm : min (64 * k) (b - a) = b - a := by omega
    rw [hm]
    generalize V / 2 ^ a % 2 ^ (b - a) = W at *
    obtain ⟨s, hs0⟩ : ∃ s, s = a + 64 * k := ⟨_, rfl⟩
    rw [← hs0]
    simp (maxSteps := 4000000) (disch := omega) only [step, stepv, ev, wl, wn, wp, wz, aop, cV, cV1, AV.one, partCells, okW, onlyFr, app, sliceCells, cellsAt, srcA, subA, eqFs, Int.cast_ofNat_Int, simprocAttr, bO, bY, resA, ht, oneOf]
    simp [frzN, frzK, frzL, frzV, frzL_T _ (isT_u8 _)]

end Go.Am

namespace Go.Am
open Go.RowKit

/-! ### The values of a frame (plain) -/

def chanM (c r : Nat) (v : List Nat) : Dl := ((List.range v.length).filter fun j => j % c == r).foldl (fun d j => learnM d (v.getD j 0)) startM

theorem chan_snoc {c r x : Nat} {v : List Nat} : chanM c r (v ++ [x]) = if v.length % c = r then learnM (chanM c r v) x else chanM c r v := by
  have h1 : ∀ (l : List Nat) (d : Dl), (∀ j ∈ l, j < v.length) → l.foldl (fun d j => learnM d ((v ++ [x]).getD j 0)) d = l.foldl (fun d j => learnM d (v.getD j 0)) d := by
    intro l
    induction l with
    | nil => intro d _; rfl
    | cons a l ih =>
      intro d h
      simp only [List.foldl_cons]
      have ha : a < v.length := h a (by simp)
      rw [ih _ fun j hj => h j (by simp [hj])]
      congr 2
      rw [List.getD_eq_getElem?_getD, List.getD_eq_getElem?_getD, List.getElem?_append_left ha]
  unfold chanM
  rw [List.length_append, List.length_cons, List.length_nil, Nat.zero_add, List.range_succ, List.filter_append, List.foldl_append]
  have hf := h1 ((List.range v.length).filter fun j => j % c == r) startM (fun j hj => by
    have := (List.mem_filter.1 hj).1
    simpa using this)
  rw [hf]
  have hx : (v ++ [x]).getD v.length 0 = x := by simp [List.getD_eq_getElem?_getD]
  by_cases h : v.length % c = r
  · rw [if_pos h]
    have : (List.filter (fun j => j % c == r) [v.length]) = [v.length] := by simp [h]
    rw [this]
    simp only [List.foldl_cons, List.foldl_nil]
    rw [hx]
  · rw [if_neg h]
    have : (List.filter (fun j => j % c == r) [v.length]) = [] := by simp [h]
    rw [this]
    rfl

def N32 (v : List Nat) : Prop := ∀ x ∈ v, x < 4294967296
theorem chan_ok {c r : Nat} {v : List Nat} (h : N32 v) : okD (chanM c r v) := by
  unfold chanM
  have key : ∀ (l : List Nat) (d : Dl), okD d → (∀ j ∈ l, j < v.length) → okD (l.foldl (fun d j => learnM d (v.getD j 0)) d) := by
    intro l
    induction l with
    | nil => intro d h _; exact h
    | cons a l ih =>
      intro d hd hl
      have ha : a < v.length := hl a (by simp)
      refine ih _ (learn_ok hd ?_) fun j hj => hl j (by simp [hj])
      rw [List.getD_eq_getElem?_getD, List.getElem?_eq_getElem ha]
      exact h _ (List.getElem_mem ha)
  exact key _ _ start_ok fun j hj => by
    have := (List.mem_filter.1 hj).1
    simpa using this

def prtN (N a : Nat) : Nat := min (a + 81) N - a
def prtV (V N a : Nat) : Nat := V / 2 ^ a % 2 ^ prtN N a
def valsM (V N c : Nat) : Nat → List Nat → Nat → (Nat × List Nat) ⊕ (List Nat × Nat)
  | 0, out, a => .inr (out, a)
  | k + 1, out, a =>
    match gotM (prtV V N a) (prtN N a) 0 (chanM c (out.length % c) out) with
    | .inl e => .inl (e, out)
    | .inr (v, nx) => valsM V N c k (out ++ [v]) (a + nx)

theorem prtV_lt (V N a : Nat) : prtV V N a < 2 ^ prtN N a := Nat.mod_lt _ (Nat.pow_pos (by omega))

def restM (V N a : Nat) : Nat := if 7 < N - a then 12 else if V / 2 ^ a = 0 then 0 else 12

theorem vals_spec {V N c : Nat} : ∀ (k : Nat) (out : List Nat) (a : Nat), a ≤ N → N32 out → (∀ e o, valsM V N c k out a = .inl (e, o) → (e = 24 ∨ e = 12) ∧ N32 o ∧ o.length ≤ out.length + k) ∧ (∀ o b, valsM V N c k out a = .inr (o, b) → N32 o ∧ b ≤ N ∧ o.length = out.length + k)
  | 0, out, a, ha, ho => by
    refine ⟨fun e o h => (by simp only [valsM] at h; cases h), fun o b h => ?_⟩
    simp only [valsM] at h
    cases h
    exact ⟨ho, ha, rfl⟩
  | k + 1, out, a, ha, ho => by
    have hd := chan_ok (c := c) (r := out.length % c) ho
    cases hg : gotM (prtV V N a) (prtN N a) 0 (chanM c (out.length % c) out) with
    | inl e =>
      have he := got_err hg
      simp only [valsM, hg]
      refine ⟨fun e' o h => ?_, fun o b h => (by cases h)⟩
      cases h
      exact ⟨he, ho, by omega⟩
    | inr p =>
      obtain ⟨v, nx⟩ := p
      obtain ⟨h1, h2⟩ := got_lt hd hg
      have hp : prtN N a ≤ N - a := by unfold prtN; omega
      have ho' : N32 (out ++ [v]) := fun x hx => by
        rcases List.mem_append.1 hx with h | h
        · exact ho x h
        · simp at h; subst h; exact h1
      obtain ⟨r1, r2⟩ := vals_spec (V := V) (N := N) (c := c) k (out ++ [v]) (a + nx) (by omega) ho'
      simp only [valsM, hg]
      refine ⟨fun e o h => ?_, fun o b h => ?_⟩
      · obtain ⟨q1, q2, q3⟩ := r1 e o h
        refine ⟨q1, q2, ?_⟩
        rw [List.length_append, List.length_cons, List.length_nil] at q3
        omega
      · obtain ⟨q1, q2, q3⟩ := r2 o b h
        refine ⟨q1, q2, ?_⟩
        rw [List.length_append, List.length_cons, List.length_nil] at q3
        omega

def sumM (p : List UInt8) : Nat := 4294967295 - crcL 4294967295 p
def openM (b : List UInt8) : Nat := if b.length < 5 then 24 else if 41254 < b.length then 4 else if leN (b.drop (b.length - 4)) = sumM (b.take (b.length - 4)) then 0 else 22

end Go.Am

namespace Go.Am
open Go.RowKit

/-! ### The values of a frame -/

def n32A (v : List Nat) : AV := u32L (v.map fun n : Nat => (n : Int))
theorem isD_n32A (v : List Nat) : isD (n32A v) = true := by simp [n32A, u32L, isD, isDL_ks]
end Go.Am

namespace Go.Am
open Go.RowKit

/-! ### A frame's sum -/

theorem sumM_lt (p : List UInt8) : sumM p < 4294967296 := by unfold sumM; omega

def S_Sealed (P : Prg) (f : Nat) : Prop := ∀ p : List UInt8, p.length ≤ 1000000 → VC P f [bs p] (bs (p ++ leB (sumM p) 4))
theorem ref20_Sealed {P : Prg} {f fO t0 : Nat} (bd : Body P f 22 [.tmp 2] (ac_cadenzaref20_Sealed fO t0)) (hO : S_COf P fO) : S_Sealed P f := by
  intro p hp
  refine VC.of_walk 1 (by simp [isDL, isD_bs]) (isD_bs _) (ACall.of_body bd (by simp) ?_)
  have hO' := hO p hp
  rw [← sumM] at hO'
  have hs := sumM_lt p
  generalize sumM p = s at *
  simp only [bs] at hO'
  have e1 : IntKind.u8.wrap (s : Int) = ((s % 256 : Nat) : Int) := by rw [wrap_u8_mod]; omega
  have a1 : shiftA false .u32 (s : Int) 8 = some (.int .u32 ((s / 256 : Nat) : Int)) := shrK (K := .u32) (k := 8) (by decide)
  have a2 : shiftA false .u32 (s : Int) 16 = some (.int .u32 ((s / 65536 : Nat) : Int)) := shrK (K := .u32) (k := 16) (by decide)
  have a3 : shiftA false .u32 (s : Int) 24 = some (.int .u32 ((s / 16777216 : Nat) : Int)) := shrK (K := .u32) (k := 24) (by decide)
  have e2 : IntKind.u8.wrap ((s / 256 : Nat) : Int) = ((s / 256 % 256 : Nat) : Int) := by rw [wrap_u8_mod]; omega
  have e3 : IntKind.u8.wrap ((s / 65536 : Nat) : Int) = ((s / 65536 % 256 : Nat) : Int) := by rw [wrap_u8_mod]; omega
  have e4 : IntKind.u8.wrap ((s / 16777216 : Nat) : Int) = ((s / 16777216 % 256 : Nat) : Int) := by rw [wrap_u8_mod]; omega
  have hb : u8 (p ++ leB s 4) = u8 p ++ [.int .u8 ((s % 256 : Nat) : Int), .int .u8 ((s / 256 % 256 : Nat) : Int), .int .u8 ((s / 65536 % 256 : Nat) : Int), .int .u8 ((s / 16777216 % 256 : Nat) : Int)] := by
    simp [u8, leB, Nat.div_div_eq_div_mul]
  have hl : (p ++ leB s 4).length = p.length + 4 := by simp [leB_length]
  rw [bs, hb, hl]
  generalize s % 256 = b0 at *
  generalize s / 256 % 256 = b1 at *
  generalize s / 65536 % 256 = b2 at *
  generalize s / 16777216 % 256 = b3 at *
  have tt : isTL (u8 p ++ [.int .u8 (b0 : Int), .int .u8 (b1 : Int), .int .u8 (b2 : Int), .int .u8 (b3 : Int)]) = true := by simp [isTL_append, isT_u8, isTL, isT]
  simp (maxSteps := 4000000) (disch := omega) only [step, stepv, ev, wl, wn, wp, wz, aop, cV, cV1, AV.one, partCells, okW, onlyFr, app, sliceCells, cellsAt, srcA, subA, eqFs, Int.cast_ofNat_Int, simprocAttr, ac_cadenzaref20_Sealed, bs]
  refine callQ.vc hO' ?_
  simp (maxSteps := 4000000) (disch := omega) only [step, stepv, ev, wl, wn, wp, wz, aop, cV, cV1, AV.one, partCells, okW, onlyFr, app, sliceCells, cellsAt, srcA, subA, eqFs, Int.cast_ofNat_Int, simprocAttr, e1, a1, a2, a3, e2, e3, e4]
  simp [frzN, frzK, frzL, frzV, frzL_T _ tt]

def opA (b : List UInt8) : AV := if openM b = 0 then .tup [bs (b.take (b.length - 4)), .int .i64 0] else .tup [.list 0 [], .int .i64 (openM b : Nat)]
def S_opened (P : Prg) (f : Nat) : Prop := ∀ b : List UInt8, b.length ≤ 1000000 → VC P f [bs b] (opA b)
theorem deframe_opened {P : Prg} {f fS fV : Nat} (bd : Body P f 46 [.tmp 2, .tmp 3] (ac_deframe_opened fS fV)) (hS : S_CSum P fS) (hV : S_le_Value P fV) : S_opened P f := by
  intro b hb
  refine VC.of_walk 1 (by simp [isDL, isD_bs]) (by unfold opA; split <;> simp [isD, isDL, isD_bs]) (ACall.of_body bd (by simp) ?_)
  unfold opA openM
  by_cases h1 : b.length < 5
  · simp only [h1, if_true]
    simp (maxSteps := 4000000) (disch := omega) only [step, stepv, ev, wl, wn, wp, wz, aop, cV, cV1, AV.one, partCells, okW, onlyFr, app, sliceCells, cellsAt, srcA, subA, eqFs, Int.cast_ofNat_Int, simprocAttr, ac_deframe_opened, bs]
    simp [frzN, frzK, frzL, frzV]
  simp only [h1, if_false]
  by_cases h2 : 41254 < b.length
  · simp only [h2, if_true]
    simp (maxSteps := 4000000) (disch := omega) only [step, stepv, ev, wl, wn, wp, wz, aop, cV, cV1, AV.one, partCells, okW, onlyFr, app, sliceCells, cellsAt, srcA, subA, eqFs, Int.cast_ofNat_Int, simprocAttr, ac_deframe_opened, bs]
    simp [frzN, frzK, frzL, frzV]
  simp only [h2, if_false]
  have hS' := hS (b.take (b.length - 4))
  rw [if_neg (by simp; omega), ← sumM] at hS'
  have hl1 : (b.take (b.length - 4)).length = b.length - 4 := by simp
  have hl2 : (b.drop (b.length - 4)).length = 4 := by simp; omega
  have hs := sumM_lt (b.take (b.length - 4))
  have hV' := hV (b.drop (b.length - 4)) (by omega) (by omega)
  have tk : (u8 b).take (b.length - 4) = u8 (b.take (b.length - 4)) := by simp [u8, List.map_take]
  have dk : (u8 b).drop (b.length - 4) = u8 (b.drop (b.length - 4)) := by simp [u8, List.map_drop]
  simp only [bs, hl1, hl2] at hS' hV'
  have hq : leN (b.drop (b.length - 4)) < 4294967296 := by
    have := leN_lt (b.drop (b.length - 4))
    rw [hl2] at this
    exact this
  have hpl : (u8 (b.take (b.length - 4))).length = b.length - 4 := by rw [u8_length, hl1]
  have hql : (u8 (b.drop (b.length - 4))).length = 4 := by rw [u8_length, hl2]
  have tq : (u8 (b.drop (b.length - 4))).take 4 = u8 (b.drop (b.length - 4)) := List.take_of_length_le (by omega)
  generalize b.take (b.length - 4) = p at *
  generalize b.drop (b.length - 4) = q at *
  generalize sumM p = s at *
  generalize leN q = w at *
  have n4 : b.length - (b.length - 4) = 4 := by omega
  have n5 : b.length - 4 - 0 = b.length - 4 := by omega
  have n6 : min (b.length - 4) b.length = b.length - 4 := by omega
  have tp : isTL (u8 p) = true := isT_u8 _
  by_cases h3 : w = s
  · subst h3
    simp only [if_true]
    simp (maxSteps := 4000000) (disch := omega) only [step, stepv, ev, wl, wn, wp, wz, aop, cV, cV1, AV.one, partCells, okW, onlyFr, app, sliceCells, cellsAt, srcA, subA, eqFs, Int.cast_ofNat_Int, simprocAttr, ac_deframe_opened, bs, tk, dk, n4, n5, tq]
    refine callQ.vc hS' ?_
    simp (maxSteps := 4000000) (disch := omega) only [step, stepv, ev, wl, wn, wp, wz, aop, cV, cV1, AV.one, partCells, okW, onlyFr, app, sliceCells, cellsAt, srcA, subA, eqFs, Int.cast_ofNat_Int, simprocAttr, tk, dk, n4, n5, tq]
    refine callQ.vc hV' ?_
    simp (maxSteps := 4000000) (disch := omega) only [step, stepv, ev, wl, wn, wp, wz, aop, cV, cV1, AV.one, partCells, okW, onlyFr, app, sliceCells, cellsAt, srcA, subA, eqFs, Int.cast_ofNat_Int, simprocAttr, tk, dk, n4, n5, tq]
    simp [frzN, frzK, frzL, frzV, frzL_T _ tp, bs, hl1]
    try omega
  · simp only [h3, if_false]
    simp (maxSteps := 4000000) (disch := omega) only [step, stepv, ev, wl, wn, wp, wz, aop, cV, cV1, AV.one, partCells, okW, onlyFr, app, sliceCells, cellsAt, srcA, subA, eqFs, Int.cast_ofNat_Int, simprocAttr, ac_deframe_opened, bs, tk, dk, n4, n5, tq]
    refine callQ.vc hS' ?_
    simp (maxSteps := 4000000) (disch := omega) only [step, stepv, ev, wl, wn, wp, wz, aop, cV, cV1, AV.one, partCells, okW, onlyFr, app, sliceCells, cellsAt, srcA, subA, eqFs, Int.cast_ofNat_Int, simprocAttr, tk, dk, n4, n5, tq]
    refine callQ.vc hV' ?_
    simp (maxSteps := 4000000) (disch := omega) only [step, stepv, ev, wl, wn, wp, wz, aop, cV, cV1, AV.one, partCells, okW, onlyFr, app, sliceCells, cellsAt, srcA, subA, eqFs, Int.cast_ofNat_Int, simprocAttr, tk, dk, n4, n5, tq]
    simp [frzN, frzK, frzL, frzV]

theorem sealed_iff {b : List UInt8} (h : 5 ≤ b.length) : (b.take (b.length - 4) ++ leB (sumM (b.take (b.length - 4))) 4 = b) ↔ leN (b.drop (b.length - 4)) = sumM (b.take (b.length - 4)) := by
  have hl : (b.drop (b.length - 4)).length = 4 := by simp; omega
  constructor
  · intro e
    have : leB (sumM (b.take (b.length - 4))) 4 = b.drop (b.length - 4) := by
      have h2 := List.take_append_drop (b.length - 4) b
      exact List.append_cancel_left (e.trans h2.symm)
    rw [← this, leN_leB2 4 _ (sumM_lt _)]
  · intro e
    rw [← e]
    have := leB_leN (b.drop (b.length - 4))
    rw [hl] at this
    rw [this, List.take_append_drop]
end Go.Am

namespace Go.Am
open Go.RowKit

/-! ### values -/

def sixD (F : Nat → Dl) : List AV := dlC (F 0) ++ dlC (F 1) ++ dlC (F 2) ++ dlC (F 3) ++ dlC (F 4) ++ dlC (F 5)
theorem isTL_sixD (F : Nat → Dl) : isTL (sixD F) = true := rfl
theorem sixD_len (F : Nat → Dl) : (sixD F).length = 24 := rfl
theorem sixD_get (F : Nat → Dl) {j : Nat} (h : j < 6) : ∃ r, (sixD F).drop (j * 4) = .int .i64 (F j).k0 :: .int .i64 (F j).k1 :: .int .u64 (F j).s0 :: .int .u64 (F j).s1 :: r := by
  rcases (by omega : j = 0 ∨ j = 1 ∨ j = 2 ∨ j = 3 ∨ j = 4 ∨ j = 5) with rfl | rfl | rfl | rfl | rfl | rfl <;> exact ⟨_, rfl⟩
def updD (F : Nat → Dl) (j : Nat) (d : Dl) : Nat → Dl := fun i => if i = j then d else F i
theorem sixD_set (F : Nat → Dl) {j : Nat} (h : j < 6) (d : Dl) : (sixD F).take (j * 4) ++ [.int .i64 d.k0, .int .i64 d.k1, .int .u64 d.s0, .int .u64 d.s1] ++ (sixD F).drop (j * 4 + 4) = sixD (updD F j d) := by
  rcases (by omega : j = 0 ∨ j = 1 ∨ j = 2 ∨ j = 3 ∨ j = 4 ∨ j = 5) with rfl | rfl | rfl | rfl | rfl | rfl <;> rfl

def vlA : (Nat × List Nat) ⊕ (List Nat × Nat) → AV
  | .inl (e, _) => .tup [.list 0 [], .int .i64 0, .int .i64 e]
  | .inr (o, a) => .tup [n32A o, .int .i64 a, .int .i64 0]
def S_dVals (P : Prg) (f : Nat) : Prop := ∀ N V c n : Nat, V < 2 ^ N → N ≤ 330000 → 1 ≤ c → c ≤ 6 → n * c ≤ 4000 → VC P f [.int .i64 c, .int .i64 n, bA N V] (vlA (valsM V N c (n * c) [] 0))
set_option maxHeartbeats 2000000 in
theorem deframe_values {P : Prg} {f fS fC fR t0 t1 t2 t3 : Nat} (bd : Body P f 76 [.tmp 6, .tmp 7, .tmp 8] (ac_deframe_values fS fC fR t0 t1 t2 t3)) (hS : S_Start P fS) (hC : S_Cut P fC) (hR : S_dRead P fR) : S_dVals P f := by
  intro N V c n hV hN hc hc6 hnc
  refine VC.of_walk 1 (by simp [isDL, isD_bA, isD]) (by unfold vlA; split <;> simp [isD, isDL, isD_n32A]) (ACall.of_body bd (by simp) ?_)
  simp only [S_Start, startM, dlA, dlC] at hS
  have hn4 : n ≤ 4000 := by
    have : n * 1 ≤ n * c := Nat.mul_le_mul_left _ hc
    omega
  have tu : isTL (u8 (leB V (nB N))) = true := isT_u8 _
  obtain ⟨T, hT⟩ : ∃ T, T = n * c := ⟨_, rfl⟩
  obtain ⟨R, hR0⟩ : ∃ R, R = valsM V N c (n * c) [] 0 := ⟨_, rfl⟩
  have eT : (n : Int) * c = (T : Int) := by rw [hT]; simp
  rw [← hR0]
  simp (maxSteps := 4000000) (disch := omega) only [step, stepv, ev, wl, wn, wp, wz, aop, cV, cV1, AV.one, partCells, okW, onlyFr, app, sliceCells, cellsAt, srcA, subA, eqFs, Int.cast_ofNat_Int, simprocAttr, ac_deframe_values, bA]
  refine ALoop.by (ι := Nat) (fun i => ⟨[(19, .int .i64 i), (9, .ref 1 1 0), (8, .int .i64 0), (7, .int .i64 0), (6, .emp true), (5, .ref 0 1 0), (0, .int .i64 c), (1, .int .i64 n)],
      [⟨t0, 2, 1, [.list (nB N) (u8 (leB V (nB N))), .int .i64 N], 0⟩, ⟨t1, 24, 1, sixD (fun j => if j < i then startM else ⟨0, 0, 0, 0⟩), 0⟩]⟩) (fun i => i ≤ 6) (fun i => 6 - i) 0 (Le.slots (by simp [Am.look])) (by omega) ?_
  intro i hi
  by_cases hlt : i < 6
  · have e1 := sixD_set (fun j => if j < i then startM else ⟨0, 0, 0, 0⟩) hlt startM
    have e2 : updD (fun j => if j < i then startM else ⟨0, 0, 0, 0⟩) i startM = fun j => if j < i + 1 then startM else ⟨0, 0, 0, 0⟩ := by
      funext j
      unfold updD
      by_cases h1 : j = i
      · subst h1; simp
      · by_cases h2 : j < i
        · simp [h1, h2, show j < i + 1 by omega]
        · simp [h1, h2, show ¬ j < i + 1 by omega]
    rw [e2] at e1
    have e3 := sixD_len (fun j => if j < i then startM else ⟨0, 0, 0, 0⟩)
    simp (maxSteps := 4000000) (disch := omega) only [step, stepv, ev, wl, wn, wp, wz, aop, cV, cV1, AV.one, partCells, okW, onlyFr, app, sliceCells, cellsAt, srcA, subA, eqFs, Int.cast_ofNat_Int, simprocAttr]
    refine callQ.vc hS ?_
    generalize hF : sixD (fun j => if j < i then startM else ⟨0, 0, 0, 0⟩) = F at *
    have e1' : F.take (i * 4) ++ [.int .i64 10, .int .i64 10, .int .u64 16384, .int .u64 16384] ++ F.drop (i * 4 + 4) = sixD fun j => if j < i + 1 then startM else ⟨0, 0, 0, 0⟩ := e1
    simp (maxSteps := 4000000) (disch := omega) only [step, stepv, ev, wl, wn, wp, wz, aop, cV, cV1, AV.one, partCells, okW, onlyFr, app, sliceCells, cellsAt, srcA, subA, eqFs, Int.cast_ofNat_Int, simprocAttr, e3]
    refine ⟨i + 1, by omega, by omega, ?_⟩
    rw [e1']
    exact Le.slots (by simp [Am.look])
  obtain rfl : i = 6 := by omega
  have hk0 : ∀ o : List Nat, (ks .u32 (o.map fun n : Nat => (n : Int))).length = o.length := fun o => by simp [ks]
  simp (maxSteps := 4000000) (disch := omega) only [step, stepv, ev, wl, wn, wp, wz, aop, cV, cV1, AV.one, partCells, okW, onlyFr, app, sliceCells, cellsAt, srcA, subA, eqFs, Int.cast_ofNat_Int, simprocAttr, eT]
  refine ALoop.by (ι := Nat × List Nat × Nat) (fun s => ⟨[(29, .int .i64 s.1), (28, .int .i64 T), (12, .int .i64 s.2.2), (11, .own 2 s.2.1.length), (9, .ref 1 1 0), (5, .ref 0 1 0), (0, .int .i64 c)],
      [⟨t0, 2, 1, [.list (nB N) (u8 (leB V (nB N))), .int .i64 N], 0⟩, ⟨t1, 24, 1, sixD (fun j => if j < c then chanM c j s.2.1 else startM), 0⟩, ⟨t3, 1, s.2.1.length, ks .u32 (s.2.1.map fun n : Nat => (n : Int)), 0⟩]⟩)
    (fun s => s.1 ≤ T ∧ s.2.1.length = s.1 ∧ s.2.2 ≤ N ∧ N32 s.2.1 ∧ valsM V N c (T - s.1) s.2.1 s.2.2 = R) (fun s => T - s.1) (0, [], 0) ?_ ⟨Nat.zero_le _, rfl, Nat.zero_le _, fun x hx => (by simp at hx), (by rw [hR0, hT]; rfl)⟩ ?_
  · have z1 : sixD (fun j => if j < 6 then startM else ⟨0, 0, 0, 0⟩) = sixD (fun _ => startM) := rfl
    have z2 : (fun j => if j < c then chanM c j [] else startM) = fun _ => startM := by
      funext j
      split <;> rfl
    simp only [z2]
    rw [z1]
    exact Le.trans (Le.virt 11 t3 1 (by decide) rfl) (Le.slots (by simp [Am.look]))
  rintro ⟨k, out, a⟩ ⟨h1, h2, h3, h4, h5⟩
  simp only at h1 h2 h3 h4 h5 ⊢
  by_cases hlt : k < T
  · obtain ⟨r, hr⟩ : ∃ r, r = k % c := ⟨_, rfl⟩
    have hrc : r < c := by rw [hr]; exact Nat.mod_lt _ (by omega)
    have e1 : (k : Int) % c = (r : Int) := by rw [hr]; simp [Int.natCast_emod]
    have e1' : ((k : Int)).tmod (c : Int) = (r : Int) := by rw [Int.tmod_eq_emod_of_nonneg (by omega), e1]
    have hc0 : (c : Int) ≠ 0 := by omega
    obtain ⟨b, hb⟩ : ∃ b, b = min (a + 81) N := ⟨_, rfl⟩
    have e2 : (if (N : Int) < (a : Int) + 81 then (N : Int) else (a : Int) + 81) = (b : Int) := by split <;> omega
    have hpn : b - a = prtN N a := by rw [hb]; rfl
    have hC' : VC P fC [bA N V, .int .i64 a, .int .i64 b] (.tup [bA (prtN N a) (prtV V N a), .int .i64 0]) := by
      have := hC N V a b hV hN (by omega) (by omega)
      rw [hpn] at this
      exact this
    have hpl : prtN N a ≤ 81 := by unfold prtN; omega
    have hd := chan_ok (c := c) (r := r) h4
    have hR' := hR (prtN N a) (prtV V N a) 0 (chanM c r out) (prtV_lt V N a) (by omega) (by omega) hd
    have hF : (fun j => if j < c then chanM c j out else startM) r = chanM c r out := by simp [hrc]
    obtain ⟨rest, hg⟩ := sixD_get (fun j => if j < c then chanM c j out else startM) (j := r) (by omega)
    simp only [hrc, if_true] at hg
    have hst := fun d => sixD_set (fun j => if j < c then chanM c j out else startM) (j := r) (by omega) d
    have hln := sixD_len (fun j => if j < c then chanM c j out else startM)
    have hupd : ∀ v : Nat, updD (fun j => if j < c then chanM c j out else startM) r (learnM (chanM c r out) v) = fun j => if j < c then chanM c j (out ++ [v]) else startM := by
      intro v
      funext j
      unfold updD
      by_cases hj : j = r
      · subst hj
        rw [if_pos rfl, if_pos hrc, chan_snoc, if_pos (by rw [h2, hr])]
      · rw [if_neg hj]
        by_cases hjc : j < c
        · simp only [hjc, if_true]
          rw [chan_snoc, if_neg (by rw [h2, ← hr]; exact fun e => hj e.symm)]
        · simp only [hjc, if_false]
    have hkT : T - k = (T - k - 1) + 1 := by omega
    rw [hkT, valsM, h2, ← hr] at h5
    have hgl := fun v nx (h : gotM (prtV V N a) (prtN N a) 0 (chanM c r out) = .inr (v, nx)) => got_lt hd h
    have hge := fun e (h : gotM (prtV V N a) (prtN N a) 0 (chanM c r out) = .inl e) => got_err h
    have hpN : prtN N a ≤ N - a := by unfold prtN; omega
    simp only [bA] at hC' hR'
    have hk1 := hk0 out
    have tk : isTL (ks .u32 (out.map fun n : Nat => (n : Int))) = true := isTL_ks _ _
    cases hgm : gotM (prtV V N a) (prtN N a) 0 (chanM c r out) with
    | inl e =>
      have he := hge e hgm
      rw [hgm] at hR' h5
      simp only at h5
      have he0 : (e : Int) ≠ 0 := by omega
      rw [← h5, vlA]
      generalize sixD (fun j => if j < c then chanM c j out else startM) = F at *
      generalize chanM c r out = d at *
      obtain ⟨d0, d1, d2, d3⟩ := d
      simp only [dlA, dlC, drA] at hR'
      simp only at hg
      simp (maxSteps := 4000000) (disch := omega) only [step, stepv, ev, wl, wn, wp, wz, aop, cV, cV1, AV.one, partCells, okW, onlyFr, app, sliceCells, cellsAt, srcA, subA, eqFs, Int.cast_ofNat_Int, simprocAttr, e2]
      refine callQ.vc hC' ?_
      simp (maxSteps := 4000000) (disch := omega) only [step, stepv, ev, wl, wn, wp, wz, aop, cV, cV1, AV.one, partCells, okW, onlyFr, app, sliceCells, cellsAt, srcA, subA, eqFs, Int.cast_ofNat_Int, simprocAttr, e1, e1', hc0, hg, hln]
      refine callD.vc hR' ?_
      simp (maxSteps := 4000000) (disch := omega) only [step, stepv, ev, wl, wn, wp, wz, aop, cV, cV1, AV.one, partCells, okW, onlyFr, app, sliceCells, cellsAt, srcA, subA, eqFs, Int.cast_ofNat_Int, simprocAttr]
      simp [frzN, frzK, frzL, frzV]
    | inr w =>
      obtain ⟨v, nx⟩ := w
      obtain ⟨v1, v2⟩ := hgl v nx hgm
      rw [hgm] at hR' h5
      simp only at h5
      have hset := hst (learnM (chanM c r out) v)
      rw [hupd v] at hset
      generalize hFF : sixD (fun j => if j < c then chanM c j out else startM) = F at *
      generalize chanM c r out = d at *
      obtain ⟨d0, d1, d2, d3⟩ := d
      simp only [drA] at hR'
      generalize learnM ⟨d0, d1, d2, d3⟩ v = d' at *
      obtain ⟨m0, m1, m2, m3⟩ := d'
      simp only [dlA, dlC] at hR'
      simp only at hg hset
      simp (maxSteps := 4000000) (disch := omega) only [step, stepv, ev, wl, wn, wp, wz, aop, cV, cV1, AV.one, partCells, okW, onlyFr, app, sliceCells, cellsAt, srcA, subA, eqFs, Int.cast_ofNat_Int, simprocAttr, e2]
      refine callQ.vc hC' ?_
      simp (maxSteps := 4000000) (disch := omega) only [step, stepv, ev, wl, wn, wp, wz, aop, cV, cV1, AV.one, partCells, okW, onlyFr, app, sliceCells, cellsAt, srcA, subA, eqFs, Int.cast_ofNat_Int, simprocAttr, e1, e1', hc0, hg, hln]
      refine callD.vc hR' ?_
      simp (maxSteps := 4000000) (disch := omega) only [step, stepv, ev, wl, wn, wp, wz, aop, cV, cV1, AV.one, partCells, okW, onlyFr, app, sliceCells, cellsAt, srcA, subA, eqFs, Int.cast_ofNat_Int, simprocAttr, e1, e1', hc0, hg, hln, hk1, h2]
      have hap : ks .u32 (out.map fun n : Nat => (n : Int)) ++ [.int .u32 (v : Int)] = ks .u32 ((out ++ [v]).map fun n : Nat => (n : Int)) := by simp [ks]
      have hol : (out ++ [v]).length = k + 1 := by simp [h2]
      refine ⟨(k + 1, out ++ [v], a + nx), ⟨by omega, hol, by simp only; omega, fun x hx => ?_, ?_⟩, by simp only; omega, ?_⟩
      · rcases List.mem_append.1 hx with h | h
        · exact h4 x h
        · simp at h; subst h; exact v1
      · simp only
        rw [show T - (k + 1) = T - k - 1 by omega]
        exact h5
      · simp only [hol]
        rw [hset, hap]
        exact Le.dropT [_, _, _] (by simp [isTL_sixD, isTL_ks, isTL, isT, isT_u8]) (by simp [Am.look, frzK, frzL, frzV])
  · obtain rfl : k = T := by omega
    rw [Nat.sub_self, valsM] at h5
    rw [← h5, vlA, n32A, u32L, List.length_map]
    simp (maxSteps := 4000000) (disch := omega) only [step, stepv, ev, wl, wn, wp, wz, aop, cV, cV1, AV.one, partCells, okW, onlyFr, app, sliceCells, cellsAt, srcA, subA, eqFs, Int.cast_ofNat_Int, simprocAttr]
    simp [frzN, frzK, frzL, frzV, frzL_T _ (isTL_ks _ _)]

end Go.Am

namespace Go.Am
open Go.RowKit

/-! ### Decode -/

def iL (o : List Nat) : List Int := o.map fun n : Nat => (n : Int)
def decV (V N c : Nat) (x : Int) (t : List Int) (w : (Nat × List Nat) ⊕ (List Nat × Nat)) : AV :=
  match w with
  | .inl (e, _) => erA e
  | .inr (o, a) => if restM V N a ≠ 0 then erA 12 else rngA x (unB c x t (iL o))
def decA (c x : Int) (t : List Int) (n : Int) (b : List UInt8) : AV :=
  if ask21 c x n ≠ 0 then erA 2 else if openM b ≠ 0 then erA (openM b : Nat) else
    decV (leN (b.take (b.length - 4))) (8 * (b.take (b.length - 4)).length) c.toNat x t (valsM (leN (b.take (b.length - 4))) (8 * (b.take (b.length - 4)).length) c.toNat (n.toNat * c.toNat) [] 0)
theorem isD_decV (V N c : Nat) (x : Int) (t : List Int) (w : (Nat × List Nat) ⊕ (List Nat × Nat)) : isD (decV V N c x t w) = true := by
  unfold decV
  split
  · rfl
  · split
    · rfl
    · exact isD_rng _ _
theorem isD_decA (c x : Int) (t : List Int) (n : Int) (b : List UInt8) : isD (decA c x t n b) = true := by
  unfold decA
  split
  · rfl
  split
  · rfl
  · exact isD_decV _ _ _ _ _ _

theorem ask21_cases {c x n : Int} (h : ask21 c x n = 0) : eCheck c x = 0 ∧ ∃ c' n' : Nat, c = c' ∧ n = n' ∧ 1 ≤ c' ∧ c' ≤ 6 ∧ 1 ≤ n' ∧ n' * c' ≤ 4000 ∧ half x ≠ 0 := by
  unfold ask21 at h
  rcases eCheck_cases c x with h1 | ⟨h1, h2, h3, h4⟩
  · rw [if_pos (by omega)] at h; omega
  · rw [if_neg (by omega)] at h
    split at h
    · omega
    split at h
    · omega
    rename_i h5 h6
    refine ⟨h1, c.toNat, n.toNat, by omega, by omega, by omega, by omega, by omega, ?_, h2⟩
    have h7 : n.toNat ≤ 4000 / c.toNat := by
      have : ((4000 / c.toNat : Nat) : Int) = 4000 / c := by rw [Int.natCast_ediv, Int.toNat_of_nonneg (by omega)]; rfl
      omega
    exact (Nat.le_div_iff_mul_le (by omega)).1 h7

theorem okV_of {V N c n : Nat} {o : List Nat} {a : Nat} (hc : 1 ≤ c) (hc6 : c ≤ 6) (hn : 1 ≤ n) (hnc : n * c ≤ 4000) (h : valsM V N c (n * c) [] 0 = .inr (o, a)) : okV c (iL o) ∧ a ≤ N ∧ o.length = n * c := by
  obtain ⟨_, h2⟩ := vals_spec (V := V) (N := N) (c := c) (n * c) [] 0 (Nat.zero_le _) (fun x hx => by simp at hx)
  obtain ⟨q1, q2, q3⟩ := h2 o a h
  rw [List.length_nil, Nat.zero_add] at q3
  have hpos : 0 < n * c := Nat.mul_pos hn hc
  refine ⟨⟨hc, hc6, by simp [iL]; omega, by simp [iL]; omega, by simp [iL, q3], fun x hx => ?_⟩, q2, q3⟩
  simp only [iL, List.mem_map] at hx
  obtain ⟨y, hy, rfl⟩ := hx
  have := q1 y hy
  omega

def S_Decode (P : Prg) (f : Nat) : Prop := ∀ (c x n : Int) (t : List Int) (b : List UInt8), t.length = 16 → I32 t → b.length ≤ 1000000 → VC P f [shA c x, .agg (ks .i32 t), .int .i64 n, bs b] (decA c x t n b)
set_option maxHeartbeats 2000000 in
theorem deframe_Decode {P : Prg} {f fE fO fF fV fG fS t0 t1 t2 : Nat} (bd : Body P f 87 [.tmp 8, .tmp 9] (ac_deframe_Decode fE fO fF fV fG fS t0 t1 t2)) (hE0 : S_ECheck P fE) (hO : S_opened P fO) (hF : S_bOf P fF) (hV : S_dVals P fV) (hG : S_bGet P fG) (hS : S_DSam P fS) : S_Decode P f := by
  intro c x n t b ht hI hb
  refine VC.of_walk 1 (by simp [isDL, isD_bs, isDL_ks, isD, shA]) (isD_decA _ _ _ _ _) (ACall.of_body bd (by simp) ?_)
  have hE' := hE0 c x
  have hO' := hO b hb
  have hk : (ks .i32 t).length = 16 := by simp [ks_length, ht]
  have tt : (ks .i32 t).take 16 = ks .i32 t := take_all (by omega)
  have ot := ks_one .i32 t
  rw [shA] at hE'
  simp only [bs] at hO'
  unfold decA
  rcases eCheck_cases c x with g1 | ⟨g1, g2, g3, g4⟩
  · have h1 : ask21 c x n = 2 := by unfold ask21; rw [if_pos (by omega)]
    rw [g1] at hE'
    rw [if_pos (by omega), erA]
    simp (maxSteps := 4000000) (disch := omega) only [step, stepv, ev, wl, wn, wp, wz, aop, cV, cV1, AV.one, partCells, okW, onlyFr, app, sliceCells, cellsAt, srcA, subA, eqFs, Int.cast_ofNat_Int, simprocAttr, ac_deframe_Decode, shA, bs, hk, tt, ot]
    refine callQ.vc hE' ?_
    simp (maxSteps := 4000000) (disch := omega) only [step, stepv, ev, wl, wn, wp, wz, aop, cV, cV1, AV.one, partCells, okW, onlyFr, app, sliceCells, cellsAt, srcA, subA, eqFs, Int.cast_ofNat_Int, simprocAttr]
    simp [frzN, frzK, frzL, frzV]
  rw [g1] at hE'
  have ed : ((4000 : Int)).tdiv c = 4000 / c := Int.tdiv_eq_ediv_of_nonneg (by omega)
  have hc0 : c ≠ 0 := by omega
  have hd1 : 4000 / c ≤ 4000 := by
    have := Int.ediv_le_self c (show (0 : Int) ≤ 4000 by omega)
    exact this
  have hd0 : 0 ≤ 4000 / c := Int.ediv_nonneg (by omega) (by omega)
  by_cases h1 : ask21 c x n = 0
  case neg =>
    rw [if_pos h1, erA]
    have h1' : n < 1 ∨ 4000 / c < n := by
      unfold ask21 at h1
      rw [if_neg (by omega)] at h1
      split at h1
      · exact .inl (by assumption)
      split at h1
      · exact .inr (by assumption)
      · omega
    obtain ⟨q, hq⟩ : ∃ q, q = 4000 / c := ⟨_, rfl⟩
    rw [← hq] at hd0 hd1 h1' ed
    have ed2 : (4000 : Int) / c = q := hq.symm
    clear hq
    by_cases h1'' : n < 1
    · simp (maxSteps := 4000000) (disch := omega) only [step, stepv, ev, wl, wn, wp, wz, aop, cV, cV1, AV.one, partCells, okW, onlyFr, app, sliceCells, cellsAt, srcA, subA, eqFs, Int.cast_ofNat_Int, simprocAttr, ac_deframe_Decode, shA, bs, hk, tt, ot]
      refine callQ.vc hE' ?_
      simp (maxSteps := 4000000) (disch := omega) only [step, stepv, ev, wl, wn, wp, wz, aop, cV, cV1, AV.one, partCells, okW, onlyFr, app, sliceCells, cellsAt, srcA, subA, eqFs, Int.cast_ofNat_Int, simprocAttr]
      simp [frzN, frzK, frzL, frzV]
    · have h1''' : q < n := by omega
      simp (maxSteps := 4000000) (disch := omega) only [step, stepv, ev, wl, wn, wp, wz, aop, cV, cV1, AV.one, partCells, okW, onlyFr, app, sliceCells, cellsAt, srcA, subA, eqFs, Int.cast_ofNat_Int, simprocAttr, ac_deframe_Decode, shA, bs, hk, tt, ot]
      refine callQ.vc hE' ?_
      simp (maxSteps := 4000000) (disch := omega) only [step, stepv, ev, wl, wn, wp, wz, aop, cV, cV1, AV.one, partCells, okW, onlyFr, app, sliceCells, cellsAt, srcA, subA, eqFs, Int.cast_ofNat_Int, simprocAttr, ed, ed2, hc0]
      simp [frzN, frzK, frzL, frzV]
  rw [if_neg (by omega)]
  obtain ⟨_, c', n', rfl, rfl, q1, q2, q3, q4, q5⟩ := ask21_cases h1
  have hnq : (n' : Int) ≤ 4000 / (c' : Int) := by
    unfold ask21 at h1
    rw [if_neg (by omega)] at h1
    split at h1
    · omega
    split at h1
    · omega
    · omega
  obtain ⟨q, hq⟩ : ∃ q, q = (4000 : Int) / (c' : Int) := ⟨_, rfl⟩
  rw [← hq] at hd0 hd1 hnq ed
  have ed2 : (4000 : Int) / (c' : Int) = q := hq.symm
  clear hq
  by_cases h2 : openM b = 0
  case neg =>
    have h2' : ((openM b : Nat) : Int) ≠ 0 := by omega
    rw [opA, if_neg h2] at hO'
    rw [if_pos h2, erA]
    generalize openM b = m at *
    simp (maxSteps := 4000000) (disch := omega) only [step, stepv, ev, wl, wn, wp, wz, aop, cV, cV1, AV.one, partCells, okW, onlyFr, app, sliceCells, cellsAt, srcA, subA, eqFs, Int.cast_ofNat_Int, simprocAttr, ac_deframe_Decode, shA, bs, hk, tt, ot]
    refine callQ.vc hE' ?_
    simp (maxSteps := 4000000) (disch := omega) only [step, stepv, ev, wl, wn, wp, wz, aop, cV, cV1, AV.one, partCells, okW, onlyFr, app, sliceCells, cellsAt, srcA, subA, eqFs, Int.cast_ofNat_Int, simprocAttr, ed, ed2, hc0]
    refine callQ.vc hO' ?_
    simp (maxSteps := 4000000) (disch := omega) only [step, stepv, ev, wl, wn, wp, wz, aop, cV, cV1, AV.one, partCells, okW, onlyFr, app, sliceCells, cellsAt, srcA, subA, eqFs, Int.cast_ofNat_Int, simprocAttr]
    simp [frzN, frzK, frzL, frzV]
  rw [if_neg (by omega)]
  have hbl : 5 ≤ b.length ∧ b.length ≤ 41254 := by
    unfold openM at h2
    split at h2
    · omega
    split at h2
    · omega
    · omega
  rw [opA, if_pos h2] at hO'
  have hpl : (b.take (b.length - 4)).length = b.length - 4 := by simp
  have hF' := hF (b.take (b.length - 4)) (by omega)
  have hVlt := leN_lt' (b.take (b.length - 4))
  have hbA := bA_of (b.take (b.length - 4))
  rw [ofA, if_neg (by omega), hbA] at hF'
  simp only [Int.toNat_natCast]
  have hV' := hV (8 * (b.take (b.length - 4)).length) (leN (b.take (b.length - 4))) c' n' hVlt (by omega) q1 q2 q4
  have hG0 := fun a m => hG (8 * (b.take (b.length - 4)).length) (leN (b.take (b.length - 4))) a m hVlt (by omega)
  rw [hbA] at hV'
  simp only [hbA] at hG0
  simp only [bs, hpl] at hF' hV' hG0 hO' hVlt ⊢
  have hNN : 8 * (b.length - 4) ≤ 330000 := by omega
  generalize hp : b.take (b.length - 4) = p at *
  generalize leN p = V at *
  obtain ⟨N, hN⟩ : ∃ N, N = 8 * (b.length - 4) := ⟨_, rfl⟩
  rw [← hN] at hF' hV' hG0 hVlt hNN ⊢
  have hokv := fun o a (h : valsM V N c' (n' * c') [] 0 = .inr (o, a)) => okV_of q1 q2 q3 q4 h
  have hspec := vals_spec (V := V) (N := N) (c := c') (n' * c') [] 0 (Nat.zero_le _) (fun x hx => by simp at hx)
  cases hw : valsM V N c' (n' * c') [] 0 with
  | inl w =>
    obtain ⟨e, o⟩ := w
    have he := (hspec.1 e o hw).1
    have he0 : (e : Int) ≠ 0 := by omega
    rw [hw, vlA] at hV'
    simp only [decV, erA]
    simp (maxSteps := 4000000) (disch := omega) only [step, stepv, ev, wl, wn, wp, wz, aop, cV, cV1, AV.one, partCells, okW, onlyFr, app, sliceCells, cellsAt, srcA, subA, eqFs, Int.cast_ofNat_Int, simprocAttr, ac_deframe_Decode, shA, bs, hk, tt, ot]
    refine callQ.vc hE' ?_
    simp (maxSteps := 4000000) (disch := omega) only [step, stepv, ev, wl, wn, wp, wz, aop, cV, cV1, AV.one, partCells, okW, onlyFr, app, sliceCells, cellsAt, srcA, subA, eqFs, Int.cast_ofNat_Int, simprocAttr, ed, ed2, hc0]
    refine callQ.vc hO' ?_
    simp (maxSteps := 4000000) (disch := omega) only [step, stepv, ev, wl, wn, wp, wz, aop, cV, cV1, AV.one, partCells, okW, onlyFr, app, sliceCells, cellsAt, srcA, subA, eqFs, Int.cast_ofNat_Int, simprocAttr]
    refine callQ.vc hF' ?_
    simp (maxSteps := 4000000) (disch := omega) only [step, stepv, ev, wl, wn, wp, wz, aop, cV, cV1, AV.one, partCells, okW, onlyFr, app, sliceCells, cellsAt, srcA, subA, eqFs, Int.cast_ofNat_Int, simprocAttr]
    refine callQ.vc hV' ?_
    simp (maxSteps := 4000000) (disch := omega) only [step, stepv, ev, wl, wn, wp, wz, aop, cV, cV1, AV.one, partCells, okW, onlyFr, app, sliceCells, cellsAt, srcA, subA, eqFs, Int.cast_ofNat_Int, simprocAttr]
    simp [frzN, frzK, frzL, frzV]
  | inr w =>
    obtain ⟨o, a⟩ := w
    obtain ⟨hv, ha, hol⟩ := hokv o a hw
    rw [hw, vlA, n32A, u32L, List.length_map] at hV'
    simp only [decV]
    have hS' := hS c' x t (iL o) ht hI hv q5
    rw [shA, u32L, iL, List.length_map] at hS'
    by_cases h8 : 7 < N - a
    · have h12 : restM V N a = 12 := by unfold restM; rw [if_pos h8]
      rw [h12, if_pos (by omega), erA]
      simp (maxSteps := 4000000) (disch := omega) only [step, stepv, ev, wl, wn, wp, wz, aop, cV, cV1, AV.one, partCells, okW, onlyFr, app, sliceCells, cellsAt, srcA, subA, eqFs, Int.cast_ofNat_Int, simprocAttr, ac_deframe_Decode, shA, bs, hk, tt, ot]
      refine callQ.vc hE' ?_
      simp (maxSteps := 4000000) (disch := omega) only [step, stepv, ev, wl, wn, wp, wz, aop, cV, cV1, AV.one, partCells, okW, onlyFr, app, sliceCells, cellsAt, srcA, subA, eqFs, Int.cast_ofNat_Int, simprocAttr, ed, ed2, hc0]
      refine callQ.vc hO' ?_
      simp (maxSteps := 4000000) (disch := omega) only [step, stepv, ev, wl, wn, wp, wz, aop, cV, cV1, AV.one, partCells, okW, onlyFr, app, sliceCells, cellsAt, srcA, subA, eqFs, Int.cast_ofNat_Int, simprocAttr]
      refine callQ.vc hF' ?_
      simp (maxSteps := 4000000) (disch := omega) only [step, stepv, ev, wl, wn, wp, wz, aop, cV, cV1, AV.one, partCells, okW, onlyFr, app, sliceCells, cellsAt, srcA, subA, eqFs, Int.cast_ofNat_Int, simprocAttr]
      refine callQ.vc hV' ?_
      simp (maxSteps := 4000000) (disch := omega) only [step, stepv, ev, wl, wn, wp, wz, aop, cV, cV1, AV.one, partCells, okW, onlyFr, app, sliceCells, cellsAt, srcA, subA, eqFs, Int.cast_ofNat_Int, simprocAttr]
      simp [frzN, frzK, frzL, frzV]
    · have hG' := hG0 a (N - a) (by omega) (by omega)
      rw [if_neg (by omega)] at hG'
      have hlt : V / 2 ^ a < 2 ^ (N - a) := Nat.div_lt_of_lt_mul (by rw [← Nat.pow_add, show a + (N - a) = N by omega]; exact hVlt)
      rw [Nat.mod_eq_of_lt hlt] at hG'
      have eNa : (N : Int) - a = ((N - a : Nat) : Int) := by omega
      have h7 : 2 ^ (N - a) ≤ 2 ^ 7 := Nat.pow_le_pow_right (by omega) (by omega)
      have hr : restM V N a = if V / 2 ^ a = 0 then 0 else 12 := by unfold restM; rw [if_neg h8]
      rw [hr]
      generalize V / 2 ^ a = y at *
      obtain ⟨m, hm⟩ : ∃ m, m = N - a := ⟨_, rfl⟩
      rw [← hm] at hG' eNa
      have hm7 : m ≤ 7 := by omega
      by_cases h0 : y = 0
      · subst h0
        rw [if_pos rfl, if_neg (by omega)]
        have hG'' : VC P fG [.agg [.list (b.length - 4) (u8 p), .int .i64 N], .int .i64 a, .int .i64 m] (.tup [.int .u64 0, .int .i64 0]) := hG'
        simp (maxSteps := 4000000) (disch := omega) only [step, stepv, ev, wl, wn, wp, wz, aop, cV, cV1, AV.one, partCells, okW, onlyFr, app, sliceCells, cellsAt, srcA, subA, eqFs, Int.cast_ofNat_Int, simprocAttr, ac_deframe_Decode, shA, bs, hk, tt, ot]
        refine callQ.vc hE' ?_
        simp (maxSteps := 4000000) (disch := omega) only [step, stepv, ev, wl, wn, wp, wz, aop, cV, cV1, AV.one, partCells, okW, onlyFr, app, sliceCells, cellsAt, srcA, subA, eqFs, Int.cast_ofNat_Int, simprocAttr, ed, ed2, hc0]
        refine callQ.vc hO' ?_
        simp (maxSteps := 4000000) (disch := omega) only [step, stepv, ev, wl, wn, wp, wz, aop, cV, cV1, AV.one, partCells, okW, onlyFr, app, sliceCells, cellsAt, srcA, subA, eqFs, Int.cast_ofNat_Int, simprocAttr]
        refine callQ.vc hF' ?_
        simp (maxSteps := 4000000) (disch := omega) only [step, stepv, ev, wl, wn, wp, wz, aop, cV, cV1, AV.one, partCells, okW, onlyFr, app, sliceCells, cellsAt, srcA, subA, eqFs, Int.cast_ofNat_Int, simprocAttr]
        refine callQ.vc hV' ?_
        simp (maxSteps := 4000000) (disch := omega) only [step, stepv, ev, wl, wn, wp, wz, aop, cV, cV1, AV.one, partCells, okW, onlyFr, app, sliceCells, cellsAt, srcA, subA, eqFs, Int.cast_ofNat_Int, simprocAttr, eNa]
        refine callQ.vc hG'' ?_
        simp (maxSteps := 4000000) (disch := omega) only [step, stepv, ev, wl, wn, wp, wz, aop, cV, cV1, AV.one, partCells, okW, onlyFr, app, sliceCells, cellsAt, srcA, subA, eqFs, Int.cast_ofNat_Int, simprocAttr, hk, tt, ot]
        refine callQ.vc hS' ?_
        simp only [iL]
        generalize unB c' x t (o.map fun n : Nat => (n : Int)) = z at *
        unfold rngA
        by_cases h4 : checkN x z = 0
        · rw [if_neg (by omega)]
          simp (maxSteps := 4000000) (disch := omega) only [step, stepv, ev, wl, wn, wp, wz, aop, cV, cV1, AV.one, partCells, okW, onlyFr, app, sliceCells, cellsAt, srcA, subA, eqFs, Int.cast_ofNat_Int, simprocAttr, il]
          simp [frzN, frzK, frzL, frzV, frzL_T _ (isTL_ks _ _)]
        · rw [if_pos h4]
          simp (maxSteps := 4000000) (disch := omega) only [step, stepv, ev, wl, wn, wp, wz, aop, cV, cV1, AV.one, partCells, okW, onlyFr, app, sliceCells, cellsAt, srcA, subA, eqFs, Int.cast_ofNat_Int, simprocAttr]
          simp [frzN, frzK, frzL, frzV]
      · rw [if_neg h0, if_pos (by omega), erA]
        simp (maxSteps := 4000000) (disch := omega) only [step, stepv, ev, wl, wn, wp, wz, aop, cV, cV1, AV.one, partCells, okW, onlyFr, app, sliceCells, cellsAt, srcA, subA, eqFs, Int.cast_ofNat_Int, simprocAttr, ac_deframe_Decode, shA, bs, hk, tt, ot]
        refine callQ.vc hE' ?_
        simp (maxSteps := 4000000) (disch := omega) only [step, stepv, ev, wl, wn, wp, wz, aop, cV, cV1, AV.one, partCells, okW, onlyFr, app, sliceCells, cellsAt, srcA, subA, eqFs, Int.cast_ofNat_Int, simprocAttr, ed, ed2, hc0]
        refine callQ.vc hO' ?_
        simp (maxSteps := 4000000) (disch := omega) only [step, stepv, ev, wl, wn, wp, wz, aop, cV, cV1, AV.one, partCells, okW, onlyFr, app, sliceCells, cellsAt, srcA, subA, eqFs, Int.cast_ofNat_Int, simprocAttr]
        refine callQ.vc hF' ?_
        simp (maxSteps := 4000000) (disch := omega) only [step, stepv, ev, wl, wn, wp, wz, aop, cV, cV1, AV.one, partCells, okW, onlyFr, app, sliceCells, cellsAt, srcA, subA, eqFs, Int.cast_ofNat_Int, simprocAttr]
        refine callQ.vc hV' ?_
        simp (maxSteps := 4000000) (disch := omega) only [step, stepv, ev, wl, wn, wp, wz, aop, cV, cV1, AV.one, partCells, okW, onlyFr, app, sliceCells, cellsAt, srcA, subA, eqFs, Int.cast_ofNat_Int, simprocAttr, eNa]
        refine callQ.vc hG' ?_
        simp (maxSteps := 4000000) (disch := omega) only [step, stepv, ev, wl, wn, wp, wz, aop, cV, cV1, AV.one, partCells, okW, onlyFr, app, sliceCells, cellsAt, srcA, subA, eqFs, Int.cast_ofNat_Int, simprocAttr]
        simp [frzN, frzK, frzL, frzV]

end Go.Am

namespace Go.Am
open Go.RowKit

/-! ### How many samples are good (plain) -/

theorem take_getD {l : List Int} {k j : Nat} (h : j < k) : (l.take k).getD j 0 = l.getD j 0 := by
  simp only [List.getD_eq_getElem?_getD, List.getElem?_take_of_lt h]
theorem stB_take {c : Nat} {L : List Int} {z : Chan} {k m : Nat} : ∀ n, (∀ i, i < n → k + i * c < m) → stB c (L.take m) z k n = stB c L z k n
  | 0, _ => rfl
  | n + 1, h => by
    rw [stB, stB, stB_take n fun i hi => h i (by omega), take_getD (h n (by omega))]
theorem bacV_take {c : Nat} {L : List Int} {z : Chan} {j m : Nat} (hc : 1 ≤ c) (hj : j < m) : bacV c (L.take m) z j = bacV c L z j := by
  rw [bacV, bacV, take_getD hj, stB_take _ fun i hi => ?_]
  have h1 := Nat.div_add_mod j c
  have h2 : i * c + c ≤ j / c * c := by
    have := Nat.mul_le_mul_right c (show i + 1 ≤ j / c from hi)
    rwa [Nat.add_mul, Nat.one_mul] at this
  rw [Nat.mul_comm c] at h1
  omega
theorem seg_lt {c j m : Nat} (hj : j < m * c) (hc : 1 ≤ c) : c * (j / c) + c ≤ m * c := by
  have h1 : j / c < m := (Nat.div_lt_iff_lt_mul hc).2 hj
  have := Nat.mul_le_mul_right c (show j / c + 1 ≤ m from h1)
  rw [Nat.add_mul, Nat.one_mul, Nat.mul_comm (j / c)] at this
  exact this
theorem unB_take {c : Nat} {x : Int} {t v : List Int} {m : Nat} (hc : 1 ≤ c) (hm : m * c ≤ v.length) : unB c x t (v.take (m * c)) = (unB c x t v).take (m * c) := by
  have hl : (v.take (m * c)).length = m * c := by simp; omega
  apply getD_ext
  · simp only [unB_len, List.length_take]
  intro j hj
  rw [unB_len, hl] at hj
  have hjv : j < v.length := by omega
  rw [take_getD hj]
  unfold unB undAll undT
  rw [map_getD (by rw [bacT_len, hl]; exact hj), map_getD (by rw [bacT_len]; exact hjv)]
  unfold undV
  refine ud_congr hc (fun i hi => ?_) _
  have hs := seg_lt hj hc
  rw [bacT, bacT, map_getD (by rw [hl]; omega), map_getD (by omega), List.map_take, bacV_take hc (by omega)]

def okP (c : Nat) (x : Int) (l : List Int) (k : Nat) : Bool := (l.take (k * c)).all (inR x)
def goodK (c : Nat) (x : Int) (l : List Int) : Nat → Nat
  | 0 => 0
  | m + 1 => if okP c x l (m + 1) then m + 1 else goodK c x l m
theorem okP_zero (c : Nat) (x : Int) (l : List Int) : okP c x l 0 = true := by simp [okP]
theorem okP_mono {c : Nat} {x : Int} {l : List Int} {j k : Nat} (h : okP c x l k = true) (hjk : j ≤ k) : okP c x l j = true := by
  unfold okP at h ⊢
  have : j * c ≤ k * c := Nat.mul_le_mul_right c hjk
  rw [List.all_eq_true] at h ⊢
  intro y hy
  refine h y ?_
  rw [show l.take (j * c) = (l.take (k * c)).take (j * c) by rw [List.take_take, Nat.min_eq_left this]] at hy
  exact List.mem_of_mem_take hy
theorem goodK_spec (c : Nat) (x : Int) (l : List Int) : ∀ m, goodK c x l m ≤ m ∧ okP c x l (goodK c x l m) = true ∧ ∀ k, k ≤ m → okP c x l k = true → k ≤ goodK c x l m
  | 0 => ⟨Nat.le_refl _, okP_zero _ _ _, fun k hk _ => hk⟩
  | m + 1 => by
    obtain ⟨h1, h2, h3⟩ := goodK_spec c x l m
    unfold goodK
    split
    · rename_i h; exact ⟨Nat.le_refl _, h, fun k hk _ => hk⟩
    · rename_i h
      refine ⟨by omega, h2, fun k hk hok => ?_⟩
      rcases Nat.lt_or_ge m k with hlt | hge
      · obtain rfl : k = m + 1 := by omega
        exact absurd hok h
      · exact h3 k hge hok
def goodM (c : Nat) (x : Int) (t v : List Int) : Nat := goodK c x (unB c x t (v.take (v.length / c * c))) (v.length / c) * c
theorem goodM_le {c : Nat} {x : Int} {t v : List Int} : goodM c x t v ≤ v.length := by
  have h1 := (goodK_spec c x (unB c x t (v.take (v.length / c * c))) (v.length / c)).1
  have h2 := Nat.mul_le_mul_right c h1
  have h3 := Nat.div_mul_le_self v.length c
  unfold goodM
  omega
theorem chk_all {x : Int} {l : List Int} (hx : half x ≠ 0) (hl : l.length ≤ 4000) : checkN x l = if l.all (inR x) then 0 else 16 := by
  unfold checkN
  rw [if_neg hx, if_neg (by omega)]

/-! ### verdict.check, sound -/

theorem verdict_check {P : Prg} {f fE t0 : Nat} (bd : Body P f 20 [.tmp 4] (ac_verdict_check fE t0)) (hE : S_ECheck P fE) : S_Ask21 P f := by
  intro c x n
  refine VC.of_acall (by simp [isDL, isD, shA]) rfl (ACall.of_body bd (by simp) ?_)
  have hE' := hE c x
  rw [shA] at hE'
  simp (maxSteps := 4000000) (disch := omega) only [step, stepv, ev, wl, wn, wp, wz, aop, cV, cV1, AV.one, partCells, okW, onlyFr, app, sliceCells, cellsAt, srcA, subA, eqFs, Int.cast_ofNat_Int, simprocAttr, ac_verdict_check, shA]
  refine callQ.vc hE' ?_
  rcases eCheck_cases c x with h1 | ⟨h1, h2, h3, h4⟩
  · have e9 : ask21 c x n = 2 := by simp [ask21, h1]
    simp (maxSteps := 4000000) (disch := omega) only [step, stepv, ev, wl, wn, wp, wz, aop, cV, cV1, AV.one, partCells, okW, onlyFr, app, sliceCells, cellsAt, srcA, subA, eqFs, Int.cast_ofNat_Int, simprocAttr, h1, e9]
  by_cases h5 : n < 1
  · have e9 : ask21 c x n = 2 := by simp [ask21, h5]
    simp (maxSteps := 4000000) (disch := omega) only [step, stepv, ev, wl, wn, wp, wz, aop, cV, cV1, AV.one, partCells, okW, onlyFr, app, sliceCells, cellsAt, srcA, subA, eqFs, Int.cast_ofNat_Int, simprocAttr, h1, e9]
  have ed : ((4000 : Int)).tdiv c = 4000 / c := Int.tdiv_eq_ediv_of_nonneg (by omega)
  have hc0 : c ≠ 0 := by omega
  have hd1 : 4000 / c ≤ 4000 := Int.ediv_le_self c (show (0 : Int) ≤ 4000 by omega)
  have hd0 : 0 ≤ 4000 / c := Int.ediv_nonneg (by omega) (by omega)
  have e9 : ask21 c x n = if 4000 / c < n then 2 else 0 := by simp [ask21, h1, h5]
  obtain ⟨q, hq⟩ : ∃ q, q = 4000 / c := ⟨_, rfl⟩
  rw [← hq] at hd0 hd1 ed e9
  have ed2 : (4000 : Int) / c = q := hq.symm
  clear hq
  by_cases h6 : q < n
  · rw [if_pos h6] at e9
    simp (maxSteps := 4000000) (disch := omega) only [step, stepv, ev, wl, wn, wp, wz, aop, cV, cV1, AV.one, partCells, okW, onlyFr, app, sliceCells, cellsAt, srcA, subA, eqFs, Int.cast_ofNat_Int, simprocAttr, h1, ed, ed2, hc0, e9]
  · rw [if_neg h6] at e9
    simp (maxSteps := 4000000) (disch := omega) only [step, stepv, ev, wl, wn, wp, wz, aop, cV, cV1, AV.one, partCells, okW, onlyFr, app, sliceCells, cellsAt, srcA, subA, eqFs, Int.cast_ofNat_Int, simprocAttr, h1, ed, ed2, hc0, e9]

def S_Sound (P : Prg) (f : Nat) : Prop := ∀ b : List UInt8, b.length ≤ 1000000 → VC P f [bs b] (.bool (decide (openM b = 0)))
theorem verdict_sound {P : Prg} {f fS fV : Nat} (bd : Body P f 43 [.tmp 2] (ac_verdict_sound fS fV)) (hS : S_CSum P fS) (hV : S_le_Value P fV) : S_Sound P f := by
  intro b hb
  refine VC.of_acall (by simp [isDL, isD_bs]) rfl (ACall.of_body bd (by simp) ?_)
  unfold openM
  by_cases h1 : b.length < 5
  · simp only [h1, if_true]
    simp (maxSteps := 4000000) (disch := omega) only [step, stepv, ev, wl, wn, wp, wz, aop, cV, cV1, AV.one, partCells, okW, onlyFr, app, sliceCells, cellsAt, srcA, subA, eqFs, Int.cast_ofNat_Int, simprocAttr, ac_verdict_sound, bs]
    try rfl
  simp only [h1, if_false]
  by_cases h2 : 41254 < b.length
  · simp only [h2, if_true]
    simp (maxSteps := 4000000) (disch := omega) only [step, stepv, ev, wl, wn, wp, wz, aop, cV, cV1, AV.one, partCells, okW, onlyFr, app, sliceCells, cellsAt, srcA, subA, eqFs, Int.cast_ofNat_Int, simprocAttr, ac_verdict_sound, bs]
    try rfl
  simp only [h2, if_false]
  have hS' := hS (b.take (b.length - 4))
  rw [if_neg (by simp; omega), ← sumM] at hS'
  have hl1 : (b.take (b.length - 4)).length = b.length - 4 := by simp
  have hl2 : (b.drop (b.length - 4)).length = 4 := by simp; omega
  have hs := sumM_lt (b.take (b.length - 4))
  have hV' := hV (b.drop (b.length - 4)) (by omega) (by omega)
  have tk : (u8 b).take (b.length - 4) = u8 (b.take (b.length - 4)) := by simp [u8, List.map_take]
  have dk : (u8 b).drop (b.length - 4) = u8 (b.drop (b.length - 4)) := by simp [u8, List.map_drop]
  simp only [bs, hl1, hl2] at hS' hV'
  have hpl : (u8 (b.take (b.length - 4))).length = b.length - 4 := by rw [u8_length, hl1]
  have hql : (u8 (b.drop (b.length - 4))).length = 4 := by rw [u8_length, hl2]
  have tq : (u8 (b.drop (b.length - 4))).take 4 = u8 (b.drop (b.length - 4)) := List.take_of_length_le (by omega)
  have hq : leN (b.drop (b.length - 4)) < 4294967296 := by
    have := leN_lt (b.drop (b.length - 4))
    rw [hl2] at this
    exact this
  generalize b.take (b.length - 4) = p at *
  generalize b.drop (b.length - 4) = q at *
  generalize sumM p = s at *
  generalize leN q = r at *
  have e0 : ((b.length : Int) - 4).toNat = b.length - 4 := by omega
  have e1 : ((b.length : Int) - ((b.length : Int) - 4)).toNat = 4 := by omega
  have e2 : b.length - 4 - 0 = b.length - 4 := by omega
  have e3 : b.length - (b.length - 4) = 4 := by omega
  simp (maxSteps := 4000000) (disch := omega) only [step, stepv, ev, wl, wn, wp, wz, aop, cV, cV1, AV.one, partCells, okW, onlyFr, app, sliceCells, cellsAt, srcA, subA, eqFs, Int.cast_ofNat_Int, simprocAttr, ac_verdict_sound, bs, tk, dk, e0, e1, e2, e3, tq]
  refine callQ.vc hS' ?_
  simp (maxSteps := 4000000) (disch := omega) only [step, stepv, ev, wl, wn, wp, wz, aop, cV, cV1, AV.one, partCells, okW, onlyFr, app, sliceCells, cellsAt, srcA, subA, eqFs, Int.cast_ofNat_Int, simprocAttr, tk, dk, e0, e1, e2, e3, tq]
  refine callQ.vc hV' ?_
  by_cases he : r = s
  · subst he
    simp (maxSteps := 4000000) (disch := omega) only [step, stepv, ev, wl, wn, wp, wz, aop, cV, cV1, AV.one, partCells, okW, onlyFr, app, sliceCells, cellsAt, srcA, subA, eqFs, Int.cast_ofNat_Int, simprocAttr]
  · have he' : (r : Int) ≠ s := by omega
    simp (maxSteps := 4000000) (disch := omega) only [step, stepv, ev, wl, wn, wp, wz, aop, cV, cV1, AV.one, partCells, okW, onlyFr, app, sliceCells, cellsAt, srcA, subA, eqFs, Int.cast_ofNat_Int, simprocAttr, he, he']
    try rfl

end Go.Am

namespace Go.Am
open Go.RowKit

/-! ### verdict.values -/

def vlsM : (Nat × List Nat) ⊕ (List Nat × Nat) → List Nat
  | .inl (_, o) => o
  | .inr (o, _) => o
def allV (b : List UInt8) (c n : Nat) : (Nat × List Nat) ⊕ (List Nat × Nat) := valsM (leN (b.take (b.length - 4))) (8 * (b.take (b.length - 4)).length) c (n * c) [] 0
def S_vVals (P : Prg) (f : Nat) : Prop := ∀ (b : List UInt8) (c n : Nat), 5 ≤ b.length → b.length ≤ 41254 → 1 ≤ c → c ≤ 6 → n * c ≤ 4000 → VC P f [.int .i64 c, .int .i64 n, bs b] (n32A (vlsM (allV b c n)))
set_option maxHeartbeats 2000000 in
theorem verdict_values {P : Prg} {f fS fO fC fR t0 t1 t2 t3 : Nat} (bd : Body P f 86 [.tmp 6] (ac_verdict_values fS fO fC fR t0 t1 t2 t3)) (hS : S_Start P fS) (hO : S_bOf P fO) (hC : S_Cut P fC) (hR : S_dRead P fR) : S_vVals P f := by
  intro b c n hb5 hb hc hc6 hnc
  refine VC.of_walk 1 (by simp [isDL, isD_bs, isD]) (isD_n32A _) (ACall.of_body bd (by simp) ?_)
  simp only [S_Start, startM, dlA, dlC] at hS
  have hn4 : n ≤ 4000 := by
    have : n * 1 ≤ n * c := Nat.mul_le_mul_left _ hc
    omega
  unfold allV
  have hpl : (b.take (b.length - 4)).length = b.length - 4 := by simp
  have hO' := hO (b.take (b.length - 4)) (by omega)
  have hVlt := leN_lt' (b.take (b.length - 4))
  have hbA := bA_of (b.take (b.length - 4))
  rw [ofA, if_neg (by omega)] at hO'
  have tkb : (u8 b).take (b.length - 4) = u8 (b.take (b.length - 4)) := by simp [u8, List.map_take]
  have n5 : b.length - 4 - 0 = b.length - 4 := by omega
  obtain ⟨N, hN0⟩ : ∃ N, N = 8 * (b.take (b.length - 4)).length := ⟨_, rfl⟩
  rw [← hN0] at hO' hVlt hbA ⊢
  rw [bs, hpl] at hO'
  have hN : N ≤ 330000 := by omega
  generalize hp : b.take (b.length - 4) = p at *
  generalize leN p = V at *
  have hV : V < 2 ^ N := hVlt
  have tu : isTL (u8 (leB V (nB N))) = true := isT_u8 _
  obtain ⟨T, hT⟩ : ∃ T, T = n * c := ⟨_, rfl⟩
  obtain ⟨R, hR0⟩ : ∃ R, R = valsM V N c (n * c) [] 0 := ⟨_, rfl⟩
  have eT : (n : Int) * c = (T : Int) := by rw [hT]; simp
  rw [← hR0]
  rw [bA] at hO'
  simp (maxSteps := 4000000) (disch := omega) only [step, stepv, ev, wl, wn, wp, wz, aop, cV, cV1, AV.one, partCells, okW, onlyFr, app, sliceCells, cellsAt, srcA, subA, eqFs, Int.cast_ofNat_Int, simprocAttr, ac_verdict_values, bs]
  refine ALoop.by (ι := Nat) (fun i => ⟨[(19, .int .i64 i), (7, .ref 0 1 0), (6, .emp true), (0, .int .i64 c), (1, .int .i64 n), (2, .list b.length (u8 b))],
      [⟨t0, 24, 1, sixD (fun j => if j < i then startM else ⟨0, 0, 0, 0⟩), 0⟩]⟩) (fun i => i ≤ 6) (fun i => 6 - i) 0 (Le.slots (by simp [Am.look])) (by omega) ?_
  intro i hi
  by_cases hlt : i < 6
  · have e1 := sixD_set (fun j => if j < i then startM else ⟨0, 0, 0, 0⟩) hlt startM
    have e2 : updD (fun j => if j < i then startM else ⟨0, 0, 0, 0⟩) i startM = fun j => if j < i + 1 then startM else ⟨0, 0, 0, 0⟩ := by
      funext j
      unfold updD
      by_cases h1 : j = i
      · subst h1; simp
      · by_cases h2 : j < i
        · simp [h1, h2, show j < i + 1 by omega]
        · simp [h1, h2, show ¬ j < i + 1 by omega]
    rw [e2] at e1
    have e3 := sixD_len (fun j => if j < i then startM else ⟨0, 0, 0, 0⟩)
    simp (maxSteps := 4000000) (disch := omega) only [step, stepv, ev, wl, wn, wp, wz, aop, cV, cV1, AV.one, partCells, okW, onlyFr, app, sliceCells, cellsAt, srcA, subA, eqFs, Int.cast_ofNat_Int, simprocAttr]
    refine callQ.vc hS ?_
    generalize hF : sixD (fun j => if j < i then startM else ⟨0, 0, 0, 0⟩) = F at *
    have e1' : F.take (i * 4) ++ [.int .i64 10, .int .i64 10, .int .u64 16384, .int .u64 16384] ++ F.drop (i * 4 + 4) = sixD fun j => if j < i + 1 then startM else ⟨0, 0, 0, 0⟩ := e1
    simp (maxSteps := 4000000) (disch := omega) only [step, stepv, ev, wl, wn, wp, wz, aop, cV, cV1, AV.one, partCells, okW, onlyFr, app, sliceCells, cellsAt, srcA, subA, eqFs, Int.cast_ofNat_Int, simprocAttr, e3]
    refine ⟨i + 1, by omega, by omega, ?_⟩
    rw [e1']
    exact Le.slots (by simp [Am.look])
  obtain rfl : i = 6 := by omega
  have hk0 : ∀ o : List Nat, (ks .u32 (o.map fun n : Nat => (n : Int))).length = o.length := fun o => by simp [ks]
  simp (maxSteps := 4000000) (disch := omega) only [step, stepv, ev, wl, wn, wp, wz, aop, cV, cV1, AV.one, partCells, okW, onlyFr, app, sliceCells, cellsAt, srcA, subA, eqFs, Int.cast_ofNat_Int, simprocAttr, tkb, n5]
  refine callQ.vc hO' ?_
  simp (maxSteps := 4000000) (disch := omega) only [step, stepv, ev, wl, wn, wp, wz, aop, cV, cV1, AV.one, partCells, okW, onlyFr, app, sliceCells, cellsAt, srcA, subA, eqFs, Int.cast_ofNat_Int, simprocAttr, eT]
  refine ALoop.byP [0, 0, 1, 2, 0, 0, 0, 0, 0] (ι := Nat × List Nat × Nat) (fun s => ⟨[(40, .int .i64 s.1), (39, .int .i64 T), (12, .int .i64 s.2.2), (11, .own 2 s.2.1.length), (9, .ref 1 1 0), (7, .ref 0 1 0), (0, .int .i64 c)],
      [⟨t0, 24, 1, sixD (fun j => if j < c then chanM c j s.2.1 else startM), 0⟩, ⟨t1, 2, 1, [.list (nB N) (u8 (leB V (nB N))), .int .i64 N], 0⟩, ⟨t3, 1, s.2.1.length, ks .u32 (s.2.1.map fun n : Nat => (n : Int)), 0⟩]⟩)
    (fun s => s.1 ≤ T ∧ s.2.1.length = s.1 ∧ s.2.2 ≤ N ∧ N32 s.2.1 ∧ valsM V N c (T - s.1) s.2.1 s.2.2 = R) (fun s => T - s.1) (0, [], 0) ?_ ⟨Nat.zero_le _, rfl, Nat.zero_le _, fun x hx => (by simp at hx), (by rw [hR0, hT]; rfl)⟩ ?_
  · have z1 : sixD (fun j => if j < 6 then startM else ⟨0, 0, 0, 0⟩) = sixD (fun _ => startM) := rfl
    have z2 : (fun j => if j < c then chanM c j [] else startM) = fun _ => startM := by
      funext j
      split <;> rfl
    simp only [z2]
    rw [z1]
    exact Le.trans (Le.virt 11 t3 1 (by decide) rfl) (Le.slots (by simp [Am.look]))
  rintro ⟨k, out, a⟩ ⟨h1, h2, h3, h4, h5⟩
  simp only at h1 h2 h3 h4 h5 ⊢
  by_cases hlt : k < T
  · obtain ⟨r, hr⟩ : ∃ r, r = k % c := ⟨_, rfl⟩
    have hrc : r < c := by rw [hr]; exact Nat.mod_lt _ (by omega)
    have e1 : (k : Int) % c = (r : Int) := by rw [hr]; simp [Int.natCast_emod]
    have e1' : ((k : Int)).tmod (c : Int) = (r : Int) := by rw [Int.tmod_eq_emod_of_nonneg (by omega), e1]
    have hc0 : (c : Int) ≠ 0 := by omega
    obtain ⟨b', hb'⟩ : ∃ b, b = min (a + 81) N := ⟨_, rfl⟩
    have e2 : (if (N : Int) < (a : Int) + 81 then (N : Int) else (a : Int) + 81) = (b' : Int) := by split <;> omega
    have hpn : b' - a = prtN N a := by rw [hb']; rfl
    have hC' : VC P fC [bA N V, .int .i64 a, .int .i64 b'] (.tup [bA (prtN N a) (prtV V N a), .int .i64 0]) := by
      have := hC N V a b' hV hN (by omega) (by omega)
      rw [hpn] at this
      exact this
    have hpl' : prtN N a ≤ 81 := by unfold prtN; omega
    have hd := chan_ok (c := c) (r := r) h4
    have hR' := hR (prtN N a) (prtV V N a) 0 (chanM c r out) (prtV_lt V N a) (by omega) (by omega) hd
    obtain ⟨rest, hg⟩ := sixD_get (fun j => if j < c then chanM c j out else startM) (j := r) (by omega)
    simp only [hrc, if_true] at hg
    have hst := fun d => sixD_set (fun j => if j < c then chanM c j out else startM) (j := r) (by omega) d
    have hln := sixD_len (fun j => if j < c then chanM c j out else startM)
    have hupd : ∀ v : Nat, updD (fun j => if j < c then chanM c j out else startM) r (learnM (chanM c r out) v) = fun j => if j < c then chanM c j (out ++ [v]) else startM := by
      intro v
      funext j
      unfold updD
      by_cases hj : j = r
      · subst hj
        rw [if_pos rfl, if_pos hrc, chan_snoc, if_pos (by rw [h2, hr])]
      · rw [if_neg hj]
        by_cases hjc : j < c
        · simp only [hjc, if_true]
          rw [chan_snoc, if_neg (by rw [h2, ← hr]; exact fun e => hj e.symm)]
        · simp only [hjc, if_false]
    have hkT : T - k = (T - k - 1) + 1 := by omega
    rw [hkT, valsM, h2, ← hr] at h5
    have hgl := fun v nx (h : gotM (prtV V N a) (prtN N a) 0 (chanM c r out) = .inr (v, nx)) => got_lt hd h
    have hge := fun e (h : gotM (prtV V N a) (prtN N a) 0 (chanM c r out) = .inl e) => got_err h
    have hpN : prtN N a ≤ N - a := by unfold prtN; omega
    simp only [bA] at hC' hR'
    have hk1 := hk0 out
    have tk : isTL (ks .u32 (out.map fun n : Nat => (n : Int))) = true := isTL_ks _ _
    cases hgm : gotM (prtV V N a) (prtN N a) 0 (chanM c r out) with
    | inl e =>
      have he := hge e hgm
      rw [hgm] at hR' h5
      simp only at h5
      have he0 : (e : Int) ≠ 0 := by omega
      rw [← h5, vlsM, n32A, u32L, List.length_map]
      generalize sixD (fun j => if j < c then chanM c j out else startM) = F at *
      generalize chanM c r out = d at *
      obtain ⟨d0, d1, d2, d3⟩ := d
      simp only [dlA, dlC, drA] at hR'
      simp only at hg
      simp (maxSteps := 4000000) (disch := omega) only [step, stepv, ev, wl, wn, wp, wz, aop, cV, cV1, AV.one, partCells, okW, onlyFr, app, sliceCells, cellsAt, srcA, subA, eqFs, Int.cast_ofNat_Int, simprocAttr, cutp, e2]
      refine callQ.vc hC' ?_
      simp (maxSteps := 4000000) (disch := omega) only [step, stepv, ev, wl, wn, wp, wz, aop, cV, cV1, AV.one, partCells, okW, onlyFr, app, sliceCells, cellsAt, srcA, subA, eqFs, Int.cast_ofNat_Int, simprocAttr, cutp, e1, e1', hc0, hg, hln]
      refine callD.vc hR' ?_
      simp (maxSteps := 4000000) (disch := omega) only [step, stepv, ev, wl, wn, wp, wz, aop, cV, cV1, AV.one, partCells, okW, onlyFr, app, sliceCells, cellsAt, srcA, subA, eqFs, Int.cast_ofNat_Int, simprocAttr, cutp, h2]
      simp [frzN, frzK, frzL, frzV, h2, frzL_T _ tk]
    | inr w =>
      obtain ⟨v, nx⟩ := w
      obtain ⟨v1, v2⟩ := hgl v nx hgm
      rw [hgm] at hR' h5
      simp only at h5
      have hset := hst (learnM (chanM c r out) v)
      rw [hupd v] at hset
      have tF := isTL_sixD (fun j => if j < c then chanM c j out else startM)
      generalize hFF : sixD (fun j => if j < c then chanM c j out else startM) = F at *
      generalize chanM c r out = d at *
      obtain ⟨d0, d1, d2, d3⟩ := d
      simp only [drA] at hR'
      generalize learnM ⟨d0, d1, d2, d3⟩ v = d' at *
      obtain ⟨m0, m1, m2, m3⟩ := d'
      simp only [dlA, dlC] at hR'
      simp only at hg hset
      simp (maxSteps := 4000000) (disch := omega) only [step, stepv, ev, wl, wn, wp, wz, aop, cV, cV1, AV.one, partCells, okW, onlyFr, app, sliceCells, cellsAt, srcA, subA, eqFs, Int.cast_ofNat_Int, simprocAttr, cutp, e2]
      refine callQ.vc hC' ?_
      simp (maxSteps := 4000000) (disch := omega) only [step, stepv, ev, wl, wn, wp, wz, aop, cV, cV1, AV.one, partCells, okW, onlyFr, app, sliceCells, cellsAt, srcA, subA, eqFs, Int.cast_ofNat_Int, simprocAttr, cutp, e1, e1', hc0, hg, hln]
      refine callD.vc hR' ?_
      simp (maxSteps := 4000000) (disch := omega) only [step, stepv, ev, wl, wn, wp, wz, aop, cV, cV1, AV.one, partCells, okW, onlyFr, app, sliceCells, cellsAt, srcA, subA, eqFs, Int.cast_ofNat_Int, simprocAttr, cutp, e1, e1', hc0, hg, hln, hk1, h2]
      refine ⟨⟨[(13, .int .i64 k), (0, .int .i64 c), (11, .own 2 k), (16, .int .u32 v), (12, .int .i64 a), (17, .int .i64 nx), (18, .cell [.int .i64 m0, .int .i64 m1, .int .u64 m2, .int .u64 m3]), (7, .ref 0 1 0), (9, .ref 1 1 0), (39, .int .i64 T), (40, .int .i64 k)],
        [⟨t0, 24, 1, F, 0⟩, ⟨t1, 2, 1, [.list (nB N) (u8 (leB V (nB N))), .int .i64 N], 0⟩, ⟨t3, 1, k, ks .u32 (out.map fun n : Nat => (n : Int)), 0⟩]⟩,
        Le.dropT [_, _, _] (by simp [tF, isTL_ks, isTL, isT, isT_u8]) (by simp [Am.look, frzK, frzL, frzV]), ?_⟩
      simp (maxSteps := 4000000) (disch := omega) only [step, stepv, ev, wl, wn, wp, wz, aop, cV, cV1, AV.one, partCells, okW, onlyFr, app, sliceCells, cellsAt, srcA, subA, eqFs, Int.cast_ofNat_Int, simprocAttr, e1, e1', hc0, hg, hln, hk1, h2]
      have hap : ks .u32 (out.map fun n : Nat => (n : Int)) ++ [.int .u32 (v : Int)] = ks .u32 ((out ++ [v]).map fun n : Nat => (n : Int)) := by simp [ks]
      have hol : (out ++ [v]).length = k + 1 := by simp [h2]
      refine ⟨(k + 1, out ++ [v], a + nx), ⟨by omega, hol, by simp only; omega, fun x hx => ?_, ?_⟩, by simp only; omega, ?_⟩
      · rcases List.mem_append.1 hx with h | h
        · exact h4 x h
        · simp at h; subst h; exact v1
      · simp only
        rw [show T - (k + 1) = T - k - 1 by omega]
        exact h5
      · simp only [hol]
        rw [hset, hap]
        exact Le.dropT [_, _, _] (by simp [isTL_sixD, isTL_ks, isTL, isT, isT_u8]) (by simp [Am.look, frzK, frzL, frzV])
  · obtain rfl : k = T := by omega
    rw [Nat.sub_self, valsM] at h5
    rw [← h5, vlsM, n32A, u32L, List.length_map]
    simp (maxSteps := 4000000) (disch := omega) only [step, stepv, ev, wl, wn, wp, wz, aop, cV, cV1, AV.one, partCells, okW, onlyFr, app, sliceCells, cellsAt, srcA, subA, eqFs, Int.cast_ofNat_Int, simprocAttr, cutp]
    simp [frzN, frzK, frzL, frzV, frzL_T _ (isTL_ks _ _)]

end Go.Am

namespace Go.Am
open Go.RowKit

/-! ### verdict.good -/

theorem U32_take {v : List Int} (h : U32 v) (k : Nat) : U32 (v.take k) := fun x hx => h x (List.mem_of_mem_take hx)
theorem mod_mul (m c : Nat) : (m * c) % c = 0 := Nat.mul_mod_left m c
theorem df_take {c k : Nat} {x : Int} {t v : List Int} (hc : 1 ≤ c) (hc6 : c ≤ 6) (hx : half x ≠ 0) (hk : 1 ≤ k) (hkl : k ≤ v.length / c) (hl : v.length ≤ 4000) :
    ∃ m : List Int, dfA c x t (v.take (k * c)) = .tup [il m, .int .i64 (if okP c x (unB c x t (v.take (v.length / c * c))) k then 0 else 16)] := by
  have h2 : v.length / c * c ≤ v.length := Nat.div_mul_le_self _ _
  have h3 : k * c ≤ v.length / c * c := Nat.mul_le_mul_right c hkl
  have h0 : 0 < k * c := Nat.mul_pos hk hc
  have h1 : (v.take (k * c)).length = k * c := by simp; omega
  have hE : eCheck c x = 0 := by unfold eCheck; rw [if_neg (by omega)]
  have e1 : v.take (k * c) = (v.take (v.length / c * c)).take (k * c) := by rw [List.take_take, Nat.min_eq_left h3]
  have e2 : unB c x t (v.take (k * c)) = (unB c x t (v.take (v.length / c * c))).take (k * c) := by
    rw [e1]; exact unB_take hc (by simp; omega)
  have hz : ((v.take (k * c)).length : Int) % (c : Int) = 0 := by
    rw [h1, ← Int.natCast_emod, mod_mul]; rfl
  rw [df_ok hE (by omega) (by omega), rngA, chk_all hx (by rw [unB_len]; omega), e2]
  unfold okP
  split
  · rename_i h
    exact ⟨_, rfl⟩
  · rename_i h
    exact ⟨[], rfl⟩

def S_vGood (P : Prg) (f : Nat) : Prop := ∀ (c : Nat) (x : Int) (t v : List Int), 1 ≤ c → c ≤ 6 → half x ≠ 0 → t.length = 16 → I32 t → v.length ≤ 4000 → U32 v → VC P f [shA c x, .agg (ks .i32 t), u32L v] (.int .i64 (goodM c x t v : Nat))
set_option maxHeartbeats 1000000 in
theorem verdict_good {P : Prg} {f fS t0 t1 : Nat} (bd : Body P f 46 [.tmp 6] (ac_verdict_good fS t0 t1)) (hS : S_DSamples P fS) : S_vGood P f := by
  intro c x t v hc hc6 hx ht hI hl hV
  refine VC.of_acall (by simp [isDL, isD, isD_u32L, isDL_ks, shA]) rfl (ACall.of_body bd (by simp) ?_)
  have hk : (ks .i32 t).length = 16 := by simp [ks_length, ht]
  have tt : (ks .i32 t).take 16 = ks .i32 t := take_all (by omega)
  have ot := ks_one .i32 t
  have hc0 : (c : Int) ≠ 0 := by omega
  obtain ⟨G, hG⟩ : ∃ G, G = goodK c x (unB c x t (v.take (v.length / c * c))) (v.length / c) := ⟨_, rfl⟩
  obtain ⟨g1, g2, g3⟩ := goodK_spec c x (unB c x t (v.take (v.length / c * c))) (v.length / c)
  rw [← hG] at g1 g2 g3
  have hgm : goodM c x t v = G * c := by rw [goodM, ← hG]
  rw [hgm]
  have hdf := fun k (h1 : 1 ≤ k) (h2 : k ≤ v.length / c) => df_take (t := t) hc hc6 hx h1 h2 hl
  have hmon := fun j k (h : okP c x (unB c x t (v.take (v.length / c * c))) k = true) (hj : j ≤ k) => okP_mono h hj
  have hml : ∀ k, k ≤ v.length / c → k * c ≤ v.length := fun k hkl => Nat.le_trans (Nat.mul_le_mul_right c hkl) (Nat.div_mul_le_self _ _)
  have hm4 : v.length / c ≤ v.length := Nat.div_le_self _ _
  have eM : (v.length : Int) / (c : Int) = ((v.length / c : Nat) : Int) := by simp
  have eM2 : (v.length : Int).tdiv (c : Int) = ((v.length / c : Nat) : Int) := by rw [Int.tdiv_eq_ediv_of_nonneg (by omega), eM]
  obtain ⟨M, hM⟩ : ∃ M, M = v.length / c := ⟨_, rfl⟩
  rw [← hM] at g1 g2 g3 hdf hml hm4 eM eM2 hmon hG
  generalize unB c x t (v.take (M * c)) = z at *
  clear hM hG hgm
  simp (maxSteps := 4000000) (disch := omega) only [step, stepv, ev, wl, wn, wp, wz, aop, cV, cV1, AV.one, partCells, okW, onlyFr, app, sliceCells, cellsAt, srcA, subA, eqFs, Int.cast_ofNat_Int, simprocAttr, ac_verdict_good, shA, u32L, hk, tt, ot, hc0, eM, eM2]
  refine ALoop.by (ι := Nat × Nat) (fun s => ⟨[(7, .int .i64 s.1), (8, .int .i64 s.2), (4, .ref 1 1 0), (3, .ref 0 1 0), (2, .list v.length (ks .u32 v))], [⟨t0, 2, 1, [.int .i64 c, .int .i64 x], 0⟩, ⟨t1, 16, 1, ks .i32 t, 0⟩]⟩)
    (fun s => s.1 ≤ G ∧ G ≤ s.2 ∧ s.2 ≤ M) (fun s => s.2 - s.1) (0, M) (Le.slots (by simp [Am.look])) ⟨Nat.zero_le _, g1, Nat.le_refl _⟩ ?_
  rintro ⟨lo, hi⟩ ⟨h1, h2, h3⟩
  simp only at h1 h2 h3 ⊢
  by_cases hlt : lo < hi
  · obtain ⟨k, hk0⟩ : ∃ k, k = (lo + hi + 1) / 2 := ⟨_, rfl⟩
    have e0 : ((lo : Int) + hi + 1) / 2 = (k : Int) := by omega
    have e0' : ((lo : Int) + hi + 1).tdiv 2 = (k : Int) := by rw [Int.tdiv_eq_ediv_of_nonneg (by omega), e0]
    obtain ⟨m, hm⟩ := hdf k (by omega) (by omega)
    have hkc := hml k (by omega)
    have hS' := hS c x t (v.take (k * c)) ht hI (U32_take hV _)
    rw [hm, shA, u32L] at hS'
    have hl1 : (v.take (k * c)).length = k * c := by simp; omega
    rw [hl1] at hS'
    obtain ⟨K, hK⟩ : ∃ K, K = k * c := ⟨_, rfl⟩
    have eK : (k : Int) * c = (K : Int) := by rw [hK]; simp
    rw [← hK] at hS' hkc hl1
    have tk : (ks .u32 v).take K = ks .u32 (v.take K) := ks_take _ _ _
    have hlv : (ks .u32 v).length = v.length := ks_length _ _
    have n0 : K - 0 = K := by omega
    simp only [il] at hS'
    cases hok : okP c x z k with
    | true =>
      rw [hok] at hS'
      simp only [if_true] at hS'
      have hG' := g3 k (by omega) hok
      simp (maxSteps := 4000000) (disch := omega) only [step, stepv, ev, wl, wn, wp, wz, aop, cV, cV1, AV.one, partCells, okW, onlyFr, app, sliceCells, cellsAt, srcA, subA, eqFs, Int.cast_ofNat_Int, simprocAttr, e0, e0', eK, hk, tt, ot, tk, hlv, n0]
      refine callD.vc hS' ?_
      simp (maxSteps := 4000000) (disch := omega) only [step, stepv, ev, wl, wn, wp, wz, aop, cV, cV1, AV.one, partCells, okW, onlyFr, app, sliceCells, cellsAt, srcA, subA, eqFs, Int.cast_ofNat_Int, simprocAttr]
      exact ⟨(k, hi), ⟨hG', h2, h3⟩, by simp only; omega, Le.slots (by simp [Am.look])⟩
    | false =>
      rw [hok] at hS'
      simp only [Bool.false_eq_true, if_false] at hS'
      have hG' : G ≤ k - 1 := by
        rcases Nat.lt_or_ge G k with h | h
        · omega
        · have := hmon k G g2 h
          rw [hok] at this; cases this
      simp (maxSteps := 4000000) (disch := omega) only [step, stepv, ev, wl, wn, wp, wz, aop, cV, cV1, AV.one, partCells, okW, onlyFr, app, sliceCells, cellsAt, srcA, subA, eqFs, Int.cast_ofNat_Int, simprocAttr, e0, e0', eK, hk, tt, ot, tk, hlv, n0]
      refine callD.vc hS' ?_
      simp (maxSteps := 4000000) (disch := omega) only [step, stepv, ev, wl, wn, wp, wz, aop, cV, cV1, AV.one, partCells, okW, onlyFr, app, sliceCells, cellsAt, srcA, subA, eqFs, Int.cast_ofNat_Int, simprocAttr]
      exact ⟨(lo, k - 1), ⟨h1, hG', by simp only; omega⟩, by simp only; omega, Le.slots (by simp [Am.look]; omega)⟩
  · obtain rfl : lo = G := by omega
    have hkc := hml lo g1
    have eK : (lo : Int) * c = ((lo * c : Nat) : Int) := by simp
    obtain ⟨K, hK⟩ : ∃ K, K = lo * c := ⟨_, rfl⟩
    rw [← hK] at eK hkc ⊢
    simp (maxSteps := 4000000) (disch := omega) only [step, stepv, ev, wl, wn, wp, wz, aop, cV, cV1, AV.one, partCells, okW, onlyFr, app, sliceCells, cellsAt, srcA, subA, eqFs, Int.cast_ofNat_Int, simprocAttr, eK]

/-! ### verdict.Judge -/

def errV (V N c : Nat) (x : Int) (t : List Int) (w : (Nat × List Nat) ⊕ (List Nat × Nat)) : Int :=
  match w with
  | .inl (e, _) => e
  | .inr (o, a) => if restM V N a ≠ 0 then 12 else checkN x (unB c x t (iL o))
def errD (c x : Int) (t : List Int) (n : Int) (b : List UInt8) : Int :=
  if ask21 c x n ≠ 0 then 2 else if openM b ≠ 0 then (openM b : Nat) else
    errV (leN (b.take (b.length - 4))) (8 * (b.take (b.length - 4)).length) c.toNat x t (allV b c.toNat n.toNat)
theorem dec_form2 (c x n : Int) (t : List Int) (b : List UInt8) : ∃ m : List Int, decA c x t n b = .tup [il m, .int .i64 (errD c x t n b)] ∧ m.length ≤ 4000 := by
  unfold decA errD allV
  by_cases h1 : ask21 c x n = 0
  case neg => simp only [if_pos h1]; exact ⟨[], rfl, by simp⟩
  have a1 : ¬ (ask21 c x n ≠ 0) := by omega
  simp only [if_neg a1]
  by_cases h2 : openM b = 0
  case neg => simp only [if_pos h2]; exact ⟨[], rfl, by simp⟩
  have a2 : ¬ (openM b ≠ 0) := by omega
  simp only [if_neg a2]
  obtain ⟨_, c', n', rfl, rfl, q1, q2, q3, q4, q5⟩ := ask21_cases h1
  simp only [Int.toNat_natCast]
  generalize leN (b.take (b.length - 4)) = V
  generalize 8 * (b.take (b.length - 4)).length = N
  cases hw : valsM V N c' (n' * c') [] 0 with
  | inl w => exact ⟨[], rfl, by simp⟩
  | inr w =>
    obtain ⟨o, a⟩ := w
    obtain ⟨hv, ha, hol⟩ := okV_of q1 q2 q3 q4 hw
    simp only [decV, errV]
    by_cases h3 : restM V N a = 0
    · rw [if_neg (by omega), if_neg (by omega)]
      unfold rngA
      by_cases h4 : checkN x (unB c' x t (iL o)) = 0
      · rw [if_neg (by omega), h4]
        exact ⟨_, rfl, by rw [unB_len]; simp only [iL, List.length_map]; omega⟩
      · rw [if_pos h4]
        exact ⟨[], rfl, by simp⟩
    · rw [if_pos h3, if_pos h3]; exact ⟨[], rfl, by simp⟩
def judG (c x : Int) (t : List Int) (n : Int) (b : List UInt8) : Int :=
  if errD c x t n b = 0 then n * c else if openM b = 0 then (goodM c.toNat x t (iL (vlsM (allV b c.toNat n.toNat))) : Nat) else 0
def judA (c x : Int) (t : List Int) (n : Int) (b : List UInt8) : AV :=
  if ask21 c x n ≠ 0 then .tup [.agg [.int .i64 0, .int .i64 0], .int .i64 2] else .tup [.agg [.int .i64 (errD c x t n b), .int .i64 (judG c x t n b)], .int .i64 0]
theorem allV_ok {b : List UInt8} {c n : Nat} (hn : n * c ≤ 4000) : N32 (vlsM (allV b c n)) ∧ (vlsM (allV b c n)).length ≤ 4000 := by
  have hs := vals_spec (V := leN (b.take (b.length - 4))) (N := 8 * (b.take (b.length - 4)).length) (c := c) (n * c) [] 0 (Nat.zero_le _) (fun x hx => by simp at hx)
  unfold allV
  cases hw : valsM (leN (b.take (b.length - 4))) (8 * (b.take (b.length - 4)).length) c (n * c) [] 0 with
  | inl w =>
    obtain ⟨e, o⟩ := w
    obtain ⟨_, h2, h3⟩ := hs.1 e o hw
    rw [List.length_nil, Nat.zero_add] at h3
    exact ⟨h2, by simp only [vlsM]; omega⟩
  | inr w =>
    obtain ⟨o, a⟩ := w
    obtain ⟨h2, _, h3⟩ := hs.2 o a hw
    rw [List.length_nil, Nat.zero_add] at h3
    exact ⟨h2, by simp only [vlsM]; omega⟩
theorem U32_iL {o : List Nat} (h : N32 o) : U32 (iL o) := by
  intro x hx
  simp only [iL, List.mem_map] at hx
  obtain ⟨y, hy, rfl⟩ := hx
  have := h y hy
  omega
theorem errD_ask {c x n : Int} {t : List Int} {b : List UInt8} (h : ask21 c x n = 0) (h2 : errD c x t n b = 0) : openM b = 0 := by
  unfold errD at h2
  rw [if_neg (by omega)] at h2
  split at h2
  · omega
  · omega
def S_Judge (P : Prg) (f : Nat) : Prop := ∀ (c x n : Int) (t : List Int) (b : List UInt8), t.length = 16 → I32 t → b.length ≤ 1000000 → VC P f [shA c x, .agg (ks .i32 t), .int .i64 n, bs b] (judA c x t n b)
theorem isD_judA (c x : Int) (t : List Int) (n : Int) (b : List UInt8) : isD (judA c x t n b) = true := by unfold judA; split <;> rfl
set_option maxHeartbeats 1000000 in
theorem verdict_Judge {P : Prg} {f fC fD fS fV fG t0 t1 t2 : Nat} (bd : Body P f 52 [.cell 8 t2, .tmp 9] (ac_verdict_Judge fC fD fS fV fG t0 t1 t2)) (hC : S_Ask21 P fC) (hD : S_Decode P fD) (hS : S_Sound P fS) (hV : S_vVals P fV) (hG : S_vGood P fG) (ha : aggO P t2 = some (some 2)) : S_Judge P f := by
  intro c x n t b ht hI hb
  refine VC.of_acall (by simp [isDL, isD_bs, isDL_ks, isD, shA]) (isD_judA _ _ _ _ _) (ACall.of_body bd (by simp) ?_)
  have hC' := hC c x n
  have hD' := hD c x n t b ht hI hb
  have hS' := hS b hb
  have hk : (ks .i32 t).length = 16 := by simp [ks_length, ht]
  have tt : (ks .i32 t).take 16 = ks .i32 t := take_all (by omega)
  have ot := ks_one .i32 t
  rw [shA] at hC' hD'
  unfold judA
  by_cases h1 : ask21 c x n = 0
  case neg =>
    have h2 : ask21 c x n = 2 := by unfold ask21 at h1 ⊢; split <;> (try rfl); rename_i q; rw [if_neg q] at h1; split <;> (try rfl); rename_i q; rw [if_neg q] at h1; split <;> (try rfl); rename_i q; rw [if_neg q] at h1; omega
    rw [h2] at hC' ⊢
    simp only [bs]
    simp (maxSteps := 4000000) (disch := omega) only [step, stepv, ev, wl, wn, wp, wz, aop, cV, cV1, AV.one, partCells, okW, onlyFr, app, sliceCells, cellsAt, srcA, subA, eqFs, Int.cast_ofNat_Int, simprocAttr, ac_verdict_Judge, shA, hk, tt, ot]
    refine callQ.vc hC' ?_
    simp (maxSteps := 4000000) (disch := omega) only [step, stepv, ev, wl, wn, wp, wz, aop, cV, cV1, AV.one, partCells, okW, onlyFr, app, sliceCells, cellsAt, srcA, subA, eqFs, Int.cast_ofNat_Int, simprocAttr, resA, ha, oneOf]
  rw [if_neg (by omega)]
  obtain ⟨hE, c', n', rfl, rfl, q1, q2, q3, q4, q5⟩ := ask21_cases h1
  rw [h1] at hC'
  obtain ⟨m, hm, _⟩ := dec_form2 (c' : Int) x (n' : Int) t b
  rw [hm] at hD'
  have h0 := errD_ask (c := (c' : Int)) (n := (n' : Int)) (x := x) (t := t) (b := b) h1
  unfold judG
  simp only [bs, il, Int.toNat_natCast] at hD' hS' ⊢
  have eT : (n' : Int) * c' = ((n' * c' : Nat) : Int) := by simp
  obtain ⟨T, hT⟩ : ∃ T, T = n' * c' := ⟨_, rfl⟩
  rw [← hT] at eT
  by_cases h2 : errD c' x t n' b = 0
  · rw [if_pos h2, h2]
    rw [h2] at hD'
    rw [eT]
    simp (maxSteps := 4000000) (disch := omega) only [step, stepv, ev, wl, wn, wp, wz, aop, cV, cV1, AV.one, partCells, okW, onlyFr, app, sliceCells, cellsAt, srcA, subA, eqFs, Int.cast_ofNat_Int, simprocAttr, ac_verdict_Judge, shA, hk, tt, ot]
    refine callQ.vc hC' ?_
    simp (maxSteps := 4000000) (disch := omega) only [step, stepv, ev, wl, wn, wp, wz, aop, cV, cV1, AV.one, partCells, okW, onlyFr, app, sliceCells, cellsAt, srcA, subA, eqFs, Int.cast_ofNat_Int, simprocAttr, hk, tt, ot]
    refine callQ.vc hD' ?_
    simp (maxSteps := 4000000) (disch := omega) only [step, stepv, ev, wl, wn, wp, wz, aop, cV, cV1, AV.one, partCells, okW, onlyFr, app, sliceCells, cellsAt, srcA, subA, eqFs, Int.cast_ofNat_Int, simprocAttr, eT, resA, ha, oneOf]
  rw [if_neg h2]
  by_cases h3 : openM b = 0
  · rw [if_pos h3]
    have hbl : 5 ≤ b.length ∧ b.length ≤ 41254 := by
      unfold openM at h3
      split at h3
      · omega
      split at h3
      · omega
      · omega
    rw [h3] at hS'
    have hV' := hV b c' n' hbl.1 hbl.2 q1 q2 q4
    obtain ⟨a1, a2⟩ := allV_ok (b := b) (c := c') (n := n') q4
    have hG' := hG c' x t (iL (vlsM (allV b c' n'))) q1 q2 q5 ht hI (by simp only [iL, List.length_map]; exact a2) (U32_iL a1)
    have hgl := goodM_le (c := c') (x := x) (t := t) (v := iL (vlsM (allV b c' n')))
    rw [n32A] at hV'
    simp only [iL] at hG' hgl ⊢
    simp only [List.length_map] at hgl
    generalize vlsM (allV b c' n') = o at *
    generalize goodM c' x t (o.map fun n : Nat => (n : Int)) = g at *
    generalize errD c' x t n' b = e at *
    simp only [bs, u32L, shA, List.length_map] at hV' hG'
    simp (maxSteps := 4000000) (disch := omega) only [step, stepv, ev, wl, wn, wp, wz, aop, cV, cV1, AV.one, partCells, okW, onlyFr, app, sliceCells, cellsAt, srcA, subA, eqFs, Int.cast_ofNat_Int, simprocAttr, ac_verdict_Judge, shA, hk, tt, ot]
    refine callQ.vc hC' ?_
    simp (maxSteps := 4000000) (disch := omega) only [step, stepv, ev, wl, wn, wp, wz, aop, cV, cV1, AV.one, partCells, okW, onlyFr, app, sliceCells, cellsAt, srcA, subA, eqFs, Int.cast_ofNat_Int, simprocAttr, hk, tt, ot]
    refine callQ.vc hD' ?_
    simp (maxSteps := 4000000) (disch := omega) only [step, stepv, ev, wl, wn, wp, wz, aop, cV, cV1, AV.one, partCells, okW, onlyFr, app, sliceCells, cellsAt, srcA, subA, eqFs, Int.cast_ofNat_Int, simprocAttr]
    refine callQ.vc hS' ?_
    simp (maxSteps := 4000000) (disch := omega) only [step, stepv, ev, wl, wn, wp, wz, aop, cV, cV1, AV.one, partCells, okW, onlyFr, app, sliceCells, cellsAt, srcA, subA, eqFs, Int.cast_ofNat_Int, simprocAttr, hk, tt, ot]
    refine callD.vc hV' ?_
    simp (maxSteps := 4000000) (disch := omega) only [step, stepv, ev, wl, wn, wp, wz, aop, cV, cV1, AV.one, partCells, okW, onlyFr, app, sliceCells, cellsAt, srcA, subA, eqFs, Int.cast_ofNat_Int, simprocAttr, hk, tt, ot]
    refine callD.vc hG' ?_
    simp (maxSteps := 4000000) (disch := omega) only [step, stepv, ev, wl, wn, wp, wz, aop, cV, cV1, AV.one, partCells, okW, onlyFr, app, sliceCells, cellsAt, srcA, subA, eqFs, Int.cast_ofNat_Int, simprocAttr, resA, ha, oneOf]
  · rw [if_neg h3]
    have hS'' : VC P fS [.list b.length (u8 b)] (.bool false) := by
      rw [decide_eq_false h3] at hS'; exact hS'
    generalize errD c' x t n' b = e at *
    simp (maxSteps := 4000000) (disch := omega) only [step, stepv, ev, wl, wn, wp, wz, aop, cV, cV1, AV.one, partCells, okW, onlyFr, app, sliceCells, cellsAt, srcA, subA, eqFs, Int.cast_ofNat_Int, simprocAttr, ac_verdict_Judge, shA, hk, tt, ot]
    refine callQ.vc hC' ?_
    simp (maxSteps := 4000000) (disch := omega) only [step, stepv, ev, wl, wn, wp, wz, aop, cV, cV1, AV.one, partCells, okW, onlyFr, app, sliceCells, cellsAt, srcA, subA, eqFs, Int.cast_ofNat_Int, simprocAttr, hk, tt, ot]
    refine callQ.vc hD' ?_
    simp (maxSteps := 4000000) (disch := omega) only [step, stepv, ev, wl, wn, wp, wz, aop, cV, cV1, AV.one, partCells, okW, onlyFr, app, sliceCells, cellsAt, srcA, subA, eqFs, Int.cast_ofNat_Int, simprocAttr]
    refine callQ.vc hS'' ?_
    simp (maxSteps := 4000000) (disch := omega) only [step, stepv, ev, wl, wn, wp, wz, aop, cV, cV1, AV.one, partCells, okW, onlyFr, app, sliceCells, cellsAt, srcA, subA, eqFs, Int.cast_ofNat_Int, simprocAttr, resA, ha, oneOf]

end Go.Am

namespace Go.Am
open Go.RowKit

theorem ask_two {c x n : Int} (h1 : ask21 c x n ≠ 0) : ask21 c x n = 2 := by
  unfold ask21 at h1 ⊢
  split
  · rfl
  rename_i q
  rw [if_neg q] at h1
  split
  · rfl
  rename_i q
  rw [if_neg q] at h1
  split
  · rfl
  rename_i q
  rw [if_neg q] at h1
  omega

/-! ### Silence, Heal -/

def silL (c n : Int) : List Int := List.replicate (n.toNat * c.toNat) 0
def silA (c x n : Int) : AV := if ask21 c x n ≠ 0 then erA 2 else .tup [il (silL c n), .int .i64 0]
theorem isD_silA (c x n : Int) : isD (silA c x n) = true := by unfold silA; split <;> simp [isD, isDL, isD_il, erA]
def S_Silence (P : Prg) (f : Nat) : Prop := ∀ c x n : Int, VC P f [shA c x, .int .i64 n] (silA c x n)
theorem sil_ks (N : Nat) : repCells [.int .i32 0] N = ks .i32 (List.replicate N 0) := rep_ks _ N

theorem verdict_Silence {P : Prg} {f fC t0 t1 : Nat} (bd : Body P f 18 [.tmp 4, .tmp 5] (ac_verdict_Silence fC t0 t1)) (hC : S_Ask21 P fC) : S_Silence P f := by
  intro c x n
  refine VC.of_walk 1 (by simp [isDL, isD, shA]) (isD_silA _ _ _) (ACall.of_body bd (by simp) ?_)
  have hC' := hC c x n
  rw [shA] at hC'
  unfold silA
  by_cases h1 : ask21 c x n = 0
  case neg =>
    rw [if_pos h1, erA]
    rw [ask_two h1] at hC'
    simp (maxSteps := 4000000) (disch := omega) only [step, stepv, ev, wl, wn, wp, wz, aop, cV, cV1, AV.one, partCells, okW, onlyFr, app, sliceCells, cellsAt, srcA, subA, eqFs, Int.cast_ofNat_Int, simprocAttr, ac_verdict_Silence, shA]
    refine callQ.vc hC' ?_
    simp (maxSteps := 4000000) (disch := omega) only [step, stepv, ev, wl, wn, wp, wz, aop, cV, cV1, AV.one, partCells, okW, onlyFr, app, sliceCells, cellsAt, srcA, subA, eqFs, Int.cast_ofNat_Int, simprocAttr]
    simp [frzN, frzK, frzL, frzV]
  rw [if_neg (by omega)]
  obtain ⟨hE, c', n', rfl, rfl, q1, q2, q3, q4, q5⟩ := ask21_cases h1
  rw [h1] at hC'
  unfold silL
  simp only [Int.toNat_natCast]
  have eT : (n' : Int) * c' = ((n' * c' : Nat) : Int) := by simp
  have hp : 0 < n' * c' := Nat.mul_pos q3 q1
  obtain ⟨T, hT⟩ : ∃ T, T = n' * c' := ⟨_, rfl⟩
  rw [← hT] at eT hp q4 ⊢
  have er := sil_ks T
  have tl : isTL (ks .i32 (List.replicate T 0)) = true := isTL_ks _ _
  simp (maxSteps := 4000000) (disch := omega) only [step, stepv, ev, wl, wn, wp, wz, aop, cV, cV1, AV.one, partCells, okW, onlyFr, app, sliceCells, cellsAt, srcA, subA, eqFs, Int.cast_ofNat_Int, simprocAttr, ac_verdict_Silence, shA]
  refine callQ.vc hC' ?_
  simp (maxSteps := 4000000) (disch := omega) only [step, stepv, ev, wl, wn, wp, wz, aop, cV, cV1, AV.one, partCells, okW, onlyFr, app, sliceCells, cellsAt, srcA, subA, eqFs, Int.cast_ofNat_Int, simprocAttr, eT, er]
  simp [frzN, frzK, frzL, frzV, il, er, frzL_T _ tl]

def decL (c x : Int) (t : List Int) (n : Int) (b : List UInt8) : List Int := if errD c x t n b = 0 then unB c.toNat x t (iL (vlsM (allV b c.toNat n.toNat))) else []
theorem dec_eq (c x n : Int) (t : List Int) (b : List UInt8) : decA c x t n b = .tup [il (decL c x t n b), .int .i64 (errD c x t n b)] ∧ (decL c x t n b).length ≤ 4000 := by
  unfold decA decL errD allV
  by_cases h1 : ask21 c x n = 0
  case neg => simp only [if_pos h1]; exact ⟨rfl, by simp⟩
  have a1 : ¬ (ask21 c x n ≠ 0) := by omega
  simp only [if_neg a1]
  by_cases h2 : openM b = 0
  case neg =>
    have h2' : ((openM b : Nat) : Int) ≠ 0 := by omega
    simp only [if_pos h2, if_neg h2']
    exact ⟨rfl, by simp⟩
  have a2 : ¬ (openM b ≠ 0) := by omega
  simp only [if_neg a2]
  obtain ⟨_, c', n', rfl, rfl, q1, q2, q3, q4, q5⟩ := ask21_cases h1
  simp only [Int.toNat_natCast]
  have hs := vals_spec (V := leN (b.take (b.length - 4))) (N := 8 * (b.take (b.length - 4)).length) (c := c') (n' * c') [] 0 (Nat.zero_le _) (fun x hx => by simp at hx)
  generalize leN (b.take (b.length - 4)) = V at *
  generalize 8 * (b.take (b.length - 4)).length = N at *
  cases hw : valsM V N c' (n' * c') [] 0 with
  | inl w =>
    obtain ⟨e, o⟩ := w
    have he := (hs.1 e o hw).1
    have he0 : ¬ ((e : Int) = 0) := by omega
    have he2 : ¬ (errV V N c' x t (.inl (e, o)) = 0) := he0
    rw [if_neg he2]
    exact ⟨rfl, by simp⟩
  | inr w =>
    obtain ⟨o, a⟩ := w
    obtain ⟨hv, ha, hol⟩ := okV_of q1 q2 q3 q4 hw
    simp only [decV, errV, vlsM]
    by_cases h3 : restM V N a = 0
    · have a3 : ¬ (restM V N a ≠ 0) := by omega
      simp only [if_neg a3]
      unfold rngA
      by_cases h4 : checkN x (unB c' x t (iL o)) = 0
      · have a4 : ¬ (checkN x (unB c' x t (iL o)) ≠ 0) := by omega
        simp only [if_neg a4, if_pos h4]
        rw [h4]
        exact ⟨rfl, by rw [unB_len]; simp only [iL, List.length_map]; omega⟩
      · simp only [if_pos h4, if_neg h4]
        exact ⟨rfl, by simp⟩
    · have a5 : ¬ ((12 : Int) = 0) := by omega
      simp only [if_pos h3, if_neg a5]
      exact ⟨rfl, by simp⟩
def heaA (c x : Int) (t : List Int) (n : Int) (b : List UInt8) : AV :=
  if ask21 c x n ≠ 0 then .tup [.list 0 [], .bool false, .int .i64 2] else if errD c x t n b = 0 then .tup [il (decL c x t n b), .bool true, .int .i64 0] else .tup [il (silL c n), .bool false, .int .i64 0]
theorem isD_heaA (c x : Int) (t : List Int) (n : Int) (b : List UInt8) : isD (heaA c x t n b) = true := by unfold heaA; split <;> (try split) <;> simp [isD, isDL, isD_il]
def S_Heal (P : Prg) (f : Nat) : Prop := ∀ (c x n : Int) (t : List Int) (b : List UInt8), t.length = 16 → I32 t → b.length ≤ 1000000 → VC P f [shA c x, .agg (ks .i32 t), .int .i64 n, bs b] (heaA c x t n b)
theorem verdict_Heal {P : Prg} {f fC fD fS t0 t1 : Nat} (bd : Body P f 41 [.tmp 8, .tmp 9, .tmp 10] (ac_verdict_Heal fC fD fS t0 t1)) (hC : S_Ask21 P fC) (hD : S_Decode P fD) (hS : S_Silence P fS) : S_Heal P f := by
  intro c x n t b ht hI hb
  refine VC.of_walk 1 (by simp [isDL, isD_bs, isDL_ks, isD, shA]) (isD_heaA _ _ _ _ _) (ACall.of_body bd (by simp) ?_)
  have hC' := hC c x n
  have hD' := hD c x n t b ht hI hb
  have hS' := hS c x n
  have hk : (ks .i32 t).length = 16 := by simp [ks_length, ht]
  have tt : (ks .i32 t).take 16 = ks .i32 t := take_all (by omega)
  have ot := ks_one .i32 t
  rw [shA] at hC' hD' hS'
  rw [(dec_eq c x n t b).1] at hD'
  unfold heaA
  unfold silA at hS'
  simp only [bs] at hD' ⊢
  by_cases h1 : ask21 c x n = 0
  case neg =>
    rw [if_pos h1]
    rw [ask_two h1] at hC'
    simp (maxSteps := 4000000) (disch := omega) only [step, stepv, ev, wl, wn, wp, wz, aop, cV, cV1, AV.one, partCells, okW, onlyFr, app, sliceCells, cellsAt, srcA, subA, eqFs, Int.cast_ofNat_Int, simprocAttr, ac_verdict_Heal, shA, hk, tt, ot]
    refine callQ.vc hC' ?_
    simp (maxSteps := 4000000) (disch := omega) only [step, stepv, ev, wl, wn, wp, wz, aop, cV, cV1, AV.one, partCells, okW, onlyFr, app, sliceCells, cellsAt, srcA, subA, eqFs, Int.cast_ofNat_Int, simprocAttr]
    simp [frzN, frzK, frzL, frzV]
  rw [if_neg (by omega)] at hS' ⊢
  rw [h1] at hC'
  by_cases h2 : errD c x t n b = 0
  · rw [if_pos h2]
    rw [h2] at hD'
    have tl : isTL (ks .i32 (decL c x t n b)) = true := isTL_ks _ _
    generalize decL c x t n b = m at *
    simp only [il] at hD' ⊢
    simp (maxSteps := 4000000) (disch := omega) only [step, stepv, ev, wl, wn, wp, wz, aop, cV, cV1, AV.one, partCells, okW, onlyFr, app, sliceCells, cellsAt, srcA, subA, eqFs, Int.cast_ofNat_Int, simprocAttr, ac_verdict_Heal, shA, hk, tt, ot]
    refine callQ.vc hC' ?_
    simp (maxSteps := 4000000) (disch := omega) only [step, stepv, ev, wl, wn, wp, wz, aop, cV, cV1, AV.one, partCells, okW, onlyFr, app, sliceCells, cellsAt, srcA, subA, eqFs, Int.cast_ofNat_Int, simprocAttr, hk, tt, ot]
    refine callQ.vc hD' ?_
    simp (maxSteps := 4000000) (disch := omega) only [step, stepv, ev, wl, wn, wp, wz, aop, cV, cV1, AV.one, partCells, okW, onlyFr, app, sliceCells, cellsAt, srcA, subA, eqFs, Int.cast_ofNat_Int, simprocAttr]
    simp [frzN, frzK, frzL, frzV, frzL_T _ tl]
  · rw [if_neg h2]
    have tl : isTL (ks .i32 (silL c n)) = true := isTL_ks _ _
    generalize decL c x t n b = m at *
    generalize errD c x t n b = e at *
    generalize silL c n = sl at *
    simp only [il] at hD' hS' ⊢
    simp (maxSteps := 4000000) (disch := omega) only [step, stepv, ev, wl, wn, wp, wz, aop, cV, cV1, AV.one, partCells, okW, onlyFr, app, sliceCells, cellsAt, srcA, subA, eqFs, Int.cast_ofNat_Int, simprocAttr, ac_verdict_Heal, shA, hk, tt, ot]
    refine callQ.vc hC' ?_
    simp (maxSteps := 4000000) (disch := omega) only [step, stepv, ev, wl, wn, wp, wz, aop, cV, cV1, AV.one, partCells, okW, onlyFr, app, sliceCells, cellsAt, srcA, subA, eqFs, Int.cast_ofNat_Int, simprocAttr, hk, tt, ot]
    refine callQ.vc hD' ?_
    simp (maxSteps := 4000000) (disch := omega) only [step, stepv, ev, wl, wn, wp, wz, aop, cV, cV1, AV.one, partCells, okW, onlyFr, app, sliceCells, cellsAt, srcA, subA, eqFs, Int.cast_ofNat_Int, simprocAttr]
    refine callQ.vc hS' ?_
    simp (maxSteps := 4000000) (disch := omega) only [step, stepv, ev, wl, wn, wp, wz, aop, cV, cV1, AV.one, partCells, okW, onlyFr, app, sliceCells, cellsAt, srcA, subA, eqFs, Int.cast_ofNat_Int, simprocAttr]
    simp [frzN, frzK, frzL, frzV, frzL_T _ tl]
end Go.Am

namespace Go.Am
open Go.RowKit

/-! ### Codes (plain) -/

def riceN (v k : Nat) : Nat := if 48 ≤ v / 2 ^ k then 80 else v / 2 ^ k + 1 + k
def riceC (v k : Nat) : Nat := if 48 ≤ v / 2 ^ k then 2 ^ 48 - 1 + 2 ^ 48 * v else 2 ^ (v / 2 ^ k) - 1 + 2 ^ (v / 2 ^ k + 1) * (v % 2 ^ k)
def codeN (d : Dl) (v : Nat) : Nat := if v < 2 ^ d.k0 then 1 + d.k0 else 1 + riceN (v - 2 ^ d.k0) d.k1
def codeC (d : Dl) (v : Nat) : Nat := if v < 2 ^ d.k0 then 2 * v else 1 + 2 * riceC (v - 2 ^ d.k0) d.k1

theorem lt_append {V N W n : Nat} (hV : V < 2 ^ N) (hW : W < 2 ^ n) : V + 2 ^ N * W < 2 ^ (N + n) := by
  have h1 : 2 ^ N * (W + 1) ≤ 2 ^ N * 2 ^ n := Nat.mul_le_mul_left _ hW
  rw [Nat.pow_add]
  rw [Nat.mul_add, Nat.mul_one] at h1
  omega
theorem riceC_lt {v k : Nat} (hv : v < 4294967296) : riceC v k < 2 ^ riceN v k := by
  unfold riceC riceN
  split
  · exact lt_append (N := 48) (n := 32) (by decide) hv
  · have h1 : v % 2 ^ k < 2 ^ k := Nat.mod_lt _ (Nat.pow_pos (by omega))
    refine lt_append ?_ h1
    have : 0 < 2 ^ (v / 2 ^ k) := Nat.pow_pos (by omega)
    rw [Nat.pow_succ]
    omega
theorem riceN_le {v k : Nat} (hk : k ≤ 24) : riceN v k ≤ 80 := by unfold riceN; split <;> omega
theorem codeN_le {d : Dl} {v : Nat} (hd : okD d) : codeN d v ≤ 81 := by
  have := riceN_le (v := v - 2 ^ d.k0) hd.2.1
  have := hd.1
  unfold codeN
  split <;> omega
theorem codeN_pos (d : Dl) (v : Nat) : 1 ≤ codeN d v := by unfold codeN; split <;> omega
theorem codeC_lt {d : Dl} {v : Nat} (hv : v < 4294967296) : codeC d v < 2 ^ codeN d v := by
  unfold codeC codeN
  split
  · rename_i h
    rw [Nat.pow_add, Nat.pow_one]
    omega
  · have h := riceC_lt (v := v - 2 ^ d.k0) (k := d.k1) (Nat.lt_of_le_of_lt (Nat.sub_le _ _) hv)
    exact lt_append (N := 1) (V := 1) (by decide) h

def frmM (c : Nat) (v : List Nat) : Nat → Nat × Nat
  | 0 => (0, 0)
  | i + 1 => ((frmM c v i).1 + codeN (chanM c (i % c) (v.take i)) (v.getD i 0), (frmM c v i).2 + 2 ^ (frmM c v i).1 * codeC (chanM c (i % c) (v.take i)) (v.getD i 0))
def frmN (c : Nat) (v : List Nat) (i : Nat) : Nat := (frmM c v i).1
def frmV (c : Nat) (v : List Nat) (i : Nat) : Nat := (frmM c v i).2
theorem frmN_zero (c : Nat) (v : List Nat) : frmN c v 0 = 0 := rfl
theorem frmV_zero (c : Nat) (v : List Nat) : frmV c v 0 = 0 := rfl
theorem frmN_succ (c : Nat) (v : List Nat) (i : Nat) : frmN c v (i + 1) = frmN c v i + codeN (chanM c (i % c) (v.take i)) (v.getD i 0) := rfl
theorem frmV_succ (c : Nat) (v : List Nat) (i : Nat) : frmV c v (i + 1) = frmV c v i + 2 ^ frmN c v i * codeC (chanM c (i % c) (v.take i)) (v.getD i 0) := rfl
theorem N32.take {v : List Nat} (h : N32 v) (i : Nat) : N32 (v.take i) := fun x hx => h x (List.mem_of_mem_take hx)
theorem N32.getD {v : List Nat} (h : N32 v) (i : Nat) : v.getD i 0 < 4294967296 := by
  rw [List.getD_eq_getElem?_getD]
  cases hx : v[i]? with
  | none => simp
  | some x => exact h x (List.mem_of_getElem? hx)
theorem frm_bounds {c : Nat} {v : List Nat} (h : N32 v) : ∀ i, frmV c v i < 2 ^ frmN c v i ∧ frmN c v i ≤ 81 * i ∧ i ≤ frmN c v i
  | 0 => by rw [frmN_zero, frmV_zero]; decide
  | i + 1 => by
    obtain ⟨h1, h2, h3⟩ := frm_bounds h i
    have hd := chan_ok (c := c) (r := i % c) (h.take i)
    have h4 := codeN_le (v := v.getD i 0) hd
    have h5 := codeN_pos (chanM c (i % c) (v.take i)) (v.getD i 0)
    rw [frmN_succ, frmV_succ]
    exact ⟨lt_append h1 (codeC_lt (h.getD i)), by omega, by omega⟩

def frmB (c : Nat) (v : List Nat) : List UInt8 := leB (frmV c v v.length) (nB (frmN c v v.length))
def sealB (p : List UInt8) : List UInt8 := p ++ leB (sumM p) 4
theorem sealB_len (p : List UInt8) : (sealB p).length = p.length + 4 := by simp [sealB, leB_length]
theorem frmB_len (c : Nat) (v : List Nat) : (frmB c v).length = nB (frmN c v v.length) := by simp [frmB, leB_length]

end Go.Am

namespace Go.Am
open Go.RowKit

/-! ### Chapter 21: the examples hold -/


def fr0 : List UInt8 := sealB [0, 0, 0]
theorem I32_z16 : I32 z16 := by
  intro v hv
  have := List.eq_of_mem_replicate hv
  omega
def S_alive21 (P : Prg) (f : Nat) : Prop := VC P f [] (.bool true)
end Go.Am

namespace Go.Am
open Go.RowKit

/-! ### Codes are written -/

theorem getJ (ob J : List Ob) (k : Nat) : (ob ++ J)[ob.length + k]? = J[k]? := by rw [List.getElem?_append_right (by omega), Nat.add_sub_cancel_left]
theorem getJ0 (ob J : List Ob) : (ob ++ J)[ob.length]? = J[0]? := getJ ob J 0
theorem setJ (ob J : List Ob) (k : Nat) (y : Ob) : (ob ++ J).set (ob.length + k) y = ob ++ J.set k y := by rw [List.set_append_right _ _ (by omega), Nat.add_sub_cancel_left]
theorem setJ0 (ob J : List Ob) (y : Ob) : (ob ++ J).set ob.length y = ob ++ J.set 0 y := setJ ob J 0 y

def S_CloneB (t : Nat) (P : Prg) (f : Nat) : Prop := ∀ l : List UInt8, l.length ≤ 1000000 → VO P f [bs l] (.own 0 l.length) ⟨t, 1, l.length, u8 l, 0⟩
theorem clone_b {P : Prg} {f t0 : Nat} (b : Body P f 8 [.tmp 2] (ac_slices_Clone_byte_byte t0)) : S_CloneB t0 P f := by
  intro l hl
  refine VO.of_walk (by simp [isDL, isD_bs]) (isDL_u8 l) (by simp [okr]) (ACall.virtR t0 1 (by decide) (ACall.of_body b (by simp) ?_))
  by_cases h0 : l = []
  · subst h0
    simp (maxSteps := 4000000) (disch := omega) only [step, stepv, ev, wl, wn, wp, wz, aop, cV, cV1, AV.one, partCells, okW, onlyFr, app, sliceCells, cellsAt, srcA, subA, eqFs, Int.cast_ofNat_Int, simprocAttr, ac_slices_Clone_byte_byte, bs, nilA, u8_nil]
    exact ⟨.inr ⟨true, rfl, 0, rfl, rfl⟩, .inl ⟨0, rfl, rfl⟩⟩
  · have h1 : l.length ≠ 0 := by simpa using h0
    simp (maxSteps := 4000000) (disch := omega) only [step, stepv, ev, wl, wn, wp, wz, aop, cV, cV1, AV.one, partCells, okW, onlyFr, app, sliceCells, cellsAt, srcA, subA, eqFs, Int.cast_ofNat_Int, simprocAttr, ac_slices_Clone_byte_byte, bs, nilA, h1]
    exact .inl ⟨0, rfl, rfl⟩

theorem bits_twin {P : Prg} {f fC t0 tb : Nat} (bd : Body P f 9 [.cell 2 t0] (ac_bits_twin fC t0)) (hC : S_CloneB tb P fC) (ht : aggO P t0 = some (some 2)) {N V : Nat} (hN : N ≤ 400000) {ob : List Ob} (hl : Low ob.length ob) {K : AV → List Ob → Prop}
    (hK : K (.agg [.own ob.length (nB N), .int .i64 N]) (ob ++ [bY tb N V])) : ACall P f [bA N V] ob K := by
  refine ACall.low (ACall.pad (ACall.of_body bd (by simp) ?_))
  have hC' := hC (leB V (nB N)) (by rw [leB_length]; unfold nB; omega)
  rw [bs, leB_length] at hC'
  have hlow : Low (ob.length + 1) (ob ++ [bY tb N V]) := (hl.mono (by omega)).append (Low.cons (lowL_D _ (isDL_leB _ _)) Low.nil)
  simp (maxSteps := 4000000) (disch := omega) only [step, stepv, ev, wl, wn, wp, wz, aop, cV, cV1, AV.one, partCells, okW, onlyFr, app, sliceCells, cellsAt, srcA, subA, eqFs, Int.cast_ofNat_Int, simprocAttr, ac_bits_twin, bA, List.append_assoc, List.cons_append, List.nil_append, getJ, getJ0, setJ, setJ0]
  refine callD.vo hC' ob.length (by rw [getJ0]; rfl) Nat.one_ne_zero ?_
  simp (maxSteps := 4000000) (disch := omega) only [step, stepv, ev, wl, wn, wp, wz, aop, cV, cV1, AV.one, partCells, okW, onlyFr, app, sliceCells, cellsAt, srcA, subA, eqFs, Int.cast_ofNat_Int, simprocAttr, shr, List.append_assoc, List.cons_append, List.nil_append, getJ, getJ0, setJ, setJ0, resA, ht, oneOf]
  exact ⟨ob ++ [bY tb N V], [_, _], by simp [bY]; exact ⟨rfl, rfl⟩, by simp, by simpa using hlow, by simp [lowV, lowL], hK⟩

def S_bPut (P : Prg) (f : Nat) : Prop := ∀ N V v n : Nat, V < 2 ^ N → v < 2 ^ n → n ≤ 64 → N + n ≤ 330000 → VC P f [bA N V, .int .u64 v, .int .i64 n] (.tup [bA (N + n) (V + 2 ^ N * v), .int .i64 0])
theorem bits_Put {P : Prg} {f fC fT fK fP t0 t1 tb : Nat} (bd : Body P f 44 [.cell 6 t0, .tmp 7] (ac_bits_Put fC fT fP t0)) (hC : S_bCheck P fC) (bT : Body P fT 9 [.cell 2 t1] (ac_bits_twin fK t1)) (bP : Body P fP 75 [] (ac_bits_put tb)) (hK : S_CloneB tb P fK) (ht : aggO P t0 = some (some 2)) (ht1 : aggO P t1 = some (some 2)) : S_bPut P f := by
  intro N V v n hV hv hn hN
  refine VC.of_walk 2 (by simp [isDL, isD_bA, isD]) (by simp [isD, isDL, isD_bA]) (ACall.of_body bd (by simp) ?_)
  have hC' := hC N V hV (by omega)
  rw [bA] at hC'
  have e1 : n < 64 → shiftA false .u64 (v : Int) (n : Int) = some (.int .u64 0) := fun h => by
    rw [shrK (K := .u64) (by show n ≤ 64; omega), Nat.div_eq_of_lt hv]; rfl
  have tu : isTL (u8 (leB V (nB N))) = true := isT_u8 _
  have tl : ∀ W M, isTL (u8 (leB W M)) = true := fun W M => isT_u8 _
  have tw : ∀ (Q : Exit → St → Prop) os fr dst, wpQ P os Q ⟨putA fr dst (.agg [.own 2 (nB N), .int .i64 N]), [⟨t0, 2, 1, [.list (nB N) (u8 (leB V (nB N))), .int .i64 N], 0⟩, ⟨t0, 2, 1, [.emp true, .int .i64 0], 0⟩, bY tb N V]⟩ →
      callQ P fT [.agg [.list (nB N) (u8 (leB V (nB N))), .int .i64 N]] [⟨t0, 2, 1, [.list (nB N) (u8 (leB V (nB N))), .int .i64 N], 0⟩, ⟨t0, 2, 1, [.emp true, .int .i64 0], 0⟩] os Q fr dst := fun Q os fr dst h =>
    bits_twin bT hK ht1 (N := N) (V := V) (by omega) (Low.cons (by simp [lowL, lowV, lowL_D _ (isDL_leB _ _)]) (Low.cons (by simp [lowL, lowV]) Low.nil)) h
  have pt : ∀ (Q : Exit → St → Prop) os fr dst, wpQ P os Q ⟨putA fr dst (.tup []), [⟨t0, 2, 1, [.own 2 (nB (N + n)), .int .i64 ((N + n : Nat) : Int)], 0⟩, ⟨t0, 2, 1, [.emp true, .int .i64 0], 0⟩, bY tb (N + n) (V + 2 ^ N * v)]⟩ →
      callQ P fP [.ref 0 1 0, .int .u64 v, .int .i64 n] [⟨t0, 2, 1, [.own 2 (nB N), .int .i64 N], 0⟩, ⟨t0, 2, 1, [.emp true, .int .i64 0], 0⟩, bY tb N V] os Q fr dst := fun Q os fr dst h =>
    bits_put bP (ob := [⟨t0, 2, 1, [.own 2 (nB N), .int .i64 N], 0⟩, ⟨t0, 2, 1, [.emp true, .int .i64 0], 0⟩, bY tb N V]) (p := 0) (o := 2) (t := t0) rfl rfl (by decide) hV hv hn (by omega)
      (Low.cons (by simp [lowL, lowV]) (Low.cons (by simp [lowL, lowV]) (Low.cons (lowL_D _ (isDL_leB _ _)) Low.nil))) h
  have tu' := tl (V + 2 ^ N * v) (nB (N + n))
  generalize V + 2 ^ N * v = W at *
  by_cases h64 : n < 64
  · have e1' := e1 h64
    simp (maxSteps := 4000000) (disch := omega) only [step, stepv, ev, wl, wn, wp, wz, aop, cV, cV1, AV.one, partCells, okW, onlyFr, app, sliceCells, cellsAt, srcA, subA, eqFs, Int.cast_ofNat_Int, simprocAttr, ac_bits_Put, bA]
    refine callQ.vc hC' ?_
    simp (maxSteps := 4000000) (disch := omega) only [step, stepv, ev, wl, wn, wp, wz, aop, cV, cV1, AV.one, partCells, okW, onlyFr, app, sliceCells, cellsAt, srcA, subA, eqFs, Int.cast_ofNat_Int, simprocAttr, e1']
    refine tw _ _ _ _ ?_
    simp (maxSteps := 4000000) (disch := omega) only [step, stepv, ev, wl, wn, wp, wz, aop, cV, cV1, AV.one, partCells, okW, onlyFr, app, sliceCells, cellsAt, srcA, subA, eqFs, Int.cast_ofNat_Int, simprocAttr]
    refine pt _ _ _ _ ?_
    simp (maxSteps := 4000000) (disch := omega) only [step, stepv, ev, wl, wn, wp, wz, aop, cV, cV1, AV.one, partCells, okW, onlyFr, app, sliceCells, cellsAt, srcA, subA, eqFs, Int.cast_ofNat_Int, simprocAttr, resA, ht, oneOf]
    simp [frzN, frzK, frzL, frzV, bY, frzL_T _ tu']
  · simp (maxSteps := 4000000) (disch := omega) only [step, stepv, ev, wl, wn, wp, wz, aop, cV, cV1, AV.one, partCells, okW, onlyFr, app, sliceCells, cellsAt, srcA, subA, eqFs, Int.cast_ofNat_Int, simprocAttr, ac_bits_Put, bA]
    refine callQ.vc hC' ?_
    simp (maxSteps := 4000000) (disch := omega) only [step, stepv, ev, wl, wn, wp, wz, aop, cV, cV1, AV.one, partCells, okW, onlyFr, app, sliceCells, cellsAt, srcA, subA, eqFs, Int.cast_ofNat_Int, simprocAttr]
    refine tw _ _ _ _ ?_
    simp (maxSteps := 4000000) (disch := omega) only [step, stepv, ev, wl, wn, wp, wz, aop, cV, cV1, AV.one, partCells, okW, onlyFr, app, sliceCells, cellsAt, srcA, subA, eqFs, Int.cast_ofNat_Int, simprocAttr]
    refine pt _ _ _ _ ?_
    simp (maxSteps := 4000000) (disch := omega) only [step, stepv, ev, wl, wn, wp, wz, aop, cV, cV1, AV.one, partCells, okW, onlyFr, app, sliceCells, cellsAt, srcA, subA, eqFs, Int.cast_ofNat_Int, simprocAttr, resA, ht, oneOf]
    simp [frzN, frzK, frzL, frzV, bY, frzL_T _ tu']

end Go.Am

namespace Go.Am
open Go.RowKit

/-! ### Codes are written: unary, rice, dual -/

def uN (n : Nat) : Nat := min (n + 1) 48
def S_uLen (P : Prg) (f : Nat) : Prop := ∀ n : Nat, n ≤ 48 → VC P f [.int .i64 n] (.tup [.int .i64 (uN n), .int .i64 0])
theorem unary_Length {P : Prg} {f : Nat} (bd : Body P f 13 [.tmp 2, .tmp 3] ac_unary_Length) : S_uLen P f := by
  intro n hn
  refine VC.of_acall rfl rfl (ACall.of_body bd (by simp) ?_)
  have e1 : (if (48 : Int) < (n : Int) + 1 then (48 : Int) else (n : Int) + 1) = (uN n : Nat) := by unfold uN; split <;> omega
  simp (maxSteps := 4000000) (disch := omega) only [step, stepv, ev, wl, wn, wp, wz, aop, cV, cV1, AV.one, partCells, okW, onlyFr, app, sliceCells, cellsAt, srcA, subA, eqFs, Int.cast_ofNat_Int, simprocAttr, ac_unary_Length, e1]

theorem pow_lt_64 {n : Nat} (h : n ≤ 48) : 2 ^ n ≤ 281474976710656 := Nat.pow_le_pow_right (by omega) h
def S_uWrite (P : Prg) (f : Nat) : Prop := ∀ N V n : Nat, V < 2 ^ N → n ≤ 48 → N + uN n ≤ 330000 → VC P f [bA N V, .int .i64 n] (.tup [bA (N + uN n) (V + 2 ^ N * (2 ^ n - 1)), .int .i64 0])
theorem unary_Write {P : Prg} {f fC fL fP t0 : Nat} (bd : Body P f 32 [.cell 4 t0, .tmp 5] (ac_unary_Write fC fL fP t0)) (hC : S_bCheck P fC) (hL : S_uLen P fL) (hP : S_bPut P fP) (ht : aggO P t0 = some (some 2)) : S_uWrite P f := by
  intro N V n hV hn hN
  refine VC.of_walk 1 (by simp [isDL, isD_bA, isD]) (by simp [isD, isDL, isD_bA]) (ACall.of_body bd (by simp) ?_)
  have hC' := hC N V hV (by omega)
  have hL' := hL n hn
  have hp := pow_lt_64 hn
  have hpos : 0 < 2 ^ n := Nat.pow_pos (by omega)
  have hlt : 2 ^ n - 1 < 2 ^ uN n := by
    unfold uN
    rcases Nat.lt_or_ge n 48 with h | h
    · rw [Nat.min_eq_left (by omega), Nat.pow_succ]; omega
    · obtain rfl : n = 48 := by omega
      decide
  have hP' := hP N V (2 ^ n - 1) (uN n) hV hlt (by unfold uN; omega) hN
  have e3 : shiftA true .u64 1 (n : Int) = some (.int .u64 ((2 ^ n : Nat) : Int)) := by
    have := shlK (K := .u64) rfl (c := 1) (s := n) (by show n ≤ 64; omega) (by show 1 * 2 ^ n < 18446744073709551616; omega)
    rw [Nat.one_mul] at this
    exact this
  have e4 : IntKind.u64.wrap (((2 ^ n : Nat) : Int) - 1) = ((2 ^ n - 1 : Nat) : Int) := by rw [wrap_u64_mod]; omega
  generalize V + 2 ^ N * (2 ^ n - 1) = W at *
  generalize 2 ^ n - 1 = x at *
  generalize 2 ^ n = p at *
  generalize uN n = u at *
  have tl : isTL (u8 (leB W (nB (N + u)))) = true := isT_u8 _
  simp only [bA] at hC' hP' ⊢
  simp (maxSteps := 4000000) (disch := omega) only [step, stepv, ev, wl, wn, wp, wz, aop, cV, cV1, AV.one, partCells, okW, onlyFr, app, sliceCells, cellsAt, srcA, subA, eqFs, Int.cast_ofNat_Int, simprocAttr, ac_unary_Write]
  refine callQ.vc hC' ?_
  simp (maxSteps := 4000000) (disch := omega) only [step, stepv, ev, wl, wn, wp, wz, aop, cV, cV1, AV.one, partCells, okW, onlyFr, app, sliceCells, cellsAt, srcA, subA, eqFs, Int.cast_ofNat_Int, simprocAttr]
  refine callQ.vc hL' ?_
  simp (maxSteps := 4000000) (disch := omega) only [step, stepv, ev, wl, wn, wp, wz, aop, cV, cV1, AV.one, partCells, okW, onlyFr, app, sliceCells, cellsAt, srcA, subA, eqFs, Int.cast_ofNat_Int, simprocAttr, e3, e4]
  refine callD.vc hP' ?_
  simp (maxSteps := 4000000) (disch := omega) only [step, stepv, ev, wl, wn, wp, wz, aop, cV, cV1, AV.one, partCells, okW, onlyFr, app, sliceCells, cellsAt, srcA, subA, eqFs, Int.cast_ofNat_Int, simprocAttr, resA, ht, oneOf]
  simp [frzN, frzK, frzL, frzV, frzL_T _ tl]

def S_rWrite (P : Prg) (f : Nat) : Prop := ∀ N V v k : Nat, V < 2 ^ N → v < 4294967296 → k ≤ 24 → N + 80 ≤ 330000 → VC P f [bA N V, .int .u32 v, .int .i64 k] (.tup [bA (N + riceN v k) (V + 2 ^ N * riceC v k), .int .i64 0])
theorem rice_Write {P : Prg} {f fC fE fU fP t0 : Nat} (bd : Body P f 57 [.cell 6 t0, .tmp 7] (ac_rice_Write fC fE fU fP t0)) (hC : S_bCheck P fC) (hE : S_esc P fE) (hU : S_uWrite P fU) (hP : S_bPut P fP) (ht : aggO P t0 = some (some 2)) : S_rWrite P f := by
  intro N V v k hV hv hk hN
  refine VC.of_walk 1 (by simp [isDL, isD_bA, isD]) (by simp [isD, isDL, isD_bA]) (ACall.of_body bd (by simp) ?_)
  have hC' := hC N V hV (by omega)
  have hE' := hE v k hk hv
  obtain ⟨q1, _⟩ := p24 hk
  have hpk : 0 < 2 ^ k := Nat.pow_pos (by omega)
  have e1 : shiftA false .u32 (v : Int) (k : Int) = some (.int .u32 ((v / 2 ^ k : Nat) : Int)) := shrK (K := .u32) (by show k ≤ 32; omega)
  have e2 : shiftA true .u32 1 (k : Int) = some (.int .u32 ((2 ^ k : Nat) : Int)) := by
    have := shlK (K := .u32) rfl (c := 1) (s := k) (by show k ≤ 32; omega) (by show 1 * 2 ^ k < 4294967296; omega)
    rw [Nat.one_mul] at this
    exact this
  have e3 : IntKind.u32.wrap (((2 ^ k : Nat) : Int) - 1) = ((2 ^ k - 1 : Nat) : Int) := by rw [wrap_u32_mod]; omega
  have e4 : IntKind.u32.wrap (BitVec.ofInt IntKind.u32.bits (v : Int) &&& BitVec.ofInt IntKind.u32.bits ((2 ^ k - 1 : Nat) : Int)).toNat = ((v % 2 ^ k : Nat) : Int) := by
    rw [andK (K := .u32) rfl hv (by show 2 ^ k - 1 < 4294967296; omega), Nat.and_two_pow_sub_one_eq_mod]
  have hqv : v / 2 ^ k ≤ v := Nat.div_le_self _ _
  have hrv : v % 2 ^ k < 2 ^ k := Nat.mod_lt _ hpk
  unfold riceN riceC
  by_cases hq : 48 ≤ v / 2 ^ k
  · rw [if_pos hq, if_pos hq]
    simp only [hq, decide_true] at hE'
    have hU' := hU N V 48 hV (Nat.le_refl _) (by unfold uN; omega)
    have hu : uN 48 = 48 := rfl
    rw [hu] at hU'
    have hV1 : V + 2 ^ N * (2 ^ 48 - 1) < 2 ^ (N + 48) := lt_append hV (by decide)
    have hP' := hP (N + 48) (V + 2 ^ N * (2 ^ 48 - 1)) v 32 hV1 hv (by omega) (by omega)
    have hW : V + 2 ^ N * (2 ^ 48 - 1) + 2 ^ (N + 48) * v = V + 2 ^ N * (2 ^ 48 - 1 + 2 ^ 48 * v) := by rw [Nat.pow_add, Nat.mul_add, Nat.mul_assoc, Nat.add_assoc]
    rw [hW] at hP'
    generalize V + 2 ^ N * (2 ^ 48 - 1 + 2 ^ 48 * v) = W at *
    generalize V + 2 ^ N * (2 ^ 48 - 1) = W1 at *
    have hNN : N + 48 + 32 = N + 80 := by omega
    rw [hNN] at hP'
    have tl : isTL (u8 (leB W (nB (N + 80)))) = true := isT_u8 _
    simp only [bA] at hC' hP' hU' ⊢
    have hU'' : VC P fU [.agg [.list (nB N) (u8 (leB V (nB N))), .int .i64 N], .int .i64 48] (.tup [.agg [.list (nB (N + 48)) (u8 (leB W1 (nB (N + 48)))), .int .i64 ((N + 48 : Nat) : Int)], .int .i64 0]) := hU'
    have hP'' : VC P fP [.agg [.list (nB (N + 48)) (u8 (leB W1 (nB (N + 48)))), .int .i64 ((N + 48 : Nat) : Int)], .int .u64 v, .int .i64 32] (.tup [.agg [.list (nB (N + 80)) (u8 (leB W (nB (N + 80)))), .int .i64 ((N + 80 : Nat) : Int)], .int .i64 0]) := hP'
    generalize v / 2 ^ k = q at *
    generalize v % 2 ^ k = r at *
    generalize 2 ^ k - 1 = mk at *
    generalize 2 ^ k = pk at *
    simp (maxSteps := 4000000) (disch := omega) only [step, stepv, ev, wl, wn, wp, wz, aop, cV, cV1, AV.one, partCells, okW, onlyFr, app, sliceCells, cellsAt, srcA, subA, eqFs, Int.cast_ofNat_Int, simprocAttr, ac_rice_Write]
    refine callQ.vc hC' ?_
    simp (maxSteps := 4000000) (disch := omega) only [step, stepv, ev, wl, wn, wp, wz, aop, cV, cV1, AV.one, partCells, okW, onlyFr, app, sliceCells, cellsAt, srcA, subA, eqFs, Int.cast_ofNat_Int, simprocAttr, e1, e2, e3, e4]
    refine callQ.vc hE' ?_
    simp (maxSteps := 4000000) (disch := omega) only [step, stepv, ev, wl, wn, wp, wz, aop, cV, cV1, AV.one, partCells, okW, onlyFr, app, sliceCells, cellsAt, srcA, subA, eqFs, Int.cast_ofNat_Int, simprocAttr]
    refine callQ.vc hU'' ?_
    simp (maxSteps := 4000000) (disch := omega) only [step, stepv, ev, wl, wn, wp, wz, aop, cV, cV1, AV.one, partCells, okW, onlyFr, app, sliceCells, cellsAt, srcA, subA, eqFs, Int.cast_ofNat_Int, simprocAttr]
    refine callQ.vc hP'' ?_
    simp (maxSteps := 4000000) (disch := omega) only [step, stepv, ev, wl, wn, wp, wz, aop, cV, cV1, AV.one, partCells, okW, onlyFr, app, sliceCells, cellsAt, srcA, subA, eqFs, Int.cast_ofNat_Int, simprocAttr, resA, ht, oneOf]
    simp [frzN, frzK, frzL, frzV, frzL_T _ tl]
  · rw [if_neg hq, if_neg hq]
    simp only [hq, decide_false] at hE'
    have hu : uN (v / 2 ^ k) = v / 2 ^ k + 1 := by unfold uN; omega
    have hU' := hU N V (v / 2 ^ k) hV (by omega) (by rw [hu]; omega)
    rw [hu] at hU'
    have hlt : 2 ^ (v / 2 ^ k) - 1 < 2 ^ (v / 2 ^ k + 1) := by
      have : 0 < 2 ^ (v / 2 ^ k) := Nat.pow_pos (by omega)
      rw [Nat.pow_succ]; omega
    have hV1 : V + 2 ^ N * (2 ^ (v / 2 ^ k) - 1) < 2 ^ (N + (v / 2 ^ k + 1)) := lt_append hV hlt
    have hP' := hP (N + (v / 2 ^ k + 1)) (V + 2 ^ N * (2 ^ (v / 2 ^ k) - 1)) (v % 2 ^ k) k hV1 hrv (by omega) (by omega)
    have hW : V + 2 ^ N * (2 ^ (v / 2 ^ k) - 1) + 2 ^ (N + (v / 2 ^ k + 1)) * (v % 2 ^ k) = V + 2 ^ N * (2 ^ (v / 2 ^ k) - 1 + 2 ^ (v / 2 ^ k + 1) * (v % 2 ^ k)) := by rw [Nat.pow_add 2 N, Nat.mul_add, Nat.mul_assoc, Nat.add_assoc]
    rw [hW] at hP'
    generalize V + 2 ^ N * (2 ^ (v / 2 ^ k) - 1 + 2 ^ (v / 2 ^ k + 1) * (v % 2 ^ k)) = W at *
    generalize V + 2 ^ N * (2 ^ (v / 2 ^ k) - 1) = W1 at *
    have hNN : N + (v / 2 ^ k + 1) + k = N + (v / 2 ^ k + 1 + k) := by omega
    rw [hNN] at hP'
    have tl : isTL (u8 (leB W (nB (N + (v / 2 ^ k + 1 + k))))) = true := isT_u8 _
    simp only [bA] at hC' hP' hU' ⊢
    generalize v / 2 ^ k = q at *
    generalize v % 2 ^ k = r at *
    generalize 2 ^ k - 1 = mk at *
    generalize 2 ^ k = pk at *
    generalize hM : N + (q + 1 + k) = M at *
    generalize hM1 : N + (q + 1) = M1 at *
    simp (maxSteps := 4000000) (disch := omega) only [step, stepv, ev, wl, wn, wp, wz, aop, cV, cV1, AV.one, partCells, okW, onlyFr, app, sliceCells, cellsAt, srcA, subA, eqFs, Int.cast_ofNat_Int, simprocAttr, ac_rice_Write]
    refine callQ.vc hC' ?_
    simp (maxSteps := 4000000) (disch := omega) only [step, stepv, ev, wl, wn, wp, wz, aop, cV, cV1, AV.one, partCells, okW, onlyFr, app, sliceCells, cellsAt, srcA, subA, eqFs, Int.cast_ofNat_Int, simprocAttr, e1, e2, e3, e4]
    refine callQ.vc hE' ?_
    simp (maxSteps := 4000000) (disch := omega) only [step, stepv, ev, wl, wn, wp, wz, aop, cV, cV1, AV.one, partCells, okW, onlyFr, app, sliceCells, cellsAt, srcA, subA, eqFs, Int.cast_ofNat_Int, simprocAttr]
    refine callQ.vc hU' ?_
    simp (maxSteps := 4000000) (disch := omega) only [step, stepv, ev, wl, wn, wp, wz, aop, cV, cV1, AV.one, partCells, okW, onlyFr, app, sliceCells, cellsAt, srcA, subA, eqFs, Int.cast_ofNat_Int, simprocAttr]
    refine callQ.vc hP' ?_
    simp (maxSteps := 4000000) (disch := omega) only [step, stepv, ev, wl, wn, wp, wz, aop, cV, cV1, AV.one, partCells, okW, onlyFr, app, sliceCells, cellsAt, srcA, subA, eqFs, Int.cast_ofNat_Int, simprocAttr, resA, ht, oneOf]
    simp [frzN, frzK, frzL, frzV, frzL_T _ tl]

def S_dWrite (P : Prg) (f : Nat) : Prop := ∀ (N V v : Nat) (d : Dl), V < 2 ^ N → v < 4294967296 → okD d → N + 81 ≤ 330000 → VC P f [bA N V, dlA d, .int .u32 v] (.tup [bA (N + codeN d v) (V + 2 ^ N * codeC d v), dlA (learnM d v), .int .i64 0])
theorem dual_Write {P : Prg} {f fC fD fV fP fR fL fl1 fll t0 t1 : Nat} (bd : Body P f 69 [.cell 6 t0, .cell 7 t1, .tmp 8] (ac_dual_Write fC fD fV fP fR fL t0 t1)) (hC : S_bCheck P fC) (hD : S_DCheck P fD) (hLv : S_Level P fV) (hP : S_bPut P fP) (hR : S_rWrite P fR)
    (bL : Body P fL 36 [] (ac_dual_learn fl1 fll)) (b1 : Body P fl1 58 [] ac_dual_learn_1) (hL : S_Level P fll) (ht0 : aggO P t0 = some (some 2)) (ht : aggO P t1 = some (some 4)) : S_dWrite P f := by
  intro N V v d hV hv hd hN
  refine VC.of_walk 1 (by simp [isDL, isD_bA, isD_dlA, isD]) (by simp [isD, isDL, isD_bA, isD_dlA]) (ACall.of_cut 7 bd (by simp) ?_)
  have hd' := hd
  have hC' := hC N V hV (by omega)
  have hD' := hD d hd
  have hLv' := hLv d v hd hv
  have hL1 : ∀ {ob : List Ob} {p : Nat} {v : Nat} {K : AV → List Ob → Prop}, ob[p]? = some ⟨t1, 4, 1, dlC d, 0⟩ → v < 4294967296 → K (.tup []) (ob.set p ⟨t1, 4, 1, dlC (learnM d v), 0⟩) → ACall P fL [.ref p 1 0, .int .u32 v] ob K :=
    fun hp hv hK => dual_learn bL b1 hL hp hd hv hK
  obtain ⟨k0, k1, s0, s1⟩ := d
  obtain ⟨h1, h2, h3, h4⟩ := hd'
  simp only at h1 h2 h3 h4
  obtain ⟨pk, _⟩ := p24 h1
  simp only [bA] at hC'
  simp only [dlA, dlC] at hD' hLv'
  unfold codeN codeC
  by_cases c : v < 2 ^ k0
  · simp only [c, if_true] at hLv' ⊢
    have hP1 := hP N V 0 1 hV (by decide) (by omega) (by omega)
    rw [Nat.mul_zero, Nat.add_zero] at hP1
    have hV1 : V < 2 ^ (N + 1) := Nat.lt_of_lt_of_le hV (Nat.pow_le_pow_right (by omega) (by omega))
    have hP2 := hP (N + 1) V v k0 hV1 c (by omega) (by omega)
    have hW : V + 2 ^ (N + 1) * v = V + 2 ^ N * (2 * v) := by rw [Nat.pow_succ, Nat.mul_assoc]
    rw [hW, Nat.add_assoc] at hP2
    generalize V + 2 ^ N * (2 * v) = W at *
    have tl : isTL (u8 (leB W (nB (N + (1 + k0))))) = true := isT_u8 _
    simp only [bA] at hP1 hP2 ⊢
    have hP1' : VC P fP [.agg [.list (nB N) (u8 (leB V (nB N))), .int .i64 N], .int .u64 0, .int .i64 1] (.tup [.agg [.list (nB (N + 1)) (u8 (leB V (nB (N + 1)))), .int .i64 ((N + 1 : Nat) : Int)], .int .i64 0]) := hP1
    simp (maxSteps := 4000000) (disch := omega) only [step, stepv, ev, wl, wn, wp, wz, aop, cV, cV1, AV.one, partCells, okW, onlyFr, app, sliceCells, cellsAt, srcA, subA, eqFs, Int.cast_ofNat_Int, simprocAttr, cuts, ac_dual_Write, dlA, dlC]
    refine callQ.vc hC' ?_
    simp (maxSteps := 4000000) (disch := omega) only [step, stepv, ev, wl, wn, wp, wz, aop, cV, cV1, AV.one, partCells, okW, onlyFr, app, sliceCells, cellsAt, srcA, subA, eqFs, Int.cast_ofNat_Int, simprocAttr, cuts]
    refine callQ.vc hD' ?_
    simp (maxSteps := 4000000) (disch := omega) only [step, stepv, ev, wl, wn, wp, wz, aop, cV, cV1, AV.one, partCells, okW, onlyFr, app, sliceCells, cellsAt, srcA, subA, eqFs, Int.cast_ofNat_Int, simprocAttr, cuts]
    refine callQ.vc hLv' ?_
    simp (maxSteps := 4000000) (disch := omega) only [step, stepv, ev, wl, wn, wp, wz, aop, cV, cV1, AV.one, partCells, okW, onlyFr, app, sliceCells, cellsAt, srcA, subA, eqFs, Int.cast_ofNat_Int, simprocAttr, cuts]
    refine callQ.vc hP1' ?_
    simp (maxSteps := 4000000) (disch := omega) only [step, stepv, ev, wl, wn, wp, wz, aop, cV, cV1, AV.one, partCells, okW, onlyFr, app, sliceCells, cellsAt, srcA, subA, eqFs, Int.cast_ofNat_Int, simprocAttr, cuts]
    refine callQ.vc hP2 ?_
    simp (maxSteps := 4000000) (disch := omega) only [step, stepv, ev, wl, wn, wp, wz, aop, cV, cV1, AV.one, partCells, okW, onlyFr, app, sliceCells, cellsAt, srcA, subA, eqFs, Int.cast_ofNat_Int, simprocAttr, cuts]
    refine hL1 (v := v) rfl hv ?_
    generalize learnM ⟨k0, k1, s0, s1⟩ v = d'
    obtain ⟨l0, l1, l2, l3⟩ := d'
    simp (maxSteps := 4000000) (disch := omega) only [step, stepv, ev, wl, wn, wp, wz, aop, cV, cV1, AV.one, partCells, okW, onlyFr, app, sliceCells, cellsAt, srcA, subA, eqFs, Int.cast_ofNat_Int, simprocAttr, cuts]
    refine ⟨⟨[(8, .int .i64 0), (7, .ref 3 1 0), (6, .ref 2 1 0), (4, .cell [.int .i64 l0, .int .i64 l1, .int .u64 l2, .int .u64 l3]), (3, .ref 0 1 0)], _⟩, Le.still [1] 1 (by simp [Am.look, frzK, frzL, frzV, dlC, isDL, isD]), ?_⟩
    simp (maxSteps := 4000000) (disch := omega) only [step, stepv, ev, wl, wn, wp, wz, aop, cV, cV1, AV.one, partCells, okW, onlyFr, app, sliceCells, cellsAt, srcA, subA, eqFs, Int.cast_ofNat_Int, simprocAttr, resA, ht, ht0, oneOf, dlC, stillAt]
    simp [frzN, frzK, frzL, frzV, frzL_T _ tl]
  · simp only [c, if_false] at hLv' ⊢
    have hP1 := hP N V 1 1 hV (by decide) (by omega) (by omega)
    rw [Nat.mul_one] at hP1
    have hV1 : V + 2 ^ N < 2 ^ (N + 1) := by rw [Nat.pow_succ]; omega
    have hl : v - 2 ^ k0 < 4294967296 := Nat.lt_of_le_of_lt (Nat.sub_le _ _) hv
    have hR2 := hR (N + 1) (V + 2 ^ N) (v - 2 ^ k0) k1 hV1 hl h2 (by omega)
    have hW : V + 2 ^ N + 2 ^ (N + 1) * riceC (v - 2 ^ k0) k1 = V + 2 ^ N * (1 + 2 * riceC (v - 2 ^ k0) k1) := by rw [Nat.pow_succ, Nat.mul_assoc, Nat.mul_add, Nat.mul_one, Nat.add_assoc]
    rw [hW, Nat.add_assoc] at hR2
    generalize V + 2 ^ N * (1 + 2 * riceC (v - 2 ^ k0) k1) = W at *
    generalize riceN (v - 2 ^ k0) k1 = rn at *
    generalize v - 2 ^ k0 = lf at *
    generalize V + 2 ^ N = W1 at *
    have tl : isTL (u8 (leB W (nB (N + (1 + rn))))) = true := isT_u8 _
    simp only [bA] at hP1 hR2 ⊢
    have hP1' : VC P fP [.agg [.list (nB N) (u8 (leB V (nB N))), .int .i64 N], .int .u64 1, .int .i64 1] (.tup [.agg [.list (nB (N + 1)) (u8 (leB W1 (nB (N + 1)))), .int .i64 ((N + 1 : Nat) : Int)], .int .i64 0]) := hP1
    simp (maxSteps := 4000000) (disch := omega) only [step, stepv, ev, wl, wn, wp, wz, aop, cV, cV1, AV.one, partCells, okW, onlyFr, app, sliceCells, cellsAt, srcA, subA, eqFs, Int.cast_ofNat_Int, simprocAttr, cuts, ac_dual_Write, dlA, dlC]
    refine callQ.vc hC' ?_
    simp (maxSteps := 4000000) (disch := omega) only [step, stepv, ev, wl, wn, wp, wz, aop, cV, cV1, AV.one, partCells, okW, onlyFr, app, sliceCells, cellsAt, srcA, subA, eqFs, Int.cast_ofNat_Int, simprocAttr, cuts]
    refine callQ.vc hD' ?_
    simp (maxSteps := 4000000) (disch := omega) only [step, stepv, ev, wl, wn, wp, wz, aop, cV, cV1, AV.one, partCells, okW, onlyFr, app, sliceCells, cellsAt, srcA, subA, eqFs, Int.cast_ofNat_Int, simprocAttr, cuts]
    refine callQ.vc hLv' ?_
    simp (maxSteps := 4000000) (disch := omega) only [step, stepv, ev, wl, wn, wp, wz, aop, cV, cV1, AV.one, partCells, okW, onlyFr, app, sliceCells, cellsAt, srcA, subA, eqFs, Int.cast_ofNat_Int, simprocAttr, cuts]
    refine callQ.vc hP1' ?_
    simp (maxSteps := 4000000) (disch := omega) only [step, stepv, ev, wl, wn, wp, wz, aop, cV, cV1, AV.one, partCells, okW, onlyFr, app, sliceCells, cellsAt, srcA, subA, eqFs, Int.cast_ofNat_Int, simprocAttr, cuts]
    refine callQ.vc hR2 ?_
    simp (maxSteps := 4000000) (disch := omega) only [step, stepv, ev, wl, wn, wp, wz, aop, cV, cV1, AV.one, partCells, okW, onlyFr, app, sliceCells, cellsAt, srcA, subA, eqFs, Int.cast_ofNat_Int, simprocAttr, cuts]
    refine hL1 (v := v) rfl hv ?_
    generalize learnM ⟨k0, k1, s0, s1⟩ v = d'
    obtain ⟨l0, l1, l2, l3⟩ := d'
    simp (maxSteps := 4000000) (disch := omega) only [step, stepv, ev, wl, wn, wp, wz, aop, cV, cV1, AV.one, partCells, okW, onlyFr, app, sliceCells, cellsAt, srcA, subA, eqFs, Int.cast_ofNat_Int, simprocAttr, cuts]
    refine ⟨⟨[(8, .int .i64 0), (7, .ref 3 1 0), (6, .ref 2 1 0), (4, .cell [.int .i64 l0, .int .i64 l1, .int .u64 l2, .int .u64 l3]), (3, .ref 0 1 0)], _⟩, Le.still [1] 1 (by simp [Am.look, frzK, frzL, frzV, dlC, isDL, isD]), ?_⟩
    simp (maxSteps := 4000000) (disch := omega) only [step, stepv, ev, wl, wn, wp, wz, aop, cV, cV1, AV.one, partCells, okW, onlyFr, app, sliceCells, cellsAt, srcA, subA, eqFs, Int.cast_ofNat_Int, simprocAttr, resA, ht, ht0, oneOf, dlC, stillAt]
    simp [frzN, frzK, frzL, frzV, frzL_T _ tl]

end Go.Am

namespace Go.Am
open Go.RowKit

/-! ### Bits are put behind bits, one by one: enframe -/

theorem Low.putB {ob : List Ob} (h : Low ob.length ob) {t t0 t2 o p N V N' n C : Nat} (ho : o < ob.length) : Low (ob.length + 1) (upd2 ob o p (bY t0 N V) (bO t o N') ++ [⟨t2, 2, 1, [.list (nB n) (u8 (leB C (nB n))), .int .i64 n], 0⟩]) :=
  ((h.put ho).mono (by omega)).append (Low.cons (by simp [lowL, lowV, lowL_D _ (isDL_leB _ _)]) Low.nil)

set_option maxHeartbeats 1000000 in
theorem enframe_put {P : Prg} {f t0 t1 : Nat} (bd : Body P f 64 [] (ac_enframe_put t0 t1)) {ob : List Ob} {t p o N V C n : Nat} (hp : ob[p]? = some (bO t o N)) (ho : ob[o]? = some (bY t1 N V)) (hpo : p ≠ o) (hV : V < 2 ^ N) (hC : C < 2 ^ n) (hn : n ≤ 1000) (hN : N + n ≤ 400000) (hfz : Low ob.length ob)
    {K : AV → List Ob → Prop} (hK : K (.tup []) (upd2 ob o p (bY t1 (N + n) (V + 2 ^ N * C)) (bO t o (N + n)))) : ACall P f [.ref p 1 0, bA n C] ob K := by
  have hol : o < ob.length := (List.getElem?_eq_some_iff.1 ho).1
  have hpl : p < ob.length := (List.getElem?_eq_some_iff.1 hp).1
  refine ACall.low (ACall.of_body bd (by simp) ?_)
  have g0 : ∀ x y J, (upd2 ob o p x y ++ J)[p]? = some y := fun x y J => by rw [List.getElem?_append_left (by rw [upd2_len]; exact hpl)]; exact upd2_gp hpl
  have g1 : ∀ x y J, (upd2 ob o p x y ++ J)[o]? = some x := fun x y J => by rw [List.getElem?_append_left (by rw [upd2_len]; exact hol)]; exact upd2_go hol hpo
  have g2 : ∀ x y J y', (upd2 ob o p x y ++ J).set p y' = upd2 ob o p x y' ++ J := fun x y J y' => by rw [List.set_append_left _ _ (by rw [upd2_len]; exact hpl), upd2_p]
  have g3 : ∀ x y J x', (upd2 ob o p x y ++ J).set o x' = upd2 ob o p x' y ++ J := fun x y J x' => by rw [List.set_append_left _ _ (by rw [upd2_len]; exact hol), upd2_o hpo]
  have g4 : ∀ x y (J : List Ob), (upd2 ob o p x y ++ J)[ob.length]? = J[0]? := fun x y J => by rw [List.getElem?_append_right (by rw [upd2_len]; exact Nat.le_refl _), upd2_len, Nat.sub_self]
  have g5 : ∀ x y (J : List Ob), (upd2 ob o p x y ++ J)[ob.length + 1]? = J[1]? := fun x y J => by rw [List.getElem?_append_right (by rw [upd2_len]; omega), upd2_len, Nat.add_sub_cancel_left]
  have ln : ∀ x y, (upd2 ob o p x y).length = ob.length := fun x y => upd2_len
  have hs : ob = upd2 ob o p (bY t1 N V) (bO t o N) := (upd2_same ho hp hpo).symm
  simp (maxSteps := 4000000) (disch := omega) only [step, stepv, ev, wl, wn, wp, wz, aop, cV, cV1, AV.one, partCells, okW, onlyFr, app, sliceCells, cellsAt, srcA, subA, eqFs, Int.cast_ofNat_Int, simprocAttr, ac_enframe_put, bA, getJ0]
  refine ALoop.by (ι := Nat) (fun j => ⟨[(8, .int .i64 j), (7, .int .i64 n), (3, .ref ob.length 1 0), (0, .ref p 1 0)], upd2 ob o p (bY t1 (N + j) (V + 2 ^ N * (C % 2 ^ j))) (bO t o (N + j)) ++ [⟨t0, 2, 1, [.list (nB n) (u8 (leB C (nB n))), .int .i64 n], 0⟩]⟩) (fun j => j ≤ n) (fun j => n - j) 0 ?_ (by omega) ?_
  · rw [Nat.add_zero, Nat.pow_zero, Nat.mod_one, Nat.mul_zero, Nat.add_zero, ← hs]
    exact Le.slots (by simp [Am.look])
  intro j hj
  by_cases hlt : j < n
  · obtain ⟨M, hM⟩ : ∃ M, M = N + j := ⟨_, rfl⟩
    obtain ⟨i, hi⟩ : ∃ i, i = M / 8 := ⟨_, rfl⟩
    obtain ⟨a, ha⟩ : ∃ a, a = M % 8 := ⟨_, rfl⟩
    obtain ⟨q, hq⟩ : ∃ q, q = j / 8 := ⟨_, rfl⟩
    obtain ⟨r, hr⟩ : ∃ r, r = j % 8 := ⟨_, rfl⟩
    obtain ⟨b, hb0⟩ : ∃ b, b = C / 2 ^ j % 2 := ⟨_, rfl⟩
    have hM8 : M = 8 * i + a := by omega
    have hj8 : 8 * q + r = j := by omega
    have hb : b < 2 := by rw [hb0]; exact Nat.mod_lt _ (by decide)
    have hW : V + 2 ^ N * (C % 2 ^ j) < 2 ^ M := by
      rw [hM]
      exact lt_append hV (Nat.mod_lt _ (Nat.pow_pos (by omega)))
    have hstep := putN (V := V) (N := N) (v := C) (j := j) (r := 1)
    rw [← hM, Nat.pow_one, ← hb0] at hstep
    have hat := leB_at (V := C) (k := nB n) (i := q) (by unfold nB; omega)
    have hbit := bit_at C q r (by omega)
    rw [hj8, ← hb0] at hbit
    have hby : C / 256 ^ q % 256 < 256 := Nat.mod_lt _ (by decide)
    have s1 : shiftA false .u8 ((C / 256 ^ q % 256 : Nat) : Int) (r : Int) = some (.int .u8 ((C / 256 ^ q % 256 / 2 ^ r : Nat) : Int)) := shrK (K := .u8) (by show r ≤ 8; omega)
    have hle : C / 256 ^ q % 256 / 2 ^ r ≤ C / 256 ^ q % 256 := Nat.div_le_self _ _
    have s2 : IntKind.u8.wrap (BitVec.ofInt IntKind.u8.bits ((C / 256 ^ q % 256 / 2 ^ r : Nat) : Int) &&& BitVec.ofInt IntKind.u8.bits ((1 : Nat) : Int)).toNat = ((b : Nat) : Int) := by
      rw [andK (K := .u8) rfl (by show _ < 256; omega) (by decide), Nat.and_one_is_mod, hbit]
    have s2' : IntKind.u8.wrap (BitVec.ofInt IntKind.u8.bits ((C / 256 ^ q % 256 / 2 ^ r : Nat) : Int) &&& BitVec.ofInt IntKind.u8.bits 1).toNat = ((b : Nat) : Int) := s2
    generalize C / 256 ^ q % 256 / 2 ^ r = y1 at *
    generalize C / 256 ^ q % 256 = y0 at *
    rw [← hM]
    have hq1 : (j : Int) / 8 = (q : Int) := by omega
    have hr1 : (j : Int) % 8 = (r : Int) := by omega
    have hi1 : (M : Int) / 8 = (i : Int) := by omega
    have ha1 : (M : Int) % 8 = (a : Int) := by omega
    have hnq : q < nB n := by unfold nB; omega
    generalize V + 2 ^ N * (C % 2 ^ j) = W at *
    generalize hWW : V + 2 ^ N * (C % 2 ^ (j + 1)) = W' at *
    have h2a : 2 ^ a ≤ 2 ^ 7 := Nat.pow_le_pow_right (by omega) (by omega)
    have hpos : 0 < 2 ^ a := Nat.pow_pos (by omega)
    obtain ⟨l1, l2⟩ := bits_last (V := W) (i := i) (at_ := a) (by rw [← hM8]; exact hW) (by omega)
    obtain ⟨b1, b2, _⟩ := bits_put_plain (V := W) (i := i) (at_ := a) (w := b) (r := 1) (by rw [← hM8]; exact hW) (by omega) (by omega)
    rw [← hM8, ← hstep] at b1
    have hyb : W / 256 ^ i < 256 := by omega
    have hyb2 : W / 256 ^ i + 2 ^ a * b < 256 := by
      have : 2 ^ (a + 1) ≤ 2 ^ 8 := Nat.pow_le_pow_right (by omega) (by omega)
      omega
    have hca : b * 2 ^ a < 2 ^ 8 := by
      rcases (by omega : b = 0 ∨ b = 1) with rfl | rfl <;> omega
    have hu : ∀ y, y < 256 → u8 [UInt8.ofNat y] = [.int .u8 (y : Int)] := fun y hy => by simp [u8]; omega
    have e8 : IntKind.u8.wrap (BitVec.ofInt IntKind.u8.bits ((W / 256 ^ i : Nat) : Int) ||| BitVec.ofInt IntKind.u8.bits ((b * 2 ^ a : Nat) : Int)).toNat = ((W / 256 ^ i + 2 ^ a * b : Nat) : Int) := by
      rw [orK (K := .u8) rfl hyb hca, or_add l2, Nat.mul_comm]
    have e7 : shiftA true .u8 (b : Int) (a : Int) = some (.int .u8 ((b * 2 ^ a : Nat) : Int)) := shlK rfl (by show a ≤ 8; omega) hca
    have hnB : nB (M + 1) = i + 1 := by unfold nB; omega
    have hcell : u8 (leB W' (i + 1)) = u8 (leB W i) ++ [.int .u8 ((W / 256 ^ i + 2 ^ a * b : Nat) : Int)] := by
      rw [b1, show u8 (leB W i ++ [UInt8.ofNat (W / 256 ^ i + 2 ^ a * b)]) = u8 (leB W i) ++ u8 [UInt8.ofNat (W / 256 ^ i + 2 ^ a * b)] by simp [u8]]
      rw [hu _ hyb2]
    have hlen : (u8 (leB W i)).length = i := by simp [u8, leB_length]
    generalize W / 256 ^ i + 2 ^ a * b = y' at *
    generalize b * 2 ^ a = ca at *
    have d1 : ∀ z : AV, (u8 (leB W i) ++ [z]).drop i = [z] := fun z => by rw [List.drop_left' hlen]
    have d2 : ∀ z : AV, (u8 (leB W i) ++ [z]).take i = u8 (leB W i) := fun z => by rw [List.take_left' hlen]
    have d3 : ∀ z : AV, (u8 (leB W i) ++ [z]).drop (i + 1) = [] := fun z => List.drop_of_length_le (by simp [hlen])
    have el : (⟨t1, 1, i + 1, u8 (leB W i) ++ [.int .u8 (y' : Int)], 0⟩ : Ob) = bY t1 (M + 1) W' := by rw [bY, hnB, hcell]
    have er : (⟨t, 2, 1, [.own o (i + 1), .int .i64 ((M : Int) + 1)], 0⟩ : Ob) = bO t o (M + 1) := by rw [bO, hnB, Int.natCast_add]; rfl
    have hMr : N + (j + 1) = M + 1 := by omega
    have hcl : (u8 (leB C (nB n))).length = nB n := by simp [u8, leB_length]
    by_cases h0 : a = 0
    · subst h0
      have hnM : nB M = i := by unfold nB; omega
      have hW0 : W / 256 ^ i = 0 := by
        have := l2
        rw [Nat.pow_zero] at this
        exact Nat.lt_one_iff.1 this
      rw [hW0] at e8
      have e8' : IntKind.u8.wrap (BitVec.ofInt IntKind.u8.bits 0 ||| BitVec.ofInt IntKind.u8.bits (ca : Int)).toNat = (y' : Int) := e8
      have e7' : shiftA true .u8 (b : Int) 0 = some (.int .u8 (ca : Int)) := e7
      have ha1' : (M : Int) % 8 = 0 := ha1
      simp (maxSteps := 4000000) (disch := omega) only [step, stepv, ev, wl, wn, wp, wz, aop, cV, cV1, AV.one, partCells, okW, onlyFr, app, sliceCells, cellsAt, srcA, subA, eqFs, Int.cast_ofNat_Int, simprocAttr, bO, bY, g0, g1, g2, g3, g4, g5, ln, hnM, hlen, hcl, hat, s1, s2', e7', e8', hq1, hr1, hi1, ha1', d1, d2, d3, List.append_assoc, List.cons_append, List.nil_append]
      refine ⟨j + 1, by omega, by omega, ?_⟩
      show Le ob.length _ ⟨[(8, .int .i64 ((j + 1 : Nat) : Int)), (7, .int .i64 n), (3, .ref ob.length 1 0), (0, .ref p 1 0)], upd2 ob o p (bY t1 (N + (j + 1)) (V + 2 ^ N * (C % 2 ^ (j + 1)))) (bO t o (N + (j + 1))) ++ [⟨t0, 2, 1, [.list (nB n) (u8 (leB C (nB n))), .int .i64 n], 0⟩]⟩
      rw [hWW, hMr, el, er, List.append_cons]
      have hl : (upd2 ob o p (bY t1 (M + 1) W') (bO t o (M + 1)) ++ [⟨t0, 2, 1, [.list (nB n) (u8 (leB C (nB n))), .int .i64 n], 0⟩] : List Ob).length = ob.length + 1 := by simp [ln]
      exact Le.low (by rw [hl]; omega) (by rw [hl]; exact hfz.putB hol) (by rw [hl]; simp [Am.look, lowV, Nat.lt_succ_of_lt hpl])
    · have hnM : nB M = i + 1 := by unfold nB; omega
      have l3 : u8 (leB W (i + 1)) = u8 (leB W i) ++ [.int .u8 ((W / 256 ^ i : Nat) : Int)] := by
        rw [l1, show u8 (leB W i ++ [UInt8.ofNat (W / 256 ^ i)]) = u8 (leB W i) ++ u8 [UInt8.ofNat (W / 256 ^ i)] by simp [u8], hu _ hyb]
      have ha0 : (a : Int) ≠ 0 := by omega
      generalize W / 256 ^ i = y at *
      simp (maxSteps := 4000000) (disch := omega) only [step, stepv, ev, wl, wn, wp, wz, aop, cV, cV1, AV.one, partCells, okW, onlyFr, app, sliceCells, cellsAt, srcA, subA, eqFs, Int.cast_ofNat_Int, simprocAttr, bO, bY, g0, g1, g2, g3, g4, g5, ln, hnM, hlen, hcl, l3, hat, s1, s2', e7, e8, hq1, hr1, hi1, ha1, d1, d2, d3, List.append_assoc, List.cons_append, List.nil_append]
      refine ⟨j + 1, by omega, by omega, ?_⟩
      show Le ob.length _ ⟨[(8, .int .i64 ((j + 1 : Nat) : Int)), (7, .int .i64 n), (3, .ref ob.length 1 0), (0, .ref p 1 0)], upd2 ob o p (bY t1 (N + (j + 1)) (V + 2 ^ N * (C % 2 ^ (j + 1)))) (bO t o (N + (j + 1))) ++ [⟨t0, 2, 1, [.list (nB n) (u8 (leB C (nB n))), .int .i64 n], 0⟩]⟩
      rw [hWW, hMr, el, er]
      exact Le.slots (by simp [Am.look])
  · obtain rfl : j = n := by omega
    rw [Nat.mod_eq_of_lt hC]
    simp (maxSteps := 4000000) (disch := omega) only [step, stepv, ev, wl, wn, wp, wz, aop, cV, cV1, AV.one, partCells, okW, onlyFr, app, sliceCells, cellsAt, srcA, subA, eqFs, Int.cast_ofNat_Int, simprocAttr]
    exact ⟨upd2 ob o p (bY t1 (N + j) (V + 2 ^ N * C)) (bO t o (N + j)), _, rfl, by rw [ln]; exact Nat.le_refl _, by rw [ln]; exact hfz.put hol, by rfl, hK⟩

end Go.Am

namespace Go.Am
open Go.RowKit

/-! ### What is mixed is unmixed, what is stepped is stepped back (plain) -/

theorem cfwdY_rng (c : Chan) (x : Int) : -2147483648 ≤ cfwdY c x ∧ cfwdY c x ≤ 2147483647 := w32_rng _

end Go.Am

namespace Go.Am
open Go.RowKit

/-! ### Frames: coded and decoded (plain) -/

def valE (c : Nat) (x : Int) (t l : List Int) : List Nat := (outT c (mixAll c l) (newC x t) l.length).map Int.toNat
def encB (c : Nat) (x : Int) (t l : List Int) : List UInt8 := sealB (frmB c (valE c x t l))

theorem outT_U32 (c : Nat) (L : List Int) (z : Chan) (a : Nat) : U32 (outT c L z a) := by
  intro y hy
  simp only [outT, List.mem_map] at hy
  obtain ⟨j, _, rfl⟩ := hy
  exact foldN_rng (cfwdY_rng _ _)
theorem iL_toNat {v : List Int} (h : U32 v) : iL (v.map Int.toNat) = v := by
  unfold iL
  rw [List.map_map]
  conv => rhs; rw [← List.map_id v]
  apply List.map_congr_left
  intro y hy
  have := h y hy
  simp; omega
theorem N32_toNat {v : List Int} (h : U32 v) : N32 (v.map Int.toNat) := by
  intro y hy
  simp only [List.mem_map] at hy
  obtain ⟨z, hz, rfl⟩ := hy
  have := h z hz
  omega
theorem valE_len (c : Nat) (x : Int) (t l : List Int) : (valE c x t l).length = l.length := by simp [valE, outT_len]
theorem valE_ok (c : Nat) (x : Int) (t l : List Int) : N32 (valE c x t l) := N32_toNat (outT_U32 _ _ _ _)
theorem iL_valE (c : Nat) (x : Int) (t l : List Int) : iL (valE c x t l) = outT c (mixAll c l) (newC x t) l.length := iL_toNat (outT_U32 _ _ _ _)

theorem seal_take (p : List UInt8) : (sealB p).take ((sealB p).length - 4) = p := by rw [sealB_len, Nat.add_sub_cancel, sealB, List.take_left' rfl]
theorem seal_drop (p : List UInt8) : (sealB p).drop ((sealB p).length - 4) = leB (sumM p) 4 := by rw [sealB_len, Nat.add_sub_cancel, sealB, List.drop_left' rfl]
theorem open_seal {p : List UInt8} (h : 1 ≤ p.length) (h2 : p.length ≤ 41250) : openM (sealB p) = 0 := by
  unfold openM
  rw [seal_take, seal_drop, sealB_len, if_neg (by omega), if_neg (by omega), leN_leB 4 _ (sumM_lt p), if_pos rfl]
theorem open_inv {b : List UInt8} (h : openM b = 0) : b = sealB (b.take (b.length - 4)) ∧ 5 ≤ b.length ∧ b.length ≤ 41254 := by
  unfold openM at h
  split at h
  · omega
  split at h
  · omega
  split at h
  · rename_i h1 h2 h3
    exact ⟨((sealed_iff (by omega)).2 h3).symm, by omega, by omega⟩
  · omega
theorem frmB_bounds {c : Nat} {v : List Nat} (h : N32 v) (h1 : 1 ≤ v.length) (h2 : v.length ≤ 4000) : 1 ≤ (frmB c v).length ∧ (frmB c v).length ≤ 40500 := by
  obtain ⟨_, q2, q3⟩ := frm_bounds (c := c) h v.length
  rw [frmB_len]
  unfold nB
  omega
theorem ask_all {c x : Int} {l : List Int} (hI : I32 l) (h : askN c x l = 0) : ∃ k m : Nat, c = k ∧ okM k l ∧ half x ≠ 0 ∧ eCheck c x = 0 ∧ checkN x l = 0 ∧ l.length = m * k ∧ 1 ≤ m ∧ (l.length : Int) / c = m ∧ ask21 c x ((l.length : Int) / c) = 0 := by
  obtain ⟨k, rfl, hk, hx⟩ := ask_okM hI h
  have hk' := hk
  obtain ⟨h1, h2, h3, h4, h5, _⟩ := hk'
  have e1 : eCheck k x = 0 := by
    rcases eCheck_cases k x with q | ⟨q, _⟩
    · rw [ask_err q] at h; omega
    · exact q
  have e2 : checkN x l = 0 := by
    rcases Int.decEq (checkN x l) 0 with q | q
    · rw [ask_chk e1 q] at h; exact absurd h q
    · exact q
  have e3 : l.length = l.length / k * k := by have := Nat.div_add_mod l.length k; rw [Nat.mul_comm] at this; omega
  have e4 : 1 ≤ l.length / k := by
    rcases Nat.eq_zero_or_pos (l.length / k) with q | q
    · rw [q] at e3; omega
    · exact q
  have e5 : (l.length : Int) / (k : Int) = ((l.length / k : Nat) : Int) := by rw [Int.natCast_ediv]
  refine ⟨k, l.length / k, rfl, hk, hx, e1, e2, e3, e4, e5, ?_⟩
  have e6 : l.length / k ≤ 4000 / k := Nat.div_le_div_right h4
  have e7 : (4000 : Int) / (k : Int) = ((4000 / k : Nat) : Int) := by rw [Int.natCast_ediv]; rfl
  unfold ask21
  rw [if_neg (by omega), e5, e7, if_neg (by omega), if_neg (by omega)]

end Go.Am

namespace Go.Am
open Go.RowKit

/-! ### First states; slices of bytes joined -/

def S_eStates (P : Prg) (f : Nat) : Prop := VC P f [] (.agg (sixD fun _ => startM))
theorem enframe_states {P : Prg} {f fS t0 : Nat} (bd : Body P f 11 [.cell 0 t0] (ac_enframe_states fS t0)) (hS : S_Start P fS) (ht : aggO P t0 = some (some 24)) : S_eStates P f := by
  refine VC.of_acall rfl rfl (ACall.of_body bd (by simp) ?_)
  simp only [S_Start, startM, dlA, dlC] at hS
  simp (maxSteps := 4000000) (disch := omega) only [step, stepv, ev, wl, wn, wp, wz, aop, cV, cV1, AV.one, partCells, okW, onlyFr, app, sliceCells, cellsAt, srcA, subA, eqFs, Int.cast_ofNat_Int, simprocAttr, ac_enframe_states]
  refine ALoop.by (ι := Nat) (fun i => ⟨[(3, .int .i64 i), (1, .ref 1 1 0), (0, .ref 0 1 0)],
      [⟨t0, 24, 1, sixD (fun _ => ⟨0, 0, 0, 0⟩), 0⟩, ⟨t0, 24, 1, sixD (fun j => if j < i then startM else ⟨0, 0, 0, 0⟩), 0⟩]⟩) (fun i => i ≤ 6) (fun i => 6 - i) 0 (Le.slots (by simp [Am.look])) (by omega) ?_
  intro i hi
  by_cases hlt : i < 6
  · have e1 := sixD_set (fun j => if j < i then startM else ⟨0, 0, 0, 0⟩) hlt startM
    have e2 : updD (fun j => if j < i then startM else ⟨0, 0, 0, 0⟩) i startM = fun j => if j < i + 1 then startM else ⟨0, 0, 0, 0⟩ := by
      funext j
      unfold updD
      by_cases h1 : j = i
      · subst h1; simp
      · by_cases h2 : j < i
        · simp [h1, h2, show j < i + 1 by omega]
        · simp [h1, h2, show ¬ j < i + 1 by omega]
    rw [e2] at e1
    have e3 := sixD_len (fun j => if j < i then startM else ⟨0, 0, 0, 0⟩)
    simp (maxSteps := 4000000) (disch := omega) only [step, stepv, ev, wl, wn, wp, wz, aop, cV, cV1, AV.one, partCells, okW, onlyFr, app, sliceCells, cellsAt, srcA, subA, eqFs, Int.cast_ofNat_Int, simprocAttr]
    refine callQ.vc hS ?_
    generalize hF : sixD (fun j => if j < i then startM else ⟨0, 0, 0, 0⟩) = F at *
    have e1' : F.take (i * 4) ++ [.int .i64 10, .int .i64 10, .int .u64 16384, .int .u64 16384] ++ F.drop (i * 4 + 4) = sixD fun j => if j < i + 1 then startM else ⟨0, 0, 0, 0⟩ := e1
    generalize sixD (fun _ => (⟨0, 0, 0, 0⟩ : Dl)) = Z
    simp (maxSteps := 4000000) (disch := omega) only [step, stepv, ev, wl, wn, wp, wz, aop, cV, cV1, AV.one, partCells, okW, onlyFr, app, sliceCells, cellsAt, srcA, subA, eqFs, Int.cast_ofNat_Int, simprocAttr, e3]
    refine ⟨i + 1, by omega, by omega, ?_⟩
    rw [e1']
    exact Le.slots (by simp [Am.look])
  obtain rfl : i = 6 := by omega
  have z1 : sixD (fun j => if j < 6 then startM else ⟨0, 0, 0, 0⟩) = sixD (fun _ => startM) := rfl
  have z2 := sixD_len fun _ => startM
  have z3 := sixD_len fun _ => (⟨0, 0, 0, 0⟩ : Dl)
  rw [z1]
  have z4 : (sixD fun _ => startM).all AV.one = true := rfl
  have z5 : (sixD fun _ => startM).take 24 = sixD fun _ => startM := rfl
  have z6 : (sixD fun _ => (⟨0, 0, 0, 0⟩ : Dl)).drop 24 = [] := rfl
  generalize (sixD fun _ => (⟨0, 0, 0, 0⟩ : Dl)) = Z at *
  generalize (sixD fun _ => startM) = S at *
  simp (maxSteps := 4000000) (disch := omega) only [step, stepv, ev, wl, wn, wp, wz, aop, cV, cV1, AV.one, partCells, okW, onlyFr, app, sliceCells, cellsAt, srcA, subA, eqFs, Int.cast_ofNat_Int, simprocAttr, resA, ht, oneOf, z2, z3, z4, z5, z6, List.take_zero, List.nil_append, List.append_nil]

def partsA (L : List (List UInt8)) : AV := .list L.length (L.map bs)
def S_Concat (P : Prg) (f : Nat) : Prop := ∀ L : List (List UInt8), L.length ≤ 1000000 → 0 < L.flatten.length → L.flatten.length ≤ 1000000 → VC P f [partsA L] (bs L.flatten)
def S_GrowNil (t : Nat) (P : Prg) (f : Nat) : Prop := ∀ (ob : List Ob) (n : Nat) (z : Bool) (K : AV → List Ob → Prop), 0 < n → n ≤ 140737488355328 → K (.own ob.length 0) (ob ++ [⟨t, 1, 0, [], 0⟩]) → ACall P f [.emp z, .int .i64 n] ob K
theorem grow_nil {P : Prg} {f t : Nat} {ρ : Go.Shelf.Ren} (L : Go.Proofs.Lays8.n4 P.prog ρ) (hf : ρ.f 4 = f) (ht : ρ.t 25 = t) (h25 : (P.prog.info? t).map (fun i => (i.zero, i.size, i.bytes)) = some (some (.int .u8 0), 1, 1)) : S_GrowNil t P f := by
  intro ob n z K h1 h2 hK
  subst hf; subst ht
  exact ACall.grow_nil L h25 h1 h2 hK
theorem flat_take {L : List (List UInt8)} {k : Nat} (h : k < L.length) : (L.take (k + 1)).flatten = (L.take k).flatten ++ L.getD k [] := by
  rw [List.take_succ_eq_append_getElem h, List.flatten_append, List.getD_eq_getElem?_getD, List.getElem?_eq_getElem h]
  simp
theorem flat_le (L : List (List UInt8)) (k : Nat) : (L.take k).flatten.length ≤ L.flatten.length := by
  conv => rhs; rw [← List.take_append_drop k L, List.flatten_append, List.length_append]
  omega
theorem slices_Concat {P : Prg} {f fG t0 : Nat} (bd : Body P f 36 [.tmp 2] (ac_slices_Concat_byte_byte fG t0)) (hG : S_GrowNil t0 P fG) : S_Concat P f := by
  intro L hL h0 h1
  refine VC.of_walk 1 (by simp [isDL, isD, partsA, isDL_bss]) (isD_bs _) (ACall.of_body bd (by simp) ?_)
  have hat : ∀ k, k < L.length → (L.map bs).drop k = bs (L.getD k []) :: (L.map bs).drop (k + 1) := fun k hk => by
    rw [List.drop_eq_getElem_cons (by simpa using hk)]
    simp [List.getD_eq_getElem?_getD, List.getElem?_eq_getElem hk]
  have hml : (L.map bs).length = L.length := by simp
  simp only [bs] at hat
  simp (maxSteps := 4000000) (disch := omega) only [step, stepv, ev, wl, wn, wp, wz, aop, cV, cV1, AV.one, partCells, okW, onlyFr, app, sliceCells, cellsAt, srcA, subA, eqFs, Int.cast_ofNat_Int, simprocAttr, ac_slices_Concat_byte_byte, partsA]
  refine ALoop.by (ι := Nat) (fun k => ⟨[(11, .int .i64 k), (10, .int .i64 L.length), (9, .list L.length (L.map bs)), (3, .int .i64 (L.take k).flatten.length), (0, .list L.length (L.map bs))], []⟩) (fun k => k ≤ L.length) (fun k => L.length - k) 0 (Le.slots (by simp [Am.look])) (by omega) ?_
  intro k hk
  by_cases hlt : k < L.length
  · have ha := hat k hlt
    have hf := flat_take hlt
    have hle := flat_le L (k + 1)
    rw [hf, List.length_append] at hle
    have hl : ((L.take (k + 1)).flatten.length : Int) = (L.take k).flatten.length + (L.getD k []).length := by rw [hf]; simp
    generalize (L.take k).flatten.length = s at *
    generalize L.getD k [] = x at *
    simp (maxSteps := 4000000) (disch := omega) only [step, stepv, ev, wl, wn, wp, wz, aop, cV, cV1, AV.one, partCells, okW, onlyFr, app, sliceCells, cellsAt, srcA, subA, eqFs, Int.cast_ofNat_Int, simprocAttr, ha, hml]
    exact ⟨k + 1, by omega, by omega, by simp only [hl]; exact Le.slots (by simp [Am.look])⟩
  obtain rfl : k = L.length := by omega
  rw [List.take_length]
  have hG' := fun K hK => hG [] L.flatten.length true K h0 (by omega) hK
  simp (maxSteps := 4000000) (disch := omega) only [step, stepv, ev, wl, wn, wp, wz, aop, cV, cV1, AV.one, partCells, okW, onlyFr, app, sliceCells, cellsAt, srcA, subA, eqFs, Int.cast_ofNat_Int, simprocAttr]
  refine hG' _ ?_
  simp (maxSteps := 4000000) (disch := omega) only [step, stepv, ev, wl, wn, wp, wz, aop, cV, cV1, AV.one, partCells, okW, onlyFr, app, sliceCells, cellsAt, srcA, subA, eqFs, Int.cast_ofNat_Int, simprocAttr]
  refine ALoop.by (ι := Nat) (fun k => ⟨[(27, .int .i64 k), (26, .int .i64 L.length), (25, .list L.length (L.map bs)), (6, .own 0 (L.take k).flatten.length)], [⟨t0, 1, (L.take k).flatten.length, u8 (L.take k).flatten, 0⟩]⟩) (fun k => k ≤ L.length) (fun k => L.length - k) 0 (Le.slots (by simp [Am.look])) (by omega) ?_
  intro k hk
  by_cases hlt : k < L.length
  · have ha := hat k hlt
    have hf := flat_take hlt
    have hle := flat_le L (k + 1)
    rw [hf, List.length_append] at hle
    have hl : (L.take (k + 1)).flatten.length = (L.take k).flatten.length + (L.getD k []).length := by rw [hf]; simp
    have hu : u8 (L.take (k + 1)).flatten = u8 (L.take k).flatten ++ u8 (L.getD k []) := by rw [hf, u8_append]
    have hc : (u8 (L.take k).flatten).length = (L.take k).flatten.length := u8_length _
    have hx : (u8 (L.getD k [])).length = (L.getD k []).length := u8_length _
    generalize u8 (L.take k).flatten = cs at *
    generalize (L.take k).flatten.length = s at *
    generalize u8 (L.getD k []) = us at *
    generalize (L.getD k []).length = xl at *
    simp (maxSteps := 4000000) (disch := omega) only [step, stepv, ev, wl, wn, wp, wz, aop, cV, cV1, AV.one, partCells, okW, onlyFr, app, sliceCells, cellsAt, srcA, subA, eqFs, Int.cast_ofNat_Int, simprocAttr, ha, hml, hc, hx]
    exact ⟨k + 1, by omega, by omega, by rw [hl, hu]; exact Le.slots (by simp [Am.look])⟩
  obtain rfl : k = L.length := by omega
  rw [List.take_length]
  simp (maxSteps := 4000000) (disch := omega) only [step, stepv, ev, wl, wn, wp, wz, aop, cV, cV1, AV.one, partCells, okW, onlyFr, app, sliceCells, cellsAt, srcA, subA, eqFs, Int.cast_ofNat_Int, simprocAttr]
  simp [frzN, frzK, frzL, frzV, frzL_T _ (isT_u8 _), bs]

end Go.Am

namespace Go.Am
open Go.RowKit

/-! ### Frames are coded: Encode, Length -/

theorem u32L_valE (c : Nat) (x : Int) (t l : List Int) : u32L (outT c (mixAll c l) (newC x t) l.length) = .list l.length (ks .u32 ((valE c x t l).map fun n : Nat => (n : Int))) := by
  have := iL_valE c x t l
  unfold iL at this
  rw [this, u32L, outT_len]
theorem upd_chan {c i : Nat} {v : List Nat} (hc : 1 ≤ c) (hi : i < v.length) : updD (fun j => if j < c then chanM c j (v.take i) else startM) (i % c) (learnM (chanM c (i % c) (v.take i)) (v.getD i 0)) = fun j => if j < c then chanM c j (v.take (i + 1)) else startM := by
  have ht : v.take (i + 1) = v.take i ++ [v.getD i 0] := by
    rw [List.take_succ_eq_append_getElem hi]
    simp [List.getD_eq_getElem?_getD, List.getElem?_eq_getElem hi]
  have hl : (v.take i).length = i := by simp; omega
  have hr : i % c < c := Nat.mod_lt _ (by omega)
  funext j
  unfold updD
  rw [ht]
  by_cases hj : j = i % c
  · subst hj
    rw [if_pos rfl, if_pos hr, chan_snoc, if_pos (by rw [hl])]
  · rw [if_neg hj]
    by_cases hjc : j < c
    · simp only [hjc, if_true]
      rw [chan_snoc, if_neg (by rw [hl]; exact fun e => hj e.symm)]
    · simp only [hjc, if_false]

def enfA (c x : Int) (t l : List Int) : AV := if askN c x l ≠ 0 then .tup [.list 0 [], .int .i64 (askN c x l)] else .tup [bs (encB c.toNat x t l), .int .i64 0]
theorem isD_enfA (c x : Int) (t l : List Int) : isD (enfA c x t l) = true := by unfold enfA; split <;> simp [isD, isDL, isD_bs]
def S_Enc (P : Prg) (f : Nat) : Prop := ∀ (c x : Int) (t l : List Int), t.length = 16 → I32 t → I32 l → VC P f [shA c x, .agg (ks .i32 t), il l] (enfA c x t l)
set_option maxHeartbeats 2000000 in
set_option maxRecDepth 20000 in
theorem enframe_Encode {P : Prg} {f fV fS fW fP fC fB fK t0 t1 t2 t3 t4 t5 tp tb : Nat} (bd : Body P f 85 [.tmp 6, .tmp 7] (ac_enframe_Encode fV fS fW fP fC fB fK t0 t1 t2 t3 t4 t5)) (hV : S_EVals P fV) (hS : S_eStates P fS) (hW : S_dWrite P fW) (bP : Body P fP 64 [] (ac_enframe_put tp tb)) (hC : S_CSum P fC) (hB : S_leBytes P fB) (hK : S_Concat P fK) : S_Enc P f := by
  intro c x t l ht hI hL
  refine VC.of_walk 1 (by simp [isDL, isD, isDL_ks, isD_il, shA]) (isD_enfA _ _ _ _) (ACall.of_body bd (by simp) ?_)
  have hk : (ks .i32 t).length = 16 := by simp [ks_length, ht]
  have tt : (ks .i32 t).take 16 = ks .i32 t := take_all (by omega)
  have ot := ks_one .i32 t
  have hV' := hV c x t l ht hI hL
  unfold enfA
  by_cases h0 : askN c x l = 0
  case neg =>
    rw [valA, if_pos h0] at hV'
    rw [if_pos h0]
    rw [shA] at hV' ⊢
    simp (maxSteps := 4000000) (disch := omega) only [step, stepv, ev, wl, wn, wp, wz, aop, cV, cV1, AV.one, partCells, okW, onlyFr, app, sliceCells, cellsAt, srcA, subA, eqFs, Int.cast_ofNat_Int, simprocAttr, ac_enframe_Encode, hk, ot, tt]
    refine callQ.vc hV' ?_
    simp (maxSteps := 4000000) (disch := omega) only [step, stepv, ev, wl, wn, wp, wz, aop, cV, cV1, AV.one, partCells, okW, onlyFr, app, sliceCells, cellsAt, srcA, subA, eqFs, Int.cast_ofNat_Int, simprocAttr, h0]
    simp [frzN, frzK, frzL, frzV]
  obtain ⟨k, m, rfl, hkM, hx, e1, e2, e3, e4, e5, e6⟩ := ask_all hL h0
  obtain ⟨c1, c6, l0, l4, lm, _⟩ := hkM
  rw [valA, if_neg (by omega), Int.toNat_natCast, u32L_valE] at hV'
  rw [if_neg (by omega), Int.toNat_natCast, encB, sealB]
  have hv := valE_ok k x t l
  have hvl := valE_len k x t l
  rw [← hvl] at hV' l0 l4
  generalize valE k x t l = v at *
  rw [shA] at hV' ⊢
  have hfb := frm_bounds (c := k) hv
  have hkv : (ks .u32 (v.map fun n : Nat => (n : Int))).length = v.length := by simp [ks]
  have s24 := sixD_len fun _ => startM
  have sone : (sixD fun _ => startM).all AV.one = true := rfl
  have stk : (sixD fun _ => startM).take 24 = sixD fun _ => startM := rfl
  have z2 : (fun j => if j < k then chanM k j (v.take 0) else startM) = fun _ => startM := by
    funext j
    rw [List.take_zero]
    split <;> rfl
  simp only [S_eStates] at hS
  simp (maxSteps := 4000000) (disch := omega) only [step, stepv, ev, wl, wn, wp, wz, aop, cV, cV1, AV.one, partCells, okW, onlyFr, app, sliceCells, cellsAt, srcA, subA, eqFs, Int.cast_ofNat_Int, simprocAttr, ac_enframe_Encode, hk, ot, tt]
  refine callQ.vc hV' ?_
  simp (maxSteps := 4000000) (disch := omega) only [step, stepv, ev, wl, wn, wp, wz, aop, cV, cV1, AV.one, partCells, okW, onlyFr, app, sliceCells, cellsAt, srcA, subA, eqFs, Int.cast_ofNat_Int, simprocAttr, hkv]
  refine callQ.vc hS ?_
  generalize hS0 : (sixD fun _ => startM) = S0 at *
  simp (maxSteps := 4000000) (disch := omega) only [step, stepv, ev, wl, wn, wp, wz, aop, cV, cV1, AV.one, partCells, okW, onlyFr, app, sliceCells, cellsAt, srcA, subA, eqFs, Int.cast_ofNat_Int, simprocAttr, hkv, s24, sone, stk, List.append_nil, List.take_zero, List.nil_append]
  refine ALoop.by (ι := Nat) (fun i => ⟨[(32, .int .i64 i), (31, .int .i64 v.length), (30, .list v.length (ks .u32 (v.map fun n : Nat => (n : Int)))), (11, .ref 3 1 0), (10, .ref 2 1 0), (7, .int .i64 0), (6, .emp true), (3, .ref 0 1 0)],
      [⟨t0, 2, 1, [.int .i64 k, .int .i64 x], 0⟩, ⟨t1, 16, 1, ks .i32 t, 0⟩, ⟨t2, 24, 1, sixD (fun j => if j < k then chanM k j (v.take i) else startM), 0⟩, bO t3 4 (frmN k v i), bY tb (frmN k v i) (frmV k v i)]⟩)
    (fun i => i ≤ v.length) (fun i => v.length - i) 0 ?_ (by omega) ?_
  · simp only [z2, hS0]
    rw [frmN_zero, frmV_zero]
    refine Le.trans (Le.virtF 3 tb 1 (by decide) rfl rfl) ?_
    exact Le.slots (by simp [Am.look])
  intro i hi
  by_cases hlt : i < v.length
  · obtain ⟨r, hr⟩ : ∃ r, r = i % k := ⟨_, rfl⟩
    have hrc : r < k := by rw [hr]; exact Nat.mod_lt _ (by omega)
    have q1 : (i : Int) % k = (r : Int) := by rw [hr]; simp [Int.natCast_emod]
    have q1' : ((i : Int)).tmod (k : Int) = (r : Int) := by rw [Int.tmod_eq_emod_of_nonneg (by omega), q1]
    have hc0 : (k : Int) ≠ 0 := by omega
    obtain ⟨b1, b2, b3⟩ := hfb i
    obtain ⟨_, b5, _⟩ := hfb (i + 1)
    have hd := chan_ok (c := k) (r := r) (hv.take i)
    have hvi := hv.getD i
    have hW' := hW 0 0 (v.getD i 0) (chanM k r (v.take i)) (by decide) hvi hd (by omega)
    rw [Nat.zero_add, Nat.pow_zero, Nat.one_mul, Nat.zero_add] at hW'
    have hcl := codeC_lt (d := chanM k r (v.take i)) hvi
    have hcn := codeN_le (v := v.getD i 0) hd
    obtain ⟨rest, hg⟩ := sixD_get (fun j => if j < k then chanM k j (v.take i) else startM) (j := r) (by omega)
    simp only [hrc, if_true] at hg
    have hset := sixD_set (fun j => if j < k then chanM k j (v.take i) else startM) (j := r) (by omega) (learnM (chanM k r (v.take i)) (v.getD i 0))
    have hup := upd_chan c1 hlt
    rw [← hr] at hup
    rw [hup] at hset
    have hln := sixD_len (fun j => if j < k then chanM k j (v.take i) else startM)
    have hkat := ks_at (K := .u32) (l := v.map fun n : Nat => (n : Int)) (i := i) (by simpa using hlt)
    have hgd : (v.map fun n : Nat => (n : Int)).getD i 0 = ((v.getD i 0 : Nat) : Int) := by simp [List.getD_eq_getElem?_getD, List.getElem?_eq_getElem hlt]
    rw [hgd] at hkat
    have hsN := frmN_succ k v i
    have hsV := frmV_succ k v i
    rw [← hr] at hsN hsV
    have hb6 : frmN k v i + codeN (chanM k r (v.take i)) (v.getD i 0) ≤ 400000 := by omega
    have hD6 : isDL (sixD (fun j => if j < k then chanM k j (v.take (i + 1)) else startM)) = true := isTL_D (isTL_sixD _)
    generalize hF1 : sixD (fun j => if j < k then chanM k j (v.take (i + 1)) else startM) = F' at *
    generalize sixD (fun j => if j < k then chanM k j (v.take i) else startM) = F at *
    generalize hN0 : frmN k v i = N at *
    generalize hV0 : frmV k v i = V at *
    generalize hN1 : frmN k v (i + 1) = N1 at *
    generalize hV1 : frmV k v (i + 1) = V1 at *
    generalize hn0 : codeN (chanM k r (v.take i)) (v.getD i 0) = n at *
    generalize hC0 : codeC (chanM k r (v.take i)) (v.getD i 0) = C at *
    generalize learnM (chanM k r (v.take i)) (v.getD i 0) = d' at *
    generalize chanM k r (v.take i) = d at *
    generalize v.getD i 0 = vi at *
    obtain ⟨d0, d1, d2, d3⟩ := d
    obtain ⟨m0, m1, m2, m3⟩ := d'
    simp only [dlA, dlC, bA] at hW'
    simp only at hg hset
    have hfr : frzN (fun o => ([] : List Nat).contains o) [⟨t0, 2, 1, [.int .i64 k, .int .i64 x], 0⟩, ⟨t1, 16, 1, ks .i32 t, 0⟩, ⟨t2, 24, 1, F, 0⟩, ⟨t3, 2, 1, [.own 4 (nB N), .int .i64 N], 0⟩, bY tb N V] (0 + 1) [.agg [.emp true, .int .i64 0], .agg [.int .i64 d0, .int .i64 d1, .int .u64 d2, .int .u64 d3], .int .u32 vi] =
      some [.agg [.list (nB 0) (u8 (leB 0 (nB 0))), .int .i64 ((0 : Nat) : Int)], .agg [.int .i64 d0, .int .i64 d1, .int .u64 d2, .int .u64 d3], .int .u32 vi] := by
      simp [frzN, frzK, frzL, frzV, nB, leB, u8]
    have pt : ∀ (Q : Exit → St → Prop) os fr dst, wpQ P os Q ⟨putA fr dst (.tup []), [⟨t0, 2, 1, [.int .i64 k, .int .i64 x], 0⟩, ⟨t1, 16, 1, ks .i32 t, 0⟩, ⟨t2, 24, 1, F', 0⟩, bO t3 4 N1, bY tb N1 V1, ⟨t3, 2, 1, [.list (nB n) (u8 (leB C (nB n))), .int .i64 n], 0⟩, ⟨t4, 4, 1, [.int .i64 m0, .int .i64 m1, .int .u64 m2, .int .u64 m3], 0⟩]⟩ →
        callQ P fP [.ref 3 1 0, .agg [.list (nB n) (u8 (leB C (nB n))), .int .i64 n]] [⟨t0, 2, 1, [.int .i64 k, .int .i64 x], 0⟩, ⟨t1, 16, 1, ks .i32 t, 0⟩, ⟨t2, 24, 1, F', 0⟩, ⟨t3, 2, 1, [.own 4 (nB N), .int .i64 N], 0⟩, bY tb N V, ⟨t3, 2, 1, [.list (nB n) (u8 (leB C (nB n))), .int .i64 n], 0⟩, ⟨t4, 4, 1, [.int .i64 m0, .int .i64 m1, .int .u64 m2, .int .u64 m3], 0⟩] os Q fr dst := fun Q os fr dst h =>
      enframe_put bP (ob := [⟨t0, 2, 1, [.int .i64 k, .int .i64 x], 0⟩, ⟨t1, 16, 1, ks .i32 t, 0⟩, ⟨t2, 24, 1, F', 0⟩, ⟨t3, 2, 1, [.own 4 (nB N), .int .i64 N], 0⟩, bY tb N V, ⟨t3, 2, 1, [.list (nB n) (u8 (leB C (nB n))), .int .i64 n], 0⟩, ⟨t4, 4, 1, [.int .i64 m0, .int .i64 m1, .int .u64 m2, .int .u64 m3], 0⟩]) (t := t3) (p := 3) (o := 4) (N := N) (V := V) (C := C) (n := n) rfl rfl (by decide) b1 hcl (by omega) (by omega)
        (Low.cons (by simp [lowL, lowV]) (Low.cons (lowL_D _ (isDL_ks _ _)) (Low.cons (lowL_D _ hD6) (Low.cons (by simp [lowL, lowV]) (Low.cons (lowL_D _ (isDL_leB _ _)) (Low.cons (by simp [lowL, lowV, lowL_D _ (isDL_leB _ _)]) (Low.cons (by simp [lowL, lowV]) Low.nil)))))))
        (by rw [hsN, hsV] at h; exact h)
    simp (maxSteps := 4000000) (disch := omega) only [step, stepv, ev, wl, wn, wp, wz, aop, cV, cV1, AV.one, partCells, okW, onlyFr, app, sliceCells, cellsAt, srcA, subA, eqFs, Int.cast_ofNat_Int, simprocAttr, bO, hkat, hkv, q1, q1', hc0, hg, hln]
    refine callQ.still 0 [] hW' hfr ?_
    simp (maxSteps := 4000000) (disch := omega) only [step, stepv, ev, wl, wn, wp, wz, aop, cV, cV1, AV.one, partCells, okW, onlyFr, app, sliceCells, cellsAt, srcA, subA, eqFs, Int.cast_ofNat_Int, simprocAttr, stillAt, hkat, hkv, q1, q1', hc0, hg, hln, hset]
    refine pt _ _ _ _ ?_
    simp (maxSteps := 4000000) (disch := omega) only [step, stepv, ev, wl, wn, wp, wz, aop, cV, cV1, AV.one, partCells, okW, onlyFr, app, sliceCells, cellsAt, srcA, subA, eqFs, Int.cast_ofNat_Int, simprocAttr]
    refine ⟨i + 1, by omega, by omega, ?_⟩
    simp only [hN1, hV1, hF1]
    refine Le.low (ob := [⟨t0, 2, 1, [.int .i64 k, .int .i64 x], 0⟩, ⟨t1, 16, 1, ks .i32 t, 0⟩, ⟨t2, 24, 1, F', 0⟩, bO t3 4 N1, bY tb N1 V1]) (J := [_, _]) (Nat.zero_le _) ?_ (by simp [Am.look, lowV, lowL_D _ (isDL_ks _ _)])
    exact Low.cons (by simp [lowL, lowV]) (Low.cons (lowL_D _ (isDL_ks _ _)) (Low.cons (lowL_D _ hD6) (Low.cons (by simp [bO, lowL, lowV]) (Low.cons (lowL_D _ (isDL_leB _ _)) Low.nil))))
  · obtain rfl : i = v.length := by omega
    obtain ⟨_, b5, b6⟩ := hfb v.length
    have hfl := frmB_len k v
    have hle : nB (frmN k v v.length) ≤ 40500 := by unfold nB; omega
    have hC' := hC (frmB k v)
    rw [if_neg (by omega), ← sumM] at hC'
    have hsm := sumM_lt (frmB k v)
    have hB' := hB (sumM (frmB k v)) 4 (by omega) (by omega) hsm
    have hK' := hK [frmB k v, leB (sumM (frmB k v)) 4] (by simp) (by simp [leB_length]) (by simp [leB_length]; omega)
    have hfe : frmB k v = leB (frmV k v v.length) (nB (frmN k v v.length)) := rfl
    simp only [partsA, bs, List.map_cons, List.map_nil, List.length_cons, List.length_nil, List.flatten_cons, List.flatten_nil, List.append_nil, List.length_append, hfl, leB_length] at hC' hB' hK' ⊢
    have tfl : isTL (u8 (frmB k v)) = true := isT_u8 _
    have tfs : isTL (u8 (leB (sumM (frmB k v)) 4)) = true := isT_u8 _
    have tfa : isTL (u8 (frmB k v ++ leB (sumM (frmB k v)) 4)) = true := isT_u8 _
    have hul : (u8 (frmB k v)).length = nB (frmN k v v.length) := by rw [u8_length, hfl]
    generalize sixD (fun j => if j < k then chanM k j (v.take v.length) else startM) = F at *
    simp only [bO, bY]
    rw [← hfe]
    generalize frmB k v ++ leB (sumM (frmB k v)) 4 = R at *
    generalize leB (sumM (frmB k v)) 4 = s4 at *
    generalize sumM (frmB k v) = sm at *
    generalize frmB k v = fb at *
    generalize nB (frmN k v v.length) = nn at *
    simp (maxSteps := 4000000) (disch := omega) only [step, stepv, ev, wl, wn, wp, wz, aop, cV, cV1, AV.one, partCells, okW, onlyFr, app, sliceCells, cellsAt, srcA, subA, eqFs, Int.cast_ofNat_Int, simprocAttr]
    refine callQ.still 1 [4] hC' (by simp [frzN, frzK, frzL, frzV, frzL_T _ tfl]) ?_
    simp (maxSteps := 4000000) (disch := omega) only [step, stepv, ev, wl, wn, wp, wz, aop, cV, cV1, AV.one, partCells, okW, onlyFr, app, sliceCells, cellsAt, srcA, subA, eqFs, Int.cast_ofNat_Int, simprocAttr, stillAt]
    refine callQ.vc hB' ?_
    simp (maxSteps := 4000000) (disch := omega) only [step, stepv, ev, wl, wn, wp, wz, aop, cV, cV1, AV.one, partCells, okW, onlyFr, app, sliceCells, cellsAt, srcA, subA, eqFs, Int.cast_ofNat_Int, simprocAttr]
    refine callQ.still 2 [5, 4] hK' (by simp [frzN, frzK, frzL, frzV, frzL_T _ tfl, frzL_T _ tfs]) ?_
    simp (maxSteps := 4000000) (disch := omega) only [step, stepv, ev, wl, wn, wp, wz, aop, cV, cV1, AV.one, partCells, okW, onlyFr, app, sliceCells, cellsAt, srcA, subA, eqFs, Int.cast_ofNat_Int, simprocAttr, stillAt]
    simp [frzN, frzK, frzL, frzV, frzL_T _ tfa]

end Go.Am

namespace Go.Am
open Go.RowKit

/-! ### The reference of Encode and Length; the law EnframeBytes -/

theorem enc_le {c x : Int} {t l : List Int} (hL : I32 l) (h : askN c x l = 0) : (encB c.toNat x t l).length ≤ 40504 ∧ 5 ≤ (encB c.toNat x t l).length := by
  obtain ⟨k, m, rfl, hkM, hx, e1, e2, e3, e4, e5, e6⟩ := ask_all hL h
  obtain ⟨c1, c6, l0, l4, lm, _⟩ := hkM
  have hvl := valE_len k x t l
  have := frmB_bounds (c := k) (valE_ok k x t l) (by omega) (by omega)
  rw [Int.toNat_natCast, encB, sealB_len]
  omega
end Go.Am

namespace Go.Am
open Go.RowKit

/-! ### Bursts are found (plain) -/

theorem xor_half (a b : Nat) : (a ^^^ b) / 2 = a / 2 ^^^ b / 2 := Nat.xor_div_two
theorem crcS_lin (a b : Nat) : crcS (a ^^^ b) = crcS a ^^^ crcS b := by
  unfold crcS
  rw [xor_half]
  have h := Nat.xor_mod_two_eq_one (a := a) (b := b)
  by_cases ha : a % 2 = 1 <;> by_cases hb : b % 2 = 1
  · rw [if_pos ha, if_pos hb, if_neg (by rw [h]; simp [ha, hb])]
    rw [Nat.xor_zero, Nat.xor_assoc, ← Nat.xor_assoc 3988292384, Nat.xor_comm 3988292384, Nat.xor_assoc, Nat.xor_self, Nat.xor_zero]
  · rw [if_pos ha, if_neg hb, if_pos (by rw [h]; simp [ha, hb]), Nat.xor_zero, Nat.xor_assoc, Nat.xor_assoc, Nat.xor_comm (b / 2)]
  · rw [if_neg ha, if_pos hb, if_pos (by rw [h]; simp [ha, hb]), Nat.xor_zero, Nat.xor_assoc]
  · rw [if_neg ha, if_neg hb, if_neg (by rw [h]; simp [ha, hb]), Nat.xor_zero, Nat.xor_zero, Nat.xor_zero]
theorem crcN_lin : ∀ (k a b : Nat), crcN k (a ^^^ b) = crcN k a ^^^ crcN k b
  | 0, _, _ => rfl
  | k + 1, a, b => by rw [crcN, crcN, crcN, crcS_lin, crcN_lin k]
theorem crcS_zero {c : Nat} (h : c < 4294967296) (h0 : crcS c = 0) : c = 0 := by
  unfold crcS at h0
  split at h0
  · have h1 : c / 2 = 3988292384 := by
      have := congrArg (· ^^^ 3988292384) h0
      simpa [Nat.xor_assoc] using this
    omega
  · rw [Nat.xor_zero] at h0
    omega
theorem crcN_zero : ∀ (k : Nat) {c : Nat}, c < 4294967296 → crcN k c = 0 → c = 0
  | 0, _, _, h => h
  | k + 1, _, h, h0 => crcS_zero h (crcN_zero k (crcS_lt h) h0)
theorem crcN_nil : ∀ k : Nat, crcN k 0 = 0
  | 0 => rfl
  | k + 1 => by rw [crcN, show crcS 0 = 0 from rfl, crcN_nil k]
theorem xor_eq_zero {a b : Nat} (h : a ^^^ b = 0) : a = b := by
  have := congrArg (b ^^^ ·) h
  simp only [Nat.xor_zero] at this
  rw [Nat.xor_comm a, ← Nat.xor_assoc, Nat.xor_self, Nat.zero_xor] at this
  exact this
theorem crcN_inj {k a b : Nat} (ha : a < 4294967296) (hb : b < 4294967296) (h : crcN k a = crcN k b) : a = b := by
  have h1 : crcN k (a ^^^ b) = 0 := by rw [crcN_lin, h, Nat.xor_self]
  exact xor_eq_zero (crcN_zero k (Nat.xor_lt_two_pow (n := 32) (by omega) (by omega)) h1)
theorem crcN_add : ∀ (j k c : Nat), crcN (j + k) c = crcN k (crcN j c)
  | 0, k, c => by rw [Nat.zero_add]; rfl
  | j + 1, k, c => by rw [Nat.add_right_comm, crcN, crcN_add j, crcN]
theorem xor_add {b h : Nat} (hb : b < 256) : b + 256 * h = b ^^^ 2 ^ 8 * h := by
  have := xor_split (b + 256 * h) 8
  rw [show (2 : Nat) ^ 8 = 256 from rfl] at this ⊢
  rwa [show (b + 256 * h) % 256 = b by omega, show (b + 256 * h) / 256 = h by omega] at this
theorem crcL_eq : ∀ (l : List UInt8) (s : Nat), crcL s l = crcN (8 * l.length) (s ^^^ leN l)
  | [], s => by simp [crcL, crcN, leN]
  | b :: l, s => by
    have hb := UInt8.toNat_lt b
    have e : leN (b :: l) = b.toNat ^^^ 2 ^ 8 * leN l := by rw [← xor_add hb]; rfl
    rw [show crcL s (b :: l) = crcL (crcB s b.toNat) l from rfl, crcL_eq l, e, ← Nat.xor_assoc, List.length_cons, show 8 * (l.length + 1) = 8 + 8 * l.length by omega, crcN_add, crcN_xor]
    rfl
theorem crcL_append (s : Nat) (a b : List UInt8) : crcL s (a ++ b) = crcL (crcL s a) b := by simp [crcL, List.foldl_append]

def resR : Nat := crcN 32 4294967295
theorem xor_maxR {s : Nat} (h : s < 4294967296) : s ^^^ 4294967295 = 4294967295 - s := by
  have h1 : BitVec.allOnes 32 ^^^ BitVec.ofNat 32 s = ~~~ BitVec.ofNat 32 s := by
    apply BitVec.eq_of_getElem_eq
    intro i hi
    rw [BitVec.getElem_xor, BitVec.getElem_not, BitVec.getElem_allOnes, Bool.true_xor]
  have := congrArg BitVec.toNat h1
  rw [BitVec.toNat_xor, BitVec.toNat_not, BitVec.toNat_ofNat, BitVec.toNat_allOnes, Nat.mod_eq_of_lt (by omega)] at this
  rw [Nat.xor_comm]
  have e : (2 : Nat) ^ 32 - 1 = 4294967295 := rfl
  rw [e] at this
  rw [this]
theorem open_iff {b : List UInt8} (h : 5 ≤ b.length) (h2 : b.length ≤ 41254) : openM b = 0 ↔ crcL 4294967295 b = resR := by
  have hb : b = b.take (b.length - 4) ++ b.drop (b.length - 4) := (List.take_append_drop _ _).symm
  have hl : (b.drop (b.length - 4)).length = 4 := by simp; omega
  have hs : crcL 4294967295 (b.take (b.length - 4)) < 4294967296 := crcL_lt (by decide)
  have ht : leN (b.drop (b.length - 4)) < 4294967296 := by
    have := leN_lt (b.drop (b.length - 4))
    rw [hl] at this
    exact this
  have e1 : crcL 4294967295 b = crcN 32 (crcL 4294967295 (b.take (b.length - 4)) ^^^ leN (b.drop (b.length - 4))) := by
    conv => lhs; rw [hb]
    rw [crcL_append, crcL_eq (b.drop (b.length - 4)), hl]
  rw [e1]
  unfold openM sumM resR
  rw [if_neg (by omega), if_neg (by omega)]
  generalize crcL 4294967295 (b.take (b.length - 4)) = s at *
  generalize leN (b.drop (b.length - 4)) = t at *
  have hx := xor_maxR hs
  constructor
  · intro h3
    split at h3
    · rename_i h4
      rw [h4, ← hx, ← Nat.xor_assoc, Nat.xor_self, Nat.zero_xor]
    · omega
  · intro h3
    have h4 := crcN_inj (Nat.xor_lt_two_pow (n := 32) (by omega) (by omega)) (by decide) h3
    have h5 : t = 4294967295 - s := by
      rw [← hx, ← h4, ← Nat.xor_assoc, Nat.xor_self, Nat.zero_xor]
    rw [if_pos h5]
theorem open_burst {b b' : List UInt8} {a B : Nat} (h : openM b = 0) (hl : b'.length = b.length) (hx : leN b ^^^ leN b' = 2 ^ a * B) (h0 : B ≠ 0) (hB : B < 4294967296) (ha : a ≤ 8 * b.length) : openM b' = 22 := by
  obtain ⟨_, h1, h2⟩ := open_inv h
  have h3 := (open_iff h1 h2).1 h
  have h4 : openM b' ≠ 0 := by
    intro h4
    have h5 := (open_iff (by omega) (by omega)).1 h4
    rw [crcL_eq] at h3 h5
    rw [hl] at h5
    have h6 : crcN (8 * b.length) (leN b ^^^ leN b') = 0 := by
      have e : leN b ^^^ leN b' = (4294967295 ^^^ leN b) ^^^ (4294967295 ^^^ leN b') := by
        rw [Nat.xor_comm 4294967295 (leN b), Nat.xor_assoc, ← Nat.xor_assoc 4294967295, Nat.xor_self, Nat.zero_xor]
      rw [e, crcN_lin, h3, h5, Nat.xor_self]
    rw [hx, show 8 * b.length = a + (8 * b.length - a) by omega, crcN_add] at h6
    have h7 := crcN_xor a 0 B
    rw [Nat.zero_xor, crcN_nil, Nat.zero_xor] at h7
    rw [h7] at h6
    exact h0 (crcN_zero _ hB h6)
  unfold openM at h4 ⊢
  rw [if_neg (by omega), if_neg (by omega)] at h4 ⊢
  split
  · rename_i h5; rw [if_pos h5] at h4; exact absurd rfl h4
  · rfl
end Go.Am

namespace Go.Am
open Go.RowKit

/-! ### The laws DeframeBack, DeframeOnly -/

theorem enfA_ok {k : Nat} {x : Int} {t l : List Int} (h : askN k x l = 0) : enfA k x t l = .tup [bs (encB k x t l), .int .i64 0] := by
  rw [enfA, if_neg (by omega), Int.toNat_natCast]
end Go.Am
