/- What the functions that the law reaches return, for every program that has their code; the conditions stand in each statement. -/
import Derived.Test.YtdbcblibhbhckaaDoorVerdictSaysL1
set_option linter.unusedSectionVars false
set_option linter.unusedSimpArgs false
set_option linter.unusedVariables false
namespace Go.Am
open Go.RowKit

def gotM (V N a : Nat) (d : Dl) : Nat ⊕ (Nat × Nat) :=
  if N ≤ a then .inl 24
  else if V / 2 ^ a % 2 = 0 then (if N < a + 1 + d.k0 then .inl 24 else .inr (V / 2 ^ (a + 1) % 2 ^ d.k0, a + 1 + d.k0))
  else match riceM V N (a + 1) d.k1 with
    | .inl e => .inl e
    | .inr (l, nx) => if 4294967295 < l + 2 ^ d.k0 then .inl 12 else .inr (l + 2 ^ d.k0, nx)

theorem rice_lt {V N a k v nx : Nat} (hk : k ≤ 24) (h : riceM V N a k = .inr (v, nx)) : v < 4294967296 ∧ nx ≤ N := by
  unfold riceM at h
  cases hu : readU V N a with
  | inl e => rw [hu] at h; cases h
  | inr w =>
    obtain ⟨q, n⟩ := w
    obtain ⟨u1, u2, u3⟩ := readU_le hu
    rw [hu] at h
    simp only at h
    by_cases hs : N < n + (if q = 48 then 32 else k)
    · rw [if_pos hs] at h; cases h
    rw [if_neg hs] at h
    by_cases hq : q < 48
    · rw [if_pos hq] at h
      cases h
      obtain ⟨pk, _⟩ := p24 hk
      have hx : V / 2 ^ n % 2 ^ k < 2 ^ k := Nat.mod_lt _ (Nat.pow_pos (by omega))
      have hqk : q * 2 ^ k ≤ 47 * 16777216 := Nat.mul_le_mul (by omega) pk
      rw [if_neg (show ¬ q = 48 by omega)] at hs
      exact ⟨by omega, by omega⟩
    · rw [if_neg hq] at h
      rw [if_pos (show q = 48 by omega)] at hs
      by_cases h4 : V / 2 ^ n % 2 ^ 32 / 2 ^ k < 48
      · rw [if_pos h4] at h; cases h
      · rw [if_neg h4] at h
        cases h
        exact ⟨Nat.mod_lt _ (by decide), by omega⟩
theorem rice_err {V N a k e : Nat} (h : riceM V N a k = .inl e) : e = 24 ∨ e = 12 := by
  unfold riceM at h
  cases hu : readU V N a with
  | inl e' => rw [hu] at h; cases h; exact .inl (readU_err hu)
  | inr w =>
    obtain ⟨q, n⟩ := w
    rw [hu] at h
    simp only at h
    by_cases hs : N < n + (if q = 48 then 32 else k)
    · rw [if_pos hs] at h; cases h; exact .inl rfl
    rw [if_neg hs] at h
    by_cases hq : q < 48
    · rw [if_pos hq] at h; cases h
    · rw [if_neg hq] at h
      by_cases h4 : V / 2 ^ n % 2 ^ 32 / 2 ^ k < 48
      · rw [if_pos h4] at h; cases h; exact .inr rfl
      · rw [if_neg h4] at h; cases h
theorem got_lt {V N a v nx : Nat} {d : Dl} (hd : okD d) (h : gotM V N a d = .inr (v, nx)) : v < 4294967296 ∧ nx ≤ N := by
  obtain ⟨pk, _⟩ := p24 hd.1
  unfold gotM at h
  split at h
  · cases h
  split at h
  · split at h
    · cases h
    · cases h
      have : V / 2 ^ (a + 1) % 2 ^ d.k0 < 2 ^ d.k0 := Nat.mod_lt _ (Nat.pow_pos (by omega))
      exact ⟨by omega, by omega⟩
  · cases hr : riceM V N (a + 1) d.k1 with
    | inl e => rw [hr] at h; cases h
    | inr w =>
      obtain ⟨l, n⟩ := w
      rw [hr] at h
      simp only at h
      split at h
      · cases h
      · cases h
        exact ⟨by omega, (rice_lt hd.2.1 hr).2⟩
theorem got_err {V N a e : Nat} {d : Dl} (h : gotM V N a d = .inl e) : e = 24 ∨ e = 12 := by
  unfold gotM at h
  split at h
  · cases h; exact .inl rfl
  split at h
  · split at h
    · cases h; exact .inl rfl
    · cases h
  · cases hr : riceM V N (a + 1) d.k1 with
    | inl e' => rw [hr] at h; cases h; exact rice_err hr
    | inr w =>
      obtain ⟨l, n⟩ := w
      rw [hr] at h
      simp only at h
      split at h
      · cases h; exact .inr rfl
      · cases h

def drA (d : Dl) : Nat ⊕ (Nat × Nat) → AV
  | .inl e => .tup [.int .u32 0, .int .i64 0, dlA ⟨0, 0, 0, 0⟩, .int .i64 e]
  | .inr (v, nx) => .tup [.int .u32 v, .int .i64 nx, dlA (learnM d v), .int .i64 0]
def S_dRead (P : Prg) (f : Nat) : Prop := ∀ (N V a : Nat) (d : Dl), V < 2 ^ N → N ≤ 330000 → a ≤ 300000 → okD d → VC P f [bA N V, .int .i64 a, dlA d] (drA d (gotM V N a d))
theorem dual_Read {P : Prg} {f fC fD fG fR fL fl1 fll t0 t1 : Nat} (bd : Body P f 86 [.tmp 6, .tmp 7, .cell 8 t1, .tmp 9] (ac_dual_Read fC fD fG fR fL t0 t1)) (hC : S_bCheck P fC) (hD : S_DCheck P fD) (hG : S_bGet P fG) (hR : S_rRead P fR)
    (bL : Body P fL 36 [] (ac_dual_learn fl1 fll)) (b1 : Body P fl1 58 [] ac_dual_learn_1) (hL : S_Level P fll) (ht : aggO P t1 = some (some 4)) : S_dRead P f := by
  intro N V a d hV hN ha hd
  refine VC.of_acall (by simp [isDL, isD_bA, isD_dlA, isD]) (by cases gotM V N a d <;> rfl) (ACall.of_body bd (by simp) ?_)
  have hd' := hd
  have hC' := hC N V hV hN
  have hD' := hD d hd
  have hgl := fun v nx (h : gotM V N a d = .inr (v, nx)) => got_lt hd h
  have hL1 : ∀ {ob : List Ob} {p : Nat} {v : Nat} {K : AV → List Ob → Prop}, ob[p]? = some ⟨t1, 4, 1, dlC d, 0⟩ → v < 4294967296 → K (.tup []) (ob.set p ⟨t1, 4, 1, dlC (learnM d v), 0⟩) → ACall P fL [.ref p 1 0, .int .u32 v] ob K :=
    fun hp hv hK => dual_learn bL b1 hL hp hd hv hK
  rw [bA] at hC'
  obtain ⟨k0, k1, s0, s1⟩ := d
  obtain ⟨h1, h2, h3, h4⟩ := hd'
  simp only at h1 h2 h3 h4
  obtain ⟨pk, _⟩ := p24 h1
  have hG1 := hG N V a 1 hV hN (by omega) (by omega)
  rw [bA] at hG1
  simp only [dlA, dlC] at hD'
  unfold gotM at hgl ⊢
  by_cases hlt : N ≤ a
  · rw [if_pos hlt]
    rw [if_pos (by omega)] at hG1
    simp (maxSteps := 4000000) (disch := omega) only [step, stepv, ev, wl, wn, wp, wz, aop, cV, cV1, AV.one, partCells, okW, onlyFr, app, sliceCells, cellsAt, srcA, subA, eqFs, Int.cast_ofNat_Int, simprocAttr, ac_dual_Read, bA, drA, dlA, dlC]
    refine callQ.vc hC' ?_
    simp (maxSteps := 4000000) (disch := omega) only [step, stepv, ev, wl, wn, wp, wz, aop, cV, cV1, AV.one, partCells, okW, onlyFr, app, sliceCells, cellsAt, srcA, subA, eqFs, Int.cast_ofNat_Int, simprocAttr]
    refine callQ.vc hD' ?_
    simp (maxSteps := 4000000) (disch := omega) only [step, stepv, ev, wl, wn, wp, wz, aop, cV, cV1, AV.one, partCells, okW, onlyFr, app, sliceCells, cellsAt, srcA, subA, eqFs, Int.cast_ofNat_Int, simprocAttr]
    refine callQ.vc hG1 ?_
    simp (maxSteps := 4000000) (disch := omega) only [step, stepv, ev, wl, wn, wp, wz, aop, cV, cV1, AV.one, partCells, okW, onlyFr, app, sliceCells, cellsAt, srcA, subA, eqFs, Int.cast_ofNat_Int, simprocAttr, resA, ht, oneOf]
  rw [if_neg hlt] at hgl ⊢
  rw [if_neg (by omega)] at hG1
  have hb : V / 2 ^ a % 2 < 2 := Nat.mod_lt _ (by decide)
  rw [Nat.pow_one] at hG1
  by_cases h0 : V / 2 ^ a % 2 = 0
  · rw [if_pos h0] at hgl ⊢
    rw [h0] at hG1
    simp only at hgl ⊢
    have hG2 : VC P fG [bA N V, .int .i64 ((a : Int) + 1), .int .i64 k0] (if N < a + 1 + k0 then .tup [.int .u64 0, .int .i64 24] else .tup [.int .u64 ((V / 2 ^ (a + 1) % 2 ^ k0 : Nat) : Int), .int .i64 0]) := hG N V (a + 1) k0 hV hN (by omega) (by omega)
    rw [bA] at hG2
    by_cases hs : N < a + 1 + k0
    · rw [if_pos hs] at hG2 ⊢
      simp (maxSteps := 4000000) (disch := omega) only [step, stepv, ev, wl, wn, wp, wz, aop, cV, cV1, AV.one, partCells, okW, onlyFr, app, sliceCells, cellsAt, srcA, subA, eqFs, Int.cast_ofNat_Int, simprocAttr, ac_dual_Read, bA, drA, dlA, dlC]
      refine callQ.vc hC' ?_
      simp (maxSteps := 4000000) (disch := omega) only [step, stepv, ev, wl, wn, wp, wz, aop, cV, cV1, AV.one, partCells, okW, onlyFr, app, sliceCells, cellsAt, srcA, subA, eqFs, Int.cast_ofNat_Int, simprocAttr]
      refine callQ.vc hD' ?_
      simp (maxSteps := 4000000) (disch := omega) only [step, stepv, ev, wl, wn, wp, wz, aop, cV, cV1, AV.one, partCells, okW, onlyFr, app, sliceCells, cellsAt, srcA, subA, eqFs, Int.cast_ofNat_Int, simprocAttr]
      refine callQ.vc hG1 ?_
      simp (maxSteps := 4000000) (disch := omega) only [step, stepv, ev, wl, wn, wp, wz, aop, cV, cV1, AV.one, partCells, okW, onlyFr, app, sliceCells, cellsAt, srcA, subA, eqFs, Int.cast_ofNat_Int, simprocAttr]
      refine callQ.vc hG2 ?_
      simp (maxSteps := 4000000) (disch := omega) only [step, stepv, ev, wl, wn, wp, wz, aop, cV, cV1, AV.one, partCells, okW, onlyFr, app, sliceCells, cellsAt, srcA, subA, eqFs, Int.cast_ofNat_Int, simprocAttr, resA, ht, oneOf]
    · rw [if_neg hs] at hG2 hgl ⊢
      have hx : V / 2 ^ (a + 1) % 2 ^ k0 < 2 ^ k0 := Nat.mod_lt _ (Nat.pow_pos (by omega))
      generalize V / 2 ^ (a + 1) % 2 ^ k0 = x at *
      simp (maxSteps := 4000000) (disch := omega) only [step, stepv, ev, wl, wn, wp, wz, aop, cV, cV1, AV.one, partCells, okW, onlyFr, app, sliceCells, cellsAt, srcA, subA, eqFs, Int.cast_ofNat_Int, simprocAttr, ac_dual_Read, bA, drA, dlA, dlC]
      refine callQ.vc hC' ?_
      simp (maxSteps := 4000000) (disch := omega) only [step, stepv, ev, wl, wn, wp, wz, aop, cV, cV1, AV.one, partCells, okW, onlyFr, app, sliceCells, cellsAt, srcA, subA, eqFs, Int.cast_ofNat_Int, simprocAttr]
      refine callQ.vc hD' ?_
      simp (maxSteps := 4000000) (disch := omega) only [step, stepv, ev, wl, wn, wp, wz, aop, cV, cV1, AV.one, partCells, okW, onlyFr, app, sliceCells, cellsAt, srcA, subA, eqFs, Int.cast_ofNat_Int, simprocAttr]
      refine callQ.vc hG1 ?_
      simp (maxSteps := 4000000) (disch := omega) only [step, stepv, ev, wl, wn, wp, wz, aop, cV, cV1, AV.one, partCells, okW, onlyFr, app, sliceCells, cellsAt, srcA, subA, eqFs, Int.cast_ofNat_Int, simprocAttr]
      refine callQ.vc hG2 ?_
      simp (maxSteps := 4000000) (disch := omega) only [step, stepv, ev, wl, wn, wp, wz, aop, cV, cV1, AV.one, partCells, okW, onlyFr, app, sliceCells, cellsAt, srcA, subA, eqFs, Int.cast_ofNat_Int, simprocAttr]
      refine hL1 (v := x) rfl (by omega) ?_
      generalize learnM ⟨k0, k1, s0, s1⟩ x = d'
      obtain ⟨l0, l1, l2, l3⟩ := d'
      simp (maxSteps := 4000000) (disch := omega) only [step, stepv, ev, wl, wn, wp, wz, aop, cV, cV1, AV.one, partCells, okW, onlyFr, app, sliceCells, cellsAt, srcA, subA, eqFs, Int.cast_ofNat_Int, simprocAttr, resA, ht, oneOf, dlC]
  · rw [if_neg h0] at hgl ⊢
    rw [show V / 2 ^ a % 2 = 1 by omega] at hG1
    have hR' : VC P fR [bA N V, .int .i64 ((a : Int) + 1), .int .i64 k1] (rcA (riceM V N (a + 1) k1)) := hR N V (a + 1) k1 hV hN (by omega) h2
    rw [bA] at hR'
    simp only at hgl ⊢
    cases hr : riceM V N (a + 1) k1 with
    | inl e =>
      have he := rice_err hr
      rw [hr] at hR'
      have he0 : (e : Int) ≠ 0 := by omega
      simp (maxSteps := 4000000) (disch := omega) only [step, stepv, ev, wl, wn, wp, wz, aop, cV, cV1, AV.one, partCells, okW, onlyFr, app, sliceCells, cellsAt, srcA, subA, eqFs, Int.cast_ofNat_Int, simprocAttr, ac_dual_Read, bA, drA, dlA, dlC]
      refine callQ.vc hC' ?_
      simp (maxSteps := 4000000) (disch := omega) only [step, stepv, ev, wl, wn, wp, wz, aop, cV, cV1, AV.one, partCells, okW, onlyFr, app, sliceCells, cellsAt, srcA, subA, eqFs, Int.cast_ofNat_Int, simprocAttr]
      refine callQ.vc hD' ?_
      simp (maxSteps := 4000000) (disch := omega) only [step, stepv, ev, wl, wn, wp, wz, aop, cV, cV1, AV.one, partCells, okW, onlyFr, app, sliceCells, cellsAt, srcA, subA, eqFs, Int.cast_ofNat_Int, simprocAttr]
      refine callQ.vc hG1 ?_
      simp (maxSteps := 4000000) (disch := omega) only [step, stepv, ev, wl, wn, wp, wz, aop, cV, cV1, AV.one, partCells, okW, onlyFr, app, sliceCells, cellsAt, srcA, subA, eqFs, Int.cast_ofNat_Int, simprocAttr]
      refine callQ.vc hR' ?_
      simp (maxSteps := 4000000) (disch := omega) only [step, stepv, ev, wl, wn, wp, wz, aop, cV, cV1, AV.one, partCells, okW, onlyFr, app, sliceCells, cellsAt, srcA, subA, eqFs, Int.cast_ofNat_Int, simprocAttr, rcA, resA, ht, oneOf]
    | inr w =>
      obtain ⟨l, nx⟩ := w
      obtain ⟨r1, r2⟩ := rice_lt h2 hr
      rw [hr] at hR' hgl
      simp only at hgl ⊢
      have e2 : shiftA true .u32 1 (k0 : Int) = some (.int .u32 ((2 ^ k0 : Nat) : Int)) := by
        have := shlK (K := .u32) rfl (c := 1) (s := k0) (by show k0 ≤ 32; omega) (by show 1 * 2 ^ k0 < 4294967296; omega)
        rw [Nat.one_mul] at this
        exact this
      have hp0 : 0 < 2 ^ k0 := Nat.pow_pos (by omega)
      generalize 2 ^ k0 = p at *
      by_cases ho : 4294967295 < l + p
      · rw [if_pos ho]
        have e3 : IntKind.u32.wrap ((l : Int) + p) = (l : Int) + p - 4294967296 := by rw [wrap_u32_mod]; omega
        simp (maxSteps := 4000000) (disch := omega) only [step, stepv, ev, wl, wn, wp, wz, aop, cV, cV1, AV.one, partCells, okW, onlyFr, app, sliceCells, cellsAt, srcA, subA, eqFs, Int.cast_ofNat_Int, simprocAttr, ac_dual_Read, bA, drA, dlA, dlC]
        refine callQ.vc hC' ?_
        simp (maxSteps := 4000000) (disch := omega) only [step, stepv, ev, wl, wn, wp, wz, aop, cV, cV1, AV.one, partCells, okW, onlyFr, app, sliceCells, cellsAt, srcA, subA, eqFs, Int.cast_ofNat_Int, simprocAttr]
        refine callQ.vc hD' ?_
        simp (maxSteps := 4000000) (disch := omega) only [step, stepv, ev, wl, wn, wp, wz, aop, cV, cV1, AV.one, partCells, okW, onlyFr, app, sliceCells, cellsAt, srcA, subA, eqFs, Int.cast_ofNat_Int, simprocAttr]
        refine callQ.vc hG1 ?_
        simp (maxSteps := 4000000) (disch := omega) only [step, stepv, ev, wl, wn, wp, wz, aop, cV, cV1, AV.one, partCells, okW, onlyFr, app, sliceCells, cellsAt, srcA, subA, eqFs, Int.cast_ofNat_Int, simprocAttr]
        refine callQ.vc hR' ?_
        simp (maxSteps := 4000000) (disch := omega) only [step, stepv, ev, wl, wn, wp, wz, aop, cV, cV1, AV.one, partCells, okW, onlyFr, app, sliceCells, cellsAt, srcA, subA, eqFs, Int.cast_ofNat_Int, simprocAttr, rcA, e2, e3, resA, ht, oneOf]
      · rw [if_neg ho]
        simp (maxSteps := 4000000) (disch := omega) only [step, stepv, ev, wl, wn, wp, wz, aop, cV, cV1, AV.one, partCells, okW, onlyFr, app, sliceCells, cellsAt, srcA, subA, eqFs, Int.cast_ofNat_Int, simprocAttr, ac_dual_Read, bA, drA, dlA, dlC]
        refine callQ.vc hC' ?_
        simp (maxSteps := 4000000) (disch := omega) only [step, stepv, ev, wl, wn, wp, wz, aop, cV, cV1, AV.one, partCells, okW, onlyFr, app, sliceCells, cellsAt, srcA, subA, eqFs, Int.cast_ofNat_Int, simprocAttr]
        refine callQ.vc hD' ?_
        simp (maxSteps := 4000000) (disch := omega) only [step, stepv, ev, wl, wn, wp, wz, aop, cV, cV1, AV.one, partCells, okW, onlyFr, app, sliceCells, cellsAt, srcA, subA, eqFs, Int.cast_ofNat_Int, simprocAttr]
        refine callQ.vc hG1 ?_
        simp (maxSteps := 4000000) (disch := omega) only [step, stepv, ev, wl, wn, wp, wz, aop, cV, cV1, AV.one, partCells, okW, onlyFr, app, sliceCells, cellsAt, srcA, subA, eqFs, Int.cast_ofNat_Int, simprocAttr]
        refine callQ.vc hR' ?_
        simp (maxSteps := 4000000) (disch := omega) only [step, stepv, ev, wl, wn, wp, wz, aop, cV, cV1, AV.one, partCells, okW, onlyFr, app, sliceCells, cellsAt, srcA, subA, eqFs, Int.cast_ofNat_Int, simprocAttr, rcA, e2]
        refine hL1 (v := l + p) rfl (by omega) ?_
        generalize learnM ⟨k0, k1, s0, s1⟩ (l + p) = d'
        obtain ⟨l0, l1, l2, l3⟩ := d'
        simp (maxSteps := 4000000) (disch := omega) only [step, stepv, ev, wl, wn, wp, wz, aop, cV, cV1, AV.one, partCells, okW, onlyFr, app, sliceCells, cellsAt, srcA, subA, eqFs, Int.cast_ofNat_Int, simprocAttr, resA, ht, oneOf, dlC]

end Go.Am

namespace Go.Am
open Go.RowKit

/-! ### Bits of bytes, bits cut out -/

theorem slices_Clone {P : Prg} {f t0 : Nat} (b : Body P f 8 [.tmp 2] (ac_slices_Clone_byte_byte t0)) : S_bytes_Clone P f := by
  exact bytes_Clone b

theorem nB_len (l : List UInt8) : nB (8 * l.length) = l.length := by unfold nB; omega
theorem bA_of (l : List UInt8) : bA (8 * l.length) (leN l) = .agg [bs l, .int .i64 ((8 * l.length : Nat) : Int)] := by
  rw [bA, nB_len, leB_leN]; rfl
theorem leN_lt' (l : List UInt8) : leN l < 2 ^ (8 * l.length) := leN_lt l

def ofA (l : List UInt8) : AV := if 41250 < l.length then .tup [bA 0 0, .int .i64 4] else .tup [bA (8 * l.length) (leN l), .int .i64 0]
def S_bOf (P : Prg) (f : Nat) : Prop := ∀ l : List UInt8, l.length ≤ 1000000 → VC P f [bs l] (ofA l)
theorem bits_Of {P : Prg} {f fC t0 : Nat} (bd : Body P f 14 [.cell 2 t0, .tmp 3] (ac_bits_Of fC t0)) (hC : S_bytes_Clone P fC) (ht : aggO P t0 = some (some 2)) : S_bOf P f := by
  intro l hl
  refine VC.of_walk 2 (by simp [isDL, isD_bs]) (by unfold ofA; split <;> simp [isD, isDL, isD_bA]) (ACall.of_body bd (by simp) ?_)
  have hC' := hC l (by omega)
  simp only [bs] at hC'
  unfold ofA
  by_cases h : 41250 < l.length
  · rw [if_pos h]
    simp (maxSteps := 4000000) (disch := omega) only [step, stepv, ev, wl, wn, wp, wz, aop, cV, cV1, AV.one, partCells, okW, onlyFr, app, sliceCells, cellsAt, srcA, subA, eqFs, Int.cast_ofNat_Int, simprocAttr, ac_bits_Of, bs, resA, ht, oneOf]
    simp [frzN, frzK, frzL, frzV, bA, nB, leB, u8]
  · rw [if_neg h, bA_of]
    simp (maxSteps := 4000000) (disch := omega) only [step, stepv, ev, wl, wn, wp, wz, aop, cV, cV1, AV.one, partCells, okW, onlyFr, app, sliceCells, cellsAt, srcA, subA, eqFs, Int.cast_ofNat_Int, simprocAttr, ac_bits_Of, bs]
    refine callQ.vc hC' ?_
    simp (maxSteps := 4000000) (disch := omega) only [step, stepv, ev, wl, wn, wp, wz, aop, cV, cV1, AV.one, partCells, okW, onlyFr, app, sliceCells, cellsAt, srcA, subA, eqFs, Int.cast_ofNat_Int, simprocAttr, resA, ht, oneOf]
    simp [frzN, frzK, frzL, frzV, frzL_T _ (isT_u8 _), bs]

def S_Cut (P : Prg) (f : Nat) : Prop := ∀ N V a b : Nat, V < 2 ^ N → N ≤ 330000 → a ≤ b → b ≤ N → VC P f [bA N V, .int .i64 a, .int .i64 b] (.tup [bA (b - a) (V / 2 ^ a % 2 ^ (b - a)), .int .i64 0])
set_option maxHeartbeats 1000000 in
theorem bits_Cut {P : Prg} {f fC fG fP t0 tp : Nat} (bd : Body P f 46 [.cell 6 t0, .tmp 7] (ac_bits_Cut fC fG fP t0)) (hC : S_bCheck P fC) (hG : S_bget P fG) (bP : Body P fP 75 [] (ac_bits_put tp)) (ht : aggO P t0 = some (some 2)) : S_Cut P f := by
  intro N V a b hV hN hab hbN
  refine VC.of_walk 2 (by simp [isDL, isD_bA, isD]) (by simp [isD, isDL, isD_bA]) (ACall.of_body bd (by simp) ?_)
  have hC' := hC N V hV hN
  rw [bA] at hC'
  have tu : isTL (u8 (leB V (nB N))) = true := isT_u8 _
  simp (maxSteps := 4000000) (disch := omega) only [step, stepv, ev, wl, wn, wp, wz, aop, cV, cV1, AV.one, partCells, okW, onlyFr, app, sliceCells, cellsAt, srcA, subA, eqFs, Int.cast_ofNat_Int, simprocAttr, ac_bits_Cut, bA]
  refine callQ.vc hC' ?_
  simp (maxSteps := 4000000) (disch := omega) only [step, stepv, ev, wl, wn, wp, wz, aop, cV, cV1, AV.one, partCells, okW, onlyFr, app, sliceCells, cellsAt, srcA, subA, eqFs, Int.cast_ofNat_Int, simprocAttr]
  refine ALoop.by (ι := Nat) (fun k => ⟨[(9, .int .i64 ((a + 64 * k : Nat) : Int)), (8, .ref 2 1 0), (7, .int .i64 0), (6, .ref 1 1 0), (3, .ref 0 1 0), (2, .int .i64 b)],
      [⟨t0, 2, 1, [.list (nB N) (u8 (leB V (nB N))), .int .i64 N], 0⟩, ⟨t0, 2, 1, [.own 3 0, .int .i64 0], 0⟩, bO t0 4 (min (64 * k) (b - a)), ⟨tp, 1, 0, [], 0⟩, bY tp (min (64 * k) (b - a)) (V / 2 ^ a % 2 ^ min (64 * k) (b - a))]⟩)
    (fun k => 64 * k < b - a + 64) (fun k => b - a + 64 - 64 * k) 0 ?_ (by omega) ?_
  · refine Le.trans (Le.virtF 1 tp 1 (by decide) rfl rfl) ?_
    refine Le.trans (Le.virtF 2 tp 1 (by decide) rfl rfl) ?_
    simp only [List.length_cons, List.length_nil, List.set_cons_succ, List.set_cons_zero, List.cons_append, List.nil_append, List.length_append]
    rw [Nat.mul_zero, Nat.zero_min, Nat.pow_zero, Nat.mod_one]
    exact Le.slots (by simp [Am.look])
  intro k hk
  by_cases hlt : a + 64 * k < b
  · obtain ⟨n, hn⟩ : ∃ n, n = min 64 (b - (a + 64 * k)) := ⟨_, rfl⟩
    have hm : min (64 * k) (b - a) = 64 * k := by omega
    have hG' := hG N V (a + 64 * k) n hV (by omega) (by omega) (by omega)
    rw [bA] at hG'
    have e1 : (if (b : Int) - ((a + 64 * k : Nat) : Int) < 64 then (b : Int) - ((a + 64 * k : Nat) : Int) else 64) = (n : Int) := by split <;> omega
    have hv : V / 2 ^ (a + 64 * k) % 2 ^ n < 2 ^ n := Nat.mod_lt _ (Nat.pow_pos (by omega))
    have hW : V / 2 ^ a % 2 ^ (64 * k) < 2 ^ (64 * k) := Nat.mod_lt _ (Nat.pow_pos (by omega))
    have hs := get_step (X := V / 2 ^ a) (h := 64 * k) (t := n)
    rw [Nat.div_div_eq_div_mul, ← Nat.pow_add, Nat.mul_comm (V / 2 ^ (a + 64 * k) % 2 ^ n)] at hs
    rw [hm]
    generalize hvv : V / 2 ^ (a + 64 * k) % 2 ^ n = v at *
    generalize hWW : V / 2 ^ a % 2 ^ (64 * k) = W at *
    obtain ⟨s, hs0⟩ : ∃ s, s = a + 64 * k := ⟨_, rfl⟩
    rw [← hs0] at hG' e1 ⊢
    simp (maxSteps := 4000000) (disch := omega) only [step, stepv, ev, wl, wn, wp, wz, aop, cV, cV1, AV.one, partCells, okW, onlyFr, app, sliceCells, cellsAt, srcA, subA, eqFs, Int.cast_ofNat_Int, simprocAttr, e1]
    refine callQ.vc hG' ?_
    simp (maxSteps := 4000000) (disch := omega) only [step, stepv, ev, wl, wn, wp, wz, aop, cV, cV1, AV.one, partCells, okW, onlyFr, app, sliceCells, cellsAt, srcA, subA, eqFs, Int.cast_ofNat_Int, simprocAttr]
    refine bits_put bP (ob := [⟨t0, 2, 1, [.list (nB N) (u8 (leB V (nB N))), .int .i64 N], 0⟩, ⟨t0, 2, 1, [.own 3 0, .int .i64 0], 0⟩, bO t0 4 (64 * k), ⟨tp, 1, 0, [], 0⟩, bY tp (64 * k) W]) (p := 2) (o := 4) (t := t0) rfl rfl (by decide) hW hv (by omega) (by omega) ?_ ?_
    · refine Low.cons ?_ (Low.cons ?_ (Low.cons ?_ (Low.cons ?_ (Low.cons ?_ Low.nil)))) <;> simp [bO, bY, lowL, lowV, lowL_D _ (isDL_leB _ _)]
    · simp only [upd2, List.set_cons_succ, List.set_cons_zero]
      rw [← hs]
      have hm2 : min (64 * (k + 1)) (b - a) = 64 * k + n := by omega
      simp (maxSteps := 4000000) (disch := omega) only [step, stepv, ev, wl, wn, wp, wz, aop, cV, cV1, AV.one, partCells, okW, onlyFr, app, sliceCells, cellsAt, srcA, subA, eqFs, Int.cast_ofNat_Int, simprocAttr]
      refine ⟨k + 1, by omega, by omega, ?_⟩
      rw [hm2]
      exact Le.slots (by simp [Am.look, hs0]; omega)
  · have hm : min (64 * k) (b - a) = b - a := by omega
    rw [hm]
    generalize V / 2 ^ a % 2 ^ (b - a) = W at *
    obtain ⟨s, hs0⟩ : ∃ s, s = a + 64 * k := ⟨_, rfl⟩
    rw [← hs0]
    simp (maxSteps := 4000000) (disch := omega) only [step, stepv, ev, wl, wn, wp, wz, aop, cV, cV1, AV.one, partCells, okW, onlyFr, app, sliceCells, cellsAt, srcA, subA, eqFs, Int.cast_ofNat_Int, simprocAttr, bO, bY, resA, ht, oneOf]
    simp [frzN, frzK, frzL, frzV, frzL_T _ (isT_u8 _)]

end Go.Am

namespace Go.Am
open Go.RowKit

/-! ### The values of a frame (plain) -/

def chanM (c r : Nat) (v : List Nat) : Dl := ((List.range v.length).filter fun j => j % c == r).foldl (fun d j => learnM d (v.getD j 0)) startM

theorem chan_snoc {c r x : Nat} {v : List Nat} : chanM c r (v ++ [x]) = if v.length % c = r then learnM (chanM c r v) x else chanM c r v := by
  have h1 : ∀ (l : List Nat) (d : Dl), (∀ j ∈ l, j < v.length) → l.foldl (fun d j => learnM d ((v ++ [x]).getD j 0)) d = l.foldl (fun d j => learnM d (v.getD j 0)) d := by
    intro l
    induction l with
    | nil => intro d _; rfl
    | cons a l ih =>
      intro d h
      simp only [List.foldl_cons]
      have ha : a < v.length := h a (by simp)
      rw [ih _ fun j hj => h j (by simp [hj])]
      congr 2
      rw [List.getD_eq_getElem?_getD, List.getD_eq_getElem?_getD, List.getElem?_append_left ha]
  unfold chanM
  rw [List.length_append, List.length_cons, List.length_nil, Nat.zero_add, List.range_succ, List.filter_append, List.foldl_append]
  have hf := h1 ((List.range v.length).filter fun j => j % c == r) startM (fun j hj => by
    have := (List.mem_filter.1 hj).1
    simpa using this)
  rw [hf]
  have hx : (v ++ [x]).getD v.length 0 = x := by simp [List.getD_eq_getElem?_getD]
  by_cases h : v.length % c = r
  · rw [if_pos h]
    have : (List.filter (fun j => j % c == r) [v.length]) = [v.length] := by simp [h]
    rw [this]
    simp only [List.foldl_cons, List.foldl_nil]
    rw [hx]
  · rw [if_neg h]
    have : (List.filter (fun j => j % c == r) [v.length]) = [] := by simp [h]
    rw [this]
    rfl

def N32 (v : List Nat) : Prop := ∀ x ∈ v, x < 4294967296
theorem chan_ok {c r : Nat} {v : List Nat} (h : N32 v) : okD (chanM c r v) := by
  unfold chanM
  have key : ∀ (l : List Nat) (d : Dl), okD d → (∀ j ∈ l, j < v.length) → okD (l.foldl (fun d j => learnM d (v.getD j 0)) d) := by
    intro l
    induction l with
    | nil => intro d h _; exact h
    | cons a l ih =>
      intro d hd hl
      have ha : a < v.length := hl a (by simp)
      refine ih _ (learn_ok hd ?_) fun j hj => hl j (by simp [hj])
      rw [List.getD_eq_getElem?_getD, List.getElem?_eq_getElem ha]
      exact h _ (List.getElem_mem ha)
  exact key _ _ start_ok fun j hj => by
    have := (List.mem_filter.1 hj).1
    simpa using this

def prtN (N a : Nat) : Nat := min (a + 81) N - a
def prtV (V N a : Nat) : Nat := V / 2 ^ a % 2 ^ prtN N a
def valsM (V N c : Nat) : Nat → List Nat → Nat → (Nat × List Nat) ⊕ (List Nat × Nat)
  | 0, out, a => .inr (out, a)
  | k + 1, out, a =>
    match gotM (prtV V N a) (prtN N a) 0 (chanM c (out.length % c) out) with
    | .inl e => .inl (e, out)
    | .inr (v, nx) => valsM V N c k (out ++ [v]) (a + nx)

theorem prtV_lt (V N a : Nat) : prtV V N a < 2 ^ prtN N a := Nat.mod_lt _ (Nat.pow_pos (by omega))

def restM (V N a : Nat) : Nat := if 7 < N - a then 12 else if V / 2 ^ a = 0 then 0 else 12

theorem vals_spec {V N c : Nat} : ∀ (k : Nat) (out : List Nat) (a : Nat), a ≤ N → N32 out → (∀ e o, valsM V N c k out a = .inl (e, o) → (e = 24 ∨ e = 12) ∧ N32 o ∧ o.length ≤ out.length + k) ∧ (∀ o b, valsM V N c k out a = .inr (o, b) → N32 o ∧ b ≤ N ∧ o.length = out.length + k)
  | 0, out, a, ha, ho => by
    refine ⟨fun e o h => (by simp only [valsM] at h; cases h), fun o b h => ?_⟩
    simp only [valsM] at h
    cases h
    exact ⟨ho, ha, rfl⟩
  | k + 1, out, a, ha, ho => by
    have hd := chan_ok (c := c) (r := out.length % c) ho
    cases hg : gotM (prtV V N a) (prtN N a) 0 (chanM c (out.length % c) out) with
    | inl e =>
      have he := got_err hg
      simp only [valsM, hg]
      refine ⟨fun e' o h => ?_, fun o b h => (by cases h)⟩
      cases h
      exact ⟨he, ho, by omega⟩
    | inr p =>
      obtain ⟨v, nx⟩ := p
      obtain ⟨h1, h2⟩ := got_lt hd hg
      have hp : prtN N a ≤ N - a := by unfold prtN; omega
      have ho' : N32 (out ++ [v]) := fun x hx => by
        rcases List.mem_append.1 hx with h | h
        · exact ho x h
        · simp at h; subst h; exact h1
      obtain ⟨r1, r2⟩ := vals_spec (V := V) (N := N) (c := c) k (out ++ [v]) (a + nx) (by omega) ho'
      simp only [valsM, hg]
      refine ⟨fun e o h => ?_, fun o b h => ?_⟩
      · obtain ⟨q1, q2, q3⟩ := r1 e o h
        refine ⟨q1, q2, ?_⟩
        rw [List.length_append, List.length_cons, List.length_nil] at q3
        omega
      · obtain ⟨q1, q2, q3⟩ := r2 o b h
        refine ⟨q1, q2, ?_⟩
        rw [List.length_append, List.length_cons, List.length_nil] at q3
        omega

def sumM (p : List UInt8) : Nat := 4294967295 - crcL 4294967295 p
def openM (b : List UInt8) : Nat := if b.length < 5 then 24 else if 41254 < b.length then 4 else if leN (b.drop (b.length - 4)) = sumM (b.take (b.length - 4)) then 0 else 22

end Go.Am

namespace Go.Am
open Go.RowKit

/-! ### The values of a frame -/

def n32A (v : List Nat) : AV := u32L (v.map fun n : Nat => (n : Int))
theorem isD_n32A (v : List Nat) : isD (n32A v) = true := by simp [n32A, u32L, isD, isDL_ks]
end Go.Am

namespace Go.Am
open Go.RowKit

/-! ### A frame's sum -/

theorem sumM_lt (p : List UInt8) : sumM p < 4294967296 := by unfold sumM; omega

def S_Sealed (P : Prg) (f : Nat) : Prop := ∀ p : List UInt8, p.length ≤ 1000000 → VC P f [bs p] (bs (p ++ leB (sumM p) 4))
theorem ref20_Sealed {P : Prg} {f fO t0 : Nat} (bd : Body P f 22 [.tmp 2] (ac_cadenzaref20_Sealed fO t0)) (hO : S_COf P fO) : S_Sealed P f := by
  intro p hp
  refine VC.of_walk 1 (by simp [isDL, isD_bs]) (isD_bs _) (ACall.of_body bd (by simp) ?_)
  have hO' := hO p hp
  rw [← sumM] at hO'
  have hs := sumM_lt p
  generalize sumM p = s at *
  simp only [bs] at hO'
  have e1 : IntKind.u8.wrap (s : Int) = ((s % 256 : Nat) : Int) := by rw [wrap_u8_mod]; omega
  have a1 : shiftA false .u32 (s : Int) 8 = some (.int .u32 ((s / 256 : Nat) : Int)) := shrK (K := .u32) (k := 8) (by decide)
  have a2 : shiftA false .u32 (s : Int) 16 = some (.int .u32 ((s / 65536 : Nat) : Int)) := shrK (K := .u32) (k := 16) (by decide)
  have a3 : shiftA false .u32 (s : Int) 24 = some (.int .u32 ((s / 16777216 : Nat) : Int)) := shrK (K := .u32) (k := 24) (by decide)
  have e2 : IntKind.u8.wrap ((s / 256 : Nat) : Int) = ((s / 256 % 256 : Nat) : Int) := by rw [wrap_u8_mod]; omega
  have e3 : IntKind.u8.wrap ((s / 65536 : Nat) : Int) = ((s / 65536 % 256 : Nat) : Int) := by rw [wrap_u8_mod]; omega
  have e4 : IntKind.u8.wrap ((s / 16777216 : Nat) : Int) = ((s / 16777216 % 256 : Nat) : Int) := by rw [wrap_u8_mod]; omega
  have hb : u8 (p ++ leB s 4) = u8 p ++ [.int .u8 ((s % 256 : Nat) : Int), .int .u8 ((s / 256 % 256 : Nat) : Int), .int .u8 ((s / 65536 % 256 : Nat) : Int), .int .u8 ((s / 16777216 % 256 : Nat) : Int)] := by
    simp [u8, leB, Nat.div_div_eq_div_mul]
  have hl : (p ++ leB s 4).length = p.length + 4 := by simp [leB_length]
  rw [bs, hb, hl]
  generalize s % 256 = b0 at *
  generalize s / 256 % 256 = b1 at *
  generalize s / 65536 % 256 = b2 at *
  generalize s / 16777216 % 256 = b3 at *
  have tt : isTL (u8 p ++ [.int .u8 (b0 : Int), .int .u8 (b1 : Int), .int .u8 (b2 : Int), .int .u8 (b3 : Int)]) = true := by simp [isTL_append, isT_u8, isTL, isT]
  simp (maxSteps := 4000000) (disch := omega) only [step, stepv, ev, wl, wn, wp, wz, aop, cV, cV1, AV.one, partCells, okW, onlyFr, app, sliceCells, cellsAt, srcA, subA, eqFs, Int.cast_ofNat_Int, simprocAttr, ac_cadenzaref20_Sealed, bs]
  refine callQ.vc hO' ?_
  simp (maxSteps := 4000000) (disch := omega) only [step, stepv, ev, wl, wn, wp, wz, aop, cV, cV1, AV.one, partCells, okW, onlyFr, app, sliceCells, cellsAt, srcA, subA, eqFs, Int.cast_ofNat_Int, simprocAttr, e1, a1, a2, a3, e2, e3, e4]
  simp [frzN, frzK, frzL, frzV, frzL_T _ tt]

def opA (b : List UInt8) : AV := if openM b = 0 then .tup [bs (b.take (b.length - 4)), .int .i64 0] else .tup [.list 0 [], .int .i64 (openM b : Nat)]
def S_opened (P : Prg) (f : Nat) : Prop := ∀ b : List UInt8, b.length ≤ 1000000 → VC P f [bs b] (opA b)
theorem deframe_opened {P : Prg} {f fS fV : Nat} (bd : Body P f 46 [.tmp 2, .tmp 3] (ac_deframe_opened fS fV)) (hS : S_CSum P fS) (hV : S_le_Value P fV) : S_opened P f := by
  intro b hb
  refine VC.of_walk 1 (by simp [isDL, isD_bs]) (by unfold opA; split <;> simp [isD, isDL, isD_bs]) (ACall.of_body bd (by simp) ?_)
  unfold opA openM
  by_cases h1 : b.length < 5
  · simp only [h1, if_true]
    simp (maxSteps := 4000000) (disch := omega) only [step, stepv, ev, wl, wn, wp, wz, aop, cV, cV1, AV.one, partCells, okW, onlyFr, app, sliceCells, cellsAt, srcA, subA, eqFs, Int.cast_ofNat_Int, simprocAttr, ac_deframe_opened, bs]
    simp [frzN, frzK, frzL, frzV]
  simp only [h1, if_false]
  by_cases h2 : 41254 < b.length
  · simp only [h2, if_true]
    simp (maxSteps := 4000000) (disch := omega) only [step, stepv, ev, wl, wn, wp, wz, aop, cV, cV1, AV.one, partCells, okW, onlyFr, app, sliceCells, cellsAt, srcA, subA, eqFs, Int.cast_ofNat_Int, simprocAttr, ac_deframe_opened, bs]
    simp [frzN, frzK, frzL, frzV]
  simp only [h2, if_false]
  have hS' := hS (b.take (b.length - 4))
  rw [if_neg (by simp; omega), ← sumM] at hS'
  have hl1 : (b.take (b.length - 4)).length = b.length - 4 := by simp
  have hl2 : (b.drop (b.length - 4)).length = 4 := by simp; omega
  have hs := sumM_lt (b.take (b.length - 4))
  have hV' := hV (b.drop (b.length - 4)) (by omega) (by omega)
  have tk : (u8 b).take (b.length - 4) = u8 (b.take (b.length - 4)) := by simp [u8, List.map_take]
  have dk : (u8 b).drop (b.length - 4) = u8 (b.drop (b.length - 4)) := by simp [u8, List.map_drop]
  simp only [bs, hl1, hl2] at hS' hV'
  have hq : leN (b.drop (b.length - 4)) < 4294967296 := by
    have := leN_lt (b.drop (b.length - 4))
    rw [hl2] at this
    exact this
  have hpl : (u8 (b.take (b.length - 4))).length = b.length - 4 := by rw [u8_length, hl1]
  have hql : (u8 (b.drop (b.length - 4))).length = 4 := by rw [u8_length, hl2]
  have tq : (u8 (b.drop (b.length - 4))).take 4 = u8 (b.drop (b.length - 4)) := List.take_of_length_le (by omega)
  generalize b.take (b.length - 4) = p at *
  generalize b.drop (b.length - 4) = q at *
  generalize sumM p = s at *
  generalize leN q = w at *
  have n4 : b.length - (b.length - 4) = 4 := by omega
  have n5 : b.length - 4 - 0 = b.length - 4 := by omega
  have n6 : min (b.length - 4) b.length = b.length - 4 := by omega
  have tp : isTL (u8 p) = true := isT_u8 _
  by_cases h3 : w = s
  · subst h3
    simp only [if_true]
    simp (maxSteps := 4000000) (disch := omega) only [step, stepv, ev, wl, wn, wp, wz, aop, cV, cV1, AV.one, partCells, okW, onlyFr, app, sliceCells, cellsAt, srcA, subA, eqFs, Int.cast_ofNat_Int, simprocAttr, ac_deframe_opened, bs, tk, dk, n4, n5, tq]
    refine callQ.vc hS' ?_
    simp (maxSteps := 4000000) (disch := omega) only [step, stepv, ev, wl, wn, wp, wz, aop, cV, cV1, AV.one, partCells, okW, onlyFr, app, sliceCells, cellsAt, srcA, subA, eqFs, Int.cast_ofNat_Int, simprocAttr, tk, dk, n4, n5, tq]
    refine callQ.vc hV' ?_
    simp (maxSteps := 4000000) (disch := omega) only [step, stepv, ev, wl, wn, wp, wz, aop, cV, cV1, AV.one, partCells, okW, onlyFr, app, sliceCells, cellsAt, srcA, subA, eqFs, Int.cast_ofNat_Int, simprocAttr, tk, dk, n4, n5, tq]
    simp [frzN, frzK, frzL, frzV, frzL_T _ tp, bs, hl1]
    try omega
  · simp only [h3, if_false]
    simp (maxSteps := 4000000) (disch := omega) only [step, stepv, ev, wl, wn, wp, wz, aop, cV, cV1, AV.one, partCells, okW, onlyFr, app, sliceCells, cellsAt, srcA, subA, eqFs, Int.cast_ofNat_Int, simprocAttr, ac_deframe_opened, bs, tk, dk, n4, n5, tq]
    refine callQ.vc hS' ?_
    simp (maxSteps := 4000000) (disch := omega) only [step, stepv, ev, wl, wn, wp, wz, aop, cV, cV1, AV.one, partCells, okW, onlyFr, app, sliceCells, cellsAt, srcA, subA, eqFs, Int.cast_ofNat_Int, simprocAttr, tk, dk, n4, n5, tq]
    refine callQ.vc hV' ?_
    simp (maxSteps := 4000000) (disch := omega) only [step, stepv, ev, wl, wn, wp, wz, aop, cV, cV1, AV.one, partCells, okW, onlyFr, app, sliceCells, cellsAt, srcA, subA, eqFs, Int.cast_ofNat_Int, simprocAttr, tk, dk, n4, n5, tq]
    simp [frzN, frzK, frzL, frzV]

theorem sealed_iff {b : List UInt8} (h : 5 ≤ b.length) : (b.take (b.length - 4) ++ leB (sumM (b.take (b.length - 4))) 4 = b) ↔ leN (b.drop (b.length - 4)) = sumM (b.take (b.length - 4)) := by
  have hl : (b.drop (b.length - 4)).length = 4 := by simp; omega
  constructor
  · intro e
    have : leB (sumM (b.take (b.length - 4))) 4 = b.drop (b.length - 4) := by
      have h2 := List.take_append_drop (b.length - 4) b
      exact List.append_cancel_left (e.trans h2.symm)
    rw [← this, leN_leB2 4 _ (sumM_lt _)]
  · intro e
    rw [← e]
    have := leB_leN (b.drop (b.length - 4))
    rw [hl] at this
    rw [this, List.take_append_drop]
end Go.Am

namespace Go.Am
open Go.RowKit

/-! ### values -/

def sixD (F : Nat → Dl) : List AV := dlC (F 0) ++ dlC (F 1) ++ dlC (F 2) ++ dlC (F 3) ++ dlC (F 4) ++ dlC (F 5)
theorem isTL_sixD (F : Nat → Dl) : isTL (sixD F) = true := rfl
theorem sixD_len (F : Nat → Dl) : (sixD F).length = 24 := rfl
theorem sixD_get (F : Nat → Dl) {j : Nat} (h : j < 6) : ∃ r, (sixD F).drop (j * 4) = .int .i64 (F j).k0 :: .int .i64 (F j).k1 :: .int .u64 (F j).s0 :: .int .u64 (F j).s1 :: r := by
  rcases (by omega : j = 0 ∨ j = 1 ∨ j = 2 ∨ j = 3 ∨ j = 4 ∨ j = 5) with rfl | rfl | rfl | rfl | rfl | rfl <;> exact ⟨_, rfl⟩
def updD (F : Nat → Dl) (j : Nat) (d : Dl) : Nat → Dl := fun i => if i = j then d else F i
theorem sixD_set (F : Nat → Dl) {j : Nat} (h : j < 6) (d : Dl) : (sixD F).take (j * 4) ++ [.int .i64 d.k0, .int .i64 d.k1, .int .u64 d.s0, .int .u64 d.s1] ++ (sixD F).drop (j * 4 + 4) = sixD (updD F j d) := by
  rcases (by omega : j = 0 ∨ j = 1 ∨ j = 2 ∨ j = 3 ∨ j = 4 ∨ j = 5) with rfl | rfl | rfl | rfl | rfl | rfl <;> rfl

def vlA : (Nat × List Nat) ⊕ (List Nat × Nat) → AV
  | .inl (e, _) => .tup [.list 0 [], .int .i64 0, .int .i64 e]
  | .inr (o, a) => .tup [n32A o, .int .i64 a, .int .i64 0]
def S_dVals (P : Prg) (f : Nat) : Prop := ∀ N V c n : Nat, V < 2 ^ N → N ≤ 330000 → 1 ≤ c → c ≤ 6 → n * c ≤ 4000 → VC P f [.int .i64 c, .int .i64 n, bA N V] (vlA (valsM V N c (n * c) [] 0))
set_option maxHeartbeats 2000000 in
theorem deframe_values {P : Prg} {f fS fC fR t0 t1 t2 t3 : Nat} (bd : Body P f 76 [.tmp 6, .tmp 7, .tmp 8] (ac_deframe_values fS fC fR t0 t1 t2 t3)) (hS : S_Start P fS) (hC : S_Cut P fC) (hR : S_dRead P fR) : S_dVals P f := by
  intro N V c n hV hN hc hc6 hnc
  refine VC.of_walk 1 (by simp [isDL, isD_bA, isD]) (by unfold vlA; split <;> simp [isD, isDL, isD_n32A]) (ACall.of_body bd (by simp) ?_)
  simp only [S_Start, startM, dlA, dlC] at hS
  have hn4 : n ≤ 4000 := by
    have : n * 1 ≤ n * c := Nat.mul_le_mul_left _ hc
    omega
  have tu : isTL (u8 (leB V (nB N))) = true := isT_u8 _
  obtain ⟨T, hT⟩ : ∃ T, T = n * c := ⟨_, rfl⟩
  obtain ⟨R, hR0⟩ : ∃ R, R = valsM V N c (n * c) [] 0 := ⟨_, rfl⟩
  have eT : (n : Int) * c = (T : Int) := by rw [hT]; simp
  rw [← hR0]
  simp (maxSteps := 4000000) (disch := omega) only [step, stepv, ev, wl, wn, wp, wz, aop, cV, cV1, AV.one, partCells, okW, onlyFr, app, sliceCells, cellsAt, srcA, subA, eqFs, Int.cast_ofNat_Int, simprocAttr, ac_deframe_values, bA]
  refine ALoop.by (ι := Nat) (fun i => ⟨[(19, .int .i64 i), (9, .ref 1 1 0), (8, .int .i64 0), (7, .int .i64 0), (6, .emp true), (5, .ref 0 1 0), (0, .int .i64 c), (1, .int .i64 n)],
      [⟨t0, 2, 1, [.list (nB N) (u8 (leB V (nB N))), .int .i64 N], 0⟩, ⟨t1, 24, 1, sixD (fun j => if j < i then startM else ⟨0, 0, 0, 0⟩), 0⟩]⟩) (fun i => i ≤ 6) (fun i => 6 - i) 0 (Le.slots (by simp [Am.look])) (by omega) ?_
  intro i hi
  by_cases hlt : i < 6
  · have e1 := sixD_set (fun j => if j < i then startM else ⟨0, 0, 0, 0⟩) hlt startM
    have e2 : updD (fun j => if j < i then startM else ⟨0, 0, 0, 0⟩) i startM = fun j => if j < i + 1 then startM else ⟨0, 0, 0, 0⟩ := by
      funext j
      unfold updD
      by_cases h1 : j = i
      · subst h1; simp
      · by_cases h2 : j < i
        · simp [h1, h2, show j < i + 1 by omega]
        · simp [h1, h2, show ¬ j < i + 1 by omega]
    rw [e2] at e1
    have e3 := sixD_len (fun j => if j < i then startM else ⟨0, 0, 0, 0⟩)
    simp (maxSteps := 4000000) (disch := omega) only [step, stepv, ev, wl, wn, wp, wz, aop, cV, cV1, AV.one, partCells, okW, onlyFr, app, sliceCells, cellsAt, srcA, subA, eqFs, Int.cast_ofNat_Int, simprocAttr]
    refine callQ.vc hS ?_
    generalize hF : sixD (fun j => if j < i then startM else ⟨0, 0, 0, 0⟩) = F at *
    have e1' : F.take (i * 4) ++ [.int .i64 10, .int .i64 10, .int .u64 16384, .int .u64 16384] ++ F.drop (i * 4 + 4) = sixD fun j => if j < i + 1 then startM else ⟨0, 0, 0, 0⟩ := e1
    simp (maxSteps := 4000000) (disch := omega) only [step, stepv, ev, wl, wn, wp, wz, aop, cV, cV1, AV.one, partCells, okW, onlyFr, app, sliceCells, cellsAt, srcA, subA, eqFs, Int.cast_ofNat_Int, simprocAttr, e3]
    refine ⟨i + 1, by omega, by omega, ?_⟩
    rw [e1']
    exact Le.slots (by simp [Am.look])
  obtain rfl : i = 6 := by omega
  have hk0 : ∀ o : List Nat, (ks .u32 (o.map fun n : Nat => (n : Int))).length = o.length := fun o => by simp [ks]
  simp (maxSteps := 4000000) (disch := omega) only [step, stepv, ev, wl, wn, wp, wz, aop, cV, cV1, AV.one, partCells, okW, onlyFr, app, sliceCells, cellsAt, srcA, subA, eqFs, Int.cast_ofNat_Int, simprocAttr, eT]
  refine ALoop.by (ι := Nat × List Nat × Nat) (fun s => ⟨[(29, .int .i64 s.1), (28, .int .i64 T), (12, .int .i64 s.2.2), (11, .own 2 s.2.1.length), (9, .ref 1 1 0), (5, .ref 0 1 0), (0, .int .i64 c)],
      [⟨t0, 2, 1, [.list (nB N) (u8 (leB V (nB N))), .int .i64 N], 0⟩, ⟨t1, 24, 1, sixD (fun j => if j < c then chanM c j s.2.1 else startM), 0⟩, ⟨t3, 1, s.2.1.length, ks .u32 (s.2.1.map fun n : Nat => (n : Int)), 0⟩]⟩)
    (fun s => s.1 ≤ T ∧ s.2.1.length = s.1 ∧ s.2.2 ≤ N ∧ N32 s.2.1 ∧ valsM V N c (T - s.1) s.2.1 s.2.2 = R) (fun s => T - s.1) (0, [], 0) ?_ ⟨Nat.zero_le _, rfl, Nat.zero_le _, fun x hx => (by simp at hx), (by rw [hR0, hT]; rfl)⟩ ?_
  · have z1 : sixD (fun j => if j < 6 then startM else ⟨0, 0, 0, 0⟩) = sixD (fun _ => startM) := rfl
    have z2 : (fun j => if j < c then chanM c j [] else startM) = fun _ => startM := by
      funext j
      split <;> rfl
    simp only [z2]
    rw [z1]
    exact Le.trans (Le.virt 11 t3 1 (by decide) rfl) (Le.slots (by simp [Am.look]))
  rintro ⟨k, out, a⟩ ⟨h1, h2, h3, h4, h5⟩
  simp only at h1 h2 h3 h4 h5 ⊢
  by_cases hlt : k < T
  · obtain ⟨r, hr⟩ : ∃ r, r = k % c := ⟨_, rfl⟩
    have hrc : r < c := by rw [hr]; exact Nat.mod_lt _ (by omega)
    have e1 : (k : Int) % c = (r : Int) := by rw [hr]; simp [Int.natCast_emod]
    have e1' : ((k : Int)).tmod (c : Int) = (r : Int) := by rw [Int.tmod_eq_emod_of_nonneg (by omega), e1]
    have hc0 : (c : Int) ≠ 0 := by omega
    obtain ⟨b, hb⟩ : ∃ b, b = min (a + 81) N := ⟨_, rfl⟩
    have e2 : (if (N : Int) < (a : Int) + 81 then (N : Int) else (a : Int) + 81) = (b : Int) := by split <;> omega
    have hpn : b - a = prtN N a := by rw [hb]; rfl
    have hC' : VC P fC [bA N V, .int .i64 a, .int .i64 b] (.tup [bA (prtN N a) (prtV V N a), .int .i64 0]) := by
      have := hC N V a b hV hN (by omega) (by omega)
      rw [hpn] at this
      exact this
    have hpl : prtN N a ≤ 81 := by unfold prtN; omega
    have hd := chan_ok (c := c) (r := r) h4
    have hR' := hR (prtN N a) (prtV V N a) 0 (chanM c r out) (prtV_lt V N a) (by omega) (by omega) hd
    have hF : (fun j => if j < c then chanM c j out else startM) r = chanM c r out := by simp [hrc]
    obtain ⟨rest, hg⟩ := sixD_get (fun j => if j < c then chanM c j out else startM) (j := r) (by omega)
    simp only [hrc, if_true] at hg
    have hst := fun d => sixD_set (fun j => if j < c then chanM c j out else startM) (j := r) (by omega) d
    have hln := sixD_len (fun j => if j < c then chanM c j out else startM)
    have hupd : ∀ v : Nat, updD (fun j => if j < c then chanM c j out else startM) r (learnM (chanM c r out) v) = fun j => if j < c then chanM c j (out ++ [v]) else startM := by
      intro v
      funext j
      unfold updD
      by_cases hj : j = r
      · subst hj
        rw [if_pos rfl, if_pos hrc, chan_snoc, if_pos (by rw [h2, hr])]
      · rw [if_neg hj]
        by_cases hjc : j < c
        · simp only [hjc, if_true]
          rw [chan_snoc, if_neg (by rw [h2, ← hr]; exact fun e => hj e.symm)]
        · simp only [hjc, if_false]
    have hkT : T - k = (T - k - 1) + 1 := by omega
    rw [hkT, valsM, h2, ← hr] at h5
    have hgl := fun v nx (h : gotM (prtV V N a) (prtN N a) 0 (chanM c r out) = .inr (v, nx)) => got_lt hd h
    have hge := fun e (h : gotM (prtV V N a) (prtN N a) 0 (chanM c r out) = .inl e) => got_err h
    have hpN : prtN N a ≤ N - a := by unfold prtN; omega
    simp only [bA] at hC' hR'
    have hk1 := hk0 out
    have tk : isTL (ks .u32 (out.map fun n : Nat => (n : Int))) = true := isTL_ks _ _
    cases hgm : gotM (prtV V N a) (prtN N a) 0 (chanM c r out) with
    | inl e =>
      have he := hge e hgm
      rw [hgm] at hR' h5
      simp only at h5
      have he0 : (e : Int) ≠ 0 := by omega
      rw [← h5, vlA]
      generalize sixD (fun j => if j < c then chanM c j out else startM) = F at *
      generalize chanM c r out = d at *
      obtain ⟨d0, d1, d2, d3⟩ := d
      simp only [dlA, dlC, drA] at hR'
      simp only at hg
      simp (maxSteps := 4000000) (disch := omega) only [step, stepv, ev, wl, wn, wp, wz, aop, cV, cV1, AV.one, partCells, okW, onlyFr, app, sliceCells, cellsAt, srcA, subA, eqFs, Int.cast_ofNat_Int, simprocAttr, e2]
      refine callQ.vc hC' ?_
      simp (maxSteps := 4000000) (disch := omega) only [step, stepv, ev, wl, wn, wp, wz, aop, cV, cV1, AV.one, partCells, okW, onlyFr, app, sliceCells, cellsAt, srcA, subA, eqFs, Int.cast_ofNat_Int, simprocAttr, e1, e1', hc0, hg, hln]
      refine callD.vc hR' ?_
      simp (maxSteps := 4000000) (disch := omega) only [step, stepv, ev, wl, wn, wp, wz, aop, cV, cV1, AV.one, partCells, okW, onlyFr, app, sliceCells, cellsAt, srcA, subA, eqFs, Int.cast_ofNat_Int, simprocAttr]
      simp [frzN, frzK, frzL, frzV]
    | inr w =>
      obtain ⟨v, nx⟩ := w
      obtain ⟨v1, v2⟩ := hgl v nx hgm
      rw [hgm] at hR' h5
      simp only at h5
      have hset := hst (learnM (chanM c r out) v)
      rw [hupd v] at hset
      generalize hFF : sixD (fun j => if j < c then chanM c j out else startM) = F at *
      generalize chanM c r out = d at *
      obtain ⟨d0, d1, d2, d3⟩ := d
      simp only [drA] at hR'
      generalize learnM ⟨d0, d1, d2, d3⟩ v = d' at *
      obtain ⟨m0, m1, m2, m3⟩ := d'
      simp only [dlA, dlC] at hR'
      simp only at hg hset
      simp (maxSteps := 4000000) (disch := omega) only [step, stepv, ev, wl, wn, wp, wz, aop, cV, cV1, AV.one, partCells, okW, onlyFr, app, sliceCells, cellsAt, srcA, subA, eqFs, Int.cast_ofNat_Int, simprocAttr, e2]
      refine callQ.vc hC' ?_
      simp (maxSteps := 4000000) (disch := omega) only [step, stepv, ev, wl, wn, wp, wz, aop, cV, cV1, AV.one, partCells, okW, onlyFr, app, sliceCells, cellsAt, srcA, subA, eqFs, Int.cast_ofNat_Int, simprocAttr, e1, e1', hc0, hg, hln]
      refine callD.vc hR' ?_
      simp (maxSteps := 4000000) (disch := omega) only [step, stepv, ev, wl, wn, wp, wz, aop, cV, cV1, AV.one, partCells, okW, onlyFr, app, sliceCells, cellsAt, srcA, subA, eqFs, Int.cast_ofNat_Int, simprocAttr, e1, e1', hc0, hg, hln, hk1, h2]
      have hap : ks .u32 (out.map fun n : Nat => (n : Int)) ++ [.int .u32 (v : Int)] = ks .u32 ((out ++ [v]).map fun n : Nat => (n : Int)) := by simp [ks]
      have hol : (out ++ [v]).length = k + 1 := by simp [h2]
      refine ⟨(k + 1, out ++ [v], a + nx), ⟨by omega, hol, by simp only; omega, fun x hx => ?_, ?_⟩, by simp only; omega, ?_⟩
      · rcases List.mem_append.1 hx with h | h
        · exact h4 x h
        · simp at h; subst h; exact v1
      · simp only
        rw [show T - (k + 1) = T - k - 1 by omega]
        exact h5
      · simp only [hol]
        rw [hset, hap]
        exact Le.dropT [_, _, _] (by simp [isTL_sixD, isTL_ks, isTL, isT, isT_u8]) (by simp [Am.look, frzK, frzL, frzV])
  · obtain rfl : k = T := by omega
    rw [Nat.sub_self, valsM] at h5
    rw [← h5, vlA, n32A, u32L, List.length_map]
    simp (maxSteps := 4000000) (disch := omega) only [step, stepv, ev, wl, wn, wp, wz, aop, cV, cV1, AV.one, partCells, okW, onlyFr, app, sliceCells, cellsAt, srcA, subA, eqFs, Int.cast_ofNat_Int, simprocAttr]
    simp [frzN, frzK, frzL, frzV, frzL_T _ (isTL_ks _ _)]

end Go.Am

namespace Go.Am
open Go.RowKit

/-! ### Decode -/

def iL (o : List Nat) : List Int := o.map fun n : Nat => (n : Int)
def decV (V N c : Nat) (x : Int) (t : List Int) (w : (Nat × List Nat) ⊕ (List Nat × Nat)) : AV :=
  match w with
  | .inl (e, _) => erA e
  | .inr (o, a) => if restM V N a ≠ 0 then erA 12 else rngA x (unB c x t (iL o))
def decA (c x : Int) (t : List Int) (n : Int) (b : List UInt8) : AV :=
  if ask21 c x n ≠ 0 then erA 2 else if openM b ≠ 0 then erA (openM b : Nat) else
    decV (leN (b.take (b.length - 4))) (8 * (b.take (b.length - 4)).length) c.toNat x t (valsM (leN (b.take (b.length - 4))) (8 * (b.take (b.length - 4)).length) c.toNat (n.toNat * c.toNat) [] 0)
theorem isD_decV (V N c : Nat) (x : Int) (t : List Int) (w : (Nat × List Nat) ⊕ (List Nat × Nat)) : isD (decV V N c x t w) = true := by
  unfold decV
  split
  · rfl
  · split
    · rfl
    · exact isD_rng _ _
theorem isD_decA (c x : Int) (t : List Int) (n : Int) (b : List UInt8) : isD (decA c x t n b) = true := by
  unfold decA
  split
  · rfl
  split
  · rfl
  · exact isD_decV _ _ _ _ _ _

theorem ask21_cases {c x n : Int} (h : ask21 c x n = 0) : eCheck c x = 0 ∧ ∃ c' n' : Nat, c = c' ∧ n = n' ∧ 1 ≤ c' ∧ c' ≤ 6 ∧ 1 ≤ n' ∧ n' * c' ≤ 4000 ∧ half x ≠ 0 := by
  unfold ask21 at h
  rcases eCheck_cases c x with h1 | ⟨h1, h2, h3, h4⟩
  · rw [if_pos (by omega)] at h; omega
  · rw [if_neg (by omega)] at h
    split at h
    · omega
    split at h
    · omega
    rename_i h5 h6
    refine ⟨h1, c.toNat, n.toNat, by omega, by omega, by omega, by omega, by omega, ?_, h2⟩
    have h7 : n.toNat ≤ 4000 / c.toNat := by
      have : ((4000 / c.toNat : Nat) : Int) = 4000 / c := by rw [Int.natCast_ediv, Int.toNat_of_nonneg (by omega)]; rfl
      omega
    exact (Nat.le_div_iff_mul_le (by omega)).1 h7

theorem okV_of {V N c n : Nat} {o : List Nat} {a : Nat} (hc : 1 ≤ c) (hc6 : c ≤ 6) (hn : 1 ≤ n) (hnc : n * c ≤ 4000) (h : valsM V N c (n * c) [] 0 = .inr (o, a)) : okV c (iL o) ∧ a ≤ N ∧ o.length = n * c := by
  obtain ⟨_, h2⟩ := vals_spec (V := V) (N := N) (c := c) (n * c) [] 0 (Nat.zero_le _) (fun x hx => by simp at hx)
  obtain ⟨q1, q2, q3⟩ := h2 o a h
  rw [List.length_nil, Nat.zero_add] at q3
  have hpos : 0 < n * c := Nat.mul_pos hn hc
  refine ⟨⟨hc, hc6, by simp [iL]; omega, by simp [iL]; omega, by simp [iL, q3], fun x hx => ?_⟩, q2, q3⟩
  simp only [iL, List.mem_map] at hx
  obtain ⟨y, hy, rfl⟩ := hx
  have := q1 y hy
  omega

def S_Decode (P : Prg) (f : Nat) : Prop := ∀ (c x n : Int) (t : List Int) (b : List UInt8), t.length = 16 → I32 t → b.length ≤ 1000000 → VC P f [shA c x, .agg (ks .i32 t), .int .i64 n, bs b] (decA c x t n b)
set_option maxHeartbeats 2000000 in
theorem deframe_Decode {P : Prg} {f fE fO fF fV fG fS t0 t1 t2 : Nat} (bd : Body P f 87 [.tmp 8, .tmp 9] (ac_deframe_Decode fE fO fF fV fG fS t0 t1 t2)) (hE0 : S_ECheck P fE) (hO : S_opened P fO) (hF : S_bOf P fF) (hV : S_dVals P fV) (hG : S_bGet P fG) (hS : S_DSam P fS) : S_Decode P f := by
  intro c x n t b ht hI hb
  refine VC.of_walk 1 (by simp [isDL, isD_bs, isDL_ks, isD, shA]) (isD_decA _ _ _ _ _) (ACall.of_body bd (by simp) ?_)
  have hE' := hE0 c x
  have hO' := hO b hb
  have hk : (ks .i32 t).length = 16 := by simp [ks_length, ht]
  have tt : (ks .i32 t).take 16 = ks .i32 t := take_all (by omega)
  have ot := ks_one .i32 t
  rw [shA] at hE'
  simp only [bs] at hO'
  unfold decA
  rcases eCheck_cases c x with g1 | ⟨g1, g2, g3, g4⟩
  · have h1 : ask21 c x n = 2 := by unfold ask21; rw [if_pos (by omega)]
    rw [g1] at hE'
    rw [if_pos (by omega), erA]
    simp (maxSteps := 4000000) (disch := omega) only [step, stepv, ev, wl, wn, wp, wz, aop, cV, cV1, AV.one, partCells, okW, onlyFr, app, sliceCells, cellsAt, srcA, subA, eqFs, Int.cast_ofNat_Int, simprocAttr, ac_deframe_Decode, shA, bs, hk, tt, ot]
    refine callQ.vc hE' ?_
    simp (maxSteps := 4000000) (disch := omega) only [step, stepv, ev, wl, wn, wp, wz, aop, cV, cV1, AV.one, partCells, okW, onlyFr, app, sliceCells, cellsAt, srcA, subA, eqFs, Int.cast_ofNat_Int, simprocAttr]
    simp [frzN, frzK, frzL, frzV]
  rw [g1] at hE'
  have ed : ((4000 : Int)).tdiv c = 4000 / c := Int.tdiv_eq_ediv_of_nonneg (by omega)
  have hc0 : c ≠ 0 := by omega
  have hd1 : 4000 / c ≤ 4000 := by
    have := Int.ediv_le_self c (show (0 : Int) ≤ 4000 by omega)
    exact this
  have hd0 : 0 ≤ 4000 / c := Int.ediv_nonneg (by omega) (by omega)
  by_cases h1 : ask21 c x n = 0
  case neg =>
    rw [if_pos h1, erA]
    have h1' : n < 1 ∨ 4000 / c < n := by
      unfold ask21 at h1
      rw [if_neg (by omega)] at h1
      split at h1
      · exact .inl (by assumption)
      split at h1
      · exact .inr (by assumption)
      · omega
    obtain ⟨q, hq⟩ : ∃ q, q = 4000 / c := ⟨_, rfl⟩
    rw [← hq] at hd0 hd1 h1' ed
    have ed2 : (4000 : Int) / c = q := hq.symm
    clear hq
    by_cases h1'' : n < 1
    · simp (maxSteps := 4000000) (disch := omega) only [step, stepv, ev, wl, wn, wp, wz, aop, cV, cV1, AV.one, partCells, okW, onlyFr, app, sliceCells, cellsAt, srcA, subA, eqFs, Int.cast_ofNat_Int, simprocAttr, ac_deframe_Decode, shA, bs, hk, tt, ot]
      refine callQ.vc hE' ?_
      simp (maxSteps := 4000000) (disch := omega) only [step, stepv, ev, wl, wn, wp, wz, aop, cV, cV1, AV.one, partCells, okW, onlyFr, app, sliceCells, cellsAt, srcA, subA, eqFs, Int.cast_ofNat_Int, simprocAttr]
      simp [frzN, frzK, frzL, frzV]
    · have h1''' : q < n := by omega
      simp (maxSteps := 4000000) (disch := omega) only [step, stepv, ev, wl, wn, wp, wz, aop, cV, cV1, AV.one, partCells, okW, onlyFr, app, sliceCells, cellsAt, srcA, subA, eqFs, Int.cast_ofNat_Int, simprocAttr, ac_deframe_Decode, shA, bs, hk, tt, ot]
      refine callQ.vc hE' ?_
      simp (maxSteps := 4000000) (disch := omega) only [step, stepv, ev, wl, wn, wp, wz, aop, cV, cV1, AV.one, partCells, okW, onlyFr, app, sliceCells, cellsAt, srcA, subA, eqFs, Int.cast_ofNat_Int, simprocAttr, ed, ed2, hc0]
      simp [frzN, frzK, frzL, frzV]
  rw [if_neg (by omega)]
  obtain ⟨_, c', n', rfl, rfl, q1, q2, q3, q4, q5⟩ := ask21_cases h1
  have hnq : (n' : Int) ≤ 4000 / (c' : Int) := by
    unfold ask21 at h1
    rw [if_neg (by omega)] at h1
    split at h1
    · omega
    split at h1
    · omega
    · omega
  obtain ⟨q, hq⟩ : ∃ q, q = (4000 : Int) / (c' : Int) := ⟨_, rfl⟩
  rw [← hq] at hd0 hd1 hnq ed
  have ed2 : (4000 : Int) / (c' : Int) = q := hq.symm
  clear hq
  by_cases h2 : openM b = 0
  case neg =>
    have h2' : ((openM b : Nat) : Int) ≠ 0 := by omega
    rw [opA, if_neg h2] at hO'
    rw [if_pos h2, erA]
    generalize openM b = m at *
    simp (maxSteps := 4000000) (disch := omega) only [step, stepv, ev, wl, wn, wp, wz, aop, cV, cV1, AV.one, partCells, okW, onlyFr, app, sliceCells, cellsAt, srcA, subA, eqFs, Int.cast_ofNat_Int, simprocAttr, ac_deframe_Decode, shA, bs, hk, tt, ot]
    refine callQ.vc hE' ?_
    simp (maxSteps := 4000000) (disch := omega) only [step, stepv, ev, wl, wn, wp, wz, aop, cV, cV1, AV.one, partCells, okW, onlyFr, app, sliceCells, cellsAt, srcA, subA, eqFs, Int.cast_ofNat_Int, simprocAttr, ed, ed2, hc0]
    refine callQ.vc hO' ?_
    simp (maxSteps := 4000000) (disch := omega) only [step, stepv, ev, wl, wn, wp, wz, aop, cV, cV1, AV.one, partCells, okW, onlyFr, app, sliceCells, cellsAt, srcA, subA, eqFs, Int.cast_ofNat_Int, simprocAttr]
    simp [frzN, frzK, frzL, frzV]
  rw [if_neg (by omega)]
  have hbl : 5 ≤ b.length ∧ b.length ≤ 41254 := by
    unfold openM at h2
    split at h2
    · omega
    split at h2
    · omega
    · omega
  rw [opA, if_pos h2] at hO'
  have hpl : (b.take (b.length - 4)).length = b.length - 4 := by simp
  have hF' := hF (b.take (b.length - 4)) (by omega)
  have hVlt := leN_lt' (b.take (b.length - 4))
  have hbA := bA_of (b.take (b.length - 4))
  rw [ofA, if_neg (by omega), hbA] at hF'
  simp only [Int.toNat_natCast]
  have hV' := hV (8 * (b.take (b.length - 4)).length) (leN (b.take (b.length - 4))) c' n' hVlt (by omega) q1 q2 q4
  have hG0 := fun a m => hG (8 * (b.take (b.length - 4)).length) (leN (b.take (b.length - 4))) a m hVlt (by omega)
  rw [hbA] at hV'
  simp only [hbA] at hG0
  simp only [bs, hpl] at hF' hV' hG0 hO' hVlt ⊢
  have hNN : 8 * (b.length - 4) ≤ 330000 := by omega
  generalize hp : b.take (b.length - 4) = p at *
  generalize leN p = V at *
  obtain ⟨N, hN⟩ : ∃ N, N = 8 * (b.length - 4) := ⟨_, rfl⟩
  rw [← hN] at hF' hV' hG0 hVlt hNN ⊢
  have hokv := fun o a (h : valsM V N c' (n' * c') [] 0 = .inr (o, a)) => okV_of q1 q2 q3 q4 h
  have hspec := vals_spec (V := V) (N := N) (c := c') (n' * c') [] 0 (Nat.zero_le _) (fun x hx => by simp at hx)
  cases hw : valsM V N c' (n' * c') [] 0 with
  | inl w =>
    obtain ⟨e, o⟩ := w
    have he := (hspec.1 e o hw).1
    have he0 : (e : Int) ≠ 0 := by omega
    rw [hw, vlA] at hV'
    simp only [decV, erA]
    simp (maxSteps := 4000000) (disch := omega) only [step, stepv, ev, wl, wn, wp, wz, aop, cV, cV1, AV.one, partCells, okW, onlyFr, app, sliceCells, cellsAt, srcA, subA, eqFs, Int.cast_ofNat_Int, simprocAttr, ac_deframe_Decode, shA, bs, hk, tt, ot]
    refine callQ.vc hE' ?_
    simp (maxSteps := 4000000) (disch := omega) only [step, stepv, ev, wl, wn, wp, wz, aop, cV, cV1, AV.one, partCells, okW, onlyFr, app, sliceCells, cellsAt, srcA, subA, eqFs, Int.cast_ofNat_Int, simprocAttr, ed, ed2, hc0]
    refine callQ.vc hO' ?_
    simp (maxSteps := 4000000) (disch := omega) only [step, stepv, ev, wl, wn, wp, wz, aop, cV, cV1, AV.one, partCells, okW, onlyFr, app, sliceCells, cellsAt, srcA, subA, eqFs, Int.cast_ofNat_Int, simprocAttr]
    refine callQ.vc hF' ?_
    simp (maxSteps := 4000000) (disch := omega) only [step, stepv, ev, wl, wn, wp, wz, aop, cV, cV1, AV.one, partCells, okW, onlyFr, app, sliceCells, cellsAt, srcA, subA, eqFs, Int.cast_ofNat_Int, simprocAttr]
    refine callQ.vc hV' ?_
    simp (maxSteps := 4000000) (disch := omega) only [step, stepv, ev, wl, wn, wp, wz, aop, cV, cV1, AV.one, partCells, okW, onlyFr, app, sliceCells, cellsAt, srcA, subA, eqFs, Int.cast_ofNat_Int, simprocAttr]
    simp [frzN, frzK, frzL, frzV]
  | inr w =>
    obtain ⟨o, a⟩ := w
    obtain ⟨hv, ha, hol⟩ := hokv o a hw
    rw [hw, vlA, n32A, u32L, List.length_map] at hV'
    simp only [decV]
    have hS' := hS c' x t (iL o) ht hI hv q5
    rw [shA, u32L, iL, List.length_map] at hS'
    by_cases h8 : 7 < N - a
    · have h12 : restM V N a = 12 := by unfold restM; rw [if_pos h8]
      rw [h12, if_pos (by omega), erA]
      simp (maxSteps := 4000000) (disch := omega) only [step, stepv, ev, wl, wn, wp, wz, aop, cV, cV1, AV.one, partCells, okW, onlyFr, app, sliceCells, cellsAt, srcA, subA, eqFs, Int.cast_ofNat_Int, simprocAttr, ac_deframe_Decode, shA, bs, hk, tt, ot]
      refine callQ.vc hE' ?_
      simp (maxSteps := 4000000) (disch := omega) only [step, stepv, ev, wl, wn, wp, wz, aop, cV, cV1, AV.one, partCells, okW, onlyFr, app, sliceCells, cellsAt, srcA, subA, eqFs, Int.cast_ofNat_Int, simprocAttr, ed, ed2, hc0]
      refine callQ.vc hO' ?_
      simp (maxSteps := 4000000) (disch := omega) only [step, stepv, ev, wl, wn, wp, wz, aop, cV, cV1, AV.one, partCells, okW, onlyFr, app, sliceCells, cellsAt, srcA, subA, eqFs, Int.cast_ofNat_Int, simprocAttr]
      refine callQ.vc hF' ?_
      simp (maxSteps := 4000000) (disch := omega) only [step, stepv, ev, wl, wn, wp, wz, aop, cV, cV1, AV.one, partCells, okW, onlyFr, app, sliceCells, cellsAt, srcA, subA, eqFs, Int.cast_ofNat_Int, simprocAttr]
      refine callQ.vc hV' ?_
      simp (maxSteps := 4000000) (disch := omega) only [step, stepv, ev, wl, wn, wp, wz, aop, cV, cV1, AV.one, partCells, okW, onlyFr, app, sliceCells, cellsAt, srcA, subA, eqFs, Int.cast_ofNat_Int, simprocAttr]
      simp [frzN, frzK, frzL, frzV]
    · have hG' := hG0 a (N - a) (by omega) (by omega)
      rw [if_neg (by omega)] at hG'
      have hlt : V / 2 ^ a < 2 ^ (N - a) := Nat.div_lt_of_lt_mul (by rw [← Nat.pow_add, show a + (N - a) = N by omega]; exact hVlt)
      rw [Nat.mod_eq_of_lt hlt] at hG'
      have eNa : (N : Int) - a = ((N - a : Nat) : Int) := by omega
      have h7 : 2 ^ (N - a) ≤ 2 ^ 7 := Nat.pow_le_pow_right (by omega) (by omega)
      have hr : restM V N a = if V / 2 ^ a = 0 then 0 else 12 := by unfold restM; rw [if_neg h8]
      rw [hr]
      generalize V / 2 ^ a = y at *
      obtain ⟨m, hm⟩ : ∃ m, m = N - a := ⟨_, rfl⟩
      rw [← hm] at hG' eNa
      have hm7 : m ≤ 7 := by omega
      by_cases h0 : y = 0
      · subst h0
        rw [if_pos rfl, if_neg (by omega)]
        have hG'' : VC P fG [.agg [.list (b.length - 4) (u8 p), .int .i64 N], .int .i64 a, .int .i64 m] (.tup [.int .u64 0, .int .i64 0]) := hG'
        simp (maxSteps := 4000000) (disch := omega) only [step, stepv, ev, wl, wn, wp, wz, aop, cV, cV1, AV.one, partCells, okW, onlyFr, app, sliceCells, cellsAt, srcA, subA, eqFs, Int.cast_ofNat_Int, simprocAttr, ac_deframe_Decode, shA, bs, hk, tt, ot]
        refine callQ.vc hE' ?_
        simp (maxSteps := 4000000) (disch := omega) only [step, stepv, ev, wl, wn, wp, wz, aop, cV, cV1, AV.one, partCells, okW, onlyFr, app, sliceCells, cellsAt, srcA, subA, eqFs, Int.cast_ofNat_Int, simprocAttr, ed, ed2, hc0]
        refine callQ.vc hO' ?_
        simp (maxSteps := 4000000) (disch := omega) only [step, stepv, ev, wl, wn, wp, wz, aop, cV, cV1, AV.one, partCells, okW, onlyFr, app, sliceCells, cellsAt, srcA, subA, eqFs, Int.cast_ofNat_Int, simprocAttr]
        refine callQ.vc hF' ?_
        simp (maxSteps := 4000000) (disch := omega) only [step, stepv, ev, wl, wn, wp, wz, aop, cV, cV1, AV.one, partCells, okW, onlyFr, app, sliceCells, cellsAt, srcA, subA, eqFs, Int.cast_ofNat_Int, simprocAttr]
        refine callQ.vc hV' ?_
        simp (maxSteps := 4000000) (disch := omega) only [step, stepv, ev, wl, wn, wp, wz, aop, cV, cV1, AV.one, partCells, okW, onlyFr, app, sliceCells, cellsAt, srcA, subA, eqFs, Int.cast_ofNat_Int, simprocAttr, eNa]
        refine callQ.vc hG'' ?_
        simp (maxSteps := 4000000) (disch := omega) only [step, stepv, ev, wl, wn, wp, wz, aop, cV, cV1, AV.one, partCells, okW, onlyFr, app, sliceCells, cellsAt, srcA, subA, eqFs, Int.cast_ofNat_Int, simprocAttr, hk, tt, ot]
        refine callQ.vc hS' ?_
        simp only [iL]
        generalize unB c' x t (o.map fun n : Nat => (n : Int)) = z at *
        unfold rngA
        by_cases h4 : checkN x z = 0
        · rw [if_neg (by omega)]
          simp (maxSteps := 4000000) (disch := omega) only [step, stepv, ev, wl, wn, wp, wz, aop, cV, cV1, AV.one, partCells, okW, onlyFr, app, sliceCells, cellsAt, srcA, subA, eqFs, Int.cast_ofNat_Int, simprocAttr, il]
          simp [frzN, frzK, frzL, frzV, frzL_T _ (isTL_ks _ _)]
        · rw [if_pos h4]
          simp (maxSteps := 4000000) (disch := omega) only [step, stepv, ev, wl, wn, wp, wz, aop, cV, cV1, AV.one, partCells, okW, onlyFr, app, sliceCells, cellsAt, srcA, subA, eqFs, Int.cast_ofNat_Int, simprocAttr]
          simp [frzN, frzK, frzL, frzV]
      · rw [if_neg h0, if_pos (by omega), erA]
        simp (maxSteps := 4000000) (disch := omega) only [step, stepv, ev, wl, wn, wp, wz, aop, cV, cV1, AV.one, partCells, okW, onlyFr, app, sliceCells, cellsAt, srcA, subA, eqFs, Int.cast_ofNat_Int, simprocAttr, ac_deframe_Decode, shA, bs, hk, tt, ot]
        refine callQ.vc hE' ?_
        simp (maxSteps := 4000000) (disch := omega) only [step, stepv, ev, wl, wn, wp, wz, aop, cV, cV1, AV.one, partCells, okW, onlyFr, app, sliceCells, cellsAt, srcA, subA, eqFs, Int.cast_ofNat_Int, simprocAttr, ed, ed2, hc0]
        refine callQ.vc hO' ?_
        simp (maxSteps := 4000000) (disch := omega) only [step, stepv, ev, wl, wn, wp, wz, aop, cV, cV1, AV.one, partCells, okW, onlyFr, app, sliceCells, cellsAt, srcA, subA, eqFs, Int.cast_ofNat_Int, simprocAttr]
        refine callQ.vc hF' ?_
        simp (maxSteps := 4000000) (disch := omega) only [step, stepv, ev, wl, wn, wp, wz, aop, cV, cV1, AV.one, partCells, okW, onlyFr, app, sliceCells, cellsAt, srcA, subA, eqFs, Int.cast_ofNat_Int, simprocAttr]
        refine callQ.vc hV' ?_
        simp (maxSteps := 4000000) (disch := omega) only [step, stepv, ev, wl, wn, wp, wz, aop, cV, cV1, AV.one, partCells, okW, onlyFr, app, sliceCells, cellsAt, srcA, subA, eqFs, Int.cast_ofNat_Int, simprocAttr, eNa]
        refine callQ.vc hG' ?_
        simp (maxSteps := 4000000) (disch := omega) only [step, stepv, ev, wl, wn, wp, wz, aop, cV, cV1, AV.one, partCells, okW, onlyFr, app, sliceCells, cellsAt, srcA, subA, eqFs, Int.cast_ofNat_Int, simprocAttr]
        simp [frzN, frzK, frzL, frzV]

end Go.Am

namespace Go.Am
open Go.RowKit

/-! ### How many samples are good (plain) -/

theorem take_getD {l : List Int} {k j : Nat} (h : j < k) : (l.take k).getD j 0 = l.getD j 0 := by
  simp only [List.getD_eq_getElem?_getD, List.getElem?_take_of_lt h]
theorem stB_take {c : Nat} {L : List Int} {z : Chan} {k m : Nat} : ∀ n, (∀ i, i < n → k + i * c < m) → stB c (L.take m) z k n = stB c L z k n
  | 0, _ => rfl
  | n + 1, h => by
    rw [stB, stB, stB_take n fun i hi => h i (by omega), take_getD (h n (by omega))]
theorem bacV_take {c : Nat} {L : List Int} {z : Chan} {j m : Nat} (hc : 1 ≤ c) (hj : j < m) : bacV c (L.take m) z j = bacV c L z j := by
  rw [bacV, bacV, take_getD hj, stB_take _ fun i hi => ?_]
  have h1 := Nat.div_add_mod j c
  have h2 : i * c + c ≤ j / c * c := by
    have := Nat.mul_le_mul_right c (show i + 1 ≤ j / c from hi)
    rwa [Nat.add_mul, Nat.one_mul] at this
  rw [Nat.mul_comm c] at h1
  omega
theorem seg_lt {c j m : Nat} (hj : j < m * c) (hc : 1 ≤ c) : c * (j / c) + c ≤ m * c := by
  have h1 : j / c < m := (Nat.div_lt_iff_lt_mul hc).2 hj
  have := Nat.mul_le_mul_right c (show j / c + 1 ≤ m from h1)
  rw [Nat.add_mul, Nat.one_mul, Nat.mul_comm (j / c)] at this
  exact this
theorem unB_take {c : Nat} {x : Int} {t v : List Int} {m : Nat} (hc : 1 ≤ c) (hm : m * c ≤ v.length) : unB c x t (v.take (m * c)) = (unB c x t v).take (m * c) := by
  have hl : (v.take (m * c)).length = m * c := by simp; omega
  apply getD_ext
  · simp only [unB_len, List.length_take]
  intro j hj
  rw [unB_len, hl] at hj
  have hjv : j < v.length := by omega
  rw [take_getD hj]
  unfold unB undAll undT
  rw [map_getD (by rw [bacT_len, hl]; exact hj), map_getD (by rw [bacT_len]; exact hjv)]
  unfold undV
  refine ud_congr hc (fun i hi => ?_) _
  have hs := seg_lt hj hc
  rw [bacT, bacT, map_getD (by rw [hl]; omega), map_getD (by omega), List.map_take, bacV_take hc (by omega)]

def okP (c : Nat) (x : Int) (l : List Int) (k : Nat) : Bool := (l.take (k * c)).all (inR x)
def goodK (c : Nat) (x : Int) (l : List Int) : Nat → Nat
  | 0 => 0
  | m + 1 => if okP c x l (m + 1) then m + 1 else goodK c x l m
theorem okP_zero (c : Nat) (x : Int) (l : List Int) : okP c x l 0 = true := by simp [okP]
theorem okP_mono {c : Nat} {x : Int} {l : List Int} {j k : Nat} (h : okP c x l k = true) (hjk : j ≤ k) : okP c x l j = true := by
  unfold okP at h ⊢
  have : j * c ≤ k * c := Nat.mul_le_mul_right c hjk
  rw [List.all_eq_true] at h ⊢
  intro y hy
  refine h y ?_
  rw [show l.take (j * c) = (l.take (k * c)).take (j * c) by rw [List.take_take, Nat.min_eq_left this]] at hy
  exact List.mem_of_mem_take hy
theorem goodK_spec (c : Nat) (x : Int) (l : List Int) : ∀ m, goodK c x l m ≤ m ∧ okP c x l (goodK c x l m) = true ∧ ∀ k, k ≤ m → okP c x l k = true → k ≤ goodK c x l m
  | 0 => ⟨Nat.le_refl _, okP_zero _ _ _, fun k hk _ => hk⟩
  | m + 1 => by
    obtain ⟨h1, h2, h3⟩ := goodK_spec c x l m
    unfold goodK
    split
    · rename_i h; exact ⟨Nat.le_refl _, h, fun k hk _ => hk⟩
    · rename_i h
      refine ⟨by omega, h2, fun k hk hok => ?_⟩
      rcases Nat.lt_or_ge m k with hlt | hge
      · obtain rfl : k = m + 1 := by omega
        exact absurd hok h
      · exact h3 k hge hok
def goodM (c : Nat) (x : Int) (t v : List Int) : Nat := goodK c x (unB c x t (v.take (v.length / c * c))) (v.length / c) * c
theorem goodM_le {c : Nat} {x : Int} {t v : List Int} : goodM c x t v ≤ v.length := by
  have h1 := (goodK_spec c x (unB c x t (v.take (v.length / c * c))) (v.length / c)).1
  have h2 := Nat.mul_le_mul_right c h1
  have h3 := Nat.div_mul_le_self v.length c
  unfold goodM
  omega
theorem chk_all {x : Int} {l : List Int} (hx : half x ≠ 0) (hl : l.length ≤ 4000) : checkN x l = if l.all (inR x) then 0 else 16 := by
  unfold checkN
  rw [if_neg hx, if_neg (by omega)]

/-! ### verdict.check, sound -/

theorem verdict_check {P : Prg} {f fE t0 : Nat} (bd : Body P f 20 [.tmp 4] (ac_verdict_check fE t0)) (hE : S_ECheck P fE) : S_Ask21 P f := by
  intro c x n
  refine VC.of_acall (by simp [isDL, isD, shA]) rfl (ACall.of_body bd (by simp) ?_)
  have hE' := hE c x
  rw [shA] at hE'
  simp (maxSteps := 4000000) (disch := omega) only [step, stepv, ev, wl, wn, wp, wz, aop, cV, cV1, AV.one, partCells, okW, onlyFr, app, sliceCells, cellsAt, srcA, subA, eqFs, Int.cast_ofNat_Int, simprocAttr, ac_verdict_check, shA]
  refine callQ.vc hE' ?_
  rcases eCheck_cases c x with h1 | ⟨h1, h2, h3, h4⟩
  · have e9 : ask21 c x n = 2 := by simp [ask21, h1]
    simp (maxSteps := 4000000) (disch := omega) only [step, stepv, ev, wl, wn, wp, wz, aop, cV, cV1, AV.one, partCells, okW, onlyFr, app, sliceCells, cellsAt, srcA, subA, eqFs, Int.cast_ofNat_Int, simprocAttr, h1, e9]
  by_cases h5 : n < 1
  · have e9 : ask21 c x n = 2 := by simp [ask21, h5]
    simp (maxSteps := 4000000) (disch := omega) only [step, stepv, ev, wl, wn, wp, wz, aop, cV, cV1, AV.one, partCells, okW, onlyFr, app, sliceCells, cellsAt, srcA, subA, eqFs, Int.cast_ofNat_Int, simprocAttr, h1, e9]
  have ed : ((4000 : Int)).tdiv c = 4000 / c := Int.tdiv_eq_ediv_of_nonneg (by omega)
  have hc0 : c ≠ 0 := by omega
  have hd1 : 4000 / c ≤ 4000 := Int.ediv_le_self c (show (0 : Int) ≤ 4000 by omega)
  have hd0 : 0 ≤ 4000 / c := Int.ediv_nonneg (by omega) (by omega)
  have e9 : ask21 c x n = if 4000 / c < n then 2 else 0 := by simp [ask21, h1, h5]
  obtain ⟨q, hq⟩ : ∃ q, q = 4000 / c := ⟨_, rfl⟩
  rw [← hq] at hd0 hd1 ed e9
  have ed2 : (4000 : Int) / c = q := hq.symm
  clear hq
  by_cases h6 : q < n
  · rw [if_pos h6] at e9
    simp (maxSteps := 4000000) (disch := omega) only [step, stepv, ev, wl, wn, wp, wz, aop, cV, cV1, AV.one, partCells, okW, onlyFr, app, sliceCells, cellsAt, srcA, subA, eqFs, Int.cast_ofNat_Int, simprocAttr, h1, ed, ed2, hc0, e9]
  · rw [if_neg h6] at e9
    simp (maxSteps := 4000000) (disch := omega) only [step, stepv, ev, wl, wn, wp, wz, aop, cV, cV1, AV.one, partCells, okW, onlyFr, app, sliceCells, cellsAt, srcA, subA, eqFs, Int.cast_ofNat_Int, simprocAttr, h1, ed, ed2, hc0, e9]

def S_Sound (P : Prg) (f : Nat) : Prop := ∀ b : List UInt8, b.length ≤ 1000000 → VC P f [bs b] (.bool (decide (openM b = 0)))
theorem verdict_sound {P : Prg} {f fS fV : Nat} (bd : Body P f 43 [.tmp 2] (ac_verdict_sound fS fV)) (hS : S_CSum P fS) (hV : S_le_Value P fV) : S_Sound P f := by
  intro b hb
  refine VC.of_acall (by simp [isDL, isD_bs]) rfl (ACall.of_body bd (by simp) ?_)
  unfold openM
  by_cases h1 : b.length < 5
  · simp only [h1, if_true]
    simp (maxSteps := 4000000) (disch := omega) only [step, stepv, ev, wl, wn, wp, wz, aop, cV, cV1, AV.one, partCells, okW, onlyFr, app, sliceCells, cellsAt, srcA, subA, eqFs, Int.cast_ofNat_Int, simprocAttr, ac_verdict_sound, bs]
    try rfl
  simp only [h1, if_false]
  by_cases h2 : 41254 < b.length
  · simp only [h2, if_true]
    simp (maxSteps := 4000000) (disch := omega) only [step, stepv, ev, wl, wn, wp, wz, aop, cV, cV1, AV.one, partCells, okW, onlyFr, app, sliceCells, cellsAt, srcA, subA, eqFs, Int.cast_ofNat_Int, simprocAttr, ac_verdict_sound, bs]
    try rfl
  simp only [h2, if_false]
  have hS' := hS (b.take (b.length - 4))
  rw [if_neg (by simp; omega), ← sumM] at hS'
  have hl1 : (b.take (b.length - 4)).length = b.length - 4 := by simp
  have hl2 : (b.drop (b.length - 4)).length = 4 := by simp; omega
  have hs := sumM_lt (b.take (b.length - 4))
  have hV' := hV (b.drop (b.length - 4)) (by omega) (by omega)
  have tk : (u8 b).take (b.length - 4) = u8 (b.take (b.length - 4)) := by simp [u8, List.map_take]
  have dk : (u8 b).drop (b.length - 4) = u8 (b.drop (b.length - 4)) := by simp [u8, List.map_drop]
  simp only [bs, hl1, hl2] at hS' hV'
  have hpl : (u8 (b.take (b.length - 4))).length = b.length - 4 := by rw [u8_length, hl1]
  have hql : (u8 (b.drop (b.length - 4))).length = 4 := by rw [u8_length, hl2]
  have tq : (u8 (b.drop (b.length - 4))).take 4 = u8 (b.drop (b.length - 4)) := List.take_of_length_le (by omega)
  have hq : leN (b.drop (b.length - 4)) < 4294967296 := by
    have := leN_lt (b.drop (b.length - 4))
    rw [hl2] at this
    exact this
  generalize b.take (b.length - 4) = p at *
  generalize b.drop (b.length - 4) = q at *
  generalize sumM p = s at *
  generalize leN q = r at *
  have e0 : ((b.length : Int) - 4).toNat = b.length - 4 := by omega
  have e1 : ((b.length : Int) - ((b.length : Int) - 4)).toNat = 4 := by omega
  have e2 : b.length - 4 - 0 = b.length - 4 := by omega
  have e3 : b.length - (b.length - 4) = 4 := by omega
  simp (maxSteps := 4000000) (disch := omega) only [step, stepv, ev, wl, wn, wp, wz, aop, cV, cV1, AV.one, partCells, okW, onlyFr, app, sliceCells, cellsAt, srcA, subA, eqFs, Int.cast_ofNat_Int, simprocAttr, ac_verdict_sound, bs, tk, dk, e0, e1, e2, e3, tq]
  refine callQ.vc hS' ?_
  simp (maxSteps := 4000000) (disch := omega) only [step, stepv, ev, wl, wn, wp, wz, aop, cV, cV1, AV.one, partCells, okW, onlyFr, app, sliceCells, cellsAt, srcA, subA, eqFs, Int.cast_ofNat_Int, simprocAttr, tk, dk, e0, e1, e2, e3, tq]
  refine callQ.vc hV' ?_
  by_cases he : r = s
  · subst he
    simp (maxSteps := 4000000) (disch := omega) only [step, stepv, ev, wl, wn, wp, wz, aop, cV, cV1, AV.one, partCells, okW, onlyFr, app, sliceCells, cellsAt, srcA, subA, eqFs, Int.cast_ofNat_Int, simprocAttr]
  · have he' : (r : Int) ≠ s := by omega
    simp (maxSteps := 4000000) (disch := omega) only [step, stepv, ev, wl, wn, wp, wz, aop, cV, cV1, AV.one, partCells, okW, onlyFr, app, sliceCells, cellsAt, srcA, subA, eqFs, Int.cast_ofNat_Int, simprocAttr, he, he']
    try rfl

end Go.Am

namespace Go.Am
open Go.RowKit

/-! ### verdict.values -/

def vlsM : (Nat × List Nat) ⊕ (List Nat × Nat) → List Nat
  | .inl (_, o) => o
  | .inr (o, _) => o
def allV (b : List UInt8) (c n : Nat) : (Nat × List Nat) ⊕ (List Nat × Nat) := valsM (leN (b.take (b.length - 4))) (8 * (b.take (b.length - 4)).length) c (n * c) [] 0
def S_vVals (P : Prg) (f : Nat) : Prop := ∀ (b : List UInt8) (c n : Nat), 5 ≤ b.length → b.length ≤ 41254 → 1 ≤ c → c ≤ 6 → n * c ≤ 4000 → VC P f [.int .i64 c, .int .i64 n, bs b] (n32A (vlsM (allV b c n)))
set_option maxHeartbeats 2000000 in
theorem verdict_values {P : Prg} {f fS fO fC fR t0 t1 t2 t3 : Nat} (bd : Body P f 86 [.tmp 6] (ac_verdict_values fS fO fC fR t0 t1 t2 t3)) (hS : S_Start P fS) (hO : S_bOf P fO) (hC : S_Cut P fC) (hR : S_dRead P fR) : S_vVals P f := by
  intro b c n hb5 hb hc hc6 hnc
  refine VC.of_walk 1 (by simp [isDL, isD_bs, isD]) (isD_n32A _) (ACall.of_body bd (by simp) ?_)
  simp only [S_Start, startM, dlA, dlC] at hS
  have hn4 : n ≤ 4000 := by
    have : n * 1 ≤ n * c := Nat.mul_le_mul_left _ hc
    omega
  unfold allV
  have hpl : (b.take (b.length - 4)).length = b.length - 4 := by simp
  have hO' := hO (b.take (b.length - 4)) (by omega)
  have hVlt := leN_lt' (b.take (b.length - 4))
  have hbA := bA_of (b.take (b.length - 4))
  rw [ofA, if_neg (by omega)] at hO'
  have tkb : (u8 b).take (b.length - 4) = u8 (b.take (b.length - 4)) := by simp [u8, List.map_take]
  have n5 : b.length - 4 - 0 = b.length - 4 := by omega
  obtain ⟨N, hN0⟩ : ∃ N, N = 8 * (b.take (b.length - 4)).length := ⟨_, rfl⟩
  rw [← hN0] at hO' hVlt hbA ⊢
  rw [bs, hpl] at hO'
  have hN : N ≤ 330000 := by omega
  generalize hp : b.take (b.length - 4) = p at *
  generalize leN p = V at *
  have hV : V < 2 ^ N := hVlt
  have tu : isTL (u8 (leB V (nB N))) = true := isT_u8 _
  obtain ⟨T, hT⟩ : ∃ T, T = n * c := ⟨_, rfl⟩
  obtain ⟨R, hR0⟩ : ∃ R, R = valsM V N c (n * c) [] 0 := ⟨_, rfl⟩
  have eT : (n : Int) * c = (T : Int) := by rw [hT]; simp
  rw [← hR0]
  rw [bA] at hO'
  simp (maxSteps := 4000000) (disch := omega) only [step, stepv, ev, wl, wn, wp, wz, aop, cV, cV1, AV.one, partCells, okW, onlyFr, app, sliceCells, cellsAt, srcA, subA, eqFs, Int.cast_ofNat_Int, simprocAttr, ac_verdict_values, bs]
  refine ALoop.by (ι := Nat) (fun i => ⟨[(19, .int .i64 i), (7, .ref 0 1 0), (6, .emp true), (0, .int .i64 c), (1, .int .i64 n), (2, .list b.length (u8 b))],
      [⟨t0, 24, 1, sixD (fun j => if j < i then startM else ⟨0, 0, 0, 0⟩), 0⟩]⟩) (fun i => i ≤ 6) (fun i => 6 - i) 0 (Le.slots (by simp [Am.look])) (by omega) ?_
  intro i hi
  by_cases hlt : i < 6
  · have e1 := sixD_set (fun j => if j < i then startM else ⟨0, 0, 0, 0⟩) hlt startM
    have e2 : updD (fun j => if j < i then startM else ⟨0, 0, 0, 0⟩) i startM = fun j => if j < i + 1 then startM else ⟨0, 0, 0, 0⟩ := by
      funext j
      unfold updD
      by_cases h1 : j = i
      · subst h1; simp
      · by_cases h2 : j < i
        · simp [h1, h2, show j < i + 1 by omega]
        · simp [h1, h2, show ¬ j < i + 1 by omega]
    rw [e2] at e1
    have e3 := sixD_len (fun j => if j < i then startM else ⟨0, 0, 0, 0⟩)
    simp (maxSteps := 4000000) (disch := omega) only [step, stepv, ev, wl, wn, wp, wz, aop, cV, cV1, AV.one, partCells, okW, onlyFr, app, sliceCells, cellsAt, srcA, subA, eqFs, Int.cast_ofNat_Int, simprocAttr]
    refine callQ.vc hS ?_
    generalize hF : sixD (fun j => if j < i then startM else ⟨0, 0, 0, 0⟩) = F at *
    have e1' : F.take (i * 4) ++ [.int .i64 10, .int .i64 10, .int .u64 16384, .int .u64 16384] ++ F.drop (i * 4 + 4) = sixD fun j => if j < i + 1 then startM else ⟨0, 0, 0, 0⟩ := e1
    simp (maxSteps := 4000000) (disch := omega) only [step, stepv, ev, wl, wn, wp, wz, aop, cV, cV1, AV.one, partCells, okW, onlyFr, app, sliceCells, cellsAt, srcA, subA, eqFs, Int.cast_ofNat_Int, simprocAttr, e3]
    refine ⟨i + 1, by omega, by omega, ?_⟩
    rw [e1']
    exact Le.slots (by simp [Am.look])
  obtain rfl : i = 6 := by omega
  have hk0 : ∀ o : List Nat, (ks .u32 (o.map fun n : Nat => (n : Int))).length = o.length := fun o => by simp [ks]
  simp (maxSteps := 4000000) (disch := omega) only [step, stepv, ev, wl, wn, wp, wz, aop, cV, cV1, AV.one, partCells, okW, onlyFr, app, sliceCells, cellsAt, srcA, subA, eqFs, Int.cast_ofNat_Int, simprocAttr, tkb, n5]
  refine callQ.vc hO' ?_
  simp (maxSteps := 4000000) (disch := omega) only [step, stepv, ev, wl, wn, wp, wz, aop, cV, cV1, AV.one, partCells, okW, onlyFr, app, sliceCells, cellsAt, srcA, subA, eqFs, Int.cast_ofNat_Int, simprocAttr, eT]
  refine ALoop.byP [0, 0, 1, 2, 0, 0, 0, 0, 0] (ι := Nat × List Nat × Nat) (fun s => ⟨[(40, .int .i64 s.1), (39, .int .i64 T), (12, .int .i64 s.2.2), (11, .own 2 s.2.1.length), (9, .ref 1 1 0), (7, .ref 0 1 0), (0, .int .i64 c)],
      [⟨t0, 24, 1, sixD (fun j => if j < c then chanM c j s.2.1 else startM), 0⟩, ⟨t1, 2, 1, [.list (nB N) (u8 (leB V (nB N))), .int .i64 N], 0⟩, ⟨t3, 1, s.2.1.length, ks .u32 (s.2.1.map fun n : Nat => (n : Int)), 0⟩]⟩)
    (fun s => s.1 ≤ T ∧ s.2.1.length = s.1 ∧ s.2.2 ≤ N ∧ N32 s.2.1 ∧ valsM V N c (T - s.1) s.2.1 s.2.2 = R) (fun s => T - s.1) (0, [], 0) ?_ ⟨Nat.zero_le _, rfl, Nat.zero_le _, fun x hx => (by simp at hx), (by rw [hR0, hT]; rfl)⟩ ?_
  · have z1 : sixD (fun j => if j < 6 then startM else ⟨0, 0, 0, 0⟩) = sixD (fun _ => startM) := rfl
    have z2 : (fun j => if j < c then chanM c j [] else startM) = fun _ => startM := by
      funext j
      split <;> rfl
    simp only [z2]
    rw [z1]
    exact Le.trans (Le.virt 11 t3 1 (by decide) rfl) (Le.slots (by simp [Am.look]))
  rintro ⟨k, out, a⟩ ⟨h1, h2, h3, h4, h5⟩
  simp only at h1 h2 h3 h4 h5 ⊢
  by_cases hlt : k < T
  · obtain ⟨r, hr⟩ : ∃ r, r = k % c := ⟨_, rfl⟩
    have hrc : r < c := by rw [hr]; exact Nat.mod_lt _ (by omega)
    have e1 : (k : Int) % c = (r : Int) := by rw [hr]; simp [Int.natCast_emod]
    have e1' : ((k : Int)).tmod (c : Int) = (r : Int) := by rw [Int.tmod_eq_emod_of_nonneg (by omega), e1]
    have hc0 : (c : Int) ≠ 0 := by omega
    obtain ⟨b', hb'⟩ : ∃ b, b = min (a + 81) N := ⟨_, rfl⟩
    have e2 : (if (N : Int) < (a : Int) + 81 then (N : Int) else (a : Int) + 81) = (b' : Int) := by split <;> omega
    have hpn : b' - a = prtN N a := by rw [hb']; rfl
    have hC' : VC P fC [bA N V, .int .i64 a, .int .i64 b'] (.tup [bA (prtN N a) (prtV V N a), .int .i64 0]) := by
      have := hC N V a b' hV hN (by omega) (by omega)
      rw [hpn] at this
      exact this
    have hpl' : prtN N a ≤ 81 := by unfold prtN; omega
    have hd := chan_ok (c := c) (r := r) h4
    have hR' := hR (prtN N a) (prtV V N a) 0 (chanM c r out) (prtV_lt V N a) (by omega) (by omega) hd
    obtain ⟨rest, hg⟩ := sixD_get (fun j => if j < c then chanM c j out else startM) (j := r) (by omega)
    simp only [hrc, if_true] at hg
    have hst := fun d => sixD_set (fun j => if j < c then chanM c j out else startM) (j := r) (by omega) d
    have hln := sixD_len (fun j => if j < c then chanM c j out else startM)
    have hupd : ∀ v : Nat, updD (fun j => if j < c then chanM c j out else startM) r (learnM (chanM c r out) v) = fun j => if j < c then chanM c j (out ++ [v]) else startM := by
      intro v
      funext j
      unfold updD
      by_cases hj : j = r
      · subst hj
        rw [if_pos rfl, if_pos hrc, chan_snoc, if_pos (by rw [h2, hr])]
      · rw [if_neg hj]
        by_cases hjc : j < c
        · simp only [hjc, if_true]
          rw [chan_snoc, if_neg (by rw [h2, ← hr]; exact fun e => hj e.symm)]
        · simp only [hjc, if_false]
    have hkT : T - k = (T - k - 1) + 1 := by omega
    rw [hkT, valsM, h2, ← hr] at h5
    have hgl := fun v nx (h : gotM (prtV V N a) (prtN N a) 0 (chanM c r out) = .inr (v, nx)) => got_lt hd h
    have hge := fun e (h : gotM (prtV V N a) (prtN N a) 0 (chanM c r out) = .inl e) => got_err h
    have hpN : prtN N a ≤ N - a := by unfold prtN; omega
    simp only [bA] at hC' hR'
    have hk1 := hk0 out
    have tk : isTL (ks .u32 (out.map fun n : Nat => (n : Int))) = true := isTL_ks _ _
    cases hgm : gotM (prtV V N a) (prtN N a) 0 (chanM c r out) with
    | inl e =>
      have he := hge e hgm
      rw [hgm] at hR' h5
      simp only at h5
      have he0 : (e : Int) ≠ 0 := by omega
      rw [← h5, vlsM, n32A, u32L, List.length_map]
      generalize sixD (fun j => if j < c then chanM c j out else startM) = F at *
      generalize chanM c r out = d at *
      obtain ⟨d0, d1, d2, d3⟩ := d
      simp only [dlA, dlC, drA] at hR'
      simp only at hg
      simp (maxSteps := 4000000) (disch := omega) only [step, stepv, ev, wl, wn, wp, wz, aop, cV, cV1, AV.one, partCells, okW, onlyFr, app, sliceCells, cellsAt, srcA, subA, eqFs, Int.cast_ofNat_Int, simprocAttr, cutp, e2]
      refine callQ.vc hC' ?_
      simp (maxSteps := 4000000) (disch := omega) only [step, stepv, ev, wl, wn, wp, wz, aop, cV, cV1, AV.one, partCells, okW, onlyFr, app, sliceCells, cellsAt, srcA, subA, eqFs, Int.cast_ofNat_Int, simprocAttr, cutp, e1, e1', hc0, hg, hln]
      refine callD.vc hR' ?_
      simp (maxSteps := 4000000) (disch := omega) only [step, stepv, ev, wl, wn, wp, wz, aop, cV, cV1, AV.one, partCells, okW, onlyFr, app, sliceCells, cellsAt, srcA, subA, eqFs, Int.cast_ofNat_Int, simprocAttr, cutp, h2]
      simp [frzN, frzK, frzL, frzV, h2, frzL_T _ tk]
    | inr w =>
      obtain ⟨v, nx⟩ := w
      obtain ⟨v1, v2⟩ := hgl v nx hgm
      rw [hgm] at hR' h5
      simp only at h5
      have hset := hst (learnM (chanM c r out) v)
      rw [hupd v] at hset
      have tF := isTL_sixD (fun j => if j < c then chanM c j out else startM)
      generalize hFF : sixD (fun j => if j < c then chanM c j out else startM) = F at *
      generalize chanM c r out = d at *
      obtain ⟨d0, d1, d2, d3⟩ := d
      simp only [drA] at hR'
      generalize learnM ⟨d0, d1, d2, d3⟩ v = d' at *
      obtain ⟨m0, m1, m2, m3⟩ := d'
      simp only [dlA, dlC] at hR'
      simp only at hg hset
      simp (maxSteps := 4000000) (disch := omega) only [step, stepv, ev, wl, wn, wp, wz, aop, cV, cV1, AV.one, partCells, okW, onlyFr, app, sliceCells, cellsAt, srcA, subA, eqFs, Int.cast_ofNat_Int, simprocAttr, cutp, e2]
      refine callQ.vc hC' ?_
      simp (maxSteps := 4000000) (disch := omega) only [step, stepv, ev, wl, wn, wp, wz, aop, cV, cV1, AV.one, partCells, okW, onlyFr, app, sliceCells, cellsAt, srcA, subA, eqFs, Int.cast_ofNat_Int, simprocAttr, cutp, e1, e1', hc0, hg, hln]
      refine callD.vc hR' ?_
      simp (maxSteps := 4000000) (disch := omega) only [step, stepv, ev, wl, wn, wp, wz, aop, cV, cV1, AV.one, partCells, okW, onlyFr, app, sliceCells, cellsAt, srcA, subA, eqFs, Int.cast_ofNat_Int, simprocAttr, cutp, e1, e1', hc0, hg, hln, hk1, h2]
      refine ⟨⟨[(13, .int .i64 k), (0, .int .i64 c), (11, .own 2 k), (16, .int .u32 v), (12, .int .i64 a), (17, .int .i64 nx), (18, .cell [.int .i64 m0, .int .i64 m1, .int .u64 m2, .int .u64 m3]), (7, .ref 0 1 0), (9, .ref 1 1 0), (39, .int .i64 T), (40, .int .i64 k)],
        [⟨t0, 24, 1, F, 0⟩, ⟨t1, 2, 1, [.list (nB N) (u8 (leB V (nB N))), .int .i64 N], 0⟩, ⟨t3, 1, k, ks .u32 (out.map fun n : Nat => (n : Int)), 0⟩]⟩,
        Le.dropT [_, _, _] (by simp [tF, isTL_ks, isTL, isT, isT_u8]) (by simp [Am.look, frzK, frzL, frzV]), ?_⟩
      simp (maxSteps := 4000000) (disch := omega) only [step, stepv, ev, wl, wn, wp, wz, aop, cV, cV1, AV.one, partCells, okW, onlyFr, app, sliceCells, cellsAt, srcA, subA, eqFs, Int.cast_ofNat_Int, simprocAttr, e1, e1', hc0, hg, hln, hk1, h2]
      have hap : ks .u32 (out.map fun n : Nat => (n : Int)) ++ [.int .u32 (v : Int)] = ks .u32 ((out ++ [v]).map fun n : Nat => (n : Int)) := by simp [ks]
      have hol : (out ++ [v]).length = k + 1 := by simp [h2]
      refine ⟨(k + 1, out ++ [v], a + nx), ⟨by omega, hol, by simp only; omega, fun x hx => ?_, ?_⟩, by simp only; omega, ?_⟩
      · rcases List.mem_append.1 hx with h | h
        · exact h4 x h
        · simp at h; subst h; exact v1
      · simp only
        rw [show T - (k + 1) = T - k - 1 by omega]
        exact h5
      · simp only [hol]
        rw [hset, hap]
        exact Le.dropT [_, _, _] (by simp [isTL_sixD, isTL_ks, isTL, isT, isT_u8]) (by simp [Am.look, frzK, frzL, frzV])
  · obtain rfl : k = T := by omega
    rw [Nat.sub_self, valsM] at h5
    rw [← h5, vlsM, n32A, u32L, List.length_map]
    simp (maxSteps := 4000000) (disch := omega) only [step, stepv, ev, wl, wn, wp, wz, aop, cV, cV1, AV.one, partCells, okW, onlyFr, app, sliceCells, cellsAt, srcA, subA, eqFs, Int.cast_ofNat_Int, simprocAttr, cutp]
    simp [frzN, frzK, frzL, frzV, frzL_T _ (isTL_ks _ _)]

end Go.Am

namespace Go.Am
open Go.RowKit

/-! ### verdict.good -/

theorem U32_take {v : List Int} (h : U32 v) (k : Nat) : U32 (v.take k) := fun x hx => h x (List.mem_of_mem_take hx)
theorem mod_mul (m c : Nat) : (m * c) % c = 0 := Nat.mul_mod_left m c
theorem df_take {c k : Nat} {x : Int} {t v : List Int} (hc : 1 ≤ c) (hc6 : c ≤ 6) (hx : half x ≠ 0) (hk : 1 ≤ k) (hkl : k ≤ v.length / c) (hl : v.length ≤ 4000) :
    ∃ m : List Int, dfA c x t (v.take (k * c)) = .tup [il m, .int .i64 (if okP c x (unB c x t (v.take (v.length / c * c))) k then 0 else 16)] := by
  have h2 : v.length / c * c ≤ v.length := Nat.div_mul_le_self _ _
  have h3 : k * c ≤ v.length / c * c := Nat.mul_le_mul_right c hkl
  have h0 : 0 < k * c := Nat.mul_pos hk hc
  have h1 : (v.take (k * c)).length = k * c := by simp; omega
  have hE : eCheck c x = 0 := by unfold eCheck; rw [if_neg (by omega)]
  have e1 : v.take (k * c) = (v.take (v.length / c * c)).take (k * c) := by rw [List.take_take, Nat.min_eq_left h3]
  have e2 : unB c x t (v.take (k * c)) = (unB c x t (v.take (v.length / c * c))).take (k * c) := by
    rw [e1]; exact unB_take hc (by simp; omega)
  have hz : ((v.take (k * c)).length : Int) % (c : Int) = 0 := by
    rw [h1, ← Int.natCast_emod, mod_mul]; rfl
  rw [df_ok hE (by omega) (by omega), rngA, chk_all hx (by rw [unB_len]; omega), e2]
  unfold okP
  split
  · rename_i h
    exact ⟨_, rfl⟩
  · rename_i h
    exact ⟨[], rfl⟩

def S_vGood (P : Prg) (f : Nat) : Prop := ∀ (c : Nat) (x : Int) (t v : List Int), 1 ≤ c → c ≤ 6 → half x ≠ 0 → t.length = 16 → I32 t → v.length ≤ 4000 → U32 v → VC P f [shA c x, .agg (ks .i32 t), u32L v] (.int .i64 (goodM c x t v : Nat))
set_option maxHeartbeats 1000000 in
theorem verdict_good {P : Prg} {f fS t0 t1 : Nat} (bd : Body P f 46 [.tmp 6] (ac_verdict_good fS t0 t1)) (hS : S_DSamples P fS) : S_vGood P f := by
  intro c x t v hc hc6 hx ht hI hl hV
  refine VC.of_acall (by simp [isDL, isD, isD_u32L, isDL_ks, shA]) rfl (ACall.of_body bd (by simp) ?_)
  have hk : (ks .i32 t).length = 16 := by simp [ks_length, ht]
  have tt : (ks .i32 t).take 16 = ks .i32 t := take_all (by omega)
  have ot := ks_one .i32 t
  have hc0 : (c : Int) ≠ 0 := by omega
  obtain ⟨G, hG⟩ : ∃ G, G = goodK c x (unB c x t (v.take (v.length / c * c))) (v.length / c) := ⟨_, rfl⟩
  obtain ⟨g1, g2, g3⟩ := goodK_spec c x (unB c x t (v.take (v.length / c * c))) (v.length / c)
  rw [← hG] at g1 g2 g3
  have hgm : goodM c x t v = G * c := by rw [goodM, ← hG]
  rw [hgm]
  have hdf := fun k (h1 : 1 ≤ k) (h2 : k ≤ v.length / c) => df_take (t := t) hc hc6 hx h1 h2 hl
  have hmon := fun j k (h : okP c x (unB c x t (v.take (v.length / c * c))) k = true) (hj : j ≤ k) => okP_mono h hj
  have hml : ∀ k, k ≤ v.length / c → k * c ≤ v.length := fun k hkl => Nat.le_trans (Nat.mul_le_mul_right c hkl) (Nat.div_mul_le_self _ _)
  have hm4 : v.length / c ≤ v.length := Nat.div_le_self _ _
  have eM : (v.length : Int) / (c : Int) = ((v.length / c : Nat) : Int) := by simp
  have eM2 : (v.length : Int).tdiv (c : Int) = ((v.length / c : Nat) : Int) := by rw [Int.tdiv_eq_ediv_of_nonneg (by omega), eM]
  obtain ⟨M, hM⟩ : ∃ M, M = v.length / c := ⟨_, rfl⟩
  rw [← hM] at g1 g2 g3 hdf hml hm4 eM eM2 hmon hG
  generalize unB c x t (v.take (M * c)) = z at *
  clear hM hG hgm
  simp (maxSteps := 4000000) (disch := omega) only [step, stepv, ev, wl, wn, wp, wz, aop, cV, cV1, AV.one, partCells, okW, onlyFr, app, sliceCells, cellsAt, srcA, subA, eqFs, Int.cast_ofNat_Int, simprocAttr, ac_verdict_good, shA, u32L, hk, tt, ot, hc0, eM, eM2]
  refine ALoop.by (ι := Nat × Nat) (fun s => ⟨[(7, .int .i64 s.1), (8, .int .i64 s.2), (4, .ref 1 1 0), (3, .ref 0 1 0), (2, .list v.length (ks .u32 v))], [⟨t0, 2, 1, [.int .i64 c, .int .i64 x], 0⟩, ⟨t1, 16, 1, ks .i32 t, 0⟩]⟩)
    (fun s => s.1 ≤ G ∧ G ≤ s.2 ∧ s.2 ≤ M) (fun s => s.2 - s.1) (0, M) (Le.slots (by simp [Am.look])) ⟨Nat.zero_le _, g1, Nat.le_refl _⟩ ?_
  rintro ⟨lo, hi⟩ ⟨h1, h2, h3⟩
  simp only at h1 h2 h3 ⊢
  by_cases hlt : lo < hi
  · obtain ⟨k, hk0⟩ : ∃ k, k = (lo + hi + 1) / 2 := ⟨_, rfl⟩
    have e0 : ((lo : Int) + hi + 1) / 2 = (k : Int) := by omega
    have e0' : ((lo : Int) + hi + 1).tdiv 2 = (k : Int) := by rw [Int.tdiv_eq_ediv_of_nonneg (by omega), e0]
    obtain ⟨m, hm⟩ := hdf k (by omega) (by omega)
    have hkc := hml k (by omega)
    have hS' := hS c x t (v.take (k * c)) ht hI (U32_take hV _)
    rw [hm, shA, u32L] at hS'
    have hl1 : (v.take (k * c)).length = k * c := by simp; omega
    rw [hl1] at hS'
    obtain ⟨K, hK⟩ : ∃ K, K = k * c := ⟨_, rfl⟩
    have eK : (k : Int) * c = (K : Int) := by rw [hK]; simp
    rw [← hK] at hS' hkc hl1
    have tk : (ks .u32 v).take K = ks .u32 (v.take K) := ks_take _ _ _
    have hlv : (ks .u32 v).length = v.length := ks_length _ _
    have n0 : K - 0 = K := by omega
    simp only [il] at hS'
    cases hok : okP c x z k with
    | true =>
      rw [hok] at hS'
      simp only [if_true] at hS'
      have hG' := g3 k (by omega) hok
      simp (maxSteps := 4000000) (disch := omega) only [step, stepv, ev, wl, wn, wp, wz, aop, cV, cV1, AV.one, partCells, okW, onlyFr, app, sliceCells, cellsAt, srcA, subA, eqFs, Int.cast_ofNat_Int, simprocAttr, e0, e0', eK, hk, tt, ot, tk, hlv, n0]
      refine callD.vc hS' ?_
      simp (maxSteps := 4000000) (disch := omega) only [step, stepv, ev, wl, wn, wp, wz, aop, cV, cV1, AV.one, partCells, okW, onlyFr, app, sliceCells, cellsAt, srcA, subA, eqFs, Int.cast_ofNat_Int, simprocAttr]
      exact ⟨(k, hi), ⟨hG', h2, h3⟩, by simp only; omega, Le.slots (by simp [Am.look])⟩
    | false =>
      rw [hok] at hS'
      simp only [Bool.false_eq_true, if_false] at hS'
      have hG' : G ≤ k - 1 := by
        rcases Nat.lt_or_ge G k with h | h
        · omega
        · have := hmon k G g2 h
          rw [hok] at this; cases this
      simp (maxSteps := 4000000) (disch := omega) only [step, stepv, ev, wl, wn, wp, wz, aop, cV, cV1, AV.one, partCells, okW, onlyFr, app, sliceCells, cellsAt, srcA, subA, eqFs, Int.cast_ofNat_Int, simprocAttr, e0, e0', eK, hk, tt, ot, tk, hlv, n0]
      refine callD.vc hS' ?_
      simp (maxSteps := 4000000) (disch := omega) only [step, stepv, ev, wl, wn, wp, wz, aop, cV, cV1, AV.one, partCells, okW, onlyFr, app, sliceCells, cellsAt, srcA, subA, eqFs, Int.cast_ofNat_Int, simprocAttr]
      exact ⟨(lo, k - 1), ⟨h1, hG', by simp only; omega⟩, by simp only; omega, Le.slots (by simp [Am.look]; omega)⟩
  · obtain rfl : lo = G := by omega
    have hkc := hml lo g1
    have eK : (lo : Int) * c = ((lo * c : Nat) : Int) := by simp
    obtain ⟨K, hK⟩ : ∃ K, K = lo * c := ⟨_, rfl⟩
    rw [← hK] at eK hkc ⊢
    simp (maxSteps := 4000000) (disch := omega) only [step, stepv, ev, wl, wn, wp, wz, aop, cV, cV1, AV.one, partCells, okW, onlyFr, app, sliceCells, cellsAt, srcA, subA, eqFs, Int.cast_ofNat_Int, simprocAttr, eK]

/-! ### verdict.Judge -/

def errV (V N c : Nat) (x : Int) (t : List Int) (w : (Nat × List Nat) ⊕ (List Nat × Nat)) : Int :=
  match w with
  | .inl (e, _) => e
  | .inr (o, a) => if restM V N a ≠ 0 then 12 else checkN x (unB c x t (iL o))
def errD (c x : Int) (t : List Int) (n : Int) (b : List UInt8) : Int :=
  if ask21 c x n ≠ 0 then 2 else if openM b ≠ 0 then (openM b : Nat) else
    errV (leN (b.take (b.length - 4))) (8 * (b.take (b.length - 4)).length) c.toNat x t (allV b c.toNat n.toNat)
theorem dec_form2 (c x n : Int) (t : List Int) (b : List UInt8) : ∃ m : List Int, decA c x t n b = .tup [il m, .int .i64 (errD c x t n b)] ∧ m.length ≤ 4000 := by
  unfold decA errD allV
  by_cases h1 : ask21 c x n = 0
  case neg => simp only [if_pos h1]; exact ⟨[], rfl, by simp⟩
  have a1 : ¬ (ask21 c x n ≠ 0) := by omega
  simp only [if_neg a1]
  by_cases h2 : openM b = 0
  case neg => simp only [if_pos h2]; exact ⟨[], rfl, by simp⟩
  have a2 : ¬ (openM b ≠ 0) := by omega
  simp only [if_neg a2]
  obtain ⟨_, c', n', rfl, rfl, q1, q2, q3, q4, q5⟩ := ask21_cases h1
  simp only [Int.toNat_natCast]
  generalize leN (b.take (b.length - 4)) = V
  generalize 8 * (b.take (b.length - 4)).length = N
  cases hw : valsM V N c' (n' * c') [] 0 with
  | inl w => exact ⟨[], rfl, by simp⟩
  | inr w =>
    obtain ⟨o, a⟩ := w
    obtain ⟨hv, ha, hol⟩ := okV_of q1 q2 q3 q4 hw
    simp only [decV, errV]
    by_cases h3 : restM V N a = 0
    · rw [if_neg (by omega), if_neg (by omega)]
      unfold rngA
      by_cases h4 : checkN x (unB c' x t (iL o)) = 0
      · rw [if_neg (by omega), h4]
        exact ⟨_, rfl, by rw [unB_len]; simp only [iL, List.length_map]; omega⟩
      · rw [if_pos h4]
        exact ⟨[], rfl, by simp⟩
    · rw [if_pos h3, if_pos h3]; exact ⟨[], rfl, by simp⟩
def judG (c x : Int) (t : List Int) (n : Int) (b : List UInt8) : Int :=
  if errD c x t n b = 0 then n * c else if openM b = 0 then (goodM c.toNat x t (iL (vlsM (allV b c.toNat n.toNat))) : Nat) else 0
def judA (c x : Int) (t : List Int) (n : Int) (b : List UInt8) : AV :=
  if ask21 c x n ≠ 0 then .tup [.agg [.int .i64 0, .int .i64 0], .int .i64 2] else .tup [.agg [.int .i64 (errD c x t n b), .int .i64 (judG c x t n b)], .int .i64 0]
theorem allV_ok {b : List UInt8} {c n : Nat} (hn : n * c ≤ 4000) : N32 (vlsM (allV b c n)) ∧ (vlsM (allV b c n)).length ≤ 4000 := by
  have hs := vals_spec (V := leN (b.take (b.length - 4))) (N := 8 * (b.take (b.length - 4)).length) (c := c) (n * c) [] 0 (Nat.zero_le _) (fun x hx => by simp at hx)
  unfold allV
  cases hw : valsM (leN (b.take (b.length - 4))) (8 * (b.take (b.length - 4)).length) c (n * c) [] 0 with
  | inl w =>
    obtain ⟨e, o⟩ := w
    obtain ⟨_, h2, h3⟩ := hs.1 e o hw
    rw [List.length_nil, Nat.zero_add] at h3
    exact ⟨h2, by simp only [vlsM]; omega⟩
  | inr w =>
    obtain ⟨o, a⟩ := w
    obtain ⟨h2, _, h3⟩ := hs.2 o a hw
    rw [List.length_nil, Nat.zero_add] at h3
    exact ⟨h2, by simp only [vlsM]; omega⟩
theorem U32_iL {o : List Nat} (h : N32 o) : U32 (iL o) := by
  intro x hx
  simp only [iL, List.mem_map] at hx
  obtain ⟨y, hy, rfl⟩ := hx
  have := h y hy
  omega
theorem errD_ask {c x n : Int} {t : List Int} {b : List UInt8} (h : ask21 c x n = 0) (h2 : errD c x t n b = 0) : openM b = 0 := by
  unfold errD at h2
  rw [if_neg (by omega)] at h2
  split at h2
  · omega
  · omega
def S_Judge (P : Prg) (f : Nat) : Prop := ∀ (c x n : Int) (t : List Int) (b : List UInt8), t.length = 16 → I32 t → b.length ≤ 1000000 → VC P f [shA c x, .agg (ks .i32 t), .int .i64 n, bs b] (judA c x t n b)
theorem isD_judA (c x : Int) (t : List Int) (n : Int) (b : List UInt8) : isD (judA c x t n b) = true := by unfold judA; split <;> rfl
set_option maxHeartbeats 1000000 in
theorem verdict_Judge {P : Prg} {f fC fD fS fV fG t0 t1 t2 : Nat} (bd : Body P f 52 [.cell 8 t2, .tmp 9] (ac_verdict_Judge fC fD fS fV fG t0 t1 t2)) (hC : S_Ask21 P fC) (hD : S_Decode P fD) (hS : S_Sound P fS) (hV : S_vVals P fV) (hG : S_vGood P fG) (ha : aggO P t2 = some (some 2)) : S_Judge P f := by
  intro c x n t b ht hI hb
  refine VC.of_acall (by simp [isDL, isD_bs, isDL_ks, isD, shA]) (isD_judA _ _ _ _ _) (ACall.of_body bd (by simp) ?_)
  have hC' := hC c x n
  have hD' := hD c x n t b ht hI hb
  have hS' := hS b hb
  have hk : (ks .i32 t).length = 16 := by simp [ks_length, ht]
  have tt : (ks .i32 t).take 16 = ks .i32 t := take_all (by omega)
  have ot := ks_one .i32 t
  rw [shA] at hC' hD'
  unfold judA
  by_cases h1 : ask21 c x n = 0
  case neg =>
    have h2 : ask21 c x n = 2 := by unfold ask21 at h1 ⊢; split <;> (try rfl); rename_i q; rw [if_neg q] at h1; split <;> (try rfl); rename_i q; rw [if_neg q] at h1; split <;> (try rfl); rename_i q; rw [if_neg q] at h1; omega
    rw [h2] at hC' ⊢
    simp only [bs]
    simp (maxSteps := 4000000) (disch := omega) only [step, stepv, ev, wl, wn, wp, wz, aop, cV, cV1, AV.one, partCells, okW, onlyFr, app, sliceCells, cellsAt, srcA, subA, eqFs, Int.cast_ofNat_Int, simprocAttr, ac_verdict_Judge, shA, hk, tt, ot]
    refine callQ.vc hC' ?_
    simp (maxSteps := 4000000) (disch := omega) only [step, stepv, ev, wl, wn, wp, wz, aop, cV, cV1, AV.one, partCells, okW, onlyFr, app, sliceCells, cellsAt, srcA, subA, eqFs, Int.cast_ofNat_Int, simprocAttr, resA, ha, oneOf]
  rw [if_neg (by omega)]
  obtain ⟨hE, c', n', rfl, rfl, q1, q2, q3, q4, q5⟩ := ask21_cases h1
  rw [h1] at hC'
  obtain ⟨m, hm, _⟩ := dec_form2 (c' : Int) x (n' : Int) t b
  rw [hm] at hD'
  have h0 := errD_ask (c := (c' : Int)) (n := (n' : Int)) (x := x) (t := t) (b := b) h1
  unfold judG
  simp only [bs, il, Int.toNat_natCast] at hD' hS' ⊢
  have eT : (n' : Int) * c' = ((n' * c' : Nat) : Int) := by simp
  obtain ⟨T, hT⟩ : ∃ T, T = n' * c' := ⟨_, rfl⟩
  rw [← hT] at eT
  by_cases h2 : errD c' x t n' b = 0
  · rw [if_pos h2, h2]
    rw [h2] at hD'
    rw [eT]
    simp (maxSteps := 4000000) (disch := omega) only [step, stepv, ev, wl, wn, wp, wz, aop, cV, cV1, AV.one, partCells, okW, onlyFr, app, sliceCells, cellsAt, srcA, subA, eqFs, Int.cast_ofNat_Int, simprocAttr, ac_verdict_Judge, shA, hk, tt, ot]
    refine callQ.vc hC' ?_
    simp (maxSteps := 4000000) (disch := omega) only [step, stepv, ev, wl, wn, wp, wz, aop, cV, cV1, AV.one, partCells, okW, onlyFr, app, sliceCells, cellsAt, srcA, subA, eqFs, Int.cast_ofNat_Int, simprocAttr, hk, tt, ot]
    refine callQ.vc hD' ?_
    simp (maxSteps := 4000000) (disch := omega) only [step, stepv, ev, wl, wn, wp, wz, aop, cV, cV1, AV.one, partCells, okW, onlyFr, app, sliceCells, cellsAt, srcA, subA, eqFs, Int.cast_ofNat_Int, simprocAttr, eT, resA, ha, oneOf]
  rw [if_neg h2]
  by_cases h3 : openM b = 0
  · rw [if_pos h3]
    have hbl : 5 ≤ b.length ∧ b.length ≤ 41254 := by
      unfold openM at h3
      split at h3
      · omega
      split at h3
      · omega
      · omega
    rw [h3] at hS'
    have hV' := hV b c' n' hbl.1 hbl.2 q1 q2 q4
    obtain ⟨a1, a2⟩ := allV_ok (b := b) (c := c') (n := n') q4
    have hG' := hG c' x t (iL (vlsM (allV b c' n'))) q1 q2 q5 ht hI (by simp only [iL, List.length_map]; exact a2) (U32_iL a1)
    have hgl := goodM_le (c := c') (x := x) (t := t) (v := iL (vlsM (allV b c' n')))
    rw [n32A] at hV'
    simp only [iL] at hG' hgl ⊢
    simp only [List.length_map] at hgl
    generalize vlsM (allV b c' n') = o at *
    generalize goodM c' x t (o.map fun n : Nat => (n : Int)) = g at *
    generalize errD c' x t n' b = e at *
    simp only [bs, u32L, shA, List.length_map] at hV' hG'
    simp (maxSteps := 4000000) (disch := omega) only [step, stepv, ev, wl, wn, wp, wz, aop, cV, cV1, AV.one, partCells, okW, onlyFr, app, sliceCells, cellsAt, srcA, subA, eqFs, Int.cast_ofNat_Int, simprocAttr, ac_verdict_Judge, shA, hk, tt, ot]
    refine callQ.vc hC' ?_
    simp (maxSteps := 4000000) (disch := omega) only [step, stepv, ev, wl, wn, wp, wz, aop, cV, cV1, AV.one, partCells, okW, onlyFr, app, sliceCells, cellsAt, srcA, subA, eqFs, Int.cast_ofNat_Int, simprocAttr, hk, tt, ot]
    refine callQ.vc hD' ?_
    simp (maxSteps := 4000000) (disch := omega) only [step, stepv, ev, wl, wn, wp, wz, aop, cV, cV1, AV.one, partCells, okW, onlyFr, app, sliceCells, cellsAt, srcA, subA, eqFs, Int.cast_ofNat_Int, simprocAttr]
    refine callQ.vc hS' ?_
    simp (maxSteps := 4000000) (disch := omega) only [step, stepv, ev, wl, wn, wp, wz, aop, cV, cV1, AV.one, partCells, okW, onlyFr, app, sliceCells, cellsAt, srcA, subA, eqFs, Int.cast_ofNat_Int, simprocAttr, hk, tt, ot]
    refine callD.vc hV' ?_
    simp (maxSteps := 4000000) (disch := omega) only [step, stepv, ev, wl, wn, wp, wz, aop, cV, cV1, AV.one, partCells, okW, onlyFr, app, sliceCells, cellsAt, srcA, subA, eqFs, Int.cast_ofNat_Int, simprocAttr, hk, tt, ot]
    refine callD.vc hG' ?_
    simp (maxSteps := 4000000) (disch := omega) only [step, stepv, ev, wl, wn, wp, wz, aop, cV, cV1, AV.one, partCells, okW, onlyFr, app, sliceCells, cellsAt, srcA, subA, eqFs, Int.cast_ofNat_Int, simprocAttr, resA, ha, oneOf]
  · rw [if_neg h3]
    have hS'' : VC P fS [.list b.length (u8 b)] (.bool false) := by
      rw [decide_eq_false h3] at hS'; exact hS'
    generalize errD c' x t n' b = e at *
    simp (maxSteps := 4000000) (disch := omega) only [step, stepv, ev, wl, wn, wp, wz, aop, cV, cV1, AV.one, partCells, okW, onlyFr, app, sliceCells, cellsAt, srcA, subA, eqFs, Int.cast_ofNat_Int, simprocAttr, ac_verdict_Judge, shA, hk, tt, ot]
    refine callQ.vc hC' ?_
    simp (maxSteps := 4000000) (disch := omega) only [step, stepv, ev, wl, wn, wp, wz, aop, cV, cV1, AV.one, partCells, okW, onlyFr, app, sliceCells, cellsAt, srcA, subA, eqFs, Int.cast_ofNat_Int, simprocAttr, hk, tt, ot]
    refine callQ.vc hD' ?_
    simp (maxSteps := 4000000) (disch := omega) only [step, stepv, ev, wl, wn, wp, wz, aop, cV, cV1, AV.one, partCells, okW, onlyFr, app, sliceCells, cellsAt, srcA, subA, eqFs, Int.cast_ofNat_Int, simprocAttr]
    refine callQ.vc hS'' ?_
    simp (maxSteps := 4000000) (disch := omega) only [step, stepv, ev, wl, wn, wp, wz, aop, cV, cV1, AV.one, partCells, okW, onlyFr, app, sliceCells, cellsAt, srcA, subA, eqFs, Int.cast_ofNat_Int, simprocAttr, resA, ha, oneOf]

end Go.Am

namespace Go.Am
open Go.RowKit

theorem ask_two {c x n : Int} (h1 : ask21 c x n ≠ 0) : ask21 c x n = 2 := by
  unfold ask21 at h1 ⊢
  split
  · rfl
  rename_i q
  rw [if_neg q] at h1
  split
  · rfl
  rename_i q
  rw [if_neg q] at h1
  split
  · rfl
  rename_i q
  rw [if_neg q] at h1
  omega

/-! ### Silence, Heal -/

def silL (c n : Int) : List Int := List.replicate (n.toNat * c.toNat) 0
def silA (c x n : Int) : AV := if ask21 c x n ≠ 0 then erA 2 else .tup [il (silL c n), .int .i64 0]
theorem isD_silA (c x n : Int) : isD (silA c x n) = true := by unfold silA; split <;> simp [isD, isDL, isD_il, erA]
def S_Silence (P : Prg) (f : Nat) : Prop := ∀ c x n : Int, VC P f [shA c x, .int .i64 n] (silA c x n)
theorem sil_ks (N : Nat) : repCells [.int .i32 0] N = ks .i32 (List.replicate N 0) := rep_ks _ N

theorem verdict_Silence {P : Prg} {f fC t0 t1 : Nat} (bd : Body P f 18 [.tmp 4, .tmp 5] (ac_verdict_Silence fC t0 t1)) (hC : S_Ask21 P fC) : S_Silence P f := by
  intro c x n
  refine VC.of_walk 1 (by simp [isDL, isD, shA]) (isD_silA _ _ _) (ACall.of_body bd (by simp) ?_)
  have hC' := hC c x n
  rw [shA] at hC'
  unfold silA
  by_cases h1 : ask21 c x n = 0
  case neg =>
    rw [if_pos h1, erA]
    rw [ask_two h1] at hC'
    simp (maxSteps := 4000000) (disch := omega) only [step, stepv, ev, wl, wn, wp, wz, aop, cV, cV1, AV.one, partCells, okW, onlyFr, app, sliceCells, cellsAt, srcA, subA, eqFs, Int.cast_ofNat_Int, simprocAttr, ac_verdict_Silence, shA]
    refine callQ.vc hC' ?_
    simp (maxSteps := 4000000) (disch := omega) only [step, stepv, ev, wl, wn, wp, wz, aop, cV, cV1, AV.one, partCells, okW, onlyFr, app, sliceCells, cellsAt, srcA, subA, eqFs, Int.cast_ofNat_Int, simprocAttr]
    simp [frzN, frzK, frzL, frzV]
  rw [if_neg (by omega)]
  obtain ⟨hE, c', n', rfl, rfl, q1, q2, q3, q4, q5⟩ := ask21_cases h1
  rw [h1] at hC'
  unfold silL
  simp only [Int.toNat_natCast]
  have eT : (n' : Int) * c' = ((n' * c' : Nat) : Int) := by simp
  have hp : 0 < n' * c' := Nat.mul_pos q3 q1
  obtain ⟨T, hT⟩ : ∃ T, T = n' * c' := ⟨_, rfl⟩
  rw [← hT] at eT hp q4 ⊢
  have er := sil_ks T
  have tl : isTL (ks .i32 (List.replicate T 0)) = true := isTL_ks _ _
  simp (maxSteps := 4000000) (disch := omega) only [step, stepv, ev, wl, wn, wp, wz, aop, cV, cV1, AV.one, partCells, okW, onlyFr, app, sliceCells, cellsAt, srcA, subA, eqFs, Int.cast_ofNat_Int, simprocAttr, ac_verdict_Silence, shA]
  refine callQ.vc hC' ?_
  simp (maxSteps := 4000000) (disch := omega) only [step, stepv, ev, wl, wn, wp, wz, aop, cV, cV1, AV.one, partCells, okW, onlyFr, app, sliceCells, cellsAt, srcA, subA, eqFs, Int.cast_ofNat_Int, simprocAttr, eT, er]
  simp [frzN, frzK, frzL, frzV, il, er, frzL_T _ tl]

def decL (c x : Int) (t : List Int) (n : Int) (b : List UInt8) : List Int := if errD c x t n b = 0 then unB c.toNat x t (iL (vlsM (allV b c.toNat n.toNat))) else []
theorem dec_eq (c x n : Int) (t : List Int) (b : List UInt8) : decA c x t n b = .tup [il (decL c x t n b), .int .i64 (errD c x t n b)] ∧ (decL c x t n b).length ≤ 4000 := by
  unfold decA decL errD allV
  by_cases h1 : ask21 c x n = 0
  case neg => simp only [if_pos h1]; exact ⟨rfl, by simp⟩
  have a1 : ¬ (ask21 c x n ≠ 0) := by omega
  simp only [if_neg a1]
  by_cases h2 : openM b = 0
  case neg =>
    have h2' : ((openM b : Nat) : Int) ≠ 0 := by omega
    simp only [if_pos h2, if_neg h2']
    exact ⟨rfl, by simp⟩
  have a2 : ¬ (openM b ≠ 0) := by omega
  simp only [if_neg a2]
  obtain ⟨_, c', n', rfl, rfl, q1, q2, q3, q4, q5⟩ := ask21_cases h1
  simp only [Int.toNat_natCast]
  have hs := vals_spec (V := leN (b.take (b.length - 4))) (N := 8 * (b.take (b.length - 4)).length) (c := c') (n' * c') [] 0 (Nat.zero_le _) (fun x hx => by simp at hx)
  generalize leN (b.take (b.length - 4)) = V at *
  generalize 8 * (b.take (b.length - 4)).length = N at *
  cases hw : valsM V N c' (n' * c') [] 0 with
  | inl w =>
    obtain ⟨e, o⟩ := w
    have he := (hs.1 e o hw).1
    have he0 : ¬ ((e : Int) = 0) := by omega
    have he2 : ¬ (errV V N c' x t (.inl (e, o)) = 0) := he0
    rw [if_neg he2]
    exact ⟨rfl, by simp⟩
  | inr w =>
    obtain ⟨o, a⟩ := w
    obtain ⟨hv, ha, hol⟩ := okV_of q1 q2 q3 q4 hw
    simp only [decV, errV, vlsM]
    by_cases h3 : restM V N a = 0
    · have a3 : ¬ (restM V N a ≠ 0) := by omega
      simp only [if_neg a3]
      unfold rngA
      by_cases h4 : checkN x (unB c' x t (iL o)) = 0
      · have a4 : ¬ (checkN x (unB c' x t (iL o)) ≠ 0) := by omega
        simp only [if_neg a4, if_pos h4]
        rw [h4]
        exact ⟨rfl, by rw [unB_len]; simp only [iL, List.length_map]; omega⟩
      · simp only [if_pos h4, if_neg h4]
        exact ⟨rfl, by simp⟩
    · have a5 : ¬ ((12 : Int) = 0) := by omega
      simp only [if_pos h3, if_neg a5]
      exact ⟨rfl, by simp⟩
def heaA (c x : Int) (t : List Int) (n : Int) (b : List UInt8) : AV :=
  if ask21 c x n ≠ 0 then .tup [.list 0 [], .bool false, .int .i64 2] else if errD c x t n b = 0 then .tup [il (decL c x t n b), .bool true, .int .i64 0] else .tup [il (silL c n), .bool false, .int .i64 0]
theorem isD_heaA (c x : Int) (t : List Int) (n : Int) (b : List UInt8) : isD (heaA c x t n b) = true := by unfold heaA; split <;> (try split) <;> simp [isD, isDL, isD_il]
def S_Heal (P : Prg) (f : Nat) : Prop := ∀ (c x n : Int) (t : List Int) (b : List UInt8), t.length = 16 → I32 t → b.length ≤ 1000000 → VC P f [shA c x, .agg (ks .i32 t), .int .i64 n, bs b] (heaA c x t n b)
theorem verdict_Heal {P : Prg} {f fC fD fS t0 t1 : Nat} (bd : Body P f 41 [.tmp 8, .tmp 9, .tmp 10] (ac_verdict_Heal fC fD fS t0 t1)) (hC : S_Ask21 P fC) (hD : S_Decode P fD) (hS : S_Silence P fS) : S_Heal P f := by
  intro c x n t b ht hI hb
  refine VC.of_walk 1 (by simp [isDL, isD_bs, isDL_ks, isD, shA]) (isD_heaA _ _ _ _ _) (ACall.of_body bd (by simp) ?_)
  have hC' := hC c x n
  have hD' := hD c x n t b ht hI hb
  have hS' := hS c x n
  have hk : (ks .i32 t).length = 16 := by simp [ks_length, ht]
  have tt : (ks .i32 t).take 16 = ks .i32 t := take_all (by omega)
  have ot := ks_one .i32 t
  rw [shA] at hC' hD' hS'
  rw [(dec_eq c x n t b).1] at hD'
  unfold heaA
  unfold silA at hS'
  simp only [bs] at hD' ⊢
  by_cases h1 : ask21 c x n = 0
  case neg =>
    rw [if_pos h1]
    rw [ask_two h1] at hC'
    simp (maxSteps := 4000000) (disch := omega) only [step, stepv, ev, wl, wn, wp, wz, aop, cV, cV1, AV.one, partCells, okW, onlyFr, app, sliceCells, cellsAt, srcA, subA, eqFs, Int.cast_ofNat_Int, simprocAttr, ac_verdict_Heal, shA, hk, tt, ot]
    refine callQ.vc hC' ?_
    simp (maxSteps := 4000000) (disch := omega) only [step, stepv, ev, wl, wn, wp, wz, aop, cV, cV1, AV.one, partCells, okW, onlyFr, app, sliceCells, cellsAt, srcA, subA, eqFs, Int.cast_ofNat_Int, simprocAttr]
    simp [frzN, frzK, frzL, frzV]
  rw [if_neg (by omega)] at hS' ⊢
  rw [h1] at hC'
  by_cases h2 : errD c x t n b = 0
  · rw [if_pos h2]
    rw [h2] at hD'
    have tl : isTL (ks .i32 (decL c x t n b)) = true := isTL_ks _ _
    generalize decL c x t n b = m at *
    simp only [il] at hD' ⊢
    simp (maxSteps := 4000000) (disch := omega) only [step, stepv, ev, wl, wn, wp, wz, aop, cV, cV1, AV.one, partCells, okW, onlyFr, app, sliceCells, cellsAt, srcA, subA, eqFs, Int.cast_ofNat_Int, simprocAttr, ac_verdict_Heal, shA, hk, tt, ot]
    refine callQ.vc hC' ?_
    simp (maxSteps := 4000000) (disch := omega) only [step, stepv, ev, wl, wn, wp, wz, aop, cV, cV1, AV.one, partCells, okW, onlyFr, app, sliceCells, cellsAt, srcA, subA, eqFs, Int.cast_ofNat_Int, simprocAttr, hk, tt, ot]
    refine callQ.vc hD' ?_
    simp (maxSteps := 4000000) (disch := omega) only [step, stepv, ev, wl, wn, wp, wz, aop, cV, cV1, AV.one, partCells, okW, onlyFr, app, sliceCells, cellsAt, srcA, subA, eqFs, Int.cast_ofNat_Int, simprocAttr]
    simp [frzN, frzK, frzL, frzV, frzL_T _ tl]
  · rw [if_neg h2]
    have tl : isTL (ks .i32 (silL c n)) = true := isTL_ks _ _
    generalize decL c x t n b = m at *
    generalize errD c x t n b = e at *
    generalize silL c n = sl at *
    simp only [il] at hD' hS' ⊢
    simp (maxSteps := 4000000) (disch := omega) only [step, stepv, ev, wl, wn, wp, wz, aop, cV, cV1, AV.one, partCells, okW, onlyFr, app, sliceCells, cellsAt, srcA, subA, eqFs, Int.cast_ofNat_Int, simprocAttr, ac_verdict_Heal, shA, hk, tt, ot]
    refine callQ.vc hC' ?_
    simp (maxSteps := 4000000) (disch := omega) only [step, stepv, ev, wl, wn, wp, wz, aop, cV, cV1, AV.one, partCells, okW, onlyFr, app, sliceCells, cellsAt, srcA, subA, eqFs, Int.cast_ofNat_Int, simprocAttr, hk, tt, ot]
    refine callQ.vc hD' ?_
    simp (maxSteps := 4000000) (disch := omega) only [step, stepv, ev, wl, wn, wp, wz, aop, cV, cV1, AV.one, partCells, okW, onlyFr, app, sliceCells, cellsAt, srcA, subA, eqFs, Int.cast_ofNat_Int, simprocAttr]
    refine callQ.vc hS' ?_
    simp (maxSteps := 4000000) (disch := omega) only [step, stepv, ev, wl, wn, wp, wz, aop, cV, cV1, AV.one, partCells, okW, onlyFr, app, sliceCells, cellsAt, srcA, subA, eqFs, Int.cast_ofNat_Int, simprocAttr]
    simp [frzN, frzK, frzL, frzV, frzL_T _ tl]
end Go.Am

namespace Go.Am
open Go.RowKit

/-! ### Codes (plain) -/

def riceN (v k : Nat) : Nat := if 48 ≤ v / 2 ^ k then 80 else v / 2 ^ k + 1 + k
def riceC (v k : Nat) : Nat := if 48 ≤ v / 2 ^ k then 2 ^ 48 - 1 + 2 ^ 48 * v else 2 ^ (v / 2 ^ k) - 1 + 2 ^ (v / 2 ^ k + 1) * (v % 2 ^ k)
def codeN (d : Dl) (v : Nat) : Nat := if v < 2 ^ d.k0 then 1 + d.k0 else 1 + riceN (v - 2 ^ d.k0) d.k1
def codeC (d : Dl) (v : Nat) : Nat := if v < 2 ^ d.k0 then 2 * v else 1 + 2 * riceC (v - 2 ^ d.k0) d.k1

theorem lt_append {V N W n : Nat} (hV : V < 2 ^ N) (hW : W < 2 ^ n) : V + 2 ^ N * W < 2 ^ (N + n) := by
  have h1 : 2 ^ N * (W + 1) ≤ 2 ^ N * 2 ^ n := Nat.mul_le_mul_left _ hW
  rw [Nat.pow_add]
  rw [Nat.mul_add, Nat.mul_one] at h1
  omega
theorem riceC_lt {v k : Nat} (hv : v < 4294967296) : riceC v k < 2 ^ riceN v k := by
  unfold riceC riceN
  split
  · exact lt_append (N := 48) (n := 32) (by decide) hv
  · have h1 : v % 2 ^ k < 2 ^ k := Nat.mod_lt _ (Nat.pow_pos (by omega))
    refine lt_append ?_ h1
    have : 0 < 2 ^ (v / 2 ^ k) := Nat.pow_pos (by omega)
    rw [Nat.pow_succ]
    omega
theorem riceN_le {v k : Nat} (hk : k ≤ 24) : riceN v k ≤ 80 := by unfold riceN; split <;> omega
theorem codeN_le {d : Dl} {v : Nat} (hd : okD d) : codeN d v ≤ 81 := by
  have := riceN_le (v := v - 2 ^ d.k0) hd.2.1
  have := hd.1
  unfold codeN
  split <;> omega
theorem codeN_pos (d : Dl) (v : Nat) : 1 ≤ codeN d v := by unfold codeN; split <;> omega
theorem codeC_lt {d : Dl} {v : Nat} (hv : v < 4294967296) : codeC d v < 2 ^ codeN d v := by
  unfold codeC codeN
  split
  · rename_i h
    rw [Nat.pow_add, Nat.pow_one]
    omega
  · have h := riceC_lt (v := v - 2 ^ d.k0) (k := d.k1) (Nat.lt_of_le_of_lt (Nat.sub_le _ _) hv)
    exact lt_append (N := 1) (V := 1) (by decide) h

def frmM (c : Nat) (v : List Nat) : Nat → Nat × Nat
  | 0 => (0, 0)
  | i + 1 => ((frmM c v i).1 + codeN (chanM c (i % c) (v.take i)) (v.getD i 0), (frmM c v i).2 + 2 ^ (frmM c v i).1 * codeC (chanM c (i % c) (v.take i)) (v.getD i 0))
def frmN (c : Nat) (v : List Nat) (i : Nat) : Nat := (frmM c v i).1
def frmV (c : Nat) (v : List Nat) (i : Nat) : Nat := (frmM c v i).2
theorem frmN_zero (c : Nat) (v : List Nat) : frmN c v 0 = 0 := rfl
theorem frmV_zero (c : Nat) (v : List Nat) : frmV c v 0 = 0 := rfl
theorem frmN_succ (c : Nat) (v : List Nat) (i : Nat) : frmN c v (i + 1) = frmN c v i + codeN (chanM c (i % c) (v.take i)) (v.getD i 0) := rfl
theorem frmV_succ (c : Nat) (v : List Nat) (i : Nat) : frmV c v (i + 1) = frmV c v i + 2 ^ frmN c v i * codeC (chanM c (i % c) (v.take i)) (v.getD i 0) := rfl
theorem N32.take {v : List Nat} (h : N32 v) (i : Nat) : N32 (v.take i) := fun x hx => h x (List.mem_of_mem_take hx)
theorem N32.getD {v : List Nat} (h : N32 v) (i : Nat) : v.getD i 0 < 4294967296 := by
  rw [List.getD_eq_getElem?_getD]
  cases hx : v[i]? with
  | none => simp
  | some x => exact h x (List.mem_of_getElem? hx)
theorem frm_bounds {c : Nat} {v : List Nat} (h : N32 v) : ∀ i, frmV c v i < 2 ^ frmN c v i ∧ frmN c v i ≤ 81 * i ∧ i ≤ frmN c v i
  | 0 => by rw [frmN_zero, frmV_zero]; decide
  | i + 1 => by
    obtain ⟨h1, h2, h3⟩ := frm_bounds h i
    have hd := chan_ok (c := c) (r := i % c) (h.take i)
    have h4 := codeN_le (v := v.getD i 0) hd
    have h5 := codeN_pos (chanM c (i % c) (v.take i)) (v.getD i 0)
    rw [frmN_succ, frmV_succ]
    exact ⟨lt_append h1 (codeC_lt (h.getD i)), by omega, by omega⟩

def frmB (c : Nat) (v : List Nat) : List UInt8 := leB (frmV c v v.length) (nB (frmN c v v.length))
def sealB (p : List UInt8) : List UInt8 := p ++ leB (sumM p) 4
end Go.Am

namespace Go.Am
open Go.RowKit

/-! ### Chapter 21: the examples hold -/


def fr0 : List UInt8 := sealB [0, 0, 0]
theorem I32_z16 : I32 z16 := by
  intro v hv
  have := List.eq_of_mem_replicate hv
  omega
def S_alive21 (P : Prg) (f : Nat) : Prop := VC P f [] (.bool true)
end Go.Am

namespace Go.Am
open Go.RowKit

/-! ### Codes are read back (plain) -/

theorem mod_split {X m n A B : Nat} (hA : A < 2 ^ m) : X % 2 ^ (m + n) = A + 2 ^ m * B ↔ X % 2 ^ m = A ∧ X / 2 ^ m % 2 ^ n = B := by
  rw [Nat.pow_add, Nat.mod_mul]
  have h1 : X % 2 ^ m < 2 ^ m := Nat.mod_lt _ (Nat.pow_pos (by omega))
  constructor
  · intro h
    have e1 : X % 2 ^ m = A := by
      have := congrArg (· % 2 ^ m) h
      simpa [Nat.add_mul_mod_self_left, Nat.mod_eq_of_lt h1, Nat.mod_eq_of_lt hA] using this
    rw [e1] at h
    have e2 : 2 ^ m * (X / 2 ^ m % 2 ^ n) = 2 ^ m * B := by omega
    exact ⟨e1, Nat.eq_of_mul_eq_mul_left (Nat.pow_pos (by omega)) e2⟩
  · rintro ⟨e1, e2⟩
    rw [e1, e2]

theorem ones_to : ∀ (m X : Nat), (onesM m X < m → X % 2 ^ (onesM m X + 1) = 2 ^ onesM m X - 1) ∧ (onesM m X = m → X % 2 ^ m = 2 ^ m - 1)
  | 0, X => ⟨fun h => by simp [onesM] at h, fun _ => by simp [Nat.mod_one]⟩
  | m + 1, X => by
    obtain ⟨r1, r2⟩ := ones_to m (X / 2)
    unfold onesM
    by_cases hx : X % 2 = 1
    · simp only [hx, if_true]
      refine ⟨fun h => ?_, fun h => ?_⟩
      · have := r1 (by omega)
        generalize onesM m (X / 2) = q at *
        have hp : 1 ≤ 2 ^ q := Nat.pow_pos (by omega)
        rw [show q + 1 + 1 = 1 + (q + 1) by omega, show 2 ^ (q + 1) - 1 = 1 + 2 ^ 1 * (2 ^ q - 1) by rw [Nat.pow_succ]; omega]
        exact (mod_split (by decide)).2 ⟨by simpa using hx, by simpa using this⟩
      · have := r2 (by omega)
        have hp : 1 ≤ 2 ^ m := Nat.pow_pos (by omega)
        rw [show m + 1 = 1 + m by omega, show 2 ^ (1 + m) - 1 = 1 + 2 ^ 1 * (2 ^ m - 1) by rw [Nat.pow_add]; omega]
        exact (mod_split (by decide)).2 ⟨by simpa using hx, by simpa using this⟩
    · rw [if_neg hx]
      refine ⟨fun _ => ?_, fun h => by omega⟩
      have : X % 2 = 0 := by omega
      simpa using this

theorem readU_inv {V N a q nx : Nat} (h : readU V N a = .inr (q, nx)) : nx ≤ N ∧ ((q < 48 ∧ nx = a + q + 1 ∧ V / 2 ^ a % 2 ^ (q + 1) = 2 ^ q - 1) ∨ (q = 48 ∧ nx = a + 48 ∧ V / 2 ^ a % 2 ^ 48 = 2 ^ 48 - 1)) := by
  unfold readU at h
  obtain ⟨o1, o2⟩ := ones_to (min 48 (N - a)) (V / 2 ^ a)
  have o3 := ones_le (min 48 (N - a)) (V / 2 ^ a)
  split at h
  · cases h
  split at h
  · rename_i h1 h2
    cases h
    exact ⟨by omega, .inl ⟨by omega, rfl, o1 h2⟩⟩
  · rename_i h1 h2
    split at h
    · rename_i h3
      cases h
      rw [h3] at o2 h2 o3
      exact ⟨by omega, .inr ⟨rfl, rfl, o2 (by omega)⟩⟩
    · cases h

theorem div_add_pow (V a b : Nat) : V / 2 ^ (a + b) = V / 2 ^ a / 2 ^ b := by rw [Nat.pow_add, Nat.div_div_eq_div_mul]

theorem rice_inv {V N a k v nx : Nat} (h : riceM V N a k = .inr (v, nx)) : nx = a + riceN v k ∧ nx ≤ N ∧ V / 2 ^ a % 2 ^ riceN v k = riceC v k := by
  unfold riceM at h
  cases hu : readU V N a with
  | inl e => rw [hu] at h; cases h
  | inr w =>
    obtain ⟨q, n⟩ := w
    obtain ⟨u1, u2⟩ := readU_inv hu
    rw [hu] at h
    simp only at h
    by_cases hs : N < n + (if q = 48 then 32 else k)
    · rw [if_pos hs] at h; cases h
    rw [if_neg hs] at h
    unfold riceN riceC
    rcases u2 with ⟨h1, rfl, h3⟩ | ⟨rfl, rfl, h3⟩
    · rw [if_pos h1] at h
      cases h
      rw [if_neg (show ¬ q = 48 by omega)] at hs
      have hm : V / 2 ^ (a + q + 1) % 2 ^ k < 2 ^ k := Nat.mod_lt _ (Nat.pow_pos (by omega))
      have hd : (q * 2 ^ k + V / 2 ^ (a + q + 1) % 2 ^ k) / 2 ^ k = q := by
        rw [Nat.mul_comm, Nat.mul_add_div (Nat.pow_pos (by omega)), Nat.div_eq_of_lt hm, Nat.add_zero]
      have hr : (q * 2 ^ k + V / 2 ^ (a + q + 1) % 2 ^ k) % 2 ^ k = V / 2 ^ (a + q + 1) % 2 ^ k := by
        rw [Nat.mul_comm, Nat.mul_add_mod, Nat.mod_eq_of_lt hm]
      have hp : 1 ≤ 2 ^ q := Nat.pow_pos (by omega)
      rw [hd, hr, if_neg (by omega), if_neg (by omega)]
      refine ⟨by omega, by omega, (mod_split (m := q + 1) (n := k) (by rw [Nat.pow_succ]; omega)).2 ⟨h3, ?_⟩⟩
      rw [← div_add_pow, Nat.add_assoc]
    · rw [if_neg (by omega)] at h
      rw [if_pos rfl] at hs
      split at h
      · cases h
      rename_i h4
      cases h
      rw [if_pos (by omega), if_pos (by omega)]
      refine ⟨by omega, by omega, (mod_split (m := 48) (n := 32) (by decide)).2 ⟨h3, ?_⟩⟩
      rw [← div_add_pow]

theorem got_inv {V N a v nx : Nat} {d : Dl} (h : gotM V N a d = .inr (v, nx)) : nx = a + codeN d v ∧ nx ≤ N ∧ V / 2 ^ a % 2 ^ codeN d v = codeC d v := by
  unfold gotM at h
  unfold codeN codeC
  split at h
  · cases h
  split at h
  · rename_i h0 h1
    split at h
    · cases h
    rename_i h2
    cases h
    have hm : V / 2 ^ (a + 1) % 2 ^ d.k0 < 2 ^ d.k0 := Nat.mod_lt _ (Nat.pow_pos (by omega))
    rw [if_pos hm, if_pos hm]
    refine ⟨by omega, by omega, ?_⟩
    rw [show ∀ x : Nat, 2 * x = 0 + 2 ^ 1 * x by intro x; omega]
    exact (mod_split (m := 1) (n := d.k0) (by decide)).2 ⟨by simpa using h1, by rw [← div_add_pow]⟩
  · rename_i h0 h1
    cases hr : riceM V N (a + 1) d.k1 with
    | inl e => rw [hr] at h; cases h
    | inr w =>
      obtain ⟨l, n⟩ := w
      obtain ⟨r1, r2, r3⟩ := rice_inv hr
      rw [hr] at h
      simp only at h
      split at h
      · cases h
      cases h
      rw [if_neg (by omega), if_neg (by omega), Nat.add_sub_cancel]
      refine ⟨by omega, by omega, (mod_split (m := 1) (n := riceN l d.k1) (by decide)).2 ⟨?_, by rw [← div_add_pow]; exact r3⟩⟩
      have : V / 2 ^ a % 2 = 1 := by omega
      simpa using this

theorem prt_inv {V N a v nx : Nat} {d : Dl} (h : gotM (prtV V N a) (prtN N a) 0 d = .inr (v, nx)) : nx = codeN d v ∧ a + nx ≤ max a N ∧ V / 2 ^ a % 2 ^ codeN d v = codeC d v := by
  obtain ⟨h1, h2, h3⟩ := got_inv h
  have hle : codeN d v ≤ prtN N a := by omega
  rw [Nat.pow_zero, Nat.div_one, prtV, Nat.mod_mod_of_dvd _ (Nat.pow_dvd_pow 2 hle)] at h3
  refine ⟨by omega, ?_, h3⟩
  unfold prtN at h2
  omega

theorem vals_inv {V N c : Nat} : ∀ (k : Nat) (out : List Nat) (a : Nat) (w : List Nat) (b : Nat), N32 out → a = frmN c out out.length → V % 2 ^ a = frmV c out out.length → a ≤ N → valsM V N c k out a = .inr (w, b) →
    b = frmN c w w.length ∧ V % 2 ^ b = frmV c w w.length ∧ b ≤ N ∧ N32 w ∧ w.length = out.length + k
  | 0, out, a, w, b, ho, ha, hV, hN, h => by
    simp only [valsM] at h
    cases h
    exact ⟨ha, hV, hN, ho, rfl⟩
  | k + 1, out, a, w, b, ho, ha, hV, hN, h => by
    rw [valsM] at h
    cases hg : gotM (prtV V N a) (prtN N a) 0 (chanM c (out.length % c) out) with
    | inl e => rw [hg] at h; cases h
    | inr p =>
      obtain ⟨x, nx⟩ := p
      rw [hg] at h
      simp only at h
      have hd := chan_ok (c := c) (r := out.length % c) ho
      have hx := (got_lt hd hg).1
      obtain ⟨h1, h2, h3⟩ := prt_inv hg
      have ho' : N32 (out ++ [x]) := fun y hy => by
        rcases List.mem_append.1 hy with h | h
        · exact ho y h
        · simp at h; subst h; exact hx
      have hfr : ∀ i, i ≤ out.length → frmM c (out ++ [x]) i = frmM c out i := by
        intro i
        induction i with
        | zero => intro _; rfl
        | succ i ih =>
          intro hi
          rw [frmM, frmM, ih (by omega), List.take_append_of_le_length (by omega)]
          have e : (out ++ [x]).getD i 0 = out.getD i 0 := by simp only [List.getD_eq_getElem?_getD, List.getElem?_append_left (by omega : i < out.length)]
          rw [e]
      have hfN : frmN c (out ++ [x]) (out ++ [x]).length = frmN c out out.length + codeN (chanM c (out.length % c) out) x := by
        rw [List.length_append, List.length_cons, List.length_nil, Nat.zero_add, frmN_succ, List.take_left' rfl]
        have e : (out ++ [x]).getD out.length 0 = x := by simp [List.getD_eq_getElem?_getD]
        rw [e, frmN, hfr _ (Nat.le_refl _), ← frmN]
      have hfV : frmV c (out ++ [x]) (out ++ [x]).length = frmV c out out.length + 2 ^ frmN c out out.length * codeC (chanM c (out.length % c) out) x := by
        rw [List.length_append, List.length_cons, List.length_nil, Nat.zero_add, frmV_succ, List.take_left' rfl]
        have e : (out ++ [x]).getD out.length 0 = x := by simp [List.getD_eq_getElem?_getD]
        rw [e, frmN, frmV, hfr _ (Nat.le_refl _), ← frmN, ← frmV]
      have := vals_inv (V := V) (N := N) (c := c) k (out ++ [x]) (a + nx) w b ho' (by rw [hfN, ha, h1]) (by
        rw [hfV, h1, ← ha]
        refine (mod_split ?_).2 ⟨hV, h3⟩
        rw [ha]
        exact (frm_bounds ho _).1) (by omega) h
      rw [List.length_append, List.length_cons, List.length_nil] at this
      refine ⟨this.1, this.2.1, this.2.2.1, this.2.2.2.1, ?_⟩
      have := this.2.2.2.2
      omega

end Go.Am

namespace Go.Am
open Go.RowKit

/-! ### What is mixed is unmixed, what is stepped is stepped back (plain) -/

theorem seg_div {c q r : Nat} (h : r < c) : (c * q + r) / c = q ∧ (c * q + r) % c = r := by
  refine ⟨?_, by rw [Nat.mul_add_mod, Nat.mod_eq_of_lt h]⟩
  rw [Nat.mul_add_div (by omega), Nat.div_eq_of_lt h, Nat.add_zero]
theorem seg_in {c n q r : Nat} (hn : n % c = 0) (hr : r < c) (h : c * q + r < n) : c * q + c ≤ n := by
  have h1 := Nat.div_add_mod n c
  rw [hn, Nat.add_zero] at h1
  have h2 : q < n / c := Nat.lt_of_not_le fun hle => by
    have := Nat.mul_le_mul_left c hle
    omega
  have := Nat.mul_le_mul_left c (show q + 1 ≤ n / c from h2)
  rw [Nat.mul_add] at this
  omega
theorem mixAll_getD {c : Nat} {l : List Int} {j : Nat} (h : j < l.length) : (mixAll c l).getD j 0 = mixV c l j := by rw [mixAll, map_getD h]
theorem w32_mem {l : List Int} (h : I32 l) (j : Nat) : w32 (l.getD j 0) = l.getD j 0 := w32_id (getD_mem h j).1 (getD_mem h j).2

theorem undAll_getD {c : Nat} {l : List Int} {j : Nat} (h : j < l.length) : (undAll c l).getD j 0 = undV c l j := by rw [undAll, undT, map_getD h]
theorem mix_und {c : Nat} {m : List Int} (hc : 1 ≤ c) (hI : I32 m) (hm : m.length % c = 0) : mixAll c (undAll c m) = m := by
  apply getD_ext (by rw [mixAll_len, undAll_len])
  intro j hj
  rw [mixAll_len, undAll_len] at hj
  obtain ⟨q, hq⟩ : ∃ q, q = j / c := ⟨_, rfl⟩
  obtain ⟨r, hr0⟩ : ∃ r, r = j % c := ⟨_, rfl⟩
  have hr : r < c := by rw [hr0]; exact Nat.mod_lt j (show 0 < c by omega)
  have hd : j = c * q + r := by rw [hq, hr0]; exact (Nat.div_add_mod j c).symm
  have hs := seg_in hm hr (by omega : c * q + r < m.length)
  have hu : ∀ i, i < c → (undAll c m).getD (c * q + i) 0 = ud m (c * q) c (c - 1 - i) := fun i hi => by
    rw [undAll_getD (by omega), undV, (seg_div hi).1, (seg_div hi).2]
  rw [mixAll_getD (by rw [undAll_len]; exact hj), mixV]
  by_cases h1 : c = 1
  · subst h1
    have hr1 : r = 0 := by omega
    rw [if_pos rfl, hd, hr1, hu 0 (by omega)]
    simp [ud]
  rw [if_neg h1, ← hr0]
  by_cases h2 : r + 1 < c
  · rw [if_pos h2, hd, show c * q + r + 1 = c * q + (r + 1) by omega, hu _ h2, hu _ hr, show c - 1 - r = c - 1 - (r + 1) + 1 by omega, ud, w32_subr, show c - 2 - (c - 1 - (r + 1)) = r by omega]
    generalize ud m (c * q) c (c - 1 - (r + 1)) = y
    rw [show y - (y - m.getD (c * q + r) 0) = m.getD (c * q + r) 0 by omega, w32_mem hI]
  · rw [if_neg h2, hd, show c * q + r - 1 = c * q + (c - 2) by omega, show r = c - 1 by omega, hu _ (by omega), hu _ (by omega), show c - 1 - (c - 1) = 0 by omega, show c - 1 - (c - 2) = 0 + 1 by omega, show ud m (c * q) c (0 + 1) = w32 (ud m (c * q) c 0 - m.getD (c * q + (c - 2 - 0)) 0) from rfl, w32_subr, show c - 2 - 0 = c - 2 by omega]
    generalize hy : ud m (c * q) c 0 = y
    rw [show y - (y - m.getD (c * q + (c - 2)) 0) = m.getD (c * q + (c - 2)) 0 by omega, w32_mem hI, ← hy, ud, if_neg h1, w32_subl, Int.add_sub_cancel, w32_mem hI]

theorem bck_fwd (c : Chan) {y : Int} (h : -2147483648 ≤ y ∧ y ≤ 2147483647) : cfwdY c (cbckX c y) = y ∧ cfwdC c (cbckX c y) = cbckC c y := by
  have e1 : cfwdZ c (cbckX c y) = bckX c.fl y := by
    unfold cfwdZ cbckX
    rw [w32_subl, Int.add_sub_cancel, bckX, w32_w32]
  have e2 : cfwdY c (cbckX c y) = y := by
    unfold cfwdY fwdY
    rw [e1, bckX, w32_subl, Int.add_sub_cancel, w32_id h.1 h.2]
  refine ⟨e2, ?_⟩
  unfold cbckC cfwdC
  have e3 : fwdY c.fl (bckX c.fl y) = y := by
    unfold fwdY
    rw [bckX, w32_subl, Int.add_sub_cancel, w32_id h.1 h.2]
  rw [e1, fwdF, e3, bckF]

theorem fold_back {n : Int} (h : 0 ≤ n) : foldN (backN n) = n := by unfold backN foldN; split <;> split <;> omega
theorem col_at {k c n : Nat} (hk : k < c) : (k + n * c) % c = k ∧ (k + n * c) / c = n := by
  rw [Nat.add_comm, Nat.mul_comm]
  exact ⟨(seg_div hk).2, (seg_div hk).1⟩
theorem stC_of {c : Nat} {L L2 : List Int} {z : Chan} {m k : Nat} (hL : I32 L) (h : ∀ j, j < m → L2.getD j 0 = cbckX (stB c L z (j % c) (j / c)) (L.getD j 0)) (hk : k < c) : ∀ n, (∀ i, i < n → k + i * c < m) → stC c L2 z k n = stB c L z k n
  | 0, _ => rfl
  | n + 1, hn => by
    obtain ⟨e1, e2⟩ := col_at (n := n) hk
    rw [stC, stB, stC_of hL h hk n fun i hi => hn i (by omega), h _ (hn n (by omega)), e1, e2]
    exact (bck_fwd _ (getD_mem hL _)).2
theorem col_lt {c j m : Nat} (hj : j < m) : ∀ i, i < j / c → j % c + i * c < m := by
  intro i hi
  have h1 := Nat.div_add_mod j c
  have h2 := Nat.mul_le_mul_right c (show i ≤ j / c by omega)
  rw [Nat.mul_comm (j / c)] at h2
  omega

theorem out_unB {c : Nat} {x : Int} {t v : List Int} (hc : 1 ≤ c) (hV : U32 v) (hm : v.length % c = 0) : outT c (mixAll c (unB c x t v)) (newC x t) v.length = v := by
  have hB := I32_bacT c (v.map backN) (newC x t) v.length
  have hb : I32 (v.map backN) := by
    intro y hy
    simp only [List.mem_map] at hy
    obtain ⟨n, hn, rfl⟩ := hy
    exact backN_rng (hV n hn)
  unfold unB
  rw [mix_und hc hB (by rw [bacT_len]; exact hm)]
  have hg : ∀ j, j < v.length → (bacT c (v.map backN) (newC x t) v.length).getD j 0 = cbckX (stB c (v.map backN) (newC x t) (j % c) (j / c)) ((v.map backN).getD j 0) := fun j hj => by
    rw [bacT, map_getD hj, bacV]
  apply getD_ext (by rw [outT_len])
  intro j hj
  rw [outT_len] at hj
  rw [outT, map_getD hj, outV, stC_of hb hg (Nat.mod_lt _ (by omega)) _ (col_lt hj), hg j hj, (bck_fwd _ (getD_mem hb _)).1, backs_getD hj, fold_back (U32_getD hV j).1]

end Go.Am

namespace Go.Am
open Go.RowKit

/-! ### Frames: coded and decoded (plain) -/

def valE (c : Nat) (x : Int) (t l : List Int) : List Nat := (outT c (mixAll c l) (newC x t) l.length).map Int.toNat
def encB (c : Nat) (x : Int) (t l : List Int) : List UInt8 := sealB (frmB c (valE c x t l))

theorem toNat_iL (o : List Nat) : (iL o).map Int.toNat = o := by
  unfold iL
  rw [List.map_map]
  conv => rhs; rw [← List.map_id o]
  apply List.map_congr_left
  intro y _
  simp
theorem open_inv {b : List UInt8} (h : openM b = 0) : b = sealB (b.take (b.length - 4)) ∧ 5 ≤ b.length ∧ b.length ≤ 41254 := by
  unfold openM at h
  split at h
  · omega
  split at h
  · omega
  split at h
  · rename_i h1 h2 h3
    exact ⟨((sealed_iff (by omega)).2 h3).symm, by omega, by omega⟩
  · omega
theorem enc_dec {c x n : Int} {t : List Int} {b : List UInt8} (ha : ask21 c x n = 0) (h : errD c x t n b = 0) : askN c x (decL c x t n b) = 0 ∧ ((decL c x t n b).length : Int) = n * c ∧ encB c.toNat x t (decL c x t n b) = b ∧ I32 (decL c x t n b) := by
  have ho := errD_ask ha h
  obtain ⟨b1, b2, b3⟩ := open_inv ho
  obtain ⟨e1, c', n', rfl, rfl, q1, q2, q3, q4, q5⟩ := ask21_cases ha
  have hd : decL c' x t n' b = unB c' x t (iL (vlsM (allV b c' n'))) := by unfold decL; rw [if_pos h]; simp only [Int.toNat_natCast]
  have h' := h
  unfold errD at h'
  rw [if_neg (by omega), if_neg (by omega)] at h'
  simp only [Int.toNat_natCast] at h' ⊢
  have hpl : (b.take (b.length - 4)).length = b.length - 4 := by simp
  generalize hp : b.take (b.length - 4) = p at *
  have hs := vals_spec (V := leN p) (N := 8 * p.length) (c := c') (n' * c') [] 0 (Nat.zero_le _) (fun x hx => by simp at hx)
  have hinv := fun w b => vals_inv (V := leN p) (N := 8 * p.length) (c := c') (n' * c') [] 0 w b (fun x hx => by simp at hx) rfl (by simp [frmV_zero, Nat.mod_one]) (Nat.zero_le _)
  have hav : allV b c' n' = valsM (leN p) (8 * p.length) c' (n' * c') [] 0 := by unfold allV; rw [hp]
  rw [hav] at hd h'
  cases hw : valsM (leN p) (8 * p.length) c' (n' * c') [] 0 with
  | inl w =>
    obtain ⟨e, o⟩ := w
    rw [hw] at h'
    simp only [errV] at h'
    have := (hs.1 e o hw).1
    omega
  | inr w =>
    obtain ⟨o, a⟩ := w
    rw [hw] at h' hd
    obtain ⟨i1, i2, i3, i4, i5⟩ := hinv o a hw
    rw [List.length_nil, Nat.zero_add] at i5
    have hpos : 1 ≤ n' * c' := Nat.mul_pos q3 q1
    simp only [errV] at h'
    split at h'
    · omega
    rename_i hr
    have hr0 : restM (leN p) (8 * p.length) a = 0 := by omega
    unfold restM at hr0
    split at hr0
    · omega
    split at hr0
    case isFalse => omega
    rename_i hr1 hr2
    have hV : leN p = frmV c' o o.length := by
      have := Nat.div_add_mod (leN p) (2 ^ a)
      rw [hr2, i2] at this
      omega
    have hlen : p.length = nB (frmN c' o o.length) := by rw [← i1]; unfold nB; omega
    have hpb : p = frmB c' o := by
      unfold frmB
      rw [← hV, ← hlen, leB_leN]
    have hU : U32 (iL o) := U32_iL i4
    have hil : (iL o).length = n' * c' := by simp [iL, i5]
    have hlu : (unB c' x t (iL o)).length = n' * c' := by rw [unB_len, hil]
    have hmod : (n' * c') % c' = 0 := Nat.mul_mod_left _ _
    have hI : I32 (unB c' x t (iL o)) := I32_undAll (I32_bacT _ _ _ _)
    simp only [vlsM] at hd
    rw [hd]
    refine ⟨?_, by rw [hlu]; simp, ?_, hI⟩
    · refine ask_ok e1 h' ?_
      rw [hlu]
      have : ((n' * c' : Nat) : Int) % (c' : Int) = 0 := by rw [← Int.natCast_emod, hmod]; rfl
      omega
    · unfold encB valE
      have := out_unB (c := c') (x := x) (t := t) q1 hU (by rw [hil]; exact hmod)
      rw [hil] at this
      rw [hlu, this, toNat_iL, ← hpb]
      exact b1.symm

end Go.Am

namespace Go.Am
open Go.RowKit

/-! ### Frames read as other moments, and frames that are cut (plain) -/

theorem iL_len (o : List Nat) : (iL o).length = o.length := by simp [iL]
end Go.Am

namespace Go.Am
open Go.RowKit

/-! ### law23: judged, alive, VerdictSays -/

def S_Judged (P : Prg) (f : Nat) : Prop := ∀ (n : Int) (b : List UInt8) (e g : Int), b.length ≤ 1000000 → judA 1 16 z16 n b = .tup [.agg [.int .i64 e, .int .i64 g], .int .i64 0] → VC P f [.int .i64 n, bs b, .int .i64 e, .int .i64 g] (.bool true)
theorem law23_judged {P : Prg} {f fJ t0 : Nat} (bd : Body P f 28 [.tmp 8] (ac_cadenzalaw23_judged fJ t0)) (hJ : S_Judge P fJ) : S_Judged P f := by
  intro n b e g hb h
  refine VC.of_acall (by simp [isDL, isD_bs, isD]) rfl (ACall.of_body bd (by simp) ?_)
  have hJ' := hJ 1 16 n z16 b rfl I32_z16 hb
  rw [h] at hJ'
  have hj : VC P fJ [.agg [.int .i64 1, .int .i64 16], .agg [.int .i32 0, .int .i32 0, .int .i32 0, .int .i32 0, .int .i32 0, .int .i32 0, .int .i32 0, .int .i32 0, .int .i32 0, .int .i32 0, .int .i32 0, .int .i32 0, .int .i32 0, .int .i32 0, .int .i32 0, .int .i32 0], .int .i64 n, .list b.length (u8 b)] (.tup [.agg [.int .i64 e, .int .i64 g], .int .i64 0]) := hJ'
  simp (maxSteps := 4000000) (disch := omega) only [step, stepv, ev, wl, wn, wp, wz, aop, cV, cV1, AV.one, partCells, okW, onlyFr, app, sliceCells, cellsAt, srcA, subA, eqFs, Int.cast_ofNat_Int, simprocAttr, ac_cadenzalaw23_judged, bs]
  refine callQ.vc hj ?_
  simp (maxSteps := 4000000) (disch := omega) only [step, stepv, ev, wl, wn, wp, wz, aop, cV, cV1, AV.one, partCells, okW, onlyFr, app, sliceCells, cellsAt, srcA, subA, eqFs, Int.cast_ofNat_Int, simprocAttr]

def fr1 : List UInt8 := [0, 0, 0, 18, 217, 65, 0]
theorem fr0_eq : fr0 = [0, 0, 0, 18, 217, 65, 255] := by decide +kernel
theorem jud_fr (n : Int) (b : List UInt8) (e g : Int) (h0 : ask21 1 16 n = 0) (h1 : errD 1 16 z16 n b = e) (h2 : judG 1 16 z16 n b = g) : judA 1 16 z16 n b = .tup [.agg [.int .i64 e, .int .i64 g], .int .i64 0] := by
  rw [judA, if_neg (by omega), h1, h2]
theorem law23_alive {P : Prg} {f fZ fJ t0 : Nat} (bd : Body P f 27 [.tmp 0] (ac_cadenzalaw23_alive fZ fJ t0)) (hZ : S_Sealed P fZ) (hJ : S_Judged P fJ) : S_alive21 P f := by
  refine VC.of_acall rfl rfl (ACall.of_body bd (by simp) ?_)
  have hZ' := hZ [0, 0, 0] (by decide)
  rw [show [0, 0, 0] ++ leB (sumM [0, 0, 0]) 4 = fr0 from rfl, fr0_eq] at hZ'
  have j1 := hJ 2 fr0 0 2 (by decide +kernel) (jud_fr _ _ _ _ (by decide +kernel) (by decide +kernel) (by decide +kernel))
  have j2 := hJ 3 fr0 24 2 (by decide +kernel) (jud_fr _ _ _ _ (by decide +kernel) (by decide +kernel) (by decide +kernel))
  have j3 := hJ 1 fr0 12 1 (by decide +kernel) (jud_fr _ _ _ _ (by decide +kernel) (by decide +kernel) (by decide +kernel))
  have j4 := hJ 2 fr1 22 0 (by decide +kernel) (jud_fr _ _ _ _ (by decide +kernel) (by decide +kernel) (by decide +kernel))
  rw [fr0_eq] at j1 j2 j3
  have hz : VC P fZ [.list 3 [.int .u8 0, .int .u8 0, .int .u8 0]] (.list 7 [.int .u8 0, .int .u8 0, .int .u8 0, .int .u8 18, .int .u8 217, .int .u8 65, .int .u8 255]) := hZ'
  have k1 : VC P fJ [.int .i64 2, .list 7 [.int .u8 0, .int .u8 0, .int .u8 0, .int .u8 18, .int .u8 217, .int .u8 65, .int .u8 255], .int .i64 0, .int .i64 2] (.bool true) := j1
  have k2 : VC P fJ [.int .i64 3, .list 7 [.int .u8 0, .int .u8 0, .int .u8 0, .int .u8 18, .int .u8 217, .int .u8 65, .int .u8 255], .int .i64 24, .int .i64 2] (.bool true) := j2
  have k3 : VC P fJ [.int .i64 1, .list 7 [.int .u8 0, .int .u8 0, .int .u8 0, .int .u8 18, .int .u8 217, .int .u8 65, .int .u8 255], .int .i64 12, .int .i64 1] (.bool true) := j3
  have k4 : VC P fJ [.int .i64 2, .list 7 [.int .u8 0, .int .u8 0, .int .u8 0, .int .u8 18, .int .u8 217, .int .u8 65, .int .u8 0], .int .i64 22, .int .i64 0] (.bool true) := j4
  have wr : IntKind.u8.wrap 256 = 0 := by decide
  clear hZ hJ hZ' j1 j2 j3 j4
  simp (maxSteps := 4000000) (disch := omega) only [step, stepv, ev, wl, wn, wp, wz, aop, cV, cV1, AV.one, partCells, okW, onlyFr, app, sliceCells, cellsAt, srcA, subA, eqFs, Int.cast_ofNat_Int, simprocAttr, ac_cadenzalaw23_alive]
  refine callQ.still 1 [0] hz (by simp [frzN, frzK, frzL, frzV]) ?_
  simp (maxSteps := 4000000) (disch := omega) only [step, stepv, ev, wl, wn, wp, wz, aop, cV, cV1, AV.one, partCells, okW, onlyFr, app, sliceCells, cellsAt, srcA, subA, eqFs, Int.cast_ofNat_Int, simprocAttr, stillAt]
  refine callQ.vc k1 ?_
  simp (maxSteps := 4000000) (disch := omega) only [step, stepv, ev, wl, wn, wp, wz, aop, cV, cV1, AV.one, partCells, okW, onlyFr, app, sliceCells, cellsAt, srcA, subA, eqFs, Int.cast_ofNat_Int, simprocAttr]
  refine callQ.vc k2 ?_
  simp (maxSteps := 4000000) (disch := omega) only [step, stepv, ev, wl, wn, wp, wz, aop, cV, cV1, AV.one, partCells, okW, onlyFr, app, sliceCells, cellsAt, srcA, subA, eqFs, Int.cast_ofNat_Int, simprocAttr]
  refine callQ.vc k3 ?_
  simp (maxSteps := 4000000) (disch := omega) only [step, stepv, ev, wl, wn, wp, wz, aop, cV, cV1, AV.one, partCells, okW, onlyFr, app, sliceCells, cellsAt, srcA, subA, eqFs, Int.cast_ofNat_Int, simprocAttr]
  refine callQ.still 1 [1] k4 (by simp [frzN, frzK, frzL, frzV, wr]) ?_
  simp (maxSteps := 4000000) (disch := omega) only [step, stepv, ev, wl, wn, wp, wz, aop, cV, cV1, AV.one, partCells, okW, onlyFr, app, sliceCells, cellsAt, srcA, subA, eqFs, Int.cast_ofNat_Int, simprocAttr, stillAt]

/-! What a verdict says (plain). -/
theorem vals_strict {V N c : Nat} : ∀ (k : Nat) (out : List Nat) (a : Nat) (e : Nat) (o : List Nat), valsM V N c k out a = .inl (e, o) → o.length < out.length + k
  | 0, _, _, _, _, h => by simp only [valsM] at h; cases h
  | k + 1, out, a, e, o, h => by
    rw [valsM] at h
    cases hg : gotM (prtV V N a) (prtN N a) 0 (chanM c (out.length % c) out) with
    | inl e' => rw [hg] at h; cases h; omega
    | inr w =>
      rw [hg] at h
      have := vals_strict k _ _ e o h
      rw [List.length_append, List.length_cons, List.length_nil] at this
      omega
theorem good_mod (c : Nat) (x : Int) (t v : List Int) : goodM c x t v % c = 0 := by unfold goodM; exact Nat.mul_mod_left _ _
theorem says {c n : Nat} {x : Int} {t : List Int} {b : List UInt8} (h : ask21 c x n = 0) : ∃ G : Nat, judG c x t n b = G ∧ G ≤ n * c ∧ G % c = 0 ∧ (errD c x t n b = 0 → G = n * c ∧ (decL c x t n b).length = n * c) ∧ (errD c x t n b ≠ 0 → G < n * c ∨ errD c x t n b = 12) := by
  obtain ⟨ec, c', n', e1, e2, p1, p2, p3, p4, p5⟩ := ask21_cases h
  have e1' : c' = c := by omega
  have e2' : n' = n := by omega
  subst e1' e2'
  have hpos : 0 < n' * c' := Nat.mul_pos p3 p1
  by_cases he : errD c' x t n' b = 0
  · refine ⟨n' * c', by rw [judG, if_pos he]; simp, Nat.le_refl _, Nat.mul_mod_left _ _, fun _ => ⟨rfl, ?_⟩, fun h => absurd he h⟩
    have := (enc_dec h he).2.1
    omega
  by_cases ho : openM b = 0
  · have hj : judG c' x t n' b = (goodM c' x t (iL (vlsM (allV b c' n'))) : Nat) := by rw [judG, if_neg he, if_pos ho]; simp only [Int.toNat_natCast]
    have hg1 := goodM_le (c := c') (x := x) (t := t) (v := iL (vlsM (allV b c' n')))
    have hlen : (vlsM (allV b c' n')).length ≤ n' * c' := by
      have hs := vals_spec (V := leN (b.take (b.length - 4))) (N := 8 * (b.take (b.length - 4)).length) (c := c') (n' * c') [] 0 (Nat.zero_le _) (fun x hx => by simp at hx)
      unfold allV
      cases hw : valsM (leN (b.take (b.length - 4))) (8 * (b.take (b.length - 4)).length) c' (n' * c') [] 0 with
      | inl w => have := (hs.1 w.1 w.2 hw).2.2; simpa [vlsM] using this
      | inr w => have := (hs.2 w.1 w.2 hw).2.2; simp [vlsM, this]
    rw [iL_len] at hg1
    refine ⟨_, hj, by omega, good_mod _ _ _ _, fun h => absurd h he, fun _ => ?_⟩
    have hE := he
    unfold errD at hE ⊢
    rw [if_neg (by omega), if_neg (by omega)] at hE ⊢
    simp only [Int.toNat_natCast] at hE ⊢
    cases hw : allV b c' n' with
    | inl w =>
      obtain ⟨e, o⟩ := w
      rw [hw] at hg1
      simp only [vlsM] at hg1 ⊢
      have := vals_strict _ _ _ e o hw
      rw [List.length_nil, Nat.zero_add] at this
      exact .inl (by omega)
    | inr w =>
      obtain ⟨o, a⟩ := w
      obtain ⟨hv, ha, hol⟩ := okV_of p1 p2 p3 p4 hw
      rw [hw] at hg1 hE
      simp only [vlsM, errV] at hg1 hE ⊢
      by_cases hr : restM (leN (b.take (b.length - 4))) (8 * (b.take (b.length - 4)).length) a = 0
      · rw [if_neg (by omega)] at hE ⊢
        refine .inl ?_
        rcases Nat.lt_or_ge (goodM c' x t (iL o)) (n' * c') with hlt | hge
        · exact hlt
        · exfalso
          refine hE ?_
          have hil : (iL o).length = n' * c' := by rw [iL_len, hol]
          have hk : goodK c' x (unB c' x t ((iL o).take ((iL o).length / c' * c'))) ((iL o).length / c') * c' = n' * c' := by
            have := hge
            unfold goodM at this hg1
            omega
          rw [hil, Nat.mul_div_cancel _ (by omega), ← hil, List.take_length] at hk
          obtain ⟨g1, g2, g3⟩ := goodK_spec c' x (unB c' x t (iL o)) n'
          have hkn : goodK c' x (unB c' x t (iL o)) n' = n' := Nat.eq_of_mul_eq_mul_right (show 0 < c' by omega) (by rw [hk, hil])
          rw [hkn] at g2
          unfold okP at g2
          rw [← hil, ← unB_len c' x t (iL o), List.take_length] at g2
          rw [chk_all p5 (by rw [unB_len, hil]; omega), if_pos g2]
      · exact .inr (by rw [if_pos hr])
  · refine ⟨0, by rw [judG, if_neg he, if_neg ho]; rfl, Nat.zero_le _, Nat.zero_mod _, fun h => absurd h he, fun _ => .inl hpos⟩

end Go.Am

namespace Go.Am
open Go.RowKit

/-! ### The law VerdictSays -/

def S_LawSays (P : Prg) (f : Nat) : Prop := ∀ (c x : Int) (t : List Int) (n : Int) (b : List UInt8), t.length = 16 → I32 t → VC P f [shA c x, .agg (ks .i32 t), .int .i64 n, bs b] (.bool true)
set_option maxHeartbeats 1000000 in
set_option maxRecDepth 20000 in
theorem law23_VerdictSays {P : Prg} {f fA fQ fJ fD fH fI t0 t1 t2 t3 : Nat} (bd : Body P f 138 [.tmp 8] (ac_cadenzalaw23_VerdictSays fA fQ fJ fD fH fI t0 t1 t2 t3)) (hA : S_alive21 P fA) (hQ : S_Ask21 P fQ) (hJ : S_Judge P fJ) (hD : S_Decode P fD) (hH : S_Heal P fH) (hI0 : S_ISame P fI) : S_LawSays P f := by
  intro c x t n b ht hI
  have hk : (ks .i32 t).length = 16 := by simp [ks_length, ht]
  have tt : (ks .i32 t).take 16 = ks .i32 t := take_all (by omega)
  have ot := ks_one .i32 t
  refine VC.of_acall (by simp [isDL, isD, isD_bs, isDL_ks, shA]) rfl (ACall.of_body bd (by simp) ?_)
  have hA' : VC P fA [] (.bool true) := hA
  have hQ' := hQ c x n
  simp only [shA, bs] at hQ' ⊢
  have hbl : (u8 b).length = b.length := u8_length b
  by_cases h0 : ask21 c x n = 0
  case neg =>
    simp (maxSteps := 4000000) (disch := omega) only [step, stepv, ev, wl, wn, wp, wz, aop, cV, cV1, AV.one, partCells, okW, onlyFr, app, sliceCells, cellsAt, srcA, subA, eqFs, Int.cast_ofNat_Int, simprocAttr, ac_cadenzalaw23_VerdictSays, hk, ot, tt]
    refine callQ.vc hA' ?_
    simp (maxSteps := 4000000) (disch := omega) only [step, stepv, ev, wl, wn, wp, wz, aop, cV, cV1, AV.one, partCells, okW, onlyFr, app, sliceCells, cellsAt, srcA, subA, eqFs, Int.cast_ofNat_Int, simprocAttr, hk, ot, tt]
    refine callQ.vc hQ' ?_
    simp (maxSteps := 4000000) (disch := omega) only [step, stepv, ev, wl, wn, wp, wz, aop, cV, cV1, AV.one, partCells, okW, onlyFr, app, sliceCells, cellsAt, srcA, subA, eqFs, Int.cast_ofNat_Int, simprocAttr, h0]
  rw [h0] at hQ'
  by_cases h1 : 1500 < b.length
  · simp (maxSteps := 4000000) (disch := omega) only [step, stepv, ev, wl, wn, wp, wz, aop, cV, cV1, AV.one, partCells, okW, onlyFr, app, sliceCells, cellsAt, srcA, subA, eqFs, Int.cast_ofNat_Int, simprocAttr, ac_cadenzalaw23_VerdictSays, hk, ot, tt]
    refine callQ.vc hA' ?_
    simp (maxSteps := 4000000) (disch := omega) only [step, stepv, ev, wl, wn, wp, wz, aop, cV, cV1, AV.one, partCells, okW, onlyFr, app, sliceCells, cellsAt, srcA, subA, eqFs, Int.cast_ofNat_Int, simprocAttr, hk, ot, tt]
    refine callQ.vc hQ' ?_
    simp (maxSteps := 4000000) (disch := omega) only [step, stepv, ev, wl, wn, wp, wz, aop, cV, cV1, AV.one, partCells, okW, onlyFr, app, sliceCells, cellsAt, srcA, subA, eqFs, Int.cast_ofNat_Int, simprocAttr, h1, hbl]
  have hJ' := hJ c x n t b ht hI (by omega)
  have hD' := hD c x n t b ht hI (by omega)
  have hH' := hH c x n t b ht hI (by omega)
  rw [judA, if_neg (by omega)] at hJ'
  rw [(dec_eq c x n t b).1] at hD'
  rw [heaA, if_neg (by omega)] at hH'
  have h0' := h0
  obtain ⟨ec, c', n', rfl, rfl, p1, p2, p3, p4, p5⟩ := ask21_cases h0
  obtain ⟨G, g1, g2, g3, g4, g5⟩ := says (t := t) (b := b) h0'
  rw [g1] at hJ'
  have hc0 : (c' : Int) ≠ 0 := by omega
  obtain ⟨T, hT⟩ : ∃ T, T = n' * c' := ⟨_, rfl⟩
  have eT : (n' : Int) * c' = (T : Int) := by rw [hT]; simp
  have q1 : (G : Int) % c' = 0 := by rw [← Int.natCast_emod, g3]; rfl
  have q1' : ((G : Int)).tmod c' = 0 := by rw [Int.tmod_eq_emod_of_nonneg (by omega)]; exact q1
  rw [← hT] at g2 g4 g5 p4
  by_cases he : errD c' x t n' b = 0
  · obtain ⟨r1, r2⟩ := g4 he
    rw [he] at hJ' hD'
    rw [if_pos he] at hH'
    have hIs := hI0 (decL c' x t n' b) (by omega)
    simp only [shA, il, bs, r2] at hJ' hD' hH' hIs
    have hdl : (ks .i32 (decL c' x t n' b)).length = T := by rw [ks_length, r2]
    generalize ks .i32 (decL c' x t n' b) = dl at *
    subst r1
    simp (maxSteps := 4000000) (disch := omega) only [step, stepv, ev, wl, wn, wp, wz, aop, cV, cV1, AV.one, partCells, okW, onlyFr, app, sliceCells, cellsAt, srcA, subA, eqFs, Int.cast_ofNat_Int, simprocAttr, ac_cadenzalaw23_VerdictSays, hk, ot, tt]
    refine callQ.vc hA' ?_
    simp (maxSteps := 4000000) (disch := omega) only [step, stepv, ev, wl, wn, wp, wz, aop, cV, cV1, AV.one, partCells, okW, onlyFr, app, sliceCells, cellsAt, srcA, subA, eqFs, Int.cast_ofNat_Int, simprocAttr, hk, ot, tt]
    refine callQ.vc hQ' ?_
    simp (maxSteps := 4000000) (disch := omega) only [step, stepv, ev, wl, wn, wp, wz, aop, cV, cV1, AV.one, partCells, okW, onlyFr, app, sliceCells, cellsAt, srcA, subA, eqFs, Int.cast_ofNat_Int, simprocAttr, h1, hbl, hk, ot, tt]
    refine callQ.vc hJ' ?_
    simp (maxSteps := 4000000) (disch := omega) only [step, stepv, ev, wl, wn, wp, wz, aop, cV, cV1, AV.one, partCells, okW, onlyFr, app, sliceCells, cellsAt, srcA, subA, eqFs, Int.cast_ofNat_Int, simprocAttr, hk, ot, tt]
    refine callQ.vc hD' ?_
    simp (maxSteps := 4000000) (disch := omega) only [step, stepv, ev, wl, wn, wp, wz, aop, cV, cV1, AV.one, partCells, okW, onlyFr, app, sliceCells, cellsAt, srcA, subA, eqFs, Int.cast_ofNat_Int, simprocAttr, hk, ot, tt]
    refine callQ.vc hH' ?_
    simp (maxSteps := 4000000) (disch := omega) only [step, stepv, ev, wl, wn, wp, wz, aop, cV, cV1, AV.one, partCells, okW, onlyFr, app, sliceCells, cellsAt, srcA, subA, eqFs, Int.cast_ofNat_Int, simprocAttr, eT, hdl, q1, q1', hc0]
    refine callQ.vc hIs ?_
    simp (maxSteps := 4000000) (disch := omega) only [step, stepv, ev, wl, wn, wp, wz, aop, cV, cV1, AV.one, partCells, okW, onlyFr, app, sliceCells, cellsAt, srcA, subA, eqFs, Int.cast_ofNat_Int, simprocAttr]
  · have g5' := g5 he
    rw [if_neg he] at hH'
    have hsl : silL c' n' = List.replicate T 0 := by unfold silL; simp only [Int.toNat_natCast]; rw [hT]
    rw [hsl] at hH'
    have hIs := hI0 (List.replicate T 0) (by simp; omega)
    have er := sil_ks T
    simp only [shA, il, bs, List.length_replicate] at hJ' hD' hH' hIs
    have hzl : (ks .i32 (List.replicate T 0)).length = T := by rw [ks_length]; simp
    have tz : isTL (ks .i32 (List.replicate T 0)) = true := isTL_ks _ _
    generalize (decL c' x t n' b).length = dll at *
    generalize ks .i32 (decL c' x t n' b) = dl at *
    generalize ks .i32 (List.replicate T 0) = Z at *
    generalize errD c' x t n' b = e at *
    rcases Nat.lt_or_ge G T with hlt | hge
    · simp (maxSteps := 4000000) (disch := omega) only [step, stepv, ev, wl, wn, wp, wz, aop, cV, cV1, AV.one, partCells, okW, onlyFr, app, sliceCells, cellsAt, srcA, subA, eqFs, Int.cast_ofNat_Int, simprocAttr, ac_cadenzalaw23_VerdictSays, hk, ot, tt]
      refine callQ.vc hA' ?_
      simp (maxSteps := 4000000) (disch := omega) only [step, stepv, ev, wl, wn, wp, wz, aop, cV, cV1, AV.one, partCells, okW, onlyFr, app, sliceCells, cellsAt, srcA, subA, eqFs, Int.cast_ofNat_Int, simprocAttr, hk, ot, tt]
      refine callQ.vc hQ' ?_
      simp (maxSteps := 4000000) (disch := omega) only [step, stepv, ev, wl, wn, wp, wz, aop, cV, cV1, AV.one, partCells, okW, onlyFr, app, sliceCells, cellsAt, srcA, subA, eqFs, Int.cast_ofNat_Int, simprocAttr, h1, hbl, hk, ot, tt]
      refine callQ.vc hJ' ?_
      simp (maxSteps := 4000000) (disch := omega) only [step, stepv, ev, wl, wn, wp, wz, aop, cV, cV1, AV.one, partCells, okW, onlyFr, app, sliceCells, cellsAt, srcA, subA, eqFs, Int.cast_ofNat_Int, simprocAttr, hk, ot, tt]
      refine callQ.vc hD' ?_
      simp (maxSteps := 4000000) (disch := omega) only [step, stepv, ev, wl, wn, wp, wz, aop, cV, cV1, AV.one, partCells, okW, onlyFr, app, sliceCells, cellsAt, srcA, subA, eqFs, Int.cast_ofNat_Int, simprocAttr, hk, ot, tt]
      refine callQ.vc hH' ?_
      simp (maxSteps := 4000000) (disch := omega) only [step, stepv, ev, wl, wn, wp, wz, aop, cV, cV1, AV.one, partCells, okW, onlyFr, app, sliceCells, cellsAt, srcA, subA, eqFs, Int.cast_ofNat_Int, simprocAttr, he, eT, hzl, q1, q1', hc0, er]
      refine callQ.still 1 [3] hIs (by simp [frzN, frzK, frzL, frzV, frzL_T _ tz]) ?_
      simp (maxSteps := 4000000) (disch := omega) only [step, stepv, ev, wl, wn, wp, wz, aop, cV, cV1, AV.one, partCells, okW, onlyFr, app, sliceCells, cellsAt, srcA, subA, eqFs, Int.cast_ofNat_Int, simprocAttr]
    · have h12 : e = 12 := by omega
      subst h12
      simp (maxSteps := 4000000) (disch := omega) only [step, stepv, ev, wl, wn, wp, wz, aop, cV, cV1, AV.one, partCells, okW, onlyFr, app, sliceCells, cellsAt, srcA, subA, eqFs, Int.cast_ofNat_Int, simprocAttr, ac_cadenzalaw23_VerdictSays, hk, ot, tt]
      refine callQ.vc hA' ?_
      simp (maxSteps := 4000000) (disch := omega) only [step, stepv, ev, wl, wn, wp, wz, aop, cV, cV1, AV.one, partCells, okW, onlyFr, app, sliceCells, cellsAt, srcA, subA, eqFs, Int.cast_ofNat_Int, simprocAttr, hk, ot, tt]
      refine callQ.vc hQ' ?_
      simp (maxSteps := 4000000) (disch := omega) only [step, stepv, ev, wl, wn, wp, wz, aop, cV, cV1, AV.one, partCells, okW, onlyFr, app, sliceCells, cellsAt, srcA, subA, eqFs, Int.cast_ofNat_Int, simprocAttr, h1, hbl, hk, ot, tt]
      refine callQ.vc hJ' ?_
      simp (maxSteps := 4000000) (disch := omega) only [step, stepv, ev, wl, wn, wp, wz, aop, cV, cV1, AV.one, partCells, okW, onlyFr, app, sliceCells, cellsAt, srcA, subA, eqFs, Int.cast_ofNat_Int, simprocAttr, hk, ot, tt]
      refine callQ.vc hD' ?_
      simp (maxSteps := 4000000) (disch := omega) only [step, stepv, ev, wl, wn, wp, wz, aop, cV, cV1, AV.one, partCells, okW, onlyFr, app, sliceCells, cellsAt, srcA, subA, eqFs, Int.cast_ofNat_Int, simprocAttr, hk, ot, tt]
      refine callQ.vc hH' ?_
      simp (maxSteps := 4000000) (disch := omega) only [step, stepv, ev, wl, wn, wp, wz, aop, cV, cV1, AV.one, partCells, okW, onlyFr, app, sliceCells, cellsAt, srcA, subA, eqFs, Int.cast_ofNat_Int, simprocAttr, eT, hzl, q1, q1', hc0, er]
      refine callQ.still 1 [3] hIs (by simp [frzN, frzK, frzL, frzV, frzL_T _ tz]) ?_
      simp (maxSteps := 4000000) (disch := omega) only [step, stepv, ev, wl, wn, wp, wz, aop, cV, cV1, AV.one, partCells, okW, onlyFr, app, sliceCells, cellsAt, srcA, subA, eqFs, Int.cast_ofNat_Int, simprocAttr]

/-! ### Other numbers of moments, cut frames -/

end Go.Am
