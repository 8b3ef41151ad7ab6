/- What the functions that the law reaches return, for every program that has their code; the conditions stand in each statement. -/
import Derived.Test.YtkngajpinabacaaEnframeFirstL1
set_option linter.unusedSectionVars false
set_option linter.unusedSimpArgs false
set_option linter.unusedVariables false
namespace Go.Am
open Go.RowKit

/-! ### Bits are put behind bits, one by one: enframe -/

theorem Low.putB {ob : List Ob} (h : Low ob.length ob) {t t0 t2 o p N V N' n C : Nat} (ho : o < ob.length) : Low (ob.length + 1) (upd2 ob o p (bY t0 N V) (bO t o N') ++ [⟨t2, 2, 1, [.list (nB n) (u8 (leB C (nB n))), .int .i64 n], 0⟩]) :=
  ((h.put ho).mono (by omega)).append (Low.cons (by simp [lowL, lowV, lowL_D _ (isDL_leB _ _)]) Low.nil)

set_option maxHeartbeats 1000000 in
theorem enframe_put {P : Prg} {f t0 t1 : Nat} (bd : Body P f 64 [] (ac_enframe_put t0 t1)) {ob : List Ob} {t p o N V C n : Nat} (hp : ob[p]? = some (bO t o N)) (ho : ob[o]? = some (bY t1 N V)) (hpo : p ≠ o) (hV : V < 2 ^ N) (hC : C < 2 ^ n) (hn : n ≤ 1000) (hN : N + n ≤ 400000) (hfz : Low ob.length ob)
    {K : AV → List Ob → Prop} (hK : K (.tup []) (upd2 ob o p (bY t1 (N + n) (V + 2 ^ N * C)) (bO t o (N + n)))) : ACall P f [.ref p 1 0, bA n C] ob K := by
  have hol : o < ob.length := (List.getElem?_eq_some_iff.1 ho).1
  have hpl : p < ob.length := (List.getElem?_eq_some_iff.1 hp).1
  refine ACall.low (ACall.of_body bd (by simp) ?_)
  have g0 : ∀ x y J, (upd2 ob o p x y ++ J)[p]? = some y := fun x y J => by rw [List.getElem?_append_left (by rw [upd2_len]; exact hpl)]; exact upd2_gp hpl
  have g1 : ∀ x y J, (upd2 ob o p x y ++ J)[o]? = some x := fun x y J => by rw [List.getElem?_append_left (by rw [upd2_len]; exact hol)]; exact upd2_go hol hpo
  have g2 : ∀ x y J y', (upd2 ob o p x y ++ J).set p y' = upd2 ob o p x y' ++ J := fun x y J y' => by rw [List.set_append_left _ _ (by rw [upd2_len]; exact hpl), upd2_p]
  have g3 : ∀ x y J x', (upd2 ob o p x y ++ J).set o x' = upd2 ob o p x' y ++ J := fun x y J x' => by rw [List.set_append_left _ _ (by rw [upd2_len]; exact hol), upd2_o hpo]
  have g4 : ∀ x y (J : List Ob), (upd2 ob o p x y ++ J)[ob.length]? = J[0]? := fun x y J => by rw [List.getElem?_append_right (by rw [upd2_len]; exact Nat.le_refl _), upd2_len, Nat.sub_self]
  have g5 : ∀ x y (J : List Ob), (upd2 ob o p x y ++ J)[ob.length + 1]? = J[1]? := fun x y J => by rw [List.getElem?_append_right (by rw [upd2_len]; omega), upd2_len, Nat.add_sub_cancel_left]
  have ln : ∀ x y, (upd2 ob o p x y).length = ob.length := fun x y => upd2_len
  have hs : ob = upd2 ob o p (bY t1 N V) (bO t o N) := (upd2_same ho hp hpo).symm
  simp (maxSteps := 4000000) (disch := omega) only [step, stepv, ev, wl, wn, wp, wz, aop, cV, cV1, AV.one, partCells, okW, onlyFr, app, sliceCells, cellsAt, srcA, subA, eqFs, Int.cast_ofNat_Int, simprocAttr, ac_enframe_put, bA, getJ0]
  refine ALoop.by (ι := Nat) (fun j => ⟨[(8, .int .i64 j), (7, .int .i64 n), (3, .ref ob.length 1 0), (0, .ref p 1 0)], upd2 ob o p (bY t1 (N + j) (V + 2 ^ N * (C % 2 ^ j))) (bO t o (N + j)) ++ [⟨t0, 2, 1, [.list (nB n) (u8 (leB C (nB n))), .int .i64 n], 0⟩]⟩) (fun j => j ≤ n) (fun j => n - j) 0 ?_ (by omega) ?_
  · rw [Nat.add_zero, Nat.pow_zero, Nat.mod_one, Nat.mul_zero, Nat.add_zero, ← hs]
    exact Le.slots (by simp [Am.look])
  intro j hj
  by_cases hlt : j < n
  · obtain ⟨M, hM⟩ : ∃ M, M = N + j := ⟨_, rfl⟩
    obtain ⟨i, hi⟩ : ∃ i, i = M / 8 := ⟨_, rfl⟩
    obtain ⟨a, ha⟩ : ∃ a, a = M % 8 := ⟨_, rfl⟩
    obtain ⟨q, hq⟩ : ∃ q, q = j / 8 := ⟨_, rfl⟩
    obtain ⟨r, hr⟩ : ∃ r, r = j % 8 := ⟨_, rfl⟩
    obtain ⟨b, hb0⟩ : ∃ b, b = C / 2 ^ j % 2 := ⟨_, rfl⟩
    have hM8 : M = 8 * i + a := by omega
    have hj8 : 8 * q + r = j := by omega
    have hb : b < 2 := by rw [hb0]; exact Nat.mod_lt _ (by decide)
    have hW : V + 2 ^ N * (C % 2 ^ j) < 2 ^ M := by
      rw [hM]
      exact lt_append hV (Nat.mod_lt _ (Nat.pow_pos (by omega)))
    have hstep := putN (V := V) (N := N) (v := C) (j := j) (r := 1)
    rw [← hM, Nat.pow_one, ← hb0] at hstep
    have hat := leB_at (V := C) (k := nB n) (i := q) (by unfold nB; omega)
    have hbit := bit_at C q r (by omega)
    rw [hj8, ← hb0] at hbit
    have hby : C / 256 ^ q % 256 < 256 := Nat.mod_lt _ (by decide)
    have s1 : shiftA false .u8 ((C / 256 ^ q % 256 : Nat) : Int) (r : Int) = some (.int .u8 ((C / 256 ^ q % 256 / 2 ^ r : Nat) : Int)) := shrK (K := .u8) (by show r ≤ 8; omega)
    have hle : C / 256 ^ q % 256 / 2 ^ r ≤ C / 256 ^ q % 256 := Nat.div_le_self _ _
    have s2 : IntKind.u8.wrap (BitVec.ofInt IntKind.u8.bits ((C / 256 ^ q % 256 / 2 ^ r : Nat) : Int) &&& BitVec.ofInt IntKind.u8.bits ((1 : Nat) : Int)).toNat = ((b : Nat) : Int) := by
      rw [andK (K := .u8) rfl (by show _ < 256; omega) (by decide), Nat.and_one_is_mod, hbit]
    have s2' : IntKind.u8.wrap (BitVec.ofInt IntKind.u8.bits ((C / 256 ^ q % 256 / 2 ^ r : Nat) : Int) &&& BitVec.ofInt IntKind.u8.bits 1).toNat = ((b : Nat) : Int) := s2
    generalize C / 256 ^ q % 256 / 2 ^ r = y1 at *
    generalize C / 256 ^ q % 256 = y0 at *
    rw [← hM]
    have hq1 : (j : Int) / 8 = (q : Int) := by omega
    have hr1 : (j : Int) % 8 = (r : Int) := by omega
    have hi1 : (M : Int) / 8 = (i : Int) := by omega
    have ha1 : (M : Int) % 8 = (a : Int) := by omega
    have hnq : q < nB n := by unfold nB; omega
    generalize V + 2 ^ N * (C % 2 ^ j) = W at *
    generalize hWW : V + 2 ^ N * (C % 2 ^ (j + 1)) = W' at *
    have h2a : 2 ^ a ≤ 2 ^ 7 := Nat.pow_le_pow_right (by omega) (by omega)
    have hpos : 0 < 2 ^ a := Nat.pow_pos (by omega)
    obtain ⟨l1, l2⟩ := bits_last (V := W) (i := i) (at_ := a) (by rw [← hM8]; exact hW) (by omega)
    obtain ⟨b1, b2, _⟩ := bits_put_plain (V := W) (i := i) (at_ := a) (w := b) (r := 1) (by rw [← hM8]; exact hW) (by omega) (by omega)
    rw [← hM8, ← hstep] at b1
    have hyb : W / 256 ^ i < 256 := by omega
    have hyb2 : W / 256 ^ i + 2 ^ a * b < 256 := by
      have : 2 ^ (a + 1) ≤ 2 ^ 8 := Nat.pow_le_pow_right (by omega) (by omega)
      omega
    have hca : b * 2 ^ a < 2 ^ 8 := by
      rcases (by omega : b = 0 ∨ b = 1) with rfl | rfl <;> omega
    have hu : ∀ y, y < 256 → u8 [UInt8.ofNat y] = [.int .u8 (y : Int)] := fun y hy => by simp [u8]; omega
    have e8 : IntKind.u8.wrap (BitVec.ofInt IntKind.u8.bits ((W / 256 ^ i : Nat) : Int) ||| BitVec.ofInt IntKind.u8.bits ((b * 2 ^ a : Nat) : Int)).toNat = ((W / 256 ^ i + 2 ^ a * b : Nat) : Int) := by
      rw [orK (K := .u8) rfl hyb hca, or_add l2, Nat.mul_comm]
    have e7 : shiftA true .u8 (b : Int) (a : Int) = some (.int .u8 ((b * 2 ^ a : Nat) : Int)) := shlK rfl (by show a ≤ 8; omega) hca
    have hnB : nB (M + 1) = i + 1 := by unfold nB; omega
    have hcell : u8 (leB W' (i + 1)) = u8 (leB W i) ++ [.int .u8 ((W / 256 ^ i + 2 ^ a * b : Nat) : Int)] := by
      rw [b1, show u8 (leB W i ++ [UInt8.ofNat (W / 256 ^ i + 2 ^ a * b)]) = u8 (leB W i) ++ u8 [UInt8.ofNat (W / 256 ^ i + 2 ^ a * b)] by simp [u8]]
      rw [hu _ hyb2]
    have hlen : (u8 (leB W i)).length = i := by simp [u8, leB_length]
    generalize W / 256 ^ i + 2 ^ a * b = y' at *
    generalize b * 2 ^ a = ca at *
    have d1 : ∀ z : AV, (u8 (leB W i) ++ [z]).drop i = [z] := fun z => by rw [List.drop_left' hlen]
    have d2 : ∀ z : AV, (u8 (leB W i) ++ [z]).take i = u8 (leB W i) := fun z => by rw [List.take_left' hlen]
    have d3 : ∀ z : AV, (u8 (leB W i) ++ [z]).drop (i + 1) = [] := fun z => List.drop_of_length_le (by simp [hlen])
    have el : (⟨t1, 1, i + 1, u8 (leB W i) ++ [.int .u8 (y' : Int)], 0⟩ : Ob) = bY t1 (M + 1) W' := by rw [bY, hnB, hcell]
    have er : (⟨t, 2, 1, [.own o (i + 1), .int .i64 ((M : Int) + 1)], 0⟩ : Ob) = bO t o (M + 1) := by rw [bO, hnB, Int.natCast_add]; rfl
    have hMr : N + (j + 1) = M + 1 := by omega
    have hcl : (u8 (leB C (nB n))).length = nB n := by simp [u8, leB_length]
    by_cases h0 : a = 0
    · subst h0
      have hnM : nB M = i := by unfold nB; omega
      have hW0 : W / 256 ^ i = 0 := by
        have := l2
        rw [Nat.pow_zero] at this
        exact Nat.lt_one_iff.1 this
      rw [hW0] at e8
      have e8' : IntKind.u8.wrap (BitVec.ofInt IntKind.u8.bits 0 ||| BitVec.ofInt IntKind.u8.bits (ca : Int)).toNat = (y' : Int) := e8
      have e7' : shiftA true .u8 (b : Int) 0 = some (.int .u8 (ca : Int)) := e7
      have ha1' : (M : Int) % 8 = 0 := ha1
      simp (maxSteps := 4000000) (disch := omega) only [step, stepv, ev, wl, wn, wp, wz, aop, cV, cV1, AV.one, partCells, okW, onlyFr, app, sliceCells, cellsAt, srcA, subA, eqFs, Int.cast_ofNat_Int, simprocAttr, bO, bY, g0, g1, g2, g3, g4, g5, ln, hnM, hlen, hcl, hat, s1, s2', e7', e8', hq1, hr1, hi1, ha1', d1, d2, d3, List.append_assoc, List.cons_append, List.nil_append]
      refine ⟨j + 1, by omega, by omega, ?_⟩
      show Le ob.length _ ⟨[(8, .int .i64 ((j + 1 : Nat) : Int)), (7, .int .i64 n), (3, .ref ob.length 1 0), (0, .ref p 1 0)], upd2 ob o p (bY t1 (N + (j + 1)) (V + 2 ^ N * (C % 2 ^ (j + 1)))) (bO t o (N + (j + 1))) ++ [⟨t0, 2, 1, [.list (nB n) (u8 (leB C (nB n))), .int .i64 n], 0⟩]⟩
      rw [hWW, hMr, el, er, List.append_cons]
      have hl : (upd2 ob o p (bY t1 (M + 1) W') (bO t o (M + 1)) ++ [⟨t0, 2, 1, [.list (nB n) (u8 (leB C (nB n))), .int .i64 n], 0⟩] : List Ob).length = ob.length + 1 := by simp [ln]
      exact Le.low (by rw [hl]; omega) (by rw [hl]; exact hfz.putB hol) (by rw [hl]; simp [Am.look, lowV, Nat.lt_succ_of_lt hpl])
    · have hnM : nB M = i + 1 := by unfold nB; omega
      have l3 : u8 (leB W (i + 1)) = u8 (leB W i) ++ [.int .u8 ((W / 256 ^ i : Nat) : Int)] := by
        rw [l1, show u8 (leB W i ++ [UInt8.ofNat (W / 256 ^ i)]) = u8 (leB W i) ++ u8 [UInt8.ofNat (W / 256 ^ i)] by simp [u8], hu _ hyb]
      have ha0 : (a : Int) ≠ 0 := by omega
      generalize W / 256 ^ i = y at *
      simp (maxSteps := 4000000) (disch := omega) only [step, stepv, ev, wl, wn, wp, wz, aop, cV, cV1, AV.one, partCells, okW, onlyFr, app, sliceCells, cellsAt, srcA, subA, eqFs, Int.cast_ofNat_Int, simprocAttr, bO, bY, g0, g1, g2, g3, g4, g5, ln, hnM, hlen, hcl, l3, hat, s1, s2', e7, e8, hq1, hr1, hi1, ha1, d1, d2, d3, List.append_assoc, List.cons_append, List.nil_append]
      refine ⟨j + 1, by omega, by omega, ?_⟩
      show Le ob.length _ ⟨[(8, .int .i64 ((j + 1 : Nat) : Int)), (7, .int .i64 n), (3, .ref ob.length 1 0), (0, .ref p 1 0)], upd2 ob o p (bY t1 (N + (j + 1)) (V + 2 ^ N * (C % 2 ^ (j + 1)))) (bO t o (N + (j + 1))) ++ [⟨t0, 2, 1, [.list (nB n) (u8 (leB C (nB n))), .int .i64 n], 0⟩]⟩
      rw [hWW, hMr, el, er]
      exact Le.slots (by simp [Am.look])
  · obtain rfl : j = n := by omega
    rw [Nat.mod_eq_of_lt hC]
    simp (maxSteps := 4000000) (disch := omega) only [step, stepv, ev, wl, wn, wp, wz, aop, cV, cV1, AV.one, partCells, okW, onlyFr, app, sliceCells, cellsAt, srcA, subA, eqFs, Int.cast_ofNat_Int, simprocAttr]
    exact ⟨upd2 ob o p (bY t1 (N + j) (V + 2 ^ N * C)) (bO t o (N + j)), _, rfl, by rw [ln]; exact Nat.le_refl _, by rw [ln]; exact hfz.put hol, by rfl, hK⟩

end Go.Am

namespace Go.Am
open Go.RowKit

/-! ### What is mixed is unmixed, what is stepped is stepped back (plain) -/

theorem seg_div {c q r : Nat} (h : r < c) : (c * q + r) / c = q ∧ (c * q + r) % c = r := by
  refine ⟨?_, by rw [Nat.mul_add_mod, Nat.mod_eq_of_lt h]⟩
  rw [Nat.mul_add_div (by omega), Nat.div_eq_of_lt h, Nat.add_zero]
theorem mixAll_getD {c : Nat} {l : List Int} {j : Nat} (h : j < l.length) : (mixAll c l).getD j 0 = mixV c l j := by rw [mixAll, map_getD h]
theorem w32_mem {l : List Int} (h : I32 l) (j : Nat) : w32 (l.getD j 0) = l.getD j 0 := w32_id (getD_mem h j).1 (getD_mem h j).2

theorem cfwdY_rng (c : Chan) (x : Int) : -2147483648 ≤ cfwdY c x ∧ cfwdY c x ≤ 2147483647 := w32_rng _

theorem col_at {k c n : Nat} (hk : k < c) : (k + n * c) % c = k ∧ (k + n * c) / c = n := by
  rw [Nat.add_comm, Nat.mul_comm]
  exact ⟨(seg_div hk).2, (seg_div hk).1⟩
theorem col_lt {c j m : Nat} (hj : j < m) : ∀ i, i < j / c → j % c + i * c < m := by
  intro i hi
  have h1 := Nat.div_add_mod j c
  have h2 := Nat.mul_le_mul_right c (show i ≤ j / c by omega)
  rw [Nat.mul_comm (j / c)] at h2
  omega

end Go.Am

namespace Go.Am
open Go.RowKit

/-! ### Frames: coded and decoded (plain) -/

def valE (c : Nat) (x : Int) (t l : List Int) : List Nat := (outT c (mixAll c l) (newC x t) l.length).map Int.toNat
def encB (c : Nat) (x : Int) (t l : List Int) : List UInt8 := sealB (frmB c (valE c x t l))

theorem outT_U32 (c : Nat) (L : List Int) (z : Chan) (a : Nat) : U32 (outT c L z a) := by
  intro y hy
  simp only [outT, List.mem_map] at hy
  obtain ⟨j, _, rfl⟩ := hy
  exact foldN_rng (cfwdY_rng _ _)
theorem iL_toNat {v : List Int} (h : U32 v) : iL (v.map Int.toNat) = v := by
  unfold iL
  rw [List.map_map]
  conv => rhs; rw [← List.map_id v]
  apply List.map_congr_left
  intro y hy
  have := h y hy
  simp; omega
theorem N32_toNat {v : List Int} (h : U32 v) : N32 (v.map Int.toNat) := by
  intro y hy
  simp only [List.mem_map] at hy
  obtain ⟨z, hz, rfl⟩ := hy
  have := h z hz
  omega
theorem valE_len (c : Nat) (x : Int) (t l : List Int) : (valE c x t l).length = l.length := by simp [valE, outT_len]
theorem valE_ok (c : Nat) (x : Int) (t l : List Int) : N32 (valE c x t l) := N32_toNat (outT_U32 _ _ _ _)
theorem iL_valE (c : Nat) (x : Int) (t l : List Int) : iL (valE c x t l) = outT c (mixAll c l) (newC x t) l.length := iL_toNat (outT_U32 _ _ _ _)

theorem ask_all {c x : Int} {l : List Int} (hI : I32 l) (h : askN c x l = 0) : ∃ k m : Nat, c = k ∧ okM k l ∧ half x ≠ 0 ∧ eCheck c x = 0 ∧ checkN x l = 0 ∧ l.length = m * k ∧ 1 ≤ m ∧ (l.length : Int) / c = m ∧ ask21 c x ((l.length : Int) / c) = 0 := by
  obtain ⟨k, rfl, hk, hx⟩ := ask_okM hI h
  have hk' := hk
  obtain ⟨h1, h2, h3, h4, h5, _⟩ := hk'
  have e1 : eCheck k x = 0 := by
    rcases eCheck_cases k x with q | ⟨q, _⟩
    · rw [ask_err q] at h; omega
    · exact q
  have e2 : checkN x l = 0 := by
    rcases Int.decEq (checkN x l) 0 with q | q
    · rw [ask_chk e1 q] at h; exact absurd h q
    · exact q
  have e3 : l.length = l.length / k * k := by have := Nat.div_add_mod l.length k; rw [Nat.mul_comm] at this; omega
  have e4 : 1 ≤ l.length / k := by
    rcases Nat.eq_zero_or_pos (l.length / k) with q | q
    · rw [q] at e3; omega
    · exact q
  have e5 : (l.length : Int) / (k : Int) = ((l.length / k : Nat) : Int) := by rw [Int.natCast_ediv]
  refine ⟨k, l.length / k, rfl, hk, hx, e1, e2, e3, e4, e5, ?_⟩
  have e6 : l.length / k ≤ 4000 / k := Nat.div_le_div_right h4
  have e7 : (4000 : Int) / (k : Int) = ((4000 / k : Nat) : Int) := by rw [Int.natCast_ediv]; rfl
  unfold ask21
  rw [if_neg (by omega), e5, e7, if_neg (by omega), if_neg (by omega)]

end Go.Am

namespace Go.Am
open Go.RowKit

/-! ### First states; slices of bytes joined -/

def S_eStates (P : Prg) (f : Nat) : Prop := VC P f [] (.agg (sixD fun _ => startM))
theorem enframe_states {P : Prg} {f fS t0 : Nat} (bd : Body P f 11 [.cell 0 t0] (ac_enframe_states fS t0)) (hS : S_Start P fS) (ht : aggO P t0 = some (some 24)) : S_eStates P f := by
  refine VC.of_acall rfl rfl (ACall.of_body bd (by simp) ?_)
  simp only [S_Start, startM, dlA, dlC] at hS
  simp (maxSteps := 4000000) (disch := omega) only [step, stepv, ev, wl, wn, wp, wz, aop, cV, cV1, AV.one, partCells, okW, onlyFr, app, sliceCells, cellsAt, srcA, subA, eqFs, Int.cast_ofNat_Int, simprocAttr, ac_enframe_states]
  refine ALoop.by (ι := Nat) (fun i => ⟨[(3, .int .i64 i), (1, .ref 1 1 0), (0, .ref 0 1 0)],
      [⟨t0, 24, 1, sixD (fun _ => ⟨0, 0, 0, 0⟩), 0⟩, ⟨t0, 24, 1, sixD (fun j => if j < i then startM else ⟨0, 0, 0, 0⟩), 0⟩]⟩) (fun i => i ≤ 6) (fun i => 6 - i) 0 (Le.slots (by simp [Am.look])) (by omega) ?_
  intro i hi
  by_cases hlt : i < 6
  · have e1 := sixD_set (fun j => if j < i then startM else ⟨0, 0, 0, 0⟩) hlt startM
    have e2 : updD (fun j => if j < i then startM else ⟨0, 0, 0, 0⟩) i startM = fun j => if j < i + 1 then startM else ⟨0, 0, 0, 0⟩ := by
      funext j
      unfold updD
      by_cases h1 : j = i
      · subst h1; simp
      · by_cases h2 : j < i
        · simp [h1, h2, show j < i + 1 by omega]
        · simp [h1, h2, show ¬ j < i + 1 by omega]
    rw [e2] at e1
    have e3 := sixD_len (fun j => if j < i then startM else ⟨0, 0, 0, 0⟩)
    simp (maxSteps := 4000000) (disch := omega) only [step, stepv, ev, wl, wn, wp, wz, aop, cV, cV1, AV.one, partCells, okW, onlyFr, app, sliceCells, cellsAt, srcA, subA, eqFs, Int.cast_ofNat_Int, simprocAttr]
    refine callQ.vc hS ?_
    generalize hF : sixD (fun j => if j < i then startM else ⟨0, 0, 0, 0⟩) = F at *
    have e1' : F.take (i * 4) ++ [.int .i64 10, .int .i64 10, .int .u64 16384, .int .u64 16384] ++ F.drop (i * 4 + 4) = sixD fun j => if j < i + 1 then startM else ⟨0, 0, 0, 0⟩ := e1
    generalize sixD (fun _ => (⟨0, 0, 0, 0⟩ : Dl)) = Z
    simp (maxSteps := 4000000) (disch := omega) only [step, stepv, ev, wl, wn, wp, wz, aop, cV, cV1, AV.one, partCells, okW, onlyFr, app, sliceCells, cellsAt, srcA, subA, eqFs, Int.cast_ofNat_Int, simprocAttr, e3]
    refine ⟨i + 1, by omega, by omega, ?_⟩
    rw [e1']
    exact Le.slots (by simp [Am.look])
  obtain rfl : i = 6 := by omega
  have z1 : sixD (fun j => if j < 6 then startM else ⟨0, 0, 0, 0⟩) = sixD (fun _ => startM) := rfl
  have z2 := sixD_len fun _ => startM
  have z3 := sixD_len fun _ => (⟨0, 0, 0, 0⟩ : Dl)
  rw [z1]
  have z4 : (sixD fun _ => startM).all AV.one = true := rfl
  have z5 : (sixD fun _ => startM).take 24 = sixD fun _ => startM := rfl
  have z6 : (sixD fun _ => (⟨0, 0, 0, 0⟩ : Dl)).drop 24 = [] := rfl
  generalize (sixD fun _ => (⟨0, 0, 0, 0⟩ : Dl)) = Z at *
  generalize (sixD fun _ => startM) = S at *
  simp (maxSteps := 4000000) (disch := omega) only [step, stepv, ev, wl, wn, wp, wz, aop, cV, cV1, AV.one, partCells, okW, onlyFr, app, sliceCells, cellsAt, srcA, subA, eqFs, Int.cast_ofNat_Int, simprocAttr, resA, ht, oneOf, z2, z3, z4, z5, z6, List.take_zero, List.nil_append, List.append_nil]

def partsA (L : List (List UInt8)) : AV := .list L.length (L.map bs)
def S_Concat (P : Prg) (f : Nat) : Prop := ∀ L : List (List UInt8), L.length ≤ 1000000 → 0 < L.flatten.length → L.flatten.length ≤ 1000000 → VC P f [partsA L] (bs L.flatten)
def S_GrowNil (t : Nat) (P : Prg) (f : Nat) : Prop := ∀ (ob : List Ob) (n : Nat) (z : Bool) (K : AV → List Ob → Prop), 0 < n → n ≤ 140737488355328 → K (.own ob.length 0) (ob ++ [⟨t, 1, 0, [], 0⟩]) → ACall P f [.emp z, .int .i64 n] ob K
theorem grow_nil {P : Prg} {f t : Nat} {ρ : Go.Shelf.Ren} (L : Go.Proofs.Lays8.n4 P.prog ρ) (hf : ρ.f 4 = f) (ht : ρ.t 25 = t) (h25 : (P.prog.info? t).map (fun i => (i.zero, i.size, i.bytes)) = some (some (.int .u8 0), 1, 1)) : S_GrowNil t P f := by
  intro ob n z K h1 h2 hK
  subst hf; subst ht
  exact ACall.grow_nil L h25 h1 h2 hK
theorem flat_take {L : List (List UInt8)} {k : Nat} (h : k < L.length) : (L.take (k + 1)).flatten = (L.take k).flatten ++ L.getD k [] := by
  rw [List.take_succ_eq_append_getElem h, List.flatten_append, List.getD_eq_getElem?_getD, List.getElem?_eq_getElem h]
  simp
theorem flat_le (L : List (List UInt8)) (k : Nat) : (L.take k).flatten.length ≤ L.flatten.length := by
  conv => rhs; rw [← List.take_append_drop k L, List.flatten_append, List.length_append]
  omega
theorem slices_Concat {P : Prg} {f fG t0 : Nat} (bd : Body P f 36 [.tmp 2] (ac_slices_Concat_byte_byte fG t0)) (hG : S_GrowNil t0 P fG) : S_Concat P f := by
  intro L hL h0 h1
  refine VC.of_walk 1 (by simp [isDL, isD, partsA, isDL_bss]) (isD_bs _) (ACall.of_body bd (by simp) ?_)
  have hat : ∀ k, k < L.length → (L.map bs).drop k = bs (L.getD k []) :: (L.map bs).drop (k + 1) := fun k hk => by
    rw [List.drop_eq_getElem_cons (by simpa using hk)]
    simp [List.getD_eq_getElem?_getD, List.getElem?_eq_getElem hk]
  have hml : (L.map bs).length = L.length := by simp
  simp only [bs] at hat
  simp (maxSteps := 4000000) (disch := omega) only [step, stepv, ev, wl, wn, wp, wz, aop, cV, cV1, AV.one, partCells, okW, onlyFr, app, sliceCells, cellsAt, srcA, subA, eqFs, Int.cast_ofNat_Int, simprocAttr, ac_slices_Concat_byte_byte, partsA]
  refine ALoop.by (ι := Nat) (fun k => ⟨[(11, .int .i64 k), (10, .int .i64 L.length), (9, .list L.length (L.map bs)), (3, .int .i64 (L.take k).flatten.length), (0, .list L.length (L.map bs))], []⟩) (fun k => k ≤ L.length) (fun k => L.length - k) 0 (Le.slots (by simp [Am.look])) (by omega) ?_
  intro k hk
  by_cases hlt : k < L.length
  · have ha := hat k hlt
    have hf := flat_take hlt
    have hle := flat_le L (k + 1)
    rw [hf, List.length_append] at hle
    have hl : ((L.take (k + 1)).flatten.length : Int) = (L.take k).flatten.length + (L.getD k []).length := by rw [hf]; simp
    generalize (L.take k).flatten.length = s at *
    generalize L.getD k [] = x at *
    simp (maxSteps := 4000000) (disch := omega) only [step, stepv, ev, wl, wn, wp, wz, aop, cV, cV1, AV.one, partCells, okW, onlyFr, app, sliceCells, cellsAt, srcA, subA, eqFs, Int.cast_ofNat_Int, simprocAttr, ha, hml]
    exact ⟨k + 1, by omega, by omega, by simp only [hl]; exact Le.slots (by simp [Am.look])⟩
  obtain rfl : k = L.length := by omega
  rw [List.take_length]
  have hG' := fun K hK => hG [] L.flatten.length true K h0 (by omega) hK
  simp (maxSteps := 4000000) (disch := omega) only [step, stepv, ev, wl, wn, wp, wz, aop, cV, cV1, AV.one, partCells, okW, onlyFr, app, sliceCells, cellsAt, srcA, subA, eqFs, Int.cast_ofNat_Int, simprocAttr]
  refine hG' _ ?_
  simp (maxSteps := 4000000) (disch := omega) only [step, stepv, ev, wl, wn, wp, wz, aop, cV, cV1, AV.one, partCells, okW, onlyFr, app, sliceCells, cellsAt, srcA, subA, eqFs, Int.cast_ofNat_Int, simprocAttr]
  refine ALoop.by (ι := Nat) (fun k => ⟨[(27, .int .i64 k), (26, .int .i64 L.length), (25, .list L.length (L.map bs)), (6, .own 0 (L.take k).flatten.length)], [⟨t0, 1, (L.take k).flatten.length, u8 (L.take k).flatten, 0⟩]⟩) (fun k => k ≤ L.length) (fun k => L.length - k) 0 (Le.slots (by simp [Am.look])) (by omega) ?_
  intro k hk
  by_cases hlt : k < L.length
  · have ha := hat k hlt
    have hf := flat_take hlt
    have hle := flat_le L (k + 1)
    rw [hf, List.length_append] at hle
    have hl : (L.take (k + 1)).flatten.length = (L.take k).flatten.length + (L.getD k []).length := by rw [hf]; simp
    have hu : u8 (L.take (k + 1)).flatten = u8 (L.take k).flatten ++ u8 (L.getD k []) := by rw [hf, u8_append]
    have hc : (u8 (L.take k).flatten).length = (L.take k).flatten.length := u8_length _
    have hx : (u8 (L.getD k [])).length = (L.getD k []).length := u8_length _
    generalize u8 (L.take k).flatten = cs at *
    generalize (L.take k).flatten.length = s at *
    generalize u8 (L.getD k []) = us at *
    generalize (L.getD k []).length = xl at *
    simp (maxSteps := 4000000) (disch := omega) only [step, stepv, ev, wl, wn, wp, wz, aop, cV, cV1, AV.one, partCells, okW, onlyFr, app, sliceCells, cellsAt, srcA, subA, eqFs, Int.cast_ofNat_Int, simprocAttr, ha, hml, hc, hx]
    exact ⟨k + 1, by omega, by omega, by rw [hl, hu]; exact Le.slots (by simp [Am.look])⟩
  obtain rfl : k = L.length := by omega
  rw [List.take_length]
  simp (maxSteps := 4000000) (disch := omega) only [step, stepv, ev, wl, wn, wp, wz, aop, cV, cV1, AV.one, partCells, okW, onlyFr, app, sliceCells, cellsAt, srcA, subA, eqFs, Int.cast_ofNat_Int, simprocAttr]
  simp [frzN, frzK, frzL, frzV, frzL_T _ (isT_u8 _), bs]

end Go.Am

namespace Go.Am
open Go.RowKit

/-! ### Frames are coded: Encode, Length -/

theorem u32L_valE (c : Nat) (x : Int) (t l : List Int) : u32L (outT c (mixAll c l) (newC x t) l.length) = .list l.length (ks .u32 ((valE c x t l).map fun n : Nat => (n : Int))) := by
  have := iL_valE c x t l
  unfold iL at this
  rw [this, u32L, outT_len]
theorem upd_chan {c i : Nat} {v : List Nat} (hc : 1 ≤ c) (hi : i < v.length) : updD (fun j => if j < c then chanM c j (v.take i) else startM) (i % c) (learnM (chanM c (i % c) (v.take i)) (v.getD i 0)) = fun j => if j < c then chanM c j (v.take (i + 1)) else startM := by
  have ht : v.take (i + 1) = v.take i ++ [v.getD i 0] := by
    rw [List.take_succ_eq_append_getElem hi]
    simp [List.getD_eq_getElem?_getD, List.getElem?_eq_getElem hi]
  have hl : (v.take i).length = i := by simp; omega
  have hr : i % c < c := Nat.mod_lt _ (by omega)
  funext j
  unfold updD
  rw [ht]
  by_cases hj : j = i % c
  · subst hj
    rw [if_pos rfl, if_pos hr, chan_snoc, if_pos (by rw [hl])]
  · rw [if_neg hj]
    by_cases hjc : j < c
    · simp only [hjc, if_true]
      rw [chan_snoc, if_neg (by rw [hl]; exact fun e => hj e.symm)]
    · simp only [hjc, if_false]

def enfA (c x : Int) (t l : List Int) : AV := if askN c x l ≠ 0 then .tup [.list 0 [], .int .i64 (askN c x l)] else .tup [bs (encB c.toNat x t l), .int .i64 0]
theorem isD_enfA (c x : Int) (t l : List Int) : isD (enfA c x t l) = true := by unfold enfA; split <;> simp [isD, isDL, isD_bs]
def S_Enc (P : Prg) (f : Nat) : Prop := ∀ (c x : Int) (t l : List Int), t.length = 16 → I32 t → I32 l → VC P f [shA c x, .agg (ks .i32 t), il l] (enfA c x t l)
set_option maxHeartbeats 2000000 in
set_option maxRecDepth 20000 in
theorem enframe_Encode {P : Prg} {f fV fS fW fP fC fB fK t0 t1 t2 t3 t4 t5 tp tb : Nat} (bd : Body P f 85 [.tmp 6, .tmp 7] (ac_enframe_Encode fV fS fW fP fC fB fK t0 t1 t2 t3 t4 t5)) (hV : S_EVals P fV) (hS : S_eStates P fS) (hW : S_dWrite P fW) (bP : Body P fP 64 [] (ac_enframe_put tp tb)) (hC : S_CSum P fC) (hB : S_leBytes P fB) (hK : S_Concat P fK) : S_Enc P f := by
  intro c x t l ht hI hL
  refine VC.of_walk 1 (by simp [isDL, isD, isDL_ks, isD_il, shA]) (isD_enfA _ _ _ _) (ACall.of_body bd (by simp) ?_)
  have hk : (ks .i32 t).length = 16 := by simp [ks_length, ht]
  have tt : (ks .i32 t).take 16 = ks .i32 t := take_all (by omega)
  have ot := ks_one .i32 t
  have hV' := hV c x t l ht hI hL
  unfold enfA
  by_cases h0 : askN c x l = 0
  case neg =>
    rw [valA, if_pos h0] at hV'
    rw [if_pos h0]
    rw [shA] at hV' ⊢
    simp (maxSteps := 4000000) (disch := omega) only [step, stepv, ev, wl, wn, wp, wz, aop, cV, cV1, AV.one, partCells, okW, onlyFr, app, sliceCells, cellsAt, srcA, subA, eqFs, Int.cast_ofNat_Int, simprocAttr, ac_enframe_Encode, hk, ot, tt]
    refine callQ.vc hV' ?_
    simp (maxSteps := 4000000) (disch := omega) only [step, stepv, ev, wl, wn, wp, wz, aop, cV, cV1, AV.one, partCells, okW, onlyFr, app, sliceCells, cellsAt, srcA, subA, eqFs, Int.cast_ofNat_Int, simprocAttr, h0]
    simp [frzN, frzK, frzL, frzV]
  obtain ⟨k, m, rfl, hkM, hx, e1, e2, e3, e4, e5, e6⟩ := ask_all hL h0
  obtain ⟨c1, c6, l0, l4, lm, _⟩ := hkM
  rw [valA, if_neg (by omega), Int.toNat_natCast, u32L_valE] at hV'
  rw [if_neg (by omega), Int.toNat_natCast, encB, sealB]
  have hv := valE_ok k x t l
  have hvl := valE_len k x t l
  rw [← hvl] at hV' l0 l4
  generalize valE k x t l = v at *
  rw [shA] at hV' ⊢
  have hfb := frm_bounds (c := k) hv
  have hkv : (ks .u32 (v.map fun n : Nat => (n : Int))).length = v.length := by simp [ks]
  have s24 := sixD_len fun _ => startM
  have sone : (sixD fun _ => startM).all AV.one = true := rfl
  have stk : (sixD fun _ => startM).take 24 = sixD fun _ => startM := rfl
  have z2 : (fun j => if j < k then chanM k j (v.take 0) else startM) = fun _ => startM := by
    funext j
    rw [List.take_zero]
    split <;> rfl
  simp only [S_eStates] at hS
  simp (maxSteps := 4000000) (disch := omega) only [step, stepv, ev, wl, wn, wp, wz, aop, cV, cV1, AV.one, partCells, okW, onlyFr, app, sliceCells, cellsAt, srcA, subA, eqFs, Int.cast_ofNat_Int, simprocAttr, ac_enframe_Encode, hk, ot, tt]
  refine callQ.vc hV' ?_
  simp (maxSteps := 4000000) (disch := omega) only [step, stepv, ev, wl, wn, wp, wz, aop, cV, cV1, AV.one, partCells, okW, onlyFr, app, sliceCells, cellsAt, srcA, subA, eqFs, Int.cast_ofNat_Int, simprocAttr, hkv]
  refine callQ.vc hS ?_
  generalize hS0 : (sixD fun _ => startM) = S0 at *
  simp (maxSteps := 4000000) (disch := omega) only [step, stepv, ev, wl, wn, wp, wz, aop, cV, cV1, AV.one, partCells, okW, onlyFr, app, sliceCells, cellsAt, srcA, subA, eqFs, Int.cast_ofNat_Int, simprocAttr, hkv, s24, sone, stk, List.append_nil, List.take_zero, List.nil_append]
  refine ALoop.by (ι := Nat) (fun i => ⟨[(32, .int .i64 i), (31, .int .i64 v.length), (30, .list v.length (ks .u32 (v.map fun n : Nat => (n : Int)))), (11, .ref 3 1 0), (10, .ref 2 1 0), (7, .int .i64 0), (6, .emp true), (3, .ref 0 1 0)],
      [⟨t0, 2, 1, [.int .i64 k, .int .i64 x], 0⟩, ⟨t1, 16, 1, ks .i32 t, 0⟩, ⟨t2, 24, 1, sixD (fun j => if j < k then chanM k j (v.take i) else startM), 0⟩, bO t3 4 (frmN k v i), bY tb (frmN k v i) (frmV k v i)]⟩)
    (fun i => i ≤ v.length) (fun i => v.length - i) 0 ?_ (by omega) ?_
  · simp only [z2, hS0]
    rw [frmN_zero, frmV_zero]
    refine Le.trans (Le.virtF 3 tb 1 (by decide) rfl rfl) ?_
    exact Le.slots (by simp [Am.look])
  intro i hi
  by_cases hlt : i < v.length
  · obtain ⟨r, hr⟩ : ∃ r, r = i % k := ⟨_, rfl⟩
    have hrc : r < k := by rw [hr]; exact Nat.mod_lt _ (by omega)
    have q1 : (i : Int) % k = (r : Int) := by rw [hr]; simp [Int.natCast_emod]
    have q1' : ((i : Int)).tmod (k : Int) = (r : Int) := by rw [Int.tmod_eq_emod_of_nonneg (by omega), q1]
    have hc0 : (k : Int) ≠ 0 := by omega
    obtain ⟨b1, b2, b3⟩ := hfb i
    obtain ⟨_, b5, _⟩ := hfb (i + 1)
    have hd := chan_ok (c := k) (r := r) (hv.take i)
    have hvi := hv.getD i
    have hW' := hW 0 0 (v.getD i 0) (chanM k r (v.take i)) (by decide) hvi hd (by omega)
    rw [Nat.zero_add, Nat.pow_zero, Nat.one_mul, Nat.zero_add] at hW'
    have hcl := codeC_lt (d := chanM k r (v.take i)) hvi
    have hcn := codeN_le (v := v.getD i 0) hd
    obtain ⟨rest, hg⟩ := sixD_get (fun j => if j < k then chanM k j (v.take i) else startM) (j := r) (by omega)
    simp only [hrc, if_true] at hg
    have hset := sixD_set (fun j => if j < k then chanM k j (v.take i) else startM) (j := r) (by omega) (learnM (chanM k r (v.take i)) (v.getD i 0))
    have hup := upd_chan c1 hlt
    rw [← hr] at hup
    rw [hup] at hset
    have hln := sixD_len (fun j => if j < k then chanM k j (v.take i) else startM)
    have hkat := ks_at (K := .u32) (l := v.map fun n : Nat => (n : Int)) (i := i) (by simpa using hlt)
    have hgd : (v.map fun n : Nat => (n : Int)).getD i 0 = ((v.getD i 0 : Nat) : Int) := by simp [List.getD_eq_getElem?_getD, List.getElem?_eq_getElem hlt]
    rw [hgd] at hkat
    have hsN := frmN_succ k v i
    have hsV := frmV_succ k v i
    rw [← hr] at hsN hsV
    have hb6 : frmN k v i + codeN (chanM k r (v.take i)) (v.getD i 0) ≤ 400000 := by omega
    have hD6 : isDL (sixD (fun j => if j < k then chanM k j (v.take (i + 1)) else startM)) = true := isTL_D (isTL_sixD _)
    generalize hF1 : sixD (fun j => if j < k then chanM k j (v.take (i + 1)) else startM) = F' at *
    generalize sixD (fun j => if j < k then chanM k j (v.take i) else startM) = F at *
    generalize hN0 : frmN k v i = N at *
    generalize hV0 : frmV k v i = V at *
    generalize hN1 : frmN k v (i + 1) = N1 at *
    generalize hV1 : frmV k v (i + 1) = V1 at *
    generalize hn0 : codeN (chanM k r (v.take i)) (v.getD i 0) = n at *
    generalize hC0 : codeC (chanM k r (v.take i)) (v.getD i 0) = C at *
    generalize learnM (chanM k r (v.take i)) (v.getD i 0) = d' at *
    generalize chanM k r (v.take i) = d at *
    generalize v.getD i 0 = vi at *
    obtain ⟨d0, d1, d2, d3⟩ := d
    obtain ⟨m0, m1, m2, m3⟩ := d'
    simp only [dlA, dlC, bA] at hW'
    simp only at hg hset
    have hfr : frzN (fun o => ([] : List Nat).contains o) [⟨t0, 2, 1, [.int .i64 k, .int .i64 x], 0⟩, ⟨t1, 16, 1, ks .i32 t, 0⟩, ⟨t2, 24, 1, F, 0⟩, ⟨t3, 2, 1, [.own 4 (nB N), .int .i64 N], 0⟩, bY tb N V] (0 + 1) [.agg [.emp true, .int .i64 0], .agg [.int .i64 d0, .int .i64 d1, .int .u64 d2, .int .u64 d3], .int .u32 vi] =
      some [.agg [.list (nB 0) (u8 (leB 0 (nB 0))), .int .i64 ((0 : Nat) : Int)], .agg [.int .i64 d0, .int .i64 d1, .int .u64 d2, .int .u64 d3], .int .u32 vi] := by
      simp [frzN, frzK, frzL, frzV, nB, leB, u8]
    have pt : ∀ (Q : Exit → St → Prop) os fr dst, wpQ P os Q ⟨putA fr dst (.tup []), [⟨t0, 2, 1, [.int .i64 k, .int .i64 x], 0⟩, ⟨t1, 16, 1, ks .i32 t, 0⟩, ⟨t2, 24, 1, F', 0⟩, bO t3 4 N1, bY tb N1 V1, ⟨t3, 2, 1, [.list (nB n) (u8 (leB C (nB n))), .int .i64 n], 0⟩, ⟨t4, 4, 1, [.int .i64 m0, .int .i64 m1, .int .u64 m2, .int .u64 m3], 0⟩]⟩ →
        callQ P fP [.ref 3 1 0, .agg [.list (nB n) (u8 (leB C (nB n))), .int .i64 n]] [⟨t0, 2, 1, [.int .i64 k, .int .i64 x], 0⟩, ⟨t1, 16, 1, ks .i32 t, 0⟩, ⟨t2, 24, 1, F', 0⟩, ⟨t3, 2, 1, [.own 4 (nB N), .int .i64 N], 0⟩, bY tb N V, ⟨t3, 2, 1, [.list (nB n) (u8 (leB C (nB n))), .int .i64 n], 0⟩, ⟨t4, 4, 1, [.int .i64 m0, .int .i64 m1, .int .u64 m2, .int .u64 m3], 0⟩] os Q fr dst := fun Q os fr dst h =>
      enframe_put bP (ob := [⟨t0, 2, 1, [.int .i64 k, .int .i64 x], 0⟩, ⟨t1, 16, 1, ks .i32 t, 0⟩, ⟨t2, 24, 1, F', 0⟩, ⟨t3, 2, 1, [.own 4 (nB N), .int .i64 N], 0⟩, bY tb N V, ⟨t3, 2, 1, [.list (nB n) (u8 (leB C (nB n))), .int .i64 n], 0⟩, ⟨t4, 4, 1, [.int .i64 m0, .int .i64 m1, .int .u64 m2, .int .u64 m3], 0⟩]) (t := t3) (p := 3) (o := 4) (N := N) (V := V) (C := C) (n := n) rfl rfl (by decide) b1 hcl (by omega) (by omega)
        (Low.cons (by simp [lowL, lowV]) (Low.cons (lowL_D _ (isDL_ks _ _)) (Low.cons (lowL_D _ hD6) (Low.cons (by simp [lowL, lowV]) (Low.cons (lowL_D _ (isDL_leB _ _)) (Low.cons (by simp [lowL, lowV, lowL_D _ (isDL_leB _ _)]) (Low.cons (by simp [lowL, lowV]) Low.nil)))))))
        (by rw [hsN, hsV] at h; exact h)
    simp (maxSteps := 4000000) (disch := omega) only [step, stepv, ev, wl, wn, wp, wz, aop, cV, cV1, AV.one, partCells, okW, onlyFr, app, sliceCells, cellsAt, srcA, subA, eqFs, Int.cast_ofNat_Int, simprocAttr, bO, hkat, hkv, q1, q1', hc0, hg, hln]
    refine callQ.still 0 [] hW' hfr ?_
    simp (maxSteps := 4000000) (disch := omega) only [step, stepv, ev, wl, wn, wp, wz, aop, cV, cV1, AV.one, partCells, okW, onlyFr, app, sliceCells, cellsAt, srcA, subA, eqFs, Int.cast_ofNat_Int, simprocAttr, stillAt, hkat, hkv, q1, q1', hc0, hg, hln, hset]
    refine pt _ _ _ _ ?_
    simp (maxSteps := 4000000) (disch := omega) only [step, stepv, ev, wl, wn, wp, wz, aop, cV, cV1, AV.one, partCells, okW, onlyFr, app, sliceCells, cellsAt, srcA, subA, eqFs, Int.cast_ofNat_Int, simprocAttr]
    refine ⟨i + 1, by omega, by omega, ?_⟩
    simp only [hN1, hV1, hF1]
    refine Le.low (ob := [⟨t0, 2, 1, [.int .i64 k, .int .i64 x], 0⟩, ⟨t1, 16, 1, ks .i32 t, 0⟩, ⟨t2, 24, 1, F', 0⟩, bO t3 4 N1, bY tb N1 V1]) (J := [_, _]) (Nat.zero_le _) ?_ (by simp [Am.look, lowV, lowL_D _ (isDL_ks _ _)])
    exact Low.cons (by simp [lowL, lowV]) (Low.cons (lowL_D _ (isDL_ks _ _)) (Low.cons (lowL_D _ hD6) (Low.cons (by simp [bO, lowL, lowV]) (Low.cons (lowL_D _ (isDL_leB _ _)) Low.nil))))
  · obtain rfl : i = v.length := by omega
    obtain ⟨_, b5, b6⟩ := hfb v.length
    have hfl := frmB_len k v
    have hle : nB (frmN k v v.length) ≤ 40500 := by unfold nB; omega
    have hC' := hC (frmB k v)
    rw [if_neg (by omega), ← sumM] at hC'
    have hsm := sumM_lt (frmB k v)
    have hB' := hB (sumM (frmB k v)) 4 (by omega) (by omega) hsm
    have hK' := hK [frmB k v, leB (sumM (frmB k v)) 4] (by simp) (by simp [leB_length]) (by simp [leB_length]; omega)
    have hfe : frmB k v = leB (frmV k v v.length) (nB (frmN k v v.length)) := rfl
    simp only [partsA, bs, List.map_cons, List.map_nil, List.length_cons, List.length_nil, List.flatten_cons, List.flatten_nil, List.append_nil, List.length_append, hfl, leB_length] at hC' hB' hK' ⊢
    have tfl : isTL (u8 (frmB k v)) = true := isT_u8 _
    have tfs : isTL (u8 (leB (sumM (frmB k v)) 4)) = true := isT_u8 _
    have tfa : isTL (u8 (frmB k v ++ leB (sumM (frmB k v)) 4)) = true := isT_u8 _
    have hul : (u8 (frmB k v)).length = nB (frmN k v v.length) := by rw [u8_length, hfl]
    generalize sixD (fun j => if j < k then chanM k j (v.take v.length) else startM) = F at *
    simp only [bO, bY]
    rw [← hfe]
    generalize frmB k v ++ leB (sumM (frmB k v)) 4 = R at *
    generalize leB (sumM (frmB k v)) 4 = s4 at *
    generalize sumM (frmB k v) = sm at *
    generalize frmB k v = fb at *
    generalize nB (frmN k v v.length) = nn at *
    simp (maxSteps := 4000000) (disch := omega) only [step, stepv, ev, wl, wn, wp, wz, aop, cV, cV1, AV.one, partCells, okW, onlyFr, app, sliceCells, cellsAt, srcA, subA, eqFs, Int.cast_ofNat_Int, simprocAttr]
    refine callQ.still 1 [4] hC' (by simp [frzN, frzK, frzL, frzV, frzL_T _ tfl]) ?_
    simp (maxSteps := 4000000) (disch := omega) only [step, stepv, ev, wl, wn, wp, wz, aop, cV, cV1, AV.one, partCells, okW, onlyFr, app, sliceCells, cellsAt, srcA, subA, eqFs, Int.cast_ofNat_Int, simprocAttr, stillAt]
    refine callQ.vc hB' ?_
    simp (maxSteps := 4000000) (disch := omega) only [step, stepv, ev, wl, wn, wp, wz, aop, cV, cV1, AV.one, partCells, okW, onlyFr, app, sliceCells, cellsAt, srcA, subA, eqFs, Int.cast_ofNat_Int, simprocAttr]
    refine callQ.still 2 [5, 4] hK' (by simp [frzN, frzK, frzL, frzV, frzL_T _ tfl, frzL_T _ tfs]) ?_
    simp (maxSteps := 4000000) (disch := omega) only [step, stepv, ev, wl, wn, wp, wz, aop, cV, cV1, AV.one, partCells, okW, onlyFr, app, sliceCells, cellsAt, srcA, subA, eqFs, Int.cast_ofNat_Int, simprocAttr, stillAt]
    simp [frzN, frzK, frzL, frzV, frzL_T _ tfa]

end Go.Am

namespace Go.Am
open Go.RowKit

/-! ### How long a frame is -/

def lenA (c x : Int) (t l : List Int) : AV := if askN c x l ≠ 0 then .tup [.int .i64 0, .int .i64 (askN c x l)] else .tup [.int .i64 (encB c.toNat x t l).length, .int .i64 0]
theorem isD_lenA (c x : Int) (t l : List Int) : isD (lenA c x t l) = true := by unfold lenA; split <;> rfl
def S_ELen (P : Prg) (f : Nat) : Prop := ∀ (c x : Int) (t l : List Int), t.length = 16 → I32 t → I32 l → VC P f [shA c x, .agg (ks .i32 t), il l] (lenA c x t l)
set_option maxHeartbeats 2000000 in
set_option maxRecDepth 20000 in
theorem enframe_Length {P : Prg} {f fV fS fL fN t0 t1 t2 : Nat} (bd : Body P f 69 [.tmp 6, .tmp 7] (ac_enframe_Length fV fS fL fN t0 t1 t2)) (hV : S_EVals P fV) (hS : S_eStates P fS) (hL0 : S_dLen P fL) (hN : S_dLearn P fN) : S_ELen P f := by
  intro c x t l ht hI hL
  refine VC.of_acall (by simp [isDL, isD, isDL_ks, isD_il, shA]) (isD_lenA _ _ _ _) (ACall.of_body bd (by simp) ?_)
  have hk : (ks .i32 t).length = 16 := by simp [ks_length, ht]
  have tt : (ks .i32 t).take 16 = ks .i32 t := take_all (by omega)
  have ot := ks_one .i32 t
  have hV' := hV c x t l ht hI hL
  unfold lenA
  by_cases h0 : askN c x l = 0
  case neg =>
    rw [valA, if_pos h0] at hV'
    rw [if_pos h0]
    rw [shA] at hV' ⊢
    simp (maxSteps := 4000000) (disch := omega) only [step, stepv, ev, wl, wn, wp, wz, aop, cV, cV1, AV.one, partCells, okW, onlyFr, app, sliceCells, cellsAt, srcA, subA, eqFs, Int.cast_ofNat_Int, simprocAttr, ac_enframe_Length, hk, ot, tt]
    refine callQ.vc hV' ?_
    simp (maxSteps := 4000000) (disch := omega) only [step, stepv, ev, wl, wn, wp, wz, aop, cV, cV1, AV.one, partCells, okW, onlyFr, app, sliceCells, cellsAt, srcA, subA, eqFs, Int.cast_ofNat_Int, simprocAttr, h0]
  obtain ⟨k, m, rfl, hkM, hx, e1, e2, e3, e4, e5, e6⟩ := ask_all hL h0
  obtain ⟨c1, c6, l0, l4, lm, _⟩ := hkM
  rw [valA, if_neg (by omega), Int.toNat_natCast, u32L_valE] at hV'
  rw [if_neg (by omega), Int.toNat_natCast, encB, sealB_len, frmB_len]
  have hv := valE_ok k x t l
  have hvl := valE_len k x t l
  rw [← hvl] at hV' l0 l4
  generalize valE k x t l = v at *
  rw [shA] at hV' ⊢
  have hfb := frm_bounds (c := k) hv
  have hkv : (ks .u32 (v.map fun n : Nat => (n : Int))).length = v.length := by simp [ks]
  have s24 := sixD_len fun _ => startM
  have sone : (sixD fun _ => startM).all AV.one = true := rfl
  have stk : (sixD fun _ => startM).take 24 = sixD fun _ => startM := rfl
  have z2 : (fun j => if j < k then chanM k j (v.take 0) else startM) = fun _ => startM := by
    funext j
    rw [List.take_zero]
    split <;> rfl
  simp only [S_eStates] at hS
  simp (maxSteps := 4000000) (disch := omega) only [step, stepv, ev, wl, wn, wp, wz, aop, cV, cV1, AV.one, partCells, okW, onlyFr, app, sliceCells, cellsAt, srcA, subA, eqFs, Int.cast_ofNat_Int, simprocAttr, ac_enframe_Length, hk, ot, tt]
  refine callQ.vc hV' ?_
  simp (maxSteps := 4000000) (disch := omega) only [step, stepv, ev, wl, wn, wp, wz, aop, cV, cV1, AV.one, partCells, okW, onlyFr, app, sliceCells, cellsAt, srcA, subA, eqFs, Int.cast_ofNat_Int, simprocAttr, hkv]
  refine callQ.vc hS ?_
  generalize hS0 : (sixD fun _ => startM) = S0 at *
  simp (maxSteps := 4000000) (disch := omega) only [step, stepv, ev, wl, wn, wp, wz, aop, cV, cV1, AV.one, partCells, okW, onlyFr, app, sliceCells, cellsAt, srcA, subA, eqFs, Int.cast_ofNat_Int, simprocAttr, hkv, s24, sone, stk, List.append_nil, List.take_zero, List.nil_append]
  refine ALoop.by (ι := Nat) (fun i => ⟨[(30, .int .i64 i), (29, .int .i64 v.length), (28, .list v.length (ks .u32 (v.map fun n : Nat => (n : Int)))), (11, .int .i64 (frmN k v i)), (10, .ref 2 1 0), (7, .int .i64 0), (6, .int .i64 0), (3, .ref 0 1 0)],
      [⟨t0, 2, 1, [.int .i64 k, .int .i64 x], 0⟩, ⟨t1, 16, 1, ks .i32 t, 0⟩, ⟨t2, 24, 1, sixD (fun j => if j < k then chanM k j (v.take i) else startM), 0⟩]⟩)
    (fun i => i ≤ v.length) (fun i => v.length - i) 0 ?_ (by omega) ?_
  · simp only [z2, hS0]
    rw [frmN_zero]
    exact Le.slots (by simp [Am.look])
  intro i hi
  by_cases hlt : i < v.length
  · obtain ⟨r, hr⟩ : ∃ r, r = i % k := ⟨_, rfl⟩
    have hrc : r < k := by rw [hr]; exact Nat.mod_lt _ (by omega)
    have q1 : (i : Int) % k = (r : Int) := by rw [hr]; simp [Int.natCast_emod]
    have q1' : ((i : Int)).tmod (k : Int) = (r : Int) := by rw [Int.tmod_eq_emod_of_nonneg (by omega), q1]
    have hc0 : (k : Int) ≠ 0 := by omega
    obtain ⟨b1, b2, b3⟩ := hfb i
    obtain ⟨_, b5, _⟩ := hfb (i + 1)
    have hd := chan_ok (c := k) (r := r) (hv.take i)
    have hvi := hv.getD i
    have hL' := hL0 (v.getD i 0) (chanM k r (v.take i)) hvi hd
    have hN' := hN (v.getD i 0) (chanM k r (v.take i)) hvi hd
    have hcn := codeN_le (v := v.getD i 0) hd
    obtain ⟨rest, hg⟩ := sixD_get (fun j => if j < k then chanM k j (v.take i) else startM) (j := r) (by omega)
    simp only [hrc, if_true] at hg
    have hset := sixD_set (fun j => if j < k then chanM k j (v.take i) else startM) (j := r) (by omega) (learnM (chanM k r (v.take i)) (v.getD i 0))
    have hup := upd_chan c1 hlt
    rw [← hr] at hup
    rw [hup] at hset
    have hln := sixD_len (fun j => if j < k then chanM k j (v.take i) else startM)
    have hkat := ks_at (K := .u32) (l := v.map fun n : Nat => (n : Int)) (i := i) (by simpa using hlt)
    have hgd : (v.map fun n : Nat => (n : Int)).getD i 0 = ((v.getD i 0 : Nat) : Int) := by simp [List.getD_eq_getElem?_getD, List.getElem?_eq_getElem hlt]
    rw [hgd] at hkat
    have hsN := frmN_succ k v i
    rw [← hr] at hsN
    generalize hF1 : sixD (fun j => if j < k then chanM k j (v.take (i + 1)) else startM) = F' at *
    generalize sixD (fun j => if j < k then chanM k j (v.take i) else startM) = F at *
    generalize hN0 : frmN k v i = N at *
    generalize hN1 : frmN k v (i + 1) = N1 at *
    generalize hn0 : codeN (chanM k r (v.take i)) (v.getD i 0) = n at *
    generalize learnM (chanM k r (v.take i)) (v.getD i 0) = d' at *
    generalize chanM k r (v.take i) = d at *
    generalize v.getD i 0 = vi at *
    obtain ⟨d0, d1, d2, d3⟩ := d
    obtain ⟨m0, m1, m2, m3⟩ := d'
    simp only [dlA, dlC] at hL' hN'
    simp only at hg hset
    simp (maxSteps := 4000000) (disch := omega) only [step, stepv, ev, wl, wn, wp, wz, aop, cV, cV1, AV.one, partCells, okW, onlyFr, app, sliceCells, cellsAt, srcA, subA, eqFs, Int.cast_ofNat_Int, simprocAttr, hkat, hkv, q1, q1', hc0, hg, hln]
    refine callQ.vc hL' ?_
    simp (maxSteps := 4000000) (disch := omega) only [step, stepv, ev, wl, wn, wp, wz, aop, cV, cV1, AV.one, partCells, okW, onlyFr, app, sliceCells, cellsAt, srcA, subA, eqFs, Int.cast_ofNat_Int, simprocAttr, hg, hln]
    refine callQ.vc hN' ?_
    simp (maxSteps := 4000000) (disch := omega) only [step, stepv, ev, wl, wn, wp, wz, aop, cV, cV1, AV.one, partCells, okW, onlyFr, app, sliceCells, cellsAt, srcA, subA, eqFs, Int.cast_ofNat_Int, simprocAttr, hset, hln]
    refine ⟨i + 1, by omega, by omega, ?_⟩
    simp only [hN1, hF1]
    rw [hsN]
    exact Le.slots (by simp [Am.look])
  · obtain rfl : i = v.length := by omega
    obtain ⟨_, b5, b6⟩ := hfb v.length
    generalize sixD (fun j => if j < k then chanM k j (v.take v.length) else startM) = F at *
    generalize frmN k v v.length = N at *
    have q9 : ((N : Int) + 7) / 8 = (nB N : Nat) := by unfold nB; omega
    simp (maxSteps := 4000000) (disch := omega) only [step, stepv, ev, wl, wn, wp, wz, aop, cV, cV1, AV.one, partCells, okW, onlyFr, app, sliceCells, cellsAt, srcA, subA, eqFs, Int.cast_ofNat_Int, simprocAttr, q9]

end Go.Am

namespace Go.Am
open Go.RowKit

/-! ### law20: mono, alive -/

theorem law20_mono {P : Prg} {f t0 : Nat} (bd : Body P f 2 [.cell 0 t0] (ac_cadenzalaw20_mono t0)) (ht : aggO P t0 = some (some 2)) : S_mono P f := by
  refine VC.of_acall rfl rfl (ACall.of_body bd (by simp) ?_)
  simp (maxSteps := 4000000) (disch := omega) only [step, stepv, ev, wl, wn, wp, wz, aop, cV, cV1, AV.one, partCells, okW, onlyFr, app, sliceCells, cellsAt, srcA, subA, eqFs, Int.cast_ofNat_Int, simprocAttr, ac_cadenzalaw20_mono, resA, ht, oneOf, shA]

theorem val_00 : valA 1 16 z16 [0, 0] = .tup [u32L [0, 0], .int .i64 0] := by
  have h1 : askN 1 16 [0, 0] = 0 := by decide +kernel
  have h2 : outT 1 (mixAll 1 [0, 0]) (newC 16 z16) 2 = [0, 0] := by decide +kernel
  rw [valA, if_neg (by omega)]
  show AV.tup [u32L (outT 1 (mixAll 1 [0, 0]) (newC 16 z16) 2), .int .i64 0] = _
  rw [h2]
theorem val_11 : valA 1 16 z16 [1, -1] = .tup [u32L [2, 1], .int .i64 0] := by
  have h1 : askN 1 16 [1, -1] = 0 := by decide +kernel
  have h2 : outT 1 (mixAll 1 [1, -1]) (newC 16 z16) 2 = [2, 1] := by decide +kernel
  rw [valA, if_neg (by omega)]
  show AV.tup [u32L (outT 1 (mixAll 1 [1, -1]) (newC 16 z16) 2), .int .i64 0] = _
  rw [h2]
theorem enc_00 : encB 1 16 z16 [0, 0] = fr0 := by decide +kernel
theorem enfA_00 : enfA 1 16 z16 [0, 0] = .tup [bs fr0, .int .i64 0] := by
  have h1 : askN 1 16 [0, 0] = 0 := by decide +kernel
  rw [enfA, if_neg (by omega), show (1 : Int).toNat = 1 from rfl, enc_00]
theorem lenA_00 : lenA 1 16 z16 [0, 0] = .tup [.int .i64 7, .int .i64 0] := by
  have h1 : askN 1 16 [0, 0] = 0 := by decide +kernel
  rw [lenA, if_neg (by omega), show (1 : Int).toNat = 1 from rfl, enc_00, fr0_len]
  rfl

set_option maxHeartbeats 1000000 in
theorem law20_alive {P : Prg} {f fM fV fE fL fS fZ t0 t1 t2 t3 : Nat} (bd : Body P f 74 [.tmp 0] (ac_cadenzalaw20_alive fM fV fE fL fS fZ t0 t1 t2 t3)) (hM : S_mono P fM) (hV : S_EVals P fV) (hE : S_Enc P fE) (hL : S_ELen P fL) (hS : S_USame P fS) (hZ : S_Sealed P fZ) : S_alive21 P f := by
  refine VC.of_acall rfl rfl (ACall.of_body bd (by simp) ?_)
  have i1 : I32 [0, 0] := by intro v hv; simp at hv; omega
  have i2 : I32 [1, -1] := by intro v hv; simp at hv; omega
  have hV1 := hV 1 16 z16 [0, 0] rfl I32_z16 i1
  have hV2 := hV 1 16 z16 [1, -1] rfl I32_z16 i2
  have hE' := hE 1 16 z16 [0, 0] rfl I32_z16 i1
  have hL' := hL 1 16 z16 [0, 0] rfl I32_z16 i1
  rw [val_00] at hV1
  rw [val_11] at hV2
  rw [enfA_00] at hE'
  rw [lenA_00] at hL'
  have hS1 := hS [0, 0] (by decide)
  have hS2 := hS [2, 1] (by decide)
  have hZ' := hZ [0, 0, 0] (by decide)
  rw [show [0, 0, 0] ++ leB (sumM [0, 0, 0]) 4 = fr0 from rfl] at hZ'
  simp only [bs, fr0_len] at hZ' hE'
  have hd := decU8_u8 fr0
  have hUl : (u8 fr0).length = 7 := by rw [u8_length, fr0_len]
  generalize hU : u8 fr0 = U at *
  have hM' : VC P fM [] (.agg [.int .i64 1, .int .i64 16]) := hM
  have hz : VC P fZ [.list 3 [.int .u8 0, .int .u8 0, .int .u8 0]] (.list 7 U) := hZ'
  have v1 : VC P fV [.agg [.int .i64 1, .int .i64 16], .agg [.int .i32 0, .int .i32 0, .int .i32 0, .int .i32 0, .int .i32 0, .int .i32 0, .int .i32 0, .int .i32 0, .int .i32 0, .int .i32 0, .int .i32 0, .int .i32 0, .int .i32 0, .int .i32 0, .int .i32 0, .int .i32 0], .list 2 [.int .i32 0, .int .i32 0]] (.tup [.list 2 [.int .u32 0, .int .u32 0], .int .i64 0]) := hV1
  have v2 : VC P fV [.agg [.int .i64 1, .int .i64 16], .agg [.int .i32 0, .int .i32 0, .int .i32 0, .int .i32 0, .int .i32 0, .int .i32 0, .int .i32 0, .int .i32 0, .int .i32 0, .int .i32 0, .int .i32 0, .int .i32 0, .int .i32 0, .int .i32 0, .int .i32 0, .int .i32 0], .list 2 [.int .i32 1, .int .i32 (-1)]] (.tup [.list 2 [.int .u32 2, .int .u32 1], .int .i64 0]) := hV2
  have ve : VC P fE [.agg [.int .i64 1, .int .i64 16], .agg [.int .i32 0, .int .i32 0, .int .i32 0, .int .i32 0, .int .i32 0, .int .i32 0, .int .i32 0, .int .i32 0, .int .i32 0, .int .i32 0, .int .i32 0, .int .i32 0, .int .i32 0, .int .i32 0, .int .i32 0, .int .i32 0], .list 2 [.int .i32 0, .int .i32 0]] (.tup [.list 7 U, .int .i64 0]) := hE'
  have vl : VC P fL [.agg [.int .i64 1, .int .i64 16], .agg [.int .i32 0, .int .i32 0, .int .i32 0, .int .i32 0, .int .i32 0, .int .i32 0, .int .i32 0, .int .i32 0, .int .i32 0, .int .i32 0, .int .i32 0, .int .i32 0, .int .i32 0, .int .i32 0, .int .i32 0, .int .i32 0], .list 2 [.int .i32 0, .int .i32 0]] (.tup [.int .i64 7, .int .i64 0]) := hL'
  have s1 : VC P fS [.list 2 [.int .u32 0, .int .u32 0], .list 2 [.int .u32 0, .int .u32 0]] (.bool true) := hS1
  have s2 : VC P fS [.list 2 [.int .u32 2, .int .u32 1], .list 2 [.int .u32 2, .int .u32 1]] (.bool true) := hS2
  clear hM hV hE hL hS hZ hV1 hV2 hE' hL' hS1 hS2 hZ'
  simp (maxSteps := 4000000) (disch := omega) only [step, stepv, ev, wl, wn, wp, wz, aop, cV, cV1, AV.one, partCells, okW, onlyFr, app, sliceCells, cellsAt, srcA, subA, eqFs, Int.cast_ofNat_Int, simprocAttr, ac_cadenzalaw20_alive]
  refine callD.vc hM' ?_
  simp (maxSteps := 4000000) (disch := omega) only [step, stepv, ev, wl, wn, wp, wz, aop, cV, cV1, AV.one, partCells, okW, onlyFr, app, sliceCells, cellsAt, srcA, subA, eqFs, Int.cast_ofNat_Int, simprocAttr, sealw, isDL, isD]
  refine callD.vc v1 ?_
  simp (maxSteps := 4000000) (disch := omega) only [step, stepv, ev, wl, wn, wp, wz, aop, cV, cV1, AV.one, partCells, okW, onlyFr, app, sliceCells, cellsAt, srcA, subA, eqFs, Int.cast_ofNat_Int, simprocAttr]
  refine callD.vc hM' ?_
  simp (maxSteps := 4000000) (disch := omega) only [step, stepv, ev, wl, wn, wp, wz, aop, cV, cV1, AV.one, partCells, okW, onlyFr, app, sliceCells, cellsAt, srcA, subA, eqFs, Int.cast_ofNat_Int, simprocAttr, sealw, isDL, isD]
  refine callD.vc ve ?_
  simp (maxSteps := 4000000) (disch := omega) only [step, stepv, ev, wl, wn, wp, wz, aop, cV, cV1, AV.one, partCells, okW, onlyFr, app, sliceCells, cellsAt, srcA, subA, eqFs, Int.cast_ofNat_Int, simprocAttr]
  refine callD.vc hM' ?_
  simp (maxSteps := 4000000) (disch := omega) only [step, stepv, ev, wl, wn, wp, wz, aop, cV, cV1, AV.one, partCells, okW, onlyFr, app, sliceCells, cellsAt, srcA, subA, eqFs, Int.cast_ofNat_Int, simprocAttr, sealw, isDL, isD]
  refine callD.vc vl ?_
  simp (maxSteps := 4000000) (disch := omega) only [step, stepv, ev, wl, wn, wp, wz, aop, cV, cV1, AV.one, partCells, okW, onlyFr, app, sliceCells, cellsAt, srcA, subA, eqFs, Int.cast_ofNat_Int, simprocAttr]
  refine callD.vc hM' ?_
  simp (maxSteps := 4000000) (disch := omega) only [step, stepv, ev, wl, wn, wp, wz, aop, cV, cV1, AV.one, partCells, okW, onlyFr, app, sliceCells, cellsAt, srcA, subA, eqFs, Int.cast_ofNat_Int, simprocAttr, sealw, isDL, isD]
  refine callD.vc v2 ?_
  simp (maxSteps := 4000000) (disch := omega) only [step, stepv, ev, wl, wn, wp, wz, aop, cV, cV1, AV.one, partCells, okW, onlyFr, app, sliceCells, cellsAt, srcA, subA, eqFs, Int.cast_ofNat_Int, simprocAttr, sealw, isDL, isD]
  refine callD.vc s1 ?_
  simp (maxSteps := 4000000) (disch := omega) only [step, stepv, ev, wl, wn, wp, wz, aop, cV, cV1, AV.one, partCells, okW, onlyFr, app, sliceCells, cellsAt, srcA, subA, eqFs, Int.cast_ofNat_Int, simprocAttr, sealw, isDL, isD, hd, hUl, strA]
  refine callD.vc hz ?_
  simp (maxSteps := 4000000) (disch := omega) only [step, stepv, ev, wl, wn, wp, wz, aop, cV, cV1, AV.one, partCells, okW, onlyFr, app, sliceCells, cellsAt, srcA, subA, eqFs, Int.cast_ofNat_Int, simprocAttr, sealw, isDL, isD, hd, hUl, strA]
  refine callD.vc s2 ?_
  simp (maxSteps := 4000000) (disch := omega) only [step, stepv, ev, wl, wn, wp, wz, aop, cV, cV1, AV.one, partCells, okW, onlyFr, app, sliceCells, cellsAt, srcA, subA, eqFs, Int.cast_ofNat_Int, simprocAttr]

end Go.Am

namespace Go.Am
open Go.RowKit

/-! ### chain.All; the law EnframeParts -/

def S_LawEParts (P : Prg) (f : Nat) : Prop := ∀ (c x : Int) (t l : List Int) (j : Int), t.length = 16 → I32 t → I32 l → VC P f [shA c x, .agg (ks .i32 t), il l, .int .i64 j] (.bool true)
end Go.Am

namespace Go.Am
open Go.RowKit

/-! ### First moments, equal channels (plain) -/

theorem getD_all {l : List Int} {p : Int → Bool} (h : l.all p = true) {j : Nat} (hj : j < l.length) : p (l.getD j 0) = true := by
  rw [List.getD_eq_getElem?_getD, List.getElem?_eq_getElem hj]
  exact List.all_eq_true.1 h _ (List.getElem_mem hj)
theorem ask_all' {c x : Int} {l : List Int} (hI : I32 l) (h : askN c x l = 0) : l.all (inR x) = true := by
  obtain ⟨k, m, rfl, hk, hx, e1, e2, _⟩ := ask_all hI h
  have := chk_all (x := x) (l := l) hx hk.2.2.2.1
  rw [e2] at this
  by_cases ha : l.all (inR x) = true
  · exact ha
  · rw [if_neg ha] at this; omega
theorem ask_of {k : Nat} {x : Int} {l : List Int} (h1 : 1 ≤ k) (h6 : k ≤ 6) (hx : half x ≠ 0) (ha : l.all (inR x) = true) (h0 : 0 < l.length) (h4 : l.length ≤ 4000) (hm : l.length % k = 0) : askN k x l = 0 := by
  have e1 : eCheck k x = 0 := by unfold eCheck; split <;> omega
  refine ask_ok e1 (by rw [chk_all hx h4, if_pos ha]) ?_
  have : (l.length : Int) % (k : Int) = 0 := by rw [← Int.natCast_emod, hm]; rfl
  omega

theorem mixV_take {c n j : Nat} {l : List Int} (hc : 1 ≤ c) (hj : j < n * c) : mixV c (l.take (n * c)) j = mixV c l j := by
  have hs := seg_lt hj hc
  have hd := Nat.div_add_mod j c
  unfold mixV
  by_cases h1 : c = 1
  · rw [if_pos h1, if_pos h1, take_getD hj]
  rw [if_neg h1, if_neg h1]
  by_cases h2 : j % c + 1 < c
  · rw [if_pos h2, if_pos h2, take_getD hj, take_getD (by omega)]
  · rw [if_neg h2, if_neg h2, take_getD hj, take_getD (by omega)]
theorem stC_congr {c : Nat} {L L' : List Int} {z : Chan} {k : Nat} : ∀ n, (∀ i, i < n → L.getD (k + i * c) 0 = L'.getD (k + i * c) 0) → stC c L z k n = stC c L' z k n
  | 0, _ => rfl
  | n + 1, h => by rw [stC, stC, stC_congr n fun i hi => h i (by omega), h n (by omega)]
theorem out_take {c n : Nat} {l : List Int} {z : Chan} (hc : 1 ≤ c) (hn : n * c ≤ l.length) : outT c (mixAll c (l.take (n * c))) z (n * c) = (outT c (mixAll c l) z l.length).take (n * c) := by
  have hlt : (l.take (n * c)).length = n * c := by simp; omega
  have hg : ∀ j, j < n * c → (mixAll c (l.take (n * c))).getD j 0 = (mixAll c l).getD j 0 := fun j hj => by
    rw [mixAll_getD (by rw [hlt]; exact hj), mixAll_getD (by omega), mixV_take hc hj]
  apply getD_ext
  · rw [outT_len, List.length_take, outT_len]; omega
  intro j hj
  rw [outT_len] at hj
  rw [take_getD hj, outT, outT, map_getD hj, map_getD (by omega), outV, outV, hg j hj]
  congr 2
  refine stC_congr _ fun i hi => hg _ ?_
  have := col_lt (c := c) hj i hi
  omega

def oneL (k : Nat) (l : List Int) (m : Nat) : List Int := (List.range m).map fun i => l.getD (i * k) 0
def samL (k : Nat) (l : List Int) (m : Nat) : List Int := (List.range m).map fun j => l.getD (j / k * k) 0
theorem oneL_len (k : Nat) (l : List Int) (m : Nat) : (oneL k l m).length = m := by simp [oneL]
theorem samL_len (k : Nat) (l : List Int) (m : Nat) : (samL k l m).length = m := by simp [samL]
theorem oneL_succ (k : Nat) (l : List Int) (m : Nat) : oneL k l m ++ [l.getD (m * k) 0] = oneL k l (m + 1) := by simp [oneL, List.range_succ]
theorem samL_succ (k : Nat) (l : List Int) (m : Nat) : samL k l m ++ [l.getD (m / k * k) 0] = samL k l (m + 1) := by simp [samL, List.range_succ]
theorem I32_oneL {k : Nat} {l : List Int} (h : I32 l) (m : Nat) : I32 (oneL k l m) := by
  intro v hv
  simp only [oneL, List.mem_map] at hv
  obtain ⟨j, _, rfl⟩ := hv
  exact getD_mem h _
theorem I32_samL {k : Nat} {l : List Int} (h : I32 l) (m : Nat) : I32 (samL k l m) := by
  intro v hv
  simp only [samL, List.mem_map] at hv
  obtain ⟨j, _, rfl⟩ := hv
  exact getD_mem h _
theorem oneL_getD {k m i : Nat} {l : List Int} (h : i < m) : (oneL k l m).getD i 0 = l.getD (i * k) 0 := map_getD h
theorem samL_getD {k m i : Nat} {l : List Int} (h : i < m) : (samL k l m).getD i 0 = l.getD (i / k * k) 0 := map_getD h

theorem zero_chan {x : Int} (hx : half x ≠ 0) : cfwdY (newC x z16) 0 = 0 ∧ cfwdC (newC x z16) 0 = newC x z16 := by
  have h : x = 8 ∨ x = 16 ∨ x = 24 := by
    unfold half at hx
    split at hx
    · exact .inl (by assumption)
    split at hx
    · exact .inr (.inl (by assumption))
    split at hx
    · exact .inr (.inr (by assumption))
    · omega
  rcases h with rfl | rfl | rfl
  · refine ⟨by decide +kernel, ?_⟩
    show (⟨8, 0, ⟨10, learnK (newC 8 z16).fl (fwdY (newC 8 z16).fl 0) 16, 0 :: List.take 15 z16⟩⟩ : Chan) = ⟨8, 0, ⟨10, z16, z16⟩⟩
    rw [show learnK (newC 8 z16).fl (fwdY (newC 8 z16).fl 0) 16 = z16 by decide +kernel]
    rfl
  · refine ⟨by decide +kernel, ?_⟩
    show (⟨16, 0, ⟨9, learnK (newC 16 z16).fl (fwdY (newC 16 z16).fl 0) 16, 0 :: List.take 15 z16⟩⟩ : Chan) = ⟨16, 0, ⟨9, z16, z16⟩⟩
    rw [show learnK (newC 16 z16).fl (fwdY (newC 16 z16).fl 0) 16 = z16 by decide +kernel]
    rfl
  · refine ⟨by decide +kernel, ?_⟩
    show (⟨24, 0, ⟨10, learnK (newC 24 z16).fl (fwdY (newC 24 z16).fl 0) 16, 0 :: List.take 15 z16⟩⟩ : Chan) = ⟨24, 0, ⟨10, z16, z16⟩⟩
    rw [show learnK (newC 24 z16).fl (fwdY (newC 24 z16).fl 0) 16 = z16 by decide +kernel]
    rfl
theorem zero_st {x : Int} (hx : half x ≠ 0) {c k : Nat} {L : List Int} : ∀ n, (∀ i, i < n → L.getD (k + i * c) 0 = 0) → stC c L (newC x z16) k n = newC x z16
  | 0, _ => rfl
  | n + 1, h => by rw [stC, zero_st hx n fun i hi => h i (by omega), h n (by omega)]; exact (zero_chan hx).2

theorem mix_sam {k n j : Nat} {l : List Int} (hk : 1 ≤ k) (hI : I32 l) (hj : j < n * k) : (mixAll k (samL k l (n * k))).getD j 0 = if j % k = k - 1 then l.getD (j / k * k) 0 else 0 := by
  have hs := seg_lt hj hk
  have hd := Nat.div_add_mod j k
  have hr := Nat.mod_lt j (show 0 < k by omega)
  have hm : ∀ y : Int, w32 (y - y) = 0 := fun y => by rw [Int.sub_self]; rfl
  rw [mixAll_getD (by rw [samL_len]; exact hj), mixV]
  by_cases h1 : k = 1
  · subst h1
    rw [if_pos rfl, samL_getD hj, if_pos (by omega)]
  rw [if_neg h1]
  by_cases h2 : j % k + 1 < k
  · rw [if_pos h2, if_neg (by omega), samL_getD hj, samL_getD (by omega)]
    have : (j + 1) / k = j / k := by
      have := seg_div (c := k) (q := j / k) h2
      rw [show k * (j / k) + (j % k + 1) = j + 1 by omega] at this
      exact this.1
    rw [this]
    exact hm _
  · rw [if_neg h2, if_pos (by omega), samL_getD hj, samL_getD (by omega)]
    have : (j - 1) / k = j / k := by
      have := seg_div (c := k) (q := j / k) (show j % k - 1 < k by omega)
      rw [show k * (j / k) + (j % k - 1) = j - 1 by omega] at this
      exact this.1
    rw [this, hm]
    simp only [Int.zero_tdiv, Int.sub_zero]
    exact w32_mem hI _
theorem out_sam {k n j : Nat} {x : Int} {l : List Int} (hx : half x ≠ 0) (hk : 1 ≤ k) (hI : I32 l) (hj : j < n * k) :
    (outT k (mixAll k (samL k l (n * k))) (newC x z16) (n * k)).getD j 0 = if j % k = k - 1 then (outT 1 (mixAll 1 (oneL k l n)) (newC x z16) n).getD (j / k) 0 else 0 := by
  have hr := Nat.mod_lt j (show 0 < k by omega)
  have hq : j / k < n := (Nat.div_lt_iff_lt_mul hk).2 hj
  rw [outT, map_getD hj, outV, mix_sam hk hI hj]
  have hcol : ∀ i, i < j / k → j % k + i * k < n * k := fun i hi => by
    have := col_lt (c := k) hj i hi
    omega
  by_cases h : j % k = k - 1
  · rw [if_pos h, if_pos h, outT, map_getD hq, outV, Nat.mod_one, Nat.div_one, mixAll_getD (by rw [oneL_len]; exact hq), mixV, if_pos rfl, oneL_getD hq]
    congr 2
    have key : ∀ q, q ≤ j / k → stC k (mixAll k (samL k l (n * k))) (newC x z16) (j % k) q = stC 1 (mixAll 1 (oneL k l n)) (newC x z16) 0 q := by
      intro q
      induction q with
      | zero => intro _; rfl
      | succ q ih =>
        intro hle
        obtain ⟨e1, e2⟩ := col_at (n := q) hr
        rw [stC, stC, ih (by omega), mix_sam hk hI (hcol q (by omega)), e1, if_pos h, e2, Nat.mul_one, Nat.zero_add, mixAll_getD (by rw [oneL_len]; omega), mixV, if_pos rfl, oneL_getD (by omega)]
    exact key _ (Nat.le_refl _)
  · rw [if_neg h, if_neg h, zero_st hx _ fun i hi => ?_, (zero_chan hx).1]
    · rfl
    · obtain ⟨e1, e2⟩ := col_at (n := i) hr
      rw [mix_sam hk hI (hcol i hi), e1, if_neg h]

end Go.Am

namespace Go.Am
open Go.RowKit

/-! ### The law EnframeFirst -/

theorem valA_ok {k : Nat} {x : Int} {t l : List Int} (h : askN k x l = 0) : valA k x t l = .tup [u32L (outT k (mixAll k l) (newC x t) l.length), .int .i64 0] := by
  rw [valA, if_neg (by omega), Int.toNat_natCast]
set_option maxHeartbeats 4000000 in
set_option maxRecDepth 20000 in
theorem law20_EnframeFirst {P : Prg} {f fA fQ fV fS t0 t1 t2 : Nat} (bd : Body P f 189 [.tmp 8] (ac_cadenzalaw20_EnframeFirst fA fQ fV fS t0 t1 t2)) (hA : S_alive21 P fA) (hQ : S_EAsk P fQ) (hV : S_EVals P fV) (hS : S_USame P fS) : S_LawEParts P f := by
  intro c x t l n ht hI hL
  have hk : (ks .i32 t).length = 16 := by simp [ks_length, ht]
  have tt : (ks .i32 t).take 16 = ks .i32 t := take_all (by omega)
  have ot := ks_one .i32 t
  refine VC.of_acall (by simp [isDL, isD, isD_il, isDL_ks, shA]) rfl (ACall.of_body bd (by simp) ?_)
  have hA' : VC P fA [] (.bool true) := hA
  have hQ' := hQ c x l hL
  have hV' := hV c x t l ht hI hL
  simp only [shA, il] at hQ' hV' ⊢
  by_cases h1 : 600 < l.length
  · simp (maxSteps := 4000000) (disch := omega) only [step, stepv, ev, wl, wn, wp, wz, aop, cV, cV1, AV.one, partCells, okW, onlyFr, app, sliceCells, cellsAt, srcA, subA, eqFs, Int.cast_ofNat_Int, simprocAttr, ac_cadenzalaw20_EnframeFirst, hk, ot, tt]
    refine callQ.vc hA' ?_
    simp (maxSteps := 4000000) (disch := omega) only [step, stepv, ev, wl, wn, wp, wz, aop, cV, cV1, AV.one, partCells, okW, onlyFr, app, sliceCells, cellsAt, srcA, subA, eqFs, Int.cast_ofNat_Int, simprocAttr]
  by_cases h0 : askN c x l = 0
  case neg =>
    simp (maxSteps := 4000000) (disch := omega) only [step, stepv, ev, wl, wn, wp, wz, aop, cV, cV1, AV.one, partCells, okW, onlyFr, app, sliceCells, cellsAt, srcA, subA, eqFs, Int.cast_ofNat_Int, simprocAttr, ac_cadenzalaw20_EnframeFirst, hk, ot, tt]
    refine callQ.vc hA' ?_
    simp (maxSteps := 4000000) (disch := omega) only [step, stepv, ev, wl, wn, wp, wz, aop, cV, cV1, AV.one, partCells, okW, onlyFr, app, sliceCells, cellsAt, srcA, subA, eqFs, Int.cast_ofNat_Int, simprocAttr, h1]
    refine callQ.vc hQ' ?_
    simp (maxSteps := 4000000) (disch := omega) only [step, stepv, ev, wl, wn, wp, wz, aop, cV, cV1, AV.one, partCells, okW, onlyFr, app, sliceCells, cellsAt, srcA, subA, eqFs, Int.cast_ofNat_Int, simprocAttr, h0]
  have hall := ask_all' hL h0
  obtain ⟨k, m, rfl, hkM, hx, e1, e2, e3, e4, e5, e6⟩ := ask_all hL h0
  rw [h0] at hQ'
  rw [valA_ok h0] at hV'
  obtain ⟨c1, c6, l0, l4, lm, _⟩ := hkM
  have hc0 : (k : Int) ≠ 0 := by omega
  have hmle : m ≤ l.length := by rw [e3]; exact Nat.le_mul_of_pos_right m c1
  have e5' : ((l.length : Int)).tdiv (k : Int) = (m : Int) := by rw [Int.tdiv_eq_ediv_of_nonneg (by omega)]; exact e5
  by_cases h2 : n < 1
  · simp (maxSteps := 4000000) (disch := omega) only [step, stepv, ev, wl, wn, wp, wz, aop, cV, cV1, AV.one, partCells, okW, onlyFr, app, sliceCells, cellsAt, srcA, subA, eqFs, Int.cast_ofNat_Int, simprocAttr, ac_cadenzalaw20_EnframeFirst, hk, ot, tt]
    refine callQ.vc hA' ?_
    simp (maxSteps := 4000000) (disch := omega) only [step, stepv, ev, wl, wn, wp, wz, aop, cV, cV1, AV.one, partCells, okW, onlyFr, app, sliceCells, cellsAt, srcA, subA, eqFs, Int.cast_ofNat_Int, simprocAttr, h1]
    refine callQ.vc hQ' ?_
    simp (maxSteps := 4000000) (disch := omega) only [step, stepv, ev, wl, wn, wp, wz, aop, cV, cV1, AV.one, partCells, okW, onlyFr, app, sliceCells, cellsAt, srcA, subA, eqFs, Int.cast_ofNat_Int, simprocAttr]
  by_cases h3 : (m : Int) < n
  · simp (maxSteps := 4000000) (disch := omega) only [step, stepv, ev, wl, wn, wp, wz, aop, cV, cV1, AV.one, partCells, okW, onlyFr, app, sliceCells, cellsAt, srcA, subA, eqFs, Int.cast_ofNat_Int, simprocAttr, ac_cadenzalaw20_EnframeFirst, hk, ot, tt]
    refine callQ.vc hA' ?_
    simp (maxSteps := 4000000) (disch := omega) only [step, stepv, ev, wl, wn, wp, wz, aop, cV, cV1, AV.one, partCells, okW, onlyFr, app, sliceCells, cellsAt, srcA, subA, eqFs, Int.cast_ofNat_Int, simprocAttr, h1]
    refine callQ.vc hQ' ?_
    simp (maxSteps := 4000000) (disch := omega) only [step, stepv, ev, wl, wn, wp, wz, aop, cV, cV1, AV.one, partCells, okW, onlyFr, app, sliceCells, cellsAt, srcA, subA, eqFs, Int.cast_ofNat_Int, simprocAttr, e5, e5', hc0]
  obtain ⟨n, rfl⟩ : ∃ n0 : Nat, n = n0 := ⟨n.toNat, by omega⟩
  obtain ⟨T, hT⟩ : ∃ T, T = n * k := ⟨_, rfl⟩
  have hTl : T ≤ l.length := by rw [hT, e3]; exact Nat.mul_le_mul_right k (by omega)
  have hnT : n ≤ T := by rw [hT]; exact Nat.le_mul_of_pos_right n c1
  have hT0 : 0 < T := by omega
  have eT : (n : Int) * k = (T : Int) := by rw [hT]; simp
  have hTm : T % k = 0 := by rw [hT]; exact Nat.mul_mod_left _ _
  -- the first moments
  have hIt : I32 (l.take T) := fun y hy => hL y (List.mem_of_mem_take hy)
  have hat : (l.take T).all (inR x) = true := by
    rw [List.all_eq_true] at hall ⊢
    exact fun y hy => hall y (List.mem_of_mem_take hy)
  have hlt : (l.take T).length = T := by simp; omega
  have ha2 : askN k x (l.take T) = 0 := ask_of c1 c6 hx hat (by omega) (by omega) (by rw [hlt]; exact hTm)
  have hV2 := hV k x t (l.take T) ht hI hIt
  rw [valA_ok ha2, hlt] at hV2
  have hot := out_take (c := k) (n := n) (l := l) (z := newC x t) c1 (by rw [← hT]; exact hTl)
  rw [← hT] at hot
  rw [hot] at hV2
  have hvl := outT_len k (mixAll k l) (newC x t) l.length
  have hS' := hS ((outT k (mixAll k l) (newC x t) l.length).take T) (by rw [List.length_take, hvl]; omega)
  generalize outT k (mixAll k l) (newC x t) l.length = v at *
  have hvt : (v.take T).length = T := by rw [List.length_take, hvl]; omega
  have kt1 : (ks .i32 l).take T = ks .i32 (l.take T) := by simp [ks, List.map_take]
  have kt2 : (ks .u32 v).take T = ks .u32 (v.take T) := by simp [ks, List.map_take]
  -- equal channels
  have hsl := samL_len k l T
  have hoL := oneL_len k l n
  have hIs := I32_samL (k := k) hL T
  have hIo := I32_oneL (k := k) hL n
  have has : (samL k l T).all (inR x) = true := by
    rw [List.all_eq_true]
    intro y hy
    simp only [samL, List.mem_map, List.mem_range] at hy
    obtain ⟨j, hj, rfl⟩ := hy
    refine getD_all hall ?_
    have := Nat.div_mul_le_self j k
    omega
  have hao : (oneL k l n).all (inR x) = true := by
    rw [List.all_eq_true]
    intro y hy
    simp only [oneL, List.mem_map, List.mem_range] at hy
    obtain ⟨j, hj, rfl⟩ := hy
    refine getD_all hall ?_
    have := Nat.mul_le_mul_right k (show j + 1 ≤ n from hj)
    rw [Nat.add_mul, Nat.one_mul] at this
    omega
  have as1 : askN k x (samL k l T) = 0 := ask_of c1 c6 hx has (by omega) (by omega) (by rw [hsl]; exact hTm)
  have as2 : askN (1 : Nat) x (oneL k l n) = 0 := ask_of (by omega) (by omega) hx hao (by omega) (by omega) (by rw [Nat.mod_one])
  have hV3 := hV k x z16 (samL k l T) rfl I32_z16 hIs
  have hV4 := hV (1 : Nat) x z16 (oneL k l n) rfl I32_z16 hIo
  rw [valA_ok as1, hsl] at hV3
  rw [valA_ok as2, hoL] at hV4
  have hos := fun j (hj : j < T) => out_sam (k := k) (n := n) (j := j) (x := x) (l := l) hx c1 hL (by rw [← hT]; exact hj)
  rw [← hT] at hos
  have hXl := outT_len k (mixAll k (samL k l T)) (newC x z16) T
  have hYl := outT_len 1 (mixAll 1 (oneL k l n)) (newC x z16) n
  generalize outT k (mixAll k (samL k l T)) (newC x z16) T = X at *
  generalize outT 1 (mixAll 1 (oneL k l n)) (newC x z16) n = Y at *
  simp only [shA, il, u32L, hlt, hvt, hvl, hsl, hoL, hXl, hYl] at hV' hV2 hV3 hV4 hS'
  have hV3' : VC P fV [.agg [.int .i64 k, .int .i64 x], .agg [.int .i32 0, .int .i32 0, .int .i32 0, .int .i32 0, .int .i32 0, .int .i32 0, .int .i32 0, .int .i32 0, .int .i32 0, .int .i32 0, .int .i32 0, .int .i32 0, .int .i32 0, .int .i32 0, .int .i32 0, .int .i32 0], .list T (ks .i32 (samL k l T))] (.tup [.list T (ks .u32 X), .int .i64 0]) := hV3
  have hV4' : VC P fV [.agg [.int .i64 1, .int .i64 x], .agg [.int .i32 0, .int .i32 0, .int .i32 0, .int .i32 0, .int .i32 0, .int .i32 0, .int .i32 0, .int .i32 0, .int .i32 0, .int .i32 0, .int .i32 0, .int .i32 0, .int .i32 0, .int .i32 0, .int .i32 0, .int .i32 0], .list n (ks .i32 (oneL k l n))] (.tup [.list n (ks .u32 Y), .int .i64 0]) := hV4
  clear hV3 hV4 hV hS hA hQ
  have kl : (ks .i32 l).length = l.length := ks_length _ _
  have kv : (ks .u32 v).length = l.length := by rw [ks_length, hvl]
  have kvt : (ks .u32 (v.take T)).length = T := by rw [ks_length, hvt]
  have kX : (ks .u32 X).length = T := by rw [ks_length, hXl]
  have kY : (ks .u32 Y).length = n := by rw [ks_length, hYl]
  simp (maxSteps := 4000000) (disch := omega) only [step, stepv, ev, wl, wn, wp, wz, aop, cV, cV1, AV.one, partCells, okW, onlyFr, app, sliceCells, cellsAt, srcA, subA, eqFs, Int.cast_ofNat_Int, simprocAttr, ac_cadenzalaw20_EnframeFirst, hk, ot, tt]
  refine callQ.vc hA' ?_
  simp (maxSteps := 4000000) (disch := omega) only [step, stepv, ev, wl, wn, wp, wz, aop, cV, cV1, AV.one, partCells, okW, onlyFr, app, sliceCells, cellsAt, srcA, subA, eqFs, Int.cast_ofNat_Int, simprocAttr, h1]
  refine callQ.vc hQ' ?_
  simp (maxSteps := 4000000) (disch := omega) only [step, stepv, ev, wl, wn, wp, wz, aop, cV, cV1, AV.one, partCells, okW, onlyFr, app, sliceCells, cellsAt, srcA, subA, eqFs, Int.cast_ofNat_Int, simprocAttr, e5, e5', hc0, hk, ot, tt]
  refine callQ.vc hV' ?_
  simp (maxSteps := 4000000) (disch := omega) only [step, stepv, ev, wl, wn, wp, wz, aop, cV, cV1, AV.one, partCells, okW, onlyFr, app, sliceCells, cellsAt, srcA, subA, eqFs, Int.cast_ofNat_Int, simprocAttr, hk, ot, tt, eT, kl, kt1, Nat.sub_zero]
  refine callD.vc hV2 ?_
  simp (maxSteps := 4000000) (disch := omega) only [step, stepv, ev, wl, wn, wp, wz, aop, cV, cV1, AV.one, partCells, okW, onlyFr, app, sliceCells, cellsAt, srcA, subA, eqFs, Int.cast_ofNat_Int, simprocAttr, eT, kv, kt2, Nat.sub_zero]
  refine callQ.vc hS' ?_
  simp (maxSteps := 4000000) (disch := omega) only [step, stepv, ev, wl, wn, wp, wz, aop, cV, cV1, AV.one, partCells, okW, onlyFr, app, sliceCells, cellsAt, srcA, subA, eqFs, Int.cast_ofNat_Int, simprocAttr]
  refine ALoop.by (ι := Nat) (fun i => ⟨[(16, .int .i64 i), (15, .own 2 i), (14, .own 3 (i * k)), (9, .bool true), (4, .ref 0 1 0), (3, .int .i64 n), (2, .list l.length (ks .i32 l))],
      [⟨t0, 2, 1, [.int .i64 k, .int .i64 x], 0⟩, ⟨t1, 16, 1, ks .i32 t, 0⟩, ⟨t2, 1, i, ks .i32 (oneL k l i), 0⟩, ⟨t2, 1, i * k, ks .i32 (samL k l (i * k)), 0⟩]⟩) (fun i => i ≤ n) (fun i => n - i) 0 ?_ (by omega) ?_
  · rw [Nat.zero_mul]
    exact Le.trans (Le.virt 15 t2 1 (by decide) rfl) (Le.trans (Le.virt 14 t2 1 (by decide) rfl) (Le.slots (by simp [Am.look, oneL, samL])))
  intro i hi
  have D1 : ∀ a b, Low 4 [⟨t0, 2, 1, [.int .i64 k, .int .i64 x], 0⟩, ⟨t1, 16, 1, ks .i32 t, 0⟩, ⟨t2, 1, a, ks .i32 (oneL k l a), 0⟩, ⟨t2, 1, b, ks .i32 (samL k l b), 0⟩] := fun a b =>
    Low.cons (by simp [lowL, lowV]) (Low.cons (lowL_D _ (isDL_ks _ _)) (Low.cons (lowL_D _ (isDL_ks _ _)) (Low.cons (lowL_D _ (isDL_ks _ _)) Low.nil)))
  have ol : ∀ a, (ks .i32 (oneL k l a)).length = a := fun a => by rw [ks_length, oneL_len]
  have sl : ∀ a, (ks .i32 (samL k l a)).length = a := fun a => by rw [ks_length, samL_len]
  by_cases hin : i < n
  · have hik : i * k + k ≤ T := by
      have := Nat.mul_le_mul_right k (show i + 1 ≤ n from hin)
      rw [Nat.add_mul, Nat.one_mul, ← hT] at this
      exact this
    have e8 : (i : Int) * k = ((i * k : Nat) : Int) := by simp
    have hnx : (i + 1) * k = i * k + k := by rw [Nat.add_mul, Nat.one_mul]
    have ha := ks_at (K := .i32) (l := l) (i := i * k) (by omega)
    have hos1 : ks .i32 (oneL k l i) ++ [.int .i32 (l.getD (i * k) 0)] = ks .i32 (oneL k l (i + 1)) := by rw [ks_snoc, oneL_succ]
    have hss : ∀ d, d < k → ks .i32 (samL k l (i * k + d)) ++ [.int .i32 (l.getD (i * k) 0)] = ks .i32 (samL k l (i * k + (d + 1))) := fun d hd => by
      have := samL_succ k l (i * k + d)
      have e : (i * k + d) / k = i := by rw [Nat.mul_comm]; exact (seg_div hd).1
      rw [e] at this
      rw [ks_snoc, this]
      rfl
    obtain ⟨p, hp⟩ : ∃ p, p = i * k := ⟨_, rfl⟩
    rw [← hp] at hik e8 hnx ha hos1 hss ⊢
    have ol1 := ol i
    generalize hO1 : ks .i32 (oneL k l (i + 1)) = O1 at *
    have D2 : ∀ b, Low 4 [⟨t0, 2, 1, [.int .i64 k, .int .i64 x], 0⟩, ⟨t1, 16, 1, ks .i32 t, 0⟩, ⟨t2, 1, i + 1, O1, 0⟩, ⟨t2, 1, b, ks .i32 (samL k l b), 0⟩] := fun b => by have := D1 (i + 1) b; rw [hO1] at this; exact this
    generalize ks .i32 (oneL k l i) = O0 at *
    generalize l.getD (i * k) 0 = y at *
    generalize l.getD p 0 = y at *
    simp (maxSteps := 4000000) (disch := omega) only [step, stepv, ev, wl, wn, wp, wz, aop, cV, cV1, AV.one, partCells, okW, onlyFr, app, sliceCells, cellsAt, srcA, subA, eqFs, Int.cast_ofNat_Int, simprocAttr, e8, kl, ha, ol1, hos1]
    refine ALoop.by (ι := Nat) (fun d => ⟨[(17, .int .i64 d), (16, .int .i64 i), (15, .own 2 (i + 1)), (14, .own 3 (p + d)), (9, .bool true), (4, .ref 0 1 0), (3, .int .i64 n), (2, .list l.length (ks .i32 l))],
        [⟨t0, 2, 1, [.int .i64 k, .int .i64 x], 0⟩, ⟨t1, 16, 1, ks .i32 t, 0⟩, ⟨t2, 1, i + 1, O1, 0⟩, ⟨t2, 1, p + d, ks .i32 (samL k l (p + d)), 0⟩]⟩) (fun d => d ≤ k) (fun d => k - d) 0 ?_ (by omega) ?_
    · rw [Nat.add_zero]
      refine Le.low (ob := [_, _, _, _]) (J := [_]) (Nat.zero_le _) (D2 p) ?_
      simp [Am.look, lowV, lowL_D _ (isDL_ks _ _)]
    intro d hd
    by_cases hdk : d < k
    · have hs1 := hss d hdk
      have sl1 := sl (p + d)
      generalize hS1 : ks .i32 (samL k l (p + (d + 1))) = S1 at *
      have D3 := D2 (p + (d + 1))
      rw [hS1] at D3
      generalize ks .i32 (samL k l (p + d)) = S0 at *
      simp (maxSteps := 4000000) (disch := omega) only [step, stepv, ev, wl, wn, wp, wz, aop, cV, cV1, AV.one, partCells, okW, onlyFr, app, sliceCells, cellsAt, srcA, subA, eqFs, Int.cast_ofNat_Int, simprocAttr, e8, kl, ha, sl1, hs1]
      refine ⟨d + 1, by omega, by omega, ?_⟩
      simp only [hS1]
      refine Le.low (ob := [_, _, _, _]) (J := [_]) (Nat.zero_le _) D3 ?_
      simp [Am.look, lowV, lowL_D _ (isDL_ks _ _), Nat.add_assoc]
    · obtain rfl : d = k := by omega
      simp (maxSteps := 4000000) (disch := omega) only [step, stepv, ev, wl, wn, wp, wz, aop, cV, cV1, AV.one, partCells, okW, onlyFr, app, sliceCells, cellsAt, srcA, subA, eqFs, Int.cast_ofNat_Int, simprocAttr]
      refine ⟨i + 1, by omega, by omega, ?_⟩
      simp only [hnx, hO1]
      exact Le.slots (by simp [Am.look])
  obtain rfl : i = n := by omega
  rw [← hT]
  have TO := isTL_ks .i32 (oneL k l i)
  have TS := isTL_ks .i32 (samL k l T)
  have ol1 := ol i
  have sl1 := sl T
  generalize ks .i32 (oneL k l i) = O at *
  generalize ks .i32 (samL k l T) = S at *
  simp (maxSteps := 4000000) (disch := omega) only [step, stepv, ev, wl, wn, wp, wz, aop, cV, cV1, AV.one, partCells, okW, onlyFr, app, sliceCells, cellsAt, srcA, subA, eqFs, Int.cast_ofNat_Int, simprocAttr, hk, ot, tt]
  refine callQ.still 1 [3] hV3' (by simp [frzN, frzK, frzL, frzV, frzL_T _ TS]) ?_
  simp (maxSteps := 4000000) (disch := omega) only [step, stepv, ev, wl, wn, wp, wz, aop, cV, cV1, AV.one, partCells, okW, onlyFr, app, sliceCells, cellsAt, srcA, subA, eqFs, Int.cast_ofNat_Int, simprocAttr, stillAt, hk, ot, tt]
  refine callQ.still 1 [2] hV4' (by simp [frzN, frzK, frzL, frzV, frzL_T _ TO]) ?_
  simp (maxSteps := 4000000) (disch := omega) only [step, stepv, ev, wl, wn, wp, wz, aop, cV, cV1, AV.one, partCells, okW, onlyFr, app, sliceCells, cellsAt, srcA, subA, eqFs, Int.cast_ofNat_Int, simprocAttr, stillAt, kX, kY, ol1, sl1]
  refine ALoop.by (ι := Nat) (fun j => ⟨[(22, .int .i64 j), (20, .list i (ks .u32 Y)), (18, .list T (ks .u32 X)), (9, .bool true), (4, .ref 0 1 0)], _⟩) (fun j => j ≤ T) (fun j => T - j) 0 (Le.slots (by simp [Am.look])) (by omega) ?_
  intro j hj
  by_cases hjT : j < T
  · obtain ⟨r, hr⟩ : ∃ r, r = j % k := ⟨_, rfl⟩
    obtain ⟨q, hq⟩ : ∃ q, q = j / k := ⟨_, rfl⟩
    have hrc : r < k := by rw [hr]; exact Nat.mod_lt _ (by omega)
    have q1 : (j : Int) % k = (r : Int) := by rw [hr]; simp [Int.natCast_emod]
    have q1' : ((j : Int)).tmod (k : Int) = (r : Int) := by rw [Int.tmod_eq_emod_of_nonneg (by omega), q1]
    have q2 : (j : Int) / k = (q : Int) := by rw [hq]; simp [Int.natCast_ediv]
    have q2' : ((j : Int)).tdiv (k : Int) = (q : Int) := by rw [Int.tdiv_eq_ediv_of_nonneg (by omega), q2]
    have hqn : q < i := by
      rw [hq]
      exact (Nat.div_lt_iff_lt_mul c1).2 (by rw [← hT]; exact hjT)
    have hax := ks_at (K := .u32) (l := X) (i := j) (by rw [hXl]; exact hjT)
    have hay := ks_at (K := .u32) (l := Y) (i := q) (by rw [hYl]; exact hqn)
    have ho := hos j hjT
    rw [← hr, ← hq] at ho
    rw [ho] at hax
    by_cases hrk : r = k - 1
    · rw [if_pos hrk] at hax
      have hrk' : (r : Int) = (k : Int) - 1 := by omega
      generalize Y.getD q 0 = y at *
      simp (maxSteps := 4000000) (disch := omega) only [step, stepv, ev, wl, wn, wp, wz, aop, cV, cV1, AV.one, partCells, okW, onlyFr, app, sliceCells, cellsAt, srcA, subA, eqFs, Int.cast_ofNat_Int, simprocAttr, kX, kY, q1, q1', q2, q2', hc0, hax, hay]
      exact ⟨j + 1, by omega, by omega, Le.slots (by simp [Am.look])⟩
    · rw [if_neg hrk] at hax
      have hrk' : (r : Int) ≠ (k : Int) - 1 := by omega
      simp (maxSteps := 4000000) (disch := omega) only [step, stepv, ev, wl, wn, wp, wz, aop, cV, cV1, AV.one, partCells, okW, onlyFr, app, sliceCells, cellsAt, srcA, subA, eqFs, Int.cast_ofNat_Int, simprocAttr, kX, kY, q1, q1', q2, q2', hc0, hax, hay]
      exact ⟨j + 1, by omega, by omega, Le.slots (by simp [Am.look])⟩
  · obtain rfl : j = T := by omega
    simp (maxSteps := 4000000) (disch := omega) only [step, stepv, ev, wl, wn, wp, wz, aop, cV, cV1, AV.one, partCells, okW, onlyFr, app, sliceCells, cellsAt, srcA, subA, eqFs, Int.cast_ofNat_Int, simprocAttr, kX]

end Go.Am
