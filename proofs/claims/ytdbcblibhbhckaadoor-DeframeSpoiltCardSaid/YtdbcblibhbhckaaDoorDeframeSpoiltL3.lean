/- What the functions that the law reaches return, for every program that has their code; the conditions stand in each statement. -/
import Derived.Test.YtdbcblibhbhckaaDoorDeframeSpoiltL2
set_option linter.unusedSectionVars false
set_option linter.unusedSimpArgs false
set_option linter.unusedVariables false
namespace Go.Am
open Go.RowKit

/-! ### A spoilt frame: the law DeframeSpoilt -/

theorem dec_pre {k n : Nat} {x : Int} {t l : List Int} (hL : I32 l) (h : askN k x l = 0) (hn : ask21 k x n = 0) (he : errD k x t n (encB k x t l) = 0) :
    (decL k x t n (encB k x t l)).take (min l.length (n * k)) = l.take (min l.length (n * k)) ∧ (decL k x t n (encB k x t l)).length = n * k := by
  obtain ⟨k', m, ek, hkM, hx, e1, e2, e3, e4, e5, e6⟩ := ask_all hL h
  have ek' : k' = k := by omega
  subst ek'
  obtain ⟨c1, c6, l0, l4, lm, _⟩ := hkM
  have hv := valE_ok k' x t l
  have hl := valE_len k' x t l
  have hun : unB k' x t (iL (valE k' x t l)) = l := by rw [iL_valE]; exact unB_out c1 hL lm
  have hlen := (enc_dec hn he).2.1
  have hd : decL k' x t n (encB k' x t l) = unB k' x t (iL (vlsM (allV (encB k' x t l) k' n))) := by unfold decL; rw [if_pos he]; simp only [Int.toNat_natCast]
  have ha : allV (encB k' x t l) k' n = valsM (leN (frmB k' (valE k' x t l))) (8 * (frmB k' (valE k' x t l)).length) k' (n * k') [] 0 := by
    unfold allV encB
    rw [seal_take]
  have hlen' : (decL k' x t n (encB k' x t l)).length = n * k' := by
    have : (n : Int) * k' = ((n * k' : Nat) : Int) := by simp
    omega
  refine ⟨?_, hlen'⟩
  rcases Nat.le_total (n * k') l.length with hle | hge
  · have hf := vals_fewer (c := k') (K := n * k') hv (by omega)
    rw [Nat.min_eq_right hle, hd, ha, hf]
    simp only [vlsM]
    rw [← iL_take, unB_take c1 (by rw [iL_len]; omega), hun, List.take_take, Nat.min_self]
  · have hm := vals_more (c := k') (K := n * k') hv (by omega)
    rw [Nat.min_eq_left hge, List.take_length, hd, ha]
    generalize vlsM (valsM (leN (frmB k' (valE k' x t l))) (8 * (frmB k' (valE k' x t l)).length) k' (n * k') [] 0) = o at *
    obtain ⟨m1, m2⟩ := hm
    rw [e3, ← unB_take c1 (by rw [iL_len]; omega), iL_take, ← e3, ← hl, m1, hun]

def S_Longer (P : Prg) (f : Nat) : Prop := ∀ (c : Nat) (x : Int) (t a b : List Int), t.length = 16 → I32 t → I32 a → I32 b → askN c x a = 0 → askN c x b = 0 → encB c x t a = encB c x t b → a.take (min a.length b.length) = b.take (min a.length b.length) → VC P f [shA c x, .agg (ks .i32 t), il a, il b] (.bool true)
set_option maxHeartbeats 1000000 in
theorem law21_longer {P : Prg} {f fE fI t0 t1 : Nat} (bd : Body P f 53 [.tmp 8] (ac_cadenzalaw21_longer fE fI t0 t1)) (hE : S_Enc P fE) (hI0 : S_ISame P fI) : S_Longer P f := by
  intro c x t a b ht hI ha hb qa qb he hp
  have hk : (ks .i32 t).length = 16 := by simp [ks_length, ht]
  have tt : (ks .i32 t).take 16 = ks .i32 t := take_all (by omega)
  have ot := ks_one .i32 t
  refine VC.of_acall (by simp [isDL, isD, isD_il, isDL_ks, shA]) rfl (ACall.of_body bd (by simp) ?_)
  have hA' := hE c x t a ht hI ha
  have hB' := hE c x t b ht hI hb
  rw [enfA_ok qa] at hA'
  rw [enfA_ok qb, ← he] at hB'
  have hla : a.length ≤ 4000 := by
    obtain ⟨_, _, _, hk, _⟩ := ask_all ha qa
    exact hk.2.2.2.1
  have hlb : b.length ≤ 4000 := by
    obtain ⟨_, _, _, hk, _⟩ := ask_all hb qb
    exact hk.2.2.2.1
  have hIs := hI0 (a.take (min a.length b.length)) (by simp; omega)
  have pb : (ks .i32 b).take (min a.length b.length) = ks .i32 (a.take (min a.length b.length)) := by rw [hp]; simp [ks, List.map_take]
  have pa : (ks .i32 a).take (min a.length b.length) = ks .i32 (a.take (min a.length b.length)) := by simp [ks, List.map_take]
  have hpl : (a.take (min a.length b.length)).length = min a.length b.length := by simp
  have hka : (ks .i32 a).length = a.length := ks_length _ _
  have hkb : (ks .i32 b).length = b.length := ks_length _ _
  have hmin : (if ((b.length : Nat) : Int) < (a.length : Int) then (b.length : Int) else (a.length : Int)) = ((min a.length b.length : Nat) : Int) := by split <;> omega
  have hma : min a.length b.length ≤ a.length := Nat.min_le_left _ _
  have hmb : min a.length b.length ≤ b.length := Nat.min_le_right _ _
  simp only [shA, il, bs, hpl] at hA' hB' hIs ⊢
  generalize a.take (min a.length b.length) = p at *
  generalize min a.length b.length = mn at *
  generalize encB c x t a = B at *
  have hBl : (u8 B).length = B.length := u8_length B
  have hst : strA .neq B B = some (.bool false) := by simp [strA]
  simp (maxSteps := 4000000) (disch := omega) only [step, stepv, ev, wl, wn, wp, wz, aop, cV, cV1, AV.one, partCells, okW, onlyFr, app, sliceCells, cellsAt, srcA, subA, eqFs, Int.cast_ofNat_Int, simprocAttr, ac_cadenzalaw21_longer, hk, ot, tt]
  refine callQ.vc hA' ?_
  simp (maxSteps := 4000000) (disch := omega) only [step, stepv, ev, wl, wn, wp, wz, aop, cV, cV1, AV.one, partCells, okW, onlyFr, app, sliceCells, cellsAt, srcA, subA, eqFs, Int.cast_ofNat_Int, simprocAttr, hk, ot, tt]
  refine callQ.vc hB' ?_
  simp (maxSteps := 4000000) (disch := omega) only [step, stepv, ev, wl, wn, wp, wz, aop, cV, cV1, AV.one, partCells, okW, onlyFr, app, sliceCells, cellsAt, srcA, subA, eqFs, Int.cast_ofNat_Int, simprocAttr, hst, hmin, hka, hkb, pa, pb, Nat.sub_zero]
  refine callD.vc hIs ?_
  simp (maxSteps := 4000000) (disch := omega) only [step, stepv, ev, wl, wn, wp, wz, aop, cV, cV1, AV.one, partCells, okW, onlyFr, app, sliceCells, cellsAt, srcA, subA, eqFs, Int.cast_ofNat_Int, simprocAttr]

def S_LawSpoilt (P : Prg) (f : Nat) : Prop := ∀ (c x : Int) (t l : List Int) (a n : Int), t.length = 16 → I32 t → I32 l → VC P f [shA c x, .agg (ks .i32 t), il l, .int .i64 a, .int .i64 n] (.bool true)
set_option maxHeartbeats 2000000 in
set_option maxRecDepth 20000 in
theorem law21_DeframeSpoilt {P : Prg} {f fA fQ fR fE fD fL t0 t1 t2 : Nat} (bd : Body P f 166 [.tmp 10] (ac_cadenzalaw21_DeframeSpoilt fA fQ fR fE fD fL t0 t1 t2)) (hA : S_alive21 P fA) (hQ : S_EAsk P fQ) (hR : S_Ask21 P fR) (hE : S_Enc P fE) (hD : S_Decode P fD) (hG : S_Longer P fL) : S_LawSpoilt P f := by
  intro c x t l a n ht hI hL
  have hk : (ks .i32 t).length = 16 := by simp [ks_length, ht]
  have tt : (ks .i32 t).take 16 = ks .i32 t := take_all (by omega)
  have ot := ks_one .i32 t
  have tl := isTL_ks .i32 l
  have tk := isTL_ks .i32 t
  refine VC.of_acall (by simp [isDL, isD, isD_il, isDL_ks, shA]) rfl (ACall.of_cut 9 bd (by simp) ?_)
  have hA' : VC P fA [] (.bool true) := hA
  have hQ' := hQ c x l hL
  have hR' := hR c x n
  have hE' := hE c x t l ht hI hL
  simp only [shA, il] at hQ' hE' hR' ⊢
  have hll : (ks .i32 l).length = l.length := ks_length _ _
  by_cases h1 : 300 < l.length
  · simp (maxSteps := 4000000) (disch := omega) only [step, stepv, ev, wl, wn, wp, wz, aop, cV, cV1, AV.one, partCells, okW, onlyFr, app, sliceCells, cellsAt, srcA, subA, eqFs, Int.cast_ofNat_Int, simprocAttr, ac_cadenzalaw21_DeframeSpoilt, cuts, hk, ot, tt]
    refine callQ.vc hA' ?_
    simp (maxSteps := 4000000) (disch := omega) only [step, stepv, ev, wl, wn, wp, wz, aop, cV, cV1, AV.one, partCells, okW, onlyFr, app, sliceCells, cellsAt, srcA, subA, eqFs, Int.cast_ofNat_Int, simprocAttr, cuts]
  by_cases h0 : askN c x l = 0
  case neg =>
    simp (maxSteps := 4000000) (disch := omega) only [step, stepv, ev, wl, wn, wp, wz, aop, cV, cV1, AV.one, partCells, okW, onlyFr, app, sliceCells, cellsAt, srcA, subA, eqFs, Int.cast_ofNat_Int, simprocAttr, ac_cadenzalaw21_DeframeSpoilt, cuts, hk, ot, tt]
    refine callQ.vc hA' ?_
    simp (maxSteps := 4000000) (disch := omega) only [step, stepv, ev, wl, wn, wp, wz, aop, cV, cV1, AV.one, partCells, okW, onlyFr, app, sliceCells, cellsAt, srcA, subA, eqFs, Int.cast_ofNat_Int, simprocAttr, cuts, h1]
    refine callQ.vc hQ' ?_
    simp (maxSteps := 4000000) (disch := omega) only [step, stepv, ev, wl, wn, wp, wz, aop, cV, cV1, AV.one, partCells, okW, onlyFr, app, sliceCells, cellsAt, srcA, subA, eqFs, Int.cast_ofNat_Int, simprocAttr, cuts, h0]
  rw [h0] at hQ'
  by_cases h2 : ask21 c x n = 0
  case neg =>
    simp (maxSteps := 4000000) (disch := omega) only [step, stepv, ev, wl, wn, wp, wz, aop, cV, cV1, AV.one, partCells, okW, onlyFr, app, sliceCells, cellsAt, srcA, subA, eqFs, Int.cast_ofNat_Int, simprocAttr, ac_cadenzalaw21_DeframeSpoilt, cuts, hk, ot, tt]
    refine callQ.vc hA' ?_
    simp (maxSteps := 4000000) (disch := omega) only [step, stepv, ev, wl, wn, wp, wz, aop, cV, cV1, AV.one, partCells, okW, onlyFr, app, sliceCells, cellsAt, srcA, subA, eqFs, Int.cast_ofNat_Int, simprocAttr, cuts, h1]
    refine callQ.vc hQ' ?_
    simp (maxSteps := 4000000) (disch := omega) only [step, stepv, ev, wl, wn, wp, wz, aop, cV, cV1, AV.one, partCells, okW, onlyFr, app, sliceCells, cellsAt, srcA, subA, eqFs, Int.cast_ofNat_Int, simprocAttr, cuts]
    refine callQ.vc hR' ?_
    simp (maxSteps := 4000000) (disch := omega) only [step, stepv, ev, wl, wn, wp, wz, aop, cV, cV1, AV.one, partCells, okW, onlyFr, app, sliceCells, cellsAt, srcA, subA, eqFs, Int.cast_ofNat_Int, simprocAttr, cuts, h2]
  rw [h2] at hR'
  obtain ⟨hle1, hle2⟩ := enc_le (t := t) hL h0
  have h0' := h0
  obtain ⟨k, m, rfl, hkM, hx, e1, e2, e3, e4, e5, e6⟩ := ask_all hL h0
  obtain ⟨c1, c6, l0, l4, lm, _⟩ := hkM
  have hc0 : (k : Int) ≠ 0 := by omega
  have hmle : m ≤ l.length := by rw [e3]; exact Nat.le_mul_of_pos_right m c1
  have e5' : ((l.length : Int)).tdiv (k : Int) = (m : Int) := by rw [Int.tdiv_eq_ediv_of_nonneg (by omega)]; exact e5
  have h21 : ask21 k x m = 0 := by rw [← e5]; exact e6
  rw [enfA_ok h0] at hE'
  rw [Int.toNat_natCast] at hle1 hle2
  by_cases h3 : a < 0
  · simp only [shA, bs] at hE'
    generalize encB k x t l = b at *
    have hbl : (u8 b).length = b.length := u8_length b
    have hb5 : ¬ ((b.length : Int) < 5) := by omega
    simp (maxSteps := 4000000) (disch := omega) only [step, stepv, ev, wl, wn, wp, wz, aop, cV, cV1, AV.one, partCells, okW, onlyFr, app, sliceCells, cellsAt, srcA, subA, eqFs, Int.cast_ofNat_Int, simprocAttr, ac_cadenzalaw21_DeframeSpoilt, cuts, hk, ot, tt]
    refine callQ.vc hA' ?_
    simp (maxSteps := 4000000) (disch := omega) only [step, stepv, ev, wl, wn, wp, wz, aop, cV, cV1, AV.one, partCells, okW, onlyFr, app, sliceCells, cellsAt, srcA, subA, eqFs, Int.cast_ofNat_Int, simprocAttr, cuts, h1]
    refine callQ.vc hQ' ?_
    simp (maxSteps := 4000000) (disch := omega) only [step, stepv, ev, wl, wn, wp, wz, aop, cV, cV1, AV.one, partCells, okW, onlyFr, app, sliceCells, cellsAt, srcA, subA, eqFs, Int.cast_ofNat_Int, simprocAttr, cuts]
    refine callQ.vc hR' ?_
    simp (maxSteps := 4000000) (disch := omega) only [step, stepv, ev, wl, wn, wp, wz, aop, cV, cV1, AV.one, partCells, okW, onlyFr, app, sliceCells, cellsAt, srcA, subA, eqFs, Int.cast_ofNat_Int, simprocAttr, cuts, hk, ot, tt]
    refine callQ.vc hE' ?_
    simp (maxSteps := 4000000) (disch := omega) only [step, stepv, ev, wl, wn, wp, wz, aop, cV, cV1, AV.one, partCells, okW, onlyFr, app, sliceCells, cellsAt, srcA, subA, eqFs, Int.cast_ofNat_Int, simprocAttr, cuts, hbl, h3]
  obtain ⟨a, rfl⟩ : ∃ n : Nat, a = n := ⟨a.toNat, by omega⟩
  obtain ⟨_, k', n', ek, rfl, p1, p2, p3, p4, p5⟩ := ask21_cases h2
  have ek' : k' = k := by omega
  subst ek'
  have hpre := dec_pre (t := t) hL h0' h2
  have hde := dec_eq k' x n' t (encB k' x t l)
  have hen := enc_dec (t := t) (b := encB k' x t l) h2
  rw [Int.toNat_natCast] at hen
  have hD0 := fun m b (hb : b.length ≤ 1000000) => hD k' x m t b ht hI hb
  have hG' := fun y => hG k' x t l y ht hI hL
  have ho : openM (encB k' x t l) = 0 := by
    have hvl := valE_len k' x t l
    obtain ⟨b1, b2⟩ := frmB_bounds (c := k') (valE_ok k' x t l) (by omega) (by omega)
    exact open_seal b1 (by omega)
  have hD2 := hD0 n' (encB k' x t l) (by omega)
  rw [hde.1] at hD2
  generalize hb : encB k' x t l = b at *
  -- spoilt in a bit
  have hbl : (u8 b).length = b.length := u8_length b
  obtain ⟨A, hAdef⟩ : ∃ A, A = a % (8 * b.length) := ⟨_, rfl⟩
  have hA1 : A < 8 * b.length := by rw [hAdef]; exact Nat.mod_lt _ (by omega)
  have r1 : (a : Int) % (8 * (b.length : Int)) = (A : Int) := by rw [hAdef]; simp
  have r1' : ((a : Int)).tmod (8 * (b.length : Int)) = (A : Int) := by rw [Int.tmod_eq_emod_of_nonneg (by omega)]; exact r1
  have r2 : 8 * (b.length : Int) ≠ 0 := by omega
  have hfl := open_fl (a := A) (B := 1) (i := 1) ho (by omega) (by omega) (by decide)
  have hfe : flV (leN b) A 1 1 = leN b ^^^ 2 ^ A := by simp [flV]
  rw [hfe] at hfl
  obtain ⟨q, hq⟩ : ∃ q, q = A / 8 := ⟨_, rfl⟩
  obtain ⟨r, hr⟩ : ∃ r, r = A % 8 := ⟨_, rfl⟩
  have hA8 : 8 * q + r = A := by omega
  have hqb : q < b.length := by omega
  have hr8 : r < 8 := by omega
  have hbb : leB (leN b) b.length = b := leB_leN b
  have hat := leB_at (V := leN b) (k := b.length) (i := q) hqb
  have hst := u8_flip (V := leN b) hqb hr8
  rw [hbb] at hat hst
  rw [hA8] at hst
  have hy : leN b / 256 ^ q % 256 < 256 := Nat.mod_lt _ (by decide)
  have hp : 2 ^ r < 2 ^ 8 := Nat.pow_lt_pow_right (by decide) hr8
  have s3 : shiftA true .u8 1 (r : Int) = some (.int .u8 ((2 ^ r : Nat) : Int)) := by
    have := shlK (K := .u8) rfl (c := 1) (s := r) (by show r ≤ 8; omega) (by rw [Nat.one_mul]; exact hp)
    rw [Nat.one_mul] at this
    exact this
  have s4 := xorK (K := .u8) rfl (a := leN b / 256 ^ q % 256) (b := 2 ^ r) hy hp
  have s5 : (u8 b).take q ++ [.int .u8 ((leN b / 256 ^ q % 256 ^^^ 2 ^ r : Nat) : Int)] ++ (u8 b).drop (q + 1) = u8 (leB (leN b ^^^ 2 ^ A) b.length) := by
    rw [← hst]; simp
  have j1 : (A : Int) / 8 = (q : Int) := by omega
  have j2 : ((A : Int)).tdiv 8 = (q : Int) := by rw [Int.tdiv_eq_ediv_of_nonneg (by omega)]; exact j1
  have j3 : (A : Int) % 8 = (r : Int) := by omega
  have j4 : ((A : Int)).tmod 8 = (r : Int) := by rw [Int.tmod_eq_emod_of_nonneg (by omega)]; exact j3
  generalize leN b / 256 ^ q % 256 ^^^ 2 ^ r = z at *
  generalize leN b / 256 ^ q % 256 = y at *
  generalize 2 ^ r = pr at *
  have hbl2 : (leB (leN b ^^^ 2 ^ A) b.length).length = b.length := leB_length _ _
  generalize leB (leN b ^^^ 2 ^ A) b.length = b2 at *
  have f2 := errD_open (t := t) (b := b2) h21 (by omega)
  have hD1 := hD0 m b2 (by omega)
  rw [(dec_eq k' x m t b2).1, f2, hfl] at hD1
  -- a byte less
  have g1 := open_less ho
  have hbl3 : (b.take (b.length - 1)).length = b.length - 1 := by simp
  have hD3 := hD0 m (b.take (b.length - 1)) (by omega)
  have f3 := errD_open (t := t) (b := b.take (b.length - 1)) h21 g1
  rw [(dec_eq k' x m t (b.take (b.length - 1))).1, f3] at hD3
  have tk1 : (u8 b).take (b.length - 1) = u8 (b.take (b.length - 1)) := u8_take _ _
  -- a byte more
  have g2 := open_more ho 0
  have hbl4 : (b ++ [0]).length = b.length + 1 := by simp
  have hD4 := hD0 m (b ++ [0]) (by omega)
  have f4 := errD_open (t := t) (b := b ++ [0]) h21 g2
  rw [(dec_eq k' x m t (b ++ [0])).1, f4] at hD4
  have ap1 : u8 b ++ [.int .u8 0] = u8 (b ++ [0]) := by simp [u8]
  simp only [shA, bs, il, hbl2, hbl3, hbl4] at hE' hD1 hD2 hD3 hD4
  have hb1 : ((b.length : Int) - 1) = ((b.length - 1 : Nat) : Int) := by omega
  have tb2 := isT_u8 b2
  have tb := isT_u8 b
  have tb4 := isT_u8 (b ++ [0])
  have hg1 : ((openM (b.take (b.length - 1)) : Nat) : Int) ≠ 0 := by omega
  have hg2 : ((openM (b ++ [0]) : Nat) : Int) ≠ 0 := by omega
  generalize ((openM (b.take (b.length - 1)) : Nat) : Int) = o3 at *
  generalize ((openM (b ++ [0]) : Nat) : Int) = o4 at *
  generalize (decL k' x t m b2).length = l2 at *
  generalize ks .i32 (decL k' x t m b2) = d2 at *
  generalize (decL k' x t m (b.take (b.length - 1))).length = l3 at *
  generalize ks .i32 (decL k' x t m (b.take (b.length - 1))) = d3 at *
  generalize (decL k' x t m (b ++ [0])).length = l4' at *
  generalize ks .i32 (decL k' x t m (b ++ [0])) = d4 at *
  by_cases q1 : errD k' x t n' b = 0
  · rw [q1] at hD2
    by_cases q2 : n' = m
    · have hnm : (n' : Int) = (m : Int) := by omega
      generalize (decL k' x t n' b).length = ln at *
      generalize ks .i32 (decL k' x t n' b) = dl at *
      simp (maxSteps := 4000000) (disch := omega) only [step, stepv, ev, wl, wn, wp, wz, aop, cV, cV1, AV.one, partCells, okW, onlyFr, app, sliceCells, cellsAt, srcA, subA, eqFs, Int.cast_ofNat_Int, simprocAttr, ac_cadenzalaw21_DeframeSpoilt, cuts, hk, ot, tt]
      refine callQ.vc hA' ?_
      simp (maxSteps := 4000000) (disch := omega) only [step, stepv, ev, wl, wn, wp, wz, aop, cV, cV1, AV.one, partCells, okW, onlyFr, app, sliceCells, cellsAt, srcA, subA, eqFs, Int.cast_ofNat_Int, simprocAttr, cuts, h1]
      refine callQ.vc hQ' ?_
      simp (maxSteps := 4000000) (disch := omega) only [step, stepv, ev, wl, wn, wp, wz, aop, cV, cV1, AV.one, partCells, okW, onlyFr, app, sliceCells, cellsAt, srcA, subA, eqFs, Int.cast_ofNat_Int, simprocAttr, cuts]
      refine callQ.vc hR' ?_
      simp (maxSteps := 4000000) (disch := omega) only [step, stepv, ev, wl, wn, wp, wz, aop, cV, cV1, AV.one, partCells, okW, onlyFr, app, sliceCells, cellsAt, srcA, subA, eqFs, Int.cast_ofNat_Int, simprocAttr, cuts, hk, ot, tt]
      refine callQ.vc hE' ?_
      simp (maxSteps := 4000000) (disch := omega) only [step, stepv, ev, wl, wn, wp, wz, aop, cV, cV1, AV.one, partCells, okW, onlyFr, app, sliceCells, cellsAt, srcA, subA, eqFs, Int.cast_ofNat_Int, simprocAttr, cuts, hbl, h3, e5, e5', hc0, r1, r1', r2, j1, j2, j3, j4, hat, s3, s4, s5, hst]
      refine ⟨⟨[(16, .list b.length (u8 b2)), (14, .int .i64 m), (13, .int .i64 0), (12, .list b.length (u8 b)), (11, .bool true), (6, .cell (ks .i32 t)), (5, .cell [.int .i64 k', .int .i64 x]), (4, .int .i64 n'), (2, .list l.length (ks .i32 l))], []⟩, Le.dropT [] (by simp) (by simp [Am.look, frzK, frzL, frzV, frzL_T _ tl, frzL_T _ tk, frzL_T _ tb, frzL_T _ tb2]), ?_⟩
      simp (maxSteps := 4000000) (disch := omega) only [step, stepv, ev, wl, wn, wp, wz, aop, cV, cV1, AV.one, partCells, okW, onlyFr, app, sliceCells, cellsAt, srcA, subA, eqFs, Int.cast_ofNat_Int, simprocAttr, cuts, hk, ot, tt]
      refine callQ.vc hD1 ?_
      simp (maxSteps := 4000000) (disch := omega) only [step, stepv, ev, wl, wn, wp, wz, aop, cV, cV1, AV.one, partCells, okW, onlyFr, app, sliceCells, cellsAt, srcA, subA, eqFs, Int.cast_ofNat_Int, simprocAttr, cuts, hk, ot, tt]
      refine callQ.vc hD2 ?_
      simp (maxSteps := 4000000) (disch := omega) only [step, stepv, ev, wl, wn, wp, wz, aop, cV, cV1, AV.one, partCells, okW, onlyFr, app, sliceCells, cellsAt, srcA, subA, eqFs, Int.cast_ofNat_Int, simprocAttr, cuts, hnm, hk, ot, tt, hbl, tk1, hb1, Nat.sub_zero]
      refine callD.vc hD3 ?_
      simp (maxSteps := 4000000) (disch := omega) only [step, stepv, ev, wl, wn, wp, wz, aop, cV, cV1, AV.one, partCells, okW, onlyFr, app, sliceCells, cellsAt, srcA, subA, eqFs, Int.cast_ofNat_Int, simprocAttr, cuts, ap1, tt, ot, hk]
      refine callD.still 1 0 rfl (by simp [ph]) hD4 (by simp [frzN, frzK, frzL, frzV, frzL_T _ tb4, frzL_T _ tk]) ?_
      simp (maxSteps := 4000000) (disch := omega) only [step, stepv, ev, wl, wn, wp, wz, aop, cV, cV1, AV.one, partCells, okW, onlyFr, app, sliceCells, cellsAt, srcA, subA, eqFs, Int.cast_ofNat_Int, simprocAttr, cuts]
    · have hnm : (n' : Int) ≠ (m : Int) := by omega
      obtain ⟨x1, x2, x3, x4⟩ := hen q1
      obtain ⟨y1, y2⟩ := hpre q1
      have hGG := hG' _ x4 h0 x1 x3.symm (by rw [y2]; exact y1.symm)
      simp only [shA, il] at hGG
      generalize (decL k' x t n' b).length = ln at *
      generalize ks .i32 (decL k' x t n' b) = dl at *
      simp (maxSteps := 4000000) (disch := omega) only [step, stepv, ev, wl, wn, wp, wz, aop, cV, cV1, AV.one, partCells, okW, onlyFr, app, sliceCells, cellsAt, srcA, subA, eqFs, Int.cast_ofNat_Int, simprocAttr, ac_cadenzalaw21_DeframeSpoilt, cuts, hk, ot, tt]
      refine callQ.vc hA' ?_
      simp (maxSteps := 4000000) (disch := omega) only [step, stepv, ev, wl, wn, wp, wz, aop, cV, cV1, AV.one, partCells, okW, onlyFr, app, sliceCells, cellsAt, srcA, subA, eqFs, Int.cast_ofNat_Int, simprocAttr, cuts, h1]
      refine callQ.vc hQ' ?_
      simp (maxSteps := 4000000) (disch := omega) only [step, stepv, ev, wl, wn, wp, wz, aop, cV, cV1, AV.one, partCells, okW, onlyFr, app, sliceCells, cellsAt, srcA, subA, eqFs, Int.cast_ofNat_Int, simprocAttr, cuts]
      refine callQ.vc hR' ?_
      simp (maxSteps := 4000000) (disch := omega) only [step, stepv, ev, wl, wn, wp, wz, aop, cV, cV1, AV.one, partCells, okW, onlyFr, app, sliceCells, cellsAt, srcA, subA, eqFs, Int.cast_ofNat_Int, simprocAttr, cuts, hk, ot, tt]
      refine callQ.vc hE' ?_
      simp (maxSteps := 4000000) (disch := omega) only [step, stepv, ev, wl, wn, wp, wz, aop, cV, cV1, AV.one, partCells, okW, onlyFr, app, sliceCells, cellsAt, srcA, subA, eqFs, Int.cast_ofNat_Int, simprocAttr, cuts, hbl, h3, e5, e5', hc0, r1, r1', r2, j1, j2, j3, j4, hat, s3, s4, s5, hst]
      refine ⟨⟨[(16, .list b.length (u8 b2)), (14, .int .i64 m), (13, .int .i64 0), (12, .list b.length (u8 b)), (11, .bool true), (6, .cell (ks .i32 t)), (5, .cell [.int .i64 k', .int .i64 x]), (4, .int .i64 n'), (2, .list l.length (ks .i32 l))], []⟩, Le.dropT [] (by simp) (by simp [Am.look, frzK, frzL, frzV, frzL_T _ tl, frzL_T _ tk, frzL_T _ tb, frzL_T _ tb2]), ?_⟩
      simp (maxSteps := 4000000) (disch := omega) only [step, stepv, ev, wl, wn, wp, wz, aop, cV, cV1, AV.one, partCells, okW, onlyFr, app, sliceCells, cellsAt, srcA, subA, eqFs, Int.cast_ofNat_Int, simprocAttr, cuts, hk, ot, tt]
      refine callQ.vc hD1 ?_
      simp (maxSteps := 4000000) (disch := omega) only [step, stepv, ev, wl, wn, wp, wz, aop, cV, cV1, AV.one, partCells, okW, onlyFr, app, sliceCells, cellsAt, srcA, subA, eqFs, Int.cast_ofNat_Int, simprocAttr, cuts, hk, ot, tt]
      refine callQ.vc hD2 ?_
      simp (maxSteps := 4000000) (disch := omega) only [step, stepv, ev, wl, wn, wp, wz, aop, cV, cV1, AV.one, partCells, okW, onlyFr, app, sliceCells, cellsAt, srcA, subA, eqFs, Int.cast_ofNat_Int, simprocAttr, cuts, hk, ot, tt, hnm]
      refine callQ.vc hGG ?_
      simp (maxSteps := 4000000) (disch := omega) only [step, stepv, ev, wl, wn, wp, wz, aop, cV, cV1, AV.one, partCells, okW, onlyFr, app, sliceCells, cellsAt, srcA, subA, eqFs, Int.cast_ofNat_Int, simprocAttr, cuts, hk, ot, tt, hbl, tk1, hb1, Nat.sub_zero]
      refine callD.vc hD3 ?_
      simp (maxSteps := 4000000) (disch := omega) only [step, stepv, ev, wl, wn, wp, wz, aop, cV, cV1, AV.one, partCells, okW, onlyFr, app, sliceCells, cellsAt, srcA, subA, eqFs, Int.cast_ofNat_Int, simprocAttr, cuts, ap1, tt, ot, hk]
      refine callD.still 1 0 rfl (by simp [ph]) hD4 (by simp [frzN, frzK, frzL, frzV, frzL_T _ tb4, frzL_T _ tk]) ?_
      simp (maxSteps := 4000000) (disch := omega) only [step, stepv, ev, wl, wn, wp, wz, aop, cV, cV1, AV.one, partCells, okW, onlyFr, app, sliceCells, cellsAt, srcA, subA, eqFs, Int.cast_ofNat_Int, simprocAttr, cuts]
  · generalize errD k' x t n' b = e0 at *
    generalize (decL k' x t n' b).length = ln at *
    generalize ks .i32 (decL k' x t n' b) = dl at *
    simp (maxSteps := 4000000) (disch := omega) only [step, stepv, ev, wl, wn, wp, wz, aop, cV, cV1, AV.one, partCells, okW, onlyFr, app, sliceCells, cellsAt, srcA, subA, eqFs, Int.cast_ofNat_Int, simprocAttr, ac_cadenzalaw21_DeframeSpoilt, cuts, hk, ot, tt]
    refine callQ.vc hA' ?_
    simp (maxSteps := 4000000) (disch := omega) only [step, stepv, ev, wl, wn, wp, wz, aop, cV, cV1, AV.one, partCells, okW, onlyFr, app, sliceCells, cellsAt, srcA, subA, eqFs, Int.cast_ofNat_Int, simprocAttr, cuts, h1]
    refine callQ.vc hQ' ?_
    simp (maxSteps := 4000000) (disch := omega) only [step, stepv, ev, wl, wn, wp, wz, aop, cV, cV1, AV.one, partCells, okW, onlyFr, app, sliceCells, cellsAt, srcA, subA, eqFs, Int.cast_ofNat_Int, simprocAttr, cuts]
    refine callQ.vc hR' ?_
    simp (maxSteps := 4000000) (disch := omega) only [step, stepv, ev, wl, wn, wp, wz, aop, cV, cV1, AV.one, partCells, okW, onlyFr, app, sliceCells, cellsAt, srcA, subA, eqFs, Int.cast_ofNat_Int, simprocAttr, cuts, hk, ot, tt]
    refine callQ.vc hE' ?_
    simp (maxSteps := 4000000) (disch := omega) only [step, stepv, ev, wl, wn, wp, wz, aop, cV, cV1, AV.one, partCells, okW, onlyFr, app, sliceCells, cellsAt, srcA, subA, eqFs, Int.cast_ofNat_Int, simprocAttr, cuts, hbl, h3, e5, e5', hc0, r1, r1', r2, j1, j2, j3, j4, hat, s3, s4, s5, hst]
    refine ⟨⟨[(16, .list b.length (u8 b2)), (14, .int .i64 m), (13, .int .i64 0), (12, .list b.length (u8 b)), (11, .bool true), (6, .cell (ks .i32 t)), (5, .cell [.int .i64 k', .int .i64 x]), (4, .int .i64 n'), (2, .list l.length (ks .i32 l))], []⟩, Le.dropT [] (by simp) (by simp [Am.look, frzK, frzL, frzV, frzL_T _ tl, frzL_T _ tk, frzL_T _ tb, frzL_T _ tb2]), ?_⟩
    simp (maxSteps := 4000000) (disch := omega) only [step, stepv, ev, wl, wn, wp, wz, aop, cV, cV1, AV.one, partCells, okW, onlyFr, app, sliceCells, cellsAt, srcA, subA, eqFs, Int.cast_ofNat_Int, simprocAttr, cuts, hk, ot, tt]
    refine callQ.vc hD1 ?_
    simp (maxSteps := 4000000) (disch := omega) only [step, stepv, ev, wl, wn, wp, wz, aop, cV, cV1, AV.one, partCells, okW, onlyFr, app, sliceCells, cellsAt, srcA, subA, eqFs, Int.cast_ofNat_Int, simprocAttr, cuts, hk, ot, tt]
    refine callQ.vc hD2 ?_
    simp (maxSteps := 4000000) (disch := omega) only [step, stepv, ev, wl, wn, wp, wz, aop, cV, cV1, AV.one, partCells, okW, onlyFr, app, sliceCells, cellsAt, srcA, subA, eqFs, Int.cast_ofNat_Int, simprocAttr, cuts, q1, hk, ot, tt, hbl, tk1, hb1, Nat.sub_zero]
    refine callD.vc hD3 ?_
    simp (maxSteps := 4000000) (disch := omega) only [step, stepv, ev, wl, wn, wp, wz, aop, cV, cV1, AV.one, partCells, okW, onlyFr, app, sliceCells, cellsAt, srcA, subA, eqFs, Int.cast_ofNat_Int, simprocAttr, cuts, ap1, tt, ot, hk]
    refine callD.still 1 0 rfl (by simp [ph]) hD4 (by simp [frzN, frzK, frzL, frzV, frzL_T _ tb4, frzL_T _ tk]) ?_
    simp (maxSteps := 4000000) (disch := omega) only [step, stepv, ev, wl, wn, wp, wz, aop, cV, cV1, AV.one, partCells, okW, onlyFr, app, sliceCells, cellsAt, srcA, subA, eqFs, Int.cast_ofNat_Int, simprocAttr, cuts]

end Go.Am
