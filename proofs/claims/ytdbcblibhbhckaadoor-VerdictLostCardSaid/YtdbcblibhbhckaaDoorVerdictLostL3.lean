/- What the functions that the law reaches return, for every program that has their code; the conditions stand in each statement. -/
import Derived.Test.YtdbcblibhbhckaaDoorVerdictLostL2
set_option linter.unusedSectionVars false
set_option linter.unusedSimpArgs false
set_option linter.unusedVariables false
namespace Go.Am
open Go.RowKit

/-! ### Frames read as other moments, and frames that are cut (plain) -/

theorem frm_mono {c : Nat} {v : List Nat} : ∀ j i, frmN c v i ≤ frmN c v (i + j)
  | 0, _ => Nat.le_refl _
  | j + 1, i => by have := frm_mono (c := c) (v := v) j i; rw [← Nat.add_assoc, frmN_succ]; omega
theorem frm_low {c V : Nat} {v : List Nat} (hv : N32 v) : ∀ j i, V % 2 ^ frmN c v (i + j) = frmV c v (i + j) → V % 2 ^ frmN c v i = frmV c v i
  | 0, _, h => h
  | j + 1, i, h => by
    refine frm_low hv j i ?_
    rw [← Nat.add_assoc, frmN_succ, frmV_succ] at h
    exact ((mod_split (frm_bounds hv (i + j)).1).1 h).1

theorem bits_eq {V W a k M : Nat} (h : V % 2 ^ M = W % 2 ^ M) (hM : a + k ≤ M) : V / 2 ^ a % 2 ^ k = W / 2 ^ a % 2 ^ k := by
  have e : ∀ U : Nat, U / 2 ^ a % 2 ^ k = U % 2 ^ M % 2 ^ (a + k) / 2 ^ a := fun U => by
    rw [Nat.mod_mod_of_dvd _ (Nat.pow_dvd_pow 2 hM), Nat.pow_add, Nat.mod_mul_right_div_self]
  rw [e V, e W, h]
theorem readU_mono {V W N M a q nx : Nat} (hW : V % 2 ^ M = W % 2 ^ M) (hN : M ≤ N) (h : readU V M a = .inr (q, nx)) : readU W N a = .inr (q, nx) := by
  obtain ⟨h1, h2⟩ := readU_inv h
  rcases h2 with ⟨h2, rfl, h3⟩ | ⟨rfl, rfl, h3⟩
  · rw [bits_eq hW (by omega)] at h3
    exact readU_low h2 (by omega) h3
  · rw [bits_eq hW (by omega)] at h3
    exact readU_top (by omega) h3
theorem riceM_mono {V W N M a k : Nat} {r : Nat ⊕ (Nat × Nat)} (hW : V % 2 ^ M = W % 2 ^ M) (hN : M ≤ N) (h : riceM V M a k = r) (hr : r ≠ .inl 24) : riceM W N a k = r := by
  unfold riceM at h ⊢
  cases hu : readU V M a with
  | inl e =>
    rw [hu] at h
    have := readU_err hu
    subst this
    exact absurd h.symm hr
  | inr w =>
    obtain ⟨q, n⟩ := w
    rw [hu] at h
    rw [readU_mono hW hN hu]
    simp only at h ⊢
    by_cases hs : M < n + (if q = 48 then 32 else k)
    · rw [if_pos hs] at h; exact absurd h.symm hr
    rw [if_neg hs] at h
    rw [if_neg (by omega)]
    by_cases hq : q < 48
    · rw [if_pos hq] at h ⊢
      rw [if_neg (show ¬ q = 48 by omega)] at hs
      rw [← bits_eq hW (by omega)]
      exact h
    · obtain ⟨_, h2⟩ := readU_inv hu
      have hq' : q = 48 := by omega
      rw [if_neg hq] at h ⊢
      rw [if_pos hq'] at hs
      rw [← bits_eq hW (by omega)]
      exact h
theorem gotM_mono {V W N M a : Nat} {d : Dl} {r : Nat ⊕ (Nat × Nat)} (hW : V % 2 ^ M = W % 2 ^ M) (hN : M ≤ N) (h : gotM V M a d = r) (hr : r ≠ .inl 24) : gotM W N a d = r := by
  unfold gotM at h ⊢
  by_cases h0 : M ≤ a
  · rw [if_pos h0] at h; exact absurd h.symm hr
  rw [if_neg h0] at h
  rw [if_neg (by omega)]
  have hb := bits_eq (a := a) (k := 1) hW (by omega)
  rw [Nat.pow_one] at hb
  rw [← hb]
  by_cases h1 : V / 2 ^ a % 2 = 0
  · rw [if_pos h1] at h ⊢
    by_cases h2 : M < a + 1 + d.k0
    · rw [if_pos h2] at h; exact absurd h.symm hr
    rw [if_neg h2] at h
    rw [if_neg (by omega), ← bits_eq hW (by omega)]
    exact h
  · rw [if_neg h1] at h ⊢
    cases hm : riceM V M (a + 1) d.k1 with
    | inl e =>
      rw [hm] at h
      simp only at h
      have he : (Sum.inl e : Nat ⊕ (Nat × Nat)) ≠ .inl 24 := fun e' => hr (by rw [← h]; exact e')
      rw [riceM_mono hW hN hm he]
      exact h
    | inr w =>
      rw [hm] at h
      rw [riceM_mono hW hN hm (by simp)]
      exact h
theorem prt_mono {V W N M a : Nat} {d : Dl} {r : Nat ⊕ (Nat × Nat)} (hW : V % 2 ^ M = W % 2 ^ M) (hN : M ≤ N) (ha : a ≤ M) (h : gotM (prtV V M a) (prtN M a) 0 d = r) (hr : r ≠ .inl 24) : gotM (prtV W N a) (prtN N a) 0 d = r := by
  have hle : prtN M a ≤ prtN N a := by unfold prtN; omega
  refine gotM_mono ?_ hle h hr
  unfold prtV
  rw [Nat.mod_mod_of_dvd _ (Nat.dvd_refl _), Nat.mod_mod_of_dvd _ (Nat.pow_dvd_pow 2 hle)]
  exact bits_eq hW (by unfold prtN; omega)

theorem vals_cut {V W N M c : Nat} {v : List Nat} (hv : N32 v) (hW : V % 2 ^ M = W % 2 ^ M) (hN : M ≤ N) (hf : frmN c v v.length ≤ N) (hV : W % 2 ^ frmN c v v.length = frmV c v v.length) : ∀ (k i : Nat), i + k = v.length → frmN c v i ≤ M → M < frmN c v v.length → ∃ j, i ≤ j ∧ j < v.length ∧ valsM V M c k (v.take i) (frmN c v i) = .inl (24, v.take j)
  | 0, i, hi, h1, h2 => by
    rw [Nat.add_zero] at hi
    subst hi
    omega
  | k + 1, i, hi, h1, h2 => by
    have hlow : W % 2 ^ frmN c v (i + 1) = frmV c v (i + 1) := frm_low hv k (i + 1) (by rw [show i + 1 + k = v.length by omega]; exact hV)
    rw [frmN_succ, frmV_succ] at hlow
    obtain ⟨_, h3⟩ := (mod_split (frm_bounds hv i).1).1 hlow
    have hd := chan_ok (c := c) (r := i % c) (hv.take i)
    have hl : (v.take i).length = i := by simp; omega
    have hm := frm_mono (c := c) (v := v) k (i + 1)
    rw [show i + 1 + k = v.length by omega, frmN_succ] at hm
    have hfull := prt_code (N := N) (a := frmN c v i) hd (hv.getD i) (by omega) h3
    rw [valsM, hl]
    cases hg : gotM (prtV V M (frmN c v i)) (prtN M (frmN c v i)) 0 (chanM c (i % c) (v.take i)) with
    | inl e =>
      refine ⟨i, Nat.le_refl _, by omega, ?_⟩
      by_cases he : e = 24
      · subst he; rfl
      · have := prt_mono hW hN h1 hg (fun h => he (by cases h; rfl))
        rw [hfull] at this
        cases this
    | inr w =>
      have := prt_mono hW hN h1 hg (by simp)
      rw [hfull] at this
      cases this
      obtain ⟨_, h4, _⟩ := prt_inv hg
      simp only
      have ht : v.take i ++ [v.getD i 0] = v.take (i + 1) := by
        rw [List.take_succ_eq_append_getElem (by omega : i < v.length)]
        simp [List.getD_eq_getElem?_getD, List.getElem?_eq_getElem (by omega : i < v.length)]
      rw [ht, ← frmN_succ]
      obtain ⟨j, j1, j2, j3⟩ := vals_cut hv hW hN hf hV k (i + 1) (by omega) (by rw [frmN_succ]; omega) h2
      exact ⟨j, by omega, j2, j3⟩

theorem leN_take (p : List UInt8) (m : Nat) (h : m ≤ p.length) : leN (p.take m) = leN p % 2 ^ (8 * m) := by
  have h1 : p = p.take m ++ p.drop m := (List.take_append_drop _ _).symm
  have hl : (p.take m).length = m := by simp; omega
  have h2 := leN_lt (p.take m)
  rw [hl] at h2
  have h3 : leN p = leN (p.take m) + 2 ^ (8 * m) * leN (p.drop m) := by
    conv => lhs; rw [h1]
    rw [leN_append, hl]
  rw [h3, Nat.add_mul_mod_self_left, Nat.mod_eq_of_lt h2]
theorem vals_lost {c m : Nat} {v : List Nat} (h : N32 v) (hm : m < (frmB c v).length) : ∃ j, j < v.length ∧ valsM (leN ((frmB c v).take m)) (8 * ((frmB c v).take m).length) c v.length [] 0 = .inl (24, v.take j) := by
  have hl : ((frmB c v).take m).length = m := by simp; omega
  have hb := (frm_bounds (c := c) h v.length).1
  have hlen := frmB_len c v
  rw [hl, leN_take _ _ (by omega), leN_frm h]
  obtain ⟨j, _, j2, j3⟩ := vals_cut (V := frmV c v v.length % 2 ^ (8 * m)) (W := frmV c v v.length) (N := 8 * nB (frmN c v v.length)) (M := 8 * m) (c := c) h (Nat.mod_mod_of_dvd _ (Nat.dvd_refl _)) (by omega) (by unfold nB; omega) (Nat.mod_eq_of_lt hb) v.length 0 (by omega) (by rw [frmN_zero]; omega) (by rw [hlen] at hm; unfold nB at hm; omega)
  rw [List.take_zero, frmN_zero] at j3
  exact ⟨j, j2, j3⟩

theorem iL_take (o : List Nat) (k : Nat) : (iL o).take k = iL (o.take k) := by simp [iL, List.map_take]
theorem iL_len (o : List Nat) : (iL o).length = o.length := by simp [iL]
theorem allP {x : Int} {l : List Int} (h : l.all (inR x) = true) (k c : Nat) : okP c x l k = true := by
  unfold okP
  rw [List.all_eq_true] at h ⊢
  exact fun y hy => h y (List.mem_of_mem_take hy)
theorem good_take {c j : Nat} {x : Int} {t l : List Int} {v : List Nat} (hc : 1 ≤ c) (hl : unB c x t (iL v) = l) (ha : l.all (inR x) = true) (hj : j ≤ v.length) : goodM c x t (iL (v.take j)) = j / c * c := by
  have h1 : (iL (v.take j)).length = j := by rw [iL_len]; simp; omega
  have h2 : j / c * c ≤ j := Nat.div_mul_le_self _ _
  unfold goodM
  rw [h1]
  have h3 : unB c x t ((iL (v.take j)).take (j / c * c)) = l.take (j / c * c) := by
    rw [iL_take, List.take_take, Nat.min_eq_left h2, ← iL_take, unB_take hc (by rw [iL_len]; omega), hl]
  rw [h3]
  congr 1
  refine goodK_eq (Nat.le_refl _) (allP ?_ _ _) (.inl rfl)
  rw [List.all_eq_true] at ha ⊢
  exact fun y hy => ha y (List.mem_of_mem_take hy)
end Go.Am

namespace Go.Am
open Go.RowKit

/-! ### The laws DeframeBack, DeframeOnly -/

theorem enfA_ok {k : Nat} {x : Int} {t l : List Int} (h : askN k x l = 0) : enfA k x t l = .tup [bs (encB k x t l), .int .i64 0] := by
  rw [enfA, if_neg (by omega), Int.toNat_natCast]
end Go.Am

namespace Go.Am
open Go.RowKit

/-! ### law23: judged, alive, VerdictSays -/

def S_Judged (P : Prg) (f : Nat) : Prop := ∀ (n : Int) (b : List UInt8) (e g : Int), b.length ≤ 1000000 → judA 1 16 z16 n b = .tup [.agg [.int .i64 e, .int .i64 g], .int .i64 0] → VC P f [.int .i64 n, bs b, .int .i64 e, .int .i64 g] (.bool true)
theorem law23_judged {P : Prg} {f fJ t0 : Nat} (bd : Body P f 28 [.tmp 8] (ac_cadenzalaw23_judged fJ t0)) (hJ : S_Judge P fJ) : S_Judged P f := by
  intro n b e g hb h
  refine VC.of_acall (by simp [isDL, isD_bs, isD]) rfl (ACall.of_body bd (by simp) ?_)
  have hJ' := hJ 1 16 n z16 b rfl I32_z16 hb
  rw [h] at hJ'
  have hj : VC P fJ [.agg [.int .i64 1, .int .i64 16], .agg [.int .i32 0, .int .i32 0, .int .i32 0, .int .i32 0, .int .i32 0, .int .i32 0, .int .i32 0, .int .i32 0, .int .i32 0, .int .i32 0, .int .i32 0, .int .i32 0, .int .i32 0, .int .i32 0, .int .i32 0, .int .i32 0], .int .i64 n, .list b.length (u8 b)] (.tup [.agg [.int .i64 e, .int .i64 g], .int .i64 0]) := hJ'
  simp (maxSteps := 4000000) (disch := omega) only [step, stepv, ev, wl, wn, wp, wz, aop, cV, cV1, AV.one, partCells, okW, onlyFr, app, sliceCells, cellsAt, srcA, subA, eqFs, Int.cast_ofNat_Int, simprocAttr, ac_cadenzalaw23_judged, bs]
  refine callQ.vc hj ?_
  simp (maxSteps := 4000000) (disch := omega) only [step, stepv, ev, wl, wn, wp, wz, aop, cV, cV1, AV.one, partCells, okW, onlyFr, app, sliceCells, cellsAt, srcA, subA, eqFs, Int.cast_ofNat_Int, simprocAttr]

def fr1 : List UInt8 := [0, 0, 0, 18, 217, 65, 0]
theorem fr0_eq : fr0 = [0, 0, 0, 18, 217, 65, 255] := by decide +kernel
theorem jud_fr (n : Int) (b : List UInt8) (e g : Int) (h0 : ask21 1 16 n = 0) (h1 : errD 1 16 z16 n b = e) (h2 : judG 1 16 z16 n b = g) : judA 1 16 z16 n b = .tup [.agg [.int .i64 e, .int .i64 g], .int .i64 0] := by
  rw [judA, if_neg (by omega), h1, h2]
theorem law23_alive {P : Prg} {f fZ fJ t0 : Nat} (bd : Body P f 27 [.tmp 0] (ac_cadenzalaw23_alive fZ fJ t0)) (hZ : S_Sealed P fZ) (hJ : S_Judged P fJ) : S_alive21 P f := by
  refine VC.of_acall rfl rfl (ACall.of_body bd (by simp) ?_)
  have hZ' := hZ [0, 0, 0] (by decide)
  rw [show [0, 0, 0] ++ leB (sumM [0, 0, 0]) 4 = fr0 from rfl, fr0_eq] at hZ'
  have j1 := hJ 2 fr0 0 2 (by decide +kernel) (jud_fr _ _ _ _ (by decide +kernel) (by decide +kernel) (by decide +kernel))
  have j2 := hJ 3 fr0 24 2 (by decide +kernel) (jud_fr _ _ _ _ (by decide +kernel) (by decide +kernel) (by decide +kernel))
  have j3 := hJ 1 fr0 12 1 (by decide +kernel) (jud_fr _ _ _ _ (by decide +kernel) (by decide +kernel) (by decide +kernel))
  have j4 := hJ 2 fr1 22 0 (by decide +kernel) (jud_fr _ _ _ _ (by decide +kernel) (by decide +kernel) (by decide +kernel))
  rw [fr0_eq] at j1 j2 j3
  have hz : VC P fZ [.list 3 [.int .u8 0, .int .u8 0, .int .u8 0]] (.list 7 [.int .u8 0, .int .u8 0, .int .u8 0, .int .u8 18, .int .u8 217, .int .u8 65, .int .u8 255]) := hZ'
  have k1 : VC P fJ [.int .i64 2, .list 7 [.int .u8 0, .int .u8 0, .int .u8 0, .int .u8 18, .int .u8 217, .int .u8 65, .int .u8 255], .int .i64 0, .int .i64 2] (.bool true) := j1
  have k2 : VC P fJ [.int .i64 3, .list 7 [.int .u8 0, .int .u8 0, .int .u8 0, .int .u8 18, .int .u8 217, .int .u8 65, .int .u8 255], .int .i64 24, .int .i64 2] (.bool true) := j2
  have k3 : VC P fJ [.int .i64 1, .list 7 [.int .u8 0, .int .u8 0, .int .u8 0, .int .u8 18, .int .u8 217, .int .u8 65, .int .u8 255], .int .i64 12, .int .i64 1] (.bool true) := j3
  have k4 : VC P fJ [.int .i64 2, .list 7 [.int .u8 0, .int .u8 0, .int .u8 0, .int .u8 18, .int .u8 217, .int .u8 65, .int .u8 0], .int .i64 22, .int .i64 0] (.bool true) := j4
  have wr : IntKind.u8.wrap 256 = 0 := by decide
  clear hZ hJ hZ' j1 j2 j3 j4
  simp (maxSteps := 4000000) (disch := omega) only [step, stepv, ev, wl, wn, wp, wz, aop, cV, cV1, AV.one, partCells, okW, onlyFr, app, sliceCells, cellsAt, srcA, subA, eqFs, Int.cast_ofNat_Int, simprocAttr, ac_cadenzalaw23_alive]
  refine callQ.still 1 [0] hz (by simp [frzN, frzK, frzL, frzV]) ?_
  simp (maxSteps := 4000000) (disch := omega) only [step, stepv, ev, wl, wn, wp, wz, aop, cV, cV1, AV.one, partCells, okW, onlyFr, app, sliceCells, cellsAt, srcA, subA, eqFs, Int.cast_ofNat_Int, simprocAttr, stillAt]
  refine callQ.vc k1 ?_
  simp (maxSteps := 4000000) (disch := omega) only [step, stepv, ev, wl, wn, wp, wz, aop, cV, cV1, AV.one, partCells, okW, onlyFr, app, sliceCells, cellsAt, srcA, subA, eqFs, Int.cast_ofNat_Int, simprocAttr]
  refine callQ.vc k2 ?_
  simp (maxSteps := 4000000) (disch := omega) only [step, stepv, ev, wl, wn, wp, wz, aop, cV, cV1, AV.one, partCells, okW, onlyFr, app, sliceCells, cellsAt, srcA, subA, eqFs, Int.cast_ofNat_Int, simprocAttr]
  refine callQ.vc k3 ?_
  simp (maxSteps := 4000000) (disch := omega) only [step, stepv, ev, wl, wn, wp, wz, aop, cV, cV1, AV.one, partCells, okW, onlyFr, app, sliceCells, cellsAt, srcA, subA, eqFs, Int.cast_ofNat_Int, simprocAttr]
  refine callQ.still 1 [1] k4 (by simp [frzN, frzK, frzL, frzV, wr]) ?_
  simp (maxSteps := 4000000) (disch := omega) only [step, stepv, ev, wl, wn, wp, wz, aop, cV, cV1, AV.one, partCells, okW, onlyFr, app, sliceCells, cellsAt, srcA, subA, eqFs, Int.cast_ofNat_Int, simprocAttr, stillAt]

/-! What a verdict says (plain). -/
end Go.Am

namespace Go.Am
open Go.RowKit

/-! ### First moments, equal channels (plain) -/

theorem ask_all' {c x : Int} {l : List Int} (hI : I32 l) (h : askN c x l = 0) : l.all (inR x) = true := by
  obtain ⟨k, m, rfl, hk, hx, e1, e2, _⟩ := ask_all hI h
  have := chk_all (x := x) (l := l) hx hk.2.2.2.1
  rw [e2] at this
  by_cases ha : l.all (inR x) = true
  · exact ha
  · rw [if_neg ha] at this; omega
end Go.Am

namespace Go.Am
open Go.RowKit

/-! ### The law VerdictSays -/

/-! ### Other numbers of moments, cut frames -/

theorem jud_cut {k m left : Nat} {x : Int} {t l : List Int} (hL : I32 l) (h : askN k x l = 0) (hm : (l.length : Int) / k = m) (h1 : 1 ≤ left) (h2 : left < (frmB k (valE k x t l)).length) :
    ∃ G : Nat, judA k x t m (sealB ((frmB k (valE k x t l)).take left)) = .tup [.agg [.int .i64 24, .int .i64 G], .int .i64 0] ∧ G < l.length ∧ G % k = 0 := by
  have hall := ask_all' hL h
  obtain ⟨k', m', ek, hkM, hx, e1, e2, e3, e4, e5, e6⟩ := ask_all hL h
  have ek' : k' = k := by omega
  subst ek'
  have em : m' = m := by omega
  subst em
  obtain ⟨c1, c6, l0, l4, lm, _⟩ := hkM
  have hv := valE_ok k' x t l
  have hl := valE_len k' x t l
  have hun : unB k' x t (iL (valE k' x t l)) = l := by rw [iL_valE]; exact unB_out c1 hL lm
  obtain ⟨b1, b2⟩ := frmB_bounds (c := k') hv (by omega) (by omega)
  have hpl : ((frmB k' (valE k' x t l)).take left).length = left := by simp; omega
  have ho : openM (sealB ((frmB k' (valE k' x t l)).take left)) = 0 := open_seal (by omega) (by omega)
  obtain ⟨j, j1, j2⟩ := vals_lost hv h2
  have ha : allV (sealB ((frmB k' (valE k' x t l)).take left)) k' m' = .inl (24, (valE k' x t l).take j) := by
    unfold allV
    rw [seal_take, ← e3, ← hl]
    exact j2
  have h21 : ask21 k' x m' = 0 := by rw [← e5]; exact e6
  have he : errD k' x t m' (sealB ((frmB k' (valE k' x t l)).take left)) = 24 := by
    unfold errD
    rw [if_neg (by omega), if_neg (by omega)]
    simp only [Int.toNat_natCast]
    rw [ha]
    rfl
  have hg : judG k' x t m' (sealB ((frmB k' (valE k' x t l)).take left)) = ((j / k' * k' : Nat) : Int) := by
    rw [judG, if_neg (by omega), if_pos ho]
    simp only [Int.toNat_natCast]
    rw [ha]
    simp only [vlsM]
    rw [good_take c1 hun hall (by omega)]
  refine ⟨j / k' * k', by rw [judA, if_neg (by omega), he, hg], ?_, Nat.mul_mod_left _ _⟩
  have := Nat.div_mul_le_self j k'
  omega
theorem jud_whole {k m : Nat} {x : Int} {t l : List Int} (hL : I32 l) (h : askN k x l = 0) (hm : (l.length : Int) / k = m) : judA k x t m (encB k x t l) = .tup [.agg [.int .i64 0, .int .i64 l.length], .int .i64 0] := by
  obtain ⟨k', m', ek, hkM, hx, e1, e2, e3, e4, e5, e6⟩ := ask_all hL h
  have ek' : k' = k := by omega
  subst ek'
  have em : m' = m := by omega
  subst em
  have d := (dec_enc (t := t) hL h).1
  rw [Int.toNat_natCast, hm] at d
  have h21 : ask21 k' x m' = 0 := by rw [← e5]; exact e6
  rw [judA, if_neg (by omega), d, judG, if_pos d]
  rw [e3]
  simp

end Go.Am

namespace Go.Am
open Go.RowKit

/-! ### The laws VerdictFewer, VerdictLost -/

set_option maxHeartbeats 1000000 in
set_option maxRecDepth 20000 in
theorem law23_VerdictLost {P : Prg} {f fA fQ fE fZ fJ t0 t1 t2 : Nat} (bd : Body P f 124 [.tmp 8] (ac_cadenzalaw23_VerdictLost fA fQ fE fZ fJ t0 t1 t2)) (hA : S_alive21 P fA) (hQ : S_EAsk P fQ) (hE : S_Enc P fE) (hZ : S_Sealed P fZ) (hJ : S_Judge P fJ) : S_LawEParts P f := by
  intro c x t l n ht hI hL
  have hk : (ks .i32 t).length = 16 := by simp [ks_length, ht]
  have tt : (ks .i32 t).take 16 = ks .i32 t := take_all (by omega)
  have ot := ks_one .i32 t
  refine VC.of_acall (by simp [isDL, isD, isD_il, isDL_ks, shA]) rfl (ACall.of_body bd (by simp) ?_)
  have hA' : VC P fA [] (.bool true) := hA
  have hQ' := hQ c x l hL
  have hE' := hE c x t l ht hI hL
  simp only [shA, il] at hQ' hE' ⊢
  have hll : (ks .i32 l).length = l.length := ks_length _ _
  by_cases h1 : 300 < l.length
  · simp (maxSteps := 4000000) (disch := omega) only [step, stepv, ev, wl, wn, wp, wz, aop, cV, cV1, AV.one, partCells, okW, onlyFr, app, sliceCells, cellsAt, srcA, subA, eqFs, Int.cast_ofNat_Int, simprocAttr, ac_cadenzalaw23_VerdictLost, hk, ot, tt]
    refine callQ.vc hA' ?_
    simp (maxSteps := 4000000) (disch := omega) only [step, stepv, ev, wl, wn, wp, wz, aop, cV, cV1, AV.one, partCells, okW, onlyFr, app, sliceCells, cellsAt, srcA, subA, eqFs, Int.cast_ofNat_Int, simprocAttr]
  by_cases h0 : askN c x l = 0
  case neg =>
    simp (maxSteps := 4000000) (disch := omega) only [step, stepv, ev, wl, wn, wp, wz, aop, cV, cV1, AV.one, partCells, okW, onlyFr, app, sliceCells, cellsAt, srcA, subA, eqFs, Int.cast_ofNat_Int, simprocAttr, ac_cadenzalaw23_VerdictLost, hk, ot, tt]
    refine callQ.vc hA' ?_
    simp (maxSteps := 4000000) (disch := omega) only [step, stepv, ev, wl, wn, wp, wz, aop, cV, cV1, AV.one, partCells, okW, onlyFr, app, sliceCells, cellsAt, srcA, subA, eqFs, Int.cast_ofNat_Int, simprocAttr, h1]
    refine callQ.vc hQ' ?_
    simp (maxSteps := 4000000) (disch := omega) only [step, stepv, ev, wl, wn, wp, wz, aop, cV, cV1, AV.one, partCells, okW, onlyFr, app, sliceCells, cellsAt, srcA, subA, eqFs, Int.cast_ofNat_Int, simprocAttr, h0]
  rw [h0] at hQ'
  by_cases h2 : n < 1
  · simp (maxSteps := 4000000) (disch := omega) only [step, stepv, ev, wl, wn, wp, wz, aop, cV, cV1, AV.one, partCells, okW, onlyFr, app, sliceCells, cellsAt, srcA, subA, eqFs, Int.cast_ofNat_Int, simprocAttr, ac_cadenzalaw23_VerdictLost, hk, ot, tt]
    refine callQ.vc hA' ?_
    simp (maxSteps := 4000000) (disch := omega) only [step, stepv, ev, wl, wn, wp, wz, aop, cV, cV1, AV.one, partCells, okW, onlyFr, app, sliceCells, cellsAt, srcA, subA, eqFs, Int.cast_ofNat_Int, simprocAttr, h1]
    refine callQ.vc hQ' ?_
    simp (maxSteps := 4000000) (disch := omega) only [step, stepv, ev, wl, wn, wp, wz, aop, cV, cV1, AV.one, partCells, okW, onlyFr, app, sliceCells, cellsAt, srcA, subA, eqFs, Int.cast_ofNat_Int, simprocAttr]
  obtain ⟨k, m, rfl, hkM, hx, e1, e2, e3, e4, e5, e6⟩ := ask_all hL h0
  obtain ⟨c1, c6, l0, l4, lm, _⟩ := hkM
  have hc0 : (k : Int) ≠ 0 := by omega
  have hmle : m ≤ l.length := by rw [e3]; exact Nat.le_mul_of_pos_right m c1
  have e5' : ((l.length : Int)).tdiv (k : Int) = (m : Int) := by rw [Int.tdiv_eq_ediv_of_nonneg (by omega)]; exact e5
  rw [enfA_ok h0] at hE'
  have hvl := valE_len k x t l
  obtain ⟨b1, b2⟩ := frmB_bounds (c := k) (valE_ok k x t l) (by omega) (by omega)
  have hjw := jud_whole (t := t) hL h0 e5
  have hjc := fun left => jud_cut (left := left) (t := t) hL h0 e5
  have hell : (encB k x t l).length = (frmB k (valE k x t l)).length + 4 := by rw [encB, sealB_len]
  have htk : ∀ a, a ≤ (frmB k (valE k x t l)).length → (encB k x t l).take a = (frmB k (valE k x t l)).take a := fun a ha => by rw [encB, sealB, List.take_append_of_le_length ha]
  have hz0 : sealB (frmB k (valE k x t l)) = encB k x t l := rfl
  generalize frmB k (valE k x t l) = p at *
  have hZ0 := fun a (ha : a ≤ p.length) => hZ (p.take a) (by simp; omega)
  have hrl : (u8 (encB k x t l)).length = p.length + 4 := by rw [u8_length, hell]
  have hJ0 := fun b (hb : b.length ≤ 1000000) => hJ k x m t b ht hI hb
  have g1 : (p.length : Int) + 4 - 4 = p.length := by omega
  have tku : ∀ a, a ≤ p.length → (u8 (encB k x t l)).take a = u8 (p.take a) := fun a ha => by rw [u8_take, htk a ha]
  rcases Int.lt_or_le n p.length with hlt | hge
  · obtain ⟨a, rfl⟩ : ∃ a : Nat, n = a := ⟨n.toNat, by omega⟩
    obtain ⟨G, j1, j2, j3⟩ := hjc a (by omega) (by omega)
    have hZ' := hZ0 a (by omega)
    have hzl : (sealB (p.take a)).length = a + 4 := by rw [sealB_len, List.length_take, Nat.min_eq_left (by omega)]
    have hJ' := hJ0 (sealB (p.take a)) (by omega)
    rw [j1] at hJ'
    have hta := tku a (by omega)
    have hpl : (p.take a).length = a := by rw [List.length_take, Nat.min_eq_left (by omega)]
    have hz1 : sealB (p.take a) = p.take a ++ leB (sumM (p.take a)) 4 := rfl
    rw [← hz1] at hZ'
    simp only [shA, bs, hell, hzl, hpl] at hE' hJ' hZ'
    generalize u8 (encB k x t l) = R at *
    generalize u8 (sealB (p.take a)) = Z at *
    generalize u8 (p.take a) = pa at *
    have emin : (if (p.length : Int) + 4 - 4 < (a : Int) then (p.length : Int) + 4 - 4 else (a : Int)) = a := by rw [if_neg (by omega)]
    have emin' : (if (p.length : Int) < (a : Int) then (p.length : Int) else (a : Int)) = a := by rw [if_neg (by omega)]
    have q1 : (G : Int) % k = 0 := by rw [← Int.natCast_emod, j3]; rfl
    have q1' : ((G : Int)).tmod k = 0 := by rw [Int.tmod_eq_emod_of_nonneg (by omega)]; exact q1
    simp (maxSteps := 4000000) (disch := omega) only [step, stepv, ev, wl, wn, wp, wz, aop, cV, cV1, AV.one, partCells, okW, onlyFr, app, sliceCells, cellsAt, srcA, subA, eqFs, Int.cast_ofNat_Int, simprocAttr, ac_cadenzalaw23_VerdictLost, hk, ot, tt]
    refine callQ.vc hA' ?_
    simp (maxSteps := 4000000) (disch := omega) only [step, stepv, ev, wl, wn, wp, wz, aop, cV, cV1, AV.one, partCells, okW, onlyFr, app, sliceCells, cellsAt, srcA, subA, eqFs, Int.cast_ofNat_Int, simprocAttr, h1]
    refine callQ.vc hQ' ?_
    simp (maxSteps := 4000000) (disch := omega) only [step, stepv, ev, wl, wn, wp, wz, aop, cV, cV1, AV.one, partCells, okW, onlyFr, app, sliceCells, cellsAt, srcA, subA, eqFs, Int.cast_ofNat_Int, simprocAttr, hk, ot, tt]
    refine callQ.vc hE' ?_
    simp (maxSteps := 4000000) (disch := omega) only [step, stepv, ev, wl, wn, wp, wz, aop, cV, cV1, AV.one, partCells, okW, onlyFr, app, sliceCells, cellsAt, srcA, subA, eqFs, Int.cast_ofNat_Int, simprocAttr, hrl, g1, emin', hta, Nat.sub_zero]
    refine callQ.vc hZ' ?_
    simp (maxSteps := 4000000) (disch := omega) only [step, stepv, ev, wl, wn, wp, wz, aop, cV, cV1, AV.one, partCells, okW, onlyFr, app, sliceCells, cellsAt, srcA, subA, eqFs, Int.cast_ofNat_Int, simprocAttr, hk, ot, tt, e5, e5', hc0]
    refine callQ.vc hJ' ?_
    simp (maxSteps := 4000000) (disch := omega) only [step, stepv, ev, wl, wn, wp, wz, aop, cV, cV1, AV.one, partCells, okW, onlyFr, app, sliceCells, cellsAt, srcA, subA, eqFs, Int.cast_ofNat_Int, simprocAttr, hll, hrl, q1, q1', hc0, g1]
  · have hZ' := hZ0 p.length (Nat.le_refl _)
    rw [List.take_length] at hZ'
    have hz1 : p ++ leB (sumM p) 4 = sealB p := rfl
    rw [hz1, hz0] at hZ'
    have hJ' := hJ0 (encB k x t l) (by omega)
    rw [hjw] at hJ'
    have hta := tku p.length (Nat.le_refl _)
    rw [List.take_length] at hta
    simp only [shA, bs, hell] at hE' hJ' hZ'
    generalize u8 (encB k x t l) = R at *
    generalize u8 p = pa at *
    have emin : (if (p.length : Int) + 4 - 4 < n then (p.length : Int) + 4 - 4 else n) = p.length := by split <;> omega
    have emin' : (if (p.length : Int) < n then (p.length : Int) else n) = p.length := by split <;> omega
    have q1 : (l.length : Int) % k = 0 := by rw [← Int.natCast_emod, lm]; rfl
    have q1' : ((l.length : Int)).tmod k = 0 := by rw [Int.tmod_eq_emod_of_nonneg (by omega)]; exact q1
    simp (maxSteps := 4000000) (disch := omega) only [step, stepv, ev, wl, wn, wp, wz, aop, cV, cV1, AV.one, partCells, okW, onlyFr, app, sliceCells, cellsAt, srcA, subA, eqFs, Int.cast_ofNat_Int, simprocAttr, ac_cadenzalaw23_VerdictLost, hk, ot, tt]
    refine callQ.vc hA' ?_
    simp (maxSteps := 4000000) (disch := omega) only [step, stepv, ev, wl, wn, wp, wz, aop, cV, cV1, AV.one, partCells, okW, onlyFr, app, sliceCells, cellsAt, srcA, subA, eqFs, Int.cast_ofNat_Int, simprocAttr, h1]
    refine callQ.vc hQ' ?_
    simp (maxSteps := 4000000) (disch := omega) only [step, stepv, ev, wl, wn, wp, wz, aop, cV, cV1, AV.one, partCells, okW, onlyFr, app, sliceCells, cellsAt, srcA, subA, eqFs, Int.cast_ofNat_Int, simprocAttr, hk, ot, tt]
    refine callQ.vc hE' ?_
    simp (maxSteps := 4000000) (disch := omega) only [step, stepv, ev, wl, wn, wp, wz, aop, cV, cV1, AV.one, partCells, okW, onlyFr, app, sliceCells, cellsAt, srcA, subA, eqFs, Int.cast_ofNat_Int, simprocAttr, hrl, g1, emin', hta, Nat.sub_zero]
    refine callQ.vc hZ' ?_
    simp (maxSteps := 4000000) (disch := omega) only [step, stepv, ev, wl, wn, wp, wz, aop, cV, cV1, AV.one, partCells, okW, onlyFr, app, sliceCells, cellsAt, srcA, subA, eqFs, Int.cast_ofNat_Int, simprocAttr, hk, ot, tt, e5, e5', hc0]
    refine callQ.vc hJ' ?_
    simp (maxSteps := 4000000) (disch := omega) only [step, stepv, ev, wl, wn, wp, wz, aop, cV, cV1, AV.one, partCells, okW, onlyFr, app, sliceCells, cellsAt, srcA, subA, eqFs, Int.cast_ofNat_Int, simprocAttr, hll, hrl, q1, q1', hc0, g1]

end Go.Am
