/- What the functions that the law reaches return, for every program that has their code; the conditions stand in each statement. -/
import Derived.Test.YtdbcblibhbhckaaDoorVerdictFewerL2
set_option linter.unusedSectionVars false
set_option linter.unusedSimpArgs false
set_option linter.unusedVariables false
namespace Go.Am
open Go.RowKit

/-! ### Frames are coded: Encode, Length -/

theorem u32L_valE (c : Nat) (x : Int) (t l : List Int) : u32L (outT c (mixAll c l) (newC x t) l.length) = .list l.length (ks .u32 ((valE c x t l).map fun n : Nat => (n : Int))) := by
  have := iL_valE c x t l
  unfold iL at this
  rw [this, u32L, outT_len]
theorem upd_chan {c i : Nat} {v : List Nat} (hc : 1 ≤ c) (hi : i < v.length) : updD (fun j => if j < c then chanM c j (v.take i) else startM) (i % c) (learnM (chanM c (i % c) (v.take i)) (v.getD i 0)) = fun j => if j < c then chanM c j (v.take (i + 1)) else startM := by
  have ht : v.take (i + 1) = v.take i ++ [v.getD i 0] := by
    rw [List.take_succ_eq_append_getElem hi]
    simp [List.getD_eq_getElem?_getD, List.getElem?_eq_getElem hi]
  have hl : (v.take i).length = i := by simp; omega
  have hr : i % c < c := Nat.mod_lt _ (by omega)
  funext j
  unfold updD
  rw [ht]
  by_cases hj : j = i % c
  · subst hj
    rw [if_pos rfl, if_pos hr, chan_snoc, if_pos (by rw [hl])]
  · rw [if_neg hj]
    by_cases hjc : j < c
    · simp only [hjc, if_true]
      rw [chan_snoc, if_neg (by rw [hl]; exact fun e => hj e.symm)]
    · simp only [hjc, if_false]

def enfA (c x : Int) (t l : List Int) : AV := if askN c x l ≠ 0 then .tup [.list 0 [], .int .i64 (askN c x l)] else .tup [bs (encB c.toNat x t l), .int .i64 0]
theorem isD_enfA (c x : Int) (t l : List Int) : isD (enfA c x t l) = true := by unfold enfA; split <;> simp [isD, isDL, isD_bs]
def S_Enc (P : Prg) (f : Nat) : Prop := ∀ (c x : Int) (t l : List Int), t.length = 16 → I32 t → I32 l → VC P f [shA c x, .agg (ks .i32 t), il l] (enfA c x t l)
set_option maxHeartbeats 2000000 in
set_option maxRecDepth 20000 in
theorem enframe_Encode {P : Prg} {f fV fS fW fP fC fB fK t0 t1 t2 t3 t4 t5 tp tb : Nat} (bd : Body P f 85 [.tmp 6, .tmp 7] (ac_enframe_Encode fV fS fW fP fC fB fK t0 t1 t2 t3 t4 t5)) (hV : S_EVals P fV) (hS : S_eStates P fS) (hW : S_dWrite P fW) (bP : Body P fP 64 [] (ac_enframe_put tp tb)) (hC : S_CSum P fC) (hB : S_leBytes P fB) (hK : S_Concat P fK) : S_Enc P f := by
  intro c x t l ht hI hL
  refine VC.of_walk 1 (by simp [isDL, isD, isDL_ks, isD_il, shA]) (isD_enfA _ _ _ _) (ACall.of_body bd (by simp) ?_)
  have hk : (ks .i32 t).length = 16 := by simp [ks_length, ht]
  have tt : (ks .i32 t).take 16 = ks .i32 t := take_all (by omega)
  have ot := ks_one .i32 t
  have hV' := hV c x t l ht hI hL
  unfold enfA
  by_cases h0 : askN c x l = 0
  case neg =>
    rw [valA, if_pos h0] at hV'
    rw [if_pos h0]
    rw [shA] at hV' ⊢
    simp (maxSteps := 4000000) (disch := omega) only [step, stepv, ev, wl, wn, wp, wz, aop, cV, cV1, AV.one, partCells, okW, onlyFr, app, sliceCells, cellsAt, srcA, subA, eqFs, Int.cast_ofNat_Int, simprocAttr, ac_enframe_Encode, hk, ot, tt]
    refine callQ.vc hV' ?_
    simp (maxSteps := 4000000) (disch := omega) only [step, stepv, ev, wl, wn, wp, wz, aop, cV, cV1, AV.one, partCells, okW, onlyFr, app, sliceCells, cellsAt, srcA, subA, eqFs, Int.cast_ofNat_Int, simprocAttr, h0]
    simp [frzN, frzK, frzL, frzV]
  obtain ⟨k, m, rfl, hkM, hx, e1, e2, e3, e4, e5, e6⟩ := ask_all hL h0
  obtain ⟨c1, c6, l0, l4, lm, _⟩ := hkM
  rw [valA, if_neg (by omega), Int.toNat_natCast, u32L_valE] at hV'
  rw [if_neg (by omega), Int.toNat_natCast, encB, sealB]
  have hv := valE_ok k x t l
  have hvl := valE_len k x t l
  rw [← hvl] at hV' l0 l4
  generalize valE k x t l = v at *
  rw [shA] at hV' ⊢
  have hfb := frm_bounds (c := k) hv
  have hkv : (ks .u32 (v.map fun n : Nat => (n : Int))).length = v.length := by simp [ks]
  have s24 := sixD_len fun _ => startM
  have sone : (sixD fun _ => startM).all AV.one = true := rfl
  have stk : (sixD fun _ => startM).take 24 = sixD fun _ => startM := rfl
  have z2 : (fun j => if j < k then chanM k j (v.take 0) else startM) = fun _ => startM := by
    funext j
    rw [List.take_zero]
    split <;> rfl
  simp only [S_eStates] at hS
  simp (maxSteps := 4000000) (disch := omega) only [step, stepv, ev, wl, wn, wp, wz, aop, cV, cV1, AV.one, partCells, okW, onlyFr, app, sliceCells, cellsAt, srcA, subA, eqFs, Int.cast_ofNat_Int, simprocAttr, ac_enframe_Encode, hk, ot, tt]
  refine callQ.vc hV' ?_
  simp (maxSteps := 4000000) (disch := omega) only [step, stepv, ev, wl, wn, wp, wz, aop, cV, cV1, AV.one, partCells, okW, onlyFr, app, sliceCells, cellsAt, srcA, subA, eqFs, Int.cast_ofNat_Int, simprocAttr, hkv]
  refine callQ.vc hS ?_
  generalize hS0 : (sixD fun _ => startM) = S0 at *
  simp (maxSteps := 4000000) (disch := omega) only [step, stepv, ev, wl, wn, wp, wz, aop, cV, cV1, AV.one, partCells, okW, onlyFr, app, sliceCells, cellsAt, srcA, subA, eqFs, Int.cast_ofNat_Int, simprocAttr, hkv, s24, sone, stk, List.append_nil, List.take_zero, List.nil_append]
  refine ALoop.by (ι := Nat) (fun i => ⟨[(32, .int .i64 i), (31, .int .i64 v.length), (30, .list v.length (ks .u32 (v.map fun n : Nat => (n : Int)))), (11, .ref 3 1 0), (10, .ref 2 1 0), (7, .int .i64 0), (6, .emp true), (3, .ref 0 1 0)],
      [⟨t0, 2, 1, [.int .i64 k, .int .i64 x], 0⟩, ⟨t1, 16, 1, ks .i32 t, 0⟩, ⟨t2, 24, 1, sixD (fun j => if j < k then chanM k j (v.take i) else startM), 0⟩, bO t3 4 (frmN k v i), bY tb (frmN k v i) (frmV k v i)]⟩)
    (fun i => i ≤ v.length) (fun i => v.length - i) 0 ?_ (by omega) ?_
  · simp only [z2, hS0]
    rw [frmN_zero, frmV_zero]
    refine Le.trans (Le.virtF 3 tb 1 (by decide) rfl rfl) ?_
    exact Le.slots (by simp [Am.look])
  intro i hi
  by_cases hlt : i < v.length
  · obtain ⟨r, hr⟩ : ∃ r, r = i % k := ⟨_, rfl⟩
    have hrc : r < k := by rw [hr]; exact Nat.mod_lt _ (by omega)
    have q1 : (i : Int) % k = (r : Int) := by rw [hr]; simp [Int.natCast_emod]
    have q1' : ((i : Int)).tmod (k : Int) = (r : Int) := by rw [Int.tmod_eq_emod_of_nonneg (by omega), q1]
    have hc0 : (k : Int) ≠ 0 := by omega
    obtain ⟨b1, b2, b3⟩ := hfb i
    obtain ⟨_, b5, _⟩ := hfb (i + 1)
    have hd := chan_ok (c := k) (r := r) (hv.take i)
    have hvi := hv.getD i
    have hW' := hW 0 0 (v.getD i 0) (chanM k r (v.take i)) (by decide) hvi hd (by omega)
    rw [Nat.zero_add, Nat.pow_zero, Nat.one_mul, Nat.zero_add] at hW'
    have hcl := codeC_lt (d := chanM k r (v.take i)) hvi
    have hcn := codeN_le (v := v.getD i 0) hd
    obtain ⟨rest, hg⟩ := sixD_get (fun j => if j < k then chanM k j (v.take i) else startM) (j := r) (by omega)
    simp only [hrc, if_true] at hg
    have hset := sixD_set (fun j => if j < k then chanM k j (v.take i) else startM) (j := r) (by omega) (learnM (chanM k r (v.take i)) (v.getD i 0))
    have hup := upd_chan c1 hlt
    rw [← hr] at hup
    rw [hup] at hset
    have hln := sixD_len (fun j => if j < k then chanM k j (v.take i) else startM)
    have hkat := ks_at (K := .u32) (l := v.map fun n : Nat => (n : Int)) (i := i) (by simpa using hlt)
    have hgd : (v.map fun n : Nat => (n : Int)).getD i 0 = ((v.getD i 0 : Nat) : Int) := by simp [List.getD_eq_getElem?_getD, List.getElem?_eq_getElem hlt]
    rw [hgd] at hkat
    have hsN := frmN_succ k v i
    have hsV := frmV_succ k v i
    rw [← hr] at hsN hsV
    have hb6 : frmN k v i + codeN (chanM k r (v.take i)) (v.getD i 0) ≤ 400000 := by omega
    have hD6 : isDL (sixD (fun j => if j < k then chanM k j (v.take (i + 1)) else startM)) = true := isTL_D (isTL_sixD _)
    generalize hF1 : sixD (fun j => if j < k then chanM k j (v.take (i + 1)) else startM) = F' at *
    generalize sixD (fun j => if j < k then chanM k j (v.take i) else startM) = F at *
    generalize hN0 : frmN k v i = N at *
    generalize hV0 : frmV k v i = V at *
    generalize hN1 : frmN k v (i + 1) = N1 at *
    generalize hV1 : frmV k v (i + 1) = V1 at *
    generalize hn0 : codeN (chanM k r (v.take i)) (v.getD i 0) = n at *
    generalize hC0 : codeC (chanM k r (v.take i)) (v.getD i 0) = C at *
    generalize learnM (chanM k r (v.take i)) (v.getD i 0) = d' at *
    generalize chanM k r (v.take i) = d at *
    generalize v.getD i 0 = vi at *
    obtain ⟨d0, d1, d2, d3⟩ := d
    obtain ⟨m0, m1, m2, m3⟩ := d'
    simp only [dlA, dlC, bA] at hW'
    simp only at hg hset
    have hfr : frzN (fun o => ([] : List Nat).contains o) [⟨t0, 2, 1, [.int .i64 k, .int .i64 x], 0⟩, ⟨t1, 16, 1, ks .i32 t, 0⟩, ⟨t2, 24, 1, F, 0⟩, ⟨t3, 2, 1, [.own 4 (nB N), .int .i64 N], 0⟩, bY tb N V] (0 + 1) [.agg [.emp true, .int .i64 0], .agg [.int .i64 d0, .int .i64 d1, .int .u64 d2, .int .u64 d3], .int .u32 vi] =
      some [.agg [.list (nB 0) (u8 (leB 0 (nB 0))), .int .i64 ((0 : Nat) : Int)], .agg [.int .i64 d0, .int .i64 d1, .int .u64 d2, .int .u64 d3], .int .u32 vi] := by
      simp [frzN, frzK, frzL, frzV, nB, leB, u8]
    have pt : ∀ (Q : Exit → St → Prop) os fr dst, wpQ P os Q ⟨putA fr dst (.tup []), [⟨t0, 2, 1, [.int .i64 k, .int .i64 x], 0⟩, ⟨t1, 16, 1, ks .i32 t, 0⟩, ⟨t2, 24, 1, F', 0⟩, bO t3 4 N1, bY tb N1 V1, ⟨t3, 2, 1, [.list (nB n) (u8 (leB C (nB n))), .int .i64 n], 0⟩, ⟨t4, 4, 1, [.int .i64 m0, .int .i64 m1, .int .u64 m2, .int .u64 m3], 0⟩]⟩ →
        callQ P fP [.ref 3 1 0, .agg [.list (nB n) (u8 (leB C (nB n))), .int .i64 n]] [⟨t0, 2, 1, [.int .i64 k, .int .i64 x], 0⟩, ⟨t1, 16, 1, ks .i32 t, 0⟩, ⟨t2, 24, 1, F', 0⟩, ⟨t3, 2, 1, [.own 4 (nB N), .int .i64 N], 0⟩, bY tb N V, ⟨t3, 2, 1, [.list (nB n) (u8 (leB C (nB n))), .int .i64 n], 0⟩, ⟨t4, 4, 1, [.int .i64 m0, .int .i64 m1, .int .u64 m2, .int .u64 m3], 0⟩] os Q fr dst := fun Q os fr dst h =>
      enframe_put bP (ob := [⟨t0, 2, 1, [.int .i64 k, .int .i64 x], 0⟩, ⟨t1, 16, 1, ks .i32 t, 0⟩, ⟨t2, 24, 1, F', 0⟩, ⟨t3, 2, 1, [.own 4 (nB N), .int .i64 N], 0⟩, bY tb N V, ⟨t3, 2, 1, [.list (nB n) (u8 (leB C (nB n))), .int .i64 n], 0⟩, ⟨t4, 4, 1, [.int .i64 m0, .int .i64 m1, .int .u64 m2, .int .u64 m3], 0⟩]) (t := t3) (p := 3) (o := 4) (N := N) (V := V) (C := C) (n := n) rfl rfl (by decide) b1 hcl (by omega) (by omega)
        (Low.cons (by simp [lowL, lowV]) (Low.cons (lowL_D _ (isDL_ks _ _)) (Low.cons (lowL_D _ hD6) (Low.cons (by simp [lowL, lowV]) (Low.cons (lowL_D _ (isDL_leB _ _)) (Low.cons (by simp [lowL, lowV, lowL_D _ (isDL_leB _ _)]) (Low.cons (by simp [lowL, lowV]) Low.nil)))))))
        (by rw [hsN, hsV] at h; exact h)
    simp (maxSteps := 4000000) (disch := omega) only [step, stepv, ev, wl, wn, wp, wz, aop, cV, cV1, AV.one, partCells, okW, onlyFr, app, sliceCells, cellsAt, srcA, subA, eqFs, Int.cast_ofNat_Int, simprocAttr, bO, hkat, hkv, q1, q1', hc0, hg, hln]
    refine callQ.still 0 [] hW' hfr ?_
    simp (maxSteps := 4000000) (disch := omega) only [step, stepv, ev, wl, wn, wp, wz, aop, cV, cV1, AV.one, partCells, okW, onlyFr, app, sliceCells, cellsAt, srcA, subA, eqFs, Int.cast_ofNat_Int, simprocAttr, stillAt, hkat, hkv, q1, q1', hc0, hg, hln, hset]
    refine pt _ _ _ _ ?_
    simp (maxSteps := 4000000) (disch := omega) only [step, stepv, ev, wl, wn, wp, wz, aop, cV, cV1, AV.one, partCells, okW, onlyFr, app, sliceCells, cellsAt, srcA, subA, eqFs, Int.cast_ofNat_Int, simprocAttr]
    refine ⟨i + 1, by omega, by omega, ?_⟩
    simp only [hN1, hV1, hF1]
    refine Le.low (ob := [⟨t0, 2, 1, [.int .i64 k, .int .i64 x], 0⟩, ⟨t1, 16, 1, ks .i32 t, 0⟩, ⟨t2, 24, 1, F', 0⟩, bO t3 4 N1, bY tb N1 V1]) (J := [_, _]) (Nat.zero_le _) ?_ (by simp [Am.look, lowV, lowL_D _ (isDL_ks _ _)])
    exact Low.cons (by simp [lowL, lowV]) (Low.cons (lowL_D _ (isDL_ks _ _)) (Low.cons (lowL_D _ hD6) (Low.cons (by simp [bO, lowL, lowV]) (Low.cons (lowL_D _ (isDL_leB _ _)) Low.nil))))
  · obtain rfl : i = v.length := by omega
    obtain ⟨_, b5, b6⟩ := hfb v.length
    have hfl := frmB_len k v
    have hle : nB (frmN k v v.length) ≤ 40500 := by unfold nB; omega
    have hC' := hC (frmB k v)
    rw [if_neg (by omega), ← sumM] at hC'
    have hsm := sumM_lt (frmB k v)
    have hB' := hB (sumM (frmB k v)) 4 (by omega) (by omega) hsm
    have hK' := hK [frmB k v, leB (sumM (frmB k v)) 4] (by simp) (by simp [leB_length]) (by simp [leB_length]; omega)
    have hfe : frmB k v = leB (frmV k v v.length) (nB (frmN k v v.length)) := rfl
    simp only [partsA, bs, List.map_cons, List.map_nil, List.length_cons, List.length_nil, List.flatten_cons, List.flatten_nil, List.append_nil, List.length_append, hfl, leB_length] at hC' hB' hK' ⊢
    have tfl : isTL (u8 (frmB k v)) = true := isT_u8 _
    have tfs : isTL (u8 (leB (sumM (frmB k v)) 4)) = true := isT_u8 _
    have tfa : isTL (u8 (frmB k v ++ leB (sumM (frmB k v)) 4)) = true := isT_u8 _
    have hul : (u8 (frmB k v)).length = nB (frmN k v v.length) := by rw [u8_length, hfl]
    generalize sixD (fun j => if j < k then chanM k j (v.take v.length) else startM) = F at *
    simp only [bO, bY]
    rw [← hfe]
    generalize frmB k v ++ leB (sumM (frmB k v)) 4 = R at *
    generalize leB (sumM (frmB k v)) 4 = s4 at *
    generalize sumM (frmB k v) = sm at *
    generalize frmB k v = fb at *
    generalize nB (frmN k v v.length) = nn at *
    simp (maxSteps := 4000000) (disch := omega) only [step, stepv, ev, wl, wn, wp, wz, aop, cV, cV1, AV.one, partCells, okW, onlyFr, app, sliceCells, cellsAt, srcA, subA, eqFs, Int.cast_ofNat_Int, simprocAttr]
    refine callQ.still 1 [4] hC' (by simp [frzN, frzK, frzL, frzV, frzL_T _ tfl]) ?_
    simp (maxSteps := 4000000) (disch := omega) only [step, stepv, ev, wl, wn, wp, wz, aop, cV, cV1, AV.one, partCells, okW, onlyFr, app, sliceCells, cellsAt, srcA, subA, eqFs, Int.cast_ofNat_Int, simprocAttr, stillAt]
    refine callQ.vc hB' ?_
    simp (maxSteps := 4000000) (disch := omega) only [step, stepv, ev, wl, wn, wp, wz, aop, cV, cV1, AV.one, partCells, okW, onlyFr, app, sliceCells, cellsAt, srcA, subA, eqFs, Int.cast_ofNat_Int, simprocAttr]
    refine callQ.still 2 [5, 4] hK' (by simp [frzN, frzK, frzL, frzV, frzL_T _ tfl, frzL_T _ tfs]) ?_
    simp (maxSteps := 4000000) (disch := omega) only [step, stepv, ev, wl, wn, wp, wz, aop, cV, cV1, AV.one, partCells, okW, onlyFr, app, sliceCells, cellsAt, srcA, subA, eqFs, Int.cast_ofNat_Int, simprocAttr, stillAt]
    simp [frzN, frzK, frzL, frzV, frzL_T _ tfa]

end Go.Am

namespace Go.Am
open Go.RowKit

/-! ### The reference of Encode and Length; the law EnframeBytes -/

theorem enc_le {c x : Int} {t l : List Int} (hL : I32 l) (h : askN c x l = 0) : (encB c.toNat x t l).length ≤ 40504 ∧ 5 ≤ (encB c.toNat x t l).length := by
  obtain ⟨k, m, rfl, hkM, hx, e1, e2, e3, e4, e5, e6⟩ := ask_all hL h
  obtain ⟨c1, c6, l0, l4, lm, _⟩ := hkM
  have hvl := valE_len k x t l
  have := frmB_bounds (c := k) (valE_ok k x t l) (by omega) (by omega)
  rw [Int.toNat_natCast, encB, sealB_len]
  omega
end Go.Am

namespace Go.Am
open Go.RowKit

/-! ### chain.All; the law EnframeParts -/

def S_LawEParts (P : Prg) (f : Nat) : Prop := ∀ (c x : Int) (t l : List Int) (j : Int), t.length = 16 → I32 t → I32 l → VC P f [shA c x, .agg (ks .i32 t), il l, .int .i64 j] (.bool true)
end Go.Am

namespace Go.Am
open Go.RowKit

/-! ### Frames read as other moments, and frames that are cut (plain) -/

theorem frm_mono {c : Nat} {v : List Nat} : ∀ j i, frmN c v i ≤ frmN c v (i + j)
  | 0, _ => Nat.le_refl _
  | j + 1, i => by have := frm_mono (c := c) (v := v) j i; rw [← Nat.add_assoc, frmN_succ]; omega
theorem frm_low {c V : Nat} {v : List Nat} (hv : N32 v) : ∀ j i, V % 2 ^ frmN c v (i + j) = frmV c v (i + j) → V % 2 ^ frmN c v i = frmV c v i
  | 0, _, h => h
  | j + 1, i, h => by
    refine frm_low hv j i ?_
    rw [← Nat.add_assoc, frmN_succ, frmV_succ] at h
    exact ((mod_split (frm_bounds hv (i + j)).1).1 h).1

theorem vals_add {V N c : Nat} : ∀ (k m : Nat) (out : List Nat) (a : Nat), valsM V N c (k + m) out a = match valsM V N c k out a with | .inl w => .inl w | .inr (o, b) => valsM V N c m o b
  | 0, m, out, a => by rw [Nat.zero_add]; rfl
  | k + 1, m, out, a => by
    rw [Nat.add_right_comm, valsM, valsM]
    cases gotM (prtV V N a) (prtN N a) 0 (chanM c (out.length % c) out) with
    | inl e => rfl
    | inr w => exact vals_add k m _ _
theorem vals_pre {V N c : Nat} : ∀ (k : Nat) (out : List Nat) (a : Nat), (vlsM (valsM V N c k out a)).take out.length = out ∧ out.length ≤ (vlsM (valsM V N c k out a)).length
  | 0, out, a => ⟨List.take_length, Nat.le_refl _⟩
  | k + 1, out, a => by
    rw [valsM]
    cases gotM (prtV V N a) (prtN N a) 0 (chanM c (out.length % c) out) with
    | inl e => exact ⟨List.take_length, Nat.le_refl _⟩
    | inr w =>
      obtain ⟨v, nx⟩ := w
      obtain ⟨h1, h2⟩ := vals_pre (V := V) (N := N) (c := c) k (out ++ [v]) (a + nx)
      simp only
      rw [List.length_append, List.length_cons, List.length_nil] at h1 h2
      refine ⟨?_, by omega⟩
      have := congrArg (List.take out.length) h1
      rw [List.take_take, Nat.min_eq_left (by omega), List.take_left' rfl] at this
      exact this

theorem vals_fewer {c K : Nat} {v : List Nat} (h : N32 v) (hK : K ≤ v.length) : valsM (leN (frmB c v)) (8 * (frmB c v).length) c K [] 0 = .inr (v.take K, frmN c v K) := by
  rw [leN_frm h, frmB_len]
  have hb := (frm_bounds (c := c) h v.length).1
  have hm := frm_mono (c := c) (v := v) (v.length - K) K
  rw [show K + (v.length - K) = v.length by omega] at hm
  have := vals_frm (V := frmV c v v.length) (N := 8 * nB (frmN c v v.length)) (c := c) h K 0 (by omega) (by rw [Nat.zero_add]; unfold nB; omega) (by
    rw [Nat.zero_add]
    refine frm_low h (v.length - K) K ?_
    rw [show K + (v.length - K) = v.length by omega, Nat.mod_eq_of_lt hb])
  rw [Nat.zero_add, List.take_zero, frmN_zero] at this
  exact this
theorem vals_more {c K : Nat} {v : List Nat} (h : N32 v) (hK : v.length ≤ K) : (vlsM (valsM (leN (frmB c v)) (8 * (frmB c v).length) c K [] 0)).take v.length = v ∧ v.length ≤ (vlsM (valsM (leN (frmB c v)) (8 * (frmB c v).length) c K [] 0)).length := by
  have := vals_add (V := leN (frmB c v)) (N := 8 * (frmB c v).length) (c := c) v.length (K - v.length) [] 0
  rw [show v.length + (K - v.length) = K by omega, vals_seal h] at this
  rw [this]
  exact vals_pre _ _ _

theorem iL_take (o : List Nat) (k : Nat) : (iL o).take k = iL (o.take k) := by simp [iL, List.map_take]
theorem iL_len (o : List Nat) : (iL o).length = o.length := by simp [iL]
theorem allP {x : Int} {l : List Int} (h : l.all (inR x) = true) (k c : Nat) : okP c x l k = true := by
  unfold okP
  rw [List.all_eq_true] at h ⊢
  exact fun y hy => h y (List.mem_of_mem_take hy)
theorem good_take {c j : Nat} {x : Int} {t l : List Int} {v : List Nat} (hc : 1 ≤ c) (hl : unB c x t (iL v) = l) (ha : l.all (inR x) = true) (hj : j ≤ v.length) : goodM c x t (iL (v.take j)) = j / c * c := by
  have h1 : (iL (v.take j)).length = j := by rw [iL_len]; simp; omega
  have h2 : j / c * c ≤ j := Nat.div_mul_le_self _ _
  unfold goodM
  rw [h1]
  have h3 : unB c x t ((iL (v.take j)).take (j / c * c)) = l.take (j / c * c) := by
    rw [iL_take, List.take_take, Nat.min_eq_left h2, ← iL_take, unB_take hc (by rw [iL_len]; omega), hl]
  rw [h3]
  congr 1
  refine goodK_eq (Nat.le_refl _) (allP ?_ _ _) (.inl rfl)
  rw [List.all_eq_true] at ha ⊢
  exact fun y hy => ha y (List.mem_of_mem_take hy)
theorem good_more {c m : Nat} {x : Int} {t l : List Int} {v o : List Nat} (hc : 1 ≤ c) (hl : unB c x t (iL v) = l) (ha : l.all (inR x) = true) (hv : v.length = m * c) (ho : o.take v.length = v) (hle : v.length ≤ o.length) : v.length ≤ goodM c x t (iL o) := by
  have h1 := iL_len o
  have h4 : m ≤ o.length / c := (Nat.le_div_iff_mul_le (by omega)).2 (by omega)
  unfold goodM
  rw [h1]
  have h2 : o.length / c * c ≤ o.length := Nat.div_mul_le_self _ _
  obtain ⟨g1, g2, g3⟩ := goodK_spec c x (unB c x t ((iL o).take (o.length / c * c))) (o.length / c)
  have h5 : okP c x (unB c x t ((iL o).take (o.length / c * c))) m = true := by
    have hmul := Nat.mul_le_mul_right c h4
    unfold okP
    rw [unB_take hc (by rw [iL_len]; omega), List.take_take, Nat.min_eq_left hmul, ← unB_take hc (by rw [iL_len]; omega), iL_take, ← hv, ho, hl]
    exact ha
  have := g3 m h4 h5
  have := Nat.mul_le_mul_right c this
  omega

end Go.Am

namespace Go.Am
open Go.RowKit

/-! ### The laws DeframeBack, DeframeOnly -/

theorem enfA_ok {k : Nat} {x : Int} {t l : List Int} (h : askN k x l = 0) : enfA k x t l = .tup [bs (encB k x t l), .int .i64 0] := by
  rw [enfA, if_neg (by omega), Int.toNat_natCast]
end Go.Am

namespace Go.Am
open Go.RowKit

/-! ### law23: judged, alive, VerdictSays -/

def S_Judged (P : Prg) (f : Nat) : Prop := ∀ (n : Int) (b : List UInt8) (e g : Int), b.length ≤ 1000000 → judA 1 16 z16 n b = .tup [.agg [.int .i64 e, .int .i64 g], .int .i64 0] → VC P f [.int .i64 n, bs b, .int .i64 e, .int .i64 g] (.bool true)
theorem law23_judged {P : Prg} {f fJ t0 : Nat} (bd : Body P f 28 [.tmp 8] (ac_cadenzalaw23_judged fJ t0)) (hJ : S_Judge P fJ) : S_Judged P f := by
  intro n b e g hb h
  refine VC.of_acall (by simp [isDL, isD_bs, isD]) rfl (ACall.of_body bd (by simp) ?_)
  have hJ' := hJ 1 16 n z16 b rfl I32_z16 hb
  rw [h] at hJ'
  have hj : VC P fJ [.agg [.int .i64 1, .int .i64 16], .agg [.int .i32 0, .int .i32 0, .int .i32 0, .int .i32 0, .int .i32 0, .int .i32 0, .int .i32 0, .int .i32 0, .int .i32 0, .int .i32 0, .int .i32 0, .int .i32 0, .int .i32 0, .int .i32 0, .int .i32 0, .int .i32 0], .int .i64 n, .list b.length (u8 b)] (.tup [.agg [.int .i64 e, .int .i64 g], .int .i64 0]) := hJ'
  simp (maxSteps := 4000000) (disch := omega) only [step, stepv, ev, wl, wn, wp, wz, aop, cV, cV1, AV.one, partCells, okW, onlyFr, app, sliceCells, cellsAt, srcA, subA, eqFs, Int.cast_ofNat_Int, simprocAttr, ac_cadenzalaw23_judged, bs]
  refine callQ.vc hj ?_
  simp (maxSteps := 4000000) (disch := omega) only [step, stepv, ev, wl, wn, wp, wz, aop, cV, cV1, AV.one, partCells, okW, onlyFr, app, sliceCells, cellsAt, srcA, subA, eqFs, Int.cast_ofNat_Int, simprocAttr]

def fr1 : List UInt8 := [0, 0, 0, 18, 217, 65, 0]
theorem fr0_eq : fr0 = [0, 0, 0, 18, 217, 65, 255] := by decide +kernel
theorem jud_fr (n : Int) (b : List UInt8) (e g : Int) (h0 : ask21 1 16 n = 0) (h1 : errD 1 16 z16 n b = e) (h2 : judG 1 16 z16 n b = g) : judA 1 16 z16 n b = .tup [.agg [.int .i64 e, .int .i64 g], .int .i64 0] := by
  rw [judA, if_neg (by omega), h1, h2]
theorem law23_alive {P : Prg} {f fZ fJ t0 : Nat} (bd : Body P f 27 [.tmp 0] (ac_cadenzalaw23_alive fZ fJ t0)) (hZ : S_Sealed P fZ) (hJ : S_Judged P fJ) : S_alive21 P f := by
  refine VC.of_acall rfl rfl (ACall.of_body bd (by simp) ?_)
  have hZ' := hZ [0, 0, 0] (by decide)
  rw [show [0, 0, 0] ++ leB (sumM [0, 0, 0]) 4 = fr0 from rfl, fr0_eq] at hZ'
  have j1 := hJ 2 fr0 0 2 (by decide +kernel) (jud_fr _ _ _ _ (by decide +kernel) (by decide +kernel) (by decide +kernel))
  have j2 := hJ 3 fr0 24 2 (by decide +kernel) (jud_fr _ _ _ _ (by decide +kernel) (by decide +kernel) (by decide +kernel))
  have j3 := hJ 1 fr0 12 1 (by decide +kernel) (jud_fr _ _ _ _ (by decide +kernel) (by decide +kernel) (by decide +kernel))
  have j4 := hJ 2 fr1 22 0 (by decide +kernel) (jud_fr _ _ _ _ (by decide +kernel) (by decide +kernel) (by decide +kernel))
  rw [fr0_eq] at j1 j2 j3
  have hz : VC P fZ [.list 3 [.int .u8 0, .int .u8 0, .int .u8 0]] (.list 7 [.int .u8 0, .int .u8 0, .int .u8 0, .int .u8 18, .int .u8 217, .int .u8 65, .int .u8 255]) := hZ'
  have k1 : VC P fJ [.int .i64 2, .list 7 [.int .u8 0, .int .u8 0, .int .u8 0, .int .u8 18, .int .u8 217, .int .u8 65, .int .u8 255], .int .i64 0, .int .i64 2] (.bool true) := j1
  have k2 : VC P fJ [.int .i64 3, .list 7 [.int .u8 0, .int .u8 0, .int .u8 0, .int .u8 18, .int .u8 217, .int .u8 65, .int .u8 255], .int .i64 24, .int .i64 2] (.bool true) := j2
  have k3 : VC P fJ [.int .i64 1, .list 7 [.int .u8 0, .int .u8 0, .int .u8 0, .int .u8 18, .int .u8 217, .int .u8 65, .int .u8 255], .int .i64 12, .int .i64 1] (.bool true) := j3
  have k4 : VC P fJ [.int .i64 2, .list 7 [.int .u8 0, .int .u8 0, .int .u8 0, .int .u8 18, .int .u8 217, .int .u8 65, .int .u8 0], .int .i64 22, .int .i64 0] (.bool true) := j4
  have wr : IntKind.u8.wrap 256 = 0 := by decide
  clear hZ hJ hZ' j1 j2 j3 j4
  simp (maxSteps := 4000000) (disch := omega) only [step, stepv, ev, wl, wn, wp, wz, aop, cV, cV1, AV.one, partCells, okW, onlyFr, app, sliceCells, cellsAt, srcA, subA, eqFs, Int.cast_ofNat_Int, simprocAttr, ac_cadenzalaw23_alive]
  refine callQ.still 1 [0] hz (by simp [frzN, frzK, frzL, frzV]) ?_
  simp (maxSteps := 4000000) (disch := omega) only [step, stepv, ev, wl, wn, wp, wz, aop, cV, cV1, AV.one, partCells, okW, onlyFr, app, sliceCells, cellsAt, srcA, subA, eqFs, Int.cast_ofNat_Int, simprocAttr, stillAt]
  refine callQ.vc k1 ?_
  simp (maxSteps := 4000000) (disch := omega) only [step, stepv, ev, wl, wn, wp, wz, aop, cV, cV1, AV.one, partCells, okW, onlyFr, app, sliceCells, cellsAt, srcA, subA, eqFs, Int.cast_ofNat_Int, simprocAttr]
  refine callQ.vc k2 ?_
  simp (maxSteps := 4000000) (disch := omega) only [step, stepv, ev, wl, wn, wp, wz, aop, cV, cV1, AV.one, partCells, okW, onlyFr, app, sliceCells, cellsAt, srcA, subA, eqFs, Int.cast_ofNat_Int, simprocAttr]
  refine callQ.vc k3 ?_
  simp (maxSteps := 4000000) (disch := omega) only [step, stepv, ev, wl, wn, wp, wz, aop, cV, cV1, AV.one, partCells, okW, onlyFr, app, sliceCells, cellsAt, srcA, subA, eqFs, Int.cast_ofNat_Int, simprocAttr]
  refine callQ.still 1 [1] k4 (by simp [frzN, frzK, frzL, frzV, wr]) ?_
  simp (maxSteps := 4000000) (disch := omega) only [step, stepv, ev, wl, wn, wp, wz, aop, cV, cV1, AV.one, partCells, okW, onlyFr, app, sliceCells, cellsAt, srcA, subA, eqFs, Int.cast_ofNat_Int, simprocAttr, stillAt]

/-! What a verdict says (plain). -/
theorem vals_strict {V N c : Nat} : ∀ (k : Nat) (out : List Nat) (a : Nat) (e : Nat) (o : List Nat), valsM V N c k out a = .inl (e, o) → o.length < out.length + k
  | 0, _, _, _, _, h => by simp only [valsM] at h; cases h
  | k + 1, out, a, e, o, h => by
    rw [valsM] at h
    cases hg : gotM (prtV V N a) (prtN N a) 0 (chanM c (out.length % c) out) with
    | inl e' => rw [hg] at h; cases h; omega
    | inr w =>
      rw [hg] at h
      have := vals_strict k _ _ e o h
      rw [List.length_append, List.length_cons, List.length_nil] at this
      omega
theorem good_mod (c : Nat) (x : Int) (t v : List Int) : goodM c x t v % c = 0 := by unfold goodM; exact Nat.mul_mod_left _ _
theorem says {c n : Nat} {x : Int} {t : List Int} {b : List UInt8} (h : ask21 c x n = 0) : ∃ G : Nat, judG c x t n b = G ∧ G ≤ n * c ∧ G % c = 0 ∧ (errD c x t n b = 0 → G = n * c ∧ (decL c x t n b).length = n * c) ∧ (errD c x t n b ≠ 0 → G < n * c ∨ errD c x t n b = 12) := by
  obtain ⟨ec, c', n', e1, e2, p1, p2, p3, p4, p5⟩ := ask21_cases h
  have e1' : c' = c := by omega
  have e2' : n' = n := by omega
  subst e1' e2'
  have hpos : 0 < n' * c' := Nat.mul_pos p3 p1
  by_cases he : errD c' x t n' b = 0
  · refine ⟨n' * c', by rw [judG, if_pos he]; simp, Nat.le_refl _, Nat.mul_mod_left _ _, fun _ => ⟨rfl, ?_⟩, fun h => absurd he h⟩
    have := (enc_dec h he).2.1
    omega
  by_cases ho : openM b = 0
  · have hj : judG c' x t n' b = (goodM c' x t (iL (vlsM (allV b c' n'))) : Nat) := by rw [judG, if_neg he, if_pos ho]; simp only [Int.toNat_natCast]
    have hg1 := goodM_le (c := c') (x := x) (t := t) (v := iL (vlsM (allV b c' n')))
    have hlen : (vlsM (allV b c' n')).length ≤ n' * c' := by
      have hs := vals_spec (V := leN (b.take (b.length - 4))) (N := 8 * (b.take (b.length - 4)).length) (c := c') (n' * c') [] 0 (Nat.zero_le _) (fun x hx => by simp at hx)
      unfold allV
      cases hw : valsM (leN (b.take (b.length - 4))) (8 * (b.take (b.length - 4)).length) c' (n' * c') [] 0 with
      | inl w => have := (hs.1 w.1 w.2 hw).2.2; simpa [vlsM] using this
      | inr w => have := (hs.2 w.1 w.2 hw).2.2; simp [vlsM, this]
    rw [iL_len] at hg1
    refine ⟨_, hj, by omega, good_mod _ _ _ _, fun h => absurd h he, fun _ => ?_⟩
    have hE := he
    unfold errD at hE ⊢
    rw [if_neg (by omega), if_neg (by omega)] at hE ⊢
    simp only [Int.toNat_natCast] at hE ⊢
    cases hw : allV b c' n' with
    | inl w =>
      obtain ⟨e, o⟩ := w
      rw [hw] at hg1
      simp only [vlsM] at hg1 ⊢
      have := vals_strict _ _ _ e o hw
      rw [List.length_nil, Nat.zero_add] at this
      exact .inl (by omega)
    | inr w =>
      obtain ⟨o, a⟩ := w
      obtain ⟨hv, ha, hol⟩ := okV_of p1 p2 p3 p4 hw
      rw [hw] at hg1 hE
      simp only [vlsM, errV] at hg1 hE ⊢
      by_cases hr : restM (leN (b.take (b.length - 4))) (8 * (b.take (b.length - 4)).length) a = 0
      · rw [if_neg (by omega)] at hE ⊢
        refine .inl ?_
        rcases Nat.lt_or_ge (goodM c' x t (iL o)) (n' * c') with hlt | hge
        · exact hlt
        · exfalso
          refine hE ?_
          have hil : (iL o).length = n' * c' := by rw [iL_len, hol]
          have hk : goodK c' x (unB c' x t ((iL o).take ((iL o).length / c' * c'))) ((iL o).length / c') * c' = n' * c' := by
            have := hge
            unfold goodM at this hg1
            omega
          rw [hil, Nat.mul_div_cancel _ (by omega), ← hil, List.take_length] at hk
          obtain ⟨g1, g2, g3⟩ := goodK_spec c' x (unB c' x t (iL o)) n'
          have hkn : goodK c' x (unB c' x t (iL o)) n' = n' := Nat.eq_of_mul_eq_mul_right (show 0 < c' by omega) (by rw [hk, hil])
          rw [hkn] at g2
          unfold okP at g2
          rw [← hil, ← unB_len c' x t (iL o), List.take_length] at g2
          rw [chk_all p5 (by rw [unB_len, hil]; omega), if_pos g2]
      · exact .inr (by rw [if_pos hr])
  · refine ⟨0, by rw [judG, if_neg he, if_neg ho]; rfl, Nat.zero_le _, Nat.zero_mod _, fun h => absurd h he, fun _ => .inl hpos⟩

end Go.Am

namespace Go.Am
open Go.RowKit

/-! ### First moments, equal channels (plain) -/

theorem ask_all' {c x : Int} {l : List Int} (hI : I32 l) (h : askN c x l = 0) : l.all (inR x) = true := by
  obtain ⟨k, m, rfl, hk, hx, e1, e2, _⟩ := ask_all hI h
  have := chk_all (x := x) (l := l) hx hk.2.2.2.1
  rw [e2] at this
  by_cases ha : l.all (inR x) = true
  · exact ha
  · rw [if_neg ha] at this; omega
end Go.Am

namespace Go.Am
open Go.RowKit

/-! ### The law VerdictSays -/

/-! ### Other numbers of moments, cut frames -/

theorem errD_ne22 {c n : Nat} {x : Int} {t : List Int} {b : List UInt8} (h : ask21 c x n = 0) (ho : openM b = 0) : errD c x t n b ≠ 22 := by
  obtain ⟨ec, c', n', e1, e2, p1, p2, p3, p4, p5⟩ := ask21_cases h
  unfold errD
  rw [if_neg (by omega), if_neg (by omega)]
  have hs := vals_spec (V := leN (b.take (b.length - 4))) (N := 8 * (b.take (b.length - 4)).length) (c := (c : Int).toNat) ((n : Int).toNat * (c : Int).toNat) [] 0 (Nat.zero_le _) (fun x hx => by simp at hx)
  unfold allV
  cases hw : valsM (leN (b.take (b.length - 4))) (8 * (b.take (b.length - 4)).length) (c : Int).toNat ((n : Int).toNat * (c : Int).toNat) [] 0 with
  | inl w =>
    have := (hs.1 w.1 w.2 hw).1
    simp only [errV]
    omega
  | inr w =>
    simp only [errV]
    split
    · omega
    · rcases chkN_cases x (unB (c : Int).toNat x t (iL w.1)) with h | h | h | h <;> omega
theorem jud_enc {k n : Nat} {x : Int} {t l : List Int} (hL : I32 l) (h : askN k x l = 0) (hn : ask21 k x n = 0) : ∃ G : Nat, judG k x t n (encB k x t l) = G ∧ G ≤ n * k ∧ (n * k ≤ l.length → G = n * k) ∧ (l.length < n * k → l.length ≤ G) := by
  have hall := ask_all' hL h
  obtain ⟨k', m, ek, hkM, hx, e1, e2, e3, e4, e5, e6⟩ := ask_all hL h
  have ek' : k' = k := by omega
  subst ek'
  obtain ⟨c1, c6, l0, l4, lm, _⟩ := hkM
  obtain ⟨G, g1, g2, g3, g4, g5⟩ := says (t := t) (b := encB k' x t l) hn
  have hv := valE_ok k' x t l
  have hl := valE_len k' x t l
  have hun : unB k' x t (iL (valE k' x t l)) = l := by rw [iL_valE]; exact unB_out c1 hL lm
  refine ⟨G, g1, g2, fun hle => ?_, fun hgt => ?_⟩
  · by_cases he : errD k' x t n (encB k' x t l) = 0
    · exact (g4 he).1
    · have ho : openM (encB k' x t l) = 0 := by
        obtain ⟨b1, b2⟩ := frmB_bounds (c := k') hv (by omega) (by omega)
        exact open_seal b1 (by omega)
      have hf := vals_fewer (c := k') (K := n * k') hv (by omega)
      have hj : judG k' x t n (encB k' x t l) = (goodM k' x t (iL (vlsM (allV (encB k' x t l) k' n))) : Nat) := by rw [judG, if_neg he, if_pos ho]; simp only [Int.toNat_natCast]
      have ha : allV (encB k' x t l) k' n = .inr ((valE k' x t l).take (n * k'), frmN k' (valE k' x t l) (n * k')) := by
        unfold allV encB
        rw [seal_take]
        exact hf
      rw [ha] at hj
      simp only [vlsM] at hj
      rw [good_take c1 hun hall (by omega), Nat.mul_div_cancel _ (by omega)] at hj
      omega
  · by_cases he : errD k' x t n (encB k' x t l) = 0
    · rw [(g4 he).1]; omega
    · have ho : openM (encB k' x t l) = 0 := by
        obtain ⟨b1, b2⟩ := frmB_bounds (c := k') hv (by omega) (by omega)
        exact open_seal b1 (by omega)
      have hj : judG k' x t n (encB k' x t l) = (goodM k' x t (iL (vlsM (allV (encB k' x t l) k' n))) : Nat) := by rw [judG, if_neg he, if_pos ho]; simp only [Int.toNat_natCast]
      have hm := vals_more (c := k') (K := n * k') hv (by omega)
      have ha : allV (encB k' x t l) k' n = valsM (leN (frmB k' (valE k' x t l))) (8 * (frmB k' (valE k' x t l)).length) k' (n * k') [] 0 := by
        unfold allV encB
        rw [seal_take]
      rw [← ha] at hm
      have := good_more (m := m) c1 hun hall (by rw [hl]; exact e3) hm.1 hm.2
      omega
theorem jud_whole {k m : Nat} {x : Int} {t l : List Int} (hL : I32 l) (h : askN k x l = 0) (hm : (l.length : Int) / k = m) : judA k x t m (encB k x t l) = .tup [.agg [.int .i64 0, .int .i64 l.length], .int .i64 0] := by
  obtain ⟨k', m', ek, hkM, hx, e1, e2, e3, e4, e5, e6⟩ := ask_all hL h
  have ek' : k' = k := by omega
  subst ek'
  have em : m' = m := by omega
  subst em
  have d := (dec_enc (t := t) hL h).1
  rw [Int.toNat_natCast, hm] at d
  have h21 : ask21 k' x m' = 0 := by rw [← e5]; exact e6
  rw [judA, if_neg (by omega), d, judG, if_pos d]
  rw [e3]
  simp

end Go.Am

namespace Go.Am
open Go.RowKit

/-! ### The laws VerdictFewer, VerdictLost -/

set_option maxHeartbeats 1000000 in
set_option maxRecDepth 20000 in
theorem law23_VerdictFewer {P : Prg} {f fA fQ fR fE fJ t0 t1 t2 : Nat} (bd : Body P f 120 [.tmp 8] (ac_cadenzalaw23_VerdictFewer fA fQ fR fE fJ t0 t1 t2)) (hA : S_alive21 P fA) (hQ : S_EAsk P fQ) (hR : S_Ask21 P fR) (hE : S_Enc P fE) (hJ : S_Judge P fJ) : S_LawEParts P f := by
  intro c x t l n ht hI hL
  have hk : (ks .i32 t).length = 16 := by simp [ks_length, ht]
  have tt : (ks .i32 t).take 16 = ks .i32 t := take_all (by omega)
  have ot := ks_one .i32 t
  refine VC.of_acall (by simp [isDL, isD, isD_il, isDL_ks, shA]) rfl (ACall.of_body bd (by simp) ?_)
  have hA' : VC P fA [] (.bool true) := hA
  have hQ' := hQ c x l hL
  have hR' := hR c x n
  have hE' := hE c x t l ht hI hL
  simp only [shA, il] at hQ' hR' hE' ⊢
  have hll : (ks .i32 l).length = l.length := ks_length _ _
  by_cases h1 : 300 < l.length
  · simp (maxSteps := 4000000) (disch := omega) only [step, stepv, ev, wl, wn, wp, wz, aop, cV, cV1, AV.one, partCells, okW, onlyFr, app, sliceCells, cellsAt, srcA, subA, eqFs, Int.cast_ofNat_Int, simprocAttr, ac_cadenzalaw23_VerdictFewer, hk, ot, tt]
    refine callQ.vc hA' ?_
    simp (maxSteps := 4000000) (disch := omega) only [step, stepv, ev, wl, wn, wp, wz, aop, cV, cV1, AV.one, partCells, okW, onlyFr, app, sliceCells, cellsAt, srcA, subA, eqFs, Int.cast_ofNat_Int, simprocAttr]
  by_cases h0 : askN c x l = 0
  case neg =>
    simp (maxSteps := 4000000) (disch := omega) only [step, stepv, ev, wl, wn, wp, wz, aop, cV, cV1, AV.one, partCells, okW, onlyFr, app, sliceCells, cellsAt, srcA, subA, eqFs, Int.cast_ofNat_Int, simprocAttr, ac_cadenzalaw23_VerdictFewer, hk, ot, tt]
    refine callQ.vc hA' ?_
    simp (maxSteps := 4000000) (disch := omega) only [step, stepv, ev, wl, wn, wp, wz, aop, cV, cV1, AV.one, partCells, okW, onlyFr, app, sliceCells, cellsAt, srcA, subA, eqFs, Int.cast_ofNat_Int, simprocAttr, h1]
    refine callQ.vc hQ' ?_
    simp (maxSteps := 4000000) (disch := omega) only [step, stepv, ev, wl, wn, wp, wz, aop, cV, cV1, AV.one, partCells, okW, onlyFr, app, sliceCells, cellsAt, srcA, subA, eqFs, Int.cast_ofNat_Int, simprocAttr, h0]
  rw [h0] at hQ'
  by_cases h2 : ask21 c x n = 0
  case neg =>
    simp (maxSteps := 4000000) (disch := omega) only [step, stepv, ev, wl, wn, wp, wz, aop, cV, cV1, AV.one, partCells, okW, onlyFr, app, sliceCells, cellsAt, srcA, subA, eqFs, Int.cast_ofNat_Int, simprocAttr, ac_cadenzalaw23_VerdictFewer, hk, ot, tt]
    refine callQ.vc hA' ?_
    simp (maxSteps := 4000000) (disch := omega) only [step, stepv, ev, wl, wn, wp, wz, aop, cV, cV1, AV.one, partCells, okW, onlyFr, app, sliceCells, cellsAt, srcA, subA, eqFs, Int.cast_ofNat_Int, simprocAttr, h1]
    refine callQ.vc hQ' ?_
    simp (maxSteps := 4000000) (disch := omega) only [step, stepv, ev, wl, wn, wp, wz, aop, cV, cV1, AV.one, partCells, okW, onlyFr, app, sliceCells, cellsAt, srcA, subA, eqFs, Int.cast_ofNat_Int, simprocAttr]
    refine callQ.vc hR' ?_
    simp (maxSteps := 4000000) (disch := omega) only [step, stepv, ev, wl, wn, wp, wz, aop, cV, cV1, AV.one, partCells, okW, onlyFr, app, sliceCells, cellsAt, srcA, subA, eqFs, Int.cast_ofNat_Int, simprocAttr, h2]
  rw [h2] at hR'
  have hle := (enc_le (t := t) hL h0).1
  obtain ⟨k, m, rfl, hkM, hx, e1, e2, e3, e4, e5, e6⟩ := ask_all hL h0
  obtain ⟨c1, c6, l0, l4, lm, _⟩ := hkM
  have h2' := h2
  obtain ⟨_, c', n', ec, rfl, p1, p2, p3, p4, p5⟩ := ask21_cases h2'
  have ec' : c' = k := by omega
  subst ec'
  have hc0 : (c' : Int) ≠ 0 := by omega
  have hmle : m ≤ l.length := by rw [e3]; exact Nat.le_mul_of_pos_right m c1
  have e5' : ((l.length : Int)).tdiv (c' : Int) = (m : Int) := by rw [Int.tdiv_eq_ediv_of_nonneg (by omega)]; exact e5
  rw [enfA_ok h0] at hE'
  rw [Int.toNat_natCast] at hle
  have hJ1 := hJ c' x m t (encB c' x t l) ht hI (by omega)
  rw [jud_whole hL h0 e5] at hJ1
  have hJ2 := hJ c' x n' t (encB c' x t l) ht hI (by omega)
  obtain ⟨G, g1, g2, g3, g4⟩ := jud_enc (t := t) hL h0 h2
  rw [judA, if_neg (by omega), g1] at hJ2
  have ho : openM (encB c' x t l) = 0 := by
    have hvl := valE_len c' x t l
    obtain ⟨b1, b2⟩ := frmB_bounds (c := c') (valE_ok c' x t l) (by omega) (by omega)
    exact open_seal b1 (by omega)
  have h22 := errD_ne22 (t := t) h2 ho
  generalize errD c' x t n' (encB c' x t l) = e at *
  simp only [shA, bs] at hE' hJ1 hJ2
  generalize u8 (encB c' x t l) = B at *
  generalize (encB c' x t l).length = bl at *
  obtain ⟨T, hT⟩ : ∃ T, T = n' * c' := ⟨_, rfl⟩
  have eT : (n' : Int) * c' = (T : Int) := by rw [hT]; simp
  rw [← hT] at g2 g3 g4 p4
  by_cases hTl : T ≤ l.length
  · have hG := g3 hTl
    subst hG
    simp (maxSteps := 4000000) (disch := omega) only [step, stepv, ev, wl, wn, wp, wz, aop, cV, cV1, AV.one, partCells, okW, onlyFr, app, sliceCells, cellsAt, srcA, subA, eqFs, Int.cast_ofNat_Int, simprocAttr, ac_cadenzalaw23_VerdictFewer, hk, ot, tt]
    refine callQ.vc hA' ?_
    simp (maxSteps := 4000000) (disch := omega) only [step, stepv, ev, wl, wn, wp, wz, aop, cV, cV1, AV.one, partCells, okW, onlyFr, app, sliceCells, cellsAt, srcA, subA, eqFs, Int.cast_ofNat_Int, simprocAttr, h1]
    refine callQ.vc hQ' ?_
    simp (maxSteps := 4000000) (disch := omega) only [step, stepv, ev, wl, wn, wp, wz, aop, cV, cV1, AV.one, partCells, okW, onlyFr, app, sliceCells, cellsAt, srcA, subA, eqFs, Int.cast_ofNat_Int, simprocAttr]
    refine callQ.vc hR' ?_
    simp (maxSteps := 4000000) (disch := omega) only [step, stepv, ev, wl, wn, wp, wz, aop, cV, cV1, AV.one, partCells, okW, onlyFr, app, sliceCells, cellsAt, srcA, subA, eqFs, Int.cast_ofNat_Int, simprocAttr, hk, ot, tt]
    refine callQ.vc hE' ?_
    simp (maxSteps := 4000000) (disch := omega) only [step, stepv, ev, wl, wn, wp, wz, aop, cV, cV1, AV.one, partCells, okW, onlyFr, app, sliceCells, cellsAt, srcA, subA, eqFs, Int.cast_ofNat_Int, simprocAttr, hk, ot, tt, e5, e5', hc0]
    refine callD.vc hJ1 ?_
    simp (maxSteps := 4000000) (disch := omega) only [step, stepv, ev, wl, wn, wp, wz, aop, cV, cV1, AV.one, partCells, okW, onlyFr, app, sliceCells, cellsAt, srcA, subA, eqFs, Int.cast_ofNat_Int, simprocAttr, hk, ot, tt]
    refine callQ.vc hJ2 ?_
    simp (maxSteps := 4000000) (disch := omega) only [step, stepv, ev, wl, wn, wp, wz, aop, cV, cV1, AV.one, partCells, okW, onlyFr, app, sliceCells, cellsAt, srcA, subA, eqFs, Int.cast_ofNat_Int, simprocAttr, h22, eT, hll]
  · have hG := g4 (by omega)
    simp (maxSteps := 4000000) (disch := omega) only [step, stepv, ev, wl, wn, wp, wz, aop, cV, cV1, AV.one, partCells, okW, onlyFr, app, sliceCells, cellsAt, srcA, subA, eqFs, Int.cast_ofNat_Int, simprocAttr, ac_cadenzalaw23_VerdictFewer, hk, ot, tt]
    refine callQ.vc hA' ?_
    simp (maxSteps := 4000000) (disch := omega) only [step, stepv, ev, wl, wn, wp, wz, aop, cV, cV1, AV.one, partCells, okW, onlyFr, app, sliceCells, cellsAt, srcA, subA, eqFs, Int.cast_ofNat_Int, simprocAttr, h1]
    refine callQ.vc hQ' ?_
    simp (maxSteps := 4000000) (disch := omega) only [step, stepv, ev, wl, wn, wp, wz, aop, cV, cV1, AV.one, partCells, okW, onlyFr, app, sliceCells, cellsAt, srcA, subA, eqFs, Int.cast_ofNat_Int, simprocAttr]
    refine callQ.vc hR' ?_
    simp (maxSteps := 4000000) (disch := omega) only [step, stepv, ev, wl, wn, wp, wz, aop, cV, cV1, AV.one, partCells, okW, onlyFr, app, sliceCells, cellsAt, srcA, subA, eqFs, Int.cast_ofNat_Int, simprocAttr, hk, ot, tt]
    refine callQ.vc hE' ?_
    simp (maxSteps := 4000000) (disch := omega) only [step, stepv, ev, wl, wn, wp, wz, aop, cV, cV1, AV.one, partCells, okW, onlyFr, app, sliceCells, cellsAt, srcA, subA, eqFs, Int.cast_ofNat_Int, simprocAttr, hk, ot, tt, e5, e5', hc0]
    refine callD.vc hJ1 ?_
    simp (maxSteps := 4000000) (disch := omega) only [step, stepv, ev, wl, wn, wp, wz, aop, cV, cV1, AV.one, partCells, okW, onlyFr, app, sliceCells, cellsAt, srcA, subA, eqFs, Int.cast_ofNat_Int, simprocAttr, hk, ot, tt]
    refine callQ.vc hJ2 ?_
    simp (maxSteps := 4000000) (disch := omega) only [step, stepv, ev, wl, wn, wp, wz, aop, cV, cV1, AV.one, partCells, okW, onlyFr, app, sliceCells, cellsAt, srcA, subA, eqFs, Int.cast_ofNat_Int, simprocAttr, h22, eT, hll]

end Go.Am
