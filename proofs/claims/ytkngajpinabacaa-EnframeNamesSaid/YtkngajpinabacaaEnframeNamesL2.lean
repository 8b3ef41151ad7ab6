/- What the functions that the law reaches return, for every program that has their code; the conditions stand in each statement. -/
import Derived.Test.YtkngajpinabacaaEnframeNamesL1
set_option linter.unusedSectionVars false
set_option linter.unusedSimpArgs false
set_option linter.unusedVariables false
namespace Go.Am
open Go.RowKit

/-! ### First states; slices of bytes joined -/

def S_eStates (P : Prg) (f : Nat) : Prop := VC P f [] (.agg (sixD fun _ => startM))
theorem enframe_states {P : Prg} {f fS t0 : Nat} (bd : Body P f 11 [.cell 0 t0] (ac_enframe_states fS t0)) (hS : S_Start P fS) (ht : aggO P t0 = some (some 24)) : S_eStates P f := by
  refine VC.of_acall rfl rfl (ACall.of_body bd (by simp) ?_)
  simp only [S_Start, startM, dlA, dlC] at hS
  simp (maxSteps := 4000000) (disch := omega) only [step, stepv, ev, wl, wn, wp, wz, aop, cV, cV1, AV.one, partCells, okW, onlyFr, app, sliceCells, cellsAt, srcA, subA, eqFs, Int.cast_ofNat_Int, simprocAttr, ac_enframe_states]
  refine ALoop.by (ι := Nat) (fun i => ⟨[(3, .int .i64 i), (1, .ref 1 1 0), (0, .ref 0 1 0)],
      [⟨t0, 24, 1, sixD (fun _ => ⟨0, 0, 0, 0⟩), 0⟩, ⟨t0, 24, 1, sixD (fun j => if j < i then startM else ⟨0, 0, 0, 0⟩), 0⟩]⟩) (fun i => i ≤ 6) (fun i => 6 - i) 0 (Le.slots (by simp [Am.look])) (by omega) ?_
  intro i hi
  by_cases hlt : i < 6
  · have e1 := sixD_set (fun j => if j < i then startM else ⟨0, 0, 0, 0⟩) hlt startM
    have e2 : updD (fun j => if j < i then startM else ⟨0, 0, 0, 0⟩) i startM = fun j => if j < i + 1 then startM else ⟨0, 0, 0, 0⟩ := by
      funext j
      unfold updD
      by_cases h1 : j = i
      · subst h1; simp
      · by_cases h2 : j < i
        · simp [h1, h2, show j < i + 1 by omega]
        · simp [h1, h2, show ¬ j < i + 1 by omega]
    rw [e2] at e1
    have e3 := sixD_len (fun j => if j < i then startM else ⟨0, 0, 0, 0⟩)
    simp (maxSteps := 4000000) (disch := omega) only [step, stepv, ev, wl, wn, wp, wz, aop, cV, cV1, AV.one, partCells, okW, onlyFr, app, sliceCells, cellsAt, srcA, subA, eqFs, Int.cast_ofNat_Int, simprocAttr]
    refine callQ.vc hS ?_
    generalize hF : sixD (fun j => if j < i then startM else ⟨0, 0, 0, 0⟩) = F at *
    have e1' : F.take (i * 4) ++ [.int .i64 10, .int .i64 10, .int .u64 16384, .int .u64 16384] ++ F.drop (i * 4 + 4) = sixD fun j => if j < i + 1 then startM else ⟨0, 0, 0, 0⟩ := e1
    generalize sixD (fun _ => (⟨0, 0, 0, 0⟩ : Dl)) = Z
    simp (maxSteps := 4000000) (disch := omega) only [step, stepv, ev, wl, wn, wp, wz, aop, cV, cV1, AV.one, partCells, okW, onlyFr, app, sliceCells, cellsAt, srcA, subA, eqFs, Int.cast_ofNat_Int, simprocAttr, e3]
    refine ⟨i + 1, by omega, by omega, ?_⟩
    rw [e1']
    exact Le.slots (by simp [Am.look])
  obtain rfl : i = 6 := by omega
  have z1 : sixD (fun j => if j < 6 then startM else ⟨0, 0, 0, 0⟩) = sixD (fun _ => startM) := rfl
  have z2 := sixD_len fun _ => startM
  have z3 := sixD_len fun _ => (⟨0, 0, 0, 0⟩ : Dl)
  rw [z1]
  have z4 : (sixD fun _ => startM).all AV.one = true := rfl
  have z5 : (sixD fun _ => startM).take 24 = sixD fun _ => startM := rfl
  have z6 : (sixD fun _ => (⟨0, 0, 0, 0⟩ : Dl)).drop 24 = [] := rfl
  generalize (sixD fun _ => (⟨0, 0, 0, 0⟩ : Dl)) = Z at *
  generalize (sixD fun _ => startM) = S at *
  simp (maxSteps := 4000000) (disch := omega) only [step, stepv, ev, wl, wn, wp, wz, aop, cV, cV1, AV.one, partCells, okW, onlyFr, app, sliceCells, cellsAt, srcA, subA, eqFs, Int.cast_ofNat_Int, simprocAttr, resA, ht, oneOf, z2, z3, z4, z5, z6, List.take_zero, List.nil_append, List.append_nil]

def partsA (L : List (List UInt8)) : AV := .list L.length (L.map bs)
def S_Concat (P : Prg) (f : Nat) : Prop := ∀ L : List (List UInt8), L.length ≤ 1000000 → 0 < L.flatten.length → L.flatten.length ≤ 1000000 → VC P f [partsA L] (bs L.flatten)
def S_GrowNil (t : Nat) (P : Prg) (f : Nat) : Prop := ∀ (ob : List Ob) (n : Nat) (z : Bool) (K : AV → List Ob → Prop), 0 < n → n ≤ 140737488355328 → K (.own ob.length 0) (ob ++ [⟨t, 1, 0, [], 0⟩]) → ACall P f [.emp z, .int .i64 n] ob K
theorem grow_nil {P : Prg} {f t : Nat} {ρ : Go.Shelf.Ren} (L : Go.Proofs.Lays8.n4 P.prog ρ) (hf : ρ.f 4 = f) (ht : ρ.t 25 = t) (h25 : (P.prog.info? t).map (fun i => (i.zero, i.size, i.bytes)) = some (some (.int .u8 0), 1, 1)) : S_GrowNil t P f := by
  intro ob n z K h1 h2 hK
  subst hf; subst ht
  exact ACall.grow_nil L h25 h1 h2 hK
theorem flat_take {L : List (List UInt8)} {k : Nat} (h : k < L.length) : (L.take (k + 1)).flatten = (L.take k).flatten ++ L.getD k [] := by
  rw [List.take_succ_eq_append_getElem h, List.flatten_append, List.getD_eq_getElem?_getD, List.getElem?_eq_getElem h]
  simp
theorem flat_le (L : List (List UInt8)) (k : Nat) : (L.take k).flatten.length ≤ L.flatten.length := by
  conv => rhs; rw [← List.take_append_drop k L, List.flatten_append, List.length_append]
  omega
theorem slices_Concat {P : Prg} {f fG t0 : Nat} (bd : Body P f 36 [.tmp 2] (ac_slices_Concat_byte_byte fG t0)) (hG : S_GrowNil t0 P fG) : S_Concat P f := by
  intro L hL h0 h1
  refine VC.of_walk 1 (by simp [isDL, isD, partsA, isDL_bss]) (isD_bs _) (ACall.of_body bd (by simp) ?_)
  have hat : ∀ k, k < L.length → (L.map bs).drop k = bs (L.getD k []) :: (L.map bs).drop (k + 1) := fun k hk => by
    rw [List.drop_eq_getElem_cons (by simpa using hk)]
    simp [List.getD_eq_getElem?_getD, List.getElem?_eq_getElem hk]
  have hml : (L.map bs).length = L.length := by simp
  simp only [bs] at hat
  simp (maxSteps := 4000000) (disch := omega) only [step, stepv, ev, wl, wn, wp, wz, aop, cV, cV1, AV.one, partCells, okW, onlyFr, app, sliceCells, cellsAt, srcA, subA, eqFs, Int.cast_ofNat_Int, simprocAttr, ac_slices_Concat_byte_byte, partsA]
  refine ALoop.by (ι := Nat) (fun k => ⟨[(11, .int .i64 k), (10, .int .i64 L.length), (9, .list L.length (L.map bs)), (3, .int .i64 (L.take k).flatten.length), (0, .list L.length (L.map bs))], []⟩) (fun k => k ≤ L.length) (fun k => L.length - k) 0 (Le.slots (by simp [Am.look])) (by omega) ?_
  intro k hk
  by_cases hlt : k < L.length
  · have ha := hat k hlt
    have hf := flat_take hlt
    have hle := flat_le L (k + 1)
    rw [hf, List.length_append] at hle
    have hl : ((L.take (k + 1)).flatten.length : Int) = (L.take k).flatten.length + (L.getD k []).length := by rw [hf]; simp
    generalize (L.take k).flatten.length = s at *
    generalize L.getD k [] = x at *
    simp (maxSteps := 4000000) (disch := omega) only [step, stepv, ev, wl, wn, wp, wz, aop, cV, cV1, AV.one, partCells, okW, onlyFr, app, sliceCells, cellsAt, srcA, subA, eqFs, Int.cast_ofNat_Int, simprocAttr, ha, hml]
    exact ⟨k + 1, by omega, by omega, by simp only [hl]; exact Le.slots (by simp [Am.look])⟩
  obtain rfl : k = L.length := by omega
  rw [List.take_length]
  have hG' := fun K hK => hG [] L.flatten.length true K h0 (by omega) hK
  simp (maxSteps := 4000000) (disch := omega) only [step, stepv, ev, wl, wn, wp, wz, aop, cV, cV1, AV.one, partCells, okW, onlyFr, app, sliceCells, cellsAt, srcA, subA, eqFs, Int.cast_ofNat_Int, simprocAttr]
  refine hG' _ ?_
  simp (maxSteps := 4000000) (disch := omega) only [step, stepv, ev, wl, wn, wp, wz, aop, cV, cV1, AV.one, partCells, okW, onlyFr, app, sliceCells, cellsAt, srcA, subA, eqFs, Int.cast_ofNat_Int, simprocAttr]
  refine ALoop.by (ι := Nat) (fun k => ⟨[(27, .int .i64 k), (26, .int .i64 L.length), (25, .list L.length (L.map bs)), (6, .own 0 (L.take k).flatten.length)], [⟨t0, 1, (L.take k).flatten.length, u8 (L.take k).flatten, 0⟩]⟩) (fun k => k ≤ L.length) (fun k => L.length - k) 0 (Le.slots (by simp [Am.look])) (by omega) ?_
  intro k hk
  by_cases hlt : k < L.length
  · have ha := hat k hlt
    have hf := flat_take hlt
    have hle := flat_le L (k + 1)
    rw [hf, List.length_append] at hle
    have hl : (L.take (k + 1)).flatten.length = (L.take k).flatten.length + (L.getD k []).length := by rw [hf]; simp
    have hu : u8 (L.take (k + 1)).flatten = u8 (L.take k).flatten ++ u8 (L.getD k []) := by rw [hf, u8_append]
    have hc : (u8 (L.take k).flatten).length = (L.take k).flatten.length := u8_length _
    have hx : (u8 (L.getD k [])).length = (L.getD k []).length := u8_length _
    generalize u8 (L.take k).flatten = cs at *
    generalize (L.take k).flatten.length = s at *
    generalize u8 (L.getD k []) = us at *
    generalize (L.getD k []).length = xl at *
    simp (maxSteps := 4000000) (disch := omega) only [step, stepv, ev, wl, wn, wp, wz, aop, cV, cV1, AV.one, partCells, okW, onlyFr, app, sliceCells, cellsAt, srcA, subA, eqFs, Int.cast_ofNat_Int, simprocAttr, ha, hml, hc, hx]
    exact ⟨k + 1, by omega, by omega, by rw [hl, hu]; exact Le.slots (by simp [Am.look])⟩
  obtain rfl : k = L.length := by omega
  rw [List.take_length]
  simp (maxSteps := 4000000) (disch := omega) only [step, stepv, ev, wl, wn, wp, wz, aop, cV, cV1, AV.one, partCells, okW, onlyFr, app, sliceCells, cellsAt, srcA, subA, eqFs, Int.cast_ofNat_Int, simprocAttr]
  simp [frzN, frzK, frzL, frzV, frzL_T _ (isT_u8 _), bs]

end Go.Am

namespace Go.Am
open Go.RowKit

/-! ### Frames are coded: Encode, Length -/

theorem u32L_valE (c : Nat) (x : Int) (t l : List Int) : u32L (outT c (mixAll c l) (newC x t) l.length) = .list l.length (ks .u32 ((valE c x t l).map fun n : Nat => (n : Int))) := by
  have := iL_valE c x t l
  unfold iL at this
  rw [this, u32L, outT_len]
theorem upd_chan {c i : Nat} {v : List Nat} (hc : 1 ≤ c) (hi : i < v.length) : updD (fun j => if j < c then chanM c j (v.take i) else startM) (i % c) (learnM (chanM c (i % c) (v.take i)) (v.getD i 0)) = fun j => if j < c then chanM c j (v.take (i + 1)) else startM := by
  have ht : v.take (i + 1) = v.take i ++ [v.getD i 0] := by
    rw [List.take_succ_eq_append_getElem hi]
    simp [List.getD_eq_getElem?_getD, List.getElem?_eq_getElem hi]
  have hl : (v.take i).length = i := by simp; omega
  have hr : i % c < c := Nat.mod_lt _ (by omega)
  funext j
  unfold updD
  rw [ht]
  by_cases hj : j = i % c
  · subst hj
    rw [if_pos rfl, if_pos hr, chan_snoc, if_pos (by rw [hl])]
  · rw [if_neg hj]
    by_cases hjc : j < c
    · simp only [hjc, if_true]
      rw [chan_snoc, if_neg (by rw [hl]; exact fun e => hj e.symm)]
    · simp only [hjc, if_false]

def enfA (c x : Int) (t l : List Int) : AV := if askN c x l ≠ 0 then .tup [.list 0 [], .int .i64 (askN c x l)] else .tup [bs (encB c.toNat x t l), .int .i64 0]
theorem isD_enfA (c x : Int) (t l : List Int) : isD (enfA c x t l) = true := by unfold enfA; split <;> simp [isD, isDL, isD_bs]
def S_Enc (P : Prg) (f : Nat) : Prop := ∀ (c x : Int) (t l : List Int), t.length = 16 → I32 t → I32 l → VC P f [shA c x, .agg (ks .i32 t), il l] (enfA c x t l)
set_option maxHeartbeats 2000000 in
set_option maxRecDepth 20000 in
theorem enframe_Encode {P : Prg} {f fV fS fW fP fC fB fK t0 t1 t2 t3 t4 t5 tp tb : Nat} (bd : Body P f 85 [.tmp 6, .tmp 7] (ac_enframe_Encode fV fS fW fP fC fB fK t0 t1 t2 t3 t4 t5)) (hV : S_EVals P fV) (hS : S_eStates P fS) (hW : S_dWrite P fW) (bP : Body P fP 64 [] (ac_enframe_put tp tb)) (hC : S_CSum P fC) (hB : S_leBytes P fB) (hK : S_Concat P fK) : S_Enc P f := by
  intro c x t l ht hI hL
  refine VC.of_walk 1 (by simp [isDL, isD, isDL_ks, isD_il, shA]) (isD_enfA _ _ _ _) (ACall.of_body bd (by simp) ?_)
  have hk : (ks .i32 t).length = 16 := by simp [ks_length, ht]
  have tt : (ks .i32 t).take 16 = ks .i32 t := take_all (by omega)
  have ot := ks_one .i32 t
  have hV' := hV c x t l ht hI hL
  unfold enfA
  by_cases h0 : askN c x l = 0
  case neg =>
    rw [valA, if_pos h0] at hV'
    rw [if_pos h0]
    rw [shA] at hV' ⊢
    simp (maxSteps := 4000000) (disch := omega) only [step, stepv, ev, wl, wn, wp, wz, aop, cV, cV1, AV.one, partCells, okW, onlyFr, app, sliceCells, cellsAt, srcA, subA, eqFs, Int.cast_ofNat_Int, simprocAttr, ac_enframe_Encode, hk, ot, tt]
    refine callQ.vc hV' ?_
    simp (maxSteps := 4000000) (disch := omega) only [step, stepv, ev, wl, wn, wp, wz, aop, cV, cV1, AV.one, partCells, okW, onlyFr, app, sliceCells, cellsAt, srcA, subA, eqFs, Int.cast_ofNat_Int, simprocAttr, h0]
    simp [frzN, frzK, frzL, frzV]
  obtain ⟨k, m, rfl, hkM, hx, e1, e2, e3, e4, e5, e6⟩ := ask_all hL h0
  obtain ⟨c1, c6, l0, l4, lm, _⟩ := hkM
  rw [valA, if_neg (by omega), Int.toNat_natCast, u32L_valE] at hV'
  rw [if_neg (by omega), Int.toNat_natCast, encB, sealB]
  have hv := valE_ok k x t l
  have hvl := valE_len k x t l
  rw [← hvl] at hV' l0 l4
  generalize valE k x t l = v at *
  rw [shA] at hV' ⊢
  have hfb := frm_bounds (c := k) hv
  have hkv : (ks .u32 (v.map fun n : Nat => (n : Int))).length = v.length := by simp [ks]
  have s24 := sixD_len fun _ => startM
  have sone : (sixD fun _ => startM).all AV.one = true := rfl
  have stk : (sixD fun _ => startM).take 24 = sixD fun _ => startM := rfl
  have z2 : (fun j => if j < k then chanM k j (v.take 0) else startM) = fun _ => startM := by
    funext j
    rw [List.take_zero]
    split <;> rfl
  simp only [S_eStates] at hS
  simp (maxSteps := 4000000) (disch := omega) only [step, stepv, ev, wl, wn, wp, wz, aop, cV, cV1, AV.one, partCells, okW, onlyFr, app, sliceCells, cellsAt, srcA, subA, eqFs, Int.cast_ofNat_Int, simprocAttr, ac_enframe_Encode, hk, ot, tt]
  refine callQ.vc hV' ?_
  simp (maxSteps := 4000000) (disch := omega) only [step, stepv, ev, wl, wn, wp, wz, aop, cV, cV1, AV.one, partCells, okW, onlyFr, app, sliceCells, cellsAt, srcA, subA, eqFs, Int.cast_ofNat_Int, simprocAttr, hkv]
  refine callQ.vc hS ?_
  generalize hS0 : (sixD fun _ => startM) = S0 at *
  simp (maxSteps := 4000000) (disch := omega) only [step, stepv, ev, wl, wn, wp, wz, aop, cV, cV1, AV.one, partCells, okW, onlyFr, app, sliceCells, cellsAt, srcA, subA, eqFs, Int.cast_ofNat_Int, simprocAttr, hkv, s24, sone, stk, List.append_nil, List.take_zero, List.nil_append]
  refine ALoop.by (ι := Nat) (fun i => ⟨[(32, .int .i64 i), (31, .int .i64 v.length), (30, .list v.length (ks .u32 (v.map fun n : Nat => (n : Int)))), (11, .ref 3 1 0), (10, .ref 2 1 0), (7, .int .i64 0), (6, .emp true), (3, .ref 0 1 0)],
      [⟨t0, 2, 1, [.int .i64 k, .int .i64 x], 0⟩, ⟨t1, 16, 1, ks .i32 t, 0⟩, ⟨t2, 24, 1, sixD (fun j => if j < k then chanM k j (v.take i) else startM), 0⟩, bO t3 4 (frmN k v i), bY tb (frmN k v i) (frmV k v i)]⟩)
    (fun i => i ≤ v.length) (fun i => v.length - i) 0 ?_ (by omega) ?_
  · simp only [z2, hS0]
    rw [frmN_zero, frmV_zero]
    refine Le.trans (Le.virtF 3 tb 1 (by decide) rfl rfl) ?_
    exact Le.slots (by simp [Am.look])
  intro i hi
  by_cases hlt : i < v.length
  · obtain ⟨r, hr⟩ : ∃ r, r = i % k := ⟨_, rfl⟩
    have hrc : r < k := by rw [hr]; exact Nat.mod_lt _ (by omega)
    have q1 : (i : Int) % k = (r : Int) := by rw [hr]; simp [Int.natCast_emod]
    have q1' : ((i : Int)).tmod (k : Int) = (r : Int) := by rw [Int.tmod_eq_emod_of_nonneg (by omega), q1]
    have hc0 : (k : Int) ≠ 0 := by omega
    obtain ⟨b1, b2, b3⟩ := hfb i
    obtain ⟨_, b5, _⟩ := hfb (i + 1)
    have hd := chan_ok (c := k) (r := r) (hv.take i)
    have hvi := hv.getD i
    have hW' := hW 0 0 (v.getD i 0) (chanM k r (v.take i)) (by decide) hvi hd (by omega)
    rw [Nat.zero_add, Nat.pow_zero, Nat.one_mul, Nat.zero_add] at hW'
    have hcl := codeC_lt (d := chanM k r (v.take i)) hvi
    have hcn := codeN_le (v := v.getD i 0) hd
    obtain ⟨rest, hg⟩ := sixD_get (fun j => if j < k then chanM k j (v.take i) else startM) (j := r) (by omega)
    simp only [hrc, if_true] at hg
    have hset := sixD_set (fun j => if j < k then chanM k j (v.take i) else startM) (j := r) (by omega) (learnM (chanM k r (v.take i)) (v.getD i 0))
    have hup := upd_chan c1 hlt
    rw [← hr] at hup
    rw [hup] at hset
    have hln := sixD_len (fun j => if j < k then chanM k j (v.take i) else startM)
    have hkat := ks_at (K := .u32) (l := v.map fun n : Nat => (n : Int)) (i := i) (by simpa using hlt)
    have hgd : (v.map fun n : Nat => (n : Int)).getD i 0 = ((v.getD i 0 : Nat) : Int) := by simp [List.getD_eq_getElem?_getD, List.getElem?_eq_getElem hlt]
    rw [hgd] at hkat
    have hsN := frmN_succ k v i
    have hsV := frmV_succ k v i
    rw [← hr] at hsN hsV
    have hb6 : frmN k v i + codeN (chanM k r (v.take i)) (v.getD i 0) ≤ 400000 := by omega
    have hD6 : isDL (sixD (fun j => if j < k then chanM k j (v.take (i + 1)) else startM)) = true := isTL_D (isTL_sixD _)
    generalize hF1 : sixD (fun j => if j < k then chanM k j (v.take (i + 1)) else startM) = F' at *
    generalize sixD (fun j => if j < k then chanM k j (v.take i) else startM) = F at *
    generalize hN0 : frmN k v i = N at *
    generalize hV0 : frmV k v i = V at *
    generalize hN1 : frmN k v (i + 1) = N1 at *
    generalize hV1 : frmV k v (i + 1) = V1 at *
    generalize hn0 : codeN (chanM k r (v.take i)) (v.getD i 0) = n at *
    generalize hC0 : codeC (chanM k r (v.take i)) (v.getD i 0) = C at *
    generalize learnM (chanM k r (v.take i)) (v.getD i 0) = d' at *
    generalize chanM k r (v.take i) = d at *
    generalize v.getD i 0 = vi at *
    obtain ⟨d0, d1, d2, d3⟩ := d
    obtain ⟨m0, m1, m2, m3⟩ := d'
    simp only [dlA, dlC, bA] at hW'
    simp only at hg hset
    have hfr : frzN (fun o => ([] : List Nat).contains o) [⟨t0, 2, 1, [.int .i64 k, .int .i64 x], 0⟩, ⟨t1, 16, 1, ks .i32 t, 0⟩, ⟨t2, 24, 1, F, 0⟩, ⟨t3, 2, 1, [.own 4 (nB N), .int .i64 N], 0⟩, bY tb N V] (0 + 1) [.agg [.emp true, .int .i64 0], .agg [.int .i64 d0, .int .i64 d1, .int .u64 d2, .int .u64 d3], .int .u32 vi] =
      some [.agg [.list (nB 0) (u8 (leB 0 (nB 0))), .int .i64 ((0 : Nat) : Int)], .agg [.int .i64 d0, .int .i64 d1, .int .u64 d2, .int .u64 d3], .int .u32 vi] := by
      simp [frzN, frzK, frzL, frzV, nB, leB, u8]
    have pt : ∀ (Q : Exit → St → Prop) os fr dst, wpQ P os Q ⟨putA fr dst (.tup []), [⟨t0, 2, 1, [.int .i64 k, .int .i64 x], 0⟩, ⟨t1, 16, 1, ks .i32 t, 0⟩, ⟨t2, 24, 1, F', 0⟩, bO t3 4 N1, bY tb N1 V1, ⟨t3, 2, 1, [.list (nB n) (u8 (leB C (nB n))), .int .i64 n], 0⟩, ⟨t4, 4, 1, [.int .i64 m0, .int .i64 m1, .int .u64 m2, .int .u64 m3], 0⟩]⟩ →
        callQ P fP [.ref 3 1 0, .agg [.list (nB n) (u8 (leB C (nB n))), .int .i64 n]] [⟨t0, 2, 1, [.int .i64 k, .int .i64 x], 0⟩, ⟨t1, 16, 1, ks .i32 t, 0⟩, ⟨t2, 24, 1, F', 0⟩, ⟨t3, 2, 1, [.own 4 (nB N), .int .i64 N], 0⟩, bY tb N V, ⟨t3, 2, 1, [.list (nB n) (u8 (leB C (nB n))), .int .i64 n], 0⟩, ⟨t4, 4, 1, [.int .i64 m0, .int .i64 m1, .int .u64 m2, .int .u64 m3], 0⟩] os Q fr dst := fun Q os fr dst h =>
      enframe_put bP (ob := [⟨t0, 2, 1, [.int .i64 k, .int .i64 x], 0⟩, ⟨t1, 16, 1, ks .i32 t, 0⟩, ⟨t2, 24, 1, F', 0⟩, ⟨t3, 2, 1, [.own 4 (nB N), .int .i64 N], 0⟩, bY tb N V, ⟨t3, 2, 1, [.list (nB n) (u8 (leB C (nB n))), .int .i64 n], 0⟩, ⟨t4, 4, 1, [.int .i64 m0, .int .i64 m1, .int .u64 m2, .int .u64 m3], 0⟩]) (t := t3) (p := 3) (o := 4) (N := N) (V := V) (C := C) (n := n) rfl rfl (by decide) b1 hcl (by omega) (by omega)
        (Low.cons (by simp [lowL, lowV]) (Low.cons (lowL_D _ (isDL_ks _ _)) (Low.cons (lowL_D _ hD6) (Low.cons (by simp [lowL, lowV]) (Low.cons (lowL_D _ (isDL_leB _ _)) (Low.cons (by simp [lowL, lowV, lowL_D _ (isDL_leB _ _)]) (Low.cons (by simp [lowL, lowV]) Low.nil)))))))
        (by rw [hsN, hsV] at h; exact h)
    simp (maxSteps := 4000000) (disch := omega) only [step, stepv, ev, wl, wn, wp, wz, aop, cV, cV1, AV.one, partCells, okW, onlyFr, app, sliceCells, cellsAt, srcA, subA, eqFs, Int.cast_ofNat_Int, simprocAttr, bO, hkat, hkv, q1, q1', hc0, hg, hln]
    refine callQ.still 0 [] hW' hfr ?_
    simp (maxSteps := 4000000) (disch := omega) only [step, stepv, ev, wl, wn, wp, wz, aop, cV, cV1, AV.one, partCells, okW, onlyFr, app, sliceCells, cellsAt, srcA, subA, eqFs, Int.cast_ofNat_Int, simprocAttr, stillAt, hkat, hkv, q1, q1', hc0, hg, hln, hset]
    refine pt _ _ _ _ ?_
    simp (maxSteps := 4000000) (disch := omega) only [step, stepv, ev, wl, wn, wp, wz, aop, cV, cV1, AV.one, partCells, okW, onlyFr, app, sliceCells, cellsAt, srcA, subA, eqFs, Int.cast_ofNat_Int, simprocAttr]
    refine ⟨i + 1, by omega, by omega, ?_⟩
    simp only [hN1, hV1, hF1]
    refine Le.low (ob := [⟨t0, 2, 1, [.int .i64 k, .int .i64 x], 0⟩, ⟨t1, 16, 1, ks .i32 t, 0⟩, ⟨t2, 24, 1, F', 0⟩, bO t3 4 N1, bY tb N1 V1]) (J := [_, _]) (Nat.zero_le _) ?_ (by simp [Am.look, lowV, lowL_D _ (isDL_ks _ _)])
    exact Low.cons (by simp [lowL, lowV]) (Low.cons (lowL_D _ (isDL_ks _ _)) (Low.cons (lowL_D _ hD6) (Low.cons (by simp [bO, lowL, lowV]) (Low.cons (lowL_D _ (isDL_leB _ _)) Low.nil))))
  · obtain rfl : i = v.length := by omega
    obtain ⟨_, b5, b6⟩ := hfb v.length
    have hfl := frmB_len k v
    have hle : nB (frmN k v v.length) ≤ 40500 := by unfold nB; omega
    have hC' := hC (frmB k v)
    rw [if_neg (by omega), ← sumM] at hC'
    have hsm := sumM_lt (frmB k v)
    have hB' := hB (sumM (frmB k v)) 4 (by omega) (by omega) hsm
    have hK' := hK [frmB k v, leB (sumM (frmB k v)) 4] (by simp) (by simp [leB_length]) (by simp [leB_length]; omega)
    have hfe : frmB k v = leB (frmV k v v.length) (nB (frmN k v v.length)) := rfl
    simp only [partsA, bs, List.map_cons, List.map_nil, List.length_cons, List.length_nil, List.flatten_cons, List.flatten_nil, List.append_nil, List.length_append, hfl, leB_length] at hC' hB' hK' ⊢
    have tfl : isTL (u8 (frmB k v)) = true := isT_u8 _
    have tfs : isTL (u8 (leB (sumM (frmB k v)) 4)) = true := isT_u8 _
    have tfa : isTL (u8 (frmB k v ++ leB (sumM (frmB k v)) 4)) = true := isT_u8 _
    have hul : (u8 (frmB k v)).length = nB (frmN k v v.length) := by rw [u8_length, hfl]
    generalize sixD (fun j => if j < k then chanM k j (v.take v.length) else startM) = F at *
    simp only [bO, bY]
    rw [← hfe]
    generalize frmB k v ++ leB (sumM (frmB k v)) 4 = R at *
    generalize leB (sumM (frmB k v)) 4 = s4 at *
    generalize sumM (frmB k v) = sm at *
    generalize frmB k v = fb at *
    generalize nB (frmN k v v.length) = nn at *
    simp (maxSteps := 4000000) (disch := omega) only [step, stepv, ev, wl, wn, wp, wz, aop, cV, cV1, AV.one, partCells, okW, onlyFr, app, sliceCells, cellsAt, srcA, subA, eqFs, Int.cast_ofNat_Int, simprocAttr]
    refine callQ.still 1 [4] hC' (by simp [frzN, frzK, frzL, frzV, frzL_T _ tfl]) ?_
    simp (maxSteps := 4000000) (disch := omega) only [step, stepv, ev, wl, wn, wp, wz, aop, cV, cV1, AV.one, partCells, okW, onlyFr, app, sliceCells, cellsAt, srcA, subA, eqFs, Int.cast_ofNat_Int, simprocAttr, stillAt]
    refine callQ.vc hB' ?_
    simp (maxSteps := 4000000) (disch := omega) only [step, stepv, ev, wl, wn, wp, wz, aop, cV, cV1, AV.one, partCells, okW, onlyFr, app, sliceCells, cellsAt, srcA, subA, eqFs, Int.cast_ofNat_Int, simprocAttr]
    refine callQ.still 2 [5, 4] hK' (by simp [frzN, frzK, frzL, frzV, frzL_T _ tfl, frzL_T _ tfs]) ?_
    simp (maxSteps := 4000000) (disch := omega) only [step, stepv, ev, wl, wn, wp, wz, aop, cV, cV1, AV.one, partCells, okW, onlyFr, app, sliceCells, cellsAt, srcA, subA, eqFs, Int.cast_ofNat_Int, simprocAttr, stillAt]
    simp [frzN, frzK, frzL, frzV, frzL_T _ tfa]

end Go.Am

namespace Go.Am
open Go.RowKit

/-! ### How long a frame is -/

def lenA (c x : Int) (t l : List Int) : AV := if askN c x l ≠ 0 then .tup [.int .i64 0, .int .i64 (askN c x l)] else .tup [.int .i64 (encB c.toNat x t l).length, .int .i64 0]
theorem isD_lenA (c x : Int) (t l : List Int) : isD (lenA c x t l) = true := by unfold lenA; split <;> rfl
def S_ELen (P : Prg) (f : Nat) : Prop := ∀ (c x : Int) (t l : List Int), t.length = 16 → I32 t → I32 l → VC P f [shA c x, .agg (ks .i32 t), il l] (lenA c x t l)
set_option maxHeartbeats 2000000 in
set_option maxRecDepth 20000 in
theorem enframe_Length {P : Prg} {f fV fS fL fN t0 t1 t2 : Nat} (bd : Body P f 69 [.tmp 6, .tmp 7] (ac_enframe_Length fV fS fL fN t0 t1 t2)) (hV : S_EVals P fV) (hS : S_eStates P fS) (hL0 : S_dLen P fL) (hN : S_dLearn P fN) : S_ELen P f := by
  intro c x t l ht hI hL
  refine VC.of_acall (by simp [isDL, isD, isDL_ks, isD_il, shA]) (isD_lenA _ _ _ _) (ACall.of_body bd (by simp) ?_)
  have hk : (ks .i32 t).length = 16 := by simp [ks_length, ht]
  have tt : (ks .i32 t).take 16 = ks .i32 t := take_all (by omega)
  have ot := ks_one .i32 t
  have hV' := hV c x t l ht hI hL
  unfold lenA
  by_cases h0 : askN c x l = 0
  case neg =>
    rw [valA, if_pos h0] at hV'
    rw [if_pos h0]
    rw [shA] at hV' ⊢
    simp (maxSteps := 4000000) (disch := omega) only [step, stepv, ev, wl, wn, wp, wz, aop, cV, cV1, AV.one, partCells, okW, onlyFr, app, sliceCells, cellsAt, srcA, subA, eqFs, Int.cast_ofNat_Int, simprocAttr, ac_enframe_Length, hk, ot, tt]
    refine callQ.vc hV' ?_
    simp (maxSteps := 4000000) (disch := omega) only [step, stepv, ev, wl, wn, wp, wz, aop, cV, cV1, AV.one, partCells, okW, onlyFr, app, sliceCells, cellsAt, srcA, subA, eqFs, Int.cast_ofNat_Int, simprocAttr, h0]
  obtain ⟨k, m, rfl, hkM, hx, e1, e2, e3, e4, e5, e6⟩ := ask_all hL h0
  obtain ⟨c1, c6, l0, l4, lm, _⟩ := hkM
  rw [valA, if_neg (by omega), Int.toNat_natCast, u32L_valE] at hV'
  rw [if_neg (by omega), Int.toNat_natCast, encB, sealB_len, frmB_len]
  have hv := valE_ok k x t l
  have hvl := valE_len k x t l
  rw [← hvl] at hV' l0 l4
  generalize valE k x t l = v at *
  rw [shA] at hV' ⊢
  have hfb := frm_bounds (c := k) hv
  have hkv : (ks .u32 (v.map fun n : Nat => (n : Int))).length = v.length := by simp [ks]
  have s24 := sixD_len fun _ => startM
  have sone : (sixD fun _ => startM).all AV.one = true := rfl
  have stk : (sixD fun _ => startM).take 24 = sixD fun _ => startM := rfl
  have z2 : (fun j => if j < k then chanM k j (v.take 0) else startM) = fun _ => startM := by
    funext j
    rw [List.take_zero]
    split <;> rfl
  simp only [S_eStates] at hS
  simp (maxSteps := 4000000) (disch := omega) only [step, stepv, ev, wl, wn, wp, wz, aop, cV, cV1, AV.one, partCells, okW, onlyFr, app, sliceCells, cellsAt, srcA, subA, eqFs, Int.cast_ofNat_Int, simprocAttr, ac_enframe_Length, hk, ot, tt]
  refine callQ.vc hV' ?_
  simp (maxSteps := 4000000) (disch := omega) only [step, stepv, ev, wl, wn, wp, wz, aop, cV, cV1, AV.one, partCells, okW, onlyFr, app, sliceCells, cellsAt, srcA, subA, eqFs, Int.cast_ofNat_Int, simprocAttr, hkv]
  refine callQ.vc hS ?_
  generalize hS0 : (sixD fun _ => startM) = S0 at *
  simp (maxSteps := 4000000) (disch := omega) only [step, stepv, ev, wl, wn, wp, wz, aop, cV, cV1, AV.one, partCells, okW, onlyFr, app, sliceCells, cellsAt, srcA, subA, eqFs, Int.cast_ofNat_Int, simprocAttr, hkv, s24, sone, stk, List.append_nil, List.take_zero, List.nil_append]
  refine ALoop.by (ι := Nat) (fun i => ⟨[(30, .int .i64 i), (29, .int .i64 v.length), (28, .list v.length (ks .u32 (v.map fun n : Nat => (n : Int)))), (11, .int .i64 (frmN k v i)), (10, .ref 2 1 0), (7, .int .i64 0), (6, .int .i64 0), (3, .ref 0 1 0)],
      [⟨t0, 2, 1, [.int .i64 k, .int .i64 x], 0⟩, ⟨t1, 16, 1, ks .i32 t, 0⟩, ⟨t2, 24, 1, sixD (fun j => if j < k then chanM k j (v.take i) else startM), 0⟩]⟩)
    (fun i => i ≤ v.length) (fun i => v.length - i) 0 ?_ (by omega) ?_
  · simp only [z2, hS0]
    rw [frmN_zero]
    exact Le.slots (by simp [Am.look])
  intro i hi
  by_cases hlt : i < v.length
  · obtain ⟨r, hr⟩ : ∃ r, r = i % k := ⟨_, rfl⟩
    have hrc : r < k := by rw [hr]; exact Nat.mod_lt _ (by omega)
    have q1 : (i : Int) % k = (r : Int) := by rw [hr]; simp [Int.natCast_emod]
    have q1' : ((i : Int)).tmod (k : Int) = (r : Int) := by rw [Int.tmod_eq_emod_of_nonneg (by omega), q1]
    have hc0 : (k : Int) ≠ 0 := by omega
    obtain ⟨b1, b2, b3⟩ := hfb i
    obtain ⟨_, b5, _⟩ := hfb (i + 1)
    have hd := chan_ok (c := k) (r := r) (hv.take i)
    have hvi := hv.getD i
    have hL' := hL0 (v.getD i 0) (chanM k r (v.take i)) hvi hd
    have hN' := hN (v.getD i 0) (chanM k r (v.take i)) hvi hd
    have hcn := codeN_le (v := v.getD i 0) hd
    obtain ⟨rest, hg⟩ := sixD_get (fun j => if j < k then chanM k j (v.take i) else startM) (j := r) (by omega)
    simp only [hrc, if_true] at hg
    have hset := sixD_set (fun j => if j < k then chanM k j (v.take i) else startM) (j := r) (by omega) (learnM (chanM k r (v.take i)) (v.getD i 0))
    have hup := upd_chan c1 hlt
    rw [← hr] at hup
    rw [hup] at hset
    have hln := sixD_len (fun j => if j < k then chanM k j (v.take i) else startM)
    have hkat := ks_at (K := .u32) (l := v.map fun n : Nat => (n : Int)) (i := i) (by simpa using hlt)
    have hgd : (v.map fun n : Nat => (n : Int)).getD i 0 = ((v.getD i 0 : Nat) : Int) := by simp [List.getD_eq_getElem?_getD, List.getElem?_eq_getElem hlt]
    rw [hgd] at hkat
    have hsN := frmN_succ k v i
    rw [← hr] at hsN
    generalize hF1 : sixD (fun j => if j < k then chanM k j (v.take (i + 1)) else startM) = F' at *
    generalize sixD (fun j => if j < k then chanM k j (v.take i) else startM) = F at *
    generalize hN0 : frmN k v i = N at *
    generalize hN1 : frmN k v (i + 1) = N1 at *
    generalize hn0 : codeN (chanM k r (v.take i)) (v.getD i 0) = n at *
    generalize learnM (chanM k r (v.take i)) (v.getD i 0) = d' at *
    generalize chanM k r (v.take i) = d at *
    generalize v.getD i 0 = vi at *
    obtain ⟨d0, d1, d2, d3⟩ := d
    obtain ⟨m0, m1, m2, m3⟩ := d'
    simp only [dlA, dlC] at hL' hN'
    simp only at hg hset
    simp (maxSteps := 4000000) (disch := omega) only [step, stepv, ev, wl, wn, wp, wz, aop, cV, cV1, AV.one, partCells, okW, onlyFr, app, sliceCells, cellsAt, srcA, subA, eqFs, Int.cast_ofNat_Int, simprocAttr, hkat, hkv, q1, q1', hc0, hg, hln]
    refine callQ.vc hL' ?_
    simp (maxSteps := 4000000) (disch := omega) only [step, stepv, ev, wl, wn, wp, wz, aop, cV, cV1, AV.one, partCells, okW, onlyFr, app, sliceCells, cellsAt, srcA, subA, eqFs, Int.cast_ofNat_Int, simprocAttr, hg, hln]
    refine callQ.vc hN' ?_
    simp (maxSteps := 4000000) (disch := omega) only [step, stepv, ev, wl, wn, wp, wz, aop, cV, cV1, AV.one, partCells, okW, onlyFr, app, sliceCells, cellsAt, srcA, subA, eqFs, Int.cast_ofNat_Int, simprocAttr, hset, hln]
    refine ⟨i + 1, by omega, by omega, ?_⟩
    simp only [hN1, hF1]
    rw [hsN]
    exact Le.slots (by simp [Am.look])
  · obtain rfl : i = v.length := by omega
    obtain ⟨_, b5, b6⟩ := hfb v.length
    generalize sixD (fun j => if j < k then chanM k j (v.take v.length) else startM) = F at *
    generalize frmN k v v.length = N at *
    have q9 : ((N : Int) + 7) / 8 = (nB N : Nat) := by unfold nB; omega
    simp (maxSteps := 4000000) (disch := omega) only [step, stepv, ev, wl, wn, wp, wz, aop, cV, cV1, AV.one, partCells, okW, onlyFr, app, sliceCells, cellsAt, srcA, subA, eqFs, Int.cast_ofNat_Int, simprocAttr, q9]

end Go.Am

namespace Go.Am
open Go.RowKit

/-! ### The reference of Encode and Length; the law EnframeBytes -/

theorem enc_le {c x : Int} {t l : List Int} (hL : I32 l) (h : askN c x l = 0) : (encB c.toNat x t l).length ≤ 40504 ∧ 5 ≤ (encB c.toNat x t l).length := by
  obtain ⟨k, m, rfl, hkM, hx, e1, e2, e3, e4, e5, e6⟩ := ask_all hL h
  obtain ⟨c1, c6, l0, l4, lm, _⟩ := hkM
  have hvl := valE_len k x t l
  have := frmB_bounds (c := k) (valE_ok k x t l) (by omega) (by omega)
  rw [Int.toNat_natCast, encB, sealB_len]
  omega
end Go.Am

namespace Go.Am
open Go.RowKit

/-! ### law20: mono, alive -/

theorem law20_mono {P : Prg} {f t0 : Nat} (bd : Body P f 2 [.cell 0 t0] (ac_cadenzalaw20_mono t0)) (ht : aggO P t0 = some (some 2)) : S_mono P f := by
  refine VC.of_acall rfl rfl (ACall.of_body bd (by simp) ?_)
  simp (maxSteps := 4000000) (disch := omega) only [step, stepv, ev, wl, wn, wp, wz, aop, cV, cV1, AV.one, partCells, okW, onlyFr, app, sliceCells, cellsAt, srcA, subA, eqFs, Int.cast_ofNat_Int, simprocAttr, ac_cadenzalaw20_mono, resA, ht, oneOf, shA]

theorem val_00 : valA 1 16 z16 [0, 0] = .tup [u32L [0, 0], .int .i64 0] := by
  have h1 : askN 1 16 [0, 0] = 0 := by decide +kernel
  have h2 : outT 1 (mixAll 1 [0, 0]) (newC 16 z16) 2 = [0, 0] := by decide +kernel
  rw [valA, if_neg (by omega)]
  show AV.tup [u32L (outT 1 (mixAll 1 [0, 0]) (newC 16 z16) 2), .int .i64 0] = _
  rw [h2]
theorem val_11 : valA 1 16 z16 [1, -1] = .tup [u32L [2, 1], .int .i64 0] := by
  have h1 : askN 1 16 [1, -1] = 0 := by decide +kernel
  have h2 : outT 1 (mixAll 1 [1, -1]) (newC 16 z16) 2 = [2, 1] := by decide +kernel
  rw [valA, if_neg (by omega)]
  show AV.tup [u32L (outT 1 (mixAll 1 [1, -1]) (newC 16 z16) 2), .int .i64 0] = _
  rw [h2]
theorem enc_00 : encB 1 16 z16 [0, 0] = fr0 := by decide +kernel
theorem enfA_00 : enfA 1 16 z16 [0, 0] = .tup [bs fr0, .int .i64 0] := by
  have h1 : askN 1 16 [0, 0] = 0 := by decide +kernel
  rw [enfA, if_neg (by omega), show (1 : Int).toNat = 1 from rfl, enc_00]
theorem lenA_00 : lenA 1 16 z16 [0, 0] = .tup [.int .i64 7, .int .i64 0] := by
  have h1 : askN 1 16 [0, 0] = 0 := by decide +kernel
  rw [lenA, if_neg (by omega), show (1 : Int).toNat = 1 from rfl, enc_00, fr0_len]
  rfl

set_option maxHeartbeats 1000000 in
theorem law20_alive {P : Prg} {f fM fV fE fL fS fZ t0 t1 t2 t3 : Nat} (bd : Body P f 74 [.tmp 0] (ac_cadenzalaw20_alive fM fV fE fL fS fZ t0 t1 t2 t3)) (hM : S_mono P fM) (hV : S_EVals P fV) (hE : S_Enc P fE) (hL : S_ELen P fL) (hS : S_USame P fS) (hZ : S_Sealed P fZ) : S_alive21 P f := by
  refine VC.of_acall rfl rfl (ACall.of_body bd (by simp) ?_)
  have i1 : I32 [0, 0] := by intro v hv; simp at hv; omega
  have i2 : I32 [1, -1] := by intro v hv; simp at hv; omega
  have hV1 := hV 1 16 z16 [0, 0] rfl I32_z16 i1
  have hV2 := hV 1 16 z16 [1, -1] rfl I32_z16 i2
  have hE' := hE 1 16 z16 [0, 0] rfl I32_z16 i1
  have hL' := hL 1 16 z16 [0, 0] rfl I32_z16 i1
  rw [val_00] at hV1
  rw [val_11] at hV2
  rw [enfA_00] at hE'
  rw [lenA_00] at hL'
  have hS1 := hS [0, 0] (by decide)
  have hS2 := hS [2, 1] (by decide)
  have hZ' := hZ [0, 0, 0] (by decide)
  rw [show [0, 0, 0] ++ leB (sumM [0, 0, 0]) 4 = fr0 from rfl] at hZ'
  simp only [bs, fr0_len] at hZ' hE'
  have hd := decU8_u8 fr0
  have hUl : (u8 fr0).length = 7 := by rw [u8_length, fr0_len]
  generalize hU : u8 fr0 = U at *
  have hM' : VC P fM [] (.agg [.int .i64 1, .int .i64 16]) := hM
  have hz : VC P fZ [.list 3 [.int .u8 0, .int .u8 0, .int .u8 0]] (.list 7 U) := hZ'
  have v1 : VC P fV [.agg [.int .i64 1, .int .i64 16], .agg [.int .i32 0, .int .i32 0, .int .i32 0, .int .i32 0, .int .i32 0, .int .i32 0, .int .i32 0, .int .i32 0, .int .i32 0, .int .i32 0, .int .i32 0, .int .i32 0, .int .i32 0, .int .i32 0, .int .i32 0, .int .i32 0], .list 2 [.int .i32 0, .int .i32 0]] (.tup [.list 2 [.int .u32 0, .int .u32 0], .int .i64 0]) := hV1
  have v2 : VC P fV [.agg [.int .i64 1, .int .i64 16], .agg [.int .i32 0, .int .i32 0, .int .i32 0, .int .i32 0, .int .i32 0, .int .i32 0, .int .i32 0, .int .i32 0, .int .i32 0, .int .i32 0, .int .i32 0, .int .i32 0, .int .i32 0, .int .i32 0, .int .i32 0, .int .i32 0], .list 2 [.int .i32 1, .int .i32 (-1)]] (.tup [.list 2 [.int .u32 2, .int .u32 1], .int .i64 0]) := hV2
  have ve : VC P fE [.agg [.int .i64 1, .int .i64 16], .agg [.int .i32 0, .int .i32 0, .int .i32 0, .int .i32 0, .int .i32 0, .int .i32 0, .int .i32 0, .int .i32 0, .int .i32 0, .int .i32 0, .int .i32 0, .int .i32 0, .int .i32 0, .int .i32 0, .int .i32 0, .int .i32 0], .list 2 [.int .i32 0, .int .i32 0]] (.tup [.list 7 U, .int .i64 0]) := hE'
  have vl : VC P fL [.agg [.int .i64 1, .int .i64 16], .agg [.int .i32 0, .int .i32 0, .int .i32 0, .int .i32 0, .int .i32 0, .int .i32 0, .int .i32 0, .int .i32 0, .int .i32 0, .int .i32 0, .int .i32 0, .int .i32 0, .int .i32 0, .int .i32 0, .int .i32 0, .int .i32 0], .list 2 [.int .i32 0, .int .i32 0]] (.tup [.int .i64 7, .int .i64 0]) := hL'
  have s1 : VC P fS [.list 2 [.int .u32 0, .int .u32 0], .list 2 [.int .u32 0, .int .u32 0]] (.bool true) := hS1
  have s2 : VC P fS [.list 2 [.int .u32 2, .int .u32 1], .list 2 [.int .u32 2, .int .u32 1]] (.bool true) := hS2
  clear hM hV hE hL hS hZ hV1 hV2 hE' hL' hS1 hS2 hZ'
  simp (maxSteps := 4000000) (disch := omega) only [step, stepv, ev, wl, wn, wp, wz, aop, cV, cV1, AV.one, partCells, okW, onlyFr, app, sliceCells, cellsAt, srcA, subA, eqFs, Int.cast_ofNat_Int, simprocAttr, ac_cadenzalaw20_alive]
  refine callD.vc hM' ?_
  simp (maxSteps := 4000000) (disch := omega) only [step, stepv, ev, wl, wn, wp, wz, aop, cV, cV1, AV.one, partCells, okW, onlyFr, app, sliceCells, cellsAt, srcA, subA, eqFs, Int.cast_ofNat_Int, simprocAttr, sealw, isDL, isD]
  refine callD.vc v1 ?_
  simp (maxSteps := 4000000) (disch := omega) only [step, stepv, ev, wl, wn, wp, wz, aop, cV, cV1, AV.one, partCells, okW, onlyFr, app, sliceCells, cellsAt, srcA, subA, eqFs, Int.cast_ofNat_Int, simprocAttr]
  refine callD.vc hM' ?_
  simp (maxSteps := 4000000) (disch := omega) only [step, stepv, ev, wl, wn, wp, wz, aop, cV, cV1, AV.one, partCells, okW, onlyFr, app, sliceCells, cellsAt, srcA, subA, eqFs, Int.cast_ofNat_Int, simprocAttr, sealw, isDL, isD]
  refine callD.vc ve ?_
  simp (maxSteps := 4000000) (disch := omega) only [step, stepv, ev, wl, wn, wp, wz, aop, cV, cV1, AV.one, partCells, okW, onlyFr, app, sliceCells, cellsAt, srcA, subA, eqFs, Int.cast_ofNat_Int, simprocAttr]
  refine callD.vc hM' ?_
  simp (maxSteps := 4000000) (disch := omega) only [step, stepv, ev, wl, wn, wp, wz, aop, cV, cV1, AV.one, partCells, okW, onlyFr, app, sliceCells, cellsAt, srcA, subA, eqFs, Int.cast_ofNat_Int, simprocAttr, sealw, isDL, isD]
  refine callD.vc vl ?_
  simp (maxSteps := 4000000) (disch := omega) only [step, stepv, ev, wl, wn, wp, wz, aop, cV, cV1, AV.one, partCells, okW, onlyFr, app, sliceCells, cellsAt, srcA, subA, eqFs, Int.cast_ofNat_Int, simprocAttr]
  refine callD.vc hM' ?_
  simp (maxSteps := 4000000) (disch := omega) only [step, stepv, ev, wl, wn, wp, wz, aop, cV, cV1, AV.one, partCells, okW, onlyFr, app, sliceCells, cellsAt, srcA, subA, eqFs, Int.cast_ofNat_Int, simprocAttr, sealw, isDL, isD]
  refine callD.vc v2 ?_
  simp (maxSteps := 4000000) (disch := omega) only [step, stepv, ev, wl, wn, wp, wz, aop, cV, cV1, AV.one, partCells, okW, onlyFr, app, sliceCells, cellsAt, srcA, subA, eqFs, Int.cast_ofNat_Int, simprocAttr, sealw, isDL, isD]
  refine callD.vc s1 ?_
  simp (maxSteps := 4000000) (disch := omega) only [step, stepv, ev, wl, wn, wp, wz, aop, cV, cV1, AV.one, partCells, okW, onlyFr, app, sliceCells, cellsAt, srcA, subA, eqFs, Int.cast_ofNat_Int, simprocAttr, sealw, isDL, isD, hd, hUl, strA]
  refine callD.vc hz ?_
  simp (maxSteps := 4000000) (disch := omega) only [step, stepv, ev, wl, wn, wp, wz, aop, cV, cV1, AV.one, partCells, okW, onlyFr, app, sliceCells, cellsAt, srcA, subA, eqFs, Int.cast_ofNat_Int, simprocAttr, sealw, isDL, isD, hd, hUl, strA]
  refine callD.vc s2 ?_
  simp (maxSteps := 4000000) (disch := omega) only [step, stepv, ev, wl, wn, wp, wz, aop, cV, cV1, AV.one, partCells, okW, onlyFr, app, sliceCells, cellsAt, srcA, subA, eqFs, Int.cast_ofNat_Int, simprocAttr]

end Go.Am

namespace Go.Am
open Go.RowKit

/-! ### Names: what is said of some frames -/

def emL : List AV → List AV
  | [] => []
  | .emp _ :: l => .list 0 [] :: emL l
  | a :: l => a :: emL l
theorem RepL_emL {X : Cx} : ∀ (l : List AV) (vs : List Value), RepL X l vs → RepL X (emL l) vs
  | [], _, h => h
  | a :: l, vs, h => by
    simp only [RepL] at h
    obtain ⟨v, rest, e, g1, g2⟩ := h
    have h2 := RepL_emL l rest g2
    cases a with
    | emp z =>
      simp only [emL, RepL]
      refine ⟨v, rest, e, ?_, h2⟩
      simp only [Rep] at g1 ⊢
      obtain ⟨a, e, _⟩ := g1
      exact ⟨a, 0, [], e, Nat.le_refl _, .inl rfl, by simp [RepL]⟩
    | _ => simp only [emL, RepL]; exact ⟨v, rest, e, g1, h2⟩
theorem VC.emp {P : Prg} {f : FuncId} (avs : List AV) {r : AV} (h : VC P f (emL avs) r) (hd : isDL avs = true) : VC P f avs r :=
  ⟨h.1, hd, h.2.2.1, fun w C vs hC hG hr => h.2.2.2 w C vs hC hG (RepL_emL _ _ hr)⟩

def z16L : List AV := [.int .i32 0, .int .i32 0, .int .i32 0, .int .i32 0, .int .i32 0, .int .i32 0, .int .i32 0, .int .i32 0, .int .i32 0, .int .i32 0, .int .i32 0, .int .i32 0, .int .i32 0, .int .i32 0, .int .i32 0, .int .i32 0]
end Go.Am

namespace Go.Am
open Go.RowKit

/-! ### The law EnframeNames -/

theorem valE0 {P : Prg} {f : Nat} (hV : S_EVals P f) (c x : Int) (l : List Int) (e : Int) (hL : I32 l) (h : askN c x l = e) (he : e ≠ 0) : VC P f [.agg [.int .i64 c, .int .i64 x], .agg z16L, il l] (.tup [.list 0 [], .int .i64 e]) := by
  have := hV c x z16 l rfl I32_z16 hL
  rw [valA, if_pos (by omega), h] at this
  exact this
theorem encE0 {P : Prg} {f : Nat} (hE : S_Enc P f) (c x : Int) (l : List Int) (e : Int) (hL : I32 l) (h : askN c x l = e) (he : e ≠ 0) : VC P f [.agg [.int .i64 c, .int .i64 x], .agg z16L, il l] (.tup [.list 0 [], .int .i64 e]) := by
  have := hE c x z16 l rfl I32_z16 hL
  rw [enfA, if_pos (by omega), h] at this
  exact this
theorem lenE0 {P : Prg} {f : Nat} (hE : S_ELen P f) (c x : Int) (l : List Int) (e : Int) (hL : I32 l) (h : askN c x l = e) (he : e ≠ 0) : VC P f [.agg [.int .i64 c, .int .i64 x], .agg z16L, il l] (.tup [.int .i64 0, .int .i64 e]) := by
  have := hE c x z16 l rfl I32_z16 hL
  rw [lenA, if_pos (by omega), h] at this
  exact this
theorem I32_zeros (n : Nat) : I32 (List.replicate n 0) := by
  intro v hv
  have := List.eq_of_mem_replicate hv
  omega

set_option maxHeartbeats 4000000 in
set_option maxRecDepth 20000 in
theorem law20_EnframeNames {P : Prg} {f fV fE fL fC fA fU t0 t1 t2 t3 : Nat} (bd : Body P f 166 [.tmp 0] (ac_cadenzalaw20_EnframeNames fV fE fL fC fA fU t0 t1 t2 t3)) (hV : S_EVals P fV) (hE : S_Enc P fE) (hL : S_ELen P fL) (hC : S_ECheck P fC) (hA : S_alive21 P fA) (hU : S_USame P fU) : S_alive21 P f := by
  refine VC.of_acall rfl rfl (ACall.of_body bd (by simp) ?_)
  have er1 : repCells [.int .i32 0] 4001 = ks .i32 (List.replicate 4001 0) := rep_ks .i32 4001
  have er2 : repCells [.int .i32 0] (Int.toNat 4001) = ks .i32 (List.replicate 4001 0) := er1
  have tV := isTL_ks .i32 (List.replicate 4001 0)
  have V0 := valE0 hV 0 0 (List.replicate 4001 0) 2 (I32_zeros _) (ask_err (by decide +kernel)) (by decide)
  have E0 : VC P fE [.agg [.int .i64 0, .int .i64 0], .agg z16L, .list 1 [.int .i32 1073741824]] (.tup [.list 0 [], .int .i64 2]) := encE0 hE 0 0 [1073741824] 2 (by intro v hv; simp at hv; omega) (ask_err (by decide +kernel)) (by decide)
  have L0 : VC P fL [.agg [.int .i64 0, .int .i64 0], .agg z16L, .emp true] (.tup [.int .i64 0, .int .i64 2]) := VC.emp _ (lenE0 hL 0 0 [] 2 (I32_zeros 0) (ask_err (by decide +kernel)) (by decide)) rfl
  have C0 : VC P fC [.agg [.int .i64 0, .int .i64 0]] (.int .i64 2) := by have := hC 0 0; rwa [show eCheck 0 0 = 2 by decide +kernel] at this
  have V1 := valE0 hV 0 8 (List.replicate 4001 0) 2 (I32_zeros _) (ask_err (by decide +kernel)) (by decide)
  have E1 : VC P fE [.agg [.int .i64 0, .int .i64 8], .agg z16L, .list 1 [.int .i32 1073741824]] (.tup [.list 0 [], .int .i64 2]) := encE0 hE 0 8 [1073741824] 2 (by intro v hv; simp at hv; omega) (ask_err (by decide +kernel)) (by decide)
  have L1 : VC P fL [.agg [.int .i64 0, .int .i64 8], .agg z16L, .emp true] (.tup [.int .i64 0, .int .i64 2]) := VC.emp _ (lenE0 hL 0 8 [] 2 (I32_zeros 0) (ask_err (by decide +kernel)) (by decide)) rfl
  have C1 : VC P fC [.agg [.int .i64 0, .int .i64 8]] (.int .i64 2) := by have := hC 0 8; rwa [show eCheck 0 8 = 2 by decide +kernel] at this
  have V2 := valE0 hV 7 8 (List.replicate 4001 0) 2 (I32_zeros _) (ask_err (by decide +kernel)) (by decide)
  have E2 : VC P fE [.agg [.int .i64 7, .int .i64 8], .agg z16L, .list 1 [.int .i32 1073741824]] (.tup [.list 0 [], .int .i64 2]) := encE0 hE 7 8 [1073741824] 2 (by intro v hv; simp at hv; omega) (ask_err (by decide +kernel)) (by decide)
  have L2 : VC P fL [.agg [.int .i64 7, .int .i64 8], .agg z16L, .emp true] (.tup [.int .i64 0, .int .i64 2]) := VC.emp _ (lenE0 hL 7 8 [] 2 (I32_zeros 0) (ask_err (by decide +kernel)) (by decide)) rfl
  have C2 : VC P fC [.agg [.int .i64 7, .int .i64 8]] (.int .i64 2) := by have := hC 7 8; rwa [show eCheck 7 8 = 2 by decide +kernel] at this
  have V3 := valE0 hV (-1) 24 (List.replicate 4001 0) 2 (I32_zeros _) (ask_err (by decide +kernel)) (by decide)
  have E3 : VC P fE [.agg [.int .i64 (-1), .int .i64 24], .agg z16L, .list 1 [.int .i32 1073741824]] (.tup [.list 0 [], .int .i64 2]) := encE0 hE (-1) 24 [1073741824] 2 (by intro v hv; simp at hv; omega) (ask_err (by decide +kernel)) (by decide)
  have L3 : VC P fL [.agg [.int .i64 (-1), .int .i64 24], .agg z16L, .emp true] (.tup [.int .i64 0, .int .i64 2]) := VC.emp _ (lenE0 hL (-1) 24 [] 2 (I32_zeros 0) (ask_err (by decide +kernel)) (by decide)) rfl
  have C3 : VC P fC [.agg [.int .i64 (-1), .int .i64 24]] (.int .i64 2) := by have := hC (-1) 24; rwa [show eCheck (-1) 24 = 2 by decide +kernel] at this
  have V4 := valE0 hV 1 12 (List.replicate 4001 0) 2 (I32_zeros _) (ask_err (by decide +kernel)) (by decide)
  have E4 : VC P fE [.agg [.int .i64 1, .int .i64 12], .agg z16L, .list 1 [.int .i32 1073741824]] (.tup [.list 0 [], .int .i64 2]) := encE0 hE 1 12 [1073741824] 2 (by intro v hv; simp at hv; omega) (ask_err (by decide +kernel)) (by decide)
  have L4 : VC P fL [.agg [.int .i64 1, .int .i64 12], .agg z16L, .emp true] (.tup [.int .i64 0, .int .i64 2]) := VC.emp _ (lenE0 hL 1 12 [] 2 (I32_zeros 0) (ask_err (by decide +kernel)) (by decide)) rfl
  have C4 : VC P fC [.agg [.int .i64 1, .int .i64 12]] (.int .i64 2) := by have := hC 1 12; rwa [show eCheck 1 12 = 2 by decide +kernel] at this
  have V5 := valE0 hV 6 0 (List.replicate 4001 0) 2 (I32_zeros _) (ask_err (by decide +kernel)) (by decide)
  have E5 : VC P fE [.agg [.int .i64 6, .int .i64 0], .agg z16L, .list 1 [.int .i32 1073741824]] (.tup [.list 0 [], .int .i64 2]) := encE0 hE 6 0 [1073741824] 2 (by intro v hv; simp at hv; omega) (ask_err (by decide +kernel)) (by decide)
  have L5 : VC P fL [.agg [.int .i64 6, .int .i64 0], .agg z16L, .emp true] (.tup [.int .i64 0, .int .i64 2]) := VC.emp _ (lenE0 hL 6 0 [] 2 (I32_zeros 0) (ask_err (by decide +kernel)) (by decide)) rfl
  have C5 : VC P fC [.agg [.int .i64 6, .int .i64 0]] (.int .i64 2) := by have := hC 6 0; rwa [show eCheck 6 0 = 2 by decide +kernel] at this
  have V6 : VC P fV [.agg [.int .i64 2, .int .i64 8], .agg z16L, .emp true] (.tup [.list 0 [], .int .i64 2]) := VC.emp _ (valE0 hV 2 8 [] 2 (I32_zeros 0) (by decide +kernel) (by decide)) rfl
  have E6 : VC P fE [.agg [.int .i64 2, .int .i64 8], .agg z16L, .list 3 [.int .i32 1, .int .i32 2, .int .i32 3]] (.tup [.list 0 [], .int .i64 2]) := encE0 hE 2 8 [1, 2, 3] 2 (by intro v hv; simp at hv; omega) (by decide +kernel) (by decide)
  have L6 : VC P fL [.agg [.int .i64 2, .int .i64 8], .agg z16L, .list 3 [.int .i32 1, .int .i32 128, .int .i32 3]] (.tup [.int .i64 0, .int .i64 16]) := lenE0 hL 2 8 [1, 128, 3] 16 (by intro v hv; simp at hv; omega) (by decide +kernel) (by decide)
  have hk4 : checkN 8 (List.replicate 4001 0) = 4 := by rw [checkN, List.length_replicate, if_neg (by decide), if_pos (by decide)]
  have V7 := valE0 hV 2 8 (List.replicate 4001 0) 4 (I32_zeros _) (by rw [ask_chk (by decide +kernel) (by omega), hk4]) (by decide)
  have i8 : I32 [-128, 127] := by intro v hv; simp at hv; omega
  have i9 : I32 [-8388608, 8388607, 0, 0, 0, 1] := by intro v hv; simp at hv; omega
  have hv8 := hV 2 8 z16 [-128, 127] rfl I32_z16 i8
  rw [valA, if_neg (by decide +kernel)] at hv8
  have ho : outT (Int.toNat 2) (mixAll (Int.toNat 2) [-128, 127]) (newC 8 z16) [-128, 127].length = [510, 0] := by decide +kernel
  rw [ho] at hv8
  have V8 : VC P fV [.agg [.int .i64 2, .int .i64 8], .agg z16L, .list 2 [.int .i32 (-128), .int .i32 127]] (.tup [.list 2 [.int .u32 510, .int .u32 0], .int .i64 0]) := hv8
  have a9 : askN 6 24 [-8388608, 8388607, 0, 0, 0, 1] = 0 := by decide +kernel
  have hl9 := hL 6 24 z16 [-8388608, 8388607, 0, 0, 0, 1] rfl I32_z16 i9
  rw [lenA, if_neg (by omega)] at hl9
  have hle := (enc_le (t := z16) i9 a9).2
  generalize (encB (Int.toNat 6) 24 z16 [-8388608, 8388607, 0, 0, 0, 1]).length = N at *
  have L9 : VC P fL [.agg [.int .i64 6, .int .i64 24], .agg z16L, .list 6 [.int .i32 (-8388608), .int .i32 8388607, .int .i32 0, .int .i32 0, .int .i32 0, .int .i32 1]] (.tup [.int .i64 N, .int .i64 0]) := hl9
  have C6 : VC P fC [.agg [.int .i64 2, .int .i64 8]] (.int .i64 0) := by have := hC 2 8; rwa [show eCheck 2 8 = 0 by decide +kernel] at this
  have I1 : VC P fU [.list 2 [.int .u32 510, .int .u32 0], .list 2 [.int .u32 510, .int .u32 0]] (.bool true) := hU [510, 0] (by decide)
  have hA' : VC P fA [] (.bool true) := hA
  clear hv8 hl9 hV hE hL hC hA hU ho a9 i8 i9 hk4
  simp only [il, List.length_replicate] at V0 V1 V2 V3 V4 V5 V7
  generalize ks .i32 (List.replicate 4001 0) = V at *
  simp only [z16L] at V0 V1 V2 V3 V4 V5 V6 V7 V8 E0 E1 E2 E3 E4 E5 E6 L0 L1 L2 L3 L4 L5 L6 L9
  simp (maxSteps := 4000000) (disch := omega) only [step, stepv, ev, wl, wn, wp, wz, aop, cV, cV1, AV.one, partCells, okW, onlyFr, app, sliceCells, cellsAt, srcA, subA, eqFs, Int.cast_ofNat_Int, simprocAttr, ac_cadenzalaw20_EnframeNames]
  refine ALoop.by (ι := Nat) (fun i => ⟨[(3, .int .i64 i), (2, .own 1 6), (1, .ref 0 1 0)], [⟨t0, 16, 1, z16L, 0⟩, ⟨t1, 2, 6, [.int .i64 0, .int .i64 0, .int .i64 0, .int .i64 8, .int .i64 7, .int .i64 8, .int .i64 (-1), .int .i64 24, .int .i64 1, .int .i64 12, .int .i64 6, .int .i64 0], 0⟩]⟩) (fun i => i ≤ 6) (fun i => 6 - i) 0 ?_ (by omega) ?_
  · exact Le.slots (by simp [Am.look])
  intro i hi
  have hc : i = 0 ∨ i = 1 ∨ i = 2 ∨ i = 3 ∨ i = 4 ∨ i = 5 ∨ i = 6 := by omega
  rcases hc with rfl | rfl | rfl | rfl | rfl | rfl | rfl
  · simp (maxSteps := 4000000) (disch := omega) only [step, stepv, ev, wl, wn, wp, wz, aop, cV, cV1, AV.one, partCells, okW, onlyFr, app, sliceCells, cellsAt, srcA, subA, eqFs, Int.cast_ofNat_Int, simprocAttr, z16L, ↓er1, ↓er2]
    refine callD.still 1 2 rfl (by simp [ph]) V0 (by simp [frzN, frzK, frzL, frzV, frzL_T _ tV]) ?_
    simp (maxSteps := 4000000) (disch := omega) only [step, stepv, ev, wl, wn, wp, wz, aop, cV, cV1, AV.one, partCells, okW, onlyFr, app, sliceCells, cellsAt, srcA, subA, eqFs, Int.cast_ofNat_Int, simprocAttr, z16L, isDL, isD]
    refine callD.vc E0 ?_
    simp (maxSteps := 4000000) (disch := omega) only [step, stepv, ev, wl, wn, wp, wz, aop, cV, cV1, AV.one, partCells, okW, onlyFr, app, sliceCells, cellsAt, srcA, subA, eqFs, Int.cast_ofNat_Int, simprocAttr, z16L]
    refine callD.vc L0 ?_
    simp (maxSteps := 4000000) (disch := omega) only [step, stepv, ev, wl, wn, wp, wz, aop, cV, cV1, AV.one, partCells, okW, onlyFr, app, sliceCells, cellsAt, srcA, subA, eqFs, Int.cast_ofNat_Int, simprocAttr]
    refine callQ.vc C0 ?_
    simp (maxSteps := 4000000) (disch := omega) only [step, stepv, ev, wl, wn, wp, wz, aop, cV, cV1, AV.one, partCells, okW, onlyFr, app, sliceCells, cellsAt, srcA, subA, eqFs, Int.cast_ofNat_Int, simprocAttr]
    refine ⟨1, by omega, by omega, Le.dropT [_, _] (by simp [z16L, isTL, isT]) (by simp [Am.look, frzK, frzL, frzV])⟩
  · simp (maxSteps := 4000000) (disch := omega) only [step, stepv, ev, wl, wn, wp, wz, aop, cV, cV1, AV.one, partCells, okW, onlyFr, app, sliceCells, cellsAt, srcA, subA, eqFs, Int.cast_ofNat_Int, simprocAttr, z16L, ↓er1, ↓er2]
    refine callD.still 1 2 rfl (by simp [ph]) V1 (by simp [frzN, frzK, frzL, frzV, frzL_T _ tV]) ?_
    simp (maxSteps := 4000000) (disch := omega) only [step, stepv, ev, wl, wn, wp, wz, aop, cV, cV1, AV.one, partCells, okW, onlyFr, app, sliceCells, cellsAt, srcA, subA, eqFs, Int.cast_ofNat_Int, simprocAttr, z16L, isDL, isD]
    refine callD.vc E1 ?_
    simp (maxSteps := 4000000) (disch := omega) only [step, stepv, ev, wl, wn, wp, wz, aop, cV, cV1, AV.one, partCells, okW, onlyFr, app, sliceCells, cellsAt, srcA, subA, eqFs, Int.cast_ofNat_Int, simprocAttr, z16L]
    refine callD.vc L1 ?_
    simp (maxSteps := 4000000) (disch := omega) only [step, stepv, ev, wl, wn, wp, wz, aop, cV, cV1, AV.one, partCells, okW, onlyFr, app, sliceCells, cellsAt, srcA, subA, eqFs, Int.cast_ofNat_Int, simprocAttr]
    refine callQ.vc C1 ?_
    simp (maxSteps := 4000000) (disch := omega) only [step, stepv, ev, wl, wn, wp, wz, aop, cV, cV1, AV.one, partCells, okW, onlyFr, app, sliceCells, cellsAt, srcA, subA, eqFs, Int.cast_ofNat_Int, simprocAttr]
    refine ⟨2, by omega, by omega, Le.dropT [_, _] (by simp [z16L, isTL, isT]) (by simp [Am.look, frzK, frzL, frzV])⟩
  · simp (maxSteps := 4000000) (disch := omega) only [step, stepv, ev, wl, wn, wp, wz, aop, cV, cV1, AV.one, partCells, okW, onlyFr, app, sliceCells, cellsAt, srcA, subA, eqFs, Int.cast_ofNat_Int, simprocAttr, z16L, ↓er1, ↓er2]
    refine callD.still 1 2 rfl (by simp [ph]) V2 (by simp [frzN, frzK, frzL, frzV, frzL_T _ tV]) ?_
    simp (maxSteps := 4000000) (disch := omega) only [step, stepv, ev, wl, wn, wp, wz, aop, cV, cV1, AV.one, partCells, okW, onlyFr, app, sliceCells, cellsAt, srcA, subA, eqFs, Int.cast_ofNat_Int, simprocAttr, z16L, isDL, isD]
    refine callD.vc E2 ?_
    simp (maxSteps := 4000000) (disch := omega) only [step, stepv, ev, wl, wn, wp, wz, aop, cV, cV1, AV.one, partCells, okW, onlyFr, app, sliceCells, cellsAt, srcA, subA, eqFs, Int.cast_ofNat_Int, simprocAttr, z16L]
    refine callD.vc L2 ?_
    simp (maxSteps := 4000000) (disch := omega) only [step, stepv, ev, wl, wn, wp, wz, aop, cV, cV1, AV.one, partCells, okW, onlyFr, app, sliceCells, cellsAt, srcA, subA, eqFs, Int.cast_ofNat_Int, simprocAttr]
    refine callQ.vc C2 ?_
    simp (maxSteps := 4000000) (disch := omega) only [step, stepv, ev, wl, wn, wp, wz, aop, cV, cV1, AV.one, partCells, okW, onlyFr, app, sliceCells, cellsAt, srcA, subA, eqFs, Int.cast_ofNat_Int, simprocAttr]
    refine ⟨3, by omega, by omega, Le.dropT [_, _] (by simp [z16L, isTL, isT]) (by simp [Am.look, frzK, frzL, frzV])⟩
  · simp (maxSteps := 4000000) (disch := omega) only [step, stepv, ev, wl, wn, wp, wz, aop, cV, cV1, AV.one, partCells, okW, onlyFr, app, sliceCells, cellsAt, srcA, subA, eqFs, Int.cast_ofNat_Int, simprocAttr, z16L, ↓er1, ↓er2]
    refine callD.still 1 2 rfl (by simp [ph]) V3 (by simp [frzN, frzK, frzL, frzV, frzL_T _ tV]) ?_
    simp (maxSteps := 4000000) (disch := omega) only [step, stepv, ev, wl, wn, wp, wz, aop, cV, cV1, AV.one, partCells, okW, onlyFr, app, sliceCells, cellsAt, srcA, subA, eqFs, Int.cast_ofNat_Int, simprocAttr, z16L, isDL, isD]
    refine callD.vc E3 ?_
    simp (maxSteps := 4000000) (disch := omega) only [step, stepv, ev, wl, wn, wp, wz, aop, cV, cV1, AV.one, partCells, okW, onlyFr, app, sliceCells, cellsAt, srcA, subA, eqFs, Int.cast_ofNat_Int, simprocAttr, z16L]
    refine callD.vc L3 ?_
    simp (maxSteps := 4000000) (disch := omega) only [step, stepv, ev, wl, wn, wp, wz, aop, cV, cV1, AV.one, partCells, okW, onlyFr, app, sliceCells, cellsAt, srcA, subA, eqFs, Int.cast_ofNat_Int, simprocAttr]
    refine callQ.vc C3 ?_
    simp (maxSteps := 4000000) (disch := omega) only [step, stepv, ev, wl, wn, wp, wz, aop, cV, cV1, AV.one, partCells, okW, onlyFr, app, sliceCells, cellsAt, srcA, subA, eqFs, Int.cast_ofNat_Int, simprocAttr]
    refine ⟨4, by omega, by omega, Le.dropT [_, _] (by simp [z16L, isTL, isT]) (by simp [Am.look, frzK, frzL, frzV])⟩
  · simp (maxSteps := 4000000) (disch := omega) only [step, stepv, ev, wl, wn, wp, wz, aop, cV, cV1, AV.one, partCells, okW, onlyFr, app, sliceCells, cellsAt, srcA, subA, eqFs, Int.cast_ofNat_Int, simprocAttr, z16L, ↓er1, ↓er2]
    refine callD.still 1 2 rfl (by simp [ph]) V4 (by simp [frzN, frzK, frzL, frzV, frzL_T _ tV]) ?_
    simp (maxSteps := 4000000) (disch := omega) only [step, stepv, ev, wl, wn, wp, wz, aop, cV, cV1, AV.one, partCells, okW, onlyFr, app, sliceCells, cellsAt, srcA, subA, eqFs, Int.cast_ofNat_Int, simprocAttr, z16L, isDL, isD]
    refine callD.vc E4 ?_
    simp (maxSteps := 4000000) (disch := omega) only [step, stepv, ev, wl, wn, wp, wz, aop, cV, cV1, AV.one, partCells, okW, onlyFr, app, sliceCells, cellsAt, srcA, subA, eqFs, Int.cast_ofNat_Int, simprocAttr, z16L]
    refine callD.vc L4 ?_
    simp (maxSteps := 4000000) (disch := omega) only [step, stepv, ev, wl, wn, wp, wz, aop, cV, cV1, AV.one, partCells, okW, onlyFr, app, sliceCells, cellsAt, srcA, subA, eqFs, Int.cast_ofNat_Int, simprocAttr]
    refine callQ.vc C4 ?_
    simp (maxSteps := 4000000) (disch := omega) only [step, stepv, ev, wl, wn, wp, wz, aop, cV, cV1, AV.one, partCells, okW, onlyFr, app, sliceCells, cellsAt, srcA, subA, eqFs, Int.cast_ofNat_Int, simprocAttr]
    refine ⟨5, by omega, by omega, Le.dropT [_, _] (by simp [z16L, isTL, isT]) (by simp [Am.look, frzK, frzL, frzV])⟩
  · simp (maxSteps := 4000000) (disch := omega) only [step, stepv, ev, wl, wn, wp, wz, aop, cV, cV1, AV.one, partCells, okW, onlyFr, app, sliceCells, cellsAt, srcA, subA, eqFs, Int.cast_ofNat_Int, simprocAttr, z16L, ↓er1, ↓er2]
    refine callD.still 1 2 rfl (by simp [ph]) V5 (by simp [frzN, frzK, frzL, frzV, frzL_T _ tV]) ?_
    simp (maxSteps := 4000000) (disch := omega) only [step, stepv, ev, wl, wn, wp, wz, aop, cV, cV1, AV.one, partCells, okW, onlyFr, app, sliceCells, cellsAt, srcA, subA, eqFs, Int.cast_ofNat_Int, simprocAttr, z16L, isDL, isD]
    refine callD.vc E5 ?_
    simp (maxSteps := 4000000) (disch := omega) only [step, stepv, ev, wl, wn, wp, wz, aop, cV, cV1, AV.one, partCells, okW, onlyFr, app, sliceCells, cellsAt, srcA, subA, eqFs, Int.cast_ofNat_Int, simprocAttr, z16L]
    refine callD.vc L5 ?_
    simp (maxSteps := 4000000) (disch := omega) only [step, stepv, ev, wl, wn, wp, wz, aop, cV, cV1, AV.one, partCells, okW, onlyFr, app, sliceCells, cellsAt, srcA, subA, eqFs, Int.cast_ofNat_Int, simprocAttr]
    refine callQ.vc C5 ?_
    simp (maxSteps := 4000000) (disch := omega) only [step, stepv, ev, wl, wn, wp, wz, aop, cV, cV1, AV.one, partCells, okW, onlyFr, app, sliceCells, cellsAt, srcA, subA, eqFs, Int.cast_ofNat_Int, simprocAttr]
    refine ⟨6, by omega, by omega, Le.dropT [_, _] (by simp [z16L, isTL, isT]) (by simp [Am.look, frzK, frzL, frzV])⟩
  · simp (maxSteps := 4000000) (disch := omega) only [step, stepv, ev, wl, wn, wp, wz, aop, cV, cV1, AV.one, partCells, okW, onlyFr, app, sliceCells, cellsAt, srcA, subA, eqFs, Int.cast_ofNat_Int, simprocAttr, z16L]
    refine callQ.vc V6 ?_
    simp (maxSteps := 4000000) (disch := omega) only [step, stepv, ev, wl, wn, wp, wz, aop, cV, cV1, AV.one, partCells, okW, onlyFr, app, sliceCells, cellsAt, srcA, subA, eqFs, Int.cast_ofNat_Int, simprocAttr, z16L]
    refine callQ.still 1 [3] E6 (by simp [frzN, frzK, frzL, frzV]) ?_
    simp (maxSteps := 4000000) (disch := omega) only [step, stepv, ev, wl, wn, wp, wz, aop, cV, cV1, AV.one, partCells, okW, onlyFr, app, sliceCells, cellsAt, srcA, subA, eqFs, Int.cast_ofNat_Int, simprocAttr, z16L, stillAt]
    refine callQ.still 1 [4] L6 (by simp [frzN, frzK, frzL, frzV]) ?_
    simp (maxSteps := 4000000) (disch := omega) only [step, stepv, ev, wl, wn, wp, wz, aop, cV, cV1, AV.one, partCells, okW, onlyFr, app, sliceCells, cellsAt, srcA, subA, eqFs, Int.cast_ofNat_Int, simprocAttr, z16L, stillAt, ↓er1, ↓er2]
    refine callD.still 1 5 rfl (by simp [ph]) V7 (by simp [frzN, frzK, frzL, frzV, frzL_T _ tV]) ?_
    simp (maxSteps := 4000000) (disch := omega) only [step, stepv, ev, wl, wn, wp, wz, aop, cV, cV1, AV.one, partCells, okW, onlyFr, app, sliceCells, cellsAt, srcA, subA, eqFs, Int.cast_ofNat_Int, simprocAttr, z16L, stillAt]
    refine callQ.still 1 [6] V8 (by simp [frzN, frzK, frzL, frzV]) ?_
    simp (maxSteps := 4000000) (disch := omega) only [step, stepv, ev, wl, wn, wp, wz, aop, cV, cV1, AV.one, partCells, okW, onlyFr, app, sliceCells, cellsAt, srcA, subA, eqFs, Int.cast_ofNat_Int, simprocAttr, z16L, stillAt]
    refine callQ.still 1 [7] L9 (by simp [frzN, frzK, frzL, frzV]) ?_
    simp (maxSteps := 4000000) (disch := omega) only [step, stepv, ev, wl, wn, wp, wz, aop, cV, cV1, AV.one, partCells, okW, onlyFr, app, sliceCells, cellsAt, srcA, subA, eqFs, Int.cast_ofNat_Int, simprocAttr, z16L, stillAt]
    refine callQ.vc hA' ?_
    simp (maxSteps := 4000000) (disch := omega) only [step, stepv, ev, wl, wn, wp, wz, aop, cV, cV1, AV.one, partCells, okW, onlyFr, app, sliceCells, cellsAt, srcA, subA, eqFs, Int.cast_ofNat_Int, simprocAttr]
    refine callQ.vc C6 ?_
    simp (maxSteps := 4000000) (disch := omega) only [step, stepv, ev, wl, wn, wp, wz, aop, cV, cV1, AV.one, partCells, okW, onlyFr, app, sliceCells, cellsAt, srcA, subA, eqFs, Int.cast_ofNat_Int, simprocAttr]
    refine callQ.still 1 [8] I1 (by simp [frzN, frzK, frzL, frzV]) ?_
    simp (maxSteps := 4000000) (disch := omega) only [step, stepv, ev, wl, wn, wp, wz, aop, cV, cV1, AV.one, partCells, okW, onlyFr, app, sliceCells, cellsAt, srcA, subA, eqFs, Int.cast_ofNat_Int, simprocAttr, stillAt, hle]

end Go.Am

namespace Go.Am
open Go.RowKit

theorem flatten_one {α : Type} (f : α → AV) : ∀ l : List α, (l.map fun x => [f x]).flatten = l.map f
  | [] => rfl
  | x :: l => by simp [flatten_one f l]

theorem fits_u8s {L : List (List AV)} (h : ∀ c ∈ L, Fits (.int .u8) c) : ∃ l : List UInt8, L.length = l.length ∧ AV.list L.length L.flatten = bs l := by
  obtain ⟨l, rfl, _⟩ := map_of_all (f := fun b : UInt8 => [AV.int .u8 b.toNat]) (q := fun _ => True) h (fun c hc => by
    simp only [Fits] at hc
    obtain ⟨n, rfl, h1, h2⟩ := hc
    simp only [IntKind.min, IntKind.max, IntKind.signed, IntKind.bits] at h1 h2
    refine ⟨UInt8.ofNat n.toNat, ?_, trivial⟩
    simp at h1 h2
    simp; omega)
  exact ⟨l, by simp, by simp [bs, u8, flatten_one]⟩

theorem fits_ints {K : IntKind} {L : List (List AV)} (h : ∀ c ∈ L, Fits (.int K) c) : ∃ l : List Int, L.length = l.length ∧ AV.list L.length L.flatten = .list l.length (ks K l) ∧ ∀ x ∈ l, K.min ≤ x ∧ x ≤ K.max := by
  obtain ⟨l, rfl, h2⟩ := map_of_all (f := fun n : Int => [AV.int K n]) (q := fun x => K.min ≤ x ∧ x ≤ K.max) h (fun c hc => by
    simp only [Fits] at hc
    obtain ⟨n, rfl, h1, h2⟩ := hc
    exact ⟨n, rfl, h1, h2⟩)
  exact ⟨l, by simp, by simp [ks, flatten_one], h2⟩

def isStr (P : Program) (t : TypeId) : Bool := match P.underlying t with | some (.struct _) => true | _ => false
def isArr (P : Program) (t : TypeId) : Bool := match P.underlying t with | some (.array _ _) => true | _ => false
def isSl (P : Program) (t : TypeId) : Bool := match P.underlying t with | some (.slice _) => true | _ => false
theorem isStr_eq {P : Program} {t : TypeId} (h : isStr P t = true) : ∃ fs, P.underlying t = some (.struct fs) := by
  unfold isStr at h; split at h
  · exact ⟨_, by assumption⟩
  · cases h
theorem isArr_eq {P : Program} {t : TypeId} (h : isArr P t = true) : ∃ n e, P.underlying t = some (.array n e) := by
  unfold isArr at h; split at h
  · exact ⟨_, _, by assumption⟩
  · cases h
theorem isSl_eq {P : Program} {t : TypeId} (h : isSl P t = true) : ∃ e, P.underlying t = some (.slice e) := by
  unfold isSl at h; split at h
  · exact ⟨_, by assumption⟩
  · cases h

end Go.Am
