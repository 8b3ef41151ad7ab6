/- What the functions that the law reaches return, for every program that has their code; the conditions stand in each statement. -/
import Derived.Test.YtpbpkljfcfhkoaaDoorRiffNamesL1
set_option linter.unusedSectionVars false
set_option linter.unusedSimpArgs false
set_option linter.unusedVariables false
namespace Go.Am
open Go.RowKit

/-! ### slices.IndexFunc, slices.ContainsFunc at elements of one cell -/

def idxI {α : Type} (p : α → Bool) (l : List α) : Int := match l.findIdx? p with | some i => i | none => -1

def S_IndexF1 (P : Prg) (f : Nat) : Prop := ∀ (α : Type) (l : List α) (c : α → AV) (p : α → Bool) (g : Nat) (fs cs : List AV), isDL fs = true → isDL cs = true → (∀ x, isD (c x) = true) → l.length ≤ 4611686018427387904 →
  (∀ x ∈ l, VC P g (fs ++ [c x] ++ cs) (.bool (p x))) → VC P f [.list l.length (l.map c), .fn (.func g) fs cs] (.int .i64 (idxI p l))

theorem isDL_map {α : Type} {c : α → AV} (h : ∀ x, isD (c x) = true) : ∀ l : List α, isDL (l.map c) = true
  | [] => rfl
  | x :: l => by simp [isDL, h x, isDL_map h l]

theorem drop_map1 {α : Type} {l : List α} {c : α → AV} {k : Nat} (h : k < l.length) : (l.map c).drop k = c l[k] :: (l.map c).drop (k + 1) := by
  rw [List.drop_eq_getElem_cons (by simpa using h)]; simp

theorem find_none {α : Type} {p : α → Bool} {l : List α} (h : l.all (fun x => !p x) = true) : l.findIdx? p = none := by
  rw [List.findIdx?_eq_none_iff]
  intro x hx
  have := List.all_eq_true.1 h x hx
  simpa using this

theorem find_at {α : Type} {p : α → Bool} {l : List α} {k : Nat} (hk : k < l.length) (h : (l.take k).all (fun x => !p x) = true) (hp : p l[k] = true) : l.findIdx? p = some k := by
  rw [List.findIdx?_eq_some_iff_getElem]
  refine ⟨hk, hp, fun j hj => ?_⟩
  have := List.all_eq_true.1 h l[j] (by
    rw [List.mem_take_iff_getElem]
    exact ⟨j, by omega, rfl⟩)
  simpa using this

theorem all_take_go {α : Type} {l : List α} {k : Nat} (h : k < l.length) {p : α → Bool} : (l.take (k + 1)).all p = ((l.take k).all p && p l[k]) := by
  rw [List.take_succ_eq_append_getElem h, List.all_append]; simp

theorem index_func1 {P : Prg} {f : Nat} (b : Body P f 19 [.tmp 4] ac_slices_IndexFunc_byte_byte) : S_IndexF1 P f := by
  intro α l c p g fs cs h1 h2 h3 hlen hp
  refine VC.of_acall (by simp [isDL, isD, h1, h2, isDL_map h3]) rfl (ACall.of_body b (by simp) ?_)
  simp (config := { maxSteps := 4000000 }) (disch := omega) only [step, stepv, ev, okW, wl, wn, wp, aop, cV, cV1, ↓reduceIte, Nat.reduceEqDiff, Nat.reduceAdd, Int.cast_ofNat_Int, if_true, if_false, AV.one, repCells, fillA, partCells, Nat.reduceLT, Nat.reduceLeDiff, Nat.reduceMul, Nat.reduceSub, Int.reduceLT, Int.reduceLE, Int.reduceAdd, Int.reduceSub, Int.reduceMul, Int.reduceToNat, sliceCells, cellsAt, srcA, app, reduceCtorEq, Int.reduceEq, Int.reduceNeg, Int.reducePow, Nat.reducePow, Int.reduceTDiv, Int.reduceDiv, Nat.reduceDiv, Nat.reduceMod, Int.reduceMod, Int.reduceTMod, ne_eq, subA, beq_iff_eq, unA, minA, maxA, eqFs, eqA1, beq_self_eq_true, Nat.reduceBEq, ac_slices_IndexFunc_byte_byte]
  refine ALoop.by (ι := Nat) (fun k => ⟨[(8, .int .i64 k), (7, .int .i64 l.length), (1, .fn (.func g) fs cs), (0, .list l.length (l.map c))], []⟩) (fun k => k ≤ l.length ∧ (l.take k).all (fun x => !p x) = true) (fun k => l.length - k) 0 (Le.slots (by simp [Am.look])) ⟨by omega, by simp⟩ ?_
  intro k ⟨hk, hg⟩
  by_cases hlt : k < l.length
  · simp (config := { maxSteps := 4000000 }) (disch := omega) only [step, stepv, ev, okW, wl, wn, wp, aop, cV, cV1, ↓reduceIte, Nat.reduceEqDiff, Nat.reduceAdd, Int.cast_ofNat_Int, if_true, if_false, AV.one, repCells, fillA, partCells, Nat.reduceLT, Nat.reduceLeDiff, Nat.reduceMul, Nat.reduceSub, Int.reduceLT, Int.reduceLE, Int.reduceAdd, Int.reduceSub, Int.reduceMul, Int.reduceToNat, sliceCells, cellsAt, srcA, app, reduceCtorEq, Int.reduceEq, Int.reduceNeg, Int.reducePow, Nat.reducePow, Int.reduceTDiv, Int.reduceDiv, Nat.reduceDiv, Nat.reduceMod, Int.reduceMod, Int.reduceTMod, ne_eq, subA, beq_iff_eq, unA, minA, maxA, eqFs, eqA1, beq_self_eq_true, Nat.reduceBEq, drop_map1, hlt]
    refine callQ.vc (hp _ (List.getElem_mem hlt)) ?_
    cases hpk : p l[k] with
    | true => simp (config := { maxSteps := 4000000 }) (disch := omega) only [step, stepv, ev, okW, wl, wn, wp, aop, cV, cV1, ↓reduceIte, Nat.reduceEqDiff, Nat.reduceAdd, Int.cast_ofNat_Int, if_true, if_false, AV.one, repCells, fillA, partCells, Nat.reduceLT, Nat.reduceLeDiff, Nat.reduceMul, Nat.reduceSub, Int.reduceLT, Int.reduceLE, Int.reduceAdd, Int.reduceSub, Int.reduceMul, Int.reduceToNat, sliceCells, cellsAt, srcA, app, reduceCtorEq, Int.reduceEq, Int.reduceNeg, Int.reducePow, Nat.reducePow, Int.reduceTDiv, Int.reduceDiv, Nat.reduceDiv, Nat.reduceMod, Int.reduceMod, Int.reduceTMod, ne_eq, subA, beq_iff_eq, unA, minA, maxA, eqFs, eqA1, beq_self_eq_true, Nat.reduceBEq, hpk, idxI, find_at hlt hg hpk]
    | false =>
      simp (config := { maxSteps := 4000000 }) (disch := omega) only [step, stepv, ev, okW, wl, wn, wp, aop, cV, cV1, ↓reduceIte, Nat.reduceEqDiff, Nat.reduceAdd, Int.cast_ofNat_Int, if_true, if_false, AV.one, repCells, fillA, partCells, Nat.reduceLT, Nat.reduceLeDiff, Nat.reduceMul, Nat.reduceSub, Int.reduceLT, Int.reduceLE, Int.reduceAdd, Int.reduceSub, Int.reduceMul, Int.reduceToNat, sliceCells, cellsAt, srcA, app, reduceCtorEq, Int.reduceEq, Int.reduceNeg, Int.reducePow, Nat.reducePow, Int.reduceTDiv, Int.reduceDiv, Nat.reduceDiv, Nat.reduceMod, Int.reduceMod, Int.reduceTMod, ne_eq, subA, beq_iff_eq, unA, minA, maxA, eqFs, eqA1, beq_self_eq_true, Nat.reduceBEq, hpk]
      exact ⟨k + 1, ⟨by omega, by rw [all_take_go hlt, hg, hpk]; rfl⟩, by omega, Le.slots (by simp [Am.look])⟩
  · have e2 : k = l.length := by omega
    subst e2
    rw [List.take_length] at hg
    simp (config := { maxSteps := 4000000 }) (disch := omega) only [step, stepv, ev, okW, wl, wn, wp, aop, cV, cV1, ↓reduceIte, Nat.reduceEqDiff, Nat.reduceAdd, Int.cast_ofNat_Int, if_true, if_false, AV.one, repCells, fillA, partCells, Nat.reduceLT, Nat.reduceLeDiff, Nat.reduceMul, Nat.reduceSub, Int.reduceLT, Int.reduceLE, Int.reduceAdd, Int.reduceSub, Int.reduceMul, Int.reduceToNat, sliceCells, cellsAt, srcA, app, reduceCtorEq, Int.reduceEq, Int.reduceNeg, Int.reducePow, Nat.reducePow, Int.reduceTDiv, Int.reduceDiv, Nat.reduceDiv, Nat.reduceMod, Int.reduceMod, Int.reduceTMod, ne_eq, subA, beq_iff_eq, unA, minA, maxA, eqFs, eqA1, beq_self_eq_true, Nat.reduceBEq, idxI, find_none hg]

def S_ContainsF1 (P : Prg) (f : Nat) : Prop := ∀ (α : Type) (l : List α) (c : α → AV) (p : α → Bool) (g : Nat) (fs cs : List AV), isDL fs = true → isDL cs = true → (∀ x, isD (c x) = true) → l.length ≤ 4611686018427387904 →
  (∀ x ∈ l, VC P g (fs ++ [c x] ++ cs) (.bool (p x))) → VC P f [.list l.length (l.map c), .fn (.func g) fs cs] (.bool (l.any p))

theorem idx_any {α : Type} (p : α → Bool) (l : List α) : decide ((0 : Int) ≤ idxI p l) = l.any p := by
  unfold idxI
  cases h : l.findIdx? p with
  | none =>
    rw [List.findIdx?_eq_none_iff] at h
    have : l.any p = false := by rw [List.any_eq_false]; intro x hx; rw [h x hx]; simp
    rw [this]; rfl
  | some i =>
    rw [List.findIdx?_eq_some_iff_getElem] at h
    obtain ⟨h1, h2, _⟩ := h
    have : l.any p = true := by rw [List.any_eq_true]; exact ⟨_, List.getElem_mem h1, h2⟩
    rw [this]; simp

theorem contains_func1 {P : Prg} {f fI : Nat} (b : Body P f 9 [.tmp 4] (ac_slices_ContainsFunc_byte_byte fI)) (hI : S_IndexF1 P fI) : S_ContainsF1 P f := by
  intro α l c p g fs cs h1 h2 h3 hlen hp
  refine VC.of_acall (by simp [isDL, isD, h1, h2, isDL_map h3]) rfl (ACall.of_body b (by simp) ?_)
  have hi := hI α l c p g fs cs h1 h2 h3 hlen hp
  simp (config := { maxSteps := 4000000 }) (disch := omega) only [step, stepv, ev, okW, wl, wn, wp, aop, cV, cV1, ↓reduceIte, Nat.reduceEqDiff, Nat.reduceAdd, Int.cast_ofNat_Int, if_true, if_false, AV.one, repCells, fillA, partCells, Nat.reduceLT, Nat.reduceLeDiff, Nat.reduceMul, Nat.reduceSub, Int.reduceLT, Int.reduceLE, Int.reduceAdd, Int.reduceSub, Int.reduceMul, Int.reduceToNat, sliceCells, cellsAt, srcA, app, reduceCtorEq, Int.reduceEq, Int.reduceNeg, Int.reducePow, Nat.reducePow, Int.reduceTDiv, Int.reduceDiv, Nat.reduceDiv, Nat.reduceMod, Int.reduceMod, Int.reduceTMod, ne_eq, subA, beq_iff_eq, unA, minA, maxA, eqFs, eqA1, beq_self_eq_true, Nat.reduceBEq, ac_slices_ContainsFunc_byte_byte]
  refine callQ.vc hi ?_
  simp (config := { maxSteps := 4000000 }) (disch := omega) only [step, stepv, ev, okW, wl, wn, wp, aop, cV, cV1, ↓reduceIte, Nat.reduceEqDiff, Nat.reduceAdd, Int.cast_ofNat_Int, if_true, if_false, AV.one, repCells, fillA, partCells, Nat.reduceLT, Nat.reduceLeDiff, Nat.reduceMul, Nat.reduceSub, Int.reduceLT, Int.reduceLE, Int.reduceAdd, Int.reduceSub, Int.reduceMul, Int.reduceToNat, sliceCells, cellsAt, srcA, app, reduceCtorEq, Int.reduceEq, Int.reduceNeg, Int.reducePow, Nat.reducePow, Int.reduceTDiv, Int.reduceDiv, Nat.reduceDiv, Nat.reduceMod, Int.reduceMod, Int.reduceTMod, ne_eq, subA, beq_iff_eq, unA, minA, maxA, eqFs, eqA1, beq_self_eq_true, Nat.reduceBEq, idx_any]

theorem isTL_bss : ∀ l : List (List UInt8), isTL (l.map bs) = true
  | [] => rfl
  | x :: l => by
    have : isT (bs x) = true := by simp [bs, isT]; induction x with | nil => rfl | cons y x ih => simp [u8_cons, isTL, isT, ih]
    simp [isTL, this, isTL_bss l]

/-! ### feeding -/

def badLen (m : Int) (b : List UInt8) : Bool := decide ((b.length : Int) < 5) || decide (m < b.length)
def S_BadLen (P : Prg) (f : Nat) : Prop := ∀ (b : List UInt8) (m : Int), VC P f [bs b, .cell [.int .i64 m]] (.bool (badLen m b))

theorem feeding_1 {P : Prg} {f : Nat} (b : Body P f 13 [.tmp 3] ac_pushenc_feeding_1) : S_BadLen P f := by
  intro l m
  refine VC.of_acall (by simp [isDL, isD, isD_bs]) rfl (ACall.of_body b (by simp) ?_)
  by_cases h : (l.length : Int) < 5
  · simp (config := { maxSteps := 4000000 }) (disch := omega) only [step, stepv, ev, okW, wl, wn, wp, aop, cV, cV1, ↓reduceIte, Nat.reduceEqDiff, Nat.reduceAdd, Int.cast_ofNat_Int, if_true, if_false, AV.one, repCells, fillA, partCells, Nat.reduceLT, Nat.reduceLeDiff, Nat.reduceMul, Nat.reduceSub, Int.reduceLT, Int.reduceLE, Int.reduceAdd, Int.reduceSub, Int.reduceMul, Int.reduceToNat, sliceCells, cellsAt, srcA, app, reduceCtorEq, Int.reduceEq, Int.reduceNeg, Int.reducePow, Nat.reducePow, Int.reduceTDiv, Int.reduceDiv, Nat.reduceDiv, Nat.reduceMod, Int.reduceMod, Int.reduceTMod, ne_eq, subA, beq_iff_eq, unA, minA, maxA, eqFs, eqA1, beq_self_eq_true, Nat.reduceBEq, ac_pushenc_feeding_1, bs, badLen]
  · simp (config := { maxSteps := 4000000 }) (disch := omega) only [step, stepv, ev, okW, wl, wn, wp, aop, cV, cV1, ↓reduceIte, Nat.reduceEqDiff, Nat.reduceAdd, Int.cast_ofNat_Int, if_true, if_false, AV.one, repCells, fillA, partCells, Nat.reduceLT, Nat.reduceLeDiff, Nat.reduceMul, Nat.reduceSub, Int.reduceLT, Int.reduceLE, Int.reduceAdd, Int.reduceSub, Int.reduceMul, Int.reduceToNat, sliceCells, cellsAt, srcA, app, reduceCtorEq, Int.reduceEq, Int.reduceNeg, Int.reducePow, Nat.reducePow, Int.reduceTDiv, Int.reduceDiv, Nat.reduceDiv, Nat.reduceMod, Int.reduceMod, Int.reduceTMod, ne_eq, subA, beq_iff_eq, unA, minA, maxA, eqFs, eqA1, beq_self_eq_true, Nat.reduceBEq, ac_pushenc_feeding_1, bs, badLen]

/-- Is it right as one that is feeding? -/
def feedB (e : Enc) : Bool :=
  let L := longN e.rate
  if 0 < e.out.length ∨ e.ch * e.bits / 8 ≤ e.rest.length ∨ (e.smp.length : Int) % e.ch ≠ 0 ∨ L ≤ (e.smp.length : Int) / e.ch ∨ 1000 < e.frs.length then false
  else if checkN e.bits e.smp ≠ 0 then false
  else if roomB e.ch (e.frs.length + if 0 < e.smp.length then 1 else 0) (countN e L) = false then false
  else !e.frs.any (badLen ((81 * L * e.ch + 7) / 8 + 4))

def okF (e : Enc) : Prop := rightB e.ch e.bits e.rate e.pw = true ∧ e.frs.length ≤ 4611686018427387904 ∧ e.smp.length ≤ 400000 ∧ I32 e.smp ∧ e.rest.length ≤ 4611686018427387904 ∧ e.out.length ≤ 4611686018427387904

theorem mul3 {L c : Int} (h1 : 1 ≤ L) (h2 : L ≤ 1095654) (h3 : 1 ≤ c) (h4 : c ≤ 6) : 0 ≤ 81 * L * c ∧ 81 * L * c ≤ 600000000 := by
  have : c = 1 ∨ c = 2 ∨ c = 3 ∨ c = 4 ∨ c = 5 ∨ c = 6 := by omega
  rcases this with rfl | rfl | rfl | rfl | rfl | rfl <;> omega

theorem checkN_cases (b : Int) (l : List Int) : checkN b l = 0 ∨ checkN b l = 2 ∨ checkN b l = 4 ∨ checkN b l = 16 := by
  unfold checkN; split <;> (try split) <;> (try split) <;> omega

def S_Feeding (P : Prg) (f : Nat) : Prop := ∀ e : Enc, okF e → VC P f [encA e, .int .i64 (longN e.rate)] (.bool (feedB e))

set_option maxHeartbeats 4000000 in
set_option maxRecDepth 20000 in
theorem pushenc_feeding {P : Prg} {f fM fW fC fR fB fS t0 t1 : Nat} (b : Body P f 82 [.tmp 4] (ac_pushenc_feeding fM fW fC fR fB fS t0 t1)) (hM : S_Moment P fM) (hW : S_WCheck P fW) (hC : S_Count P fC) (hR : S_Room P fR) (hB : S_BadLen P fB) (hS : S_ContainsF1 P fS) : S_Feeding P f := by
  intro e ⟨hr, o1, o2, o3, o4, o5⟩
  obtain ⟨⟨r1, r2, r3⟩, ⟨r4, r5⟩, r6⟩ := rightB_iff.1 hr
  have hd := div_small (n := e.smp.length) r2
  have hm := mod_small (n := e.smp.length) r2
  have hL := longN_pos e.rate
  have hL2 := longN_le r5
  have hmul := mul_small r2 r3 r1
  have hmul3 := mul3 hL hL2 r2 r3
  have hMo := hM e.ch e.bits r2 r3 r1
  have hWo := hW e.bits e.smp o3
  refine VC.of_acall (by simp [isDL, isD_enc, isD]) rfl (ACall.of_body b (by simp) ?_)
  simp only [encA, encL, il, bss, bs, shA] at hMo hWo ⊢
  unfold feedB
  have hok : e.frs.length ≤ 1000 → okE e := fun h => ⟨r2, r3, h, o2, o3⟩
  simp (config := { maxSteps := 4000000 }) (disch := omega) only [step, stepv, ev, okW, wl, wn, wp, aop, cV, cV1, ↓reduceIte, Nat.reduceEqDiff, Nat.reduceAdd, Int.cast_ofNat_Int, if_true, if_false, AV.one, repCells, fillA, partCells, Nat.reduceLT, Nat.reduceLeDiff, Nat.reduceMul, Nat.reduceSub, Int.reduceLT, Int.reduceLE, Int.reduceAdd, Int.reduceSub, Int.reduceMul, Int.reduceToNat, sliceCells, cellsAt, srcA, app, reduceCtorEq, Int.reduceEq, Int.reduceNeg, Int.reducePow, Nat.reducePow, Int.reduceTDiv, Int.reduceDiv, Nat.reduceDiv, Nat.reduceMod, Int.reduceMod, Int.reduceTMod, ne_eq, subA, beq_iff_eq, unA, minA, maxA, eqFs, eqA1, beq_self_eq_true, Nat.reduceBEq, ac_pushenc_feeding]
  refine guardD.ndec (fun c1 => ?_) (fun c1 => ?_)
  case refine_2 => simp (config := { maxSteps := 4000000 }) (disch := omega) only [step, stepv, ev, okW, wl, wn, wp, aop, cV, cV1, ↓reduceIte, Nat.reduceEqDiff, Nat.reduceAdd, Int.cast_ofNat_Int, if_true, if_false, AV.one, repCells, fillA, partCells, Nat.reduceLT, Nat.reduceLeDiff, Nat.reduceMul, Nat.reduceSub, Int.reduceLT, Int.reduceLE, Int.reduceAdd, Int.reduceSub, Int.reduceMul, Int.reduceToNat, sliceCells, cellsAt, srcA, app, reduceCtorEq, Int.reduceEq, Int.reduceNeg, Int.reducePow, Nat.reducePow, Int.reduceTDiv, Int.reduceDiv, Nat.reduceDiv, Nat.reduceMod, Int.reduceMod, Int.reduceTMod, ne_eq, subA, beq_iff_eq, unA, minA, maxA, eqFs, eqA1, beq_self_eq_true, Nat.reduceBEq, feedB]
  simp (config := { maxSteps := 4000000 }) (disch := omega) only [step, stepv, ev, okW, wl, wn, wp, aop, cV, cV1, ↓reduceIte, Nat.reduceEqDiff, Nat.reduceAdd, Int.cast_ofNat_Int, if_true, if_false, AV.one, repCells, fillA, partCells, Nat.reduceLT, Nat.reduceLeDiff, Nat.reduceMul, Nat.reduceSub, Int.reduceLT, Int.reduceLE, Int.reduceAdd, Int.reduceSub, Int.reduceMul, Int.reduceToNat, sliceCells, cellsAt, srcA, app, reduceCtorEq, Int.reduceEq, Int.reduceNeg, Int.reducePow, Nat.reducePow, Int.reduceTDiv, Int.reduceDiv, Nat.reduceDiv, Nat.reduceMod, Int.reduceMod, Int.reduceTMod, ne_eq, subA, beq_iff_eq, unA, minA, maxA, eqFs, eqA1, beq_self_eq_true, Nat.reduceBEq]
  refine callD.vc hMo ?_
  simp (config := { maxSteps := 4000000 }) (disch := omega) only [step, stepv, ev, okW, wl, wn, wp, aop, cV, cV1, ↓reduceIte, Nat.reduceEqDiff, Nat.reduceAdd, Int.cast_ofNat_Int, if_true, if_false, AV.one, repCells, fillA, partCells, Nat.reduceLT, Nat.reduceLeDiff, Nat.reduceMul, Nat.reduceSub, Int.reduceLT, Int.reduceLE, Int.reduceAdd, Int.reduceSub, Int.reduceMul, Int.reduceToNat, sliceCells, cellsAt, srcA, app, reduceCtorEq, Int.reduceEq, Int.reduceNeg, Int.reducePow, Nat.reducePow, Int.reduceTDiv, Int.reduceDiv, Nat.reduceDiv, Nat.reduceMod, Int.reduceMod, Int.reduceTMod, ne_eq, subA, beq_iff_eq, unA, minA, maxA, eqFs, eqA1, beq_self_eq_true, Nat.reduceBEq]
  refine guardD.ndec (fun c2 => ?_) (fun c2 => ?_)
  case refine_2 => simp (config := { maxSteps := 4000000 }) (disch := omega) only [step, stepv, ev, okW, wl, wn, wp, aop, cV, cV1, ↓reduceIte, Nat.reduceEqDiff, Nat.reduceAdd, Int.cast_ofNat_Int, if_true, if_false, AV.one, repCells, fillA, partCells, Nat.reduceLT, Nat.reduceLeDiff, Nat.reduceMul, Nat.reduceSub, Int.reduceLT, Int.reduceLE, Int.reduceAdd, Int.reduceSub, Int.reduceMul, Int.reduceToNat, sliceCells, cellsAt, srcA, app, reduceCtorEq, Int.reduceEq, Int.reduceNeg, Int.reducePow, Nat.reducePow, Int.reduceTDiv, Int.reduceDiv, Nat.reduceDiv, Nat.reduceMod, Int.reduceMod, Int.reduceTMod, ne_eq, subA, beq_iff_eq, unA, minA, maxA, eqFs, eqA1, beq_self_eq_true, Nat.reduceBEq, feedB]
  simp (config := { maxSteps := 4000000 }) (disch := omega) only [step, stepv, ev, okW, wl, wn, wp, aop, cV, cV1, ↓reduceIte, Nat.reduceEqDiff, Nat.reduceAdd, Int.cast_ofNat_Int, if_true, if_false, AV.one, repCells, fillA, partCells, Nat.reduceLT, Nat.reduceLeDiff, Nat.reduceMul, Nat.reduceSub, Int.reduceLT, Int.reduceLE, Int.reduceAdd, Int.reduceSub, Int.reduceMul, Int.reduceToNat, sliceCells, cellsAt, srcA, app, reduceCtorEq, Int.reduceEq, Int.reduceNeg, Int.reducePow, Nat.reducePow, Int.reduceTDiv, Int.reduceDiv, Nat.reduceDiv, Nat.reduceMod, Int.reduceMod, Int.reduceTMod, ne_eq, subA, beq_iff_eq, unA, minA, maxA, eqFs, eqA1, beq_self_eq_true, Nat.reduceBEq]
  refine guardD.dec (fun c3 => ?_) (fun c3 => ?_)
  case refine_2 => simp (config := { maxSteps := 4000000 }) (disch := omega) only [step, stepv, ev, okW, wl, wn, wp, aop, cV, cV1, ↓reduceIte, Nat.reduceEqDiff, Nat.reduceAdd, Int.cast_ofNat_Int, if_true, if_false, AV.one, repCells, fillA, partCells, Nat.reduceLT, Nat.reduceLeDiff, Nat.reduceMul, Nat.reduceSub, Int.reduceLT, Int.reduceLE, Int.reduceAdd, Int.reduceSub, Int.reduceMul, Int.reduceToNat, sliceCells, cellsAt, srcA, app, reduceCtorEq, Int.reduceEq, Int.reduceNeg, Int.reducePow, Nat.reducePow, Int.reduceTDiv, Int.reduceDiv, Nat.reduceDiv, Nat.reduceMod, Int.reduceMod, Int.reduceTMod, ne_eq, subA, beq_iff_eq, unA, minA, maxA, eqFs, eqA1, beq_self_eq_true, Nat.reduceBEq, feedB, c3]
  simp (config := { maxSteps := 4000000 }) (disch := omega) only [step, stepv, ev, okW, wl, wn, wp, aop, cV, cV1, ↓reduceIte, Nat.reduceEqDiff, Nat.reduceAdd, Int.cast_ofNat_Int, if_true, if_false, AV.one, repCells, fillA, partCells, Nat.reduceLT, Nat.reduceLeDiff, Nat.reduceMul, Nat.reduceSub, Int.reduceLT, Int.reduceLE, Int.reduceAdd, Int.reduceSub, Int.reduceMul, Int.reduceToNat, sliceCells, cellsAt, srcA, app, reduceCtorEq, Int.reduceEq, Int.reduceNeg, Int.reducePow, Nat.reducePow, Int.reduceTDiv, Int.reduceDiv, Nat.reduceDiv, Nat.reduceMod, Int.reduceMod, Int.reduceTMod, ne_eq, subA, beq_iff_eq, unA, minA, maxA, eqFs, eqA1, beq_self_eq_true, Nat.reduceBEq, c3]
  refine guardD.ndec (fun c4 => ?_) (fun c4 => ?_)
  case refine_2 => simp (config := { maxSteps := 4000000 }) (disch := omega) only [step, stepv, ev, okW, wl, wn, wp, aop, cV, cV1, ↓reduceIte, Nat.reduceEqDiff, Nat.reduceAdd, Int.cast_ofNat_Int, if_true, if_false, AV.one, repCells, fillA, partCells, Nat.reduceLT, Nat.reduceLeDiff, Nat.reduceMul, Nat.reduceSub, Int.reduceLT, Int.reduceLE, Int.reduceAdd, Int.reduceSub, Int.reduceMul, Int.reduceToNat, sliceCells, cellsAt, srcA, app, reduceCtorEq, Int.reduceEq, Int.reduceNeg, Int.reducePow, Nat.reducePow, Int.reduceTDiv, Int.reduceDiv, Nat.reduceDiv, Nat.reduceMod, Int.reduceMod, Int.reduceTMod, ne_eq, subA, beq_iff_eq, unA, minA, maxA, eqFs, eqA1, beq_self_eq_true, Nat.reduceBEq, feedB]
  simp (config := { maxSteps := 4000000 }) (disch := omega) only [step, stepv, ev, okW, wl, wn, wp, aop, cV, cV1, ↓reduceIte, Nat.reduceEqDiff, Nat.reduceAdd, Int.cast_ofNat_Int, if_true, if_false, AV.one, repCells, fillA, partCells, Nat.reduceLT, Nat.reduceLeDiff, Nat.reduceMul, Nat.reduceSub, Int.reduceLT, Int.reduceLE, Int.reduceAdd, Int.reduceSub, Int.reduceMul, Int.reduceToNat, sliceCells, cellsAt, srcA, app, reduceCtorEq, Int.reduceEq, Int.reduceNeg, Int.reducePow, Nat.reducePow, Int.reduceTDiv, Int.reduceDiv, Nat.reduceDiv, Nat.reduceMod, Int.reduceMod, Int.reduceTMod, ne_eq, subA, beq_iff_eq, unA, minA, maxA, eqFs, eqA1, beq_self_eq_true, Nat.reduceBEq]
  refine condQ.dec (fun c5 => ?_) (fun c5 => ?_)
  case refine_1 => simp (config := { maxSteps := 4000000 }) (disch := omega) only [step, stepv, ev, okW, wl, wn, wp, aop, cV, cV1, ↓reduceIte, Nat.reduceEqDiff, Nat.reduceAdd, Int.cast_ofNat_Int, if_true, if_false, AV.one, repCells, fillA, partCells, Nat.reduceLT, Nat.reduceLeDiff, Nat.reduceMul, Nat.reduceSub, Int.reduceLT, Int.reduceLE, Int.reduceAdd, Int.reduceSub, Int.reduceMul, Int.reduceToNat, sliceCells, cellsAt, srcA, app, reduceCtorEq, Int.reduceEq, Int.reduceNeg, Int.reducePow, Nat.reducePow, Int.reduceTDiv, Int.reduceDiv, Nat.reduceDiv, Nat.reduceMod, Int.reduceMod, Int.reduceTMod, ne_eq, subA, beq_iff_eq, unA, minA, maxA, eqFs, eqA1, beq_self_eq_true, Nat.reduceBEq, feedB]
  simp (config := { maxSteps := 4000000 }) (disch := omega) only [step, stepv, ev, okW, wl, wn, wp, aop, cV, cV1, ↓reduceIte, Nat.reduceEqDiff, Nat.reduceAdd, Int.cast_ofNat_Int, if_true, if_false, AV.one, repCells, fillA, partCells, Nat.reduceLT, Nat.reduceLeDiff, Nat.reduceMul, Nat.reduceSub, Int.reduceLT, Int.reduceLE, Int.reduceAdd, Int.reduceSub, Int.reduceMul, Int.reduceToNat, sliceCells, cellsAt, srcA, app, reduceCtorEq, Int.reduceEq, Int.reduceNeg, Int.reducePow, Nat.reducePow, Int.reduceTDiv, Int.reduceDiv, Nat.reduceDiv, Nat.reduceMod, Int.reduceMod, Int.reduceTMod, ne_eq, subA, beq_iff_eq, unA, minA, maxA, eqFs, eqA1, beq_self_eq_true, Nat.reduceBEq]
  refine callQ.vc hWo ?_
  simp (config := { maxSteps := 4000000 }) (disch := omega) only [step, stepv, ev, okW, wl, wn, wp, aop, cV, cV1, ↓reduceIte, Nat.reduceEqDiff, Nat.reduceAdd, Int.cast_ofNat_Int, if_true, if_false, AV.one, repCells, fillA, partCells, Nat.reduceLT, Nat.reduceLeDiff, Nat.reduceMul, Nat.reduceSub, Int.reduceLT, Int.reduceLE, Int.reduceAdd, Int.reduceSub, Int.reduceMul, Int.reduceToNat, sliceCells, cellsAt, srcA, app, reduceCtorEq, Int.reduceEq, Int.reduceNeg, Int.reducePow, Nat.reducePow, Int.reduceTDiv, Int.reduceDiv, Nat.reduceDiv, Nat.reduceMod, Int.reduceMod, Int.reduceTMod, ne_eq, subA, beq_iff_eq, unA, minA, maxA, eqFs, eqA1, beq_self_eq_true, Nat.reduceBEq]
  refine condQ.ndec (fun c6 => ?_) (fun c6 => ?_)
  case refine_1 => simp (config := { maxSteps := 4000000 }) (disch := omega) only [step, stepv, ev, okW, wl, wn, wp, aop, cV, cV1, ↓reduceIte, Nat.reduceEqDiff, Nat.reduceAdd, Int.cast_ofNat_Int, if_true, if_false, AV.one, repCells, fillA, partCells, Nat.reduceLT, Nat.reduceLeDiff, Nat.reduceMul, Nat.reduceSub, Int.reduceLT, Int.reduceLE, Int.reduceAdd, Int.reduceSub, Int.reduceMul, Int.reduceToNat, sliceCells, cellsAt, srcA, app, reduceCtorEq, Int.reduceEq, Int.reduceNeg, Int.reducePow, Nat.reducePow, Int.reduceTDiv, Int.reduceDiv, Nat.reduceDiv, Nat.reduceMod, Int.reduceMod, Int.reduceTMod, ne_eq, subA, beq_iff_eq, unA, minA, maxA, eqFs, eqA1, beq_self_eq_true, Nat.reduceBEq, feedB, c6]
  simp (config := { maxSteps := 4000000 }) (disch := omega) only [step, stepv, ev, okW, wl, wn, wp, aop, cV, cV1, ↓reduceIte, Nat.reduceEqDiff, Nat.reduceAdd, Int.cast_ofNat_Int, if_true, if_false, AV.one, repCells, fillA, partCells, Nat.reduceLT, Nat.reduceLeDiff, Nat.reduceMul, Nat.reduceSub, Int.reduceLT, Int.reduceLE, Int.reduceAdd, Int.reduceSub, Int.reduceMul, Int.reduceToNat, sliceCells, cellsAt, srcA, app, reduceCtorEq, Int.reduceEq, Int.reduceNeg, Int.reducePow, Nat.reducePow, Int.reduceTDiv, Int.reduceDiv, Nat.reduceDiv, Nat.reduceMod, Int.reduceMod, Int.reduceTMod, ne_eq, subA, beq_iff_eq, unA, minA, maxA, eqFs, eqA1, beq_self_eq_true, Nat.reduceBEq]
  have hok : okE e := ⟨r2, r3, by omega, o2, o3⟩
  have hCo := hC e (longN e.rate) hok (by omega) hL2
  have hfm := frs_mul (n := e.frs.length) (L := longN e.rate) (by omega) (by omega) hL2
  have hcn : 0 ≤ countN e (longN e.rate) ∧ countN e (longN e.rate) ≤ 2000000000 := by unfold countN; omega
  have hRo := fun n => hR e n (countN e (longN e.rate)) r2 r3 hcn.1 hcn.2
  have hS1 := fun m => hS (List UInt8) e.frs bs (badLen m) fB [] [.cell [.int .i64 m]] rfl rfl isD_bs (by omega) (fun x _ => hB x m)
  simp only [encA, encL, il, bss, bs, shA] at hCo hRo hS1
  refine condQ.dec (fun c7 => ?_) (fun c7 => ?_)
  · simp (config := { maxSteps := 4000000 }) (disch := omega) only [step, stepv, ev, okW, wl, wn, wp, aop, cV, cV1, ↓reduceIte, Nat.reduceEqDiff, Nat.reduceAdd, Int.cast_ofNat_Int, if_true, if_false, AV.one, repCells, fillA, partCells, Nat.reduceLT, Nat.reduceLeDiff, Nat.reduceMul, Nat.reduceSub, Int.reduceLT, Int.reduceLE, Int.reduceAdd, Int.reduceSub, Int.reduceMul, Int.reduceToNat, sliceCells, cellsAt, srcA, app, reduceCtorEq, Int.reduceEq, Int.reduceNeg, Int.reducePow, Nat.reducePow, Int.reduceTDiv, Int.reduceDiv, Nat.reduceDiv, Nat.reduceMod, Int.reduceMod, Int.reduceTMod, ne_eq, subA, beq_iff_eq, unA, minA, maxA, eqFs, eqA1, beq_self_eq_true, Nat.reduceBEq]
    refine callD.vc hCo ?_
    simp (config := { maxSteps := 4000000 }) (disch := omega) only [step, stepv, ev, okW, wl, wn, wp, aop, cV, cV1, ↓reduceIte, Nat.reduceEqDiff, Nat.reduceAdd, Int.cast_ofNat_Int, if_true, if_false, AV.one, repCells, fillA, partCells, Nat.reduceLT, Nat.reduceLeDiff, Nat.reduceMul, Nat.reduceSub, Int.reduceLT, Int.reduceLE, Int.reduceAdd, Int.reduceSub, Int.reduceMul, Int.reduceToNat, sliceCells, cellsAt, srcA, app, reduceCtorEq, Int.reduceEq, Int.reduceNeg, Int.reducePow, Nat.reducePow, Int.reduceTDiv, Int.reduceDiv, Nat.reduceDiv, Nat.reduceMod, Int.reduceMod, Int.reduceTMod, ne_eq, subA, beq_iff_eq, unA, minA, maxA, eqFs, eqA1, beq_self_eq_true, Nat.reduceBEq]
    refine callD.vc (hRo _) ?_
    cases hv : roomB e.ch ((e.frs.length : Int) + 1) (countN e (longN e.rate)) with
    | false => simp (config := { maxSteps := 4000000 }) (disch := omega) only [step, stepv, ev, okW, wl, wn, wp, aop, cV, cV1, ↓reduceIte, Nat.reduceEqDiff, Nat.reduceAdd, Int.cast_ofNat_Int, if_true, if_false, AV.one, repCells, fillA, partCells, Nat.reduceLT, Nat.reduceLeDiff, Nat.reduceMul, Nat.reduceSub, Int.reduceLT, Int.reduceLE, Int.reduceAdd, Int.reduceSub, Int.reduceMul, Int.reduceToNat, sliceCells, cellsAt, srcA, app, reduceCtorEq, Int.reduceEq, Int.reduceNeg, Int.reducePow, Nat.reducePow, Int.reduceTDiv, Int.reduceDiv, Nat.reduceDiv, Nat.reduceMod, Int.reduceMod, Int.reduceTMod, ne_eq, subA, beq_iff_eq, unA, minA, maxA, eqFs, eqA1, beq_self_eq_true, Nat.reduceBEq, hv]
    | true =>
      simp (config := { maxSteps := 4000000 }) (disch := omega) only [step, stepv, ev, okW, wl, wn, wp, aop, cV, cV1, ↓reduceIte, Nat.reduceEqDiff, Nat.reduceAdd, Int.cast_ofNat_Int, if_true, if_false, AV.one, repCells, fillA, partCells, Nat.reduceLT, Nat.reduceLeDiff, Nat.reduceMul, Nat.reduceSub, Int.reduceLT, Int.reduceLE, Int.reduceAdd, Int.reduceSub, Int.reduceMul, Int.reduceToNat, sliceCells, cellsAt, srcA, app, reduceCtorEq, Int.reduceEq, Int.reduceNeg, Int.reducePow, Nat.reducePow, Int.reduceTDiv, Int.reduceDiv, Nat.reduceDiv, Nat.reduceMod, Int.reduceMod, Int.reduceTMod, ne_eq, subA, beq_iff_eq, unA, minA, maxA, eqFs, eqA1, beq_self_eq_true, Nat.reduceBEq]
      refine callQ.flat 1 (hS1 ((81 * longN e.rate * e.ch + 7) / 8 + 4)) rfl (by simp [frzN, frzK, frzL, frzV, isDL, isD, frzL_T _ (isTL_bss e.frs)]) ?_
      simp (config := { maxSteps := 4000000 }) (disch := omega) only [step, stepv, ev, okW, wl, wn, wp, aop, cV, cV1, ↓reduceIte, Nat.reduceEqDiff, Nat.reduceAdd, Int.cast_ofNat_Int, if_true, if_false, AV.one, repCells, fillA, partCells, Nat.reduceLT, Nat.reduceLeDiff, Nat.reduceMul, Nat.reduceSub, Int.reduceLT, Int.reduceLE, Int.reduceAdd, Int.reduceSub, Int.reduceMul, Int.reduceToNat, sliceCells, cellsAt, srcA, app, reduceCtorEq, Int.reduceEq, Int.reduceNeg, Int.reducePow, Nat.reducePow, Int.reduceTDiv, Int.reduceDiv, Nat.reduceDiv, Nat.reduceMod, Int.reduceMod, Int.reduceTMod, ne_eq, subA, beq_iff_eq, unA, minA, maxA, eqFs, eqA1, beq_self_eq_true, Nat.reduceBEq, hv]
  · simp (config := { maxSteps := 4000000 }) (disch := omega) only [step, stepv, ev, okW, wl, wn, wp, aop, cV, cV1, ↓reduceIte, Nat.reduceEqDiff, Nat.reduceAdd, Int.cast_ofNat_Int, if_true, if_false, AV.one, repCells, fillA, partCells, Nat.reduceLT, Nat.reduceLeDiff, Nat.reduceMul, Nat.reduceSub, Int.reduceLT, Int.reduceLE, Int.reduceAdd, Int.reduceSub, Int.reduceMul, Int.reduceToNat, sliceCells, cellsAt, srcA, app, reduceCtorEq, Int.reduceEq, Int.reduceNeg, Int.reducePow, Nat.reducePow, Int.reduceTDiv, Int.reduceDiv, Nat.reduceDiv, Nat.reduceMod, Int.reduceMod, Int.reduceTMod, ne_eq, subA, beq_iff_eq, unA, minA, maxA, eqFs, eqA1, beq_self_eq_true, Nat.reduceBEq]
    refine callD.vc hCo ?_
    simp (config := { maxSteps := 4000000 }) (disch := omega) only [step, stepv, ev, okW, wl, wn, wp, aop, cV, cV1, ↓reduceIte, Nat.reduceEqDiff, Nat.reduceAdd, Int.cast_ofNat_Int, if_true, if_false, AV.one, repCells, fillA, partCells, Nat.reduceLT, Nat.reduceLeDiff, Nat.reduceMul, Nat.reduceSub, Int.reduceLT, Int.reduceLE, Int.reduceAdd, Int.reduceSub, Int.reduceMul, Int.reduceToNat, sliceCells, cellsAt, srcA, app, reduceCtorEq, Int.reduceEq, Int.reduceNeg, Int.reducePow, Nat.reducePow, Int.reduceTDiv, Int.reduceDiv, Nat.reduceDiv, Nat.reduceMod, Int.reduceMod, Int.reduceTMod, ne_eq, subA, beq_iff_eq, unA, minA, maxA, eqFs, eqA1, beq_self_eq_true, Nat.reduceBEq]
    refine callD.vc (hRo _) ?_
    cases hv : roomB e.ch (e.frs.length : Int) (countN e (longN e.rate)) with
    | false => simp (config := { maxSteps := 4000000 }) (disch := omega) only [step, stepv, ev, okW, wl, wn, wp, aop, cV, cV1, ↓reduceIte, Nat.reduceEqDiff, Nat.reduceAdd, Int.cast_ofNat_Int, if_true, if_false, AV.one, repCells, fillA, partCells, Nat.reduceLT, Nat.reduceLeDiff, Nat.reduceMul, Nat.reduceSub, Int.reduceLT, Int.reduceLE, Int.reduceAdd, Int.reduceSub, Int.reduceMul, Int.reduceToNat, sliceCells, cellsAt, srcA, app, reduceCtorEq, Int.reduceEq, Int.reduceNeg, Int.reducePow, Nat.reducePow, Int.reduceTDiv, Int.reduceDiv, Nat.reduceDiv, Nat.reduceMod, Int.reduceMod, Int.reduceTMod, ne_eq, subA, beq_iff_eq, unA, minA, maxA, eqFs, eqA1, beq_self_eq_true, Nat.reduceBEq, Int.add_zero, hv]
    | true =>
      simp (config := { maxSteps := 4000000 }) (disch := omega) only [step, stepv, ev, okW, wl, wn, wp, aop, cV, cV1, ↓reduceIte, Nat.reduceEqDiff, Nat.reduceAdd, Int.cast_ofNat_Int, if_true, if_false, AV.one, repCells, fillA, partCells, Nat.reduceLT, Nat.reduceLeDiff, Nat.reduceMul, Nat.reduceSub, Int.reduceLT, Int.reduceLE, Int.reduceAdd, Int.reduceSub, Int.reduceMul, Int.reduceToNat, sliceCells, cellsAt, srcA, app, reduceCtorEq, Int.reduceEq, Int.reduceNeg, Int.reducePow, Nat.reducePow, Int.reduceTDiv, Int.reduceDiv, Nat.reduceDiv, Nat.reduceMod, Int.reduceMod, Int.reduceTMod, ne_eq, subA, beq_iff_eq, unA, minA, maxA, eqFs, eqA1, beq_self_eq_true, Nat.reduceBEq]
      refine callQ.flat 1 (hS1 ((81 * longN e.rate * e.ch + 7) / 8 + 4)) rfl (by simp [frzN, frzK, frzL, frzV, isDL, isD, frzL_T _ (isTL_bss e.frs)]) ?_
      simp (config := { maxSteps := 4000000 }) (disch := omega) only [step, stepv, ev, okW, wl, wn, wp, aop, cV, cV1, ↓reduceIte, Nat.reduceEqDiff, Nat.reduceAdd, Int.cast_ofNat_Int, if_true, if_false, AV.one, repCells, fillA, partCells, Nat.reduceLT, Nat.reduceLeDiff, Nat.reduceMul, Nat.reduceSub, Int.reduceLT, Int.reduceLE, Int.reduceAdd, Int.reduceSub, Int.reduceMul, Int.reduceToNat, sliceCells, cellsAt, srcA, app, reduceCtorEq, Int.reduceEq, Int.reduceNeg, Int.reducePow, Nat.reducePow, Int.reduceTDiv, Int.reduceDiv, Nat.reduceDiv, Nat.reduceMod, Int.reduceMod, Int.reduceTMod, ne_eq, subA, beq_iff_eq, unA, minA, maxA, eqFs, eqA1, beq_self_eq_true, Nat.reduceBEq, Int.add_zero, hv]
end Go.Am

namespace Go.Am
open Go.RowKit Go.Shelf Go.Proofs

def bufO (tB : Nat) (c : AV) (lr : Int) : Ob := ⟨tB, 3, 1, [c, .int .i64 0, .int .i8 lr], 0⟩

theorem tryGrow_room {P : Prg} {f : Nat} (b : Body P f 33 [.tmp 4, .tmp 5] ac_bytes_Buffer_tryGrowByReslice) {ob : List Ob} {p o n c m tB t5 : Nat} {lr : Int} {cs : List AV} (hp : ob[p]? = some (bufO tB (.ownc o n c) lr)) (ho : ob[o]? = some ⟨t5, 1, n, cs, 0⟩)
    (hpo : p ≠ o) (hm : n + m ≤ c) (hc : c ≤ maxLen) {K : AV → List Ob → Prop}
    (hK : K (.tup [.int .i64 n, .bool true]) ((ob.set o ⟨t5, 1, n + m, cs ++ List.replicate m .any, 0⟩).set p (bufO tB (.ownc o (n + m) c) lr))) : ACall P f [.ref p 1 0, .int .i64 m] ob K := by
  refine ACall.of_body b (by simp) ?_
  have hol : o < ob.length := (List.getElem?_eq_some_iff.1 ho).1
  have hpl : p < ob.length := (List.getElem?_eq_some_iff.1 hp).1
  simp only [maxLen] at hc
  simp only [bufO] at hp hK
  have e1 : ∀ x, (ob.set o x)[p]? = some ⟨tB, 3, 1, [.ownc o n c, .int .i64 0, .int .i8 lr], 0⟩ := fun x => by rw [List.getElem?_set_ne (fun h => hpo h.symm)]; exact hp
  have e2 : ((n : Int) + m).toNat = n + m := by omega
  have e3 : n + m - n = m := by omega
  simp (config := { maxSteps := 4000000 }) (disch := omega) only [step, stepv, ev, okW, wl, wn, wp, aop, cV, cV1, ↓reduceIte, Nat.reduceEqDiff, Nat.reduceAdd, Int.cast_ofNat_Int, if_true, if_false, AV.one, repCells, fillA, partCells, Nat.reduceLT, Nat.reduceLeDiff, Nat.reduceMul, Nat.reduceSub, Int.reduceLT, Int.reduceLE, Int.reduceAdd, Int.reduceSub, Int.reduceMul, Int.reduceToNat, sliceCells, cellsAt, srcA, app, reduceCtorEq, Int.reduceEq, Int.reduceNeg, Int.reducePow, Nat.reducePow, Int.reduceTDiv, Int.reduceDiv, Nat.reduceDiv, Nat.reduceMod, Int.reduceMod, Int.reduceTMod, ne_eq, subA, beq_iff_eq, unA, minA, maxA, eqFs, eqA1, beq_self_eq_true, Nat.reduceBEq, ac_bytes_Buffer_tryGrowByReslice, hp, ho, e1, reslA, e2, e3, List.length_set]
  exact hK

theorem tryGrow_none {P : Prg} {f : Nat} (b : Body P f 33 [.tmp 4, .tmp 5] ac_bytes_Buffer_tryGrowByReslice) {ob : List Ob} {p o n c m tB t5 : Nat} {lr : Int} {cs : List AV} (hp : ob[p]? = some (bufO tB (.ownc o n c) lr)) (ho : ob[o]? = some ⟨t5, 1, n, cs, 0⟩)
    (hn : n ≤ c) (hm : c < n + m) (hc : c ≤ maxLen) (hm2 : m < 4611686018427387904) {K : AV → List Ob → Prop} (hK : K (.tup [.int .i64 0, .bool false]) ob) : ACall P f [.ref p 1 0, .int .i64 m] ob K := by
  refine ACall.of_body b (by simp) ?_
  simp only [maxLen] at hc
  simp only [bufO] at hp
  simp (config := { maxSteps := 4000000 }) (disch := omega) only [step, stepv, ev, okW, wl, wn, wp, aop, cV, cV1, ↓reduceIte, Nat.reduceEqDiff, Nat.reduceAdd, Int.cast_ofNat_Int, if_true, if_false, AV.one, repCells, fillA, partCells, Nat.reduceLT, Nat.reduceLeDiff, Nat.reduceMul, Nat.reduceSub, Int.reduceLT, Int.reduceLE, Int.reduceAdd, Int.reduceSub, Int.reduceMul, Int.reduceToNat, sliceCells, cellsAt, srcA, app, reduceCtorEq, Int.reduceEq, Int.reduceNeg, Int.reducePow, Nat.reducePow, Int.reduceTDiv, Int.reduceDiv, Nat.reduceDiv, Nat.reduceMod, Int.reduceMod, Int.reduceTMod, ne_eq, subA, beq_iff_eq, unA, minA, maxA, eqFs, eqA1, beq_self_eq_true, Nat.reduceBEq, ac_bytes_Buffer_tryGrowByReslice, hp, ho]
  exact hK

theorem tryGrow_emp {P : Prg} {f : Nat} (b : Body P f 33 [.tmp 4, .tmp 5] ac_bytes_Buffer_tryGrowByReslice) {ob : List Ob} {p m tB : Nat} {lr : Int} (hp : ob[p]? = some (bufO tB (.emp true) lr)) (hm : 0 < m)
    {K : AV → List Ob → Prop} (hK : K (.tup [.int .i64 0, .bool false]) ob) : ACall P f [.ref p 1 0, .int .i64 m] ob K := by
  refine ACall.of_body b (by simp) ?_
  simp only [bufO] at hp
  simp (config := { maxSteps := 4000000 }) (disch := omega) only [step, stepv, ev, okW, wl, wn, wp, aop, cV, cV1, ↓reduceIte, Nat.reduceEqDiff, Nat.reduceAdd, Int.cast_ofNat_Int, if_true, if_false, AV.one, repCells, fillA, partCells, Nat.reduceLT, Nat.reduceLeDiff, Nat.reduceMul, Nat.reduceSub, Int.reduceLT, Int.reduceLE, Int.reduceAdd, Int.reduceSub, Int.reduceMul, Int.reduceToNat, sliceCells, cellsAt, srcA, app, reduceCtorEq, Int.reduceEq, Int.reduceNeg, Int.reducePow, Nat.reducePow, Int.reduceTDiv, Int.reduceDiv, Nat.reduceDiv, Nat.reduceMod, Int.reduceMod, Int.reduceTMod, ne_eq, subA, beq_iff_eq, unA, minA, maxA, eqFs, eqA1, beq_self_eq_true, Nat.reduceBEq, ac_bytes_Buffer_tryGrowByReslice, hp]
  exact hK

theorem buf_Len_emp {P : Prg} {f : Nat} (b : Body P f 13 [.tmp 2] ac_bytes_Buffer_Len) {ob : List Ob} {p tB : Nat} {lr : Int} (hp : ob[p]? = some (bufO tB (.emp true) lr)) {K : AV → List Ob → Prop} (hK : K (.int .i64 0) ob) : ACall P f [.ref p 1 0] ob K := by
  refine ACall.of_body b (by simp) ?_
  simp only [bufO] at hp
  simp (config := { maxSteps := 4000000 }) (disch := omega) only [step, stepv, ev, okW, wl, wn, wp, aop, cV, cV1, ↓reduceIte, Nat.reduceEqDiff, Nat.reduceAdd, Int.cast_ofNat_Int, if_true, if_false, AV.one, repCells, fillA, partCells, Nat.reduceLT, Nat.reduceLeDiff, Nat.reduceMul, Nat.reduceSub, Int.reduceLT, Int.reduceLE, Int.reduceAdd, Int.reduceSub, Int.reduceMul, Int.reduceToNat, sliceCells, cellsAt, srcA, app, reduceCtorEq, Int.reduceEq, Int.reduceNeg, Int.reducePow, Nat.reducePow, Int.reduceTDiv, Int.reduceDiv, Nat.reduceDiv, Nat.reduceMod, Int.reduceMod, Int.reduceTMod, ne_eq, subA, beq_iff_eq, unA, minA, maxA, eqFs, eqA1, beq_self_eq_true, Nat.reduceBEq, ac_bytes_Buffer_Len, hp]
  exact hK

/-- grow, of a buffer that holds nothing yet, by at most 64 bytes. -/
theorem grow_emp {P : Prg} {f fL fR fT fG t5 g0 : Nat} (b : Body P f 110 [.tmp 4] (ac_bytes_Buffer_grow fL fR fT fG t5 g0)) (bL : Body P fL 13 [.tmp 2] ac_bytes_Buffer_Len) (bT : Body P fT 33 [.tmp 4, .tmp 5] ac_bytes_Buffer_tryGrowByReslice)
    {ob : List Ob} {p m tB : Nat} {lr : Int} (hp : ob[p]? = some (bufO tB (.emp true) lr)) (hm : 0 < m) (hm2 : m ≤ 64) {K : AV → List Ob → Prop}
    (hK : K (.int .i64 0) ((ob ++ ([⟨t5, 1, m, repCells [.int .u8 0] m, 0⟩] : List Ob)).set p (bufO tB (.own ob.length m) lr))) : ACall P f [.ref p 1 0, .int .i64 m] ob K := by
  refine ACall.of_body b (by simp) ?_
  have hpl : p < ob.length := (List.getElem?_eq_some_iff.1 hp).1
  have hp' := hp
  simp only [bufO] at hp hK
  have e1 : ∀ x : Ob, (ob ++ [x])[p]? = some ⟨tB, 3, 1, [.emp true, .int .i64 0, .int .i8 lr], 0⟩ := fun x => by rw [List.getElem?_append_left hpl]; exact hp
  simp (config := { maxSteps := 4000000 }) (disch := omega) only [step, stepv, ev, okW, wl, wn, wp, aop, cV, cV1, ↓reduceIte, Nat.reduceEqDiff, Nat.reduceAdd, Int.cast_ofNat_Int, if_true, if_false, AV.one, repCells, fillA, partCells, Nat.reduceLT, Nat.reduceLeDiff, Nat.reduceMul, Nat.reduceSub, Int.reduceLT, Int.reduceLE, Int.reduceAdd, Int.reduceSub, Int.reduceMul, Int.reduceToNat, sliceCells, cellsAt, srcA, app, reduceCtorEq, Int.reduceEq, Int.reduceNeg, Int.reducePow, Nat.reducePow, Int.reduceTDiv, Int.reduceDiv, Nat.reduceDiv, Nat.reduceMod, Int.reduceMod, Int.reduceTMod, ne_eq, subA, beq_iff_eq, unA, minA, maxA, eqFs, eqA1, beq_self_eq_true, Nat.reduceBEq, ac_bytes_Buffer_grow]
  refine buf_Len_emp bL hp' ?_
  simp (config := { maxSteps := 4000000 }) (disch := omega) only [step, stepv, ev, okW, wl, wn, wp, aop, cV, cV1, ↓reduceIte, Nat.reduceEqDiff, Nat.reduceAdd, Int.cast_ofNat_Int, if_true, if_false, AV.one, repCells, fillA, partCells, Nat.reduceLT, Nat.reduceLeDiff, Nat.reduceMul, Nat.reduceSub, Int.reduceLT, Int.reduceLE, Int.reduceAdd, Int.reduceSub, Int.reduceMul, Int.reduceToNat, sliceCells, cellsAt, srcA, app, reduceCtorEq, Int.reduceEq, Int.reduceNeg, Int.reducePow, Nat.reducePow, Int.reduceTDiv, Int.reduceDiv, Nat.reduceDiv, Nat.reduceMod, Int.reduceMod, Int.reduceTMod, ne_eq, subA, beq_iff_eq, unA, minA, maxA, eqFs, eqA1, beq_self_eq_true, Nat.reduceBEq, ac_bytes_Buffer_grow, hp]
  refine tryGrow_emp bT hp' hm ?_
  by_cases h64 : m = 64
  · simp (config := { maxSteps := 4000000 }) (disch := omega) only [step, stepv, ev, okW, wl, wn, wp, aop, cV, cV1, ↓reduceIte, Nat.reduceEqDiff, Nat.reduceAdd, Int.cast_ofNat_Int, if_true, if_false, AV.one, repCells, fillA, partCells, Nat.reduceLT, Nat.reduceLeDiff, Nat.reduceMul, Nat.reduceSub, Int.reduceLT, Int.reduceLE, Int.reduceAdd, Int.reduceSub, Int.reduceMul, Int.reduceToNat, sliceCells, cellsAt, srcA, app, reduceCtorEq, Int.reduceEq, Int.reduceNeg, Int.reducePow, Nat.reducePow, Int.reduceTDiv, Int.reduceDiv, Nat.reduceDiv, Nat.reduceMod, Int.reduceMod, Int.reduceTMod, ne_eq, subA, beq_iff_eq, unA, minA, maxA, eqFs, eqA1, beq_self_eq_true, Nat.reduceBEq, ac_bytes_Buffer_grow, hp, nilA, e1, List.length_append, List.length_set]
    exact hK
  · simp (config := { maxSteps := 4000000 }) (disch := omega) only [step, stepv, ev, okW, wl, wn, wp, aop, cV, cV1, ↓reduceIte, Nat.reduceEqDiff, Nat.reduceAdd, Int.cast_ofNat_Int, if_true, if_false, AV.one, repCells, fillA, partCells, Nat.reduceLT, Nat.reduceLeDiff, Nat.reduceMul, Nat.reduceSub, Int.reduceLT, Int.reduceLE, Int.reduceAdd, Int.reduceSub, Int.reduceMul, Int.reduceToNat, sliceCells, cellsAt, srcA, app, reduceCtorEq, Int.reduceEq, Int.reduceNeg, Int.reducePow, Nat.reducePow, Int.reduceTDiv, Int.reduceDiv, Nat.reduceDiv, Nat.reduceMod, Int.reduceMod, Int.reduceTMod, ne_eq, subA, beq_iff_eq, unA, minA, maxA, eqFs, eqA1, beq_self_eq_true, Nat.reduceBEq, ac_bytes_Buffer_grow, hp, nilA, e1, List.length_append, List.length_set]
    exact hK

/-- bytes.Buffer's own functions. -/
structure BufB (P : Prg) (fT fG fL fR fS : Nat) (t5 g0 : Nat) : Prop where
  T : Body P fT 33 [.tmp 4, .tmp 5] ac_bytes_Buffer_tryGrowByReslice
  G : Body P fG 110 [.tmp 4] (ac_bytes_Buffer_grow fL fR fT fS t5 g0)
  L : Body P fL 13 [.tmp 2] ac_bytes_Buffer_Len

theorem Body.enters {P : Prg} {f N : Nat} {rl : List ResultVar} {ac : AC} (b : Body P f N rl ac) : Enters P f := by
  obtain ⟨fn, hf, hn, _, _, hc⟩ := b
  obtain ⟨c, hb, _⟩ := Option.bind_eq_some_iff.1 hc
  exact ⟨fn, hf, hn, by rw [hb]; rfl⟩

set_option maxHeartbeats 1000000 in
theorem writeString_own {P : Prg} {ρ : Ren} {f fT fL fR fS g0 : Nat} (L : LaysM.n252 P.prog ρ) (B : BufB P fT (ρ.f 252) fL fR fS (ρ.t 5) g0) (b : Body P f 32 [.tmp 4, .tmp 5] (ac_bytes_Buffer_WriteString fT (ρ.f 252)))
    {ob : List Ob} {p o n tB : Nat} {lr : Int} {cs : List AV} {s : List UInt8} (hp : ob[p]? = some (bufO tB (.own o n) lr)) (ho : ob[o]? = some ⟨ρ.t 5, 1, n, cs, 0⟩) (hl : cs.length = n) (hpo : p ≠ o) (hn : 0 < n) (hlim : n + s.length ≤ 140737488355328)
    {K : AV → List Ob → Prop} (hK : K (.tup [.int .i64 s.length, .lit .nilIface]) (upd2 ob o p ⟨ρ.t 5, 1, n + s.length, cs ++ u8 s, 0⟩ (bufO tB (.own o (n + s.length)) 0))) : ACall P f [.ref p 1 0, .str s] ob K := by
  refine ACall.cap hp rfl ho rfl b.enters fun c hc1 hc2 => ?_
  have hol : o < ob.length := (List.getElem?_eq_some_iff.1 ho).1
  have hpl : p < ob.length := (List.getElem?_eq_some_iff.1 hp).1
  refine ACall.uncap (ACall.of_body b (by simp) ?_)
  have e0 : ob.set p { bufO tB (.own o n) lr with cs := .ownc o n c :: [.int .i64 0, .int .i8 lr] } = upd2 ob o p ⟨ρ.t 5, 1, n, cs, 0⟩ (bufO tB (.ownc o n c) lr) := by
    conv => lhs; rw [← upd2_same ho hp hpo]
    rw [upd2_p]
    rfl
  rw [e0]
  simp only [maxLen] at hc2
  have gp : ∀ x y, (upd2 ob o p x y)[p]? = some y := fun x y => upd2_gp hpl
  have go : ∀ x y, (upd2 ob o p x y)[o]? = some x := fun x y => upd2_go hol hpo
  have sp : ∀ x y y', (upd2 ob o p x y).set p y' = upd2 ob o p x y' := fun x y y' => upd2_p
  have so : ∀ x y x', (upd2 ob o p x y).set o x' = upd2 ob o p x' y := fun x y x' => upd2_o hpo
  have ln : ∀ x y, (upd2 ob o p x y).length = ob.length := fun x y => upd2_len
  have m1 : ∀ a : Nat, Nat.min a a = a := fun a => Nat.min_self a
  have tk : (cs ++ List.replicate s.length AV.any).take n = cs := by rw [List.take_left' hl]
  have tk2 : (u8 s).take s.length = u8 s := by rw [List.take_of_length_le (by simp [u8_length])]
  have tk3 : (cs ++ List.replicate s.length AV.any).drop (n + s.length) = [] := by rw [List.drop_of_length_le (by simp; omega)]
  have nz : (n + s.length = 0) = False := eq_false (by omega)
  have z1 : n + s.length - n = s.length := by omega
  have z2 : ((n : Int) + s.length - n).toNat = s.length := by omega
  simp (config := { maxSteps := 4000000 }) (disch := omega) only [step, stepv, ev, okW, wl, wn, wp, aop, cV, cV1, ↓reduceIte, Nat.reduceEqDiff, Nat.reduceAdd, Int.cast_ofNat_Int, if_true, if_false, AV.one, repCells, fillA, partCells, Nat.reduceLT, Nat.reduceLeDiff, Nat.reduceMul, Nat.reduceSub, Int.reduceLT, Int.reduceLE, Int.reduceAdd, Int.reduceSub, Int.reduceMul, Int.reduceToNat, sliceCells, cellsAt, srcA, app, reduceCtorEq, Int.reduceEq, Int.reduceNeg, Int.reducePow, Nat.reducePow, Int.reduceTDiv, Int.reduceDiv, Nat.reduceDiv, Nat.reduceMod, Int.reduceMod, Int.reduceTMod, ne_eq, subA, beq_iff_eq, unA, minA, maxA, eqFs, eqA1, beq_self_eq_true, Nat.reduceBEq, ac_bytes_Buffer_WriteString, bufO, gp, go, sp, so, ln]
  by_cases hr : n + s.length ≤ c
  · refine tryGrow_room B.T (gp _ _) (go _ _) hpo hr (by simpa [maxLen] using hc2) ?_
    rw [so, sp]
    simp (config := { maxSteps := 4000000 }) (disch := omega) only [step, stepv, ev, okW, wl, wn, wp, aop, cV, cV1, ↓reduceIte, Nat.reduceEqDiff, Nat.reduceAdd, Int.cast_ofNat_Int, if_true, if_false, AV.one, repCells, fillA, partCells, Nat.reduceLT, Nat.reduceLeDiff, Nat.reduceMul, Nat.reduceSub, Int.reduceLT, Int.reduceLE, Int.reduceAdd, Int.reduceSub, Int.reduceMul, Int.reduceToNat, sliceCells, cellsAt, srcA, app, reduceCtorEq, Int.reduceEq, Int.reduceNeg, Int.reducePow, Nat.reducePow, Int.reduceTDiv, Int.reduceDiv, Nat.reduceDiv, Nat.reduceMod, Int.reduceMod, Int.reduceTMod, ne_eq, subA, beq_iff_eq, unA, minA, maxA, eqFs, eqA1, beq_self_eq_true, Nat.reduceBEq, bufO, gp, go, sp, so, ln, m1, z1, z2, reslA, nz, tk, tk2, tk3, hl, u8_one]
    refine .inr ⟨p, _, o, n + s.length, c, _, gp _ _, rfl, ?_⟩
    rw [sp]
    exact hK
  · refine tryGrow_none B.T (gp _ _) (go _ _) hc1 (by omega) (by simpa [maxLen] using hc2) (by omega) ?_
    simp (config := { maxSteps := 4000000 }) (disch := omega) only [step, stepv, ev, okW, wl, wn, wp, aop, cV, cV1, ↓reduceIte, Nat.reduceEqDiff, Nat.reduceAdd, Int.cast_ofNat_Int, if_true, if_false, AV.one, repCells, fillA, partCells, Nat.reduceLT, Nat.reduceLeDiff, Nat.reduceMul, Nat.reduceSub, Int.reduceLT, Int.reduceLE, Int.reduceAdd, Int.reduceSub, Int.reduceMul, Int.reduceToNat, sliceCells, cellsAt, srcA, app, reduceCtorEq, Int.reduceEq, Int.reduceNeg, Int.reducePow, Nat.reducePow, Int.reduceTDiv, Int.reduceDiv, Nat.reduceDiv, Nat.reduceMod, Int.reduceMod, Int.reduceTMod, ne_eq, subA, beq_iff_eq, unA, minA, maxA, eqFs, eqA1, beq_self_eq_true, Nat.reduceBEq, bufO, gp, go, sp, so, ln]
    refine ACall.grow_row L B.G.enters (gp _ _) (go _ _) hpo hn (by omega) hlim ?_
    rw [so, sp]
    simp (config := { maxSteps := 4000000 }) (disch := omega) only [step, stepv, ev, okW, wl, wn, wp, aop, cV, cV1, ↓reduceIte, Nat.reduceEqDiff, Nat.reduceAdd, Int.cast_ofNat_Int, if_true, if_false, AV.one, repCells, fillA, partCells, Nat.reduceLT, Nat.reduceLeDiff, Nat.reduceMul, Nat.reduceSub, Int.reduceLT, Int.reduceLE, Int.reduceAdd, Int.reduceSub, Int.reduceMul, Int.reduceToNat, sliceCells, cellsAt, srcA, app, reduceCtorEq, Int.reduceEq, Int.reduceNeg, Int.reducePow, Nat.reducePow, Int.reduceTDiv, Int.reduceDiv, Nat.reduceDiv, Nat.reduceMod, Int.reduceMod, Int.reduceTMod, ne_eq, subA, beq_iff_eq, unA, minA, maxA, eqFs, eqA1, beq_self_eq_true, Nat.reduceBEq, bufO, gp, go, sp, so, ln, m1, z1, z2, nz, tk, tk2, tk3, hl, u8_one]
    exact .inl hK
set_option maxHeartbeats 1000000 in
theorem write_list {P : Prg} {ρ : Ren} {f fT fL fR fS g0 : Nat} (L : LaysM.n252 P.prog ρ) (B : BufB P fT (ρ.f 252) fL fR fS (ρ.t 5) g0) (b : Body P f 32 [.tmp 4, .tmp 5] (ac_bytes_Buffer_Write fT (ρ.f 252)))
    {ob : List Ob} {p o n tB : Nat} {lr : Int} {cs : List AV} {s : List UInt8} (hp : ob[p]? = some (bufO tB (.own o n) lr)) (ho : ob[o]? = some ⟨ρ.t 5, 1, n, cs, 0⟩) (hl : cs.length = n) (hpo : p ≠ o) (hn : 0 < n) (hlim : n + s.length ≤ 140737488355328)
    {K : AV → List Ob → Prop} (hK : K (.tup [.int .i64 s.length, .lit .nilIface]) (upd2 ob o p ⟨ρ.t 5, 1, n + s.length, cs ++ u8 s, 0⟩ (bufO tB (.own o (n + s.length)) 0))) : ACall P f [.ref p 1 0, .list s.length (u8 s)] ob K := by
  refine ACall.cap hp rfl ho rfl b.enters fun c hc1 hc2 => ?_
  have hol : o < ob.length := (List.getElem?_eq_some_iff.1 ho).1
  have hpl : p < ob.length := (List.getElem?_eq_some_iff.1 hp).1
  refine ACall.uncap (ACall.of_body b (by simp) ?_)
  have e0 : ob.set p { bufO tB (.own o n) lr with cs := .ownc o n c :: [.int .i64 0, .int .i8 lr] } = upd2 ob o p ⟨ρ.t 5, 1, n, cs, 0⟩ (bufO tB (.ownc o n c) lr) := by
    conv => lhs; rw [← upd2_same ho hp hpo]
    rw [upd2_p]
    rfl
  rw [e0]
  simp only [maxLen] at hc2
  have gp : ∀ x y, (upd2 ob o p x y)[p]? = some y := fun x y => upd2_gp hpl
  have go : ∀ x y, (upd2 ob o p x y)[o]? = some x := fun x y => upd2_go hol hpo
  have sp : ∀ x y y', (upd2 ob o p x y).set p y' = upd2 ob o p x y' := fun x y y' => upd2_p
  have so : ∀ x y x', (upd2 ob o p x y).set o x' = upd2 ob o p x' y := fun x y x' => upd2_o hpo
  have ln : ∀ x y, (upd2 ob o p x y).length = ob.length := fun x y => upd2_len
  have m1 : ∀ a : Nat, Nat.min a a = a := fun a => Nat.min_self a
  have tk : (cs ++ List.replicate s.length AV.any).take n = cs := by rw [List.take_left' hl]
  have tk2 : (u8 s).take s.length = u8 s := by rw [List.take_of_length_le (by simp [u8_length])]
  have tk3 : (cs ++ List.replicate s.length AV.any).drop (n + s.length) = [] := by rw [List.drop_of_length_le (by simp; omega)]
  have nz : (n + s.length = 0) = False := eq_false (by omega)
  have z1 : n + s.length - n = s.length := by omega
  have z2 : ((n : Int) + s.length - n).toNat = s.length := by omega
  simp (config := { maxSteps := 4000000 }) (disch := omega) only [step, stepv, ev, okW, wl, wn, wp, aop, cV, cV1, ↓reduceIte, Nat.reduceEqDiff, Nat.reduceAdd, Int.cast_ofNat_Int, if_true, if_false, AV.one, repCells, fillA, partCells, Nat.reduceLT, Nat.reduceLeDiff, Nat.reduceMul, Nat.reduceSub, Int.reduceLT, Int.reduceLE, Int.reduceAdd, Int.reduceSub, Int.reduceMul, Int.reduceToNat, sliceCells, cellsAt, srcA, app, reduceCtorEq, Int.reduceEq, Int.reduceNeg, Int.reducePow, Nat.reducePow, Int.reduceTDiv, Int.reduceDiv, Nat.reduceDiv, Nat.reduceMod, Int.reduceMod, Int.reduceTMod, ne_eq, subA, beq_iff_eq, unA, minA, maxA, eqFs, eqA1, beq_self_eq_true, Nat.reduceBEq, ac_bytes_Buffer_Write, bufO, gp, go, sp, so, ln]
  by_cases hr : n + s.length ≤ c
  · refine tryGrow_room B.T (gp _ _) (go _ _) hpo hr (by simpa [maxLen] using hc2) ?_
    rw [so, sp]
    simp (config := { maxSteps := 4000000 }) (disch := omega) only [step, stepv, ev, okW, wl, wn, wp, aop, cV, cV1, ↓reduceIte, Nat.reduceEqDiff, Nat.reduceAdd, Int.cast_ofNat_Int, if_true, if_false, AV.one, repCells, fillA, partCells, Nat.reduceLT, Nat.reduceLeDiff, Nat.reduceMul, Nat.reduceSub, Int.reduceLT, Int.reduceLE, Int.reduceAdd, Int.reduceSub, Int.reduceMul, Int.reduceToNat, sliceCells, cellsAt, srcA, app, reduceCtorEq, Int.reduceEq, Int.reduceNeg, Int.reducePow, Nat.reducePow, Int.reduceTDiv, Int.reduceDiv, Nat.reduceDiv, Nat.reduceMod, Int.reduceMod, Int.reduceTMod, ne_eq, subA, beq_iff_eq, unA, minA, maxA, eqFs, eqA1, beq_self_eq_true, Nat.reduceBEq, bufO, gp, go, sp, so, ln, m1, z1, z2, reslA, nz, tk, tk2, tk3, hl, u8_one]
    refine .inr ⟨p, _, o, n + s.length, c, _, gp _ _, rfl, ?_⟩
    rw [sp]
    exact hK
  · refine tryGrow_none B.T (gp _ _) (go _ _) hc1 (by omega) (by simpa [maxLen] using hc2) (by omega) ?_
    simp (config := { maxSteps := 4000000 }) (disch := omega) only [step, stepv, ev, okW, wl, wn, wp, aop, cV, cV1, ↓reduceIte, Nat.reduceEqDiff, Nat.reduceAdd, Int.cast_ofNat_Int, if_true, if_false, AV.one, repCells, fillA, partCells, Nat.reduceLT, Nat.reduceLeDiff, Nat.reduceMul, Nat.reduceSub, Int.reduceLT, Int.reduceLE, Int.reduceAdd, Int.reduceSub, Int.reduceMul, Int.reduceToNat, sliceCells, cellsAt, srcA, app, reduceCtorEq, Int.reduceEq, Int.reduceNeg, Int.reducePow, Nat.reducePow, Int.reduceTDiv, Int.reduceDiv, Nat.reduceDiv, Nat.reduceMod, Int.reduceMod, Int.reduceTMod, ne_eq, subA, beq_iff_eq, unA, minA, maxA, eqFs, eqA1, beq_self_eq_true, Nat.reduceBEq, bufO, gp, go, sp, so, ln]
    refine ACall.grow_row L B.G.enters (gp _ _) (go _ _) hpo hn (by omega) hlim ?_
    rw [so, sp]
    simp (config := { maxSteps := 4000000 }) (disch := omega) only [step, stepv, ev, okW, wl, wn, wp, aop, cV, cV1, ↓reduceIte, Nat.reduceEqDiff, Nat.reduceAdd, Int.cast_ofNat_Int, if_true, if_false, AV.one, repCells, fillA, partCells, Nat.reduceLT, Nat.reduceLeDiff, Nat.reduceMul, Nat.reduceSub, Int.reduceLT, Int.reduceLE, Int.reduceAdd, Int.reduceSub, Int.reduceMul, Int.reduceToNat, sliceCells, cellsAt, srcA, app, reduceCtorEq, Int.reduceEq, Int.reduceNeg, Int.reducePow, Nat.reducePow, Int.reduceTDiv, Int.reduceDiv, Nat.reduceDiv, Nat.reduceMod, Int.reduceMod, Int.reduceTMod, ne_eq, subA, beq_iff_eq, unA, minA, maxA, eqFs, eqA1, beq_self_eq_true, Nat.reduceBEq, bufO, gp, go, sp, so, ln, m1, z1, z2, nz, tk, tk2, tk3, hl, u8_one]
    exact .inl hK

set_option maxHeartbeats 1000000 in
theorem write_obj {P : Prg} {ρ : Ren} {f fT fL fR fS g0 : Nat} (L : LaysM.n252 P.prog ρ) (B : BufB P fT (ρ.f 252) fL fR fS (ρ.t 5) g0) (b : Body P f 32 [.tmp 4, .tmp 5] (ac_bytes_Buffer_Write fT (ρ.f 252)))
    {ob : List Ob} {p o n tB : Nat} {lr : Int} {cs : List AV} {s : List UInt8} (hp : ob[p]? = some (bufO tB (.own o n) lr)) (ho : ob[o]? = some ⟨ρ.t 5, 1, n, cs, 0⟩) (hl : cs.length = n) (hpo : p ≠ o) (hn : 0 < n) {q t : Nat} (hq : ob[q]? = some ⟨t, 1, s.length, u8 s, 0⟩) (hqp : q ≠ p) (hqo : q ≠ o) (hlim : n + s.length ≤ 140737488355328)
    {K : AV → List Ob → Prop} (hK : K (.tup [.int .i64 s.length, .lit .nilIface]) (upd2 ob o p ⟨ρ.t 5, 1, n + s.length, cs ++ u8 s, 0⟩ (bufO tB (.own o (n + s.length)) 0))) : ACall P f [.ref p 1 0, .own q s.length] ob K := by
  refine ACall.cap hp rfl ho rfl b.enters fun c hc1 hc2 => ?_
  have hol : o < ob.length := (List.getElem?_eq_some_iff.1 ho).1
  have hpl : p < ob.length := (List.getElem?_eq_some_iff.1 hp).1
  refine ACall.uncap (ACall.of_body b (by simp) ?_)
  have e0 : ob.set p { bufO tB (.own o n) lr with cs := .ownc o n c :: [.int .i64 0, .int .i8 lr] } = upd2 ob o p ⟨ρ.t 5, 1, n, cs, 0⟩ (bufO tB (.ownc o n c) lr) := by
    conv => lhs; rw [← upd2_same ho hp hpo]
    rw [upd2_p]
    rfl
  rw [e0]
  simp only [maxLen] at hc2
  have gp : ∀ x y, (upd2 ob o p x y)[p]? = some y := fun x y => upd2_gp hpl
  have go : ∀ x y, (upd2 ob o p x y)[o]? = some x := fun x y => upd2_go hol hpo
  have sp : ∀ x y y', (upd2 ob o p x y).set p y' = upd2 ob o p x y' := fun x y y' => upd2_p
  have so : ∀ x y x', (upd2 ob o p x y).set o x' = upd2 ob o p x' y := fun x y x' => upd2_o hpo
  have ln : ∀ x y, (upd2 ob o p x y).length = ob.length := fun x y => upd2_len
  have gq : ∀ x y, (upd2 ob o p x y)[q]? = some ⟨t, 1, s.length, u8 s, 0⟩ := fun x y => by
    unfold upd2
    rw [List.getElem?_set_ne hqp.symm, List.getElem?_set_ne hqo.symm]
    exact hq
  have m1 : ∀ a : Nat, Nat.min a a = a := fun a => Nat.min_self a
  have tk : (cs ++ List.replicate s.length AV.any).take n = cs := by rw [List.take_left' hl]
  have tk2 : (u8 s).take s.length = u8 s := by rw [List.take_of_length_le (by simp [u8_length])]
  have tk3 : (cs ++ List.replicate s.length AV.any).drop (n + s.length) = [] := by rw [List.drop_of_length_le (by simp; omega)]
  have nz : (n + s.length = 0) = False := eq_false (by omega)
  have z1 : n + s.length - n = s.length := by omega
  have z2 : ((n : Int) + s.length - n).toNat = s.length := by omega
  simp (config := { maxSteps := 4000000 }) (disch := omega) only [step, stepv, ev, okW, wl, wn, wp, aop, cV, cV1, ↓reduceIte, Nat.reduceEqDiff, Nat.reduceAdd, Int.cast_ofNat_Int, if_true, if_false, AV.one, repCells, fillA, partCells, Nat.reduceLT, Nat.reduceLeDiff, Nat.reduceMul, Nat.reduceSub, Int.reduceLT, Int.reduceLE, Int.reduceAdd, Int.reduceSub, Int.reduceMul, Int.reduceToNat, sliceCells, cellsAt, srcA, app, reduceCtorEq, Int.reduceEq, Int.reduceNeg, Int.reducePow, Nat.reducePow, Int.reduceTDiv, Int.reduceDiv, Nat.reduceDiv, Nat.reduceMod, Int.reduceMod, Int.reduceTMod, ne_eq, subA, beq_iff_eq, unA, minA, maxA, eqFs, eqA1, beq_self_eq_true, Nat.reduceBEq, gq, ac_bytes_Buffer_Write, bufO, gp, go, sp, so, ln]
  by_cases hr : n + s.length ≤ c
  · refine tryGrow_room B.T (gp _ _) (go _ _) hpo hr (by simpa [maxLen] using hc2) ?_
    rw [so, sp]
    simp (config := { maxSteps := 4000000 }) (disch := omega) only [step, stepv, ev, okW, wl, wn, wp, aop, cV, cV1, ↓reduceIte, Nat.reduceEqDiff, Nat.reduceAdd, Int.cast_ofNat_Int, if_true, if_false, AV.one, repCells, fillA, partCells, Nat.reduceLT, Nat.reduceLeDiff, Nat.reduceMul, Nat.reduceSub, Int.reduceLT, Int.reduceLE, Int.reduceAdd, Int.reduceSub, Int.reduceMul, Int.reduceToNat, sliceCells, cellsAt, srcA, app, reduceCtorEq, Int.reduceEq, Int.reduceNeg, Int.reducePow, Nat.reducePow, Int.reduceTDiv, Int.reduceDiv, Nat.reduceDiv, Nat.reduceMod, Int.reduceMod, Int.reduceTMod, ne_eq, subA, beq_iff_eq, unA, minA, maxA, eqFs, eqA1, beq_self_eq_true, Nat.reduceBEq, gq, bufO, gp, go, sp, so, ln, m1, z1, z2, reslA, nz, tk, tk2, tk3, hl, u8_one]
    refine .inr ⟨p, _, o, n + s.length, c, _, gp _ _, rfl, ?_⟩
    rw [sp]
    exact hK
  · refine tryGrow_none B.T (gp _ _) (go _ _) hc1 (by omega) (by simpa [maxLen] using hc2) (by omega) ?_
    simp (config := { maxSteps := 4000000 }) (disch := omega) only [step, stepv, ev, okW, wl, wn, wp, aop, cV, cV1, ↓reduceIte, Nat.reduceEqDiff, Nat.reduceAdd, Int.cast_ofNat_Int, if_true, if_false, AV.one, repCells, fillA, partCells, Nat.reduceLT, Nat.reduceLeDiff, Nat.reduceMul, Nat.reduceSub, Int.reduceLT, Int.reduceLE, Int.reduceAdd, Int.reduceSub, Int.reduceMul, Int.reduceToNat, sliceCells, cellsAt, srcA, app, reduceCtorEq, Int.reduceEq, Int.reduceNeg, Int.reducePow, Nat.reducePow, Int.reduceTDiv, Int.reduceDiv, Nat.reduceDiv, Nat.reduceMod, Int.reduceMod, Int.reduceTMod, ne_eq, subA, beq_iff_eq, unA, minA, maxA, eqFs, eqA1, beq_self_eq_true, Nat.reduceBEq, gq, bufO, gp, go, sp, so, ln]
    refine ACall.grow_row L B.G.enters (gp _ _) (go _ _) hpo hn (by omega) hlim ?_
    rw [so, sp]
    simp (config := { maxSteps := 4000000 }) (disch := omega) only [step, stepv, ev, okW, wl, wn, wp, aop, cV, cV1, ↓reduceIte, Nat.reduceEqDiff, Nat.reduceAdd, Int.cast_ofNat_Int, if_true, if_false, AV.one, repCells, fillA, partCells, Nat.reduceLT, Nat.reduceLeDiff, Nat.reduceMul, Nat.reduceSub, Int.reduceLT, Int.reduceLE, Int.reduceAdd, Int.reduceSub, Int.reduceMul, Int.reduceToNat, sliceCells, cellsAt, srcA, app, reduceCtorEq, Int.reduceEq, Int.reduceNeg, Int.reducePow, Nat.reducePow, Int.reduceTDiv, Int.reduceDiv, Nat.reduceDiv, Nat.reduceMod, Int.reduceMod, Int.reduceTMod, ne_eq, subA, beq_iff_eq, unA, minA, maxA, eqFs, eqA1, beq_self_eq_true, Nat.reduceBEq, gq, bufO, gp, go, sp, so, ln, m1, z1, z2, nz, tk, tk2, tk3, hl, u8_one]
    exact .inl hK

/-- WriteString, into a buffer that holds nothing yet, of at most 64 bytes. -/
theorem writeString_emp {P : Prg} {f fT fG fL fR fS t5 g0 : Nat} (B : BufB P fT fG fL fR fS t5 g0) (b : Body P f 32 [.tmp 4, .tmp 5] (ac_bytes_Buffer_WriteString fT fG))
    {ob : List Ob} {p tB : Nat} {lr : Int} {s : List UInt8} (hp : ob[p]? = some (bufO tB (.emp true) lr)) (h0 : 0 < s.length) (h64 : s.length ≤ 64)
    {K : AV → List Ob → Prop} (hK : K (.tup [.int .i64 s.length, .lit .nilIface]) ((ob ++ ([⟨t5, 1, s.length, u8 s, 0⟩] : List Ob)).set p (bufO tB (.own ob.length s.length) 0))) : ACall P f [.ref p 1 0, .str s] ob K := by
  refine ACall.of_body b (by simp) ?_
  have hpl : p < ob.length := (List.getElem?_eq_some_iff.1 hp).1
  have hpn : p ≠ ob.length := by omega
  simp only [bufO] at hp hK
  have g1 : ∀ x, (ob.set p x)[p]? = some x := fun x => by simp [hpl]
  have s1 : ∀ x y : Ob, (ob.set p x).set p y = ob.set p y := fun x y => List.set_set _
  have l1 : ∀ x, (ob.set p x).length = ob.length := fun x => List.length_set
  have g2 : ∀ x y : Ob, ((ob.set p x ++ [y]).set p (bufO tB (.own ob.length s.length) 0))[p]? = some (bufO tB (.own ob.length s.length) 0) := fun x y => by rw [List.getElem?_set_self (by simp; omega)]
  have g3 : ∀ x y : Ob, ((ob.set p x ++ [y]).set p (bufO tB (.own ob.length s.length) 0))[ob.length]? = some y := fun x y => by
    rw [List.getElem?_set_ne hpn, List.getElem?_append_right (by rw [List.length_set]; exact Nat.le_refl _)]; simp
  have l2 : ∀ x y : Ob, ((ob.set p x ++ [y]).set p (bufO tB (.own ob.length s.length) 0)).length = ob.length + 1 := fun x y => by simp
  have f1 : ∀ x y z : Ob, ((ob.set p x ++ [y]).set p (bufO tB (.own ob.length s.length) 0)).set ob.length z = (ob ++ ([z] : List Ob)).set p (bufO tB (.own ob.length s.length) 0) := fun x y z => by
    apply List.ext_getElem?
    intro j
    simp only [List.getElem?_set, List.getElem?_append, List.length_set, List.length_append]
    by_cases h1 : j = p
    · subst h1; simp [hpn.symm, hpl]
    · by_cases h2 : j = ob.length
      · subst h2; simp [hpn]
      · have h3 : ¬ ob.length = j := fun h => h2 h.symm
        have h4 : ¬ p = j := fun h => h1 h.symm
        simp only [h3, h4, if_false]
        by_cases h5 : j < ob.length
        · simp [h5]
        · have : j - ob.length ≠ 0 := by omega
          simp [h5, this]
  have m1 : ∀ a : Nat, Nat.min a a = a := fun a => Nat.min_self a
  have tk2 : (u8 s).take s.length = u8 s := by rw [List.take_of_length_le (by simp [u8_length])]
  have rl : (repCells [AV.int .u8 0] s.length).length = s.length := by rw [repCells_length]; simp
  have tk3 : (repCells [AV.int .u8 0] s.length).drop s.length = [] := by rw [List.drop_of_length_le (by omega)]
  have nz : (s.length = 0) = False := eq_false (by omega)
  have z3 : ((s.length : Int) - 0).toNat = s.length := by omega
  simp only [bufO] at g2 g3 l2 f1
  simp (config := { maxSteps := 4000000 }) (disch := omega) only [step, stepv, ev, okW, wl, wn, wp, aop, cV, cV1, ↓reduceIte, Nat.reduceEqDiff, Nat.reduceAdd, Int.cast_ofNat_Int, if_true, if_false, AV.one, repCells, fillA, partCells, Nat.reduceLT, Nat.reduceLeDiff, Nat.reduceMul, Nat.reduceSub, Int.reduceLT, Int.reduceLE, Int.reduceAdd, Int.reduceSub, Int.reduceMul, Int.reduceToNat, sliceCells, cellsAt, srcA, app, reduceCtorEq, Int.reduceEq, Int.reduceNeg, Int.reducePow, Nat.reducePow, Int.reduceTDiv, Int.reduceDiv, Nat.reduceDiv, Nat.reduceMod, Int.reduceMod, Int.reduceTMod, ne_eq, subA, beq_iff_eq, unA, minA, maxA, eqFs, eqA1, beq_self_eq_true, Nat.reduceBEq, ac_bytes_Buffer_WriteString, hp, g1, s1, l1]
  refine tryGrow_emp B.T (g1 _) h0 ?_
  simp (config := { maxSteps := 4000000 }) (disch := omega) only [step, stepv, ev, okW, wl, wn, wp, aop, cV, cV1, ↓reduceIte, Nat.reduceEqDiff, Nat.reduceAdd, Int.cast_ofNat_Int, if_true, if_false, AV.one, repCells, fillA, partCells, Nat.reduceLT, Nat.reduceLeDiff, Nat.reduceMul, Nat.reduceSub, Int.reduceLT, Int.reduceLE, Int.reduceAdd, Int.reduceSub, Int.reduceMul, Int.reduceToNat, sliceCells, cellsAt, srcA, app, reduceCtorEq, Int.reduceEq, Int.reduceNeg, Int.reducePow, Nat.reducePow, Int.reduceTDiv, Int.reduceDiv, Nat.reduceDiv, Nat.reduceMod, Int.reduceMod, Int.reduceTMod, ne_eq, subA, beq_iff_eq, unA, minA, maxA, eqFs, eqA1, beq_self_eq_true, Nat.reduceBEq, g1, s1, l1]
  refine grow_emp B.G B.L B.T (g1 _) h0 h64 ?_
  simp (config := { maxSteps := 4000000 }) (disch := omega) only [step, stepv, ev, okW, wl, wn, wp, aop, cV, cV1, ↓reduceIte, Nat.reduceEqDiff, Nat.reduceAdd, Int.cast_ofNat_Int, if_true, if_false, AV.one, repCells, fillA, partCells, Nat.reduceLT, Nat.reduceLeDiff, Nat.reduceMul, Nat.reduceSub, Int.reduceLT, Int.reduceLE, Int.reduceAdd, Int.reduceSub, Int.reduceMul, Int.reduceToNat, sliceCells, cellsAt, srcA, app, reduceCtorEq, Int.reduceEq, Int.reduceNeg, Int.reducePow, Nat.reducePow, Int.reduceTDiv, Int.reduceDiv, Nat.reduceDiv, Nat.reduceMod, Int.reduceMod, Int.reduceTMod, ne_eq, subA, beq_iff_eq, unA, minA, maxA, eqFs, eqA1, beq_self_eq_true, Nat.reduceBEq, bufO, l1, g2, g3, l2, f1, m1, tk2, tk3, nz, rl, z3, u8_one]
  exact hK

end Go.Am

namespace Go.Am
open Go.RowKit

/-! ### le.Bytes -/

/-- The lowest k bytes of a number, the lowest first. -/
def leB (n : Nat) : Nat → List UInt8
  | 0 => []
  | k + 1 => UInt8.ofNat (n % 256) :: leB (n / 256) k

theorem leB_length : ∀ (k n : Nat), (leB n k).length = k
  | 0, _ => rfl
  | k + 1, n => by simp [leB, leB_length k]

theorem leB_get : ∀ (k n i : Nat) (h : i < k), (leB n k)[i]? = some (UInt8.ofNat (n / 256 ^ i % 256))
  | k + 1, n, 0, _ => by simp [leB]
  | k + 1, n, i + 1, h => by
    simp only [leB, List.getElem?_cons_succ]
    rw [leB_get k (n / 256) i (by omega), Nat.div_div_eq_div_mul, Nat.pow_succ, Nat.mul_comm]

theorem leB_take_succ {n k i : Nat} (h : i < k) : (leB n k).take (i + 1) = (leB n k).take i ++ [UInt8.ofNat (n / 256 ^ i % 256)] := by
  rw [List.take_add_one, leB_get k n i h]
  rfl

theorem shrN {K : IntKind} {n k : Nat} (hk : k ≤ K.bits) : shiftA false K (n : Int) (k : Int) = some (.int K ((n / 2 ^ k : Nat) : Int)) := by
  have h3 : ¬ ((k : Int) < 0) := by omega
  have h5 : min k K.bits = k := by omega
  have h6 : (n : Int).fdiv (2 ^ k) = ((n / 2 ^ k : Nat) : Int) := by
    rw [Int.fdiv_eq_ediv_of_nonneg _ (Int.pow_nonneg (by decide))]
    simp [Int.natCast_ediv, Int.natCast_pow]
  simp only [shiftA, if_neg h3, Bool.false_eq_true, if_false, Int.toNat_natCast, h5, h6]

def S_fits (P : Prg) (f : Nat) : Prop := ∀ n w : Nat, 1 ≤ w → w ≤ 8 → VC P f [.int .u64 n, .int .i64 w] (.bool (decide (w = 8) || decide (n / 2 ^ (8 * w) = 0)))
theorem le_fits {P : Prg} {f : Nat} (b : Body P f 14 [.tmp 4] ac_le_fits) : S_fits P f := by
  intro n w h1 h2
  refine VC.of_acall rfl rfl (ACall.of_body b (by simp) ?_)
  by_cases h8 : w = 8
  · subst h8
    simp (config := { maxSteps := 4000000 }) (disch := omega) only [step, stepv, ev, okW, wl, wn, wp, aop, cV, cV1, ↓reduceIte, Nat.reduceEqDiff, Nat.reduceAdd, Int.cast_ofNat_Int, if_true, if_false, AV.one, repCells, fillA, partCells, Nat.reduceLT, Nat.reduceLeDiff, Nat.reduceMul, Nat.reduceSub, Int.reduceLT, Int.reduceLE, Int.reduceAdd, Int.reduceSub, Int.reduceMul, Int.reduceToNat, sliceCells, cellsAt, srcA, app, reduceCtorEq, Int.reduceEq, Int.reduceNeg, Int.reducePow, Nat.reducePow, Int.reduceTDiv, Int.reduceDiv, Nat.reduceDiv, Nat.reduceMod, Int.reduceMod, Int.reduceTMod, ne_eq, subA, beq_iff_eq, unA, minA, maxA, eqFs, eqA1, beq_self_eq_true, Nat.reduceBEq, ac_le_fits]
  · have e1 : (decide (w = 8)) = false := by simpa using h8
    have e2 : shiftA false .u64 (n : Int) (8 * (w : Int)) = some (.int .u64 ((n / 2 ^ (8 * w) : Nat) : Int)) := by
      have := shrN (K := .u64) (n := n) (k := 8 * w) (by simp [IntKind.bits]; omega)
      rwa [Int.natCast_mul] at this
    have e3 : (((n / 2 ^ (8 * w) : Nat) : Int) == 0) = decide (n / 2 ^ (8 * w) = 0) := by rw [Bool.eq_iff_iff]; simp only [beq_iff_eq, decide_eq_true_eq]; omega
    have e4 : ((w : Int) = 8) = False := eq_false (by omega)
    by_cases h9 : n / 2 ^ (8 * w) = 0
    · have e5 : (decide (n / 2 ^ (8 * w) = 0)) = true := by simpa using h9
      have e6 : (((n / 2 ^ (8 * w) : Nat) : Int) = 0) = True := eq_true (by omega)
      rw [e5]
      simp (config := { maxSteps := 4000000 }) (disch := omega) only [step, stepv, ev, okW, wl, wn, wp, aop, cV, cV1, ↓reduceIte, Nat.reduceEqDiff, Nat.reduceAdd, Int.cast_ofNat_Int, if_true, if_false, AV.one, repCells, fillA, partCells, Nat.reduceLT, Nat.reduceLeDiff, Nat.reduceMul, Nat.reduceSub, Int.reduceLT, Int.reduceLE, Int.reduceAdd, Int.reduceSub, Int.reduceMul, Int.reduceToNat, sliceCells, cellsAt, srcA, app, reduceCtorEq, Int.reduceEq, Int.reduceNeg, Int.reducePow, Nat.reducePow, Int.reduceTDiv, Int.reduceDiv, Nat.reduceDiv, Nat.reduceMod, Int.reduceMod, Int.reduceTMod, ne_eq, subA, beq_iff_eq, unA, minA, maxA, eqFs, eqA1, beq_self_eq_true, Nat.reduceBEq, ac_le_fits, e1, e2, e4, e6]
    · have e5 : (decide (n / 2 ^ (8 * w) = 0)) = false := by simpa using h9
      have e6 : (((n / 2 ^ (8 * w) : Nat) : Int) = 0) = False := eq_false (by omega)
      rw [e5]
      simp (config := { maxSteps := 4000000 }) (disch := omega) only [step, stepv, ev, okW, wl, wn, wp, aop, cV, cV1, ↓reduceIte, Nat.reduceEqDiff, Nat.reduceAdd, Int.cast_ofNat_Int, if_true, if_false, AV.one, repCells, fillA, partCells, Nat.reduceLT, Nat.reduceLeDiff, Nat.reduceMul, Nat.reduceSub, Int.reduceLT, Int.reduceLE, Int.reduceAdd, Int.reduceSub, Int.reduceMul, Int.reduceToNat, sliceCells, cellsAt, srcA, app, reduceCtorEq, Int.reduceEq, Int.reduceNeg, Int.reducePow, Nat.reducePow, Int.reduceTDiv, Int.reduceDiv, Nat.reduceDiv, Nat.reduceMod, Int.reduceMod, Int.reduceTMod, ne_eq, subA, beq_iff_eq, unA, minA, maxA, eqFs, eqA1, beq_self_eq_true, Nat.reduceBEq, ac_le_fits, e1, e2, e4, e6]

/-- le.Bytes of a number that fits. -/
def S_leBytes (P : Prg) (f : Nat) : Prop := ∀ n w : Nat, 1 ≤ w → w ≤ 8 → n < 256 ^ w → VC P f [.int .u64 n, .int .i64 w] (.tup [bs (leB n w), .int .i64 0])

theorem frz_own0 {t n : Nat} {l : List UInt8} (h : n = l.length) {e : Int} : frzN (fun _ => true) [⟨t, 1, n, u8 l, 0⟩] 2 [.tup [.own 0 n, .int .i64 e]] = some [.tup [bs l, .int .i64 e]] := by
  subst h
  simp only [frzN, frzK, frzL, frzV, Bool.false_eq_true, if_false, List.getElem?_cons_zero, and_self, if_true, frzL_T _ (isT_u8 l), Option.map_some, bs]

theorem le_Bytes {P : Prg} {f fF t0 : Nat} (b : Body P f 35 [.tmp 4, .tmp 5] (ac_le_Bytes fF t0)) (hF : S_fits P fF) : S_leBytes P f := by
  intro n w h1 h2 hn
  refine VC.of_walk 1 (by simp [isDL, isD]) (by simp [isD, isDL, isD_bs]) (ACall.of_body b (by simp) ?_)
  have hn8 : n < 18446744073709551616 := Nat.lt_of_lt_of_le hn (Nat.le_trans (Nat.pow_le_pow_right (by omega) h2) (by decide))
  simp (config := { maxSteps := 4000000 }) (disch := omega) only [step, stepv, ev, okW, wl, wn, wp, aop, cV, cV1, ↓reduceIte, Nat.reduceEqDiff, Nat.reduceAdd, Int.cast_ofNat_Int, if_true, if_false, AV.one, repCells, fillA, partCells, Nat.reduceLT, Nat.reduceLeDiff, Nat.reduceMul, Nat.reduceSub, Int.reduceLT, Int.reduceLE, Int.reduceAdd, Int.reduceSub, Int.reduceMul, Int.reduceToNat, sliceCells, cellsAt, srcA, app, reduceCtorEq, Int.reduceEq, Int.reduceNeg, Int.reducePow, Nat.reducePow, Int.reduceTDiv, Int.reduceDiv, Nat.reduceDiv, Nat.reduceMod, Int.reduceMod, Int.reduceTMod, ne_eq, subA, beq_iff_eq, unA, minA, maxA, eqFs, eqA1, beq_self_eq_true, Nat.reduceBEq, ac_le_Bytes]
  refine callQ.vc (hF n w h1 h2) ?_
  have e0 : (decide (w = 8) || decide (n / 2 ^ (8 * w) = 0)) = true := by
    have : n / 2 ^ (8 * w) = 0 := Nat.div_eq_of_lt (by rw [Nat.pow_mul]; exact hn)
    simp [this]
  rw [e0]
  have r0 : repCells [.int .u8 0] w = u8 ([] : List UInt8) ++ List.replicate w (.int .u8 0) := by
    have : ∀ k, repCells [AV.int .u8 0] k = List.replicate k (.int .u8 0) := fun k => by
      induction k with
      | zero => rfl
      | succ k ih => simp [repCells, ih, List.replicate_succ]
    rw [this]; rfl
  simp (config := { maxSteps := 4000000 }) (disch := omega) only [step, stepv, ev, okW, wl, wn, wp, aop, cV, cV1, ↓reduceIte, Nat.reduceEqDiff, Nat.reduceAdd, Int.cast_ofNat_Int, if_true, if_false, AV.one, repCells, fillA, partCells, Nat.reduceLT, Nat.reduceLeDiff, Nat.reduceMul, Nat.reduceSub, Int.reduceLT, Int.reduceLE, Int.reduceAdd, Int.reduceSub, Int.reduceMul, Int.reduceToNat, sliceCells, cellsAt, srcA, app, reduceCtorEq, Int.reduceEq, Int.reduceNeg, Int.reducePow, Nat.reducePow, Int.reduceTDiv, Int.reduceDiv, Nat.reduceDiv, Nat.reduceMod, Int.reduceMod, Int.reduceTMod, ne_eq, subA, beq_iff_eq, unA, minA, maxA, eqFs, eqA1, beq_self_eq_true, Nat.reduceBEq, ac_le_Bytes]
  rw [r0]
  refine ALoop.by (ι := Nat) (fun k => ⟨[(22, .int .i64 k), (21, .int .i64 w), (6, .own 0 w), (0, .int .u64 n)], [⟨t0, 1, w, u8 ((leB n w).take k) ++ List.replicate (w - k) (.int .u8 0), 0⟩]⟩) (fun k => k ≤ w) (fun k => w - k) 0 (Le.slots (by simp [Am.look])) (by omega) ?_
  intro k hk
  by_cases hlt : k < w
  · have e2 : shiftA false .u64 (n : Int) (8 * (k : Int)) = some (.int .u64 ((n / 256 ^ k : Nat) : Int)) := by
      have := shrN (K := .u64) (n := n) (k := 8 * k) (by simp [IntKind.bits]; omega)
      rwa [Int.natCast_mul, Nat.pow_mul] at this
    have e3 : IntKind.u8.wrap ((n / 256 ^ k : Nat) : Int) = ((UInt8.ofNat (n / 256 ^ k % 256)).toNat : Int) := by
      simp [IntKind.wrap, IntKind.signed, IntKind.bits]
    have hl : (u8 ((leB n w).take k)).length = k := by simp [u8_length, leB_length]; omega
    have e4 : (u8 ((leB n w).take k) ++ List.replicate (w - k) (AV.int .u8 0)).take k = u8 ((leB n w).take k) := by rw [List.take_left' hl]
    have e5 : (u8 ((leB n w).take k) ++ List.replicate (w - k) (AV.int .u8 0)).drop (k + 1) = List.replicate (w - (k + 1)) (.int .u8 0) := by
      rw [List.drop_append, List.drop_of_length_le (by omega), hl]
      simp
      omega
    have e6 : u8 ((leB n w).take k) ++ [AV.int .u8 ((UInt8.ofNat (n / 256 ^ k % 256)).toNat : Int)] = u8 ((leB n w).take (k + 1)) := by
      rw [leB_take_succ hlt, ← u8_append]; rfl
    simp (config := { maxSteps := 4000000 }) (disch := omega) only [step, stepv, ev, okW, wl, wn, wp, aop, cV, cV1, ↓reduceIte, Nat.reduceEqDiff, Nat.reduceAdd, Int.cast_ofNat_Int, if_true, if_false, AV.one, repCells, fillA, partCells, Nat.reduceLT, Nat.reduceLeDiff, Nat.reduceMul, Nat.reduceSub, Int.reduceLT, Int.reduceLE, Int.reduceAdd, Int.reduceSub, Int.reduceMul, Int.reduceToNat, sliceCells, cellsAt, srcA, app, reduceCtorEq, Int.reduceEq, Int.reduceNeg, Int.reducePow, Nat.reducePow, Int.reduceTDiv, Int.reduceDiv, Nat.reduceDiv, Nat.reduceMod, Int.reduceMod, Int.reduceTMod, ne_eq, subA, beq_iff_eq, unA, minA, maxA, eqFs, eqA1, beq_self_eq_true, Nat.reduceBEq, e2, e3, hl, e4, e5, e6]
    refine ⟨k + 1, by omega, by omega, ?_⟩
    refine Le.slots ?_
    simp [Am.look]
  · have ek : k = w := by omega
    subst ek
    have e7 : (leB n k).take k = leB n k := List.take_of_length_le (by rw [leB_length]; exact Nat.le_refl _)
    have e8 : u8 (leB n k) ++ List.replicate (k - k) (AV.int .u8 0) = u8 (leB n k) := by simp
    simp (config := { maxSteps := 4000000 }) (disch := omega) only [step, stepv, ev, okW, wl, wn, wp, aop, cV, cV1, ↓reduceIte, Nat.reduceEqDiff, Nat.reduceAdd, Int.cast_ofNat_Int, if_true, if_false, AV.one, repCells, fillA, partCells, Nat.reduceLT, Nat.reduceLeDiff, Nat.reduceMul, Nat.reduceSub, Int.reduceLT, Int.reduceLE, Int.reduceAdd, Int.reduceSub, Int.reduceMul, Int.reduceToNat, sliceCells, cellsAt, srcA, app, reduceCtorEq, Int.reduceEq, Int.reduceNeg, Int.reducePow, Nat.reducePow, Int.reduceTDiv, Int.reduceDiv, Nat.reduceDiv, Nat.reduceMod, Int.reduceMod, Int.reduceTMod, ne_eq, subA, beq_iff_eq, unA, minA, maxA, eqFs, eqA1, beq_self_eq_true, Nat.reduceBEq, e7]
    rw [e8, frz_own0 (leB_length k n).symm]

end Go.Am

namespace Go.Am
open Go.RowKit

/-! ### Written -/

def S_Written (P : Prg) (f : Nat) : Prop := ∀ n w : Nat, w ≤ 8 → n < 18446744073709551616 → VC P f [.int .u64 n, .int .i64 w] (bs (leB n w))

theorem ref01_Written {P : Prg} {f t0 : Nat} (b : Body P f 21 [.tmp 4] (ac_cadenzaref01_Written t0)) : S_Written P f := by
  intro n w hw hn
  refine VC.of_walk 1 rfl (isD_bs _) (ACall.of_body b (by simp) ?_)
  simp (config := { maxSteps := 4000000 }) (disch := omega) only [step, stepv, ev, okW, wl, wn, wp, aop, cV, cV1, ↓reduceIte, Nat.reduceEqDiff, Nat.reduceAdd, Int.cast_ofNat_Int, if_true, if_false, AV.one, repCells, fillA, partCells, Nat.reduceLT, Nat.reduceLeDiff, Nat.reduceMul, Nat.reduceSub, Int.reduceLT, Int.reduceLE, Int.reduceAdd, Int.reduceSub, Int.reduceMul, Int.reduceToNat, sliceCells, cellsAt, srcA, app, reduceCtorEq, Int.reduceEq, Int.reduceNeg, Int.reducePow, Nat.reducePow, Int.reduceTDiv, Int.reduceDiv, Nat.reduceDiv, Nat.reduceMod, Int.reduceMod, Int.reduceTMod, ne_eq, subA, beq_iff_eq, unA, minA, maxA, eqFs, eqA1, beq_self_eq_true, Nat.reduceBEq, ac_cadenzaref01_Written]
  refine ALoop.by (ι := Nat) (fun k => ⟨[(6, .int .i64 k), (5, .own 0 k), (1, .int .i64 w), (0, .int .u64 ((n / 256 ^ k : Nat) : Int))], [⟨t0, 1, k, u8 ((leB n w).take k), 0⟩]⟩) (fun k => k ≤ w) (fun k => w - k) 0
    (Le.trans (Le.virt 5 t0 1 (by omega) rfl) (Le.slots (by simp [Am.look]))) (by omega) ?_
  intro k hk
  have hdiv : n / 256 ^ k ≤ n := Nat.div_le_self _ _
  by_cases hlt : k < w
  · have hl : (u8 ((leB n w).take k)).length = k := by simp [u8_length, leB_length]; omega
    have e6 := leB_take_succ (n := n) hlt
    have e2 : n / 256 ^ (k + 1) = n / 256 ^ k / 256 := by rw [Nat.pow_succ, ← Nat.div_div_eq_div_mul]
    generalize hm : n / 256 ^ k = m at *
    have e3 : (UInt8.ofNat (m % 256)).toNat = m % 256 := by simp
    have e5 : ((m : Int) % 256) = ((m % 256 : Nat) : Int) := by omega
    have e7 : u8 ((leB n w).take k) ++ [AV.int .u8 ((m : Int) % 256)] = u8 ((leB n w).take (k + 1)) := by
      rw [e6, ← u8_append, u8_cons, u8_nil, e3, e5]
    simp (config := { maxSteps := 4000000 }) (disch := omega) only [step, stepv, ev, okW, wl, wn, wp, aop, cV, cV1, ↓reduceIte, Nat.reduceEqDiff, Nat.reduceAdd, Int.cast_ofNat_Int, if_true, if_false, AV.one, repCells, fillA, partCells, Nat.reduceLT, Nat.reduceLeDiff, Nat.reduceMul, Nat.reduceSub, Int.reduceLT, Int.reduceLE, Int.reduceAdd, Int.reduceSub, Int.reduceMul, Int.reduceToNat, sliceCells, cellsAt, srcA, app, reduceCtorEq, Int.reduceEq, Int.reduceNeg, Int.reducePow, Nat.reducePow, Int.reduceTDiv, Int.reduceDiv, Nat.reduceDiv, Nat.reduceMod, Int.reduceMod, Int.reduceTMod, ne_eq, subA, beq_iff_eq, unA, minA, maxA, eqFs, eqA1, beq_self_eq_true, Nat.reduceBEq, hl]
    rw [e7]
    refine ⟨k + 1, by omega, by omega, Le.drop 1 2 (by omega) rfl ?_ ?_⟩
    · rw [e2]; simp [Am.look, frzK, frzL, frzV]
    · intro i y hy
      match i, hy with
      | 0, hy =>
        simp at hy
        subst hy
        exact ⟨u8 ((leB n w).take (k + 1)), by simp, by simp only [frzK]; exact frzL_T _ (isT_u8 _)⟩
      | i + 1, hy => simp at hy
  · have ek : k = w := by omega
    subst ek
    have e7 : (leB n k).take k = leB n k := List.take_of_length_le (by rw [leB_length]; exact Nat.le_refl _)
    simp (config := { maxSteps := 4000000 }) (disch := omega) only [step, stepv, ev, okW, wl, wn, wp, aop, cV, cV1, ↓reduceIte, Nat.reduceEqDiff, Nat.reduceAdd, Int.cast_ofNat_Int, if_true, if_false, AV.one, repCells, fillA, partCells, Nat.reduceLT, Nat.reduceLeDiff, Nat.reduceMul, Nat.reduceSub, Int.reduceLT, Int.reduceLE, Int.reduceAdd, Int.reduceSub, Int.reduceMul, Int.reduceToNat, sliceCells, cellsAt, srcA, app, reduceCtorEq, Int.reduceEq, Int.reduceNeg, Int.reducePow, Nat.reducePow, Int.reduceTDiv, Int.reduceDiv, Nat.reduceDiv, Nat.reduceMod, Int.reduceMod, Int.reduceTMod, ne_eq, subA, beq_iff_eq, unA, minA, maxA, eqFs, eqA1, beq_self_eq_true, Nat.reduceBEq, e7]
    have e9 : k = (leB n k).length := (leB_length k n).symm
    simp only [frzN, frzK, frzL, frzV, Bool.false_eq_true, if_false, List.getElem?_cons_zero, and_self, if_true, frzL_T _ (isT_u8 _), Option.map_some, bs, leB_length]

/-! ### Sizes -/

/-- A list of chunks that is not great: its length, names, data. -/
def okL (l : List Ck) : Prop := l.length ≤ 25 ∧ ∀ c ∈ l, c.1.length ≤ 20 ∧ c.2.length ≤ 100200

def szC (c : Ck) : Nat := 8 + c.2.length + c.2.length % 2
def szL (l : List Ck) : Nat := (l.map szC).sum

theorem okL_at {l : List Ck} (h : okL l) {k : Nat} (hk : k < l.length) : (l[k]).1.length ≤ 20 ∧ (l[k]).2.length ≤ 100200 := h.2 _ (List.getElem_mem hk)
theorem szL_take {l : List Ck} {k : Nat} (h : k < l.length) : szL (l.take (k + 1)) = szL (l.take k) + szC l[k] := by
  simp only [szL]
  rw [List.take_succ_eq_append_getElem h, List.map_append, List.sum_append]
  simp
theorem szL_le {l : List Ck} (h : okL l) : ∀ k, k ≤ l.length → szL (l.take k) ≤ k * 100209
  | 0, _ => by simp [szL]
  | k + 1, hk => by
    have h1 := szL_le h k (by omega)
    have h2 := okL_at h (k := k) (by omega)
    rw [szL_take (by omega)]
    simp only [szC]
    omega
theorem okL_sz {l : List Ck} (h : okL l) : szL l ≤ 2505225 := by
  have := szL_le h l.length (Nat.le_refl _)
  rw [List.take_length] at this
  have := h.1
  omega

theorem and1_i64 {n : Nat} (h : n < 9223372036854775808) : IntKind.i64.wrap (BitVec.ofInt IntKind.i64.bits (n : Int) &&& BitVec.ofInt IntKind.i64.bits 1).toNat = ((n % 2 : Nat) : Int) := by
  have e1 : (BitVec.ofInt 64 (n : Int)).toNat = n := by
    rw [BitVec.toNat_ofInt]
    show ((n : Int) % 18446744073709551616).toNat = n
    omega
  have e2 : (BitVec.ofInt 64 1).toNat = 1 := by decide
  have : (BitVec.ofInt 64 (n : Int) &&& BitVec.ofInt 64 1).toNat = n % 2 := by
    rw [BitVec.toNat_and, e1, e2, Nat.and_one_is_mod]
  show IntKind.i64.wrap ((BitVec.ofInt 64 (n : Int) &&& BitVec.ofInt 64 1).toNat : Int) = _
  rw [this, wrap_i64] <;> omega

def S_size (P : Prg) (f a : Nat) : Prop := ∀ l : List Ck, okL l → VC P f [.list l.length (ckL l)] (.int .i64 ((a + szL l : Nat) : Int))

theorem isDL_ckL (l : List Ck) : isDL (ckL l) = true := isTL_D (isT_ckL l)

theorem riff_size {P : Prg} {f t0 : Nat} (b : Body P f 25 [.tmp 2] (ac_riff_size t0)) : S_size P f 4 := by
  intro l hl
  refine VC.of_acall (by simp [isDL, isD, isDL_ckL]) rfl (ACall.of_body b (by simp) ?_)
  have h25 := hl.1
  simp (config := { maxSteps := 4000000 }) (disch := omega) only [step, stepv, ev, okW, wl, wn, wp, aop, cV, cV1, ↓reduceIte, Nat.reduceEqDiff, Nat.reduceAdd, Int.cast_ofNat_Int, if_true, if_false, AV.one, repCells, fillA, partCells, Nat.reduceLT, Nat.reduceLeDiff, Nat.reduceMul, Nat.reduceSub, Int.reduceLT, Int.reduceLE, Int.reduceAdd, Int.reduceSub, Int.reduceMul, Int.reduceToNat, sliceCells, cellsAt, srcA, app, reduceCtorEq, Int.reduceEq, Int.reduceNeg, Int.reducePow, Nat.reducePow, Int.reduceTDiv, Int.reduceDiv, Nat.reduceDiv, Nat.reduceMod, Int.reduceMod, Int.reduceTMod, ne_eq, subA, beq_iff_eq, unA, minA, maxA, eqFs, eqA1, beq_self_eq_true, Nat.reduceBEq, ac_riff_size]
  refine ALoop.by (ι := Nat) (fun k => ⟨[(8, .int .i64 k), (7, .int .i64 l.length), (6, .list l.length (ckL l)), (3, .int .i64 ((4 + szL (l.take k) : Nat) : Int))], []⟩) (fun k => k ≤ l.length) (fun k => l.length - k) 0 (Le.slots (by simp [Am.look, szL])) (by omega) ?_
  intro k hk
  have hs := szL_le hl k hk
  by_cases hlt : k < l.length
  · obtain ⟨o1, o2⟩ := okL_at hl hlt
    have e1 := ckL_drop hlt
    have e2 := ckL_length l
    have e3 := and1_i64 (n := (l[k]).2.length) (by omega)
    have e4 := szL_take hlt
    simp only [szC] at e4
    simp (config := { maxSteps := 4000000 }) (disch := omega) only [step, stepv, ev, okW, wl, wn, wp, aop, cV, cV1, ↓reduceIte, Nat.reduceEqDiff, Nat.reduceAdd, Int.cast_ofNat_Int, if_true, if_false, AV.one, repCells, fillA, partCells, Nat.reduceLT, Nat.reduceLeDiff, Nat.reduceMul, Nat.reduceSub, Int.reduceLT, Int.reduceLE, Int.reduceAdd, Int.reduceSub, Int.reduceMul, Int.reduceToNat, sliceCells, cellsAt, srcA, app, reduceCtorEq, Int.reduceEq, Int.reduceNeg, Int.reducePow, Nat.reducePow, Int.reduceTDiv, Int.reduceDiv, Nat.reduceDiv, Nat.reduceMod, Int.reduceMod, Int.reduceTMod, ne_eq, subA, beq_iff_eq, unA, minA, maxA, eqFs, eqA1, beq_self_eq_true, Nat.reduceBEq, e1, e2, bs, e3]
    refine ⟨k + 1, by omega, by omega, Le.drop 0 1 (by omega) rfl ?_ ?_⟩
    · have e5 : (4 : Int) + szL (l.take k) + (8 + (l[k]).2.length + ((l[k]).2.length % 2 : Nat)) = ((4 + szL (l.take (k + 1)) : Nat) : Int) := by omega
      simp [Am.look, frzK, frzL, frzV, frzL_T _ (isT_ckL l)]
      omega
    · intro i y hy; simp at hy
  · have ek : k = l.length := by omega
    subst ek
    rw [List.take_length]
    simp (config := { maxSteps := 4000000 }) (disch := omega) only [step, stepv, ev, okW, wl, wn, wp, aop, cV, cV1, ↓reduceIte, Nat.reduceEqDiff, Nat.reduceAdd, Int.cast_ofNat_Int, if_true, if_false, AV.one, repCells, fillA, partCells, Nat.reduceLT, Nat.reduceLeDiff, Nat.reduceMul, Nat.reduceSub, Int.reduceLT, Int.reduceLE, Int.reduceAdd, Int.reduceSub, Int.reduceMul, Int.reduceToNat, sliceCells, cellsAt, srcA, app, reduceCtorEq, Int.reduceEq, Int.reduceNeg, Int.reducePow, Nat.reducePow, Int.reduceTDiv, Int.reduceDiv, Nat.reduceDiv, Nat.reduceMod, Int.reduceMod, Int.reduceTMod, ne_eq, subA, beq_iff_eq, unA, minA, maxA, eqFs, eqA1, beq_self_eq_true, Nat.reduceBEq]

theorem ref31_Size {P : Prg} {f : Nat} (b : Body P f 29 [.tmp 2] ac_cadenzaref31_Size) : S_size P f 12 := by
  intro l hl
  refine VC.of_acall (by simp [isDL, isD, isDL_ckL]) rfl (ACall.of_body b (by simp) ?_)
  have h25 := hl.1
  simp (config := { maxSteps := 4000000 }) (disch := omega) only [step, stepv, ev, okW, wl, wn, wp, aop, cV, cV1, ↓reduceIte, Nat.reduceEqDiff, Nat.reduceAdd, Int.cast_ofNat_Int, if_true, if_false, AV.one, repCells, fillA, partCells, Nat.reduceLT, Nat.reduceLeDiff, Nat.reduceMul, Nat.reduceSub, Int.reduceLT, Int.reduceLE, Int.reduceAdd, Int.reduceSub, Int.reduceMul, Int.reduceToNat, sliceCells, cellsAt, srcA, app, reduceCtorEq, Int.reduceEq, Int.reduceNeg, Int.reducePow, Nat.reducePow, Int.reduceTDiv, Int.reduceDiv, Nat.reduceDiv, Nat.reduceMod, Int.reduceMod, Int.reduceTMod, ne_eq, subA, beq_iff_eq, unA, minA, maxA, eqFs, eqA1, beq_self_eq_true, Nat.reduceBEq, ac_cadenzaref31_Size]
  refine ALoop.by (ι := Nat) (fun k => ⟨[(4, .int .i64 k), (3, .int .i64 ((12 + szL (l.take k) : Nat) : Int)), (0, .list l.length (ckL l))], []⟩) (fun k => k ≤ l.length) (fun k => l.length - k) 0 (Le.slots (by simp [Am.look, szL])) (by omega) ?_
  intro k hk
  have hs := szL_le hl k hk
  by_cases hlt : k < l.length
  · obtain ⟨o1, o2⟩ := okL_at hl hlt
    have e1 := ckL_drop hlt
    have e2 := ckL_length l
    have e4 := szL_take hlt
    simp only [szC] at e4
    have e5 : (12 : Int) + szL (l.take k) + (8 + (l[k]).2.length + ((l[k]).2.length : Int) % 2) = ((12 + szL (l.take (k + 1)) : Nat) : Int) := by omega
    simp (config := { maxSteps := 4000000 }) (disch := omega) only [step, stepv, ev, okW, wl, wn, wp, aop, cV, cV1, ↓reduceIte, Nat.reduceEqDiff, Nat.reduceAdd, Int.cast_ofNat_Int, if_true, if_false, AV.one, repCells, fillA, partCells, Nat.reduceLT, Nat.reduceLeDiff, Nat.reduceMul, Nat.reduceSub, Int.reduceLT, Int.reduceLE, Int.reduceAdd, Int.reduceSub, Int.reduceMul, Int.reduceToNat, sliceCells, cellsAt, srcA, app, reduceCtorEq, Int.reduceEq, Int.reduceNeg, Int.reducePow, Nat.reducePow, Int.reduceTDiv, Int.reduceDiv, Nat.reduceDiv, Nat.reduceMod, Int.reduceMod, Int.reduceTMod, ne_eq, subA, beq_iff_eq, unA, minA, maxA, eqFs, eqA1, beq_self_eq_true, Nat.reduceBEq, e1, e2, bs]
    exact ⟨k + 1, by omega, by omega, Le.slots (by simp [Am.look]; omega)⟩
  · have ek : k = l.length := by omega
    subst ek
    rw [List.take_length]
    simp (config := { maxSteps := 4000000 }) (disch := omega) only [step, stepv, ev, okW, wl, wn, wp, aop, cV, cV1, ↓reduceIte, Nat.reduceEqDiff, Nat.reduceAdd, Int.cast_ofNat_Int, if_true, if_false, AV.one, repCells, fillA, partCells, Nat.reduceLT, Nat.reduceLeDiff, Nat.reduceMul, Nat.reduceSub, Int.reduceLT, Int.reduceLE, Int.reduceAdd, Int.reduceSub, Int.reduceMul, Int.reduceToNat, sliceCells, cellsAt, srcA, app, reduceCtorEq, Int.reduceEq, Int.reduceNeg, Int.reducePow, Nat.reducePow, Int.reduceTDiv, Int.reduceDiv, Nat.reduceDiv, Nat.reduceMod, Int.reduceMod, Int.reduceTMod, ne_eq, subA, beq_iff_eq, unA, minA, maxA, eqFs, eqA1, beq_self_eq_true, Nat.reduceBEq]

end Go.Am

namespace Go.Am
open Go.RowKit

/-! ### Check, Find -/

def S_IndexF2 (P : Prg) (f : Nat) : Prop := ∀ (l : List Ck) (p : Ck → Bool) (g : Nat) (cs : List AV), isDL cs = true → l.length ≤ 4611686018427387904 →
  (∀ x ∈ l, VC P g ([ckA x] ++ cs) (.bool (p x))) → VC P f [.list l.length (ckL l), .fn (.func g) [] cs] (.int .i64 (idxI p l))

theorem index_func2 {P : Prg} {f : Nat} (b : Body P f 19 [.tmp 4] ac_slices_IndexFunc_api_Chunk_api_Chunk) : S_IndexF2 P f := by
  intro l p g cs h2 hlen hp
  refine VC.of_acall (by simp [isDL, isD, h2, isDL_ckL]) rfl (ACall.of_body b (by simp) ?_)
  simp (config := { maxSteps := 4000000 }) (disch := omega) only [step, stepv, ev, okW, wl, wn, wp, aop, cV, cV1, ↓reduceIte, Nat.reduceEqDiff, Nat.reduceAdd, Int.cast_ofNat_Int, if_true, if_false, AV.one, repCells, fillA, partCells, Nat.reduceLT, Nat.reduceLeDiff, Nat.reduceMul, Nat.reduceSub, Int.reduceLT, Int.reduceLE, Int.reduceAdd, Int.reduceSub, Int.reduceMul, Int.reduceToNat, sliceCells, cellsAt, srcA, app, reduceCtorEq, Int.reduceEq, Int.reduceNeg, Int.reducePow, Nat.reducePow, Int.reduceTDiv, Int.reduceDiv, Nat.reduceDiv, Nat.reduceMod, Int.reduceMod, Int.reduceTMod, ne_eq, subA, beq_iff_eq, unA, minA, maxA, eqFs, eqA1, beq_self_eq_true, Nat.reduceBEq, ac_slices_IndexFunc_api_Chunk_api_Chunk]
  refine ALoop.by (ι := Nat) (fun k => ⟨[(8, .int .i64 k), (7, .int .i64 l.length), (1, .fn (.func g) [] cs), (0, .list l.length (ckL l))], []⟩) (fun k => k ≤ l.length ∧ (l.take k).all (fun x => !p x) = true) (fun k => l.length - k) 0 (Le.slots (by simp [Am.look])) ⟨by omega, by simp⟩ ?_
  intro k ⟨hk, hg⟩
  by_cases hlt : k < l.length
  · have e1 := ckL_drop hlt
    have e2 := ckL_length l
    simp (config := { maxSteps := 4000000 }) (disch := omega) only [step, stepv, ev, okW, wl, wn, wp, aop, cV, cV1, ↓reduceIte, Nat.reduceEqDiff, Nat.reduceAdd, Int.cast_ofNat_Int, if_true, if_false, AV.one, repCells, fillA, partCells, Nat.reduceLT, Nat.reduceLeDiff, Nat.reduceMul, Nat.reduceSub, Int.reduceLT, Int.reduceLE, Int.reduceAdd, Int.reduceSub, Int.reduceMul, Int.reduceToNat, sliceCells, cellsAt, srcA, app, reduceCtorEq, Int.reduceEq, Int.reduceNeg, Int.reducePow, Nat.reducePow, Int.reduceTDiv, Int.reduceDiv, Nat.reduceDiv, Nat.reduceMod, Int.reduceMod, Int.reduceTMod, ne_eq, subA, beq_iff_eq, unA, minA, maxA, eqFs, eqA1, beq_self_eq_true, Nat.reduceBEq, e1, e2]
    refine callQ.vc (hp _ (List.getElem_mem hlt)) ?_
    cases hpk : p l[k] with
    | true => simp (config := { maxSteps := 4000000 }) (disch := omega) only [step, stepv, ev, okW, wl, wn, wp, aop, cV, cV1, ↓reduceIte, Nat.reduceEqDiff, Nat.reduceAdd, Int.cast_ofNat_Int, if_true, if_false, AV.one, repCells, fillA, partCells, Nat.reduceLT, Nat.reduceLeDiff, Nat.reduceMul, Nat.reduceSub, Int.reduceLT, Int.reduceLE, Int.reduceAdd, Int.reduceSub, Int.reduceMul, Int.reduceToNat, sliceCells, cellsAt, srcA, app, reduceCtorEq, Int.reduceEq, Int.reduceNeg, Int.reducePow, Nat.reducePow, Int.reduceTDiv, Int.reduceDiv, Nat.reduceDiv, Nat.reduceMod, Int.reduceMod, Int.reduceTMod, ne_eq, subA, beq_iff_eq, unA, minA, maxA, eqFs, eqA1, beq_self_eq_true, Nat.reduceBEq, hpk, idxI, find_at hlt hg hpk]
    | false =>
      simp (config := { maxSteps := 4000000 }) (disch := omega) only [step, stepv, ev, okW, wl, wn, wp, aop, cV, cV1, ↓reduceIte, Nat.reduceEqDiff, Nat.reduceAdd, Int.cast_ofNat_Int, if_true, if_false, AV.one, repCells, fillA, partCells, Nat.reduceLT, Nat.reduceLeDiff, Nat.reduceMul, Nat.reduceSub, Int.reduceLT, Int.reduceLE, Int.reduceAdd, Int.reduceSub, Int.reduceMul, Int.reduceToNat, sliceCells, cellsAt, srcA, app, reduceCtorEq, Int.reduceEq, Int.reduceNeg, Int.reducePow, Nat.reducePow, Int.reduceTDiv, Int.reduceDiv, Nat.reduceDiv, Nat.reduceMod, Int.reduceMod, Int.reduceTMod, ne_eq, subA, beq_iff_eq, unA, minA, maxA, eqFs, eqA1, beq_self_eq_true, Nat.reduceBEq, hpk]
      exact ⟨k + 1, ⟨by omega, by rw [all_take_go hlt, hg, hpk]; rfl⟩, by omega, Le.slots (by simp [Am.look])⟩
  · have e2 : k = l.length := by omega
    subst e2
    rw [List.take_length] at hg
    simp (config := { maxSteps := 4000000 }) (disch := omega) only [step, stepv, ev, okW, wl, wn, wp, aop, cV, cV1, ↓reduceIte, Nat.reduceEqDiff, Nat.reduceAdd, Int.cast_ofNat_Int, if_true, if_false, AV.one, repCells, fillA, partCells, Nat.reduceLT, Nat.reduceLeDiff, Nat.reduceMul, Nat.reduceSub, Int.reduceLT, Int.reduceLE, Int.reduceAdd, Int.reduceSub, Int.reduceMul, Int.reduceToNat, sliceCells, cellsAt, srcA, app, reduceCtorEq, Int.reduceEq, Int.reduceNeg, Int.reducePow, Nat.reducePow, Int.reduceTDiv, Int.reduceDiv, Nat.reduceDiv, Nat.reduceMod, Int.reduceMod, Int.reduceTMod, ne_eq, subA, beq_iff_eq, unA, minA, maxA, eqFs, eqA1, beq_self_eq_true, Nat.reduceBEq, idxI, find_none hg]

def S_ContainsF2 (P : Prg) (f : Nat) : Prop := ∀ (l : List Ck) (p : Ck → Bool) (g : Nat) (cs : List AV), isDL cs = true → l.length ≤ 4611686018427387904 →
  (∀ x ∈ l, VC P g ([ckA x] ++ cs) (.bool (p x))) → VC P f [.list l.length (ckL l), .fn (.func g) [] cs] (.bool (l.any p))

theorem contains_func2 {P : Prg} {f fI : Nat} (b : Body P f 9 [.tmp 4] (ac_slices_ContainsFunc_api_Chunk_api_Chunk fI)) (hI : S_IndexF2 P fI) : S_ContainsF2 P f := by
  intro l p g cs h2 hlen hp
  refine VC.of_acall (by simp [isDL, isD, h2, isDL_ckL]) rfl (ACall.of_body b (by simp) ?_)
  have hi := hI l p g cs h2 hlen hp
  simp (config := { maxSteps := 4000000 }) (disch := omega) only [step, stepv, ev, okW, wl, wn, wp, aop, cV, cV1, ↓reduceIte, Nat.reduceEqDiff, Nat.reduceAdd, Int.cast_ofNat_Int, if_true, if_false, AV.one, repCells, fillA, partCells, Nat.reduceLT, Nat.reduceLeDiff, Nat.reduceMul, Nat.reduceSub, Int.reduceLT, Int.reduceLE, Int.reduceAdd, Int.reduceSub, Int.reduceMul, Int.reduceToNat, sliceCells, cellsAt, srcA, app, reduceCtorEq, Int.reduceEq, Int.reduceNeg, Int.reducePow, Nat.reducePow, Int.reduceTDiv, Int.reduceDiv, Nat.reduceDiv, Nat.reduceMod, Int.reduceMod, Int.reduceTMod, ne_eq, subA, beq_iff_eq, unA, minA, maxA, eqFs, eqA1, beq_self_eq_true, Nat.reduceBEq, ac_slices_ContainsFunc_api_Chunk_api_Chunk]
  refine callQ.vc hi ?_
  simp (config := { maxSteps := 4000000 }) (disch := omega) only [step, stepv, ev, okW, wl, wn, wp, aop, cV, cV1, ↓reduceIte, Nat.reduceEqDiff, Nat.reduceAdd, Int.cast_ofNat_Int, if_true, if_false, AV.one, repCells, fillA, partCells, Nat.reduceLT, Nat.reduceLeDiff, Nat.reduceMul, Nat.reduceSub, Int.reduceLT, Int.reduceLE, Int.reduceAdd, Int.reduceSub, Int.reduceMul, Int.reduceToNat, sliceCells, cellsAt, srcA, app, reduceCtorEq, Int.reduceEq, Int.reduceNeg, Int.reducePow, Nat.reducePow, Int.reduceTDiv, Int.reduceDiv, Nat.reduceDiv, Nat.reduceMod, Int.reduceMod, Int.reduceTMod, ne_eq, subA, beq_iff_eq, unA, minA, maxA, eqFs, eqA1, beq_self_eq_true, Nat.reduceBEq, idx_any]

def S_Check1 (P : Prg) (f : Nat) : Prop := ∀ c : Ck, c.1.length < 4611686018427387904 → VC P f [ckA c] (.bool (!nameB c.1))
theorem riff_Check1 {P : Prg} {f fN t0 : Nat} (b : Body P f 7 [.tmp 2] (ac_riff_Check_1 fN t0)) (hN : S_isName P fN) : S_Check1 P f := by
  intro c hc
  refine VC.of_acall (by simp [isDL, isD, ckA, isD_bs]) rfl (ACall.of_body b (by simp) ?_)
  simp (config := { maxSteps := 4000000 }) (disch := omega) only [step, stepv, ev, okW, wl, wn, wp, aop, cV, cV1, ↓reduceIte, Nat.reduceEqDiff, Nat.reduceAdd, Int.cast_ofNat_Int, if_true, if_false, AV.one, repCells, fillA, partCells, Nat.reduceLT, Nat.reduceLeDiff, Nat.reduceMul, Nat.reduceSub, Int.reduceLT, Int.reduceLE, Int.reduceAdd, Int.reduceSub, Int.reduceMul, Int.reduceToNat, sliceCells, cellsAt, srcA, app, reduceCtorEq, Int.reduceEq, Int.reduceNeg, Int.reducePow, Nat.reducePow, Int.reduceTDiv, Int.reduceDiv, Nat.reduceDiv, Nat.reduceMod, Int.reduceMod, Int.reduceTMod, ne_eq, subA, beq_iff_eq, unA, minA, maxA, eqFs, eqA1, beq_self_eq_true, Nat.reduceBEq, ac_riff_Check_1, ckA, bs]
  refine callQ.vc (hN c.1 hc) ?_
  simp (config := { maxSteps := 4000000 }) (disch := omega) only [step, stepv, ev, okW, wl, wn, wp, aop, cV, cV1, ↓reduceIte, Nat.reduceEqDiff, Nat.reduceAdd, Int.cast_ofNat_Int, if_true, if_false, AV.one, repCells, fillA, partCells, Nat.reduceLT, Nat.reduceLeDiff, Nat.reduceMul, Nat.reduceSub, Int.reduceLT, Int.reduceLE, Int.reduceAdd, Int.reduceSub, Int.reduceMul, Int.reduceToNat, sliceCells, cellsAt, srcA, app, reduceCtorEq, Int.reduceEq, Int.reduceNeg, Int.reducePow, Nat.reducePow, Int.reduceTDiv, Int.reduceDiv, Nat.reduceDiv, Nat.reduceMod, Int.reduceMod, Int.reduceTMod, ne_eq, subA, beq_iff_eq, unA, minA, maxA, eqFs, eqA1, beq_self_eq_true, Nat.reduceBEq]

def checkM (form : List UInt8) (l : List Ck) : Nat :=
  if 20 < l.length then 4 else if nameB form = false ∨ 100000 < 12 + szL l ∨ l.any (fun c => !nameB c.1) = true then 8 else 0

def S_Check (P : Prg) (f : Nat) : Prop := ∀ (form : List UInt8) (l : List Ck), form.length ≤ 20 → okL l → VC P f [.str form, .list l.length (ckL l)] (.int .i64 (checkM form l))

theorem riff_Check {P : Prg} {f fN fS fC f1 : Nat} (b : Body P f 21 [.tmp 4] (ac_riff_Check fN fS fC f1)) (hN : S_isName P fN) (hS : S_size P fS 4) (hC : S_ContainsF2 P fC) (h1 : S_Check1 P f1) : S_Check P f := by
  intro form l hf hl
  refine VC.of_acall (by simp [isDL, isD, isDL_ckL]) rfl (ACall.of_body b (by simp) ?_)
  have h25 := hl.1
  have hsz := okL_sz hl
  by_cases h20 : 20 < l.length
  · have e0 : checkM form l = 4 := by simp [checkM, h20]
    rw [e0]
    simp (config := { maxSteps := 4000000 }) (disch := omega) only [step, stepv, ev, okW, wl, wn, wp, aop, cV, cV1, ↓reduceIte, Nat.reduceEqDiff, Nat.reduceAdd, Int.cast_ofNat_Int, if_true, if_false, AV.one, repCells, fillA, partCells, Nat.reduceLT, Nat.reduceLeDiff, Nat.reduceMul, Nat.reduceSub, Int.reduceLT, Int.reduceLE, Int.reduceAdd, Int.reduceSub, Int.reduceMul, Int.reduceToNat, sliceCells, cellsAt, srcA, app, reduceCtorEq, Int.reduceEq, Int.reduceNeg, Int.reducePow, Nat.reducePow, Int.reduceTDiv, Int.reduceDiv, Nat.reduceDiv, Nat.reduceMod, Int.reduceMod, Int.reduceTMod, ne_eq, subA, beq_iff_eq, unA, minA, maxA, eqFs, eqA1, beq_self_eq_true, Nat.reduceBEq, ac_riff_Check]
  · simp (config := { maxSteps := 4000000 }) (disch := omega) only [step, stepv, ev, okW, wl, wn, wp, aop, cV, cV1, ↓reduceIte, Nat.reduceEqDiff, Nat.reduceAdd, Int.cast_ofNat_Int, if_true, if_false, AV.one, repCells, fillA, partCells, Nat.reduceLT, Nat.reduceLeDiff, Nat.reduceMul, Nat.reduceSub, Int.reduceLT, Int.reduceLE, Int.reduceAdd, Int.reduceSub, Int.reduceMul, Int.reduceToNat, sliceCells, cellsAt, srcA, app, reduceCtorEq, Int.reduceEq, Int.reduceNeg, Int.reducePow, Nat.reducePow, Int.reduceTDiv, Int.reduceDiv, Nat.reduceDiv, Nat.reduceMod, Int.reduceMod, Int.reduceTMod, ne_eq, subA, beq_iff_eq, unA, minA, maxA, eqFs, eqA1, beq_self_eq_true, Nat.reduceBEq, ac_riff_Check]
    refine callQ.vc (hN form (by omega)) ?_
    cases hn : nameB form with
    | false =>
      have e0 : checkM form l = 8 := by simp [checkM, h20, hn]
      rw [e0]
      simp (config := { maxSteps := 4000000 }) (disch := omega) only [step, stepv, ev, okW, wl, wn, wp, aop, cV, cV1, ↓reduceIte, Nat.reduceEqDiff, Nat.reduceAdd, Int.cast_ofNat_Int, if_true, if_false, AV.one, repCells, fillA, partCells, Nat.reduceLT, Nat.reduceLeDiff, Nat.reduceMul, Nat.reduceSub, Int.reduceLT, Int.reduceLE, Int.reduceAdd, Int.reduceSub, Int.reduceMul, Int.reduceToNat, sliceCells, cellsAt, srcA, app, reduceCtorEq, Int.reduceEq, Int.reduceNeg, Int.reducePow, Nat.reducePow, Int.reduceTDiv, Int.reduceDiv, Nat.reduceDiv, Nat.reduceMod, Int.reduceMod, Int.reduceTMod, ne_eq, subA, beq_iff_eq, unA, minA, maxA, eqFs, eqA1, beq_self_eq_true, Nat.reduceBEq, hn]
    | true =>
      simp (config := { maxSteps := 4000000 }) (disch := omega) only [step, stepv, ev, okW, wl, wn, wp, aop, cV, cV1, ↓reduceIte, Nat.reduceEqDiff, Nat.reduceAdd, Int.cast_ofNat_Int, if_true, if_false, AV.one, repCells, fillA, partCells, Nat.reduceLT, Nat.reduceLeDiff, Nat.reduceMul, Nat.reduceSub, Int.reduceLT, Int.reduceLE, Int.reduceAdd, Int.reduceSub, Int.reduceMul, Int.reduceToNat, sliceCells, cellsAt, srcA, app, reduceCtorEq, Int.reduceEq, Int.reduceNeg, Int.reducePow, Nat.reducePow, Int.reduceTDiv, Int.reduceDiv, Nat.reduceDiv, Nat.reduceMod, Int.reduceMod, Int.reduceTMod, ne_eq, subA, beq_iff_eq, unA, minA, maxA, eqFs, eqA1, beq_self_eq_true, Nat.reduceBEq, hn]
      refine callQ.vc (hS l hl) ?_
      by_cases hbig : 100000 < 12 + szL l
      · have e0 : checkM form l = 8 := by simp [checkM, h20, hbig]
        rw [e0]
        simp (config := { maxSteps := 4000000 }) (disch := omega) only [step, stepv, ev, okW, wl, wn, wp, aop, cV, cV1, ↓reduceIte, Nat.reduceEqDiff, Nat.reduceAdd, Int.cast_ofNat_Int, if_true, if_false, AV.one, repCells, fillA, partCells, Nat.reduceLT, Nat.reduceLeDiff, Nat.reduceMul, Nat.reduceSub, Int.reduceLT, Int.reduceLE, Int.reduceAdd, Int.reduceSub, Int.reduceMul, Int.reduceToNat, sliceCells, cellsAt, srcA, app, reduceCtorEq, Int.reduceEq, Int.reduceNeg, Int.reducePow, Nat.reducePow, Int.reduceTDiv, Int.reduceDiv, Nat.reduceDiv, Nat.reduceMod, Int.reduceMod, Int.reduceTMod, ne_eq, subA, beq_iff_eq, unA, minA, maxA, eqFs, eqA1, beq_self_eq_true, Nat.reduceBEq]
      · simp (config := { maxSteps := 4000000 }) (disch := omega) only [step, stepv, ev, okW, wl, wn, wp, aop, cV, cV1, ↓reduceIte, Nat.reduceEqDiff, Nat.reduceAdd, Int.cast_ofNat_Int, if_true, if_false, AV.one, repCells, fillA, partCells, Nat.reduceLT, Nat.reduceLeDiff, Nat.reduceMul, Nat.reduceSub, Int.reduceLT, Int.reduceLE, Int.reduceAdd, Int.reduceSub, Int.reduceMul, Int.reduceToNat, sliceCells, cellsAt, srcA, app, reduceCtorEq, Int.reduceEq, Int.reduceNeg, Int.reducePow, Nat.reducePow, Int.reduceTDiv, Int.reduceDiv, Nat.reduceDiv, Nat.reduceMod, Int.reduceMod, Int.reduceTMod, ne_eq, subA, beq_iff_eq, unA, minA, maxA, eqFs, eqA1, beq_self_eq_true, Nat.reduceBEq]
        refine callQ.vc (hC l (fun c => !nameB c.1) f1 [] rfl (by omega) (fun x hx => h1 x (by have := (hl.2 x hx).1; omega))) ?_
        cases ha : l.any (fun c => !nameB c.1) with
        | true =>
          have e0 : checkM form l = 8 := by simp only [checkM, ha]; simp [h20]
          rw [e0]
          simp (config := { maxSteps := 4000000 }) (disch := omega) only [step, stepv, ev, okW, wl, wn, wp, aop, cV, cV1, ↓reduceIte, Nat.reduceEqDiff, Nat.reduceAdd, Int.cast_ofNat_Int, if_true, if_false, AV.one, repCells, fillA, partCells, Nat.reduceLT, Nat.reduceLeDiff, Nat.reduceMul, Nat.reduceSub, Int.reduceLT, Int.reduceLE, Int.reduceAdd, Int.reduceSub, Int.reduceMul, Int.reduceToNat, sliceCells, cellsAt, srcA, app, reduceCtorEq, Int.reduceEq, Int.reduceNeg, Int.reducePow, Nat.reducePow, Int.reduceTDiv, Int.reduceDiv, Nat.reduceDiv, Nat.reduceMod, Int.reduceMod, Int.reduceTMod, ne_eq, subA, beq_iff_eq, unA, minA, maxA, eqFs, eqA1, beq_self_eq_true, Nat.reduceBEq]
        | false =>
          have e0 : checkM form l = 0 := by simp only [checkM, ha, hn]; simp [h20, hbig]
          rw [e0]
          simp (config := { maxSteps := 4000000 }) (disch := omega) only [step, stepv, ev, okW, wl, wn, wp, aop, cV, cV1, ↓reduceIte, Nat.reduceEqDiff, Nat.reduceAdd, Int.cast_ofNat_Int, if_true, if_false, AV.one, repCells, fillA, partCells, Nat.reduceLT, Nat.reduceLeDiff, Nat.reduceMul, Nat.reduceSub, Int.reduceLT, Int.reduceLE, Int.reduceAdd, Int.reduceSub, Int.reduceMul, Int.reduceToNat, sliceCells, cellsAt, srcA, app, reduceCtorEq, Int.reduceEq, Int.reduceNeg, Int.reducePow, Nat.reducePow, Int.reduceTDiv, Int.reduceDiv, Nat.reduceDiv, Nat.reduceMod, Int.reduceMod, Int.reduceTMod, ne_eq, subA, beq_iff_eq, unA, minA, maxA, eqFs, eqA1, beq_self_eq_true, Nat.reduceBEq]

theorem any_of_take {α : Type} {l : List α} {p : α → Bool} {k : Nat} (hk : k < l.length) (hp : p l[k] = true) : l.any p = true := List.any_eq_true.2 ⟨_, List.getElem_mem hk, hp⟩

theorem ref31_Check {P : Prg} {f fN fS : Nat} (b : Body P f 30 [.tmp 4] (ac_cadenzaref31_Check fN fS)) (hN : S_isName P fN) (hS : S_size P fS 12) : S_Check P f := by
  intro form l hf hl
  refine VC.of_acall (by simp [isDL, isD, isDL_ckL]) rfl (ACall.of_body b (by simp) ?_)
  have h25 := hl.1
  have hsz := okL_sz hl
  by_cases h20 : 20 < l.length
  · have e0 : checkM form l = 4 := by simp [checkM, h20]
    rw [e0]
    simp (config := { maxSteps := 4000000 }) (disch := omega) only [step, stepv, ev, okW, wl, wn, wp, aop, cV, cV1, ↓reduceIte, Nat.reduceEqDiff, Nat.reduceAdd, Int.cast_ofNat_Int, if_true, if_false, AV.one, repCells, fillA, partCells, Nat.reduceLT, Nat.reduceLeDiff, Nat.reduceMul, Nat.reduceSub, Int.reduceLT, Int.reduceLE, Int.reduceAdd, Int.reduceSub, Int.reduceMul, Int.reduceToNat, sliceCells, cellsAt, srcA, app, reduceCtorEq, Int.reduceEq, Int.reduceNeg, Int.reducePow, Nat.reducePow, Int.reduceTDiv, Int.reduceDiv, Nat.reduceDiv, Nat.reduceMod, Int.reduceMod, Int.reduceTMod, ne_eq, subA, beq_iff_eq, unA, minA, maxA, eqFs, eqA1, beq_self_eq_true, Nat.reduceBEq, ac_cadenzaref31_Check]
  · simp (config := { maxSteps := 4000000 }) (disch := omega) only [step, stepv, ev, okW, wl, wn, wp, aop, cV, cV1, ↓reduceIte, Nat.reduceEqDiff, Nat.reduceAdd, Int.cast_ofNat_Int, if_true, if_false, AV.one, repCells, fillA, partCells, Nat.reduceLT, Nat.reduceLeDiff, Nat.reduceMul, Nat.reduceSub, Int.reduceLT, Int.reduceLE, Int.reduceAdd, Int.reduceSub, Int.reduceMul, Int.reduceToNat, sliceCells, cellsAt, srcA, app, reduceCtorEq, Int.reduceEq, Int.reduceNeg, Int.reducePow, Nat.reducePow, Int.reduceTDiv, Int.reduceDiv, Nat.reduceDiv, Nat.reduceMod, Int.reduceMod, Int.reduceTMod, ne_eq, subA, beq_iff_eq, unA, minA, maxA, eqFs, eqA1, beq_self_eq_true, Nat.reduceBEq, ac_cadenzaref31_Check]
    refine ALoop.by (ι := Nat) (fun k => ⟨[(5, .int .i64 k), (1, .list l.length (ckL l)), (0, .str form)], []⟩) (fun k => k ≤ l.length ∧ (l.take k).all (fun c => nameB c.1) = true) (fun k => l.length - k) 0 (Le.slots (by simp [Am.look])) ⟨by omega, by simp⟩ ?_
    intro k ⟨hk, hg⟩
    by_cases hlt : k < l.length
    · have e1 := ckL_drop hlt
      have e2 := ckL_length l
      have o1 := (okL_at hl hlt).1
      simp (config := { maxSteps := 4000000 }) (disch := omega) only [step, stepv, ev, okW, wl, wn, wp, aop, cV, cV1, ↓reduceIte, Nat.reduceEqDiff, Nat.reduceAdd, Int.cast_ofNat_Int, if_true, if_false, AV.one, repCells, fillA, partCells, Nat.reduceLT, Nat.reduceLeDiff, Nat.reduceMul, Nat.reduceSub, Int.reduceLT, Int.reduceLE, Int.reduceAdd, Int.reduceSub, Int.reduceMul, Int.reduceToNat, sliceCells, cellsAt, srcA, app, reduceCtorEq, Int.reduceEq, Int.reduceNeg, Int.reducePow, Nat.reducePow, Int.reduceTDiv, Int.reduceDiv, Nat.reduceDiv, Nat.reduceMod, Int.reduceMod, Int.reduceTMod, ne_eq, subA, beq_iff_eq, unA, minA, maxA, eqFs, eqA1, beq_self_eq_true, Nat.reduceBEq, e1, e2]
      refine callQ.vc (hN _ (by omega)) ?_
      cases hn : nameB (l[k]).1 with
      | false =>
        have ha : l.any (fun c => !nameB c.1) = true := any_of_take hlt (by simp [hn])
        have e0 : checkM form l = 8 := by simp only [checkM, ha]; simp [h20]
        rw [e0]
        simp (config := { maxSteps := 4000000 }) (disch := omega) only [step, stepv, ev, okW, wl, wn, wp, aop, cV, cV1, ↓reduceIte, Nat.reduceEqDiff, Nat.reduceAdd, Int.cast_ofNat_Int, if_true, if_false, AV.one, repCells, fillA, partCells, Nat.reduceLT, Nat.reduceLeDiff, Nat.reduceMul, Nat.reduceSub, Int.reduceLT, Int.reduceLE, Int.reduceAdd, Int.reduceSub, Int.reduceMul, Int.reduceToNat, sliceCells, cellsAt, srcA, app, reduceCtorEq, Int.reduceEq, Int.reduceNeg, Int.reducePow, Nat.reducePow, Int.reduceTDiv, Int.reduceDiv, Nat.reduceDiv, Nat.reduceMod, Int.reduceMod, Int.reduceTMod, ne_eq, subA, beq_iff_eq, unA, minA, maxA, eqFs, eqA1, beq_self_eq_true, Nat.reduceBEq, hn]
      | true =>
        simp (config := { maxSteps := 4000000 }) (disch := omega) only [step, stepv, ev, okW, wl, wn, wp, aop, cV, cV1, ↓reduceIte, Nat.reduceEqDiff, Nat.reduceAdd, Int.cast_ofNat_Int, if_true, if_false, AV.one, repCells, fillA, partCells, Nat.reduceLT, Nat.reduceLeDiff, Nat.reduceMul, Nat.reduceSub, Int.reduceLT, Int.reduceLE, Int.reduceAdd, Int.reduceSub, Int.reduceMul, Int.reduceToNat, sliceCells, cellsAt, srcA, app, reduceCtorEq, Int.reduceEq, Int.reduceNeg, Int.reducePow, Nat.reducePow, Int.reduceTDiv, Int.reduceDiv, Nat.reduceDiv, Nat.reduceMod, Int.reduceMod, Int.reduceTMod, ne_eq, subA, beq_iff_eq, unA, minA, maxA, eqFs, eqA1, beq_self_eq_true, Nat.reduceBEq, hn]
        exact ⟨k + 1, ⟨by omega, by rw [all_take_go hlt, hg, hn]; rfl⟩, by omega, Le.slots (by simp [Am.look])⟩
    · have ek : k = l.length := by omega
      subst ek
      rw [List.take_length] at hg
      have ha : l.any (fun c => !nameB c.1) = false := by
        rw [List.any_eq_false]
        intro x hx
        have := List.all_eq_true.1 hg x hx
        simp [this]
      simp (config := { maxSteps := 4000000 }) (disch := omega) only [step, stepv, ev, okW, wl, wn, wp, aop, cV, cV1, ↓reduceIte, Nat.reduceEqDiff, Nat.reduceAdd, Int.cast_ofNat_Int, if_true, if_false, AV.one, repCells, fillA, partCells, Nat.reduceLT, Nat.reduceLeDiff, Nat.reduceMul, Nat.reduceSub, Int.reduceLT, Int.reduceLE, Int.reduceAdd, Int.reduceSub, Int.reduceMul, Int.reduceToNat, sliceCells, cellsAt, srcA, app, reduceCtorEq, Int.reduceEq, Int.reduceNeg, Int.reducePow, Nat.reducePow, Int.reduceTDiv, Int.reduceDiv, Nat.reduceDiv, Nat.reduceMod, Int.reduceMod, Int.reduceTMod, ne_eq, subA, beq_iff_eq, unA, minA, maxA, eqFs, eqA1, beq_self_eq_true, Nat.reduceBEq]
      refine callQ.vc (hN form (by omega)) ?_
      cases hn : nameB form with
      | false =>
        have e0 : checkM form l = 8 := by simp [checkM, h20, hn]
        rw [e0]
        simp (config := { maxSteps := 4000000 }) (disch := omega) only [step, stepv, ev, okW, wl, wn, wp, aop, cV, cV1, ↓reduceIte, Nat.reduceEqDiff, Nat.reduceAdd, Int.cast_ofNat_Int, if_true, if_false, AV.one, repCells, fillA, partCells, Nat.reduceLT, Nat.reduceLeDiff, Nat.reduceMul, Nat.reduceSub, Int.reduceLT, Int.reduceLE, Int.reduceAdd, Int.reduceSub, Int.reduceMul, Int.reduceToNat, sliceCells, cellsAt, srcA, app, reduceCtorEq, Int.reduceEq, Int.reduceNeg, Int.reducePow, Nat.reducePow, Int.reduceTDiv, Int.reduceDiv, Nat.reduceDiv, Nat.reduceMod, Int.reduceMod, Int.reduceTMod, ne_eq, subA, beq_iff_eq, unA, minA, maxA, eqFs, eqA1, beq_self_eq_true, Nat.reduceBEq, hn]
      | true =>
        simp (config := { maxSteps := 4000000 }) (disch := omega) only [step, stepv, ev, okW, wl, wn, wp, aop, cV, cV1, ↓reduceIte, Nat.reduceEqDiff, Nat.reduceAdd, Int.cast_ofNat_Int, if_true, if_false, AV.one, repCells, fillA, partCells, Nat.reduceLT, Nat.reduceLeDiff, Nat.reduceMul, Nat.reduceSub, Int.reduceLT, Int.reduceLE, Int.reduceAdd, Int.reduceSub, Int.reduceMul, Int.reduceToNat, sliceCells, cellsAt, srcA, app, reduceCtorEq, Int.reduceEq, Int.reduceNeg, Int.reducePow, Nat.reducePow, Int.reduceTDiv, Int.reduceDiv, Nat.reduceDiv, Nat.reduceMod, Int.reduceMod, Int.reduceTMod, ne_eq, subA, beq_iff_eq, unA, minA, maxA, eqFs, eqA1, beq_self_eq_true, Nat.reduceBEq, hn]
        refine callQ.vc (hS l hl) ?_
        by_cases hbig : 100000 < 12 + szL l
        · have e0 : checkM form l = 8 := by simp [checkM, h20, hbig]
          rw [e0]
          simp (config := { maxSteps := 4000000 }) (disch := omega) only [step, stepv, ev, okW, wl, wn, wp, aop, cV, cV1, ↓reduceIte, Nat.reduceEqDiff, Nat.reduceAdd, Int.cast_ofNat_Int, if_true, if_false, AV.one, repCells, fillA, partCells, Nat.reduceLT, Nat.reduceLeDiff, Nat.reduceMul, Nat.reduceSub, Int.reduceLT, Int.reduceLE, Int.reduceAdd, Int.reduceSub, Int.reduceMul, Int.reduceToNat, sliceCells, cellsAt, srcA, app, reduceCtorEq, Int.reduceEq, Int.reduceNeg, Int.reducePow, Nat.reducePow, Int.reduceTDiv, Int.reduceDiv, Nat.reduceDiv, Nat.reduceMod, Int.reduceMod, Int.reduceTMod, ne_eq, subA, beq_iff_eq, unA, minA, maxA, eqFs, eqA1, beq_self_eq_true, Nat.reduceBEq]
        · have e0 : checkM form l = 0 := by simp only [checkM, ha, hn]; simp [h20, hbig]
          rw [e0]
          simp (config := { maxSteps := 4000000 }) (disch := omega) only [step, stepv, ev, okW, wl, wn, wp, aop, cV, cV1, ↓reduceIte, Nat.reduceEqDiff, Nat.reduceAdd, Int.cast_ofNat_Int, if_true, if_false, AV.one, repCells, fillA, partCells, Nat.reduceLT, Nat.reduceLeDiff, Nat.reduceMul, Nat.reduceSub, Int.reduceLT, Int.reduceLE, Int.reduceAdd, Int.reduceSub, Int.reduceMul, Int.reduceToNat, sliceCells, cellsAt, srcA, app, reduceCtorEq, Int.reduceEq, Int.reduceNeg, Int.reducePow, Nat.reducePow, Int.reduceTDiv, Int.reduceDiv, Nat.reduceDiv, Nat.reduceMod, Int.reduceMod, Int.reduceTMod, ne_eq, subA, beq_iff_eq, unA, minA, maxA, eqFs, eqA1, beq_self_eq_true, Nat.reduceBEq]

/-- The first chunk with a name. -/
def findM (l : List Ck) (id : List UInt8) : Option Nat := l.findIdx? (fun c => c.1 == id)
def findA : Option Nat → AV
  | none => .tup [.int .i64 0, .int .i64 6]
  | some i => .tup [.int .i64 i, .int .i64 0]
theorem isD_find (r : Option Nat) : isD (findA r) = true := by cases r <;> rfl

def S_Find1 (P : Prg) (f : Nat) : Prop := ∀ (c : Ck) (id : List UInt8), VC P f [ckA c, .cell [.str id]] (.bool (c.1 == id))
theorem riff_Find1 {P : Prg} {f t0 : Nat} (b : Body P f 8 [.tmp 3] (ac_riff_Find_1 t0)) : S_Find1 P f := by
  intro c id
  refine VC.of_acall (by simp [isDL, isD, ckA, isD_bs]) rfl (ACall.of_body b (by simp) ?_)
  simp (config := { maxSteps := 4000000 }) (disch := omega) only [step, stepv, ev, okW, wl, wn, wp, aop, cV, cV1, ↓reduceIte, Nat.reduceEqDiff, Nat.reduceAdd, Int.cast_ofNat_Int, if_true, if_false, AV.one, repCells, fillA, partCells, Nat.reduceLT, Nat.reduceLeDiff, Nat.reduceMul, Nat.reduceSub, Int.reduceLT, Int.reduceLE, Int.reduceAdd, Int.reduceSub, Int.reduceMul, Int.reduceToNat, sliceCells, cellsAt, srcA, app, reduceCtorEq, Int.reduceEq, Int.reduceNeg, Int.reducePow, Nat.reducePow, Int.reduceTDiv, Int.reduceDiv, Nat.reduceDiv, Nat.reduceMod, Int.reduceMod, Int.reduceTMod, ne_eq, subA, beq_iff_eq, unA, minA, maxA, eqFs, eqA1, beq_self_eq_true, Nat.reduceBEq, ac_riff_Find_1, ckA, bs, strA]

def S_Find (P : Prg) (f : Nat) : Prop := ∀ (l : List Ck) (id : List UInt8), l.length ≤ 4611686018427387904 → VC P f [.list l.length (ckL l), .str id] (findA (findM l id))

theorem findM_lt {l : List Ck} {id : List UInt8} {i : Nat} (h : findM l id = some i) : i < l.length := by
  have := List.findIdx?_eq_some_iff_getElem.1 h
  exact this.1

theorem riff_Find {P : Prg} {f f1 fI t0 : Nat} (b : Body P f 13 [.tmp 4, .tmp 5] (ac_riff_Find f1 fI t0)) (h1 : S_Find1 P f1) (hI : S_IndexF2 P fI) : S_Find P f := by
  intro l id hl
  refine VC.of_walk 1 (by simp [isDL, isD, isDL_ckL]) (isD_find _) (ACall.of_body b (by simp) ?_)
  simp (config := { maxSteps := 4000000 }) (disch := omega) only [step, stepv, ev, okW, wl, wn, wp, aop, cV, cV1, ↓reduceIte, Nat.reduceEqDiff, Nat.reduceAdd, Int.cast_ofNat_Int, if_true, if_false, AV.one, repCells, fillA, partCells, Nat.reduceLT, Nat.reduceLeDiff, Nat.reduceMul, Nat.reduceSub, Int.reduceLT, Int.reduceLE, Int.reduceAdd, Int.reduceSub, Int.reduceMul, Int.reduceToNat, sliceCells, cellsAt, srcA, app, reduceCtorEq, Int.reduceEq, Int.reduceNeg, Int.reducePow, Nat.reducePow, Int.reduceTDiv, Int.reduceDiv, Nat.reduceDiv, Nat.reduceMod, Int.reduceMod, Int.reduceTMod, ne_eq, subA, beq_iff_eq, unA, minA, maxA, eqFs, eqA1, beq_self_eq_true, Nat.reduceBEq, ac_riff_Find]
  have hv := hI l (fun c => c.1 == id) f1 [.cell [.str id]] rfl hl (fun x _ => h1 x id)
  refine callQ.flat 1 hv rfl ?_ ?_
  · simp [frzN, frzK, frzL, frzV, frzL_T _ (isT_ckL l), isDL, isD]
  · cases hf : findM l id with
    | none =>
      have e1 : idxI (fun c : Ck => c.1 == id) l = -1 := by simp only [idxI]; rw [show List.findIdx? (fun c : Ck => c.1 == id) l = none from hf]
      rw [e1]
      simp (config := { maxSteps := 4000000 }) (disch := omega) only [step, stepv, ev, okW, wl, wn, wp, aop, cV, cV1, ↓reduceIte, Nat.reduceEqDiff, Nat.reduceAdd, Int.cast_ofNat_Int, if_true, if_false, AV.one, repCells, fillA, partCells, Nat.reduceLT, Nat.reduceLeDiff, Nat.reduceMul, Nat.reduceSub, Int.reduceLT, Int.reduceLE, Int.reduceAdd, Int.reduceSub, Int.reduceMul, Int.reduceToNat, sliceCells, cellsAt, srcA, app, reduceCtorEq, Int.reduceEq, Int.reduceNeg, Int.reducePow, Nat.reducePow, Int.reduceTDiv, Int.reduceDiv, Nat.reduceDiv, Nat.reduceMod, Int.reduceMod, Int.reduceTMod, ne_eq, subA, beq_iff_eq, unA, minA, maxA, eqFs, eqA1, beq_self_eq_true, Nat.reduceBEq]
      simp [frzN, frzK, frzL, frzV, findA]
    | some i =>
      have e1 : idxI (fun c : Ck => c.1 == id) l = i := by simp only [idxI]; rw [show List.findIdx? (fun c : Ck => c.1 == id) l = some i from hf]
      have hi := findM_lt hf
      rw [e1]
      simp (config := { maxSteps := 4000000 }) (disch := omega) only [step, stepv, ev, okW, wl, wn, wp, aop, cV, cV1, ↓reduceIte, Nat.reduceEqDiff, Nat.reduceAdd, Int.cast_ofNat_Int, if_true, if_false, AV.one, repCells, fillA, partCells, Nat.reduceLT, Nat.reduceLeDiff, Nat.reduceMul, Nat.reduceSub, Int.reduceLT, Int.reduceLE, Int.reduceAdd, Int.reduceSub, Int.reduceMul, Int.reduceToNat, sliceCells, cellsAt, srcA, app, reduceCtorEq, Int.reduceEq, Int.reduceNeg, Int.reducePow, Nat.reducePow, Int.reduceTDiv, Int.reduceDiv, Nat.reduceDiv, Nat.reduceMod, Int.reduceMod, Int.reduceTMod, ne_eq, subA, beq_iff_eq, unA, minA, maxA, eqFs, eqA1, beq_self_eq_true, Nat.reduceBEq]
      simp [frzN, frzK, frzL, frzV, findA]

theorem ref31_Find {P : Prg} {f : Nat} (b : Body P f 21 [.tmp 4, .tmp 5] ac_cadenzaref31_Find) : S_Find P f := by
  intro l id hl
  refine VC.of_acall (by simp [isDL, isD, isDL_ckL]) (isD_find _) (ACall.of_body b (by simp) ?_)
  simp (config := { maxSteps := 4000000 }) (disch := omega) only [step, stepv, ev, okW, wl, wn, wp, aop, cV, cV1, ↓reduceIte, Nat.reduceEqDiff, Nat.reduceAdd, Int.cast_ofNat_Int, if_true, if_false, AV.one, repCells, fillA, partCells, Nat.reduceLT, Nat.reduceLeDiff, Nat.reduceMul, Nat.reduceSub, Int.reduceLT, Int.reduceLE, Int.reduceAdd, Int.reduceSub, Int.reduceMul, Int.reduceToNat, sliceCells, cellsAt, srcA, app, reduceCtorEq, Int.reduceEq, Int.reduceNeg, Int.reducePow, Nat.reducePow, Int.reduceTDiv, Int.reduceDiv, Nat.reduceDiv, Nat.reduceMod, Int.reduceMod, Int.reduceTMod, ne_eq, subA, beq_iff_eq, unA, minA, maxA, eqFs, eqA1, beq_self_eq_true, Nat.reduceBEq, ac_cadenzaref31_Find]
  refine ALoop.by (ι := Nat) (fun k => ⟨[(6, .int .i64 k), (1, .str id), (0, .list l.length (ckL l))], []⟩) (fun k => k ≤ l.length ∧ (l.take k).all (fun c => !(c.1 == id)) = true) (fun k => l.length - k) 0 (Le.slots (by simp [Am.look])) ⟨by omega, by simp⟩ ?_
  intro k ⟨hk, hg⟩
  by_cases hlt : k < l.length
  · have e1 := ckL_drop hlt
    have e2 := ckL_length l
    simp (config := { maxSteps := 4000000 }) (disch := omega) only [step, stepv, ev, okW, wl, wn, wp, aop, cV, cV1, ↓reduceIte, Nat.reduceEqDiff, Nat.reduceAdd, Int.cast_ofNat_Int, if_true, if_false, AV.one, repCells, fillA, partCells, Nat.reduceLT, Nat.reduceLeDiff, Nat.reduceMul, Nat.reduceSub, Int.reduceLT, Int.reduceLE, Int.reduceAdd, Int.reduceSub, Int.reduceMul, Int.reduceToNat, sliceCells, cellsAt, srcA, app, reduceCtorEq, Int.reduceEq, Int.reduceNeg, Int.reducePow, Nat.reducePow, Int.reduceTDiv, Int.reduceDiv, Nat.reduceDiv, Nat.reduceMod, Int.reduceMod, Int.reduceTMod, ne_eq, subA, beq_iff_eq, unA, minA, maxA, eqFs, eqA1, beq_self_eq_true, Nat.reduceBEq, e1, e2, strA]
    cases hpk : (l[k]).1 == id with
    | true =>
      have e0 : findM l id = some k := find_at hlt hg hpk
      rw [e0]
      simp (config := { maxSteps := 4000000 }) (disch := omega) only [step, stepv, ev, okW, wl, wn, wp, aop, cV, cV1, ↓reduceIte, Nat.reduceEqDiff, Nat.reduceAdd, Int.cast_ofNat_Int, if_true, if_false, AV.one, repCells, fillA, partCells, Nat.reduceLT, Nat.reduceLeDiff, Nat.reduceMul, Nat.reduceSub, Int.reduceLT, Int.reduceLE, Int.reduceAdd, Int.reduceSub, Int.reduceMul, Int.reduceToNat, sliceCells, cellsAt, srcA, app, reduceCtorEq, Int.reduceEq, Int.reduceNeg, Int.reducePow, Nat.reducePow, Int.reduceTDiv, Int.reduceDiv, Nat.reduceDiv, Nat.reduceMod, Int.reduceMod, Int.reduceTMod, ne_eq, subA, beq_iff_eq, unA, minA, maxA, eqFs, eqA1, beq_self_eq_true, Nat.reduceBEq, findA]
    | false =>
      simp (config := { maxSteps := 4000000 }) (disch := omega) only [step, stepv, ev, okW, wl, wn, wp, aop, cV, cV1, ↓reduceIte, Nat.reduceEqDiff, Nat.reduceAdd, Int.cast_ofNat_Int, if_true, if_false, AV.one, repCells, fillA, partCells, Nat.reduceLT, Nat.reduceLeDiff, Nat.reduceMul, Nat.reduceSub, Int.reduceLT, Int.reduceLE, Int.reduceAdd, Int.reduceSub, Int.reduceMul, Int.reduceToNat, sliceCells, cellsAt, srcA, app, reduceCtorEq, Int.reduceEq, Int.reduceNeg, Int.reducePow, Nat.reducePow, Int.reduceTDiv, Int.reduceDiv, Nat.reduceDiv, Nat.reduceMod, Int.reduceMod, Int.reduceTMod, ne_eq, subA, beq_iff_eq, unA, minA, maxA, eqFs, eqA1, beq_self_eq_true, Nat.reduceBEq]
      exact ⟨k + 1, ⟨by omega, by rw [all_take_go hlt, hg, hpk]; rfl⟩, by omega, Le.slots (by simp [Am.look])⟩
  · have ek : k = l.length := by omega
    subst ek
    rw [List.take_length] at hg
    have e0 : findM l id = none := find_none hg
    rw [e0]
    simp (config := { maxSteps := 4000000 }) (disch := omega) only [step, stepv, ev, okW, wl, wn, wp, aop, cV, cV1, ↓reduceIte, Nat.reduceEqDiff, Nat.reduceAdd, Int.cast_ofNat_Int, if_true, if_false, AV.one, repCells, fillA, partCells, Nat.reduceLT, Nat.reduceLeDiff, Nat.reduceMul, Nat.reduceSub, Int.reduceLT, Int.reduceLE, Int.reduceAdd, Int.reduceSub, Int.reduceMul, Int.reduceToNat, sliceCells, cellsAt, srcA, app, reduceCtorEq, Int.reduceEq, Int.reduceNeg, Int.reducePow, Nat.reducePow, Int.reduceTDiv, Int.reduceDiv, Nat.reduceDiv, Nat.reduceMod, Int.reduceMod, Int.reduceTMod, ne_eq, subA, beq_iff_eq, unA, minA, maxA, eqFs, eqA1, beq_self_eq_true, Nat.reduceBEq, findA]

end Go.Am

namespace Go.Am
open Go.RowKit Go.Shelf Go.Proofs

/-! ### Write -/

def ckB (c : Ck) : List UInt8 := c.1 ++ leB c.2.length 4 ++ c.2 ++ List.replicate (c.2.length % 2) 0
def bytesM (form : List UInt8) (l : List Ck) : List UInt8 := riffW ++ leB (4 + szL l) 4 ++ form ++ l.flatMap ckB

/-- How the given program's own library is laid. -/
structure BufW (P : Prg) (ρ : Ren) (fT fL fR fS g0 fW fX fB : Nat) : Prop where
  L : LaysM.n252 P.prog ρ
  B : BufB P fT (ρ.f 252) fL fR fS (ρ.t 5) g0
  W : Body P fW 32 [.tmp 4, .tmp 5] (ac_bytes_Buffer_WriteString fT (ρ.f 252))
  X : Body P fX 32 [.tmp 4, .tmp 5] (ac_bytes_Buffer_Write fT (ρ.f 252))
  Y : Body P fB 12 [.tmp 2] ac_bytes_Buffer_Bytes

section
variable {P : Prg} {ρ : Ren} {fT fL fR fS g0 fW fX fB : Nat}

theorem buf_Bytes (A : BufW P ρ fT fL fR fS g0 fW fX fB) {ob : List Ob} {p o n tB t5 : Nat} {lr : Int} {cs : List AV} (hp : ob[p]? = some (bufO tB (.own o n) lr)) (ho : ob[o]? = some ⟨t5, 1, n, cs, 0⟩) (hn : 0 < n) {K : AV → List Ob → Prop} (hK : K (.view o n 0 n) ob) :
    ACall P fB [.ref p 1 0] ob K := by
  refine ACall.of_body A.Y (by simp) ?_
  simp only [bufO] at hp
  have nz : (n = 0) = False := eq_false (by omega)
  have z : ((n : Int) - 0).toNat = n := by omega
  simp (config := { maxSteps := 4000000 }) (disch := omega) only [step, stepv, ev, okW, wl, wn, wp, aop, cV, cV1, ↓reduceIte, Nat.reduceEqDiff, Nat.reduceAdd, Int.cast_ofNat_Int, if_true, if_false, AV.one, repCells, fillA, partCells, Nat.reduceLT, Nat.reduceLeDiff, Nat.reduceMul, Nat.reduceSub, Int.reduceLT, Int.reduceLE, Int.reduceAdd, Int.reduceSub, Int.reduceMul, Int.reduceToNat, sliceCells, cellsAt, srcA, app, reduceCtorEq, Int.reduceEq, Int.reduceNeg, Int.reducePow, Nat.reducePow, Int.reduceTDiv, Int.reduceDiv, Nat.reduceDiv, Nat.reduceMod, Int.reduceMod, Int.reduceTMod, ne_eq, subA, beq_iff_eq, unA, minA, maxA, eqFs, eqA1, beq_self_eq_true, Nat.reduceBEq, ac_bytes_Buffer_Bytes, hp, ho, nz, z, not_false_eq_true, and_true]
  exact hK

/-- head, into a buffer that holds nothing yet. -/
theorem head_emp {f fLe : Nat} (A : BufW P ρ fT fL fR fS g0 fW fX fB) (b : Body P f 17 [] (ac_riff_Write_1 fLe fW fX)) (hLe : S_leBytes P fLe)
    {ob : List Ob} {p tB n : Nat} {lr : Int} {s : List UInt8} (hp : ob[p]? = some (bufO tB (.emp true) lr)) (h0 : 0 < s.length) (h64 : s.length ≤ 64) (hn : n < 4294967296)
    {K : AV → List Ob → Prop} (hK : K (.tup []) ((ob ++ ([⟨ρ.t 5, 1, s.length + 4, u8 (s ++ leB n 4), 0⟩] : List Ob)).set p (bufO tB (.own ob.length (s.length + 4)) 0))) : ACall P f [.str s, .int .i64 n, .ref p 1 0] ob K := by
  refine ACall.of_body b (by simp) ?_
  have hpl : p < ob.length := (List.getElem?_eq_some_iff.1 hp).1
  simp (config := { maxSteps := 4000000 }) (disch := omega) only [step, stepv, ev, okW, wl, wn, wp, aop, cV, cV1, ↓reduceIte, Nat.reduceEqDiff, Nat.reduceAdd, Int.cast_ofNat_Int, if_true, if_false, AV.one, repCells, fillA, partCells, Nat.reduceLT, Nat.reduceLeDiff, Nat.reduceMul, Nat.reduceSub, Int.reduceLT, Int.reduceLE, Int.reduceAdd, Int.reduceSub, Int.reduceMul, Int.reduceToNat, sliceCells, cellsAt, srcA, app, reduceCtorEq, Int.reduceEq, Int.reduceNeg, Int.reducePow, Nat.reducePow, Int.reduceTDiv, Int.reduceDiv, Nat.reduceDiv, Nat.reduceMod, Int.reduceMod, Int.reduceTMod, ne_eq, subA, beq_iff_eq, unA, minA, maxA, eqFs, eqA1, beq_self_eq_true, Nat.reduceBEq, ac_riff_Write_1]
  refine callQ.vc (hLe n 4 (by omega) (by omega) (by omega)) ?_
  simp (config := { maxSteps := 4000000 }) (disch := omega) only [step, stepv, ev, okW, wl, wn, wp, aop, cV, cV1, ↓reduceIte, Nat.reduceEqDiff, Nat.reduceAdd, Int.cast_ofNat_Int, if_true, if_false, AV.one, repCells, fillA, partCells, Nat.reduceLT, Nat.reduceLeDiff, Nat.reduceMul, Nat.reduceSub, Int.reduceLT, Int.reduceLE, Int.reduceAdd, Int.reduceSub, Int.reduceMul, Int.reduceToNat, sliceCells, cellsAt, srcA, app, reduceCtorEq, Int.reduceEq, Int.reduceNeg, Int.reducePow, Nat.reducePow, Int.reduceTDiv, Int.reduceDiv, Nat.reduceDiv, Nat.reduceMod, Int.reduceMod, Int.reduceTMod, ne_eq, subA, beq_iff_eq, unA, minA, maxA, eqFs, eqA1, beq_self_eq_true, Nat.reduceBEq, bs]
  refine writeString_emp A.B A.W hp h0 h64 ?_
  simp (config := { maxSteps := 4000000 }) (disch := omega) only [step, stepv, ev, okW, wl, wn, wp, aop, cV, cV1, ↓reduceIte, Nat.reduceEqDiff, Nat.reduceAdd, Int.cast_ofNat_Int, if_true, if_false, AV.one, repCells, fillA, partCells, Nat.reduceLT, Nat.reduceLeDiff, Nat.reduceMul, Nat.reduceSub, Int.reduceLT, Int.reduceLE, Int.reduceAdd, Int.reduceSub, Int.reduceMul, Int.reduceToNat, sliceCells, cellsAt, srcA, app, reduceCtorEq, Int.reduceEq, Int.reduceNeg, Int.reducePow, Nat.reducePow, Int.reduceTDiv, Int.reduceDiv, Nat.reduceDiv, Nat.reduceMod, Int.reduceMod, Int.reduceTMod, ne_eq, subA, beq_iff_eq, unA, minA, maxA, eqFs, eqA1, beq_self_eq_true, Nat.reduceBEq, leB_length]
  have g1 : ((ob ++ ([⟨ρ.t 5, 1, s.length, u8 s, 0⟩] : List Ob)).set p (bufO tB (.own ob.length s.length) 0))[p]? = some (bufO tB (.own ob.length s.length) 0) := by rw [List.getElem?_set_self (by simp; omega)]
  have g2 : ((ob ++ ([⟨ρ.t 5, 1, s.length, u8 s, 0⟩] : List Ob)).set p (bufO tB (.own ob.length s.length) 0))[ob.length]? = some ⟨ρ.t 5, 1, s.length, u8 s, 0⟩ := by
    rw [List.getElem?_set_ne (by omega), List.getElem?_append_right (by omega)]; simp
  have hw := write_list (K := fun r ob' => wpQ P [] (endA P [] K) ⟨putA ([(15, .list 4 (u8 (leB n 4))), (14, .tup [.int .i64 s.length, .lit .nilIface]), (13, .str s), (6, .int .i64 0), (5, .list 4 (u8 (leB n 4))), (12, .int .i64 0), (11, .list 4 (u8 (leB n 4))), (7, .tup [.list 4 (u8 (leB n 4)), .int .i64 0]), (10, .tup [.list 4 (u8 (leB n 4)), .int .i64 0]), (9, .int .u64 n), (8, .int .i64 n), (0, .str s), (1, .int .i64 n), (2, .ref p 1 0)]) (some 16) r, ob'⟩)
    A.L A.B A.X (s := leB n 4) g1 g2 (by rw [u8_length]) (by omega) h0 (by rw [leB_length]; omega)
  rw [leB_length] at hw
  refine hw ?_
  simp (config := { maxSteps := 4000000 }) (disch := omega) only [step, stepv, ev, okW, wl, wn, wp, aop, cV, cV1, ↓reduceIte, Nat.reduceEqDiff, Nat.reduceAdd, Int.cast_ofNat_Int, if_true, if_false, AV.one, repCells, fillA, partCells, Nat.reduceLT, Nat.reduceLeDiff, Nat.reduceMul, Nat.reduceSub, Int.reduceLT, Int.reduceLE, Int.reduceAdd, Int.reduceSub, Int.reduceMul, Int.reduceToNat, sliceCells, cellsAt, srcA, app, reduceCtorEq, Int.reduceEq, Int.reduceNeg, Int.reducePow, Nat.reducePow, Int.reduceTDiv, Int.reduceDiv, Nat.reduceDiv, Nat.reduceMod, Int.reduceMod, Int.reduceTMod, ne_eq, subA, beq_iff_eq, unA, minA, maxA, eqFs, eqA1, beq_self_eq_true, Nat.reduceBEq]
  have e1 : upd2 ((ob ++ ([⟨ρ.t 5, 1, s.length, u8 s, 0⟩] : List Ob)).set p (bufO tB (.own ob.length s.length) 0)) ob.length p ⟨ρ.t 5, 1, s.length + 4, u8 s ++ u8 (leB n 4), 0⟩ (bufO tB (.own ob.length (s.length + 4)) 0) = (ob ++ ([⟨ρ.t 5, 1, s.length + 4, u8 (s ++ leB n 4), 0⟩] : List Ob)).set p (bufO tB (.own ob.length (s.length + 4)) 0) := by
    unfold upd2
    rw [List.set_comm _ _ (by omega : p ≠ ob.length), List.set_set, u8_append]
    congr 1
    rw [List.set_append_right _ _ (by omega)]
    simp
  simp only [u8_append] at e1 ⊢
  rw [e1]
  exact hK

/-- head, into a buffer that holds something. -/
theorem head_own {f fLe : Nat} (A : BufW P ρ fT fL fR fS g0 fW fX fB) (b : Body P f 17 [] (ac_riff_Write_1 fLe fW fX)) (hLe : S_leBytes P fLe)
    {ob : List Ob} {p o tB n : Nat} {lr : Int} {s pre : List UInt8} (hp : ob[p]? = some (bufO tB (.own o pre.length) lr)) (ho : ob[o]? = some ⟨ρ.t 5, 1, pre.length, u8 pre, 0⟩) (hpo : p ≠ o) (h0 : 0 < pre.length) (hl : pre.length + s.length ≤ 140737488355320) (hn : n < 4294967296)
    {K : AV → List Ob → Prop} (hK : K (.tup []) (upd2 ob o p ⟨ρ.t 5, 1, (pre ++ s ++ leB n 4).length, u8 (pre ++ s ++ leB n 4), 0⟩ (bufO tB (.own o (pre ++ s ++ leB n 4).length) 0))) : ACall P f [.str s, .int .i64 n, .ref p 1 0] ob K := by
  refine ACall.of_body b (by simp) ?_
  have hpl : p < ob.length := (List.getElem?_eq_some_iff.1 hp).1
  have hol : o < ob.length := (List.getElem?_eq_some_iff.1 ho).1
  simp (config := { maxSteps := 4000000 }) (disch := omega) only [step, stepv, ev, okW, wl, wn, wp, aop, cV, cV1, ↓reduceIte, Nat.reduceEqDiff, Nat.reduceAdd, Int.cast_ofNat_Int, if_true, if_false, AV.one, repCells, fillA, partCells, Nat.reduceLT, Nat.reduceLeDiff, Nat.reduceMul, Nat.reduceSub, Int.reduceLT, Int.reduceLE, Int.reduceAdd, Int.reduceSub, Int.reduceMul, Int.reduceToNat, sliceCells, cellsAt, srcA, app, reduceCtorEq, Int.reduceEq, Int.reduceNeg, Int.reducePow, Nat.reducePow, Int.reduceTDiv, Int.reduceDiv, Nat.reduceDiv, Nat.reduceMod, Int.reduceMod, Int.reduceTMod, ne_eq, subA, beq_iff_eq, unA, minA, maxA, eqFs, eqA1, beq_self_eq_true, Nat.reduceBEq, ac_riff_Write_1]
  refine callQ.vc (hLe n 4 (by omega) (by omega) (by omega)) ?_
  simp (config := { maxSteps := 4000000 }) (disch := omega) only [step, stepv, ev, okW, wl, wn, wp, aop, cV, cV1, ↓reduceIte, Nat.reduceEqDiff, Nat.reduceAdd, Int.cast_ofNat_Int, if_true, if_false, AV.one, repCells, fillA, partCells, Nat.reduceLT, Nat.reduceLeDiff, Nat.reduceMul, Nat.reduceSub, Int.reduceLT, Int.reduceLE, Int.reduceAdd, Int.reduceSub, Int.reduceMul, Int.reduceToNat, sliceCells, cellsAt, srcA, app, reduceCtorEq, Int.reduceEq, Int.reduceNeg, Int.reducePow, Nat.reducePow, Int.reduceTDiv, Int.reduceDiv, Nat.reduceDiv, Nat.reduceMod, Int.reduceMod, Int.reduceTMod, ne_eq, subA, beq_iff_eq, unA, minA, maxA, eqFs, eqA1, beq_self_eq_true, Nat.reduceBEq, bs]
  refine writeString_own A.L A.B A.W hp ho (by rw [u8_length]) hpo h0 (by omega) ?_
  simp (config := { maxSteps := 4000000 }) (disch := omega) only [step, stepv, ev, okW, wl, wn, wp, aop, cV, cV1, ↓reduceIte, Nat.reduceEqDiff, Nat.reduceAdd, Int.cast_ofNat_Int, if_true, if_false, AV.one, repCells, fillA, partCells, Nat.reduceLT, Nat.reduceLeDiff, Nat.reduceMul, Nat.reduceSub, Int.reduceLT, Int.reduceLE, Int.reduceAdd, Int.reduceSub, Int.reduceMul, Int.reduceToNat, sliceCells, cellsAt, srcA, app, reduceCtorEq, Int.reduceEq, Int.reduceNeg, Int.reducePow, Nat.reducePow, Int.reduceTDiv, Int.reduceDiv, Nat.reduceDiv, Nat.reduceMod, Int.reduceMod, Int.reduceTMod, ne_eq, subA, beq_iff_eq, unA, minA, maxA, eqFs, eqA1, beq_self_eq_true, Nat.reduceBEq, leB_length]
  have hw := write_list (K := fun r ob' => wpQ P [] (endA P [] K) ⟨putA ([(15, .list 4 (u8 (leB n 4))), (14, .tup [.int .i64 s.length, .lit .nilIface]), (13, .str s), (6, .int .i64 0), (5, .list 4 (u8 (leB n 4))), (12, .int .i64 0), (11, .list 4 (u8 (leB n 4))), (7, .tup [.list 4 (u8 (leB n 4)), .int .i64 0]), (10, .tup [.list 4 (u8 (leB n 4)), .int .i64 0]), (9, .int .u64 n), (8, .int .i64 n), (0, .str s), (1, .int .i64 n), (2, .ref p 1 0)]) (some 16) r, ob'⟩)
    (ob := upd2 ob o p ⟨ρ.t 5, 1, pre.length + s.length, u8 (pre ++ s), 0⟩ (bufO tB (.own o (pre.length + s.length)) 0)) (cs := u8 (pre ++ s)) (n := pre.length + s.length) A.L A.B A.X (s := leB n 4) (upd2_gp hpl) (upd2_go hol hpo) (by rw [u8_length, List.length_append]) hpo (by omega) (by rw [leB_length]; omega)
  rw [leB_length] at hw
  simp only [u8_append] at hw ⊢
  refine hw ?_
  simp (config := { maxSteps := 4000000 }) (disch := omega) only [step, stepv, ev, okW, wl, wn, wp, aop, cV, cV1, ↓reduceIte, Nat.reduceEqDiff, Nat.reduceAdd, Int.cast_ofNat_Int, if_true, if_false, AV.one, repCells, fillA, partCells, Nat.reduceLT, Nat.reduceLeDiff, Nat.reduceMul, Nat.reduceSub, Int.reduceLT, Int.reduceLE, Int.reduceAdd, Int.reduceSub, Int.reduceMul, Int.reduceToNat, sliceCells, cellsAt, srcA, app, reduceCtorEq, Int.reduceEq, Int.reduceNeg, Int.reducePow, Nat.reducePow, Int.reduceTDiv, Int.reduceDiv, Nat.reduceDiv, Nat.reduceMod, Int.reduceMod, Int.reduceTMod, ne_eq, subA, beq_iff_eq, unA, minA, maxA, eqFs, eqA1, beq_self_eq_true, Nat.reduceBEq]
  have e1 : upd2 (upd2 ob o p ⟨ρ.t 5, 1, pre.length + s.length, u8 (pre ++ s), 0⟩ (bufO tB (.own o (pre.length + s.length)) 0)) o p ⟨ρ.t 5, 1, pre.length + s.length + 4, u8 (pre ++ s) ++ u8 (leB n 4), 0⟩ (bufO tB (.own o (pre.length + s.length + 4)) 0)
      = upd2 ob o p ⟨ρ.t 5, 1, (pre ++ s ++ leB n 4).length, u8 (pre ++ s ++ leB n 4), 0⟩ (bufO tB (.own o (pre ++ s ++ leB n 4).length) 0) := by
    rw [show upd2 (upd2 ob o p ⟨ρ.t 5, 1, pre.length + s.length, u8 (pre ++ s), 0⟩ (bufO tB (.own o (pre.length + s.length)) 0)) o p ⟨ρ.t 5, 1, pre.length + s.length + 4, u8 (pre ++ s) ++ u8 (leB n 4), 0⟩ (bufO tB (.own o (pre.length + s.length + 4)) 0) = ((upd2 ob o p ⟨ρ.t 5, 1, pre.length + s.length, u8 (pre ++ s), 0⟩ (bufO tB (.own o (pre.length + s.length)) 0)).set o ⟨ρ.t 5, 1, pre.length + s.length + 4, u8 (pre ++ s) ++ u8 (leB n 4), 0⟩).set p (bufO tB (.own o (pre.length + s.length + 4)) 0) from rfl, upd2_o hpo, upd2_p, u8_append]
    simp only [List.length_append, leB_length]
  simp only [u8_append] at e1
  rw [e1]
  exact hK
end
end Go.Am

namespace Go.Am
open Go.RowKit Go.Shelf Go.Proofs

theorem ckB_length (c : Ck) : (ckB c).length = c.1.length + c.2.length + c.2.length % 2 + 4 := by
  simp only [ckB, List.length_append, leB_length, List.length_replicate]; omega

theorem flat_take_succ {l : List Ck} {k : Nat} (h : k < l.length) : (l.take (k + 1)).flatMap ckB = (l.take k).flatMap ckB ++ ckB l[k] := by
  rw [List.take_succ_eq_append_getElem h, List.flatMap_append]; simp

theorem flat_len {l : List Ck} (h : okL l) : ∀ k, k ≤ l.length → ((l.take k).flatMap ckB).length ≤ k * 100300
  | 0, _ => by simp
  | k + 1, hk => by
    have h1 := flat_len h k (by omega)
    obtain ⟨h2, h3⟩ := okL_at h (k := k) (by omega)
    rw [flat_take_succ (by omega), List.length_append, ckB_length]
    omega

/-- What is written so far. -/
def preM (form : List UInt8) (l : List Ck) (k : Nat) : List UInt8 := riffW ++ leB (4 + szL l) 4 ++ form ++ (l.take k).flatMap ckB

theorem preM_len {form : List UInt8} {l : List Ck} (k : Nat) : (preM form l k).length = 8 + form.length + ((l.take k).flatMap ckB).length := by
  simp only [preM, List.length_append, leB_length, riffW, List.length_cons, List.length_nil]

def writeA (form : List UInt8) (l : List Ck) : AV := if checkM form l = 0 then .tup [bs (bytesM form l), .int .i64 0] else .tup [bs [], .int .i64 (checkM form l)]
theorem isD_write (form : List UInt8) (l : List Ck) : isD (writeA form l) = true := by
  unfold writeA; split <;> simp [isD, isDL, isD_bs]

def S_Write (P : Prg) (f : Nat) : Prop := ∀ (form : List UInt8) (l : List Ck), form.length ≤ 20 → okL l → VC P f [.str form, .list l.length (ckL l)] (writeA form l)

theorem rep0 (k : Nat) : repCells [AV.int .u8 0] k = u8 (List.replicate k 0) := by
  induction k with
  | zero => rfl
  | succ k ih => simp [repCells, ih, List.replicate_succ, u8]

set_option maxHeartbeats 1000000 in
theorem riff_Write {P : Prg} {ρ : Ren} {fT fL fR fS g0 fW fX fB f fC f1 fZ fLe t0 t1 t2 : Nat} (A : BufW P ρ fT fL fR fS g0 fW fX fB) (b : Body P f 48 [.tmp 4, .tmp 5] (ac_riff_Write fC f1 fZ fW fX fB t0 t1 t2))
    (hC : S_Check P fC) (b1 : Body P f1 17 [] (ac_riff_Write_1 fLe fW fX)) (hLe : S_leBytes P fLe) (hZ : S_size P fZ 4) : S_Write P f := by
  intro form l hf hl
  refine VC.of_walk 1 (by simp [isDL, isD, isDL_ckL]) (isD_write _ _) (ACall.of_body b (by simp) ?_)
  have h25 := hl.1
  have hsz := okL_sz hl
  simp (config := { maxSteps := 4000000 }) (disch := omega) only [step, stepv, ev, okW, wl, wn, wp, aop, cV, cV1, ↓reduceIte, Nat.reduceEqDiff, Nat.reduceAdd, Int.cast_ofNat_Int, if_true, if_false, AV.one, repCells, fillA, partCells, Nat.reduceLT, Nat.reduceLeDiff, Nat.reduceMul, Nat.reduceSub, Int.reduceLT, Int.reduceLE, Int.reduceAdd, Int.reduceSub, Int.reduceMul, Int.reduceToNat, sliceCells, cellsAt, srcA, app, reduceCtorEq, Int.reduceEq, Int.reduceNeg, Int.reducePow, Nat.reducePow, Int.reduceTDiv, Int.reduceDiv, Nat.reduceDiv, Nat.reduceMod, Int.reduceMod, Int.reduceTMod, ne_eq, subA, beq_iff_eq, unA, minA, maxA, eqFs, eqA1, beq_self_eq_true, Nat.reduceBEq, ac_riff_Write]
  refine callQ.vc (hC form l hf hl) ?_
  by_cases h0 : checkM form l = 0
  · simp only [writeA, if_pos h0]
    rw [h0]
    simp (config := { maxSteps := 4000000 }) (disch := omega) only [step, stepv, ev, okW, wl, wn, wp, aop, cV, cV1, ↓reduceIte, Nat.reduceEqDiff, Nat.reduceAdd, Int.cast_ofNat_Int, if_true, if_false, AV.one, repCells, fillA, partCells, Nat.reduceLT, Nat.reduceLeDiff, Nat.reduceMul, Nat.reduceSub, Int.reduceLT, Int.reduceLE, Int.reduceAdd, Int.reduceSub, Int.reduceMul, Int.reduceToNat, sliceCells, cellsAt, srcA, app, reduceCtorEq, Int.reduceEq, Int.reduceNeg, Int.reducePow, Nat.reducePow, Int.reduceTDiv, Int.reduceDiv, Nat.reduceDiv, Nat.reduceMod, Int.reduceMod, Int.reduceTMod, ne_eq, subA, beq_iff_eq, unA, minA, maxA, eqFs, eqA1, beq_self_eq_true, Nat.reduceBEq]
    refine callQ.vc (hZ l hl) ?_
    simp (config := { maxSteps := 4000000 }) (disch := omega) only [step, stepv, ev, okW, wl, wn, wp, aop, cV, cV1, ↓reduceIte, Nat.reduceEqDiff, Nat.reduceAdd, Int.cast_ofNat_Int, if_true, if_false, AV.one, repCells, fillA, partCells, Nat.reduceLT, Nat.reduceLeDiff, Nat.reduceMul, Nat.reduceSub, Int.reduceLT, Int.reduceLE, Int.reduceAdd, Int.reduceSub, Int.reduceMul, Int.reduceToNat, sliceCells, cellsAt, srcA, app, reduceCtorEq, Int.reduceEq, Int.reduceNeg, Int.reducePow, Nat.reducePow, Int.reduceTDiv, Int.reduceDiv, Nat.reduceDiv, Nat.reduceMod, Int.reduceMod, Int.reduceTMod, ne_eq, subA, beq_iff_eq, unA, minA, maxA, eqFs, eqA1, beq_self_eq_true, Nat.reduceBEq]
    have e0 : ([82, 73, 70, 70] : List UInt8) = riffW := rfl
    rw [e0]
    refine head_emp A b1 hLe (ob := [bufO t0 (.emp true) 0]) rfl (by decide) (by decide) (n := 4 + szL l) (by omega) ?_
    simp (config := { maxSteps := 4000000 }) (disch := omega) only [step, stepv, ev, okW, wl, wn, wp, aop, cV, cV1, ↓reduceIte, Nat.reduceEqDiff, Nat.reduceAdd, Int.cast_ofNat_Int, if_true, if_false, AV.one, repCells, fillA, partCells, Nat.reduceLT, Nat.reduceLeDiff, Nat.reduceMul, Nat.reduceSub, Int.reduceLT, Int.reduceLE, Int.reduceAdd, Int.reduceSub, Int.reduceMul, Int.reduceToNat, sliceCells, cellsAt, srcA, app, reduceCtorEq, Int.reduceEq, Int.reduceNeg, Int.reducePow, Nat.reducePow, Int.reduceTDiv, Int.reduceDiv, Nat.reduceDiv, Nat.reduceMod, Int.reduceMod, Int.reduceTMod, ne_eq, subA, beq_iff_eq, unA, minA, maxA, eqFs, eqA1, beq_self_eq_true, Nat.reduceBEq, bufO]
    have e1 : riffW.length + 4 = (riffW ++ leB (4 + szL l) 4).length := by rw [List.length_append, leB_length]
    rw [e1]
    refine writeString_own (cs := u8 (riffW ++ leB (4 + szL l) 4)) (o := 1) A.L A.B A.W rfl rfl (u8_length _) (by decide) (by rw [List.length_append, leB_length]; omega) (by rw [List.length_append, leB_length]; simp [riffW]; omega) ?_
    simp only [upd2, bufO, List.set_cons_succ, List.set_cons_zero, u8_append]
    rw [← List.length_append]
    simp (config := { maxSteps := 4000000 }) (disch := omega) only [step, stepv, ev, okW, wl, wn, wp, aop, cV, cV1, ↓reduceIte, Nat.reduceEqDiff, Nat.reduceAdd, Int.cast_ofNat_Int, if_true, if_false, AV.one, repCells, fillA, partCells, Nat.reduceLT, Nat.reduceLeDiff, Nat.reduceMul, Nat.reduceSub, Int.reduceLT, Int.reduceLE, Int.reduceAdd, Int.reduceSub, Int.reduceMul, Int.reduceToNat, sliceCells, cellsAt, srcA, app, reduceCtorEq, Int.reduceEq, Int.reduceNeg, Int.reducePow, Nat.reducePow, Int.reduceTDiv, Int.reduceDiv, Nat.reduceDiv, Nat.reduceMod, Int.reduceMod, Int.reduceTMod, ne_eq, subA, beq_iff_eq, unA, minA, maxA, eqFs, eqA1, beq_self_eq_true, Nat.reduceBEq]
    have p0 : riffW ++ leB (4 + szL l) 4 ++ form = preM form l 0 := by simp [preM]
    have p1 : riffW.length + (leB (4 + szL l) 4).length + form.length = (preM form l 0).length := by rw [← p0]; simp only [List.length_append]
    rw [p0, p1]
    refine ALoop.by (ι := Nat) (fun k => ⟨[(26, .int .i64 k), (25, .int .i64 l.length), (24, .list l.length (ckL l)), (8, .fn (.func f1) [] [.ref 0 1 0]), (7, .ref 0 1 0)],
        [⟨t0, 3, 1, [.own 1 (preM form l k).length, .int .i64 0, .int .i8 0], 0⟩, ⟨ρ.t 5, 1, (preM form l k).length, u8 (preM form l k), 0⟩]⟩) (fun k => k ≤ l.length) (fun k => l.length - k) 0
        (Le.slots (by simp [Am.look])) (by omega) ?_
    intro k hk
    have hpl := preM_len (form := form) (l := l) k
    have hfl := flat_len hl k hk
    by_cases hlt : k < l.length
    · obtain ⟨o1, o2⟩ := okL_at hl hlt
      have d1 := ckL_drop hlt
      have d2 := ckL_length l
      have d3 := and1_i64 (n := (l[k]).2.length) (by omega)
      simp (config := { maxSteps := 4000000 }) (disch := omega) only [step, stepv, ev, okW, wl, wn, wp, aop, cV, cV1, ↓reduceIte, Nat.reduceEqDiff, Nat.reduceAdd, Int.cast_ofNat_Int, if_true, if_false, AV.one, repCells, fillA, partCells, Nat.reduceLT, Nat.reduceLeDiff, Nat.reduceMul, Nat.reduceSub, Int.reduceLT, Int.reduceLE, Int.reduceAdd, Int.reduceSub, Int.reduceMul, Int.reduceToNat, sliceCells, cellsAt, srcA, app, reduceCtorEq, Int.reduceEq, Int.reduceNeg, Int.reducePow, Nat.reducePow, Int.reduceTDiv, Int.reduceDiv, Nat.reduceDiv, Nat.reduceMod, Int.reduceMod, Int.reduceTMod, ne_eq, subA, beq_iff_eq, unA, minA, maxA, eqFs, eqA1, beq_self_eq_true, Nat.reduceBEq, d1, d2, bs]
      refine head_own A b1 hLe (ob := _) (p := 0) (o := 1) (tB := t0) (lr := 0) (n := (l[k]).2.length) (s := (l[k]).1) (pre := preM form l k) rfl rfl (by decide) (by omega) (by omega) (by omega) ?_
      simp only [upd2, bufO, List.set_cons_succ, List.set_cons_zero]
      generalize hq1 : preM form l k ++ (l[k]).1 ++ leB (l[k]).2.length 4 = q1
      have hl1 : q1.length = (preM form l k).length + (l[k]).1.length + 4 := by rw [← hq1]; simp only [List.length_append, leB_length]
      simp (config := { maxSteps := 4000000 }) (disch := omega) only [step, stepv, ev, okW, wl, wn, wp, aop, cV, cV1, ↓reduceIte, Nat.reduceEqDiff, Nat.reduceAdd, Int.cast_ofNat_Int, if_true, if_false, AV.one, repCells, fillA, partCells, Nat.reduceLT, Nat.reduceLeDiff, Nat.reduceMul, Nat.reduceSub, Int.reduceLT, Int.reduceLE, Int.reduceAdd, Int.reduceSub, Int.reduceMul, Int.reduceToNat, sliceCells, cellsAt, srcA, app, reduceCtorEq, Int.reduceEq, Int.reduceNeg, Int.reducePow, Nat.reducePow, Int.reduceTDiv, Int.reduceDiv, Nat.reduceDiv, Nat.reduceMod, Int.reduceMod, Int.reduceTMod, ne_eq, subA, beq_iff_eq, unA, minA, maxA, eqFs, eqA1, beq_self_eq_true, Nat.reduceBEq]
      refine write_list (o := 1) (cs := u8 q1) A.L A.B A.X rfl rfl (u8_length _) (by decide) (by omega) (by omega) ?_
      simp only [upd2, bufO, List.set_cons_succ, List.set_cons_zero, u8_append]
      rw [← List.length_append]
      generalize hq2 : q1 ++ (l[k]).2 = q2
      have hl2 : q2.length = q1.length + (l[k]).2.length := by rw [← hq2, List.length_append]
      have hm : (l[k]).2.length % 2 < 2 := Nat.mod_lt _ (by decide)
      simp (config := { maxSteps := 4000000 }) (disch := omega) only [step, stepv, ev, okW, wl, wn, wp, aop, cV, cV1, ↓reduceIte, Nat.reduceEqDiff, Nat.reduceAdd, Int.cast_ofNat_Int, if_true, if_false, AV.one, repCells, fillA, partCells, Nat.reduceLT, Nat.reduceLeDiff, Nat.reduceMul, Nat.reduceSub, Int.reduceLT, Int.reduceLE, Int.reduceAdd, Int.reduceSub, Int.reduceMul, Int.reduceToNat, sliceCells, cellsAt, srcA, app, reduceCtorEq, Int.reduceEq, Int.reduceNeg, Int.reducePow, Nat.reducePow, Int.reduceTDiv, Int.reduceDiv, Nat.reduceDiv, Nat.reduceMod, Int.reduceMod, Int.reduceTMod, ne_eq, subA, beq_iff_eq, unA, minA, maxA, eqFs, eqA1, beq_self_eq_true, Nat.reduceBEq, d3, rep0]
      have hw := fun (K : AV → List Ob → Prop) (hK : K _ _) => write_obj (K := K) (q := 3) (t := t2) (o := 1) (p := 0) (s := List.replicate ((l[k]).2.length % 2) 0) (cs := u8 q2) A.L A.B A.X
        (ob := [⟨t0, 3, 1, [.own 1 q2.length, .int .i64 0, .int .i8 0], 0⟩, ⟨ρ.t 5, 1, q2.length, u8 q2, 0⟩, ⟨t1, 2, 1, [.str (l[k]).1, .list (l[k]).2.length (u8 (l[k]).2)], 0⟩, ⟨t2, 1, (l[k]).2.length % 2, u8 (List.replicate ((l[k]).2.length % 2) 0), 0⟩])
        (n := q2.length) (tB := t0) (lr := 0) rfl rfl (u8_length _) (by decide) (by omega) (by simp) (by decide) (by decide) (by rw [List.length_replicate]; omega) hK
      rw [List.length_replicate] at hw
      refine hw _ ?_
      simp only [upd2, bufO, List.set_cons_succ, List.set_cons_zero, u8_append]
      have e9 : q2 ++ List.replicate ((l[k]).2.length % 2) 0 = preM form l (k + 1) := by
        rw [← hq2, ← hq1]
        simp only [preM, flat_take_succ hlt, ckB, List.append_assoc]
      have e10 : q2.length + (l[k]).2.length % 2 = (preM form l (k + 1)).length := by
        rw [← e9, List.length_append, List.length_replicate]
      rw [e9, e10]
      simp (config := { maxSteps := 4000000 }) (disch := omega) only [step, stepv, ev, okW, wl, wn, wp, aop, cV, cV1, ↓reduceIte, Nat.reduceEqDiff, Nat.reduceAdd, Int.cast_ofNat_Int, if_true, if_false, AV.one, repCells, fillA, partCells, Nat.reduceLT, Nat.reduceLeDiff, Nat.reduceMul, Nat.reduceSub, Int.reduceLT, Int.reduceLE, Int.reduceAdd, Int.reduceSub, Int.reduceMul, Int.reduceToNat, sliceCells, cellsAt, srcA, app, reduceCtorEq, Int.reduceEq, Int.reduceNeg, Int.reducePow, Nat.reducePow, Int.reduceTDiv, Int.reduceDiv, Nat.reduceDiv, Nat.reduceMod, Int.reduceMod, Int.reduceTMod, ne_eq, subA, beq_iff_eq, unA, minA, maxA, eqFs, eqA1, beq_self_eq_true, Nat.reduceBEq]
      refine ⟨k + 1, by omega, by omega, Le.drop 2 2 (by omega) rfl ?_ ?_⟩
      · simp [Am.look, frzK, frzL, frzV, frzL_T _ (isT_ckL l)]
      · intro i y hy
        match i, hy with
        | 0, hy =>
          simp at hy
          subst hy
          exact ⟨[.own 1 (preM form l (k + 1)).length, .int .i64 0, .int .i8 0], by simp, by simp [frzK, frzL, frzV]⟩
        | 1, hy =>
          simp at hy
          subst hy
          exact ⟨u8 (preM form l (k + 1)), by simp, by simp only [frzK]; exact frzL_T _ (isT_u8 _)⟩
        | i + 2, hy => simp at hy
    · have ek : k = l.length := by omega
      subst ek
      have e2 : preM form l l.length = bytesM form l := by simp only [preM, bytesM, List.take_length]
      rw [e2] at hpl ⊢
      simp (config := { maxSteps := 4000000 }) (disch := omega) only [step, stepv, ev, okW, wl, wn, wp, aop, cV, cV1, ↓reduceIte, Nat.reduceEqDiff, Nat.reduceAdd, Int.cast_ofNat_Int, if_true, if_false, AV.one, repCells, fillA, partCells, Nat.reduceLT, Nat.reduceLeDiff, Nat.reduceMul, Nat.reduceSub, Int.reduceLT, Int.reduceLE, Int.reduceAdd, Int.reduceSub, Int.reduceMul, Int.reduceToNat, sliceCells, cellsAt, srcA, app, reduceCtorEq, Int.reduceEq, Int.reduceNeg, Int.reducePow, Nat.reducePow, Int.reduceTDiv, Int.reduceDiv, Nat.reduceDiv, Nat.reduceMod, Int.reduceMod, Int.reduceTMod, ne_eq, subA, beq_iff_eq, unA, minA, maxA, eqFs, eqA1, beq_self_eq_true, Nat.reduceBEq]
      refine buf_Bytes A (o := 1) (n := (bytesM form l).length) (cs := u8 (bytesM form l)) rfl rfl (by omega) ?_
      simp (config := { maxSteps := 4000000 }) (disch := omega) only [step, stepv, ev, okW, wl, wn, wp, aop, cV, cV1, ↓reduceIte, Nat.reduceEqDiff, Nat.reduceAdd, Int.cast_ofNat_Int, if_true, if_false, AV.one, repCells, fillA, partCells, Nat.reduceLT, Nat.reduceLeDiff, Nat.reduceMul, Nat.reduceSub, Int.reduceLT, Int.reduceLE, Int.reduceAdd, Int.reduceSub, Int.reduceMul, Int.reduceToNat, sliceCells, cellsAt, srcA, app, reduceCtorEq, Int.reduceEq, Int.reduceNeg, Int.reducePow, Nat.reducePow, Int.reduceTDiv, Int.reduceDiv, Nat.reduceDiv, Nat.reduceMod, Int.reduceMod, Int.reduceTMod, ne_eq, subA, beq_iff_eq, unA, minA, maxA, eqFs, eqA1, beq_self_eq_true, Nat.reduceBEq]
      have n0 : (bytesM form l).length ≠ 0 := by omega
      have n1 : (bytesM form l).length ≠ 1 := by omega
      have e3 : (u8 (bytesM form l)).take (bytesM form l).length = u8 (bytesM form l) := List.take_of_length_le (by rw [u8_length]; exact Nat.le_refl _)
      simp [frzN, frzK, frzL, frzV, n0, n1, e3, frzL_T _ (isT_u8 _), bs]
  · simp only [writeA, if_neg h0]
    simp (config := { maxSteps := 4000000 }) (disch := omega) only [step, stepv, ev, okW, wl, wn, wp, aop, cV, cV1, ↓reduceIte, Nat.reduceEqDiff, Nat.reduceAdd, Int.cast_ofNat_Int, if_true, if_false, AV.one, repCells, fillA, partCells, Nat.reduceLT, Nat.reduceLeDiff, Nat.reduceMul, Nat.reduceSub, Int.reduceLT, Int.reduceLE, Int.reduceAdd, Int.reduceSub, Int.reduceMul, Int.reduceToNat, sliceCells, cellsAt, srcA, app, reduceCtorEq, Int.reduceEq, Int.reduceNeg, Int.reducePow, Nat.reducePow, Int.reduceTDiv, Int.reduceDiv, Nat.reduceDiv, Nat.reduceMod, Int.reduceMod, Int.reduceTMod, ne_eq, subA, beq_iff_eq, unA, minA, maxA, eqFs, eqA1, beq_self_eq_true, Nat.reduceBEq]
    simp [frzN, frzK, frzL, frzV, bs, u8_nil]

end Go.Am

namespace Go.Am
open Go.RowKit

def S_Bytes31 (P : Prg) (f : Nat) : Prop := ∀ (form : List UInt8) (l : List Ck), form.length ≤ 20 → okL l → VC P f [.str form, .list l.length (ckL l)] (bs (bytesM form l))

theorem ckB_even {c : Ck} (h : c.2.length % 2 = 0) : ckB c = c.1 ++ leB c.2.length 4 ++ c.2 := by simp [ckB, h]
theorem ckB_odd {c : Ck} (h : c.2.length % 2 = 1) : ckB c = c.1 ++ leB c.2.length 4 ++ c.2 ++ [0] := by simp [ckB, h]

set_option maxHeartbeats 1000000 in
theorem ref31_Bytes {P : Prg} {f fS fW t0 : Nat} (b : Body P f 60 [.tmp 4] (ac_cadenzaref31_Bytes fS fW t0)) (hS : S_size P fS 12) (hW : S_Written P fW) : S_Bytes31 P f := by
  intro form l hf hl
  refine VC.of_walk 1 (by simp [isDL, isD, isDL_ckL]) (isD_bs _) (ACall.of_body b (by simp) ?_)
  have h25 := hl.1
  have hsz := okL_sz hl
  simp (config := { maxSteps := 4000000 }) (disch := omega) only [step, stepv, ev, okW, wl, wn, wp, aop, cV, cV1, ↓reduceIte, Nat.reduceEqDiff, Nat.reduceAdd, Int.cast_ofNat_Int, if_true, if_false, AV.one, repCells, fillA, partCells, Nat.reduceLT, Nat.reduceLeDiff, Nat.reduceMul, Nat.reduceSub, Int.reduceLT, Int.reduceLE, Int.reduceAdd, Int.reduceSub, Int.reduceMul, Int.reduceToNat, sliceCells, cellsAt, srcA, app, reduceCtorEq, Int.reduceEq, Int.reduceNeg, Int.reducePow, Nat.reducePow, Int.reduceTDiv, Int.reduceDiv, Nat.reduceDiv, Nat.reduceMod, Int.reduceMod, Int.reduceTMod, ne_eq, subA, beq_iff_eq, unA, minA, maxA, eqFs, eqA1, beq_self_eq_true, Nat.reduceBEq, ac_cadenzaref31_Bytes]
  refine callQ.vc (hS l hl) ?_
  have z1' : (12 : Int) + (szL l : Int) - 8 = ((4 + szL l : Nat) : Int) := by omega
  have z1 : ((12 + szL l : Nat) : Int) - 8 = ((4 + szL l : Nat) : Int) := by omega
  have z2 : IntKind.i64.wrap (((12 + szL l : Nat) : Int) - 8) = ((4 + szL l : Nat) : Int) := by rw [wrap_i64] <;> omega
  have z3 : IntKind.u64.wrap ((4 + szL l : Nat) : Int) = ((4 + szL l : Nat) : Int) := by rw [wrap_u64] <;> omega
  simp (config := { maxSteps := 4000000 }) (disch := omega) only [step, stepv, ev, okW, wl, wn, wp, aop, cV, cV1, ↓reduceIte, Nat.reduceEqDiff, Nat.reduceAdd, Int.cast_ofNat_Int, if_true, if_false, AV.one, repCells, fillA, partCells, Nat.reduceLT, Nat.reduceLeDiff, Nat.reduceMul, Nat.reduceSub, Int.reduceLT, Int.reduceLE, Int.reduceAdd, Int.reduceSub, Int.reduceMul, Int.reduceToNat, sliceCells, cellsAt, srcA, app, reduceCtorEq, Int.reduceEq, Int.reduceNeg, Int.reducePow, Nat.reducePow, Int.reduceTDiv, Int.reduceDiv, Nat.reduceDiv, Nat.reduceMod, Int.reduceMod, Int.reduceTMod, ne_eq, subA, beq_iff_eq, unA, minA, maxA, eqFs, eqA1, beq_self_eq_true, Nat.reduceBEq]
  rw [z1']
  refine callQ.vc (hW (4 + szL l) 4 (by omega) (by omega)) ?_
  have e0 : ∀ r, AV.int .u8 82 :: .int .u8 73 :: .int .u8 70 :: .int .u8 70 :: r = u8 riffW ++ r := fun _ => rfl
  have e1 : (leB (4 + szL l) 4).length = 4 := leB_length _ _
  simp (config := { maxSteps := 4000000 }) (disch := omega) only [step, stepv, ev, okW, wl, wn, wp, aop, cV, cV1, ↓reduceIte, Nat.reduceEqDiff, Nat.reduceAdd, Int.cast_ofNat_Int, if_true, if_false, AV.one, repCells, fillA, partCells, Nat.reduceLT, Nat.reduceLeDiff, Nat.reduceMul, Nat.reduceSub, Int.reduceLT, Int.reduceLE, Int.reduceAdd, Int.reduceSub, Int.reduceMul, Int.reduceToNat, sliceCells, cellsAt, srcA, app, reduceCtorEq, Int.reduceEq, Int.reduceNeg, Int.reducePow, Nat.reducePow, Int.reduceTDiv, Int.reduceDiv, Nat.reduceDiv, Nat.reduceMod, Int.reduceMod, Int.reduceTMod, ne_eq, subA, beq_iff_eq, unA, minA, maxA, eqFs, eqA1, beq_self_eq_true, Nat.reduceBEq, bs, e1]
  rw [e0, u8_append]
  have p0 : riffW ++ (leB (4 + szL l) 4 ++ form) = preM form l 0 := by simp [preM]
  have p1 : 8 + form.length = (preM form l 0).length := by rw [preM_len]; simp
  rw [p0, p1]
  refine ALoop.by (ι := Nat) (fun k => ⟨[(6, .int .i64 k), (5, .own 0 (preM form l k).length), (1, .list l.length (ckL l))], [⟨t0, 1, (preM form l k).length, u8 (preM form l k), 1⟩]⟩) (fun k => k ≤ l.length) (fun k => l.length - k) 0
    (Le.slots (by simp [Am.look])) (by omega) ?_
  intro k hk
  have hpl := preM_len (form := form) (l := l) k
  have hfl := flat_len hl k hk
  by_cases hlt : k < l.length
  · obtain ⟨o1, o2⟩ := okL_at hl hlt
    have d1 := ckL_drop hlt
    have d2 := ckL_length l
    simp (config := { maxSteps := 4000000 }) (disch := omega) only [step, stepv, ev, okW, wl, wn, wp, aop, cV, cV1, ↓reduceIte, Nat.reduceEqDiff, Nat.reduceAdd, Int.cast_ofNat_Int, if_true, if_false, AV.one, repCells, fillA, partCells, Nat.reduceLT, Nat.reduceLeDiff, Nat.reduceMul, Nat.reduceSub, Int.reduceLT, Int.reduceLE, Int.reduceAdd, Int.reduceSub, Int.reduceMul, Int.reduceToNat, sliceCells, cellsAt, srcA, app, reduceCtorEq, Int.reduceEq, Int.reduceNeg, Int.reducePow, Nat.reducePow, Int.reduceTDiv, Int.reduceDiv, Nat.reduceDiv, Nat.reduceMod, Int.reduceMod, Int.reduceTMod, ne_eq, subA, beq_iff_eq, unA, minA, maxA, eqFs, eqA1, beq_self_eq_true, Nat.reduceBEq, d1, d2, bs]
    refine callQ.vc (hW (l[k]).2.length 4 (by omega) (by omega)) ?_
    have e2 : (leB (l[k]).2.length 4).length = 4 := leB_length _ _
    simp (config := { maxSteps := 4000000 }) (disch := omega) only [step, stepv, ev, okW, wl, wn, wp, aop, cV, cV1, ↓reduceIte, Nat.reduceEqDiff, Nat.reduceAdd, Int.cast_ofNat_Int, if_true, if_false, AV.one, repCells, fillA, partCells, Nat.reduceLT, Nat.reduceLeDiff, Nat.reduceMul, Nat.reduceSub, Int.reduceLT, Int.reduceLE, Int.reduceAdd, Int.reduceSub, Int.reduceMul, Int.reduceToNat, sliceCells, cellsAt, srcA, app, reduceCtorEq, Int.reduceEq, Int.reduceNeg, Int.reducePow, Nat.reducePow, Int.reduceTDiv, Int.reduceDiv, Nat.reduceDiv, Nat.reduceMod, Int.reduceMod, Int.reduceTMod, ne_eq, subA, beq_iff_eq, unA, minA, maxA, eqFs, eqA1, beq_self_eq_true, Nat.reduceBEq, bs, e2, d1]
    generalize hq2 : preM form l k ++ (l[k]).1 ++ leB (l[k]).2.length 4 ++ (l[k]).2 = q2
    have hl2 : (preM form l k).length + (l[k]).1.length + 4 + (l[k]).2.length = q2.length := by rw [← hq2]; simp only [List.length_append, leB_length]
    have e9 := flat_take_succ hlt
    by_cases hodd : (l[k]).2.length % 2 = 1
    · have e10 : preM form l (k + 1) = q2 ++ [0] := by
        rw [← hq2]; simp only [preM, e9, ckB_odd hodd, List.append_assoc]
      have e11 : u8 q2 ++ [AV.int .u8 0] = u8 (preM form l (k + 1)) := by rw [e10, ← u8_append]; rfl
      have e12 : q2.length + 1 = (preM form l (k + 1)).length := by rw [e10]; simp
      simp (config := { maxSteps := 4000000 }) (disch := omega) only [step, stepv, ev, okW, wl, wn, wp, aop, cV, cV1, ↓reduceIte, Nat.reduceEqDiff, Nat.reduceAdd, Int.cast_ofNat_Int, if_true, if_false, AV.one, repCells, fillA, partCells, Nat.reduceLT, Nat.reduceLeDiff, Nat.reduceMul, Nat.reduceSub, Int.reduceLT, Int.reduceLE, Int.reduceAdd, Int.reduceSub, Int.reduceMul, Int.reduceToNat, sliceCells, cellsAt, srcA, app, reduceCtorEq, Int.reduceEq, Int.reduceNeg, Int.reducePow, Nat.reducePow, Int.reduceTDiv, Int.reduceDiv, Nat.reduceDiv, Nat.reduceMod, Int.reduceMod, Int.reduceTMod, ne_eq, subA, beq_iff_eq, unA, minA, maxA, eqFs, eqA1, beq_self_eq_true, Nat.reduceBEq, hl2]
      rw [e11, e12]
      refine ⟨k + 1, by omega, by omega, Le.drop 1 2 (by omega) rfl ?_ ?_⟩
      · simp [Am.look, frzK, frzL, frzV, frzL_T _ (isT_ckL l)]
      · intro i y hy
        match i, hy with
        | 0, hy =>
          simp at hy
          subst hy
          exact ⟨u8 (preM form l (k + 1)), by simp, by simp only [frzK]; exact frzL_T _ (isT_u8 _)⟩
        | i + 1, hy => simp at hy
    · have e10 : preM form l (k + 1) = q2 := by
        rw [← hq2]; simp only [preM, e9, ckB_even (by omega : (l[k]).2.length % 2 = 0), List.append_assoc]
      simp (config := { maxSteps := 4000000 }) (disch := omega) only [step, stepv, ev, okW, wl, wn, wp, aop, cV, cV1, ↓reduceIte, Nat.reduceEqDiff, Nat.reduceAdd, Int.cast_ofNat_Int, if_true, if_false, AV.one, repCells, fillA, partCells, Nat.reduceLT, Nat.reduceLeDiff, Nat.reduceMul, Nat.reduceSub, Int.reduceLT, Int.reduceLE, Int.reduceAdd, Int.reduceSub, Int.reduceMul, Int.reduceToNat, sliceCells, cellsAt, srcA, app, reduceCtorEq, Int.reduceEq, Int.reduceNeg, Int.reducePow, Nat.reducePow, Int.reduceTDiv, Int.reduceDiv, Nat.reduceDiv, Nat.reduceMod, Int.reduceMod, Int.reduceTMod, ne_eq, subA, beq_iff_eq, unA, minA, maxA, eqFs, eqA1, beq_self_eq_true, Nat.reduceBEq, hl2]
      rw [← e10]
      exact ⟨k + 1, by omega, by omega, Le.slots (by simp [Am.look])⟩
  · have ek : k = l.length := by omega
    subst ek
    have e2 : preM form l l.length = bytesM form l := by simp only [preM, bytesM, List.take_length]
    rw [e2] at hpl ⊢
    simp (config := { maxSteps := 4000000 }) (disch := omega) only [step, stepv, ev, okW, wl, wn, wp, aop, cV, cV1, ↓reduceIte, Nat.reduceEqDiff, Nat.reduceAdd, Int.cast_ofNat_Int, if_true, if_false, AV.one, repCells, fillA, partCells, Nat.reduceLT, Nat.reduceLeDiff, Nat.reduceMul, Nat.reduceSub, Int.reduceLT, Int.reduceLE, Int.reduceAdd, Int.reduceSub, Int.reduceMul, Int.reduceToNat, sliceCells, cellsAt, srcA, app, reduceCtorEq, Int.reduceEq, Int.reduceNeg, Int.reducePow, Nat.reducePow, Int.reduceTDiv, Int.reduceDiv, Nat.reduceDiv, Nat.reduceMod, Int.reduceMod, Int.reduceTMod, ne_eq, subA, beq_iff_eq, unA, minA, maxA, eqFs, eqA1, beq_self_eq_true, Nat.reduceBEq]
    simp [frzN, frzK, frzL, frzV, frzL_T _ (isT_u8 _), bs]

theorem ref31_Write {P : Prg} {f fC fB : Nat} (b : Body P f 16 [.tmp 4, .tmp 5] (ac_cadenzaref31_Write fC fB)) (hC : S_Check P fC) (hB : S_Bytes31 P fB) : S_Write P f := by
  intro form l hf hl
  refine VC.of_walk 1 (by simp [isDL, isD, isDL_ckL]) (isD_write _ _) (ACall.of_body b (by simp) ?_)
  simp (config := { maxSteps := 4000000 }) (disch := omega) only [step, stepv, ev, okW, wl, wn, wp, aop, cV, cV1, ↓reduceIte, Nat.reduceEqDiff, Nat.reduceAdd, Int.cast_ofNat_Int, if_true, if_false, AV.one, repCells, fillA, partCells, Nat.reduceLT, Nat.reduceLeDiff, Nat.reduceMul, Nat.reduceSub, Int.reduceLT, Int.reduceLE, Int.reduceAdd, Int.reduceSub, Int.reduceMul, Int.reduceToNat, sliceCells, cellsAt, srcA, app, reduceCtorEq, Int.reduceEq, Int.reduceNeg, Int.reducePow, Nat.reducePow, Int.reduceTDiv, Int.reduceDiv, Nat.reduceDiv, Nat.reduceMod, Int.reduceMod, Int.reduceTMod, ne_eq, subA, beq_iff_eq, unA, minA, maxA, eqFs, eqA1, beq_self_eq_true, Nat.reduceBEq, ac_cadenzaref31_Write]
  refine callQ.vc (hC form l hf hl) ?_
  by_cases h0 : checkM form l = 0
  · simp only [writeA, if_pos h0]
    rw [h0]
    simp (config := { maxSteps := 4000000 }) (disch := omega) only [step, stepv, ev, okW, wl, wn, wp, aop, cV, cV1, ↓reduceIte, Nat.reduceEqDiff, Nat.reduceAdd, Int.cast_ofNat_Int, if_true, if_false, AV.one, repCells, fillA, partCells, Nat.reduceLT, Nat.reduceLeDiff, Nat.reduceMul, Nat.reduceSub, Int.reduceLT, Int.reduceLE, Int.reduceAdd, Int.reduceSub, Int.reduceMul, Int.reduceToNat, sliceCells, cellsAt, srcA, app, reduceCtorEq, Int.reduceEq, Int.reduceNeg, Int.reducePow, Nat.reducePow, Int.reduceTDiv, Int.reduceDiv, Nat.reduceDiv, Nat.reduceMod, Int.reduceMod, Int.reduceTMod, ne_eq, subA, beq_iff_eq, unA, minA, maxA, eqFs, eqA1, beq_self_eq_true, Nat.reduceBEq]
    refine callQ.vc (hB form l hf hl) ?_
    simp (config := { maxSteps := 4000000 }) (disch := omega) only [step, stepv, ev, okW, wl, wn, wp, aop, cV, cV1, ↓reduceIte, Nat.reduceEqDiff, Nat.reduceAdd, Int.cast_ofNat_Int, if_true, if_false, AV.one, repCells, fillA, partCells, Nat.reduceLT, Nat.reduceLeDiff, Nat.reduceMul, Nat.reduceSub, Int.reduceLT, Int.reduceLE, Int.reduceAdd, Int.reduceSub, Int.reduceMul, Int.reduceToNat, sliceCells, cellsAt, srcA, app, reduceCtorEq, Int.reduceEq, Int.reduceNeg, Int.reducePow, Nat.reducePow, Int.reduceTDiv, Int.reduceDiv, Nat.reduceDiv, Nat.reduceMod, Int.reduceMod, Int.reduceTMod, ne_eq, subA, beq_iff_eq, unA, minA, maxA, eqFs, eqA1, beq_self_eq_true, Nat.reduceBEq]
    simp [frzN, frzK, frzL, frzV, frz_bs]
  · simp only [writeA, if_neg h0]
    simp (config := { maxSteps := 4000000 }) (disch := omega) only [step, stepv, ev, okW, wl, wn, wp, aop, cV, cV1, ↓reduceIte, Nat.reduceEqDiff, Nat.reduceAdd, Int.cast_ofNat_Int, if_true, if_false, AV.one, repCells, fillA, partCells, Nat.reduceLT, Nat.reduceLeDiff, Nat.reduceMul, Nat.reduceSub, Int.reduceLT, Int.reduceLE, Int.reduceAdd, Int.reduceSub, Int.reduceMul, Int.reduceToNat, sliceCells, cellsAt, srcA, app, reduceCtorEq, Int.reduceEq, Int.reduceNeg, Int.reducePow, Nat.reducePow, Int.reduceTDiv, Int.reduceDiv, Nat.reduceDiv, Nat.reduceMod, Int.reduceMod, Int.reduceTMod, ne_eq, subA, beq_iff_eq, unA, minA, maxA, eqFs, eqA1, beq_self_eq_true, Nat.reduceBEq]
    simp [frzN, frzK, frzL, frzV, bs, u8_nil]

/-! ### Great -/

def greatM (form : List UInt8) (l : List Ck) : Prop := ¬ (form.length ≤ 20 ∧ okL l ∧ ¬ (1500 < 12 + szL l ∧ 12 + szL l < 99900 ∨ 100100 < 12 + szL l))

def S_Great31 (P : Prg) (f : Nat) : Prop := ∀ (form : List UInt8) (l : List Ck) (r : Bool), (greatM form l ↔ r = true) → VC P f [.str form, .list l.length (ckL l)] (.bool r)

set_option maxRecDepth 200000 in
theorem ref31_Great {P : Prg} {f fS : Nat} (b : Body P f 49 [.tmp 4] (ac_cadenzaref31_Great fS)) (hS : S_size P fS 12) : S_Great31 P f := by
  intro form l r hr
  refine VC.of_acall (by simp [isDL, isD, isDL_ckL]) rfl (ACall.of_body b (by simp) ?_)
  have big : ∀ h : greatM form l, r = true := fun h => hr.1 h
  by_cases h25 : 25 < l.length
  · have : r = true := big (fun h => by have := h.2.1.1; omega)
    subst this
    simp (config := { maxSteps := 4000000 }) (disch := omega) only [step, stepv, ev, okW, wl, wn, wp, aop, cV, cV1, ↓reduceIte, Nat.reduceEqDiff, Nat.reduceAdd, Int.cast_ofNat_Int, if_true, if_false, AV.one, repCells, fillA, partCells, Nat.reduceLT, Nat.reduceLeDiff, Nat.reduceMul, Nat.reduceSub, Int.reduceLT, Int.reduceLE, Int.reduceAdd, Int.reduceSub, Int.reduceMul, Int.reduceToNat, sliceCells, cellsAt, srcA, app, reduceCtorEq, Int.reduceEq, Int.reduceNeg, Int.reducePow, Nat.reducePow, Int.reduceTDiv, Int.reduceDiv, Nat.reduceDiv, Nat.reduceMod, Int.reduceMod, Int.reduceTMod, ne_eq, subA, beq_iff_eq, unA, minA, maxA, eqFs, eqA1, beq_self_eq_true, Nat.reduceBEq, ac_cadenzaref31_Great]
  · by_cases h20 : 20 < form.length
    · have : r = true := big (fun h => by have := h.1; omega)
      subst this
      simp (config := { maxSteps := 4000000 }) (disch := omega) only [step, stepv, ev, okW, wl, wn, wp, aop, cV, cV1, ↓reduceIte, Nat.reduceEqDiff, Nat.reduceAdd, Int.cast_ofNat_Int, if_true, if_false, AV.one, repCells, fillA, partCells, Nat.reduceLT, Nat.reduceLeDiff, Nat.reduceMul, Nat.reduceSub, Int.reduceLT, Int.reduceLE, Int.reduceAdd, Int.reduceSub, Int.reduceMul, Int.reduceToNat, sliceCells, cellsAt, srcA, app, reduceCtorEq, Int.reduceEq, Int.reduceNeg, Int.reducePow, Nat.reducePow, Int.reduceTDiv, Int.reduceDiv, Nat.reduceDiv, Nat.reduceMod, Int.reduceMod, Int.reduceTMod, ne_eq, subA, beq_iff_eq, unA, minA, maxA, eqFs, eqA1, beq_self_eq_true, Nat.reduceBEq, ac_cadenzaref31_Great]
    · simp (config := { maxSteps := 4000000 }) (disch := omega) only [step, stepv, ev, okW, wl, wn, wp, aop, cV, cV1, ↓reduceIte, Nat.reduceEqDiff, Nat.reduceAdd, Int.cast_ofNat_Int, if_true, if_false, AV.one, repCells, fillA, partCells, Nat.reduceLT, Nat.reduceLeDiff, Nat.reduceMul, Nat.reduceSub, Int.reduceLT, Int.reduceLE, Int.reduceAdd, Int.reduceSub, Int.reduceMul, Int.reduceToNat, sliceCells, cellsAt, srcA, app, reduceCtorEq, Int.reduceEq, Int.reduceNeg, Int.reducePow, Nat.reducePow, Int.reduceTDiv, Int.reduceDiv, Nat.reduceDiv, Nat.reduceMod, Int.reduceMod, Int.reduceTMod, ne_eq, subA, beq_iff_eq, unA, minA, maxA, eqFs, eqA1, beq_self_eq_true, Nat.reduceBEq, ac_cadenzaref31_Great]
      refine ALoop.by (ι := Nat) (fun k => ⟨[(5, .int .i64 k), (1, .list l.length (ckL l)), (0, .str form)], []⟩) (fun k => k ≤ l.length ∧ ∀ c ∈ l.take k, c.1.length ≤ 20 ∧ c.2.length ≤ 100200) (fun k => l.length - k) 0 (Le.slots (by simp [Am.look])) ⟨by omega, by simp⟩ ?_
      intro k ⟨hk, hg⟩
      by_cases hlt : k < l.length
      · have d1 := ckL_drop hlt
        have d2 := ckL_length l
        by_cases h1 : 20 < (l[k]).1.length
        · have : r = true := big (fun h => by have := (okL_at h.2.1 hlt).1; omega)
          subst this
          simp (config := { maxSteps := 4000000 }) (disch := omega) only [step, stepv, ev, okW, wl, wn, wp, aop, cV, cV1, ↓reduceIte, Nat.reduceEqDiff, Nat.reduceAdd, Int.cast_ofNat_Int, if_true, if_false, AV.one, repCells, fillA, partCells, Nat.reduceLT, Nat.reduceLeDiff, Nat.reduceMul, Nat.reduceSub, Int.reduceLT, Int.reduceLE, Int.reduceAdd, Int.reduceSub, Int.reduceMul, Int.reduceToNat, sliceCells, cellsAt, srcA, app, reduceCtorEq, Int.reduceEq, Int.reduceNeg, Int.reducePow, Nat.reducePow, Int.reduceTDiv, Int.reduceDiv, Nat.reduceDiv, Nat.reduceMod, Int.reduceMod, Int.reduceTMod, ne_eq, subA, beq_iff_eq, unA, minA, maxA, eqFs, eqA1, beq_self_eq_true, Nat.reduceBEq, d1, d2, bs]
        · by_cases h2 : 100200 < (l[k]).2.length
          · have : r = true := big (fun h => by have := (okL_at h.2.1 hlt).2; omega)
            subst this
            simp (config := { maxSteps := 4000000 }) (disch := omega) only [step, stepv, ev, okW, wl, wn, wp, aop, cV, cV1, ↓reduceIte, Nat.reduceEqDiff, Nat.reduceAdd, Int.cast_ofNat_Int, if_true, if_false, AV.one, repCells, fillA, partCells, Nat.reduceLT, Nat.reduceLeDiff, Nat.reduceMul, Nat.reduceSub, Int.reduceLT, Int.reduceLE, Int.reduceAdd, Int.reduceSub, Int.reduceMul, Int.reduceToNat, sliceCells, cellsAt, srcA, app, reduceCtorEq, Int.reduceEq, Int.reduceNeg, Int.reducePow, Nat.reducePow, Int.reduceTDiv, Int.reduceDiv, Nat.reduceDiv, Nat.reduceMod, Int.reduceMod, Int.reduceTMod, ne_eq, subA, beq_iff_eq, unA, minA, maxA, eqFs, eqA1, beq_self_eq_true, Nat.reduceBEq, d1, d2, bs]
          · simp (config := { maxSteps := 4000000 }) (disch := omega) only [step, stepv, ev, okW, wl, wn, wp, aop, cV, cV1, ↓reduceIte, Nat.reduceEqDiff, Nat.reduceAdd, Int.cast_ofNat_Int, if_true, if_false, AV.one, repCells, fillA, partCells, Nat.reduceLT, Nat.reduceLeDiff, Nat.reduceMul, Nat.reduceSub, Int.reduceLT, Int.reduceLE, Int.reduceAdd, Int.reduceSub, Int.reduceMul, Int.reduceToNat, sliceCells, cellsAt, srcA, app, reduceCtorEq, Int.reduceEq, Int.reduceNeg, Int.reducePow, Nat.reducePow, Int.reduceTDiv, Int.reduceDiv, Nat.reduceDiv, Nat.reduceMod, Int.reduceMod, Int.reduceTMod, ne_eq, subA, beq_iff_eq, unA, minA, maxA, eqFs, eqA1, beq_self_eq_true, Nat.reduceBEq, d1, d2, bs]
            refine ⟨k + 1, ⟨by omega, fun c hc => ?_⟩, by omega, Le.slots (by simp [Am.look])⟩
            rw [List.take_succ_eq_append_getElem hlt] at hc
            rcases List.mem_append.1 hc with hc | hc
            · exact hg c hc
            · simp at hc; subst hc; omega
      · have ek : k = l.length := by omega
        subst ek
        rw [List.take_length] at hg
        have hl : okL l := ⟨by omega, hg⟩
        have hsz := okL_sz hl
        have hS' := hS l hl
        have fl : (1500 < 12 + szL l ∧ 12 + szL l < 99900 ∨ 100100 < 12 + szL l) → r = true := fun h => big (fun h' => h'.2.2 h)
        have fr : ¬ (1500 < 12 + szL l ∧ 12 + szL l < 99900 ∨ 100100 < 12 + szL l) → r = false := fun h => by
          cases r with
          | false => rfl
          | true => exact absurd ⟨by omega, hl, h⟩ (hr.2 rfl)
        clear big hr
        generalize szL l = s at *
        have c3 : s + 12 ≤ 1500 ∨ (1500 < 12 + s ∧ 12 + s < 99900) ∨ (99900 ≤ 12 + s ∧ 12 + s ≤ 100100) ∨ 100100 < 12 + s := by omega
        rcases c3 with c | c | c | c
        · obtain rfl := fr (by omega)
          simp (config := { maxSteps := 4000000 }) (disch := omega) only [step, stepv, ev, okW, wl, wn, wp, aop, cV, cV1, ↓reduceIte, Nat.reduceEqDiff, Nat.reduceAdd, Int.cast_ofNat_Int, if_true, if_false, AV.one, repCells, fillA, partCells, Nat.reduceLT, Nat.reduceLeDiff, Nat.reduceMul, Nat.reduceSub, Int.reduceLT, Int.reduceLE, Int.reduceAdd, Int.reduceSub, Int.reduceMul, Int.reduceToNat, sliceCells, cellsAt, srcA, app, reduceCtorEq, Int.reduceEq, Int.reduceNeg, Int.reducePow, Nat.reducePow, Int.reduceTDiv, Int.reduceDiv, Nat.reduceDiv, Nat.reduceMod, Int.reduceMod, Int.reduceTMod, ne_eq, subA, beq_iff_eq, unA, minA, maxA, eqFs, eqA1, beq_self_eq_true, Nat.reduceBEq]
          refine callQ.vc hS' ?_
          simp (config := { maxSteps := 4000000 }) (disch := omega) only [step, stepv, ev, okW, wl, wn, wp, aop, cV, cV1, ↓reduceIte, Nat.reduceEqDiff, Nat.reduceAdd, Int.cast_ofNat_Int, if_true, if_false, AV.one, repCells, fillA, partCells, Nat.reduceLT, Nat.reduceLeDiff, Nat.reduceMul, Nat.reduceSub, Int.reduceLT, Int.reduceLE, Int.reduceAdd, Int.reduceSub, Int.reduceMul, Int.reduceToNat, sliceCells, cellsAt, srcA, app, reduceCtorEq, Int.reduceEq, Int.reduceNeg, Int.reducePow, Nat.reducePow, Int.reduceTDiv, Int.reduceDiv, Nat.reduceDiv, Nat.reduceMod, Int.reduceMod, Int.reduceTMod, ne_eq, subA, beq_iff_eq, unA, minA, maxA, eqFs, eqA1, beq_self_eq_true, Nat.reduceBEq]
          refine callQ.vc hS' ?_
          simp (config := { maxSteps := 4000000 }) (disch := omega) only [step, stepv, ev, okW, wl, wn, wp, aop, cV, cV1, ↓reduceIte, Nat.reduceEqDiff, Nat.reduceAdd, Int.cast_ofNat_Int, if_true, if_false, AV.one, repCells, fillA, partCells, Nat.reduceLT, Nat.reduceLeDiff, Nat.reduceMul, Nat.reduceSub, Int.reduceLT, Int.reduceLE, Int.reduceAdd, Int.reduceSub, Int.reduceMul, Int.reduceToNat, sliceCells, cellsAt, srcA, app, reduceCtorEq, Int.reduceEq, Int.reduceNeg, Int.reducePow, Nat.reducePow, Int.reduceTDiv, Int.reduceDiv, Nat.reduceDiv, Nat.reduceMod, Int.reduceMod, Int.reduceTMod, ne_eq, subA, beq_iff_eq, unA, minA, maxA, eqFs, eqA1, beq_self_eq_true, Nat.reduceBEq]
        · obtain rfl := fl (by omega)
          simp (config := { maxSteps := 4000000 }) (disch := omega) only [step, stepv, ev, okW, wl, wn, wp, aop, cV, cV1, ↓reduceIte, Nat.reduceEqDiff, Nat.reduceAdd, Int.cast_ofNat_Int, if_true, if_false, AV.one, repCells, fillA, partCells, Nat.reduceLT, Nat.reduceLeDiff, Nat.reduceMul, Nat.reduceSub, Int.reduceLT, Int.reduceLE, Int.reduceAdd, Int.reduceSub, Int.reduceMul, Int.reduceToNat, sliceCells, cellsAt, srcA, app, reduceCtorEq, Int.reduceEq, Int.reduceNeg, Int.reducePow, Nat.reducePow, Int.reduceTDiv, Int.reduceDiv, Nat.reduceDiv, Nat.reduceMod, Int.reduceMod, Int.reduceTMod, ne_eq, subA, beq_iff_eq, unA, minA, maxA, eqFs, eqA1, beq_self_eq_true, Nat.reduceBEq]
          refine callQ.vc hS' ?_
          simp (config := { maxSteps := 4000000 }) (disch := omega) only [step, stepv, ev, okW, wl, wn, wp, aop, cV, cV1, ↓reduceIte, Nat.reduceEqDiff, Nat.reduceAdd, Int.cast_ofNat_Int, if_true, if_false, AV.one, repCells, fillA, partCells, Nat.reduceLT, Nat.reduceLeDiff, Nat.reduceMul, Nat.reduceSub, Int.reduceLT, Int.reduceLE, Int.reduceAdd, Int.reduceSub, Int.reduceMul, Int.reduceToNat, sliceCells, cellsAt, srcA, app, reduceCtorEq, Int.reduceEq, Int.reduceNeg, Int.reducePow, Nat.reducePow, Int.reduceTDiv, Int.reduceDiv, Nat.reduceDiv, Nat.reduceMod, Int.reduceMod, Int.reduceTMod, ne_eq, subA, beq_iff_eq, unA, minA, maxA, eqFs, eqA1, beq_self_eq_true, Nat.reduceBEq]
          refine callQ.vc hS' ?_
          simp (config := { maxSteps := 4000000 }) (disch := omega) only [step, stepv, ev, okW, wl, wn, wp, aop, cV, cV1, ↓reduceIte, Nat.reduceEqDiff, Nat.reduceAdd, Int.cast_ofNat_Int, if_true, if_false, AV.one, repCells, fillA, partCells, Nat.reduceLT, Nat.reduceLeDiff, Nat.reduceMul, Nat.reduceSub, Int.reduceLT, Int.reduceLE, Int.reduceAdd, Int.reduceSub, Int.reduceMul, Int.reduceToNat, sliceCells, cellsAt, srcA, app, reduceCtorEq, Int.reduceEq, Int.reduceNeg, Int.reducePow, Nat.reducePow, Int.reduceTDiv, Int.reduceDiv, Nat.reduceDiv, Nat.reduceMod, Int.reduceMod, Int.reduceTMod, ne_eq, subA, beq_iff_eq, unA, minA, maxA, eqFs, eqA1, beq_self_eq_true, Nat.reduceBEq]
        · obtain rfl := fr (by omega)
          simp (config := { maxSteps := 4000000 }) (disch := omega) only [step, stepv, ev, okW, wl, wn, wp, aop, cV, cV1, ↓reduceIte, Nat.reduceEqDiff, Nat.reduceAdd, Int.cast_ofNat_Int, if_true, if_false, AV.one, repCells, fillA, partCells, Nat.reduceLT, Nat.reduceLeDiff, Nat.reduceMul, Nat.reduceSub, Int.reduceLT, Int.reduceLE, Int.reduceAdd, Int.reduceSub, Int.reduceMul, Int.reduceToNat, sliceCells, cellsAt, srcA, app, reduceCtorEq, Int.reduceEq, Int.reduceNeg, Int.reducePow, Nat.reducePow, Int.reduceTDiv, Int.reduceDiv, Nat.reduceDiv, Nat.reduceMod, Int.reduceMod, Int.reduceTMod, ne_eq, subA, beq_iff_eq, unA, minA, maxA, eqFs, eqA1, beq_self_eq_true, Nat.reduceBEq]
          refine callQ.vc hS' ?_
          simp (config := { maxSteps := 4000000 }) (disch := omega) only [step, stepv, ev, okW, wl, wn, wp, aop, cV, cV1, ↓reduceIte, Nat.reduceEqDiff, Nat.reduceAdd, Int.cast_ofNat_Int, if_true, if_false, AV.one, repCells, fillA, partCells, Nat.reduceLT, Nat.reduceLeDiff, Nat.reduceMul, Nat.reduceSub, Int.reduceLT, Int.reduceLE, Int.reduceAdd, Int.reduceSub, Int.reduceMul, Int.reduceToNat, sliceCells, cellsAt, srcA, app, reduceCtorEq, Int.reduceEq, Int.reduceNeg, Int.reducePow, Nat.reducePow, Int.reduceTDiv, Int.reduceDiv, Nat.reduceDiv, Nat.reduceMod, Int.reduceMod, Int.reduceTMod, ne_eq, subA, beq_iff_eq, unA, minA, maxA, eqFs, eqA1, beq_self_eq_true, Nat.reduceBEq]
          refine callQ.vc hS' ?_
          simp (config := { maxSteps := 4000000 }) (disch := omega) only [step, stepv, ev, okW, wl, wn, wp, aop, cV, cV1, ↓reduceIte, Nat.reduceEqDiff, Nat.reduceAdd, Int.cast_ofNat_Int, if_true, if_false, AV.one, repCells, fillA, partCells, Nat.reduceLT, Nat.reduceLeDiff, Nat.reduceMul, Nat.reduceSub, Int.reduceLT, Int.reduceLE, Int.reduceAdd, Int.reduceSub, Int.reduceMul, Int.reduceToNat, sliceCells, cellsAt, srcA, app, reduceCtorEq, Int.reduceEq, Int.reduceNeg, Int.reducePow, Nat.reducePow, Int.reduceTDiv, Int.reduceDiv, Nat.reduceDiv, Nat.reduceMod, Int.reduceMod, Int.reduceTMod, ne_eq, subA, beq_iff_eq, unA, minA, maxA, eqFs, eqA1, beq_self_eq_true, Nat.reduceBEq]
          refine callQ.vc hS' ?_
          simp (config := { maxSteps := 4000000 }) (disch := omega) only [step, stepv, ev, okW, wl, wn, wp, aop, cV, cV1, ↓reduceIte, Nat.reduceEqDiff, Nat.reduceAdd, Int.cast_ofNat_Int, if_true, if_false, AV.one, repCells, fillA, partCells, Nat.reduceLT, Nat.reduceLeDiff, Nat.reduceMul, Nat.reduceSub, Int.reduceLT, Int.reduceLE, Int.reduceAdd, Int.reduceSub, Int.reduceMul, Int.reduceToNat, sliceCells, cellsAt, srcA, app, reduceCtorEq, Int.reduceEq, Int.reduceNeg, Int.reducePow, Nat.reducePow, Int.reduceTDiv, Int.reduceDiv, Nat.reduceDiv, Nat.reduceMod, Int.reduceMod, Int.reduceTMod, ne_eq, subA, beq_iff_eq, unA, minA, maxA, eqFs, eqA1, beq_self_eq_true, Nat.reduceBEq]
        · obtain rfl := fl (by omega)
          simp (config := { maxSteps := 4000000 }) (disch := omega) only [step, stepv, ev, okW, wl, wn, wp, aop, cV, cV1, ↓reduceIte, Nat.reduceEqDiff, Nat.reduceAdd, Int.cast_ofNat_Int, if_true, if_false, AV.one, repCells, fillA, partCells, Nat.reduceLT, Nat.reduceLeDiff, Nat.reduceMul, Nat.reduceSub, Int.reduceLT, Int.reduceLE, Int.reduceAdd, Int.reduceSub, Int.reduceMul, Int.reduceToNat, sliceCells, cellsAt, srcA, app, reduceCtorEq, Int.reduceEq, Int.reduceNeg, Int.reducePow, Nat.reducePow, Int.reduceTDiv, Int.reduceDiv, Nat.reduceDiv, Nat.reduceMod, Int.reduceMod, Int.reduceTMod, ne_eq, subA, beq_iff_eq, unA, minA, maxA, eqFs, eqA1, beq_self_eq_true, Nat.reduceBEq]
          refine callQ.vc hS' ?_
          simp (config := { maxSteps := 4000000 }) (disch := omega) only [step, stepv, ev, okW, wl, wn, wp, aop, cV, cV1, ↓reduceIte, Nat.reduceEqDiff, Nat.reduceAdd, Int.cast_ofNat_Int, if_true, if_false, AV.one, repCells, fillA, partCells, Nat.reduceLT, Nat.reduceLeDiff, Nat.reduceMul, Nat.reduceSub, Int.reduceLT, Int.reduceLE, Int.reduceAdd, Int.reduceSub, Int.reduceMul, Int.reduceToNat, sliceCells, cellsAt, srcA, app, reduceCtorEq, Int.reduceEq, Int.reduceNeg, Int.reducePow, Nat.reducePow, Int.reduceTDiv, Int.reduceDiv, Nat.reduceDiv, Nat.reduceMod, Int.reduceMod, Int.reduceTMod, ne_eq, subA, beq_iff_eq, unA, minA, maxA, eqFs, eqA1, beq_self_eq_true, Nat.reduceBEq]
          refine callQ.vc hS' ?_
          simp (config := { maxSteps := 4000000 }) (disch := omega) only [step, stepv, ev, okW, wl, wn, wp, aop, cV, cV1, ↓reduceIte, Nat.reduceEqDiff, Nat.reduceAdd, Int.cast_ofNat_Int, if_true, if_false, AV.one, repCells, fillA, partCells, Nat.reduceLT, Nat.reduceLeDiff, Nat.reduceMul, Nat.reduceSub, Int.reduceLT, Int.reduceLE, Int.reduceAdd, Int.reduceSub, Int.reduceMul, Int.reduceToNat, sliceCells, cellsAt, srcA, app, reduceCtorEq, Int.reduceEq, Int.reduceNeg, Int.reducePow, Nat.reducePow, Int.reduceTDiv, Int.reduceDiv, Nat.reduceDiv, Nat.reduceMod, Int.reduceMod, Int.reduceTMod, ne_eq, subA, beq_iff_eq, unA, minA, maxA, eqFs, eqA1, beq_self_eq_true, Nat.reduceBEq]
          refine callQ.vc hS' ?_
          simp (config := { maxSteps := 4000000 }) (disch := omega) only [step, stepv, ev, okW, wl, wn, wp, aop, cV, cV1, ↓reduceIte, Nat.reduceEqDiff, Nat.reduceAdd, Int.cast_ofNat_Int, if_true, if_false, AV.one, repCells, fillA, partCells, Nat.reduceLT, Nat.reduceLeDiff, Nat.reduceMul, Nat.reduceSub, Int.reduceLT, Int.reduceLE, Int.reduceAdd, Int.reduceSub, Int.reduceMul, Int.reduceToNat, sliceCells, cellsAt, srcA, app, reduceCtorEq, Int.reduceEq, Int.reduceNeg, Int.reducePow, Nat.reducePow, Int.reduceTDiv, Int.reduceDiv, Nat.reduceDiv, Nat.reduceMod, Int.reduceMod, Int.reduceTMod, ne_eq, subA, beq_iff_eq, unA, minA, maxA, eqFs, eqA1, beq_self_eq_true, Nat.reduceBEq]

end Go.Am

namespace Go.Am
open Go.RowKit

def S_RiffWrites (P : Prg) (f : Nat) : Prop := ∀ (form : List UInt8) (l : List Ck) (id : List UInt8), VC P f [.str form, .list l.length (ckL l), .str id] (.bool true)

theorem bs_eq (a : List UInt8) : (a == a) = true := by simp

set_option maxHeartbeats 1000000 in
theorem law31_RiffWrites {P : Prg} {f fG fW gW fF gF fC gC : Nat} (b : Body P f 76 [.tmp 6] (ac_cadenzalaw31_RiffWrites fG fW gW fF gF fC gC)) (hG : S_Great31 P fG) (hW : S_Write P fW) (hW' : S_Write P gW) (hF : S_Find P fF) (hF' : S_Find P gF) (hC : S_Check P fC) (hC' : S_Check P gC) : S_RiffWrites P f := by
  intro form l id
  refine VC.of_acall (by simp [isDL, isD, isDL_ckL]) rfl (ACall.of_body b (by simp) ?_)
  simp (config := { maxSteps := 4000000 }) (disch := omega) only [step, stepv, ev, okW, wl, wn, wp, aop, cV, cV1, ↓reduceIte, Nat.reduceEqDiff, Nat.reduceAdd, Int.cast_ofNat_Int, if_true, if_false, AV.one, repCells, fillA, partCells, Nat.reduceLT, Nat.reduceLeDiff, Nat.reduceMul, Nat.reduceSub, Int.reduceLT, Int.reduceLE, Int.reduceAdd, Int.reduceSub, Int.reduceMul, Int.reduceToNat, sliceCells, cellsAt, srcA, app, reduceCtorEq, Int.reduceEq, Int.reduceNeg, Int.reducePow, Nat.reducePow, Int.reduceTDiv, Int.reduceDiv, Nat.reduceDiv, Nat.reduceMod, Int.reduceMod, Int.reduceTMod, ne_eq, subA, beq_iff_eq, unA, minA, maxA, eqFs, eqA1, beq_self_eq_true, Nat.reduceBEq, ac_cadenzalaw31_RiffWrites]
  by_cases hg : greatM form l
  · refine callQ.vc (hG form l true (by simp [hg])) ?_
    simp (config := { maxSteps := 4000000 }) (disch := omega) only [step, stepv, ev, okW, wl, wn, wp, aop, cV, cV1, ↓reduceIte, Nat.reduceEqDiff, Nat.reduceAdd, Int.cast_ofNat_Int, if_true, if_false, AV.one, repCells, fillA, partCells, Nat.reduceLT, Nat.reduceLeDiff, Nat.reduceMul, Nat.reduceSub, Int.reduceLT, Int.reduceLE, Int.reduceAdd, Int.reduceSub, Int.reduceMul, Int.reduceToNat, sliceCells, cellsAt, srcA, app, reduceCtorEq, Int.reduceEq, Int.reduceNeg, Int.reducePow, Nat.reducePow, Int.reduceTDiv, Int.reduceDiv, Nat.reduceDiv, Nat.reduceMod, Int.reduceMod, Int.reduceTMod, ne_eq, subA, beq_iff_eq, unA, minA, maxA, eqFs, eqA1, beq_self_eq_true, Nat.reduceBEq]
  · refine callQ.vc (hG form l false (by simp [hg])) ?_
    have hg' : form.length ≤ 20 ∧ okL l ∧ _ := Classical.not_not.1 hg
    obtain ⟨h1, h2, _⟩ := hg'
    have h25 := h2.1
    by_cases h100 : 100 < id.length
    · simp (config := { maxSteps := 4000000 }) (disch := omega) only [step, stepv, ev, okW, wl, wn, wp, aop, cV, cV1, ↓reduceIte, Nat.reduceEqDiff, Nat.reduceAdd, Int.cast_ofNat_Int, if_true, if_false, AV.one, repCells, fillA, partCells, Nat.reduceLT, Nat.reduceLeDiff, Nat.reduceMul, Nat.reduceSub, Int.reduceLT, Int.reduceLE, Int.reduceAdd, Int.reduceSub, Int.reduceMul, Int.reduceToNat, sliceCells, cellsAt, srcA, app, reduceCtorEq, Int.reduceEq, Int.reduceNeg, Int.reducePow, Nat.reducePow, Int.reduceTDiv, Int.reduceDiv, Nat.reduceDiv, Nat.reduceMod, Int.reduceMod, Int.reduceTMod, ne_eq, subA, beq_iff_eq, unA, minA, maxA, eqFs, eqA1, beq_self_eq_true, Nat.reduceBEq]
    · simp (config := { maxSteps := 4000000 }) (disch := omega) only [step, stepv, ev, okW, wl, wn, wp, aop, cV, cV1, ↓reduceIte, Nat.reduceEqDiff, Nat.reduceAdd, Int.cast_ofNat_Int, if_true, if_false, AV.one, repCells, fillA, partCells, Nat.reduceLT, Nat.reduceLeDiff, Nat.reduceMul, Nat.reduceSub, Int.reduceLT, Int.reduceLE, Int.reduceAdd, Int.reduceSub, Int.reduceMul, Int.reduceToNat, sliceCells, cellsAt, srcA, app, reduceCtorEq, Int.reduceEq, Int.reduceNeg, Int.reducePow, Nat.reducePow, Int.reduceTDiv, Int.reduceDiv, Nat.reduceDiv, Nat.reduceMod, Int.reduceMod, Int.reduceTMod, ne_eq, subA, beq_iff_eq, unA, minA, maxA, eqFs, eqA1, beq_self_eq_true, Nat.reduceBEq]
      refine callQ.vc (hW form l h1 h2) ?_
      by_cases h0 : checkM form l = 0
      · simp only [writeA, if_pos h0]
        simp (config := { maxSteps := 4000000 }) (disch := omega) only [step, stepv, ev, okW, wl, wn, wp, aop, cV, cV1, ↓reduceIte, Nat.reduceEqDiff, Nat.reduceAdd, Int.cast_ofNat_Int, if_true, if_false, AV.one, repCells, fillA, partCells, Nat.reduceLT, Nat.reduceLeDiff, Nat.reduceMul, Nat.reduceSub, Int.reduceLT, Int.reduceLE, Int.reduceAdd, Int.reduceSub, Int.reduceMul, Int.reduceToNat, sliceCells, cellsAt, srcA, app, reduceCtorEq, Int.reduceEq, Int.reduceNeg, Int.reducePow, Nat.reducePow, Int.reduceTDiv, Int.reduceDiv, Nat.reduceDiv, Nat.reduceMod, Int.reduceMod, Int.reduceTMod, ne_eq, subA, beq_iff_eq, unA, minA, maxA, eqFs, eqA1, beq_self_eq_true, Nat.reduceBEq, bs]
        refine callQ.vc (by have := hW' form l h1 h2; simp only [writeA, if_pos h0] at this; exact this) ?_
        simp (config := { maxSteps := 4000000 }) (disch := omega) only [step, stepv, ev, okW, wl, wn, wp, aop, cV, cV1, ↓reduceIte, Nat.reduceEqDiff, Nat.reduceAdd, Int.cast_ofNat_Int, if_true, if_false, AV.one, repCells, fillA, partCells, Nat.reduceLT, Nat.reduceLeDiff, Nat.reduceMul, Nat.reduceSub, Int.reduceLT, Int.reduceLE, Int.reduceAdd, Int.reduceSub, Int.reduceMul, Int.reduceToNat, sliceCells, cellsAt, srcA, app, reduceCtorEq, Int.reduceEq, Int.reduceNeg, Int.reducePow, Nat.reducePow, Int.reduceTDiv, Int.reduceDiv, Nat.reduceDiv, Nat.reduceMod, Int.reduceMod, Int.reduceTMod, ne_eq, subA, beq_iff_eq, unA, minA, maxA, eqFs, eqA1, beq_self_eq_true, Nat.reduceBEq, bs]
        refine callQ.vc (hF l id (by omega)) ?_
        cases hf : findM l id with
        | none =>
          simp (config := { maxSteps := 4000000 }) (disch := omega) only [step, stepv, ev, okW, wl, wn, wp, aop, cV, cV1, ↓reduceIte, Nat.reduceEqDiff, Nat.reduceAdd, Int.cast_ofNat_Int, if_true, if_false, AV.one, repCells, fillA, partCells, Nat.reduceLT, Nat.reduceLeDiff, Nat.reduceMul, Nat.reduceSub, Int.reduceLT, Int.reduceLE, Int.reduceAdd, Int.reduceSub, Int.reduceMul, Int.reduceToNat, sliceCells, cellsAt, srcA, app, reduceCtorEq, Int.reduceEq, Int.reduceNeg, Int.reducePow, Nat.reducePow, Int.reduceTDiv, Int.reduceDiv, Nat.reduceDiv, Nat.reduceMod, Int.reduceMod, Int.reduceTMod, ne_eq, subA, beq_iff_eq, unA, minA, maxA, eqFs, eqA1, beq_self_eq_true, Nat.reduceBEq, findA]
          refine callQ.vc (by have := hF' l id (by omega); rw [hf] at this; exact this) ?_
          simp (config := { maxSteps := 4000000 }) (disch := omega) only [step, stepv, ev, okW, wl, wn, wp, aop, cV, cV1, ↓reduceIte, Nat.reduceEqDiff, Nat.reduceAdd, Int.cast_ofNat_Int, if_true, if_false, AV.one, repCells, fillA, partCells, Nat.reduceLT, Nat.reduceLeDiff, Nat.reduceMul, Nat.reduceSub, Int.reduceLT, Int.reduceLE, Int.reduceAdd, Int.reduceSub, Int.reduceMul, Int.reduceToNat, sliceCells, cellsAt, srcA, app, reduceCtorEq, Int.reduceEq, Int.reduceNeg, Int.reducePow, Nat.reducePow, Int.reduceTDiv, Int.reduceDiv, Nat.reduceDiv, Nat.reduceMod, Int.reduceMod, Int.reduceTMod, ne_eq, subA, beq_iff_eq, unA, minA, maxA, eqFs, eqA1, beq_self_eq_true, Nat.reduceBEq, findA, strA, bs_eq]
          refine callQ.vc (hC form l h1 h2) ?_
          simp (config := { maxSteps := 4000000 }) (disch := omega) only [step, stepv, ev, okW, wl, wn, wp, aop, cV, cV1, ↓reduceIte, Nat.reduceEqDiff, Nat.reduceAdd, Int.cast_ofNat_Int, if_true, if_false, AV.one, repCells, fillA, partCells, Nat.reduceLT, Nat.reduceLeDiff, Nat.reduceMul, Nat.reduceSub, Int.reduceLT, Int.reduceLE, Int.reduceAdd, Int.reduceSub, Int.reduceMul, Int.reduceToNat, sliceCells, cellsAt, srcA, app, reduceCtorEq, Int.reduceEq, Int.reduceNeg, Int.reducePow, Nat.reducePow, Int.reduceTDiv, Int.reduceDiv, Nat.reduceDiv, Nat.reduceMod, Int.reduceMod, Int.reduceTMod, ne_eq, subA, beq_iff_eq, unA, minA, maxA, eqFs, eqA1, beq_self_eq_true, Nat.reduceBEq]
          refine callQ.vc (hC' form l h1 h2) ?_
          simp (config := { maxSteps := 4000000 }) (disch := omega) only [step, stepv, ev, okW, wl, wn, wp, aop, cV, cV1, ↓reduceIte, Nat.reduceEqDiff, Nat.reduceAdd, Int.cast_ofNat_Int, if_true, if_false, AV.one, repCells, fillA, partCells, Nat.reduceLT, Nat.reduceLeDiff, Nat.reduceMul, Nat.reduceSub, Int.reduceLT, Int.reduceLE, Int.reduceAdd, Int.reduceSub, Int.reduceMul, Int.reduceToNat, sliceCells, cellsAt, srcA, app, reduceCtorEq, Int.reduceEq, Int.reduceNeg, Int.reducePow, Nat.reducePow, Int.reduceTDiv, Int.reduceDiv, Nat.reduceDiv, Nat.reduceMod, Int.reduceMod, Int.reduceTMod, ne_eq, subA, beq_iff_eq, unA, minA, maxA, eqFs, eqA1, beq_self_eq_true, Nat.reduceBEq]
        | some i =>
          simp (config := { maxSteps := 4000000 }) (disch := omega) only [step, stepv, ev, okW, wl, wn, wp, aop, cV, cV1, ↓reduceIte, Nat.reduceEqDiff, Nat.reduceAdd, Int.cast_ofNat_Int, if_true, if_false, AV.one, repCells, fillA, partCells, Nat.reduceLT, Nat.reduceLeDiff, Nat.reduceMul, Nat.reduceSub, Int.reduceLT, Int.reduceLE, Int.reduceAdd, Int.reduceSub, Int.reduceMul, Int.reduceToNat, sliceCells, cellsAt, srcA, app, reduceCtorEq, Int.reduceEq, Int.reduceNeg, Int.reducePow, Nat.reducePow, Int.reduceTDiv, Int.reduceDiv, Nat.reduceDiv, Nat.reduceMod, Int.reduceMod, Int.reduceTMod, ne_eq, subA, beq_iff_eq, unA, minA, maxA, eqFs, eqA1, beq_self_eq_true, Nat.reduceBEq, findA]
          refine callQ.vc (by have := hF' l id (by omega); rw [hf] at this; exact this) ?_
          simp (config := { maxSteps := 4000000 }) (disch := omega) only [step, stepv, ev, okW, wl, wn, wp, aop, cV, cV1, ↓reduceIte, Nat.reduceEqDiff, Nat.reduceAdd, Int.cast_ofNat_Int, if_true, if_false, AV.one, repCells, fillA, partCells, Nat.reduceLT, Nat.reduceLeDiff, Nat.reduceMul, Nat.reduceSub, Int.reduceLT, Int.reduceLE, Int.reduceAdd, Int.reduceSub, Int.reduceMul, Int.reduceToNat, sliceCells, cellsAt, srcA, app, reduceCtorEq, Int.reduceEq, Int.reduceNeg, Int.reducePow, Nat.reducePow, Int.reduceTDiv, Int.reduceDiv, Nat.reduceDiv, Nat.reduceMod, Int.reduceMod, Int.reduceTMod, ne_eq, subA, beq_iff_eq, unA, minA, maxA, eqFs, eqA1, beq_self_eq_true, Nat.reduceBEq, findA, strA, bs_eq]
          refine callQ.vc (hC form l h1 h2) ?_
          simp (config := { maxSteps := 4000000 }) (disch := omega) only [step, stepv, ev, okW, wl, wn, wp, aop, cV, cV1, ↓reduceIte, Nat.reduceEqDiff, Nat.reduceAdd, Int.cast_ofNat_Int, if_true, if_false, AV.one, repCells, fillA, partCells, Nat.reduceLT, Nat.reduceLeDiff, Nat.reduceMul, Nat.reduceSub, Int.reduceLT, Int.reduceLE, Int.reduceAdd, Int.reduceSub, Int.reduceMul, Int.reduceToNat, sliceCells, cellsAt, srcA, app, reduceCtorEq, Int.reduceEq, Int.reduceNeg, Int.reducePow, Nat.reducePow, Int.reduceTDiv, Int.reduceDiv, Nat.reduceDiv, Nat.reduceMod, Int.reduceMod, Int.reduceTMod, ne_eq, subA, beq_iff_eq, unA, minA, maxA, eqFs, eqA1, beq_self_eq_true, Nat.reduceBEq]
          refine callQ.vc (hC' form l h1 h2) ?_
          simp (config := { maxSteps := 4000000 }) (disch := omega) only [step, stepv, ev, okW, wl, wn, wp, aop, cV, cV1, ↓reduceIte, Nat.reduceEqDiff, Nat.reduceAdd, Int.cast_ofNat_Int, if_true, if_false, AV.one, repCells, fillA, partCells, Nat.reduceLT, Nat.reduceLeDiff, Nat.reduceMul, Nat.reduceSub, Int.reduceLT, Int.reduceLE, Int.reduceAdd, Int.reduceSub, Int.reduceMul, Int.reduceToNat, sliceCells, cellsAt, srcA, app, reduceCtorEq, Int.reduceEq, Int.reduceNeg, Int.reducePow, Nat.reducePow, Int.reduceTDiv, Int.reduceDiv, Nat.reduceDiv, Nat.reduceMod, Int.reduceMod, Int.reduceTMod, ne_eq, subA, beq_iff_eq, unA, minA, maxA, eqFs, eqA1, beq_self_eq_true, Nat.reduceBEq]
      · simp only [writeA, if_neg h0]
        simp (config := { maxSteps := 4000000 }) (disch := omega) only [step, stepv, ev, okW, wl, wn, wp, aop, cV, cV1, ↓reduceIte, Nat.reduceEqDiff, Nat.reduceAdd, Int.cast_ofNat_Int, if_true, if_false, AV.one, repCells, fillA, partCells, Nat.reduceLT, Nat.reduceLeDiff, Nat.reduceMul, Nat.reduceSub, Int.reduceLT, Int.reduceLE, Int.reduceAdd, Int.reduceSub, Int.reduceMul, Int.reduceToNat, sliceCells, cellsAt, srcA, app, reduceCtorEq, Int.reduceEq, Int.reduceNeg, Int.reducePow, Nat.reducePow, Int.reduceTDiv, Int.reduceDiv, Nat.reduceDiv, Nat.reduceMod, Int.reduceMod, Int.reduceTMod, ne_eq, subA, beq_iff_eq, unA, minA, maxA, eqFs, eqA1, beq_self_eq_true, Nat.reduceBEq, bs]
        refine callQ.vc (by have := hW' form l h1 h2; simp only [writeA, if_neg h0] at this; exact this) ?_
        simp (config := { maxSteps := 4000000 }) (disch := omega) only [step, stepv, ev, okW, wl, wn, wp, aop, cV, cV1, ↓reduceIte, Nat.reduceEqDiff, Nat.reduceAdd, Int.cast_ofNat_Int, if_true, if_false, AV.one, repCells, fillA, partCells, Nat.reduceLT, Nat.reduceLeDiff, Nat.reduceMul, Nat.reduceSub, Int.reduceLT, Int.reduceLE, Int.reduceAdd, Int.reduceSub, Int.reduceMul, Int.reduceToNat, sliceCells, cellsAt, srcA, app, reduceCtorEq, Int.reduceEq, Int.reduceNeg, Int.reducePow, Nat.reducePow, Int.reduceTDiv, Int.reduceDiv, Nat.reduceDiv, Nat.reduceMod, Int.reduceMod, Int.reduceTMod, ne_eq, subA, beq_iff_eq, unA, minA, maxA, eqFs, eqA1, beq_self_eq_true, Nat.reduceBEq, bs]
        refine callQ.vc (hF l id (by omega)) ?_
        cases hf : findM l id with
        | none =>
          simp (config := { maxSteps := 4000000 }) (disch := omega) only [step, stepv, ev, okW, wl, wn, wp, aop, cV, cV1, ↓reduceIte, Nat.reduceEqDiff, Nat.reduceAdd, Int.cast_ofNat_Int, if_true, if_false, AV.one, repCells, fillA, partCells, Nat.reduceLT, Nat.reduceLeDiff, Nat.reduceMul, Nat.reduceSub, Int.reduceLT, Int.reduceLE, Int.reduceAdd, Int.reduceSub, Int.reduceMul, Int.reduceToNat, sliceCells, cellsAt, srcA, app, reduceCtorEq, Int.reduceEq, Int.reduceNeg, Int.reducePow, Nat.reducePow, Int.reduceTDiv, Int.reduceDiv, Nat.reduceDiv, Nat.reduceMod, Int.reduceMod, Int.reduceTMod, ne_eq, subA, beq_iff_eq, unA, minA, maxA, eqFs, eqA1, beq_self_eq_true, Nat.reduceBEq, findA]
          refine callQ.vc (by have := hF' l id (by omega); rw [hf] at this; exact this) ?_
          simp (config := { maxSteps := 4000000 }) (disch := omega) only [step, stepv, ev, okW, wl, wn, wp, aop, cV, cV1, ↓reduceIte, Nat.reduceEqDiff, Nat.reduceAdd, Int.cast_ofNat_Int, if_true, if_false, AV.one, repCells, fillA, partCells, Nat.reduceLT, Nat.reduceLeDiff, Nat.reduceMul, Nat.reduceSub, Int.reduceLT, Int.reduceLE, Int.reduceAdd, Int.reduceSub, Int.reduceMul, Int.reduceToNat, sliceCells, cellsAt, srcA, app, reduceCtorEq, Int.reduceEq, Int.reduceNeg, Int.reducePow, Nat.reducePow, Int.reduceTDiv, Int.reduceDiv, Nat.reduceDiv, Nat.reduceMod, Int.reduceMod, Int.reduceTMod, ne_eq, subA, beq_iff_eq, unA, minA, maxA, eqFs, eqA1, beq_self_eq_true, Nat.reduceBEq, findA, strA, bs_eq]
          refine callQ.vc (hC form l h1 h2) ?_
          simp (config := { maxSteps := 4000000 }) (disch := omega) only [step, stepv, ev, okW, wl, wn, wp, aop, cV, cV1, ↓reduceIte, Nat.reduceEqDiff, Nat.reduceAdd, Int.cast_ofNat_Int, if_true, if_false, AV.one, repCells, fillA, partCells, Nat.reduceLT, Nat.reduceLeDiff, Nat.reduceMul, Nat.reduceSub, Int.reduceLT, Int.reduceLE, Int.reduceAdd, Int.reduceSub, Int.reduceMul, Int.reduceToNat, sliceCells, cellsAt, srcA, app, reduceCtorEq, Int.reduceEq, Int.reduceNeg, Int.reducePow, Nat.reducePow, Int.reduceTDiv, Int.reduceDiv, Nat.reduceDiv, Nat.reduceMod, Int.reduceMod, Int.reduceTMod, ne_eq, subA, beq_iff_eq, unA, minA, maxA, eqFs, eqA1, beq_self_eq_true, Nat.reduceBEq]
          refine callQ.vc (hC' form l h1 h2) ?_
          simp (config := { maxSteps := 4000000 }) (disch := omega) only [step, stepv, ev, okW, wl, wn, wp, aop, cV, cV1, ↓reduceIte, Nat.reduceEqDiff, Nat.reduceAdd, Int.cast_ofNat_Int, if_true, if_false, AV.one, repCells, fillA, partCells, Nat.reduceLT, Nat.reduceLeDiff, Nat.reduceMul, Nat.reduceSub, Int.reduceLT, Int.reduceLE, Int.reduceAdd, Int.reduceSub, Int.reduceMul, Int.reduceToNat, sliceCells, cellsAt, srcA, app, reduceCtorEq, Int.reduceEq, Int.reduceNeg, Int.reducePow, Nat.reducePow, Int.reduceTDiv, Int.reduceDiv, Nat.reduceDiv, Nat.reduceMod, Int.reduceMod, Int.reduceTMod, ne_eq, subA, beq_iff_eq, unA, minA, maxA, eqFs, eqA1, beq_self_eq_true, Nat.reduceBEq]
        | some i =>
          simp (config := { maxSteps := 4000000 }) (disch := omega) only [step, stepv, ev, okW, wl, wn, wp, aop, cV, cV1, ↓reduceIte, Nat.reduceEqDiff, Nat.reduceAdd, Int.cast_ofNat_Int, if_true, if_false, AV.one, repCells, fillA, partCells, Nat.reduceLT, Nat.reduceLeDiff, Nat.reduceMul, Nat.reduceSub, Int.reduceLT, Int.reduceLE, Int.reduceAdd, Int.reduceSub, Int.reduceMul, Int.reduceToNat, sliceCells, cellsAt, srcA, app, reduceCtorEq, Int.reduceEq, Int.reduceNeg, Int.reducePow, Nat.reducePow, Int.reduceTDiv, Int.reduceDiv, Nat.reduceDiv, Nat.reduceMod, Int.reduceMod, Int.reduceTMod, ne_eq, subA, beq_iff_eq, unA, minA, maxA, eqFs, eqA1, beq_self_eq_true, Nat.reduceBEq, findA]
          refine callQ.vc (by have := hF' l id (by omega); rw [hf] at this; exact this) ?_
          simp (config := { maxSteps := 4000000 }) (disch := omega) only [step, stepv, ev, okW, wl, wn, wp, aop, cV, cV1, ↓reduceIte, Nat.reduceEqDiff, Nat.reduceAdd, Int.cast_ofNat_Int, if_true, if_false, AV.one, repCells, fillA, partCells, Nat.reduceLT, Nat.reduceLeDiff, Nat.reduceMul, Nat.reduceSub, Int.reduceLT, Int.reduceLE, Int.reduceAdd, Int.reduceSub, Int.reduceMul, Int.reduceToNat, sliceCells, cellsAt, srcA, app, reduceCtorEq, Int.reduceEq, Int.reduceNeg, Int.reducePow, Nat.reducePow, Int.reduceTDiv, Int.reduceDiv, Nat.reduceDiv, Nat.reduceMod, Int.reduceMod, Int.reduceTMod, ne_eq, subA, beq_iff_eq, unA, minA, maxA, eqFs, eqA1, beq_self_eq_true, Nat.reduceBEq, findA, strA, bs_eq]
          refine callQ.vc (hC form l h1 h2) ?_
          simp (config := { maxSteps := 4000000 }) (disch := omega) only [step, stepv, ev, okW, wl, wn, wp, aop, cV, cV1, ↓reduceIte, Nat.reduceEqDiff, Nat.reduceAdd, Int.cast_ofNat_Int, if_true, if_false, AV.one, repCells, fillA, partCells, Nat.reduceLT, Nat.reduceLeDiff, Nat.reduceMul, Nat.reduceSub, Int.reduceLT, Int.reduceLE, Int.reduceAdd, Int.reduceSub, Int.reduceMul, Int.reduceToNat, sliceCells, cellsAt, srcA, app, reduceCtorEq, Int.reduceEq, Int.reduceNeg, Int.reducePow, Nat.reducePow, Int.reduceTDiv, Int.reduceDiv, Nat.reduceDiv, Nat.reduceMod, Int.reduceMod, Int.reduceTMod, ne_eq, subA, beq_iff_eq, unA, minA, maxA, eqFs, eqA1, beq_self_eq_true, Nat.reduceBEq]
          refine callQ.vc (hC' form l h1 h2) ?_
          simp (config := { maxSteps := 4000000 }) (disch := omega) only [step, stepv, ev, okW, wl, wn, wp, aop, cV, cV1, ↓reduceIte, Nat.reduceEqDiff, Nat.reduceAdd, Int.cast_ofNat_Int, if_true, if_false, AV.one, repCells, fillA, partCells, Nat.reduceLT, Nat.reduceLeDiff, Nat.reduceMul, Nat.reduceSub, Int.reduceLT, Int.reduceLE, Int.reduceAdd, Int.reduceSub, Int.reduceMul, Int.reduceToNat, sliceCells, cellsAt, srcA, app, reduceCtorEq, Int.reduceEq, Int.reduceNeg, Int.reducePow, Nat.reducePow, Int.reduceTDiv, Int.reduceDiv, Nat.reduceDiv, Nat.reduceMod, Int.reduceMod, Int.reduceTMod, ne_eq, subA, beq_iff_eq, unA, minA, maxA, eqFs, eqA1, beq_self_eq_true, Nat.reduceBEq]

end Go.Am

namespace Go.Am
open Go.RowKit

theorem flatten_one {α : Type} (f : α → AV) : ∀ l : List α, (l.map fun x => [f x]).flatten = l.map f
  | [] => rfl
  | x :: l => by simp [flatten_one f l]

theorem fits_u8s {L : List (List AV)} (h : ∀ c ∈ L, Fits (.int .u8) c) : ∃ l : List UInt8, L.length = l.length ∧ AV.list L.length L.flatten = bs l := by
  obtain ⟨l, rfl, _⟩ := map_of_all (f := fun b : UInt8 => [AV.int .u8 b.toNat]) (q := fun _ => True) h (fun c hc => by
    simp only [Fits] at hc
    obtain ⟨n, rfl, h1, h2⟩ := hc
    simp only [IntKind.min, IntKind.max, IntKind.signed, IntKind.bits] at h1 h2
    refine ⟨UInt8.ofNat n.toNat, ?_, trivial⟩
    simp at h1 h2
    simp; omega)
  exact ⟨l, by simp, by simp [bs, u8, flatten_one]⟩

theorem fits_ints {K : IntKind} {L : List (List AV)} (h : ∀ c ∈ L, Fits (.int K) c) : ∃ l : List Int, L.length = l.length ∧ AV.list L.length L.flatten = .list l.length (ks K l) ∧ ∀ x ∈ l, K.min ≤ x ∧ x ≤ K.max := by
  obtain ⟨l, rfl, h2⟩ := map_of_all (f := fun n : Int => [AV.int K n]) (q := fun x => K.min ≤ x ∧ x ≤ K.max) h (fun c hc => by
    simp only [Fits] at hc
    obtain ⟨n, rfl, h1, h2⟩ := hc
    exact ⟨n, rfl, h1, h2⟩)
  exact ⟨l, by simp, by simp [ks, flatten_one], h2⟩

def isStr (P : Program) (t : TypeId) : Bool := match P.underlying t with | some (.struct _) => true | _ => false
def isArr (P : Program) (t : TypeId) : Bool := match P.underlying t with | some (.array _ _) => true | _ => false
def isSl (P : Program) (t : TypeId) : Bool := match P.underlying t with | some (.slice _) => true | _ => false
theorem isStr_eq {P : Program} {t : TypeId} (h : isStr P t = true) : ∃ fs, P.underlying t = some (.struct fs) := by
  unfold isStr at h; split at h
  · exact ⟨_, by assumption⟩
  · cases h
theorem isArr_eq {P : Program} {t : TypeId} (h : isArr P t = true) : ∃ n e, P.underlying t = some (.array n e) := by
  unfold isArr at h; split at h
  · exact ⟨_, _, by assumption⟩
  · cases h
theorem isSl_eq {P : Program} {t : TypeId} (h : isSl P t = true) : ∃ e, P.underlying t = some (.slice e) := by
  unfold isSl at h; split at h
  · exact ⟨_, by assumption⟩
  · cases h

end Go.Am

namespace Go.Am
open Go.RowKit

/-! ### Lists of chunks as arguments -/

def ckSh : Sh := .tuple [.str, .slice (.int .u8)]

theorem flat_ck : ∀ l : List Ck, (l.map fun c => [AV.str c.1, bs c.2]).flatten = ckL l
  | [] => rfl
  | c :: l => by simp [ckL, flat_ck l]

theorem fits_cks {L : List (List AV)} (h : ∀ c ∈ L, Fits ckSh c) : ∃ l : List Ck, L.length = l.length ∧ AV.list L.length L.flatten = .list l.length (ckL l) ∧ ∀ c ∈ l, c.1.length ≤ maxLen ∧ c.2.length ≤ maxLen := by
  obtain ⟨l, rfl, h2⟩ := map_of_all (f := fun c : Ck => [AV.str c.1, bs c.2]) (q := fun c => c.1.length ≤ maxLen ∧ c.2.length ≤ maxLen) h (fun c hc => by
    simp only [ckSh, Fits, FitsL] at hc
    obtain ⟨_, _, rfl, ⟨s, rfl, hs⟩, _, _, rfl, ⟨L', rfl, h1, h2⟩, rfl⟩ := hc
    obtain ⟨l, h3, h4⟩ := fits_u8s (L := L') (fun c hc => by simp only [Fits]; exact h2 c hc)
    exact ⟨(s, l), by simp [h4], hs, by simp only; omega⟩)
  exact ⟨l, by simp, by simp [flat_ck], h2⟩
theorem wf_le {k : IntKind} {n : Int} (h : (Lit.int k n).wf = true) : k.min ≤ n ∧ n ≤ k.max := by
  simpa [Lit.wf] using h
end Go.Am

namespace Go.Am
open Go.RowKit

/-! ### Read is what was written: without a program -/

theorem leN_leB : ∀ (k n : Nat), n < 256 ^ k → leN (leB n k) = n
  | 0, n, h => by simp at h; subst h; rfl
  | k + 1, n, h => by
    have h1 : n / 256 < 256 ^ k := by rw [Nat.pow_succ] at h; exact Nat.div_lt_of_lt_mul (by omega)
    have h2 : (UInt8.ofNat (n % 256)).toNat = n % 256 := by simp
    simp only [leB, leN, leN_leB k _ h1, h2]
    omega

theorem leB_leN : ∀ l : List UInt8, leB (leN l) l.length = l
  | [] => rfl
  | b :: l => by
    have h1 := b.toNat_lt
    have e1 : (b.toNat + 256 * leN l) % 256 = b.toNat := by omega
    have e2 : (b.toNat + 256 * leN l) / 256 = leN l := by omega
    simp only [leN, List.length_cons, leB, e1, e2, leB_leN l]
    simp

theorem name4 {s : List UInt8} (h : nameB s = true) : s.length = 4 := by
  simp only [nameB, Bool.and_eq_true, beq_iff_eq] at h; exact h.2

theorem nextM_ck {c : Ck} (hn : nameB c.1 = true) (hl : c.2.length < 4294967296) (r : List UInt8) : nextM (ckB c ++ r) = some (c, r) := by
  have h4 := name4 hn
  obtain ⟨s, d⟩ := c
  simp only at hn hl h4
  generalize hm : d.length = m at hl
  have hB := leB_length 4 m
  have e0 : ckB (s, d) ++ r = s ++ (leB m 4 ++ (d ++ (List.replicate (m % 2) 0 ++ r))) := by simp [ckB, List.append_assoc, hm]
  rw [e0]
  have t1 : (s ++ (leB m 4 ++ (d ++ (List.replicate (m % 2) 0 ++ r)))).take 4 = s := List.take_left' h4
  have t2 : (s ++ (leB m 4 ++ (d ++ (List.replicate (m % 2) 0 ++ r)))).drop 4 = leB m 4 ++ (d ++ (List.replicate (m % 2) 0 ++ r)) := List.drop_left' h4
  have t3 : (leB m 4 ++ (d ++ (List.replicate (m % 2) 0 ++ r))).take 4 = leB m 4 := List.take_left' hB
  have t4 : (s ++ (leB m 4 ++ (d ++ (List.replicate (m % 2) 0 ++ r)))).drop 8 = d ++ (List.replicate (m % 2) 0 ++ r) := by
    rw [show 8 = 4 + 4 by rfl, ← List.drop_drop, t2, List.drop_left' hB]
  have t5 : ∀ j, (s ++ (leB m 4 ++ (d ++ (List.replicate (m % 2) 0 ++ r)))).drop (8 + m + j) = (List.replicate (m % 2) 0 ++ r).drop j := fun j => by
    rw [show 8 + m + j = 8 + (m + j) by omega, ← List.drop_drop, t4, ← List.drop_drop, List.drop_left' hm]
  have tl : (s ++ (leB m 4 ++ (d ++ (List.replicate (m % 2) 0 ++ r)))).length = 8 + m + (m % 2 + r.length) := by simp [hB, hm, h4]; omega
  unfold nextM
  rw [t1, t2, t3, leN_leB 4 m (by omega), tl, t4]
  rw [if_neg (by rintro (h | h); omega; rw [hn] at h; cases h)]
  simp only
  rw [if_neg (by omega), List.take_left' hm]
  by_cases hodd : m % 2 = 1
  · have g0 : (s ++ (leB m 4 ++ (d ++ (List.replicate (m % 2) 0 ++ r)))).getD (8 + m) 0 = 0 := by
      have := congrArg (·[0]?) (t5 0)
      simp only [List.getElem?_drop, Nat.add_zero, List.drop_zero] at this
      rw [List.getD_eq_getElem?_getD, this, hodd]
      rfl
    rw [if_pos hodd, if_neg (by rintro (h | h); omega; exact h g0), show 9 + m = 8 + m + 1 by omega, t5 1, hodd]
    rfl
  · have h0 : m % 2 = 0 := by omega
    have := t5 0
    rw [Nat.add_zero] at this
    rw [if_neg hodd, this, h0]
    rfl

theorem nextM_inv {l r : List UInt8} {c : Ck} (h : nextM l = some (c, r)) : l = ckB c ++ r ∧ nameB c.1 = true ∧ c.2.length < 4294967296 := by
  unfold nextM at h
  split at h
  · cases h
  rename_i h0
  have h8 : 8 ≤ l.length := by
    rcases Nat.lt_or_ge l.length 8 with h' | h'
    · exact absurd (.inl h') h0
    · exact h'
  have hn : nameB (l.take 4) = true := by
    cases hb : nameB (l.take 4) with
    | true => rfl
    | false => exact absurd (.inr hb) h0
  simp only at h
  generalize hm : leN ((l.drop 4).take 4) = m at h
  have hB : (l.drop 4).take 4 = leB m 4 := by
    have := leB_leN ((l.drop 4).take 4)
    rw [hm, len_at (by omega)] at this
    exact this.symm
  have hm4 : m < 4294967296 := by
    have := leN_lt ((l.drop 4).take 4)
    rw [hm, len_at (by omega)] at this
    exact this
  split at h
  · cases h
  rename_i hs
  have d1 : ((l.drop 8).take m).length = m := by simp; omega
  have key : l = l.take 4 ++ ((l.drop 4).take 4 ++ ((l.drop 8).take m ++ l.drop (8 + m))) := by
    conv => lhs; rw [← List.take_append_drop 4 l]
    congr 1
    conv => lhs; rw [← List.take_append_drop 4 (l.drop 4)]
    congr 1
    rw [List.drop_drop]
    conv => lhs; rw [← List.take_append_drop m (l.drop 8)]
    congr 1
    rw [List.drop_drop]
  split at h
  · rename_i hodd
    split at h
    · cases h
    rename_i hz
    cases h
    refine ⟨?_, hn, by simp only [d1]; exact hm4⟩
    have hlen : 8 + m < l.length := by
      rcases Nat.lt_or_ge (8 + m) l.length with h' | h'
      · exact h'
      · exact absurd (.inl (by omega)) hz
    have hz0 : l[8 + m] = 0 := by
      by_cases h' : l.getD (8 + m) 0 = 0
      · rwa [List.getD_eq_getElem?_getD, List.getElem?_eq_getElem hlen] at h'
      · exact absurd (.inr h') hz
    have e : l.drop (8 + m) = 0 :: l.drop (9 + m) := by
      rw [List.drop_eq_getElem_cons hlen, hz0, show 8 + m + 1 = 9 + m by omega]
    simp only [ckB, d1, hodd]
    rw [e, hB] at key
    simpa [List.append_assoc] using key
  · rename_i hodd
    cases h
    refine ⟨?_, hn, by simp only [d1]; exact hm4⟩
    have h0 : m % 2 = 0 := by omega
    simp only [ckB, d1, h0]
    rw [hB] at key
    simpa [List.append_assoc] using key

def goodL (l : List Ck) : Prop := ∀ c ∈ l, nameB c.1 = true ∧ c.2.length < 4294967296

theorem chunksM_flat : ∀ (l : List Ck) (k : Nat) (out : List Ck), goodL l → out.length + l.length ≤ 20 → l.length < k → chunksM k out (l.flatMap ckB) = .inr (out ++ l)
  | [], k + 1, out, _, _, _ => by simp [chunksM]
  | c :: l, k + 1, out, hg, h20, hk => by
    obtain ⟨h1, h2⟩ := hg c (by simp)
    have h4 := name4 h1
    have hne : ckB c ++ l.flatMap ckB ≠ [] := by
      intro h
      have := congrArg List.length h
      rw [List.length_append, ckB_length] at this
      simp at this
      try omega
    simp only [List.flatMap_cons, chunksM, if_neg hne]
    simp only [List.length_cons] at h20
    rw [if_neg (by omega), nextM_ck h1 h2]
    simp only
    rw [chunksM_flat l k (out ++ [c]) (fun x hx => hg x (by simp [hx])) (by simp; omega) (by simp at hk; omega)]
    simp

theorem chunksM_inv : ∀ (k : Nat) (out : List Ck) (rest : List UInt8) (r : List Ck), chunksM k out rest = .inr r → out.length ≤ 20 → ∃ l, r = out ++ l ∧ rest = l.flatMap ckB ∧ goodL l ∧ r.length ≤ 20
  | 0, _, _, _, h, _ => by simp [chunksM] at h
  | k + 1, out, rest, r, h, hl => by
    simp only [chunksM] at h
    split at h
    · rename_i he
      cases h
      exact ⟨[], by simp, by simp [he], (fun x hx => by cases hx), hl⟩
    · split at h
      · cases h
      rename_i h20
      split at h
      · cases h
      · rename_i c left hnx
        obtain ⟨e1, e2, e3⟩ := nextM_inv hnx
        obtain ⟨l, q1, q2, q3, q4⟩ := chunksM_inv k _ _ _ h (by simp; omega)
        refine ⟨c :: l, by rw [q1]; simp, by rw [e1, q2]; simp, fun x hx => ?_, q4⟩
        rcases List.mem_cons.1 hx with rfl | hx
        · exact ⟨e2, e3⟩
        · exact q3 x hx

theorem flat_sz : ∀ {l : List Ck}, (∀ c ∈ l, c.1.length = 4) → (l.flatMap ckB).length = szL l
  | [], _ => rfl
  | c :: l, h => by
    have h1 := h c (by simp)
    have h2 := flat_sz (l := l) fun x hx => h x (by simp [hx])
    have h3 : szL (c :: l) = szC c + szL l := by simp [szL]
    simp only [List.flatMap_cons, List.length_append, ckB_length, h2, h3, szC]
    omega

theorem sz_mem : ∀ {l : List Ck} {c : Ck}, c ∈ l → szC c ≤ szL l
  | x :: l, c, h => by
    have e : szL (x :: l) = szC x + szL l := by simp [szL]
    rcases List.mem_cons.1 h with rfl | h
    · omega
    · have := sz_mem h; omega

theorem len_sz : ∀ l : List Ck, l.length * 8 ≤ szL l
  | [] => by simp [szL]
  | x :: l => by
    have e : szL (x :: l) = szC x + szL l := by simp [szL]
    have := len_sz l
    simp only [List.length_cons, e, szC]
    omega

theorem bytesM_length {form : List UInt8} {l : List Ck} (hf : form.length = 4) (hl : ∀ c ∈ l, c.1.length = 4) : (bytesM form l).length = 12 + szL l := by
  simp only [bytesM, List.length_append, leB_length, flat_sz hl, riffW, List.length_cons, List.length_nil, hf]

/-- What a written RIFF reads as, with more behind it. -/
theorem readM_written {form : List UInt8} {l : List Ck} (h0 : checkM form l = 0) (x : List UInt8) (hsz : 12 + szL l ≤ 100000) :
    readM (bytesM form l ++ x) = if x = [] then .inr (form, l) else .inl 38 := by
  have hc : l.length ≤ 20 ∧ nameB form = true ∧ ∀ c ∈ l, nameB c.1 = true := by
    unfold checkM at h0
    split at h0
    · cases h0
    · rename_i h20
      split at h0
      · cases h0
      · rename_i hn
        refine ⟨by omega, ?_, fun c hc => ?_⟩
        · cases hb : nameB form with
          | true => rfl
          | false => exact absurd (.inl hb) hn
        · cases hb : nameB c.1 with
          | true => rfl
          | false => exact absurd (.inr (.inr (List.any_eq_true.2 ⟨c, hc, by simp [hb]⟩))) hn
  obtain ⟨h20, hf, hns⟩ := hc
  have hf4 := name4 hf
  have hg : goodL l := fun c hc => ⟨hns c hc, by
    have : szC c ≤ szL l := by
      exact sz_mem hc
    simp only [szC] at this
    omega⟩
  have hbl := bytesM_length hf4 fun c hc => name4 (hns c hc)
  have hfl := flat_sz (l := l) fun c hc => name4 (hns c hc)
  have hm4 : 4 + szL l < 256 ^ 4 := by omega
  generalize hm : 4 + szL l = m at hm4
  have e0 : bytesM form l ++ x = riffW ++ (leB m 4 ++ (form ++ (l.flatMap ckB ++ x))) := by simp [bytesM, List.append_assoc, hm]
  have hB := leB_length 4 m
  have r4 : riffW.length = 4 := rfl
  have t1 : (riffW ++ (leB m 4 ++ (form ++ (l.flatMap ckB ++ x)))).take 4 = riffW := List.take_left' r4
  have t2 : (riffW ++ (leB m 4 ++ (form ++ (l.flatMap ckB ++ x)))).drop 4 = leB m 4 ++ (form ++ (l.flatMap ckB ++ x)) := List.drop_left' r4
  have t3 : (leB m 4 ++ (form ++ (l.flatMap ckB ++ x))).take 4 = leB m 4 := List.take_left' hB
  have t4 : (riffW ++ (leB m 4 ++ (form ++ (l.flatMap ckB ++ x)))).drop 8 = form ++ (l.flatMap ckB ++ x) := by
    rw [show 8 = 4 + 4 by rfl, ← List.drop_drop, t2, List.drop_left' hB]
  have t5 : (riffW ++ (leB m 4 ++ (form ++ (l.flatMap ckB ++ x)))).drop 12 = l.flatMap ckB ++ x := by
    rw [show 12 = 8 + 4 by rfl, ← List.drop_drop, t4, List.drop_left' hf4]
  have t6 : (form ++ (l.flatMap ckB ++ x)).take 4 = form := List.take_left' hf4
  have t7 : (l.flatMap ckB ++ x).take (m - 4) = l.flatMap ckB := List.take_left' (by omega)
  have tl : (riffW ++ (leB m 4 ++ (form ++ (l.flatMap ckB ++ x)))).length = m + 8 + x.length := by simp [hB, r4, hf4, hfl]; omega
  rw [e0]
  unfold readM
  rw [tl, t1, t2, t3, t4, t5, t6, leN_leB 4 m hm4]
  rw [if_neg (by omega)]
  simp only
  rw [if_neg (by rintro (h | h | h); exact h rfl; rw [hf] at h; cases h; omega), if_neg (by omega), if_neg (by omega)]
  rw [t7, chunksM_flat l (m + 1) [] hg (by simp; omega) (by have := len_sz l; omega)]
  simp only [List.nil_append]
  by_cases hx : x = []
  · subst hx; simp
  · have : 0 < x.length := List.length_pos_iff.2 hx
    rw [if_pos (by omega), if_neg hx]

/-- A written RIFF that is cut. -/
theorem readM_cut {form : List UInt8} {l : List Ck} (h0 : checkM form l = 0) (hsz : 12 + szL l ≤ 100000) {at_ : Nat} (ha : at_ < (bytesM form l).length) : readM ((bytesM form l).take at_) = .inl 24 := by
  have hc : nameB form = true ∧ ∀ c ∈ l, nameB c.1 = true := by
    unfold checkM at h0
    split at h0
    · cases h0
    · split at h0
      · cases h0
      · rename_i hn
        refine ⟨?_, fun c hc => ?_⟩
        · cases hb : nameB form with
          | true => rfl
          | false => exact absurd (.inl hb) hn
        · cases hb : nameB c.1 with
          | true => rfl
          | false => exact absurd (.inr (.inr (List.any_eq_true.2 ⟨c, hc, by simp [hb]⟩))) hn
  obtain ⟨hf, hns⟩ := hc
  have hf4 := name4 hf
  have hbl := bytesM_length hf4 fun c hc => name4 (hns c hc)
  generalize hb : bytesM form l = b at *
  have hl : (b.take at_).length = at_ := by simp; omega
  unfold readM
  rw [hl]
  by_cases h12 : at_ < 12
  · rw [if_pos h12]
  · rw [if_neg h12]
    have hm4 : 4 + szL l < 256 ^ 4 := by omega
    have r4 : riffW.length = 4 := rfl
    have hB := leB_length 4 (4 + szL l)
    have e0 : b = riffW ++ (leB (4 + szL l) 4 ++ (form ++ l.flatMap ckB)) := by rw [← hb]; simp [bytesM, List.append_assoc]
    have u : ∀ i n, i + n ≤ at_ → ((b.take at_).drop i).take n = (b.drop i).take n := fun i n h => by
      rw [List.drop_take, List.take_take, Nat.min_eq_left (by omega)]
    have t1 : (b.take at_).take 4 = riffW := by
      have := u 0 4 (by omega)
      simp only [List.drop_zero] at this
      rw [this, e0, List.take_left' r4]
    have t2 : ((b.take at_).drop 4).take 4 = leB (4 + szL l) 4 := by
      rw [u 4 4 (by omega), e0, List.drop_left' r4, List.take_left' hB]
    have t3 : ((b.take at_).drop 8).take 4 = form := by
      rw [u 8 4 (by omega), e0, show 8 = 4 + 4 by rfl, ← List.drop_drop, List.drop_left' r4, List.drop_left' hB, List.take_left' hf4]
    simp only [t1, t2, t3, leN_leB 4 _ hm4]
    rw [if_neg (by rintro (h | h | h); exact h rfl; rw [hf] at h; cases h; omega), if_neg (by omega), if_pos (by omega)]

/-- What is read, written again. -/
theorem readM_back {b form : List UInt8} {l : List Ck} (h : readM b = .inr (form, l)) : bytesM form l = b ∧ checkM form l = 0 ∧ l.length ≤ 20 ∧ goodL l ∧ 12 + szL l = b.length ∧ b.length ≤ 100000 ∧ form.length = 4 ∧ 12 ≤ b.length ∧ leN ((b.drop 4).take 4) + 8 = b.length := by
  unfold readM at h
  split at h
  · cases h
  rename_i h12
  simp only at h
  generalize hm : leN ((b.drop 4).take 4) = m at h
  generalize hfm : (b.drop 8).take 4 = fm at h
  split at h
  · cases h
  rename_i hc
  split at h
  · cases h
  rename_i hbig
  split at h
  · cases h
  rename_i hsh
  have hr : b.take 4 = riffW := Classical.not_not.1 fun h' => hc (.inl h')
  have hf : nameB fm = true := by
    cases hb : nameB fm with
    | true => rfl
    | false => exact absurd (.inr (.inl hb)) hc
  have hm4 : ¬ m < 4 := fun h' => hc (.inr (.inr h'))
  split at h
  · cases h
  rename_i out hout
  split at h
  · cases h
  rename_i hmore
  cases h
  obtain ⟨l', q1, q2, q3, q4⟩ := chunksM_inv _ _ _ _ hout (by simp)
  simp only [List.nil_append] at q1
  subst q1
  have hlen : b.length = m + 8 := by omega
  have hf4 := name4 hf
  have q5 : (b.drop 12).take (m - 4) = b.drop 12 := List.take_of_length_le (by simp; omega)
  rw [q5] at q2
  have hns : ∀ c ∈ l, c.1.length = 4 := fun c hc => name4 (q3 c hc).1
  have hfl := flat_sz hns
  have hsz : 4 + szL l = m := by
    have := congrArg List.length q2
    rw [hfl, List.length_drop] at this
    omega
  have hB : (b.drop 4).take 4 = leB m 4 := by
    have := leB_leN ((b.drop 4).take 4)
    rw [hm, len_at (by omega)] at this
    exact this.symm
  have key : b = b.take 4 ++ ((b.drop 4).take 4 ++ ((b.drop 8).take 4 ++ b.drop 12)) := by
    conv => lhs; rw [← List.take_append_drop 4 b]
    congr 1
    conv => lhs; rw [← List.take_append_drop 4 (b.drop 4)]
    congr 1
    rw [List.drop_drop]
    conv => lhs; rw [← List.take_append_drop 4 (b.drop 8)]
    congr 1
    rw [List.drop_drop]
  refine ⟨?_, ?_, q4, q3, by omega, by omega, hf4, by omega, by omega⟩
  · rw [hr, hB, hfm, q2] at key
    rw [key, bytesM, hsz]
    simp [List.append_assoc]
  · unfold checkM
    rw [if_neg (by omega), if_neg]
    rintro (h' | h' | h')
    · rw [hf] at h'; cases h'
    · omega
    · obtain ⟨c, hc, hcn⟩ := List.any_eq_true.1 h'
      rw [(q3 c hc).1] at hcn
      cases hcn

end Go.Am
