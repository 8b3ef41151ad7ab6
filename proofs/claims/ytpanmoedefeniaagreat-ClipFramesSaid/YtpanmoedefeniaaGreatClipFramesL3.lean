/- What the functions that the law reaches return, for every program that has their code; the conditions stand in each statement. -/
import Derived.Test.YtpanmoedefeniaaGreatClipFramesL2
set_option linter.unusedSectionVars false
set_option linter.unusedSimpArgs false
set_option linter.unusedVariables false
namespace Go.Am
open Go.RowKit

def S_BehO (t : Nat) (P : Prg) (f : Nat) : Prop := ∀ a b : List Int, 0 < a.length + b.length → a.length + b.length ≤ 1000000 → VO P f [nl a, nl b] (.own 0 (a.length + b.length)) ⟨t, 1, a.length + b.length, ks .i64 (a ++ b), 0⟩
theorem lengths_behind {P : Prg} {f fC t0 t1 : Nat} (bd : Body P f 9 [.tmp 4] (ac_lengths_behind fC t1)) (hC : S_ConcatI t0 P fC) : S_BehO t0 P f := by
  intro a b h0 h1
  refine VO.of_walk (by simp [isDL, isD_nl]) (isDL_ks _ _) (by simp [okr]) (ACall.of_body bd (by simp) ?_)
  have hC' := hC [a, b] (by simp) (by simpa using h0) (by simpa using h1)
  have e1 : nls [a, b] = .list 2 [nl a, nl b] := rfl
  have e2 : [a, b].flatten = a ++ b := by simp
  rw [e1, e2, List.length_append] at hC'
  have ta := isTL_ks .i64 a
  have tb := isTL_ks .i64 b
  simp only [nl] at hC' ⊢
  simp (maxSteps := 4000000) (disch := omega) only [abv, step, stepv, ev, wl, wn, wp, wz, aop, cV, cV1, AV.one, partCells, okW, onlyFr, app, sliceCells, cellsAt, srcA, subA, eqFs, Int.cast_ofNat_Int, simprocAttr, ac_lengths_behind]
  refine callQ.vo_still 1 [0] hC' (by simp [frzN, frzK, frzL, frzV, frzL_T _ ta, frzL_T _ tb]) ?_
  simp (maxSteps := 4000000) (disch := omega) only [abv, step, stepv, ev, wl, wn, wp, wz, aop, cV, cV1, AV.one, partCells, okW, onlyFr, app, sliceCells, cellsAt, srcA, subA, eqFs, Int.cast_ofNat_Int, simprocAttr, stillAt, shr]
  exact ⟨1, rfl, rfl⟩

def okA (r n : Int) : Prop := 1 ≤ r ∧ r ≤ 1048576 ∧ 1 ≤ n ∧ n ≤ 4000 ∧ (lensL (longN r).toNat n.toNat).length ≤ 1000
def S_AllO (t : Nat) (P : Prg) (f : Nat) : Prop := ∀ r n : Int, okA r n → VO P f [.int .i64 r, .int .i64 n] (.tup [.own 0 (lensL (longN r).toNat n.toNat).length, .int .i64 0]) ⟨t, 1, (lensL (longN r).toNat n.toNat).length, ks .i64 (lensL (longN r).toNat n.toNat), 0⟩
theorem lengths_All {P : Prg} {f fC fL fR fB t0 : Nat} (bd : Body P f 39 [.tmp 4, .tmp 5] (ac_lengths_All fC fL fR fB t0)) (hC : S_Count22 P fC) (hL : S_Long22 P fL) (hR : S_Repeat1 t0 P fR) (hB : S_BehO t0 P fB) : S_AllO t0 P f := by
  intro r n ⟨a1, a2, a3, a4, a5⟩
  refine VO.of_walk rfl (isDL_ks _ _) (by simp [okr, flat]) (ACall.of_body bd (by simp) ?_)
  have hlong : 1 ≤ longN r := by unfold longN; split <;> omega
  obtain ⟨L, hLe⟩ : ∃ L : Nat, longN r = L := ⟨(longN r).toNat, by omega⟩
  obtain ⟨m, rfl⟩ : ∃ m : Nat, n = m := ⟨n.toNat, by omega⟩
  rw [hLe, Int.toNat_natCast, Int.toNat_natCast] at a5 ⊢
  rw [lensL_len] at a5
  obtain ⟨q, hq⟩ : ∃ q, q = (m - 1) / L := ⟨_, rfl⟩
  have hql : (lensL L m).length = q + 1 := by rw [lensL_len, hq]
  rw [← hq] at a5
  have hcd : ((m : Int) + (L : Int) - 1) / (L : Int) = ((q + 1 : Nat) : Int) := by
    have h1 : (m : Int) + (L : Int) - 1 = ((m - 1 + L : Nat) : Int) := by omega
    rw [h1, ← Int.natCast_ediv, Nat.add_div_right _ (by omega), ← hq]
  have hk : cntA r m = .tup [.int .i64 ((q + 1 : Nat) : Int), .int .i64 0] := by
    rw [cntA, if_neg (by omega), if_neg (by omega), hLe, hcd, if_neg (by omega)]
  have hC' := hC r m
  rw [hk] at hC'
  have hL' := hL r
  rw [longA, if_neg (by omega), hLe] at hL'
  have hR' := hR L q (by omega)
  have hB' := hB (List.replicate q (L : Int)) [(m : Int) - ((q * L : Nat) : Int)] (by simp) (by simp; omega)
  have e1 : List.replicate q (L : Int) ++ [(m : Int) - ((q * L : Nat) : Int)] = lensL L m := by unfold lensL; rw [hq]
  rw [e1] at hB'
  have e2 : (List.replicate q (L : Int)).length + [(m : Int) - ((q * L : Nat) : Int)].length = q + 1 := by simp
  rw [e2] at hB'
  have e3 : nl [(L : Int)] = .list 1 [.int .i64 (L : Int)] := rfl
  have e4 : nl [(m : Int) - ((q * L : Nat) : Int)] = .list 1 [.int .i64 ((m : Int) - ((q * L : Nat) : Int))] := rfl
  rw [e3] at hR'
  rw [e4] at hB'
  have tr := isTL_ks .i64 (List.replicate q (L : Int))
  have hqL : (q : Int) * (L : Int) = ((q * L : Nat) : Int) := by simp
  have hle : q * L ≤ m := by
    have := Nat.div_mul_le_self (m - 1) L
    rw [← hq] at this
    omega
  simp only [nl, List.length_replicate] at hB'
  rw [hql]
  generalize ks .i64 (lensL L m) = LL at *
  generalize ks .i64 (List.replicate q (L : Int)) = RR at *
  generalize q * L = w at *
  simp only [Int.natCast_add, Int.cast_ofNat_Int] at hC'
  have hq1 : (q : Int) + 1 - 1 = (q : Int) := by omega
  simp (maxSteps := 4000000) (disch := omega) only [abv, step, stepv, ev, wl, wn, wp, wz, aop, cV, cV1, AV.one, partCells, okW, onlyFr, app, sliceCells, cellsAt, srcA, subA, eqFs, Int.cast_ofNat_Int, simprocAttr, ac_lengths_All]
  refine callQ.vc hC' ?_
  simp (maxSteps := 4000000) (disch := omega) only [abv, step, stepv, ev, wl, wn, wp, wz, aop, cV, cV1, AV.one, partCells, okW, onlyFr, app, sliceCells, cellsAt, srcA, subA, eqFs, Int.cast_ofNat_Int, simprocAttr]
  refine callQ.vc hL' ?_
  simp (maxSteps := 4000000) (disch := omega) only [abv, step, stepv, ev, wl, wn, wp, wz, aop, cV, cV1, AV.one, partCells, okW, onlyFr, app, sliceCells, cellsAt, srcA, subA, eqFs, Int.cast_ofNat_Int, simprocAttr, hq1]
  refine callQ.vo_still 1 [0] hR' (by simp [frzN, frzK, frzL, frzV]) ?_
  simp (maxSteps := 4000000) (disch := omega) only [abv, step, stepv, ev, wl, wn, wp, wz, aop, cV, cV1, AV.one, partCells, okW, onlyFr, app, sliceCells, cellsAt, srcA, subA, eqFs, Int.cast_ofNat_Int, simprocAttr, stillAt, shr, hq1, hqL]
  refine callQ.vo_still 1 [1, 2] hB' (by simp [frzN, frzK, frzL, frzV, frzL_T _ tr]) ?_
  simp (maxSteps := 4000000) (disch := omega) only [abv, step, stepv, ev, wl, wn, wp, wz, aop, cV, cV1, AV.one, partCells, okW, onlyFr, app, sliceCells, cellsAt, srcA, subA, eqFs, Int.cast_ofNat_Int, simprocAttr, stillAt, shr]
  exact ⟨3, rfl, rfl⟩

end Go.Am

namespace Go.Am
open Go.RowKit

/-! ### clip.parts: the iterator -/

def partL (Lc : Nat) (l : List Int) (j : Nat) : List Int := (l.drop (j * Lc)).take Lc

def S_PartsIt (t : Nat) (P : Prg) (f : Nat) : Prop := ∀ (k n : Nat) (x r : Int) (l : List Int), 1 ≤ k → k ≤ 1000 → l.length = n * k → okA r n →
  IterVC P f [.int .i64 k, .int .i64 x, .int .i64 r, il l] [t] (cnt := (lensL (longN r).toNat n).length) (fun j => il (partL ((longN r).toNat * k) l j.1))

theorem rep_fr_nil {X : Cx} {a : Act} : ∀ i, Rep X (look [] i) (a.tmps.getD i undef) := fun i => by simp only [look, Rep]
theorem rep_fr_cons {X : Cx} {a : Act} {fr : List (Nat × AV)} {j : Nat} {v : AV} (h : Rep X v (a.tmps.getD j undef)) (g : ∀ i, Rep X (look fr i) (a.tmps.getD i undef)) : ∀ i, Rep X (look ((j, v) :: fr) i) (a.tmps.getD i undef) := fun i => by
  simp only [look]
  split
  · rename_i e; subst e; exact h
  · exact g i

theorem sim0 {N : Nat} {fr : List (Nat × AV)} {a : Act} {W : World} (hd : a.defers = []) (hz : a.tmps.size = N) (h : ∀ i, Rep ⟨W, [], [], fun _ _ => False⟩ (look fr i) (a.tmps.getD i undef)) : Sim ⟨W.heap.size, ⟨W, [], [], fun _ _ => False⟩, N, []⟩ ⟨fr, []⟩ a W :=
  ⟨hd, hz, Below.refl _ _, [], ⟨rfl, by simp, by simp, by simp, fun _ _ h => h.elim, Nat.le_refl _⟩, Moves.refl _, h⟩

theorem below_grown {W W' : World} (h : Below W.heap.size W W') : W.grownBy W' none := ⟨h.os, h.tape, h.output, h.size, fun k hk _ => h.block k hk⟩

theorem part_facts {k n L j : Nat} {l : List Int} (hl : l.length = n * k) (hn : 1 ≤ n) (hL : 1 ≤ L) (hj : j < (lensL L n).length) :
    ∃ m : Nat, (lensL L n).getD j 0 = m ∧ m ≤ n ∧ min (j * (L * k)) (n * k) = j * (L * k) ∧ j * (L * k) ≤ n * k ∧ min ((j + 1) * (L * k)) (n * k) = j * (L * k) + m * k ∧ partL (L * k) l j = (l.drop (j * (L * k))).take (m * k) ∧ j * (L * k) + m * k ≤ n * k := by
  rw [lensL_len] at hj
  have g0 : (n - 1) / L * L ≤ n - 1 := Nat.div_mul_le_self _ _
  have g2 : n - 1 < (n - 1) / L * L + L := Nat.lt_div_mul_add (by omega)
  have g1 : j * L ≤ (n - 1) / L * L := Nat.mul_le_mul_right _ (by omega)
  have e0 : j * (L * k) = j * L * k := by rw [Nat.mul_assoc]
  have e1 : (j + 1) * (L * k) = (j * L + L) * k := by rw [← Nat.mul_assoc, Nat.add_mul, Nat.one_mul]
  have h3 : j * L * k ≤ n * k := Nat.mul_le_mul_right _ (by omega)
  by_cases hq : j < (n - 1) / L
  · have g3 : (j + 1) * L ≤ (n - 1) / L * L := Nat.mul_le_mul_right _ (by omega)
    rw [Nat.add_mul, Nat.one_mul] at g3
    have h7 : j * L + L ≤ n := Nat.le_trans g3 (Nat.le_trans g0 (Nat.sub_le _ _))
    have h4 : (j * L + L) * k ≤ n * k := Nat.mul_le_mul_right _ h7
    refine ⟨L, ?_, by omega, by rw [e0]; exact Nat.min_eq_left h3, by rw [e0]; exact h3, by rw [e1, e0, Nat.min_eq_left h4, Nat.add_mul], rfl, by rw [e0, ← Nat.add_mul]; exact h4⟩
    unfold lensL
    rw [List.getD_eq_getElem?_getD, List.getElem?_append_left (by simpa using hq), List.getElem?_replicate, if_pos hq]
    rfl
  · have hjq : j = (n - 1) / L := by omega
    have h7 : n ≤ j * L + L := by rw [hjq]; generalize (n - 1) / L * L = w at *; omega
    have h8 : n - j * L ≤ L := by omega
    have h4 : n * k ≤ (j * L + L) * k := Nat.mul_le_mul_right _ h7
    have h5 : j * L * k + (n - j * L) * k = n * k := by rw [← Nat.add_mul]; congr 1; omega
    refine ⟨n - j * L, ?_, Nat.sub_le _ _, by rw [e0]; exact Nat.min_eq_left h3, by rw [e0]; exact h3, by rw [e1, e0, Nat.min_eq_right h4, h5], ?_, by rw [e0, h5]; exact Nat.le_refl _⟩
    · unfold lensL
      rw [List.getD_eq_getElem?_getD, List.getElem?_append_right (by simp; omega)]
      simp only [List.length_replicate, ← hjq, Nat.sub_self, List.getElem?_cons_zero, Option.getD_some]
      omega
    · unfold partL
      have h6 : (l.drop (j * (L * k))).length = (n - j * L) * k := by rw [List.length_drop, hl, e0]; omega
      rw [List.take_of_length_le (by rw [h6]; exact Nat.mul_le_mul_right _ h8), List.take_of_length_le (by rw [h6]; exact Nat.le_refl _)]
theorem finR_take {m j : Nat} (h : j < m) : (List.finRange m).take (j + 1) = (List.finRange m).take j ++ [⟨j, h⟩] := by
  rw [List.take_succ_eq_append_getElem (by simpa using h)]
  simp

theorem lens_pos (L n : Nat) : 1 ≤ (lensL L n).length := by rw [lensL_len]; exact Nat.le_add_left 1 _

set_option maxHeartbeats 1000000 in
theorem clip_parts1 {P : Prg} {f fA t0 : Nat} (bd : Body P f 43 [] (ac_clip_parts_1 fA)) (hA : S_AllO t0 P fA) : S_PartsIt t0 P f := by
  intro k n x r l hk1 hk2 hl hok
  obtain ⟨L, hL⟩ : ∃ L, (longN r).toNat = L := ⟨_, rfl⟩
  have hL1 : 1 ≤ L := by have := longN_pos r; omega
  obtain ⟨a1, a2, a3, a4, a5⟩ := hok
  have hn1 : 1 ≤ n := by omega
  have hn2 : n ≤ 4000 := by omega
  have hA' := hA r n ⟨a1, a2, a3, a4, a5⟩
  rw [hL, Int.toNat_natCast] at hA' a5
  rw [hL]
  refine ⟨fun j => isD_il _, fun w C v1 hv1 hex hG => ?_⟩
  have hv1' := hv1
  simp only [Rep] at hv1
  obtain ⟨b, o, vs, hv1e, hat, hvs⟩ := hv1
  simp only [RepL] at hvs
  obtain ⟨u0, q0, rfl, hu0, u1, q1, rfl, hu1, u2, q2, rfl, hu2, u3, q3, rfl, hu3, rfl⟩ := hvs
  have hu0' := hu0
  have hu3' := hu3
  simp only [Rep] at hu0 hu1 hu2
  rw [il] at hu3
  simp only [Rep] at hu3
  obtain ⟨sa, cap, ws, e3, hcap, hws, hwr⟩ := hu3
  rw [hl] at hcap
  obtain ⟨atN, hatN⟩ : ∃ atN : Nat → Nat, ∀ j, atN j = min (j * (L * k)) (n * k) := ⟨_, fun _ => rfl⟩
  obtain ⟨cnt, hcnt⟩ : ∃ cnt, (lensL L n).length = cnt := ⟨_, rfl⟩
  have hnk : n * k ≤ 4000000 := Nat.mul_le_mul hn2 hk2
  rw [hcnt] at hA' a5 ⊢
  have hcnt1 : 1 ≤ cnt := by rw [← hcnt]; exact lens_pos _ _
  have pf : ∀ j, j < cnt → ∃ m : Nat, (lensL L n).getD j 0 = m ∧ m ≤ n ∧ atN j = j * (L * k) ∧ atN (j + 1) = atN j + m * k ∧ partL (L * k) l j = (l.drop (atN j)).take (m * k) ∧ atN j + m * k ≤ n * k := fun j hj => by
    obtain ⟨m, h1, h2, h3, h4, h5, h6, h7⟩ := part_facts (j := j) hl hn1 hL1 (by rw [hcnt]; exact hj)
    refine ⟨m, h1, h2, by rw [hatN]; exact h3, by rw [hatN, hatN, h3]; exact h5, by rw [hatN, h3]; exact h6, by rw [hatN, h3]; exact h7⟩
  have hun : ∀ {W' : World}, (∀ (b k : Nat) (v : Value), ¬ C b k → w.cell? ⟨b, k, none⟩ = some v → W'.cell? ⟨b, k, none⟩ = some v) → ∀ (c : AV) (v : Value), isD c = true → Rep ⟨w, [], [], C⟩ c v → Rep ⟨W', [], [], fun _ _ => False⟩ c v := fun h c v hd hr =>
    Rep.data (X := ⟨w, [], [], C⟩) (Y := ⟨_, [], [], fun _ _ => False⟩) (fun b k v hc ha => ⟨h b k v (fun h => ha (.inl h)) hc, fun h => by
      rcases h with h | ⟨o, x, c, h1, _⟩
      · exact h.elim
      · simp at h1⟩) c v hd hr
  have hlit : ∀ {W' : World}, (∀ (b k : Nat) (v : Value), ¬ C b k → w.cell? ⟨b, k, none⟩ = some v → W'.cell? ⟨b, k, none⟩ = some v) → Rep ⟨W', [], [], fun _ _ => False⟩ (.cell [.int .i64 k, .int .i64 x, .int .i64 r, .lit u3]) v1 := fun {W'} h => by
    have h1 : Rep ⟨w, [], [], C⟩ (.cell [.int .i64 k, .int .i64 x, .int .i64 r, .lit u3]) v1 := by
      simp only [Rep]
      exact ⟨b, o, _, hv1e, hat, by simp only [RepL, Rep]; exact ⟨u0, _, rfl, hu0, u1, _, rfl, hu1, u2, _, rfl, hu2, u3, _, rfl, rfl, rfl⟩⟩
    exact hun h _ _ rfl h1
  refine ⟨fun j => .slice (if cap = atN j.1 then sa else sa.map (·.add (atN j.1 * 1))) (atN (j.1 + 1) - atN j.1) (cap - atN j.1), fun j => ?rep, ?seq⟩
  case rep =>
    obtain ⟨m, h1, h2, h3, h4, h5, h6⟩ := pf j.1 j.2
    have g : Held 0 ⟨w, [], [], fun _ _ => False⟩ := ⟨rfl, by simp, by simp, by simp, fun _ _ h => h.elim, Nat.zero_le _⟩
    have e4 : ((atN (j.1 + 1) : Nat) - (atN j.1 : Nat) : Int).toNat = m * k := by omega
    have e5 : (partL (L * k) l j.1).length = m * k := by rw [h5, List.length_take, List.length_drop, hl]; omega
    have hs : subA [] 1 (il l) (atN j.1 : Nat) (atN (j.1 + 1) : Nat) = some (il (partL (L * k) l j.1)) := by
      simp only [subA, il]
      rw [if_pos (by omega), if_pos (by rw [hl]; simp [ks]; omega), e4, e5, h5]
      simp [ks, List.map_take, List.map_drop]
    have hr := rep_sub (X := ⟨w, [], [], fun b k => C b k ∧ b < w.heap.size⟩) (B := w.heap.size) ⟨rfl, by simp, by simp, by simp, fun _ _ h => h.2, Nat.le_refl _⟩ (η := fun _ => .any) (ρ := fun _ => undef) (fun _ => by simp only [Rep]) (sz := 1) (n := l.length) (cs := ks .i32 l) (a := sa) (cap := cap) (m := cap) (by
      rw [← e3]
      exact Rep.data (X := ⟨w, [], [], C⟩) (Y := ⟨w, [], [], fun b k => C b k ∧ b < w.heap.size⟩) (fun b k v hc ha => ⟨hc, fun h => ha (by
        rcases h with h | ⟨o, x, c, h1, _⟩
        · exact .inl h.1
        · simp at h1)⟩) _ _ (isD_il l) hu3') rfl hs (by omega) (.inl (Nat.le_refl _))
    have hr2 := hr.2.2.2
    simp only [Int.toNat_natCast] at hr2
    exact Rep.data (X := ⟨w, [], [], fun b k => C b k ∧ b < w.heap.size⟩) (Y := ⟨w, [], [], C⟩) (fun b k v hc ha => ⟨hc, fun h => ha (by
      rcases h with h | ⟨o, x, c, h1, _⟩
      · exact .inl ⟨h, World.block_lt_of_cell? w _ hc⟩
      · simp at h1)⟩) _ _ (isD_il _) hr2
  case seq =>
    intro ll J Jx W hW hJ hJx hY hJ0
    have hkw : ∀ (b k : Nat) (v : Value), ¬ C b k → w.cell? ⟨b, k, none⟩ = some v → W.cell? ⟨b, k, none⟩ = some v := fun b k v _ hc => (hW.cell (p := ⟨b, k, none⟩) (World.block_lt_of_cell? w _ hc)).trans hc
    obtain ⟨fn, hf, hnm, hN, hrl, hc'⟩ := bd
    obtain ⟨c, hb, hc⟩ := Option.bind_eq_some_iff.1 hc'
    refine callsIn_of_wp hf hb trivial ?_ rfl
    rw [hN]
    unfold ac_clip_parts_1 at hc
    obtain ⟨c1, r1, rfl, hc1, hr1⟩ := cCode_seq hc
    obtain ⟨c2, r2, rfl, hc2, hr2⟩ := cCode_seq hr1
    obtain ⟨c3, c4, rfl, hc3, hc4⟩ := cCode_seq hr2
    obtain ⟨c5, rfl, hc5⟩ := cCode_block hc4
    obtain ⟨c6, rfl, hc6⟩ := cCode_loop hc5
    obtain ⟨d1, s1, rfl, hd1, hs1⟩ := cCode_seq hc6
    obtain ⟨d2, s2, rfl, hd2, hs2⟩ := cCode_seq hs1
    obtain ⟨y1, y2, rfl, hy1, hy2⟩ := cCode_cond hd2
    obtain rfl := cCode_skip hy1
    obtain rfl := cCode_exit hy2
    obtain ⟨d3, d9, rfl, hd3, hd9⟩ := cCode_seq hs2
    obtain ⟨d4, rfl, hd4⟩ := cCode_block hd3
    obtain ⟨d5, s5, rfl, hd5, hs5⟩ := cCode_seq hd4
    obtain ⟨d6, s6, rfl, hd6, hs6⟩ := cCode_seq hs5
    obtain ⟨s7, d8, rfl, hs7, hd8⟩ := cCode_seq hs6
    obtain ⟨d7, dc, rfl, hd7, hdc⟩ := cCode_seq hs7
    obtain ⟨y3, y4, rfl, hy3, hy4⟩ := cCode_cond hdc
    obtain rfl := cCode_ret hy3
    obtain rfl := cCode_skip hy4
    obtain ⟨id7, ops, rfl, hm7⟩ := cCode_reg hd7
    obtain ⟨l5, l3, hops, hm5, hm3⟩ := mapM_cut (q1 := [_, _, _, _, _]) hm7
    obtain ⟨oS, l2, rfl, hoS, hm2⟩ := mapM_one hm3
    obtain ⟨oY, l1, rfl, hoY, hm1⟩ := mapM_one hm2
    generalize hyv : (Value.func (.yield ll) #[] #[]) = yv at *
    let a0 : Act := { tmps := #[yv] ++ #[v1] ++ Array.replicate (43 - (#[yv] ++ #[v1]).size) undef, defers := [] }
    show Code.wpIn _ _ _ _ _ a0 _
    have z0 : a0.tmps.size = 43 := by simp [a0]
    have t00 : a0.tmps.getD 0 undef = yv := by simp [a0]
    have t01 : a0.tmps.getD 1 undef = v1 := by simp [a0]
    let C0 : Nat → Nat → Prop := fun b k => C b k ∧ b < W.heap.size
    have g0 : Held W.heap.size ⟨W, [ph2], [none], C0⟩ := by
      have g := (Held.empty (B := W.heap.size) (X := ⟨W, [], [], C0⟩) ⟨rfl, by simp, by simp, by simp, fun _ _ h => h.2, Nat.le_refl _⟩ 1 0).1
      exact g
    have hC0 : ∀ c v, isD c = true → Rep ⟨w, [], [], C⟩ c v → Rep ⟨W, [ph2], [none], C0⟩ c v := fun c v hd hr =>
      Rep.data (X := ⟨w, [], [], C⟩) (Y := ⟨W, [ph2], [none], C0⟩) (fun b k v hc ha => ⟨hkw b k v (fun h => ha (.inl h)) hc, fun h => by
        rcases h with h | ⟨o, x, c, h1, h2, _⟩
        · exact ha (.inl h.1)
        · rcases o with _ | o <;> simp at h2⟩) c v hd hr
    let Γ0 : Ctx := ⟨W.heap.size, ⟨W, [ph2], [none], C0⟩, 43, []⟩
    have hs0 : Sim Γ0 ⟨[(0, .lit yv), (1, .cell [.int .i64 k, .int .i64 x, .int .i64 r, il l])], [ph2]⟩ a0 W :=
      ⟨rfl, z0, Below.refl _ _, [none], g0, Moves.refl _, rep_fr_cons (by rw [t00]; simp only [Rep]) (rep_fr_cons (by rw [t01]; exact hC0 _ _ (by simp [isD, isDL, isD_il]) hv1') rep_fr_nil)⟩
    have hF0 : Fit P 43 Γ0 := ⟨rfl, fun q cs hq => hC0 _ _ (by simp only [isD]; exact P.gd q cs hq) (hG q cs hq)⟩
    refine wpIn_seq ?_
    have hk0 : ((n * k : Nat) : Int) / (k : Int) = n := by
      rw [Int.natCast_mul, Int.mul_ediv_cancel _ (by omega)]
    have hk3 : ((n * k : Nat) : Int).tdiv (k : Int) = n := by rw [Int.tdiv_eq_ediv_of_nonneg (by omega), hk0]
    refine draw_step (Q := fun _ st' => st'.ob = [⟨t0, 1, cnt, ks .i64 (lensL L n), 0⟩] ∧ look st'.fr 0 = .lit yv ∧ look st'.fr 3 = .own 0 cnt) hF0 hc1 1 (by rfl) t01 ?_ hs0 ?_
    · simp only [il]
      simp (maxSteps := 4000000) (disch := omega) only [abv, step, stepv, ev, wl, wn, wp, wz, aop, cV, cV1, AV.one, partCells, okW, onlyFr, app, sliceCells, cellsAt, srcA, subA, eqFs, Int.cast_ofNat_Int, simprocAttr, hl, hk3, hk0]
      refine ⟨shr 0 (.tup [.own 0 cnt, .int .i64 0]), some (0, ⟨t0, 1, cnt, ks .i64 (lensL L n), 0⟩), ?_, ?_⟩
      · unfold ECall
        rw [if_pos rfl]
        exact ⟨ACall.of_vo_at hA' rfl ⟨rfl, rfl⟩, fun o x' e => by cases e; exact ⟨ph2, rfl, by simp [ph2, ph]⟩⟩
      · simp (maxSteps := 4000000) (disch := omega) only [abv, step, stepv, ev, wl, wn, wp, wz, aop, cV, cV1, AV.one, partCells, okW, onlyFr, app, sliceCells, cellsAt, srcA, subA, eqFs, Int.cast_ofNat_Int, simprocAttr, shr]
    · intro st1 a1 W1 ⟨hob1, h10, h13⟩ hs1 t11
      show (Code.seq c2 _).wpIn Fence.wide 4 _ _ a1 W1
      let row : Ob := ⟨t0, 1, cnt, ks .i64 (lensL L n), 0⟩
      have hs1' : Sim Γ0 ⟨[(0, .lit yv), (3, .own 0 cnt)], [row]⟩ a1 W1 := by
        have h : st1 = ⟨st1.fr, [row]⟩ := by rw [← hob1]
        rw [h] at hs1
        exact Le.slots (M := 1) (by simp [h10, h13]) Γ0 a1 W1 rfl hs1
      refine wpIn_seq ?_
      refine reg_step (Q := fun _ st' => st' = ⟨[(5, .int .i64 0), (0, .lit yv), (3, .own 0 cnt)], [row]⟩) hF0 hc2 [(1, v1)] (by simp only [List.mem_singleton]; rintro _ rfl; exact ⟨rfl, t11⟩) (by simp (maxSteps := 4000000) (disch := omega) only [abv, step, stepv, ev, wl, wn, wp, wz, aop, cV, cV1, AV.one, partCells, okW, onlyFr, app, sliceCells, cellsAt, srcA, subA, eqFs, Int.cast_ofNat_Int, simprocAttr]) hs1' ?_
      rintro _ a2 W2 rfl hs2 t2
      show (Code.seq c3 _).wpIn Fence.wide 4 _ _ a2 W2
      refine wpIn_seq ?_
      refine reg_step (Q := fun _ st' => st' = ⟨[(23, .int .i64 0), (22, .int .i64 cnt), (21, .own 0 cnt), (5, .int .i64 0), (0, .lit yv), (3, .own 0 cnt)], [row]⟩) hF0 hc3 [(1, v1)] (by simp only [List.mem_singleton]; rintro _ rfl; exact ⟨rfl, t2 _ (by simp)⟩) (by simp (maxSteps := 4000000) (disch := omega) only [abv, step, stepv, ev, wl, wn, wp, wz, aop, cV, cV1, AV.one, partCells, okW, onlyFr, app, sliceCells, cellsAt, srcA, subA, eqFs, Int.cast_ofNat_Int, simprocAttr, row]) hs2 ?_
      rintro _ a3 W3 rfl hs3 t3
      show (Code.block 0 (.loop _)).wpIn Fence.wide 4 _ _ a3 W3
      obtain ⟨f1, f2, f3, be, f4, f5, f6⟩ := hs3
      have f1' : a3.defers = [] := f1
      have f2' : a3.tmps.size = 43 := f2
      obtain ⟨e, he, hoke⟩ := f4.get (o := 0) (x := row) rfl
      have f21 := f6 21
      simp only [look, Nat.reduceEqDiff, if_false, if_true, Rep] at f21
      obtain ⟨⟨rw', hrw, _, _, hown⟩, _⟩ := f21
      have hrw' : row = rw' := by simpa using hrw
      subst hrw'
      have hown' := hown rfl
      have he' : be[0]? = some e := he
      simp only [he'] at hown'
      cases e with
      | none => exact absurd hoke.1 (by simp only [row]; omega)
      | some p =>
      obtain ⟨br, capr⟩ := p
      obtain ⟨cur, ⟨frz, hblk, _⟩, hcs, hnc, _, hcl, hcr, hone⟩ := hoke
      simp only [OwnV] at hown'
      have hblk' : W3.heap[br]? = some (.cells cur t0 frz) := hblk
      obtain ⟨sv, hsv⟩ : ∃ sv, sv = Value.slice (some ⟨br, 0, none⟩) cnt capr := ⟨_, rfl⟩
      have hcr' : ∀ {Y : Cx}, RepL Y (ks .i64 (lensL L n)) (cur.toList.take cnt) := fun {Y} => by
        have h := RepL.flat (Y := Y) (by simp [row, ks, flat]) hcr
        have e : row.cs.length = cnt := by simp [row, ks, hcnt]
        rw [e] at h
        exact h
      have hrowR : ∀ {W' : World}, W'.heap[br]? = some (.cells cur t0 frz) → Rep ⟨W', [], [], fun _ _ => False⟩ (.list cnt (ks .i64 (lensL L n))) sv := fun {W'} h => by
        simp only [Rep]
        refine ⟨_, _, cur.toList.take cnt, hsv, hnc, .inr ⟨br, 0, rfl, fun i v hv => ?_⟩, hcr'⟩
        rw [List.getElem?_take] at hv
        split at hv
        · have hv2 : cur[i]? = some v := by simpa using hv
          refine ⟨⟨by simp [World.cell?, h, hv2], fun h => ?_⟩, hone v (by
            obtain ⟨h1, h2⟩ := Array.getElem?_eq_some_iff.1 hv2
            rw [← h2]; simp)⟩
          rcases h with h | ⟨o, x, c, h1, _⟩
          · exact h.elim
          · simp at h1
        · cases hv
      have hJ3 : J [] W3 := hJ _ W W3 none hJ0 (below_grown f3) (fun r h => by cases h)
      refine wpIn_block ?_
      refine wpIn_loop (fun a W' => ∃ j, j ≤ cnt ∧ a.defers = [] ∧ a.tmps.size = 43 ∧ a.tmps.getD 0 undef = yv ∧ a.tmps.getD 1 undef = v1 ∧ a.tmps.getD 5 undef = .int .i64 (atN j : Nat) ∧ a.tmps.getD 21 undef = sv ∧ a.tmps.getD 22 undef = .int .i64 cnt ∧ a.tmps.getD 23 undef = .int .i64 j ∧
          W'.heap[br]? = some (.cells cur t0 frz) ∧ (∀ (b k : Nat) (v : Value), ¬ C b k → w.cell? ⟨b, k, none⟩ = some v → W'.cell? ⟨b, k, none⟩ = some v) ∧ J ((List.finRange cnt).take j) W')
        (fun a _ => match a.tmps.getD 23 undef with | .int _ z => cnt - z.toNat | _ => 0) ?_ ?_
      · refine ⟨0, Nat.zero_le _, f1', f2', ?_, t3 (1, v1) (by simp), ?_, by rw [hsv]; exact hown', ?_, ?_, hblk', ?_, hJ3⟩
        · have h := f6 0
          simpa [look, Rep] using h
        · have h := f6 5
          have e0 : atN 0 = 0 := by rw [hatN]; simp
          simpa [look, Rep, e0] using h
        · have h := f6 22
          simpa [look, Rep] using h
        · have h := f6 23
          simpa [look, Rep] using h
        · intro b k v hc hv
          have h := hkw b k v hc hv
          exact (f3.cell (p := ⟨b, k, none⟩) (World.block_lt_of_cell? W _ h)).trans h
      intro a Wj ⟨j, hj, i1, i2, i3, i4, i5, i6, i7, i8, i9, i10, i11⟩
      let ΓW : World → Ctx := fun W' => ⟨W'.heap.size, ⟨W', [], [], fun _ _ => False⟩, 43, []⟩
      have hF : ∀ {W' : World}, (∀ (b k : Nat) (v : Value), ¬ C b k → w.cell? ⟨b, k, none⟩ = some v → W'.cell? ⟨b, k, none⟩ = some v) → Fit P 43 (ΓW W') := fun {W'} h => ⟨rfl, fun q cs hq => hun h _ _ (by simp only [isD]; exact P.gd q cs hq) (hG q cs hq)⟩
      have hsA : Sim (ΓW Wj) ⟨[(0, .lit yv), (1, .cell [.int .i64 k, .int .i64 x, .int .i64 r, .lit u3]), (5, .int .i64 (atN j : Nat)), (21, .list cnt (ks .i64 (lensL L n))), (22, .int .i64 cnt), (23, .int .i64 j)], []⟩ a Wj :=
        sim0 i1 i2 (rep_fr_cons (by rw [i3]; simp only [Rep]) (rep_fr_cons (by rw [i4]; exact hlit i10) (rep_fr_cons (by rw [i5]; simp only [Rep]) (rep_fr_cons (by rw [i6]; exact hrowR i9) (rep_fr_cons (by rw [i7]; simp only [Rep]) (rep_fr_cons (by rw [i8]; simp only [Rep]) rep_fr_nil))))))
      have hI : ∀ {qs : List AO} {a : Act}, noDst 1 qs = true → noDst 21 qs = true → a.tmps.getD 1 undef = v1 → a.tmps.getD 21 undef = sv → ∀ p ∈ [(1, v1), (21, sv)], noDst p.1 qs = true ∧ a.tmps.getD p.1 undef = p.2 := fun h1 h2 h3 h4 p hp => by
        simp only [List.mem_cons, List.not_mem_nil, or_false] at hp
        rcases hp with rfl | rfl
        · exact ⟨h1, h3⟩
        · exact ⟨h2, h4⟩
      refine wpIn_seq ?_
      refine reg_step (Q := fun _ st' => st' = ⟨[(24, .bool (decide ((j : Int) < cnt))), (0, .lit yv), (1, .cell [.int .i64 k, .int .i64 x, .int .i64 r, .lit u3]), (5, .int .i64 (atN j : Nat)), (21, .list cnt (ks .i64 (lensL L n))), (22, .int .i64 cnt), (23, .int .i64 j)], []⟩) (hF i10) hd1 [(1, v1), (21, sv)] (hI rfl rfl i4 i6) (by simp (maxSteps := 4000000) (disch := omega) only [abv, step, stepv, ev, wl, wn, wp, wz, aop, cV, cV1, AV.one, partCells, okW, onlyFr, app, sliceCells, cellsAt, srcA, subA, eqFs, Int.cast_ofNat_Int, simprocAttr]) hsA ?_
      rintro _ aB WB rfl hsB tB
      have bW : Below Wj.heap.size Wj WB := hsB.2.2.1
      show (Code.seq (.cond _ .skip (.exit 0)) _).wpIn Fence.wide 4 _ _ aB WB
      have h24 : aB.eval (.tmp 24) = .bool (decide ((j : Int) < cnt)) := by
        obtain ⟨_, _, _, _, _, _, h⟩ := hsB
        have h : Rep _ (.bool _) (aB.tmps.getD 24 undef) := h 24
        simp only [Rep] at h
        exact h
      refine wpIn_seq ?_
      by_cases hjc : j < cnt
      · have e24 : decide ((j : Int) < cnt) = true := by simp; omega
        rw [e24] at h24 hsB
        obtain ⟨m, p1, p2, p3, p4, p5, p6⟩ := pf j hjc
        have la : (ks .i64 (lensL L n)).drop j = .int .i64 m :: (ks .i64 (lensL L n)).drop (j + 1) := by
          have h := ks_at (K := .i64) (l := lensL L n) (i := j) (by omega)
          rw [p1, ← ks_drop] at h
          exact h
        refine wpIn_cond_true h24 (wpIn_skip ?_)
        show (Code.seq (.block 1 (.seq d5 _)) _).wpIn Fence.wide 4 _ _ aB WB
        obtain ⟨mk, hmk⟩ : ∃ mk, m * k = mk := ⟨_, rfl⟩
        rw [hmk] at p4 p5 p6
        have emk : (m : Int) * (k : Int) = mk := by rw [← hmk]; simp
        have e8 : ((atN j : Nat) : Int) + (mk : Int) = ((atN (j + 1) : Nat) : Int) := by omega
        obtain ⟨nk, hnk'⟩ : ∃ nk, n * k = nk := ⟨_, rfl⟩
        rw [hnk'] at p6 hnk hcap hl
        have hm4 : (m : Int) ≤ 4000 := by omega
        refine wpIn_seq (wpIn_block (wpIn_seq ?_))
        refine reg_step (Q := fun _ st' => Le 0 st' ⟨[(7, .int .i64 m), (0, .lit yv), (1, .cell [.int .i64 k, .int .i64 x, .int .i64 r, .lit u3]), (5, .int .i64 (atN j : Nat)), (21, .list cnt (ks .i64 (lensL L n))), (22, .int .i64 cnt), (23, .int .i64 j)], []⟩) (hF i10) hd5 [(1, v1), (21, sv)] (hI rfl rfl (tB (1, v1) (by simp)) (tB (21, sv) (by simp)))
          (by simp (maxSteps := 4000000) (disch := omega) only [abv, step, stepv, ev, wl, wn, wp, wz, aop, cV, cV1, AV.one, partCells, okW, onlyFr, app, sliceCells, cellsAt, srcA, subA, eqFs, Int.cast_ofNat_Int, simprocAttr, la, ks_length]; exact Le.slots (by simp [Am.look])) hsB ?_
        intro st5 a5 W5 hle5 hs5' t5
        have hs5 := hle5 _ _ _ rfl hs5'
        show (Code.seq d6 _).wpIn Fence.wide 4 _ _ a5 W5
        refine wpIn_seq ?_
        refine reg_step (Q := fun _ st' => Le 0 st' ⟨[(8, .int .i64 (atN (j + 1) : Nat)), (0, .lit yv), (1, .cell [.int .i64 k, .int .i64 x, .int .i64 r, .lit u3]), (5, .int .i64 (atN j : Nat)), (21, .list cnt (ks .i64 (lensL L n))), (22, .int .i64 cnt), (23, .int .i64 j)], []⟩) (hF i10) hd6 [(1, v1), (21, sv)] (hI rfl rfl (t5 (1, v1) (by simp)) (t5 (21, sv) (by simp)))
          (by simp (maxSteps := 4000000) (disch := omega) only [abv, step, stepv, ev, wl, wn, wp, wz, aop, cV, cV1, AV.one, partCells, okW, onlyFr, app, sliceCells, cellsAt, srcA, subA, eqFs, Int.cast_ofNat_Int, simprocAttr, emk, e8]; exact Le.slots (by simp [Am.look])) hs5 ?_
        intro st6 a6 W6 hle6 hs6' t6
        have hs6 := hle6 _ _ _ rfl hs6'
        show (Code.seq (.seq (.region id7 ops false) _) d8).wpIn Fence.wide 4 _ _ a6 W6
        refine wpIn_seq (wpIn_seq (wpIn_region_list ?_))
        rw [hops]
        refine wpListIn_cut l5 _ a6 W6 (wpListIn_mono ?_ _ _ _ (list_step (Q := fun _ st' => Le 0 st' ⟨[(33, .lit yv), (0, .lit yv), (35, .lit u3), (36, .int .i64 (atN j : Nat)), (37, .int .i64 (atN (j + 1) : Nat)), (8, .int .i64 (atN (j + 1) : Nat)), (22, .int .i64 cnt), (23, .int .i64 j)], []⟩) (hF i10) hm5 [(1, v1), (21, sv)] (hI rfl rfl (t6 (1, v1) (by simp)) (t6 (21, sv) (by simp)))
          (by simp (maxSteps := 4000000) (disch := omega) only [abv, step, stepv, ev, wl, wn, wp, wz, aop, cV, cV1, AV.one, partCells, okW, onlyFr, app, sliceCells, cellsAt, srcA, subA, eqFs, Int.cast_ofNat_Int, simprocAttr]; exact Le.slots (by simp [Am.look])) hs6))
        rintro _ a7 W7 ⟨rfl, st7, hle7, hs7', t7⟩
        have hs7 := hle7 _ _ _ rfl hs7'
        show wpListIn Fence.wide 4 _ _ _ (oS :: oY :: l1) a7 W7
        have W7b : Below Wj.heap.size Wj W7 := hs7.2.2.1
        have hd7 : a7.defers = [] := hs7.1
        have hz7 : a7.tmps.size = 43 := hs7.2.1
        have f7 : ∀ {i : Nat} {v : Value}, Rep ⟨W7, [], [], fun _ _ => False⟩ (.lit v) (a7.tmps.getD i undef) → a7.tmps.getD i undef = v := fun h => by simpa only [Rep] using h
        have f33 : a7.tmps.getD 33 undef = yv := by obtain ⟨_, _, _, _, _, _, h⟩ := hs7; have h : Rep _ (.lit yv) (a7.tmps.getD 33 undef) := h 33; simpa only [Rep] using h
        have f35 : a7.tmps.getD 35 undef = u3 := by obtain ⟨_, _, _, _, _, _, h⟩ := hs7; have h : Rep _ (.lit u3) (a7.tmps.getD 35 undef) := h 35; simpa only [Rep] using h
        have f8 : a7.tmps.getD 8 undef = .int .i64 (atN (j + 1) : Nat) := by obtain ⟨_, _, _, _, _, _, h⟩ := hs7; have h : Rep _ (.int .i64 _) (a7.tmps.getD 8 undef) := h 8; simpa only [Rep] using h
        have f22 : a7.tmps.getD 22 undef = .int .i64 cnt := by obtain ⟨_, _, _, _, _, _, h⟩ := hs7; have h : Rep _ (.int .i64 _) (a7.tmps.getD 22 undef) := h 22; simpa only [Rep] using h
        have f23 : a7.tmps.getD 23 undef = .int .i64 j := by obtain ⟨_, _, _, _, _, _, h⟩ := hs7; have h : Rep _ (.int .i64 _) (a7.tmps.getD 23 undef) := h 23; simpa only [Rep] using h
        obtain ⟨be7, g7, _, hη, _⟩ := hs7.eta (hF i10).2
        -- the slice
        obtain ⟨cS, dS, _, gS⟩ := cOper_spec hoS
        obtain ⟨tS, eS, opS, uS, zS⟩ := cOp_slice (cAK_op cS (by intro h; cases h))
        have gS' : oS.guard = none := by
          rcases gS with ⟨h, _⟩ | ⟨_, _, _, _, _, h⟩
          · exact h
          · cases h
        have ex : a7.eval (.tmp 35) = .slice sa nk cap := by rw [← hl]; exact f35.trans e3
        have hrun := slice_exact (X := ⟨W7, [], be7, fun _ _ => False⟩) g7 hη opS uS zS ex (l := (atN j : Nat)) (h := (atN (j + 1) : Nat)) (by simp [loA, opd, look]) (by simp [hiA, opd, look]) (by omega) (by omega) (by omega)
        simp only [Int.toNat_natCast] at hrun
        unfold wpListIn
        rw [if_pos (by simp [Region.wanted, gS'])]
        unfold Oper.wpIn
        refine ⟨fun _ _ => trivial, ?_⟩
        rw [semW, hrun]
        show wpListIn Fence.wide 4 _ _ _ (oY :: l1) (a7.put oS.dst _) W7
        rw [← dS]
        -- the call of yield
        obtain ⟨cY, dY, _, gY⟩ := cOper_spec hoY
        obtain ⟨cl, opY, calY, argY⟩ := cAK_callv cY
        have gY' : oY.guard = none := by
          rcases gY with ⟨h, _⟩ | ⟨_, _, _, _, _, h⟩
          · exact h
          · cases h
        have argY' : cl.args = #[.tmp 38] := Array.ext' argY.symm
        unfold wpListIn
        rw [if_pos (by simp [Region.wanted, gY'])]
        have hJ7 : J ((List.finRange cnt).take j) W7 := hJ _ Wj W7 none i11 (below_grown W7b) (fun r h => by cases h)
        have hlen : ((List.finRange cnt).take j).length < cnt := by simp; omega
        obtain ⟨vj, hvj⟩ : ∃ vj : Value, vj = .slice (if cap = atN j then sa else sa.map (·.add (atN j * 1))) (atN (j + 1) - atN j) (cap - atN j) := ⟨_, rfl⟩
        have hY' := hY ((List.finRange cnt).take j) ⟨j, hjc⟩ W7 hJ7 hlen
        simp only at hY'
        rw [← hvj] at hY' ⊢
        have p38 : (a7.put (some 38) vj).tmps.getD 38 undef = vj := by simp [Act.put, hz7]
        have p33 : (a7.put (some 38) vj).tmps.getD 33 undef = .func (.yield ll) #[] #[] := by rw [put_stays (by simp), f33]; exact hyv.symm
        refine yield_step opY calY argY' p33 p38 hY' ?_
        rw [← dY]
        have z8 : ∀ bb : Bool, ((a7.put (some 38) vj).put (some 39) (.bool bb)).tmps.size = 43 := fun bb => by rw [put_size, put_size]; exact hz7
        have p39 : ∀ bb : Bool, ((a7.put (some 38) vj).put (some 39) (.bool bb)).tmps.getD 39 undef = .bool bb := fun bb => by simp [Act.put, hz7]
        have pO : ∀ (bb : Bool) (i : Nat), i ≠ 38 → i ≠ 39 → ((a7.put (some 38) vj).put (some 39) (.bool bb)).tmps.getD i undef = a7.tmps.getD i undef := fun bb i h1 h2 => by
          rw [put_stays (by simpa using fun h => h2 h.symm), put_stays (by simpa using fun h => h1 h.symm)]
        have d8' : ∀ bb : Bool, ((a7.put (some 38) vj).put (some 39) (.bool bb)).defers = [] := fun bb => by rw [put_defers, put_defers]; exact hd7
        have hI3 : ∀ {qs : List AO} {a : Act}, noDst 0 qs = true → noDst 1 qs = true → noDst 21 qs = true → a.tmps.getD 0 undef = yv → a.tmps.getD 1 undef = v1 → a.tmps.getD 21 undef = sv → ∀ p ∈ [(0, yv), (1, v1), (21, sv)], noDst p.1 qs = true ∧ a.tmps.getD p.1 undef = p.2 := fun h1 h2 h3 h4 h5 h6 p hp => by
          simp only [List.mem_cons, List.not_mem_nil, or_false] at hp
          rcases hp with rfl | rfl | rfl
          · exact ⟨h1, h4⟩
          · exact ⟨h2, h5⟩
          · exact ⟨h3, h6⟩
        have f0 : a7.tmps.getD 0 undef = yv := by obtain ⟨_, _, _, _, _, _, h⟩ := hs7; have h : Rep _ (.lit yv) (a7.tmps.getD 0 undef) := h 0; simpa only [Rep] using h
        have q0 : ∀ bb : Bool, _ := fun bb => (pO bb 0 (by omega) (by omega)).trans f0
        have q1 : ∀ bb : Bool, _ := fun bb => (pO bb 1 (by omega) (by omega)).trans (t7 (1, v1) (by simp))
        have q21 : ∀ bb : Bool, _ := fun bb => (pO bb 21 (by omega) (by omega)).trans (t7 (21, sv) (by simp))
        rintro e W8 (⟨rfl, hJ8, hK8⟩ | ⟨rfl, hX8⟩)
        · refine ⟨true, rfl, ?_⟩
          have hbr7 : W7.heap[br]? = some (.cells cur t0 frz) := (W7b.block br (Array.getElem?_eq_some_iff.1 i9).1).trans i9
          have hbr8 : W8.heap[br]? = some (.cells cur t0 frz) := (hK8.1 br cur t0 frz hbr7 (by simp)).trans hbr7
          have hk8 : ∀ (b k : Nat) (v : Value), ¬ C b k → w.cell? ⟨b, k, none⟩ = some v → W8.cell? ⟨b, k, none⟩ = some v := fun b k v hc hv => by
            have h1 := i10 b k v hc hv
            exact hK8.2 b k v hc ((W7b.cell (p := ⟨b, k, none⟩) (World.block_lt_of_cell? Wj _ h1)).trans h1)
          have hs8 : Sim (ΓW W8) ⟨[(39, .bool true), (8, .int .i64 (atN (j + 1) : Nat)), (22, .int .i64 cnt), (23, .int .i64 j)], []⟩ ((a7.put (some 38) vj).put (some 39) (.bool true)) W8 :=
            sim0 (d8' true) (z8 true) (rep_fr_cons (by rw [p39]; simp only [Rep]) (rep_fr_cons (by rw [pO true 8 (by omega) (by omega), f8]; simp only [Rep]) (rep_fr_cons (by rw [pO true 22 (by omega) (by omega), f22]; simp only [Rep]) (rep_fr_cons (by rw [pO true 23 (by omega) (by omega), f23]; simp only [Rep]) rep_fr_nil))))
          refine wpListIn_mono ?_ _ _ _ (list_step (Q := fun _ st' => Le 0 st' ⟨[(40, .bool false), (8, .int .i64 (atN (j + 1) : Nat)), (22, .int .i64 cnt), (23, .int .i64 j)], []⟩) (hF hk8) hm1 [(0, yv), (1, v1), (21, sv)] (hI3 rfl rfl rfl (q0 true) (q1 true) (q21 true))
            (by simp (maxSteps := 4000000) (disch := omega) only [abv, step, stepv, ev, wl, wn, wp, wz, aop, cV, cV1, AV.one, partCells, okW, onlyFr, app, sliceCells, cellsAt, srcA, subA, eqFs, Int.cast_ofNat_Int, simprocAttr, Bool.not_true]; exact Le.slots (by simp [Am.look])) hs8)
          rintro _ a9 W9 ⟨rfl, st9, hle9, hs9', t9⟩
          have hs9 := hle9 _ _ _ rfl hs9'
          show (Code.cond _ .ret .skip).wpIn Fence.wide 4 _ _ a9 W9
          have h40 : a9.eval (.tmp 40) = .bool false := by obtain ⟨_, _, _, _, _, _, h⟩ := hs9; have h : Rep _ (.bool _) (a9.tmps.getD 40 undef) := h 40; simp only [Rep] at h; exact h
          refine wpIn_cond_false h40 (wpIn_skip ?_)
          show d8.wpIn Fence.wide 4 _ _ a9 W9
          refine reg_step (Q := fun _ st' => Le 0 st' ⟨[(5, .int .i64 (atN (j + 1) : Nat)), (22, .int .i64 cnt), (23, .int .i64 j)], []⟩) (hF hk8) hd8 [(0, yv), (1, v1), (21, sv)] (hI3 rfl rfl rfl (t9 (0, yv) (by simp)) (t9 (1, v1) (by simp)) (t9 (21, sv) (by simp)))
            (by simp (maxSteps := 4000000) (disch := omega) only [abv, step, stepv, ev, wl, wn, wp, wz, aop, cV, cV1, AV.one, partCells, okW, onlyFr, app, sliceCells, cellsAt, srcA, subA, eqFs, Int.cast_ofNat_Int, simprocAttr]; exact Le.slots (by simp [Am.look])) hs9 ?_
          intro stA aA WA hleA hsA' tA
          have hsA2 := hleA _ _ _ rfl hsA'
          show d9.wpIn Fence.wide 4 _ _ aA WA
          refine reg_step (Q := fun _ st' => Le 0 st' ⟨[(5, .int .i64 (atN (j + 1) : Nat)), (22, .int .i64 cnt), (23, .int .i64 ((j + 1 : Nat) : Int))], []⟩) (hF hk8) hd9 [(0, yv), (1, v1), (21, sv)] (hI3 rfl rfl rfl (tA (0, yv) (by simp)) (tA (1, v1) (by simp)) (tA (21, sv) (by simp)))
            (by simp (maxSteps := 4000000) (disch := omega) only [abv, step, stepv, ev, wl, wn, wp, wz, aop, cV, cV1, AV.one, partCells, okW, onlyFr, app, sliceCells, cellsAt, srcA, subA, eqFs, Int.cast_ofNat_Int, simprocAttr]; exact Le.slots (by simp [Am.look])) hsA2 ?_
          intro stC aC WC hleC hsC' tC
          have hsC := hleC _ _ _ rfl hsC'
          have WCb : Below W8.heap.size W8 WC := hsC.2.2.1
          obtain ⟨h1, h2, _, _, _, _, hC⟩ := hsC
          have c5 : aC.tmps.getD 5 undef = .int .i64 (atN (j + 1) : Nat) := by have h : Rep _ (.int .i64 _) (aC.tmps.getD 5 undef) := hC 5; simpa only [Rep] using h
          have c22 : aC.tmps.getD 22 undef = .int .i64 cnt := by have h : Rep _ (.int .i64 _) (aC.tmps.getD 22 undef) := hC 22; simpa only [Rep] using h
          have c23 : aC.tmps.getD 23 undef = .int .i64 ((j + 1 : Nat) : Int) := by have h : Rep _ (.int .i64 _) (aC.tmps.getD 23 undef) := hC 23; simpa only [Rep] using h
          refine ⟨⟨j + 1, by omega, h1, h2, tC (0, yv) (by simp), tC (1, v1) (by simp), c5, tC (21, sv) (by simp), c22, c23, (WCb.block br (Array.getElem?_eq_some_iff.1 hbr8).1).trans hbr8, fun b k v hc hv => ?_, ?_⟩, ?_⟩
          · have h := hk8 b k v hc hv
            exact (WCb.cell (p := ⟨b, k, none⟩) (World.block_lt_of_cell? W8 _ h)).trans h
          · rw [finR_take hjc]
            exact hJ _ W8 WC none hJ8 (below_grown WCb) (fun r h => by cases h)
          · simp only [c23, i8, Int.toNat_natCast]
            omega
        · refine ⟨false, rfl, ?_⟩
          have hs8 : Sim (ΓW W8) ⟨[(39, .bool false)], []⟩ ((a7.put (some 38) vj).put (some 39) (.bool false)) W8 :=
            sim0 (d8' false) (z8 false) (rep_fr_cons (by rw [p39]; simp only [Rep]) rep_fr_nil)
          let P0 : Prg := ⟨P.prog, [], fun _ _ h => by cases h⟩
          refine wpListIn_mono ?_ _ _ _ (list_step (P := P0) (N := 43) (Γ := ΓW W8) (Q := fun _ st' => Le 0 st' ⟨[(40, .bool true)], []⟩) ⟨rfl, fun _ _ h => by cases h⟩ hm1 [] (fun p hp => by cases hp)
            (by simp (maxSteps := 4000000) (disch := omega) only [abv, step, stepv, ev, wl, wn, wp, wz, aop, cV, cV1, AV.one, partCells, okW, onlyFr, app, sliceCells, cellsAt, srcA, subA, eqFs, Int.cast_ofNat_Int, simprocAttr, Bool.not_false]; exact Le.slots (by simp [Am.look])) hs8)
          rintro _ a9 W9 ⟨rfl, st9, hle9, hs9', t9⟩
          have hs9 := hle9 _ _ _ rfl hs9'
          show (Code.cond _ .ret .skip).wpIn Fence.wide 4 _ _ a9 W9
          have h40 : a9.eval (.tmp 40) = .bool true := by obtain ⟨_, _, _, _, _, _, h⟩ := hs9; have h : Rep _ (.bool _) (a9.tmps.getD 40 undef) := h 40; simp only [Rep] at h; exact h
          refine wpIn_cond_true h40 (wpIn_ret ?_)
          have hX9 := hJx _ W8 W9 none hX8 (below_grown hs9.2.2.1) (fun r h => by cases h)
          exact ⟨hs9.1, .tuple #[], results_none (Array.ext' hrl) _ _ _, ⟨_, rfl⟩, .inr ⟨_, trivial, hX9⟩⟩
      · have e24 : decide ((j : Int) < cnt) = false := by simp; omega
        rw [e24] at h24
        refine wpIn_cond_false h24 (wpIn_exit ?_)
        have hjc' : j = cnt := by omega
        rw [hjc', List.take_of_length_le (by simp)] at i11
        have hJB : J (List.finRange cnt) WB := hJ _ Wj WB none i11 (below_grown bW) (fun r h => by cases h)
        have hdB : aB.defers = [] := hsB.1
        exact ⟨hdB, .tuple #[], results_none (Array.ext' hrl) _ _ _, ⟨_, rfl⟩, .inl ⟨_, rfl, hJB⟩⟩
end Go.Am

namespace Go.Am
open Go.RowKit

def S_Parts24 (g : Nat) (P : Prg) (f : Nat) : Prop := ∀ (c x r : Int) (l : List Int), VC P f [clA c x r l] (.fn (.func g) [] [.cell [.int .i64 c, .int .i64 x, .int .i64 r, il l]])
theorem clip_parts {P : Prg} {f g t0 : Nat} (b : Body P f 4 [.tmp 2] (ac_clip_parts g t0)) : S_Parts24 g P f := by
  intro c x r l
  refine VC.of_walk 1 (by simp [isDL, isD, isD_il, clA]) (by simp [isD, isDL, isD_il]) (ACall.of_body b (by simp) ?_)
  simp (maxSteps := 4000000) (disch := omega) only [abv, step, stepv, ev, wl, wn, wp, wz, aop, cV, cV1, AV.one, partCells, okW, onlyFr, app, sliceCells, cellsAt, srcA, subA, eqFs, Int.cast_ofNat_Int, simprocAttr, ac_clip_parts, clA, il]
  simp [frzN, frzK, frzL, frzV, isDL, isD, frzL_T _ (isTL_ks .i32 _)]

def partsOf (c r : Int) (l : List Int) : List (List Int) := (List.range (lensL (longN r).toNat (l.length / c.toNat)).length).map (partL ((longN r).toNat * c.toNat) l)

theorem clip_ok {c x r : Int} {l : List Int} (h : clipN c x r l = 0) : ∃ k n : Nat, c = k ∧ 1 ≤ k ∧ k ≤ 1000 ∧ l.length = n * k ∧ okA r n ∧ l.length ≤ 4000 := by
  unfold clipN at h
  split at h
  · cases h
  rename_i h1
  split at h
  · cases h
  rename_i h2
  split at h
  · cases h
  rename_i h3
  have h3' : headN c x r (l.length / c) = 0 := by simpa using h3
  have h2' : (l.length : Int) % c = 0 := by simpa using h2
  obtain ⟨k, rfl⟩ : ∃ k : Nat, c = k := ⟨c.toNat, by omega⟩
  have e1 : (l.length : Int) / (k : Int) = ((l.length / k : Nat) : Int) := by simp
  have e2 : l.length % k = 0 := by exact_mod_cast h2'
  rw [e1] at h3'
  have e3 := Nat.div_add_mod l.length k
  rw [e2, Nat.add_zero, Nat.mul_comm] at e3
  unfold headN at h3'
  split at h3'
  · cases h3'
  rename_i a1
  split at h3'
  · cases h3'
  rename_i a2
  split at h3'
  · cases h3'
  rename_i a3
  split at h3'
  · cases h3'
  rename_i a4
  obtain ⟨n, hn⟩ : ∃ n, l.length / k = n := ⟨_, rfl⟩
  rw [hn] at e3 a2 a3 a4
  have a5 : eCheck k x = 0 := by simpa using a1
  have a6 : cntE r n = 0 := by simpa using a4
  rcases eCheck_cases (k : Int) x with h4 | ⟨_, h5, h6, h7⟩
  · omega
  have hle : n * k ≤ 4000 := by
    have h8 : (n : Int) ≤ 4000 / (k : Int) := by omega
    have h9 := Int.mul_le_of_le_ediv (a := (n : Int)) (b := 4000) (c := (k : Int)) (by omega) h8
    have h10 : ((n * k : Nat) : Int) ≤ 4000 := by rw [Int.natCast_mul]; exact h9
    omega
  have hn4 : n ≤ 4000 := Nat.le_trans (Nat.le_mul_of_pos_right n (by omega)) hle
  refine ⟨k, n, rfl, by omega, by omega, e3.symm, ?_, by omega⟩
  unfold cntE at a6
  split at a6
  · cases a6
  split at a6
  · cases a6
  split at a6
  · cases a6
  rename_i b1 b2 b3
  refine ⟨by omega, by omega, by omega, by omega, ?_⟩
  have hlong : 1 ≤ longN r := longN_pos r
  obtain ⟨L, hLe⟩ : ∃ L : Nat, longN r = L := ⟨(longN r).toNat, by omega⟩
  rw [hLe, Int.toNat_natCast, Int.toNat_natCast, lensL_len]
  rw [hLe] at b3
  have h1 : (n : Int) + (L : Int) - 1 = ((n - 1 + L : Nat) : Int) := by omega
  rw [h1, ← Int.natCast_ediv, Nat.add_div_right _ (by omega)] at b3
  omega

theorem partsOf_len (c r : Int) (l : List Int) : (partsOf c r l).length = (lensL (longN r).toNat (l.length / c.toNat)).length := by simp [partsOf]
theorem isTL_map_il : ∀ L : List (List Int), isTL (L.map il) = true
  | [] => rfl
  | l :: L => by simp [isTL, isT, il, isTL_ks, isTL_map_il L]

def splitA (c x r : Int) (l : List Int) : AV := if clipN c x r l = 0 then .tup [iss (partsOf c r l), .int .i64 0] else .tup [iss [], .int .i64 8]
theorem isD_splitA (c x r : Int) (l : List Int) : isD (splitA c x r l) = true := by unfold splitA; split <;> simp [isD, isDL, isD_iss]
theorem clipN_cases (c x r : Int) (l : List Int) : clipN c x r l = 0 ∨ clipN c x r l = 8 := by
  unfold clipN; repeat' split
  all_goals simp
def S_Split (P : Prg) (f : Nat) : Prop := ∀ (c x r : Int) (l : List Int), I32 l → l.length ≤ 1000000 → VC P f [clA c x r l] (splitA c x r l)
end Go.Am

namespace Go.Am
open Go.RowKit

/-! ### clip.Join -/

/-! The parts of a whole. -/

theorem parts_take (Lc : Nat) (l : List Int) : ∀ m : Nat, ((List.range m).map (partL Lc l)).flatten = l.take (m * Lc)
  | 0 => by simp
  | m + 1 => by
    rw [List.range_succ, List.map_append, List.flatten_append, parts_take Lc l m, Nat.add_mul, Nat.one_mul, List.take_add]
    simp [partL]
theorem parts_flat {c x r : Int} {l : List Int} (h : clipN c x r l = 0) : (partsOf c r l).flatten = l := by
  obtain ⟨k, n, rfl, h1, h2, h3, ⟨o1, o2, o3, o4, o5⟩, h4⟩ := clip_ok h
  unfold partsOf
  rw [parts_take, Int.toNat_natCast, h3, Nat.mul_div_cancel _ (by omega), lensL_len, List.take_of_length_le]
  have hL : 1 ≤ (longN r).toNat := by have := longN_pos r; omega
  have g2 : n - 1 < (n - 1) / (longN r).toNat * (longN r).toNat + (longN r).toNat := Nat.lt_div_mul_add (by omega)
  rw [h3, ← Nat.mul_assoc, Nat.add_mul, Nat.one_mul]
  refine Nat.mul_le_mul_right _ ?_
  generalize (n - 1) / (longN r).toNat * (longN r).toNat = w at *
  omega
theorem partsOf_le {c x r : Int} {l : List Int} (h : clipN c x r l = 0) : (partsOf c r l).length ≤ 1000 := by
  obtain ⟨k, n, rfl, h1, h2, h3, ⟨o1, o2, o3, o4, o5⟩, h4⟩ := clip_ok h
  rw [partsOf_len, Int.toNat_natCast, h3, Nat.mul_div_cancel _ (by omega)]
  rwa [Int.toNat_natCast] at o5
end Go.Am

namespace Go.Am
open Go.RowKit

/-! ### The reference's Parts, Split, Join -/

def S_RParts (P : Prg) (f : Nat) : Prop := ∀ (c x r : Int) (l : List Int), clipN c x r l = 0 → VC P f [clA c x r l] (iss (partsOf c r l))
theorem ref24_Parts {P : Prg} {f fA t0 t1 t2 : Nat} (bd : Body P f 48 [.tmp 2] (ac_cadenzaref24_Parts fA t0 t1 t2)) (hA : S_All22 P fA) : S_RParts P f := by
  intro c x r l h
  have hle := partsOf_le h
  have hpl := partsOf_len c r l
  obtain ⟨k, n, rfl, k1, k2, hlen, ⟨o1, o2, o3, o4, o5⟩, h4⟩ := clip_ok h
  refine VC.of_walk 2 (by simp [isDL, isD, isD_il, clA]) (isD_iss _) (ACall.of_body bd (by simp) ?_)
  obtain ⟨L, hL⟩ : ∃ L, (longN r).toNat = L := ⟨_, rfl⟩
  have hL1 : 1 ≤ L := by have := longN_pos r; omega
  have hA' := hA r n
  have e1 : allA r n = .tup [i64L (lensL L n), .int .i64 0] := by
    unfold allA
    rw [if_neg (by omega), if_neg (by omega), hL, Int.toNat_natCast]
  rw [e1] at hA'
  rw [Int.toNat_natCast, hlen, Nat.mul_div_cancel _ (by omega), hL] at hpl
  have hk0 : ((n * k : Nat) : Int) / (k : Int) = n := by rw [Int.natCast_mul, Int.mul_ediv_cancel _ (by omega)]
  have hk3 : ((n * k : Nat) : Int).tdiv (k : Int) = n := by rw [Int.tdiv_eq_ediv_of_nonneg (by omega), hk0]
  obtain ⟨cnt, hcnt⟩ : ∃ cnt, (lensL L n).length = cnt := ⟨_, rfl⟩
  have pf : ∀ j, j < cnt → ∃ m mk : Nat, (lensL L n).getD j 0 = m ∧ m ≤ n ∧ m * k = mk ∧ mk ≤ (l.drop (j * (L * k))).length ∧ (partsOf k r l).getD j [] = (l.drop (j * (L * k))).take mk ∧ (l.drop (j * (L * k))).drop mk = l.drop ((j + 1) * (L * k)) := fun j hj => by
    obtain ⟨m, h1, h2, h3, h4, h5, h6, h7⟩ := part_facts (j := j) hlen (by omega) hL1 (by rw [hcnt]; exact hj)
    refine ⟨m, m * k, h1, h2, rfl, by rw [List.length_drop, hlen]; omega, ?_, ?_⟩
    · rw [← h6]
      unfold partsOf
      rw [Int.toNat_natCast, hlen, Nat.mul_div_cancel _ (by omega), hL, hcnt, List.getD_eq_getElem?_getD, List.getElem?_map, List.getElem?_range hj]
      rfl
    · rw [List.drop_drop]
      rcases Nat.le_total ((j + 1) * (L * k)) (n * k) with h8 | h8
      · rw [Nat.min_eq_left h8] at h5
        rw [h5]
      · rw [Nat.min_eq_right h8] at h5
        rw [List.drop_of_length_le (by omega), List.drop_of_length_le (by omega)]
  rw [hcnt] at hpl
  rw [hpl] at hle
  obtain ⟨Lc, hLc⟩ : ∃ Lc, L * k = Lc := ⟨_, rfl⟩
  rw [hLc] at pf
  have tl := isTL_ks .i32 l
  have lenl : (ks .i64 (lensL L n)).length = cnt := by rw [ks_length, hcnt]
  rw [i64L, hcnt] at hA'
  simp (maxSteps := 4000000) (disch := omega) only [abv, step, stepv, ev, wl, wn, wp, wz, aop, cV, cV1, AV.one, partCells, okW, onlyFr, app, sliceCells, cellsAt, srcA, subA, eqFs, Int.cast_ofNat_Int, simprocAttr, ac_cadenzaref24_Parts, clA, il, hlen, hk0, hk3]
  refine callD.vc hA' ?_
  simp (maxSteps := 4000000) (disch := omega) only [abv, step, stepv, ev, wl, wn, wp, wz, aop, cV, cV1, AV.one, partCells, okW, onlyFr, app, sliceCells, cellsAt, srcA, subA, eqFs, Int.cast_ofNat_Int, simprocAttr]
  refine ALoop.by (ι := Nat) (fun j => ⟨[(7, .int .i64 j), (6, .own 1 j), (5, .list (l.drop (j * Lc)).length (ks .i32 (l.drop (j * Lc)))), (3, .list cnt (ks .i64 (lensL L n))), (1, .ref 0 1 0)], [⟨t0, 4, 1, [.int .i64 k, .int .i64 x, .int .i64 r, .list (n * k) (ks .i32 l)], 0⟩, ⟨t2, 1, j, ((partsOf k r l).take j).map il, 0⟩]⟩)
    (fun j => j ≤ cnt) (fun j => cnt - j) 0 ?_ (by omega) ?_
  · simp only [Nat.zero_mul, List.drop_zero, hlen, List.take_zero, List.map_nil]
    exact Le.trans (Le.virt 6 t2 1 (by omega) rfl) (Le.slots (by simp [Am.look]))
  · intro j hj
    have hpt : (((partsOf k r l).take j).map il).length = j := by simp; omega
    by_cases hlt : j < cnt
    · obtain ⟨m, mk, p1, p2, p3, p4, p5, p6⟩ := pf j hlt
      have la : (ks .i64 (lensL L n)).drop j = .int .i64 m :: (ks .i64 (lensL L n)).drop (j + 1) := by
        have h := ks_at (K := .i64) (l := lensL L n) (i := j) (by omega)
        rw [p1, ← ks_drop] at h
        exact h
      have emk : (m : Int) * (k : Int) = mk := by rw [← p3]; simp
      obtain ⟨D, hD⟩ : ∃ D, l.drop (j * Lc) = D := ⟨_, rfl⟩
      have hDl : D.length ≤ 4000 := by rw [← hD, List.length_drop]; omega
      rw [hD] at p4 p5 p6 ⊢
      have htk : (ks .i32 D).take mk = ks .i32 (D.take mk) := ks_take _ _ _
      have hdk : (ks .i32 D).drop mk = ks .i32 (D.drop mk) := ks_drop _ _ _
      have kD : (ks .i32 D).length = D.length := ks_length _ _
      have dl : (D.drop mk).length = D.length - mk := List.length_drop
      have tkl : (D.take mk).length = mk := by simp; omega
      have tks : (ks .i32 (D.take mk)).length = mk := by rw [ks_length, tkl]
      have hmin : min mk D.length = mk := Nat.min_eq_left p4
      have hEl : (l.drop ((j + 1) * Lc)).length = D.length - mk := by rw [← p6]; exact dl
      have htE : (ks .i32 (l.drop ((j + 1) * Lc))).take (D.length - mk) = ks .i32 (l.drop ((j + 1) * Lc)) := List.take_of_length_le (by rw [ks_length, hEl]; exact Nat.le_refl _)
      have hsn : (partsOf k r l).take (j + 1) = (partsOf k r l).take j ++ [D.take mk] := by
        rw [List.take_succ_eq_append_getElem (by omega)]
        rw [List.getD_eq_getElem?_getD, List.getElem?_eq_getElem (by omega)] at p5
        simp only [Option.getD_some] at p5
        rw [p5]
      simp (maxSteps := 4000000) (disch := omega) only [abv, step, stepv, ev, wl, wn, wp, wz, aop, cV, cV1, AV.one, partCells, okW, onlyFr, app, sliceCells, cellsAt, srcA, subA, eqFs, Int.cast_ofNat_Int, simprocAttr, la, lenl, emk, kD, htk, hdk, tks, hpt, p6, hmin, Nat.sub_zero, htE]
      refine ⟨j + 1, by omega, by omega, ?_⟩
      have tp : isTL (((partsOf k r l).map il).take j) = true := by rw [← List.map_take]; exact isTL_map_il _
      have tD := isTL_ks .i32 (D.take mk)
      refine Le.drop 2 2 (by omega) rfl ?_ ?_
      · rw [← List.length_drop, hEl]
        simp [Am.look, frzK, frzL, frzV, frzL_T _ (isTL_ks .i32 _), frzL_T _ (isTL_ks .i64 _)]
      · intro i z hz
        match i, hz with
        | 0, hz => cases hz; exact ⟨_, rfl, by simp [frzK, frzL, frzV, frzL_T _ tl]⟩
        | 1, hz =>
          cases hz
          refine ⟨_, rfl, ?_⟩
          rw [hsn, List.map_append]
          simp [frzK, frzL_append, frzL_T _ tp, frzL, frzV, frzL_T _ tD, il, tkl]
        | i + 2, hz => simp at hz
    · obtain rfl : j = cnt := by omega
      have e : (partsOf k r l).take j = partsOf k r l := List.take_of_length_le (by omega)
      rw [e]
      have tp := isTL_map_il (partsOf k r l)
      generalize hPP : (partsOf k r l).map il = PP at *
      simp (maxSteps := 4000000) (disch := omega) only [abv, step, stepv, ev, wl, wn, wp, wz, aop, cV, cV1, AV.one, partCells, okW, onlyFr, app, sliceCells, cellsAt, srcA, subA, eqFs, Int.cast_ofNat_Int, simprocAttr]
      simp [frzN, frzK, frzL, frzV, isDL, isD, iss, hpl, hPP, frzL_T _ tp]

theorem ref24_Split {P : Prg} {f fC fP t0 : Nat} (bd : Body P f 9 [.tmp 2, .tmp 3] (ac_cadenzaref24_Split fC fP t0)) (hC : S_ClipCheck P fC) (hP : S_RParts P fP) : S_Split P f := by
  intro c x r l hI hl
  refine VC.of_walk 1 (by simp [isDL, isD, isD_il, clA]) (isD_splitA _ _ _ _) (ACall.of_body bd (by simp) ?_)
  have hC' := hC c x r l hI hl
  rw [il] at hC'
  simp (maxSteps := 4000000) (disch := omega) only [abv, step, stepv, ev, wl, wn, wp, wz, aop, cV, cV1, AV.one, partCells, okW, onlyFr, app, sliceCells, cellsAt, srcA, subA, eqFs, Int.cast_ofNat_Int, simprocAttr, ac_cadenzaref24_Split, clA, il]
  refine callQ.vc hC' ?_
  rcases clipN_cases c x r l with h | h
  · have hP' := hP c x r l h
    rw [clA, il] at hP'
    have e9 : splitA c x r l = .tup [iss (partsOf c r l), .int .i64 0] := by rw [splitA, if_pos h]
    have tp := isTL_map_il (partsOf c r l)
    rw [h]
    simp (maxSteps := 4000000) (disch := omega) only [abv, step, stepv, ev, wl, wn, wp, wz, aop, cV, cV1, AV.one, partCells, okW, onlyFr, app, sliceCells, cellsAt, srcA, subA, eqFs, Int.cast_ofNat_Int, simprocAttr]
    refine callQ.vc hP' ?_
    simp (maxSteps := 4000000) (disch := omega) only [abv, step, stepv, ev, wl, wn, wp, wz, aop, cV, cV1, AV.one, partCells, okW, onlyFr, app, sliceCells, cellsAt, srcA, subA, eqFs, Int.cast_ofNat_Int, simprocAttr, e9]
    simp [frzN, frzK, frzL, frzV, isDL, isD, iss, frzL_T _ tp]
  · have e9 : splitA c x r l = .tup [iss [], .int .i64 8] := by rw [splitA, if_neg (by omega)]
    rw [h]
    simp (maxSteps := 4000000) (disch := omega) only [abv, step, stepv, ev, wl, wn, wp, wz, aop, cV, cV1, AV.one, partCells, okW, onlyFr, app, sliceCells, cellsAt, srcA, subA, eqFs, Int.cast_ofNat_Int, simprocAttr, e9]
    simp [frzN, frzK, frzL, frzV, isDL, isD, iss]

end Go.Am

namespace Go.Am
open Go.RowKit

/-! ### CRC-64 (plain) -/

def sixS (c : Nat) : Nat := (2 * c) % 18446744073709551616 ^^^ (if 9223372036854775808 ≤ c then 4823603603198064275 else 0)
def sixN : Nat → Nat → Nat
  | 0, c => c
  | k + 1, c => sixN k (sixS c)
theorem sixS_lt (c : Nat) : sixS c < 18446744073709551616 := by
  unfold sixS
  have : (if 9223372036854775808 ≤ c then 4823603603198064275 else 0) < 2 ^ 64 := by split <;> decide
  exact Nat.xor_lt_two_pow (n := 64) (Nat.mod_lt _ (by decide)) this
theorem sixN_lt : ∀ (k : Nat) {c : Nat}, c < 18446744073709551616 → sixN k c < 18446744073709551616
  | 0, _, h => h
  | k + 1, c, _ => sixN_lt k (sixS_lt c)
theorem sixN_succ : ∀ (k c : Nat), sixN (k + 1) c = sixS (sixN k c)
  | 0, _ => rfl
  | k + 1, c => by rw [sixN, sixN_succ k, sixN]

theorem ge_top (c : Nat) (h : c < 18446744073709551616) : (9223372036854775808 ≤ c) ↔ c.testBit 63 = true := by
  constructor
  · intro h2
    rw [Nat.testBit_eq_decide_div_mod_eq]
    have : c / 2 ^ 63 = 1 := by omega
    rw [this]; rfl
  · intro h2
    exact Nat.ge_two_pow_of_testBit h2

theorem sixS_xor {x l : Nat} (hx : x < 18446744073709551616) (hl : l < 9223372036854775808) : sixS (x ^^^ l) = sixS x ^^^ 2 * l := by
  have hxl : x ^^^ l < 18446744073709551616 := Nat.xor_lt_two_pow (n := 64) hx (by omega)
  have e1 : (9223372036854775808 ≤ x ^^^ l) ↔ (9223372036854775808 ≤ x) := by
    rw [ge_top _ hxl, ge_top _ hx, Nat.testBit_xor, Nat.testBit_lt_two_pow (show l < 2 ^ 63 from hl), Bool.xor_false]
  have e2 : (2 * (x ^^^ l)) % 18446744073709551616 = (2 * x) % 18446744073709551616 ^^^ 2 * l := by
    apply Nat.eq_of_testBit_eq
    intro i
    rw [show (18446744073709551616 : Nat) = 2 ^ 64 from rfl, Nat.testBit_mod_two_pow, Nat.testBit_xor, Nat.testBit_mod_two_pow]
    rw [show 2 * (x ^^^ l) = 2 ^ 1 * (x ^^^ l) from rfl, show 2 * x = 2 ^ 1 * x from rfl, show 2 * l = 2 ^ 1 * l from rfl, Nat.testBit_two_pow_mul, Nat.testBit_two_pow_mul, Nat.testBit_two_pow_mul, Nat.testBit_xor]
    by_cases h : i < 64
    · by_cases h1 : 1 ≤ i <;> simp [h, h1]
    · have h2 : l.testBit (i - 1) = false := Nat.testBit_lt_two_pow (Nat.lt_of_lt_of_le (show l < 2 ^ 63 from hl) (Nat.pow_le_pow_right (by decide) (by omega)))
      simp [h, h2]
  unfold sixS
  rw [e2]
  by_cases h : 9223372036854775808 ≤ x
  · rw [if_pos h, if_pos (e1.2 h), Nat.xor_assoc, Nat.xor_assoc, Nat.xor_comm (2 * l)]
  · rw [if_neg h, if_neg (fun h2 => h (e1.1 h2)), Nat.xor_assoc, Nat.xor_assoc, Nat.xor_comm (2 * l)]

theorem sixN_xor : ∀ (k : Nat) {x l : Nat}, k ≤ 64 → x < 18446744073709551616 → l < 2 ^ (64 - k) → sixN k (x ^^^ l) = sixN k x ^^^ 2 ^ k * l
  | 0, x, l, _, _, _ => by simp [sixN]
  | k + 1, x, l, hk, hx, hl => by
    have h1 : l < 9223372036854775808 := Nat.lt_of_lt_of_le hl (Nat.pow_le_pow_right (by omega) (by omega : 64 - (k + 1) ≤ 63))
    have h2 : 2 * l < 2 ^ (64 - k) := by
      rw [show 64 - k = (64 - (k + 1)) + 1 by omega, Nat.pow_succ]; omega
    rw [sixN, sixS_xor hx h1, sixN_xor k (by omega) (sixS_lt x) h2, sixN, Nat.pow_succ, Nat.mul_assoc]

def sixB (s b : Nat) : Nat := sixN 8 (s ^^^ b * 72057594037927936)
theorem xor_top {s b : Nat} (hs : s < 18446744073709551616) : s ^^^ b * 72057594037927936 = (s / 72057594037927936 ^^^ b) * 72057594037927936 ^^^ s % 72057594037927936 := by
  have h := xor_split s 56
  rw [show (2 : Nat) ^ 56 = 72057594037927936 from rfl] at h
  have e : (s / 72057594037927936 ^^^ b) * 72057594037927936 = s / 72057594037927936 * 72057594037927936 ^^^ b * 72057594037927936 := by
    apply Nat.eq_of_testBit_eq
    intro i
    rw [Nat.testBit_xor, show (72057594037927936 : Nat) = 2 ^ 56 from rfl, Nat.mul_comm _ (2 ^ 56), Nat.mul_comm _ (2 ^ 56), Nat.mul_comm b, Nat.testBit_two_pow_mul, Nat.testBit_two_pow_mul, Nat.testBit_two_pow_mul, Nat.testBit_xor]
    by_cases h : 56 ≤ i <;> simp [h]
  rw [e, Nat.xor_comm (s / 72057594037927936 * 72057594037927936), Nat.xor_assoc, Nat.mul_comm (s / 72057594037927936), Nat.xor_comm (72057594037927936 * _), ← h, Nat.xor_comm]
theorem sixB_split {s b : Nat} (hs : s < 18446744073709551616) (hb : b < 256) : sixB s b = s * 256 % 18446744073709551616 ^^^ sixN 8 ((s / 72057594037927936 ^^^ b) * 72057594037927936) := by
  have h0 : (s / 72057594037927936 ^^^ b) < 2 ^ 8 := Nat.xor_lt_two_pow (by omega) hb
  rw [sixB, xor_top hs, sixN_xor 8 (by omega) (by omega) (by show s % 72057594037927936 < 2 ^ 56; exact Nat.mod_lt _ (by decide)), Nat.xor_comm]
  congr 1
  omega
theorem sixB_lt {s b : Nat} (hs : s < 18446744073709551616) (hb : b < 256) : sixB s b < 18446744073709551616 := sixN_lt 8 (Nat.xor_lt_two_pow (n := 64) hs (by omega))
def sixL (s : Nat) (l : List UInt8) : Nat := l.foldl (fun s b => sixB s b.toNat) s
theorem sixL_succ {s : Nat} {l : List UInt8} {k : Nat} (h : k < l.length) : sixL s (l.take (k + 1)) = sixB (sixL s (l.take k)) (l[k]).toNat := by
  rw [List.take_succ_eq_append_getElem h, sixL, List.foldl_append]; rfl
theorem sixL_lt : ∀ {l : List UInt8} {s : Nat}, s < 18446744073709551616 → sixL s l < 18446744073709551616
  | [], _, h => h
  | b :: l, s, h => sixL_lt (l := l) (sixB_lt h (UInt8.toNat_lt b))

def six8 (s b : Nat) : Nat → Nat
  | 0 => s
  | k + 1 => sixS (six8 s b k ^^^ (b / 2 ^ (7 - k) % 2) * 9223372036854775808)
theorem six8_lt {s b : Nat} (hs : s < 18446744073709551616) : ∀ k, six8 s b k < 18446744073709551616
  | 0 => hs
  | k + 1 => sixS_lt _
theorem six8_inv {s b : Nat} (hs : s < 18446744073709551616) (hb : b < 256) : ∀ k, k ≤ 8 → sixN (8 - k) (six8 s b k ^^^ b % 2 ^ (8 - k) * 2 ^ (56 + k)) = sixB s b
  | 0, _ => by
    rw [six8, sixB]
    show sixN 8 (s ^^^ b % 256 * 72057594037927936) = _
    rw [Nat.mod_eq_of_lt hb]
  | k + 1, h => by
    have ih := six8_inv hs hb k (by omega)
    have e1 : 8 - k = (8 - (k + 1)) + 1 := by omega
    have e2 : 8 - (k + 1) = 7 - k := by omega
    have hm := Nat.mod_lt b (show 0 < 2 ^ (7 - k) by exact Nat.pow_pos (by decide))
    have e3 : b % 2 ^ (8 - k) * 2 ^ (56 + k) = (b / 2 ^ (7 - k) % 2) * 9223372036854775808 ^^^ b % 2 ^ (7 - k) * 2 ^ (56 + k) := by
      apply Nat.eq_of_testBit_eq
      intro i
      rw [Nat.testBit_xor, show (9223372036854775808 : Nat) = 2 ^ 63 from rfl, Nat.mul_comm _ (2 ^ (56 + k)), Nat.mul_comm _ (2 ^ 63), Nat.mul_comm (b % 2 ^ (7 - k)), Nat.testBit_two_pow_mul, Nat.testBit_two_pow_mul, Nat.testBit_two_pow_mul, Nat.testBit_mod_two_pow, Nat.testBit_mod_two_pow,
        show b / 2 ^ (7 - k) % 2 = b / 2 ^ (7 - k) % 2 ^ 1 from rfl, Nat.testBit_mod_two_pow, Nat.testBit_div_two_pow]
      by_cases h1 : 56 + k ≤ i
      · by_cases h2 : i = 63
        · subst h2
          have h3 : ¬ (63 - (56 + k) < 7 - k) := by omega
          have h4 : 63 - (56 + k) < 8 - k := by omega
          simp [h1, show 63 - (56 + k) = 7 - k by omega, show 7 - k < 8 - k by omega]
        · by_cases h3 : 63 ≤ i
          · have h4 : ¬ (i - (56 + k) < 8 - k) := by omega
            have h5 : ¬ (i - 63 < 1) := by omega
            have h6 : ¬ (i - (56 + k) < 7 - k) := by omega
            simp [h1, h3, h4, h5, h6]
          · have h4 : i - (56 + k) < 8 - k := by omega
            have h6 : i - (56 + k) < 7 - k := by omega
            simp [h1, h3, h4, h6]
      · have h3 : ¬ 63 ≤ i := by omega
        simp [h1, h3]
    have hlt : b % 2 ^ (7 - k) * 2 ^ (56 + k) < 9223372036854775808 := by
      have h1 : b % 2 ^ (7 - k) * 2 ^ (56 + k) < 2 ^ (7 - k) * 2 ^ (56 + k) := Nat.mul_lt_mul_of_pos_right hm (Nat.pow_pos (by decide))
      rw [← Nat.pow_add, show 7 - k + (56 + k) = 63 by omega] at h1
      exact h1
    have hbit : (b / 2 ^ (7 - k) % 2) * 9223372036854775808 < 18446744073709551616 := by
      have := Nat.mod_lt (b / 2 ^ (7 - k)) (show 0 < 2 by decide)
      omega
    rw [e3, e1, sixN, ← Nat.xor_assoc, sixS_xor (Nat.xor_lt_two_pow (n := 64) (six8_lt hs k) hbit) hlt] at ih
    rw [← ih]
    show sixN (8 - (k + 1)) (sixS _ ^^^ _) = _
    rw [e2, show 2 ^ (56 + (k + 1)) = 2 ^ (56 + k) * 2 by rw [← Nat.add_assoc, Nat.pow_succ]]
    congr 2
    rw [← Nat.mul_assoc, Nat.mul_comm]
theorem six8_8 {s b : Nat} (hs : s < 18446744073709551616) (hb : b < 256) : six8 s b 8 = sixB s b := by
  have h := six8_inv hs hb 8 (by omega)
  rw [Nat.sub_self, Nat.pow_zero, Nat.mod_one, Nat.zero_mul, Nat.xor_zero, sixN] at h
  exact h
end Go.Am

namespace Go.Am
open Go.RowKit

/-! ### CRC-64 -/

def tab6 (i : Nat) : List Int := (List.range 256).map fun j => if j < i then ((sixN 8 (j * 72057594037927936) : Nat) : Int) else 0
theorem tab6_length (i : Nat) : (tab6 i).length = 256 := by simp [tab6]
theorem tab6_get {i j : Nat} (h : j < 256) : (tab6 i)[j]'(by rw [tab6_length]; exact h) = if j < i then ((sixN 8 (j * 72057594037927936) : Nat) : Int) else 0 := by simp [tab6]
theorem tab6_set {i : Nat} (h : i < 256) : (tab6 i).set i ((sixN 8 (i * 72057594037927936) : Nat) : Int) = tab6 (i + 1) := by
  refine List.ext_getElem (by simp [tab6_length]) fun j h1 h2 => ?_
  have hj : j < 256 := by simpa [tab6_length] using h2
  rw [List.getElem_set, tab6_get hj]
  split
  · rename_i e; subst e; rw [tab6_get hj, if_pos (by omega)]
  · rename_i e; rw [tab6_get hj]
    by_cases h3 : j < i
    · rw [if_pos h3, if_pos (by omega)]
    · rw [if_neg h3, if_neg (by omega)]

theorem shl_one (c : Nat) : shiftA true .u64 (c : Int) 1 = some (.int .u64 (((2 * c) % 18446744073709551616 : Nat) : Int)) := by
  have h3 : ¬ ((1 : Int) < 0) := by omega
  simp only [shiftA, if_neg h3, if_true]
  have h5 : (min (1 : Int).toNat IntKind.u64.bits) = 1 := rfl
  rw [h5, wrap_u64_mod]
  congr 2
  omega
theorem shl_eight (c : Nat) : shiftA true .u64 (c : Int) 8 = some (.int .u64 ((c * 256 % 18446744073709551616 : Nat) : Int)) := by
  have h3 : ¬ ((8 : Int) < 0) := by omega
  simp only [shiftA, if_neg h3, if_true]
  have h5 : (min (8 : Int).toNat IntKind.u64.bits) = 8 := rfl
  rw [h5, wrap_u64_mod]
  congr 2

def S_table6 (P : Prg) (f : Nat) : Prop := VC P f [] (.cell (ks .u64 (tab6 256)))
set_option maxRecDepth 40000 in
theorem crc64_table {P : Prg} {f t0 : Nat} (bd : Body P f 25 [.tmp 0] (ac_crc64_table t0)) : S_table6 P f := by
  refine VC.of_walk 1 rfl (by simp [isD, isTL_D (isTL_ks _ _)]) (ACall.of_body bd (by simp) ?_)
  unfold ac_crc64_table
  simp (maxSteps := 4000000) (disch := omega) only [abv, step, stepv, ev, wl, wn, wp, wz, aop, cV, cV1, AV.one, partCells, okW, onlyFr, app, sliceCells, cellsAt, srcA, subA, eqFs, Int.cast_ofNat_Int, simprocAttr]
  refine ALoop.by (ι := Nat) (fun i => ⟨[(5, .int .i64 i), (1, .ref 0 1 0)], [⟨t0, 256, 1, ks .u64 (tab6 i), 0⟩]⟩) (fun i => i ≤ 256) (fun i => 256 - i) 0 (Le.slots (by simp [Am.look])) (by omega) ?_
  intro i hi
  by_cases hlt : i < 256
  · have s0 : shiftA true .u64 (i : Int) 56 = some (.int .u64 ((i * 72057594037927936 : Nat) : Int)) := by
      have := shlK (K := .u64) rfl (c := i) (s := 56) (by decide) (by show i * 2 ^ 56 < 2 ^ 64; omega)
      exact this
    have w0 : IntKind.u64.wrap (i : Int) = i := wrap_u64 (by omega) (by omega)
    simp (maxSteps := 4000000) (disch := omega) only [abv, step, stepv, ev, wl, wn, wp, wz, aop, cV, cV1, AV.one, partCells, okW, onlyFr, app, sliceCells, cellsAt, srcA, subA, eqFs, Int.cast_ofNat_Int, simprocAttr, s0, w0]
    refine ALoop.by (ι := Nat) (fun j => ⟨[(11, .int .i64 j), (3, .int .u64 (sixN j (i * 72057594037927936))), (5, .int .i64 i), (2, .int .i64 i), (1, .ref 0 1 0)], [⟨t0, 256, 1, ks .u64 (tab6 i), 0⟩]⟩) (fun j => j ≤ 8) (fun j => 8 - j) 0 (Le.slots (by simp [Am.look, sixN])) (by omega) ?_
    intro j hj
    by_cases hjl : j < 8
    · have hc := sixN_lt j (c := i * 72057594037927936) (by omega)
      have hn := sixN_succ j (i * 72057594037927936)
      generalize sixN j (i * 72057594037927936) = c at *
      have a1 := shl_one c
      have a2 : shiftA false .u64 (c : Int) 63 = some (.int .u64 ((c / 9223372036854775808 : Nat) : Int)) := shrK (K := .u64) (n := c) (k := 63) (by decide)
      have hm := Nat.mod_lt (2 * c) (show 0 < 18446744073709551616 by decide)
      by_cases h2 : 9223372036854775808 ≤ c
      · have a3 : IntKind.u64.wrap (BitVec.ofInt IntKind.u64.bits ((2 * c % 18446744073709551616 : Nat) : Int) ^^^ BitVec.ofInt IntKind.u64.bits 4823603603198064275).toNat = ((sixN (j + 1) (i * 72057594037927936) : Nat) : Int) := by
          rw [hn, sixS, if_pos h2]
          exact xorK (K := .u64) rfl (a := 2 * c % 18446744073709551616) (b := 4823603603198064275) hm (by decide)
        have a4 : c / 9223372036854775808 = 1 := by omega
        rw [a4] at a2
        generalize 2 * c % 18446744073709551616 = d at *
        simp (maxSteps := 4000000) (disch := omega) only [abv, step, stepv, ev, wl, wn, wp, wz, aop, cV, cV1, AV.one, partCells, okW, onlyFr, app, sliceCells, cellsAt, srcA, subA, eqFs, Int.cast_ofNat_Int, simprocAttr, a1, a2, a3]
        exact ⟨j + 1, by omega, by omega, Le.slots (by simp [Am.look])⟩
      · have a3 : IntKind.u64.wrap (BitVec.ofInt IntKind.u64.bits ((2 * c % 18446744073709551616 : Nat) : Int) ^^^ BitVec.ofInt IntKind.u64.bits 0).toNat = ((sixN (j + 1) (i * 72057594037927936) : Nat) : Int) := by
          rw [hn, sixS, if_neg h2]
          exact xorK (K := .u64) rfl (a := 2 * c % 18446744073709551616) (b := 0) hm (by decide)
        have a4 : c / 9223372036854775808 = 0 := by omega
        rw [a4] at a2
        generalize 2 * c % 18446744073709551616 = d at *
        simp (maxSteps := 4000000) (disch := omega) only [abv, step, stepv, ev, wl, wn, wp, wz, aop, cV, cV1, AV.one, partCells, okW, onlyFr, app, sliceCells, cellsAt, srcA, subA, eqFs, Int.cast_ofNat_Int, simprocAttr, a1, a2, a3]
        exact ⟨j + 1, by omega, by omega, Le.slots (by simp [Am.look])⟩
    · obtain rfl : j = 8 := by omega
      have e1 := tab6_length i
      have e2 := ks_length .u64 (tab6 i)
      have e3 : (ks .u64 (tab6 i)).take i ++ [.int .u64 (sixN 8 (i * 72057594037927936))] ++ (ks .u64 (tab6 i)).drop (i + 1) = ks .u64 (tab6 (i + 1)) := by
        rw [← tab6_set hlt, List.set_eq_take_append_cons_drop, if_pos (by rw [tab6_length]; exact hlt)]; simp [ks, List.map_take, List.map_drop]
      simp (maxSteps := 4000000) (disch := omega) only [abv, step, stepv, ev, wl, wn, wp, wz, aop, cV, cV1, AV.one, partCells, okW, onlyFr, app, sliceCells, cellsAt, srcA, subA, eqFs, Int.cast_ofNat_Int, simprocAttr, e1, e2, e3]
      exact ⟨i + 1, by omega, by omega, Le.slots (by simp [Am.look])⟩
  · obtain rfl : i = 256 := by omega
    simp (maxSteps := 4000000) (disch := omega) only [abv, step, stepv, ev, wl, wn, wp, wz, aop, cV, cV1, AV.one, partCells, okW, onlyFr, app, sliceCells, cellsAt, srcA, subA, eqFs, Int.cast_ofNat_Int, simprocAttr]
    simp [frzN, frzK, frzL, frzV, frzL_T _ (isTL_ks _ _)]

def S_Behind6 (P : Prg) (f : Nat) : Prop := ∀ (s : Nat) (l : List UInt8), s < 18446744073709551616 → l.length ≤ 1000000 → VC P f [.cell (ks .u64 (tab6 256)), .int .u64 s, bs l] (.int .u64 (sixL s l : Nat))
set_option maxRecDepth 40000 in
theorem crc64_behind {P : Prg} {f : Nat} (bd : Body P f 29 [.tmp 6] ac_crc64_behind) : S_Behind6 P f := by
  intro s l hs hl
  refine VC.of_acall (by simp [isDL, isD, isD_bs, isDL_ks]) rfl (ACall.of_body bd (by simp) ?_)
  have t0 := ks_length .u64 (tab6 256)
  rw [tab6_length] at t0
  simp (maxSteps := 4000000) (disch := omega) only [abv, step, stepv, ev, wl, wn, wp, wz, aop, cV, cV1, AV.one, partCells, okW, onlyFr, app, sliceCells, cellsAt, srcA, subA, eqFs, Int.cast_ofNat_Int, simprocAttr, ac_crc64_behind, bs]
  refine ALoop.by (ι := Nat) (fun k => ⟨[(11, .int .i64 k), (10, .int .i64 l.length), (9, .list l.length (u8 l)), (0, .cell (ks .u64 (tab6 256))), (1, .int .u64 (sixL s (l.take k)))], []⟩) (fun k => k ≤ l.length) (fun k => l.length - k) 0 (Le.slots (by simp [Am.look, sixL])) (by omega) ?_
  intro k hk
  have hc := sixL_lt (l := l.take k) hs
  by_cases hlt : k < l.length
  · have e1 := u8_drop_cons hlt
    have hn := sixL_succ (s := s) hlt
    generalize sixL s (l.take k) = c at *
    have hb := (l[k]).toNat_lt
    rw [sixB_split hc hb] at hn
    have h0 : (c / 72057594037927936 ^^^ (l[k]).toNat) < 256 := Nat.xor_lt_two_pow (n := 8) (by omega) hb
    have h1 := sixN_lt 8 (c := (c / 72057594037927936 ^^^ (l[k]).toNat) * 72057594037927936) (by omega)
    have a1 : shiftA false .u64 (c : Int) 56 = some (.int .u64 ((c / 72057594037927936 : Nat) : Int)) := shrK (K := .u64) (n := c) (k := 56) (by decide)
    have a0 := shl_eight c
    have a2 : IntKind.u8.wrap ((c / 72057594037927936 : Nat) : Int) = ((c / 72057594037927936 : Nat) : Int) := by rw [wrap_u8_mod]; omega
    have a3 : IntKind.u8.wrap (BitVec.ofInt IntKind.u8.bits ((c / 72057594037927936 : Nat) : Int) ^^^ BitVec.ofInt IntKind.u8.bits ((l[k]).toNat : Int)).toNat = ((c / 72057594037927936 ^^^ (l[k]).toNat : Nat) : Int) :=
      xorK (K := .u8) rfl (a := c / 72057594037927936) (b := (l[k]).toNat) (by show c / 72057594037927936 < 256; omega) hb
    have hm := Nat.mod_lt (c * 256) (show 0 < 18446744073709551616 by decide)
    have a4 : IntKind.u64.wrap (BitVec.ofInt IntKind.u64.bits ((c * 256 % 18446744073709551616 : Nat) : Int) ^^^ BitVec.ofInt IntKind.u64.bits ((sixN 8 ((c / 72057594037927936 ^^^ (l[k]).toNat) * 72057594037927936) : Nat) : Int)).toNat = ((sixL s (l.take (k + 1)) : Nat) : Int) := by
      rw [hn]; exact xorK (K := .u64) rfl hm h1
    generalize c * 256 % 18446744073709551616 = d at *
    generalize c / 72057594037927936 ^^^ (l[k]).toNat = x at *
    have e2 : (ks .u64 (tab6 256)).drop x = .int .u64 ((sixN 8 (x * 72057594037927936) : Nat) : Int) :: ks .u64 ((tab6 256).drop (x + 1)) := by
      rw [ks_drop, List.drop_eq_getElem_cons (by rw [tab6_length]; exact h0), ks_cons, tab6_get h0, if_pos h0]
    generalize c / 72057594037927936 = q at *
    simp (maxSteps := 4000000) (disch := omega) only [abv, step, stepv, ev, wl, wn, wp, wz, aop, cV, cV1, AV.one, partCells, okW, onlyFr, app, sliceCells, cellsAt, srcA, subA, eqFs, Int.cast_ofNat_Int, simprocAttr, e1, a0, a1, a2, a3, a4, e2, t0]
    exact ⟨k + 1, by omega, by omega, Le.slots (by simp [Am.look])⟩
  · have ek : k = l.length := by omega
    subst ek
    rw [List.take_length]
    simp (maxSteps := 4000000) (disch := omega) only [abv, step, stepv, ev, wl, wn, wp, wz, aop, cV, cV1, AV.one, partCells, okW, onlyFr, app, sliceCells, cellsAt, srcA, subA, eqFs, Int.cast_ofNat_Int, simprocAttr]

def S_Next6 (P : Prg) (f : Nat) : Prop := ∀ (s : Nat) (l : List UInt8), s < 18446744073709551616 → VC P f [.int .u64 s, bs l] (if 100000 < l.length then .tup [.int .u64 0, .int .i64 4] else .tup [.int .u64 (sixL s l), .int .i64 0])
theorem crc64_Next {P : Prg} {f fT fB : Nat} (bd : Body P f 13 [.tmp 4, .tmp 5] (ac_crc64_Next fT fB)) (hT : S_table6 P fT) (hB : S_Behind6 P fB) : S_Next6 P f := by
  intro s l hs
  refine VC.of_acall (by simp [isDL, isD, isD_bs]) (by split <;> rfl) (ACall.of_body bd (by simp) ?_)
  by_cases hl : 100000 < l.length
  · rw [if_pos hl]
    simp (maxSteps := 4000000) (disch := omega) only [abv, step, stepv, ev, wl, wn, wp, wz, aop, cV, cV1, AV.one, partCells, okW, onlyFr, app, sliceCells, cellsAt, srcA, subA, eqFs, Int.cast_ofNat_Int, simprocAttr, ac_crc64_Next, bs]
  · rw [if_neg hl]
    have hB' := hB s l hs (by omega)
    rw [bs] at hB'
    have hT' : VC P fT [] _ := hT
    simp (maxSteps := 4000000) (disch := omega) only [abv, step, stepv, ev, wl, wn, wp, wz, aop, cV, cV1, AV.one, partCells, okW, onlyFr, app, sliceCells, cellsAt, srcA, subA, eqFs, Int.cast_ofNat_Int, simprocAttr, ac_crc64_Next, bs]
    refine callQ.vc hT' ?_
    simp (maxSteps := 4000000) (disch := omega) only [abv, step, stepv, ev, wl, wn, wp, wz, aop, cV, cV1, AV.one, partCells, okW, onlyFr, app, sliceCells, cellsAt, srcA, subA, eqFs, Int.cast_ofNat_Int, simprocAttr]
    refine callQ.vc hB' ?_
    simp (maxSteps := 4000000) (disch := omega) only [abv, step, stepv, ev, wl, wn, wp, wz, aop, cV, cV1, AV.one, partCells, okW, onlyFr, app, sliceCells, cellsAt, srcA, subA, eqFs, Int.cast_ofNat_Int, simprocAttr]

def S_Sum6 (P : Prg) (f : Nat) : Prop := ∀ (l : List UInt8), VC P f [bs l] (if 100000 < l.length then .tup [.int .u64 0, .int .i64 4] else .tup [.int .u64 (sixL 0 l), .int .i64 0])
theorem crc64_Sum {P : Prg} {f fN : Nat} (bd : Body P f 8 [.tmp 2, .tmp 3] (ac_crc64_Sum fN)) (hN : S_Next6 P fN) : S_Sum6 P f := by
  intro l
  refine VC.of_acall (by simp [isDL, isD, isD_bs]) (by split <;> rfl) (ACall.of_body bd (by simp) ?_)
  have hN' := hN 0 l (by decide)
  rw [bs] at hN'
  by_cases hl : 100000 < l.length
  · rw [if_pos hl] at hN' ⊢
    simp (maxSteps := 4000000) (disch := omega) only [abv, step, stepv, ev, wl, wn, wp, wz, aop, cV, cV1, AV.one, partCells, okW, onlyFr, app, sliceCells, cellsAt, srcA, subA, eqFs, Int.cast_ofNat_Int, simprocAttr, ac_crc64_Sum, bs]
    refine callQ.vc hN' ?_
    simp (maxSteps := 4000000) (disch := omega) only [abv, step, stepv, ev, wl, wn, wp, wz, aop, cV, cV1, AV.one, partCells, okW, onlyFr, app, sliceCells, cellsAt, srcA, subA, eqFs, Int.cast_ofNat_Int, simprocAttr]
  · rw [if_neg hl] at hN' ⊢
    simp (maxSteps := 4000000) (disch := omega) only [abv, step, stepv, ev, wl, wn, wp, wz, aop, cV, cV1, AV.one, partCells, okW, onlyFr, app, sliceCells, cellsAt, srcA, subA, eqFs, Int.cast_ofNat_Int, simprocAttr, ac_crc64_Sum, bs]
    refine callQ.vc hN' ?_
    simp (maxSteps := 4000000) (disch := omega) only [abv, step, stepv, ev, wl, wn, wp, wz, aop, cV, cV1, AV.one, partCells, okW, onlyFr, app, sliceCells, cellsAt, srcA, subA, eqFs, Int.cast_ofNat_Int, simprocAttr]
end Go.Am

namespace Go.Am
open Go.RowKit

/-! ### The reference of CRC-64 -/

theorem sixS_bit {s b : Nat} (hs : s < 18446744073709551616) (hb : b < 2) : sixS (s ^^^ b * 9223372036854775808) = (2 * s) % 18446744073709551616 ^^^ (if (9223372036854775808 ≤ s ↔ b = 0) then 4823603603198064275 else 0) := by
  rcases (by omega : b = 0 ∨ b = 1) with rfl | rfl
  · simp [sixS]
  · have hx : s ^^^ 9223372036854775808 < 18446744073709551616 := Nat.xor_lt_two_pow (n := 64) hs (by decide)
    have e1 : (9223372036854775808 ≤ s ^^^ 9223372036854775808) ↔ ¬ (9223372036854775808 ≤ s) := by
      rw [ge_top _ hx, ge_top _ hs, Nat.testBit_xor, show (9223372036854775808 : Nat) = 2 ^ 63 from rfl, Nat.testBit_two_pow_self]
      simp
    have e2 : 2 * (s ^^^ 9223372036854775808) % 18446744073709551616 = 2 * s % 18446744073709551616 := by
      apply Nat.eq_of_testBit_eq
      intro i
      rw [show (18446744073709551616 : Nat) = 2 ^ 64 from rfl, Nat.testBit_mod_two_pow, Nat.testBit_mod_two_pow, show 2 * (s ^^^ 9223372036854775808) = 2 ^ 1 * (s ^^^ 9223372036854775808) from rfl, show 2 * s = 2 ^ 1 * s from rfl, Nat.testBit_two_pow_mul, Nat.testBit_two_pow_mul, Nat.testBit_xor,
        show (9223372036854775808 : Nat) = 2 ^ 63 from rfl, Nat.testBit_two_pow]
      by_cases h : i < 64
      · have h1 : ¬ (63 = i - 1) := by omega
        simp [h, h1]
      · simp [h]
    rw [Nat.one_mul, sixS, e2]
    by_cases h : 9223372036854775808 ≤ s
    · rw [if_neg (fun h2 => (e1.1 h2) h), if_neg (by simp [h])]
    · rw [if_pos (e1.2 h), if_pos (by simp [h])]

def S_Step6 (P : Prg) (f : Nat) : Prop := ∀ s b : Nat, s < 18446744073709551616 → b < 2 → VC P f [.int .u64 s, .int .i64 b] (.int .u64 (sixS (s ^^^ b * 9223372036854775808) : Nat))
theorem ref04_Step {P : Prg} {f : Nat} (bd : Body P f 18 [.tmp 4] ac_cadenzaref04_Step) : S_Step6 P f := by
  intro s b hs hb
  refine VC.of_acall rfl rfl (ACall.of_body bd (by simp) ?_)
  rw [sixS_bit hs hb]
  have hm := Nat.mod_lt (2 * s) (show 0 < 18446744073709551616 by decide)
  have e1 : IntKind.u64.wrap (BitVec.ofInt IntKind.u64.bits ((2 * s % 18446744073709551616 : Nat) : Int) ^^^ BitVec.ofInt IntKind.u64.bits 4823603603198064275).toNat = ((2 * s % 18446744073709551616 ^^^ 4823603603198064275 : Nat) : Int) :=
    xorK (K := .u64) rfl hm (by decide)
  have e2 : IntKind.u64.wrap ((s : Int) * 2) = ((2 * s % 18446744073709551616 : Nat) : Int) := by rw [wrap_u64_mod]; omega
  generalize 2 * s % 18446744073709551616 = d at *
  by_cases h : 9223372036854775808 ≤ s <;> rcases (by omega : b = 0 ∨ b = 1) with rfl | rfl
  · rw [if_pos (by simp [h])]
    simp (maxSteps := 4000000) (disch := omega) only [abv, step, stepv, ev, wl, wn, wp, wz, aop, cV, cV1, AV.one, partCells, okW, onlyFr, app, sliceCells, cellsAt, srcA, subA, eqFs, Int.cast_ofNat_Int, simprocAttr, ac_cadenzaref04_Step, e1, e2]
  · rw [if_neg (by simp [h]), Nat.xor_zero]
    simp (maxSteps := 4000000) (disch := omega) only [abv, step, stepv, ev, wl, wn, wp, wz, aop, cV, cV1, AV.one, partCells, okW, onlyFr, app, sliceCells, cellsAt, srcA, subA, eqFs, Int.cast_ofNat_Int, simprocAttr, ac_cadenzaref04_Step, e1, e2, Bool.not_true]
  · rw [if_neg (by simp [h]), Nat.xor_zero]
    simp (maxSteps := 4000000) (disch := omega) only [abv, step, stepv, ev, wl, wn, wp, wz, aop, cV, cV1, AV.one, partCells, okW, onlyFr, app, sliceCells, cellsAt, srcA, subA, eqFs, Int.cast_ofNat_Int, simprocAttr, ac_cadenzaref04_Step, e1, e2]
  · rw [if_pos (by simp [h])]
    simp (maxSteps := 4000000) (disch := omega) only [abv, step, stepv, ev, wl, wn, wp, wz, aop, cV, cV1, AV.one, partCells, okW, onlyFr, app, sliceCells, cellsAt, srcA, subA, eqFs, Int.cast_ofNat_Int, simprocAttr, ac_cadenzaref04_Step, e1, e2, Bool.not_false]

def S_Byte6 (P : Prg) (f : Nat) : Prop := ∀ s b : Nat, s < 18446744073709551616 → b < 256 → VC P f [.int .u64 s, .int .u8 b] (.int .u64 (sixB s b : Nat))
theorem ref04_Byte {P : Prg} {f fS : Nat} (bd : Body P f 18 [.tmp 4] (ac_cadenzaref04_Byte fS)) (hS : S_Step6 P fS) : S_Byte6 P f := by
  intro s b hs hb
  refine VC.of_acall rfl rfl (ACall.of_body bd (by simp) ?_)
  simp (maxSteps := 4000000) (disch := omega) only [abv, step, stepv, ev, wl, wn, wp, wz, aop, cV, cV1, AV.one, partCells, okW, onlyFr, app, sliceCells, cellsAt, srcA, subA, eqFs, Int.cast_ofNat_Int, simprocAttr, ac_cadenzaref04_Byte]
  refine ALoop.by (ι := Nat) (fun k => ⟨[(5, .int .i64 (128 / 2 ^ k : Nat)), (0, .int .u64 (six8 s b k)), (1, .int .u8 b)], []⟩) (fun k => k ≤ 8) (fun k => 8 - k) 0 (Le.slots (by simp [Am.look, six8])) (by omega) ?_
  intro k hk
  have hc := six8_lt (b := b) hs k
  by_cases hlt : k < 8
  · have hn : six8 s b (k + 1) = sixS (six8 s b k ^^^ (b / 2 ^ (7 - k) % 2) * 9223372036854775808) := rfl
    have hp : 128 / 2 ^ k = 2 ^ (7 - k) := by
      rw [show (128 : Nat) = 2 ^ 7 from rfl, Nat.pow_div (by omega) (by decide)]
    have hd : 128 / 2 ^ (k + 1) = 128 / 2 ^ k / 2 := by rw [Nat.pow_succ, Nat.div_div_eq_div_mul]
    have hpos : 1 ≤ 128 / 2 ^ k := by rw [hp]; exact Nat.pow_pos (by decide)
    have hle : 128 / 2 ^ k ≤ 128 := Nat.div_le_self _ _
    have h2 := hS (six8 s b k) (b / 2 ^ (7 - k) % 2) hc (Nat.mod_lt _ (by decide))
    rw [← hn, ← hp] at h2
    generalize six8 s b k = c at *
    generalize 128 / 2 ^ k = p at *
    have e1 : ((b : Int)).tdiv (p : Int) = ((b / p : Nat) : Int) := by rw [Int.tdiv_eq_ediv_of_nonneg (by omega)]; simp
    have e0 : (b : Int) / (p : Int) = ((b / p : Nat) : Int) := by simp
    have hbp : b / p ≤ b := Nat.div_le_self _ _
    generalize b / p = x at *
    have e3 : ((x : Int)).tmod 2 = ((x % 2 : Nat) : Int) := rfl
    have e4 : (x : Int) % 2 = ((x % 2 : Nat) : Int) := by omega
    have e5 : ((p : Int)).tdiv 2 = ((p / 2 : Nat) : Int) := rfl
    have e6 : (p : Int) / 2 = ((p / 2 : Nat) : Int) := by omega
    simp (maxSteps := 4000000) (disch := omega) only [abv, step, stepv, ev, wl, wn, wp, wz, aop, cV, cV1, AV.one, partCells, okW, onlyFr, app, sliceCells, cellsAt, srcA, subA, eqFs, Int.cast_ofNat_Int, simprocAttr, e0, e1, e3, e4]
    refine callQ.vc h2 ?_
    simp (maxSteps := 4000000) (disch := omega) only [abv, step, stepv, ev, wl, wn, wp, wz, aop, cV, cV1, AV.one, partCells, okW, onlyFr, app, sliceCells, cellsAt, srcA, subA, eqFs, Int.cast_ofNat_Int, simprocAttr, e5, e6]
    exact ⟨k + 1, by omega, by omega, Le.slots (by simp [Am.look, hd])⟩
  · obtain rfl : k = 8 := by omega
    rw [six8_8 hs hb]
    have e : (128 / 2 ^ 8 : Nat) = 0 := rfl
    rw [e]
    simp (maxSteps := 4000000) (disch := omega) only [abv, step, stepv, ev, wl, wn, wp, wz, aop, cV, cV1, AV.one, partCells, okW, onlyFr, app, sliceCells, cellsAt, srcA, subA, eqFs, Int.cast_ofNat_Int, simprocAttr]

def S_RBehind6 (P : Prg) (f : Nat) : Prop := ∀ (s : Nat) (l : List UInt8), s < 18446744073709551616 → l.length ≤ 1000000 → VC P f [.int .u64 s, bs l] (.int .u64 (sixL s l : Nat))
theorem ref04_Behind {P : Prg} {f fB : Nat} (bd : Body P f 19 [.tmp 4] (ac_cadenzaref04_Behind fB)) (hB : S_Byte6 P fB) : S_RBehind6 P f := by
  intro s l hs hl
  refine VC.of_acall (by simp [isDL, isD, isD_bs]) rfl (ACall.of_body bd (by simp) ?_)
  simp (maxSteps := 4000000) (disch := omega) only [abv, step, stepv, ev, wl, wn, wp, wz, aop, cV, cV1, AV.one, partCells, okW, onlyFr, app, sliceCells, cellsAt, srcA, subA, eqFs, Int.cast_ofNat_Int, simprocAttr, ac_cadenzaref04_Behind, bs]
  refine ALoop.by (ι := Nat) (fun k => ⟨[(5, .int .i64 k), (1, .list l.length (u8 l)), (0, .int .u64 (sixL s (l.take k)))], []⟩) (fun k => k ≤ l.length) (fun k => l.length - k) 0 (Le.slots (by simp [Am.look, sixL])) (by omega) ?_
  intro k hk
  have hc := sixL_lt (l := l.take k) hs
  by_cases hlt : k < l.length
  · have e1 := u8_drop_cons hlt
    have hn := sixL_succ (s := s) hlt
    have h2 := hB (sixL s (l.take k)) (l[k]).toNat hc (l[k]).toNat_lt
    rw [← hn] at h2
    simp (maxSteps := 4000000) (disch := omega) only [abv, step, stepv, ev, wl, wn, wp, wz, aop, cV, cV1, AV.one, partCells, okW, onlyFr, app, sliceCells, cellsAt, srcA, subA, eqFs, Int.cast_ofNat_Int, simprocAttr, e1]
    refine callQ.vc h2 ?_
    simp (maxSteps := 4000000) (disch := omega) only [abv, step, stepv, ev, wl, wn, wp, wz, aop, cV, cV1, AV.one, partCells, okW, onlyFr, app, sliceCells, cellsAt, srcA, subA, eqFs, Int.cast_ofNat_Int, simprocAttr]
    exact ⟨k + 1, by omega, by omega, Le.slots (by simp [Am.look])⟩
  · have ek : k = l.length := by omega
    subst ek
    rw [List.take_length]
    simp (maxSteps := 4000000) (disch := omega) only [abv, step, stepv, ev, wl, wn, wp, wz, aop, cV, cV1, AV.one, partCells, okW, onlyFr, app, sliceCells, cellsAt, srcA, subA, eqFs, Int.cast_ofNat_Int, simprocAttr]
theorem ref04_Next {P : Prg} {f fB : Nat} (bd : Body P f 12 [.tmp 4, .tmp 5] (ac_cadenzaref04_Next fB)) (hB : S_RBehind6 P fB) : S_Next6 P f := by
  intro s l hs
  refine VC.of_acall (by simp [isDL, isD, isD_bs]) (by split <;> rfl) (ACall.of_body bd (by simp) ?_)
  by_cases hl : 100000 < l.length
  · rw [if_pos hl]
    simp (maxSteps := 4000000) (disch := omega) only [abv, step, stepv, ev, wl, wn, wp, wz, aop, cV, cV1, AV.one, partCells, okW, onlyFr, app, sliceCells, cellsAt, srcA, subA, eqFs, Int.cast_ofNat_Int, simprocAttr, ac_cadenzaref04_Next, bs]
  · rw [if_neg hl]
    have hB' := hB s l hs (by omega)
    rw [bs] at hB'
    simp (maxSteps := 4000000) (disch := omega) only [abv, step, stepv, ev, wl, wn, wp, wz, aop, cV, cV1, AV.one, partCells, okW, onlyFr, app, sliceCells, cellsAt, srcA, subA, eqFs, Int.cast_ofNat_Int, simprocAttr, ac_cadenzaref04_Next, bs]
    refine callQ.vc hB' ?_
    simp (maxSteps := 4000000) (disch := omega) only [abv, step, stepv, ev, wl, wn, wp, wz, aop, cV, cV1, AV.one, partCells, okW, onlyFr, app, sliceCells, cellsAt, srcA, subA, eqFs, Int.cast_ofNat_Int, simprocAttr]
theorem ref04_Sum {P : Prg} {f fN : Nat} (bd : Body P f 8 [.tmp 2, .tmp 3] (ac_cadenzaref04_Sum fN)) (hN : S_Next6 P fN) : S_Sum6 P f := by
  intro l
  refine VC.of_acall (by simp [isDL, isD, isD_bs]) (by split <;> rfl) (ACall.of_body bd (by simp) ?_)
  have hN' := hN 0 l (by decide)
  rw [bs] at hN'
  by_cases hl : 100000 < l.length
  · rw [if_pos hl] at hN' ⊢
    simp (maxSteps := 4000000) (disch := omega) only [abv, step, stepv, ev, wl, wn, wp, wz, aop, cV, cV1, AV.one, partCells, okW, onlyFr, app, sliceCells, cellsAt, srcA, subA, eqFs, Int.cast_ofNat_Int, simprocAttr, ac_cadenzaref04_Sum, bs]
    refine callQ.vc hN' ?_
    simp (maxSteps := 4000000) (disch := omega) only [abv, step, stepv, ev, wl, wn, wp, wz, aop, cV, cV1, AV.one, partCells, okW, onlyFr, app, sliceCells, cellsAt, srcA, subA, eqFs, Int.cast_ofNat_Int, simprocAttr]
  · rw [if_neg hl] at hN' ⊢
    simp (maxSteps := 4000000) (disch := omega) only [abv, step, stepv, ev, wl, wn, wp, wz, aop, cV, cV1, AV.one, partCells, okW, onlyFr, app, sliceCells, cellsAt, srcA, subA, eqFs, Int.cast_ofNat_Int, simprocAttr, ac_cadenzaref04_Sum, bs]
    refine callQ.vc hN' ?_
    simp (maxSteps := 4000000) (disch := omega) only [abv, step, stepv, ev, wl, wn, wp, wz, aop, cV, cV1, AV.one, partCells, okW, onlyFr, app, sliceCells, cellsAt, srcA, subA, eqFs, Int.cast_ofNat_Int, simprocAttr]
end Go.Am

namespace Go.Am
open Go.RowKit

/-! ### Taps of passwords -/

def sb8 (x : Nat) : Int := if 127 < x % 256 then ((x % 256 : Nat) : Int) - 256 else ((x % 256 : Nat) : Int)
theorem sb8_b (x : Nat) : -128 ≤ sb8 x ∧ sb8 x ≤ 127 := by unfold sb8; split <;> omega
def ofK (d k : Nat) : List Int := (List.range 16).map fun i => if i < k then sb8 (d / 2 ^ (8 * i)) else 0
theorem ofK_len (d k : Nat) : (ofK d k).length = 16 := by simp [ofK]
theorem ofK_set {d k : Nat} (h : k < 16) : (ofK d k).set k (sb8 (d / 2 ^ (8 * k))) = ofK d (k + 1) := by
  refine List.ext_getElem (by simp [ofK_len]) fun j h1 h2 => ?_
  have hj : j < 16 := by simpa [ofK_len] using h2
  rw [List.getElem_set]
  simp only [ofK, List.getElem_map, List.getElem_range]
  split
  · rename_i e; subst e; rw [if_pos (by omega)]
  · by_cases h3 : j < k
    · rw [if_pos h3, if_pos (by omega)]
    · rw [if_neg h3, if_neg (by omega)]
theorem wrap_i8 (x : Nat) : IntKind.i8.wrap (x : Int) = sb8 x := by
  unfold sb8
  simp only [IntKind.wrap, IntKind.bits, IntKind.signed]
  simp
  split <;> split <;> omega
def S_Of16 (P : Prg) (f : Nat) : Prop := ∀ d : Nat, d < 18446744073709551616 → VC P f [.int .u64 d] (.agg (ks .i32 (ofK d 8)))
theorem seed_Of {P : Prg} {f t0 : Nat} (bd : Body P f 18 [.cell 2 t0] (ac_seed_Of t0)) (ht : aggO P t0 = some (some 16)) : S_Of16 P f := by
  intro d hd
  refine VC.of_acall rfl (by simp [isD, isDL_ks]) (ACall.of_body bd (by simp) ?_)
  unfold ac_seed_Of
  have z : ([.int .i32 0, .int .i32 0, .int .i32 0, .int .i32 0, .int .i32 0, .int .i32 0, .int .i32 0, .int .i32 0, .int .i32 0, .int .i32 0, .int .i32 0, .int .i32 0, .int .i32 0, .int .i32 0, .int .i32 0, .int .i32 0] : List AV) = ks .i32 (ofK 0 0) := rfl
  have z0 : ks .i32 (ofK 0 0) = ks .i32 (ofK d 0) := rfl
  rw [z]
  have ol := ks_one .i32 (ofK 0 0)
  have kl0 : (ks .i32 (ofK 0 0)).length = 16 := rfl
  simp (maxSteps := 4000000) (disch := omega) only [abv, step, stepv, ev, wl, wn, wp, wz, aop, cV, cV1, AV.one, partCells, okW, onlyFr, app, sliceCells, cellsAt, srcA, subA, eqFs, Int.cast_ofNat_Int, simprocAttr, ol, kl0]
  refine ALoop.by (ι := Nat) (fun i => ⟨[(5, .int .i64 i), (0, .int .u64 d), (3, .ref 1 1 0), (2, .ref 0 1 0)], [⟨t0, 16, 1, ks .i32 (ofK 0 0), 0⟩, ⟨t0, 16, 1, ks .i32 (ofK d i), 0⟩]⟩) (fun i => i ≤ 8) (fun i => 8 - i) 0 (Le.slots (by simp [Am.look])) (by omega) ?_
  intro i hi
  have kl : (ks .i32 (ofK d i)).length = 16 := by rw [ks_length, ofK_len]
  by_cases hlt : i < 8
  · have a1 : shiftA false .u64 (d : Int) (8 * (i : Int)) = some (.int .u64 ((d / 2 ^ (8 * i) : Nat) : Int)) := by
      have := shrK (K := .u64) (n := d) (k := 8 * i) (by show 8 * i ≤ 64; omega)
      simpa using this
    have a2 := wrap_i8 (d / 2 ^ (8 * i))
    have a3 := sb8_b (d / 2 ^ (8 * i))
    have e3 : (ks .i32 (ofK d i)).take i ++ [.int .i32 (sb8 (d / 2 ^ (8 * i)))] ++ (ks .i32 (ofK d i)).drop (i + 1) = ks .i32 (ofK d (i + 1)) := by
      rw [← ofK_set (by omega), List.set_eq_take_append_cons_drop, if_pos (by rw [ofK_len]; omega)]; simp [ks, List.map_take, List.map_drop]
    generalize d / 2 ^ (8 * i) = q at *
    generalize sb8 q = y at *
    simp (maxSteps := 4000000) (disch := omega) only [abv, step, stepv, ev, wl, wn, wp, wz, aop, cV, cV1, AV.one, partCells, okW, onlyFr, app, sliceCells, cellsAt, srcA, subA, eqFs, Int.cast_ofNat_Int, simprocAttr, a1, a2, kl, e3]
    exact ⟨i + 1, by omega, by omega, Le.slots (by simp [Am.look])⟩
  · obtain rfl : i = 8 := by omega
    have o8 := ks_one .i32 (ofK d 8)
    have t8 : (ks .i32 (ofK d 8)).take 16 = ks .i32 (ofK d 8) := List.take_of_length_le (by omega)
    simp (maxSteps := 4000000) (disch := omega) only [abv, step, stepv, ev, wl, wn, wp, wz, aop, cV, cV1, AV.one, partCells, okW, onlyFr, app, sliceCells, cellsAt, srcA, subA, eqFs, Int.cast_ofNat_Int, simprocAttr, kl, kl0, t8, o8, resA, ht]
    try simp [kl]

theorem ref16_Of {P : Prg} {f t0 : Nat} (bd : Body P f 23 [.cell 2 t0] (ac_cadenzaref16_Of t0)) (ht : aggO P t0 = some (some 16)) : S_Of16 P f := by
  intro d hd
  refine VC.of_acall rfl (by simp [isD, isDL_ks]) (ACall.of_body bd (by simp) ?_)
  unfold ac_cadenzaref16_Of
  have z : ([.int .i32 0, .int .i32 0, .int .i32 0, .int .i32 0, .int .i32 0, .int .i32 0, .int .i32 0, .int .i32 0, .int .i32 0, .int .i32 0, .int .i32 0, .int .i32 0, .int .i32 0, .int .i32 0, .int .i32 0, .int .i32 0] : List AV) = ks .i32 (ofK 0 0) := rfl
  rw [z]
  have ol := ks_one .i32 (ofK 0 0)
  have kl0 : (ks .i32 (ofK 0 0)).length = 16 := rfl
  simp (maxSteps := 4000000) (disch := omega) only [abv, step, stepv, ev, wl, wn, wp, wz, aop, cV, cV1, AV.one, partCells, okW, onlyFr, app, sliceCells, cellsAt, srcA, subA, eqFs, Int.cast_ofNat_Int, simprocAttr, ol, kl0]
  refine ALoop.by (ι := Nat) (fun i => ⟨[(4, .int .i64 i), (0, .int .u64 (d / 2 ^ (8 * i) : Nat)), (3, .ref 1 1 0), (2, .ref 0 1 0)], [⟨t0, 16, 1, ks .i32 (ofK 0 0), 0⟩, ⟨t0, 16, 1, ks .i32 (ofK d i), 0⟩]⟩) (fun i => i ≤ 8) (fun i => 8 - i) 0 (Le.slots (by simp [Am.look])) (by omega) ?_
  intro i hi
  have kl : (ks .i32 (ofK d i)).length = 16 := by rw [ks_length, ofK_len]
  by_cases hlt : i < 8
  · have hd2 : d / 2 ^ (8 * (i + 1)) = d / 2 ^ (8 * i) / 256 := by
      rw [show 8 * (i + 1) = 8 * i + 8 by omega, Nat.pow_add, ← Nat.div_div_eq_div_mul]
    have hq : d / 2 ^ (8 * i) ≤ d := Nat.div_le_self _ _
    have e3 : (ks .i32 (ofK d i)).take i ++ [.int .i32 (sb8 (d / 2 ^ (8 * i)))] ++ (ks .i32 (ofK d i)).drop (i + 1) = ks .i32 (ofK d (i + 1)) := by
      rw [← ofK_set (by omega), List.set_eq_take_append_cons_drop, if_pos (by rw [ofK_len]; omega)]; simp [ks, List.map_take, List.map_drop]
    generalize d / 2 ^ (8 * i) = q at *
    have a1 : ((q : Int)).tmod 256 = ((q % 256 : Nat) : Int) := rfl
    have a2 : (q : Int) % 256 = ((q % 256 : Nat) : Int) := by omega
    have a3 : ((q : Int)).tdiv 256 = ((q / 256 : Nat) : Int) := rfl
    have a4 : (q : Int) / 256 = ((q / 256 : Nat) : Int) := by omega
    have hb : q % 256 < 256 := Nat.mod_lt _ (by decide)
    by_cases h : 127 < q % 256
    · have s1 : sb8 q = ((q % 256 : Nat) : Int) - 256 := by rw [sb8, if_pos h]
      rw [s1] at e3
      generalize q % 256 = y at *
      simp (maxSteps := 4000000) (disch := omega) only [abv, step, stepv, ev, wl, wn, wp, wz, aop, cV, cV1, AV.one, partCells, okW, onlyFr, app, sliceCells, cellsAt, srcA, subA, eqFs, Int.cast_ofNat_Int, simprocAttr, a1, a2, a3, a4, kl, e3]
      exact ⟨i + 1, by omega, by omega, Le.slots (by simp [Am.look, hd2])⟩
    · have s1 : sb8 q = ((q % 256 : Nat) : Int) := by rw [sb8, if_neg h]
      rw [s1] at e3
      generalize q % 256 = y at *
      simp (maxSteps := 4000000) (disch := omega) only [abv, step, stepv, ev, wl, wn, wp, wz, aop, cV, cV1, AV.one, partCells, okW, onlyFr, app, sliceCells, cellsAt, srcA, subA, eqFs, Int.cast_ofNat_Int, simprocAttr, a1, a2, a3, a4, kl, e3]
      exact ⟨i + 1, by omega, by omega, Le.slots (by simp [Am.look, hd2])⟩
  · obtain rfl : i = 8 := by omega
    have o8 := ks_one .i32 (ofK d 8)
    have t8 : (ks .i32 (ofK d 8)).take 16 = ks .i32 (ofK d 8) := List.take_of_length_le (by omega)
    simp (maxSteps := 4000000) (disch := omega) only [abv, step, stepv, ev, wl, wn, wp, wz, aop, cV, cV1, AV.one, partCells, okW, onlyFr, app, sliceCells, cellsAt, srcA, subA, eqFs, Int.cast_ofNat_Int, simprocAttr, kl, kl0, t8, o8, resA, ht]
    try simp [kl]

theorem isTLu8 : ∀ p : List UInt8, isTL (u8 p) = true
  | [] => rfl
  | b :: p => by have := isTLu8 p; simp only [u8, List.map_cons, isTL, isT, Bool.true_and] at this ⊢; exact this
def zer16 : List Int := List.replicate 16 0
def tapsA (p : List UInt8) : AV := if 64 < p.length then .tup [.agg (ks .i32 zer16), .int .i64 2] else .tup [.agg (ks .i32 (ofK (sixL 0 p) 8)), .int .i64 0]
theorem isD_taps (p : List UInt8) : isD (tapsA p) = true := by unfold tapsA; split <;> simp [isD, isDL, isDL_ks]
def S_Taps (P : Prg) (f : Nat) : Prop := ∀ p : List UInt8, VC P f [.str p] (tapsA p)
theorem seed_Taps {P : Prg} {f fS fO t0 : Nat} (bd : Body P f 22 [.cell 2 t0, .tmp 3] (ac_seed_Taps fS fO t0)) (hS : S_Sum6 P fS) (hO : S_Of16 P fO) (ht : aggO P t0 = some (some 16)) : S_Taps P f := by
  intro p
  refine VC.of_acall rfl (isD_taps p) (ACall.of_body bd (by simp) ?_)
  unfold ac_seed_Taps
  have z : ([.int .i32 0, .int .i32 0, .int .i32 0, .int .i32 0, .int .i32 0, .int .i32 0, .int .i32 0, .int .i32 0, .int .i32 0, .int .i32 0, .int .i32 0, .int .i32 0, .int .i32 0, .int .i32 0, .int .i32 0, .int .i32 0] : List AV) = ks .i32 zer16 := rfl
  rw [z]
  have ol := ks_one .i32 zer16
  have kl0 : (ks .i32 zer16).length = 16 := rfl
  have t0' : (ks .i32 zer16).take 16 = ks .i32 zer16 := rfl
  by_cases hp : 64 < p.length
  · have e9 : tapsA p = .tup [.agg (ks .i32 zer16), .int .i64 2] := by rw [tapsA, if_pos hp]
    simp (maxSteps := 4000000) (disch := omega) only [abv, step, stepv, ev, wl, wn, wp, wz, aop, cV, cV1, AV.one, partCells, okW, onlyFr, app, sliceCells, cellsAt, srcA, subA, eqFs, Int.cast_ofNat_Int, simprocAttr, ol, kl0, resA, ht, t0', e9]
    rfl
  · have e9 : tapsA p = .tup [.agg (ks .i32 (ofK (sixL 0 p) 8)), .int .i64 0] := by rw [tapsA, if_neg hp]
    have hS' := hS p
    rw [if_neg (by omega)] at hS'
    have hO' := hO (sixL 0 p) (sixL_lt (by decide))
    have o8 := ks_one .i32 (ofK (sixL 0 p) 8)
    have kl : (ks .i32 (ofK (sixL 0 p) 8)).length = 16 := by rw [ks_length, ofK_len]
    have t8 : (ks .i32 (ofK (sixL 0 p) 8)).take 16 = ks .i32 (ofK (sixL 0 p) 8) := List.take_of_length_le (by omega)
    have tp := isTLu8 p
    rw [bs] at hS'
    simp (maxSteps := 4000000) (disch := omega) only [abv, step, stepv, ev, wl, wn, wp, wz, aop, cV, cV1, AV.one, partCells, okW, onlyFr, app, sliceCells, cellsAt, srcA, subA, eqFs, Int.cast_ofNat_Int, simprocAttr, ol, kl0]
    refine callQ.flat 1 hS' rfl (by simp [frzN, frzK, frzL, frzV, frzL_T _ tp]) ?_
    simp (maxSteps := 4000000) (disch := omega) only [abv, step, stepv, ev, wl, wn, wp, wz, aop, cV, cV1, AV.one, partCells, okW, onlyFr, app, sliceCells, cellsAt, srcA, subA, eqFs, Int.cast_ofNat_Int, simprocAttr]
    refine callQ.vc hO' ?_
    have zl : zer16.length = 16 := rfl
    have zd : (ks .i32 zer16).drop 16 = [] := rfl
    simp (maxSteps := 4000000) (disch := omega) only [abv, step, stepv, ev, wl, wn, wp, wz, aop, cV, cV1, AV.one, partCells, okW, onlyFr, app, sliceCells, cellsAt, srcA, subA, eqFs, Int.cast_ofNat_Int, simprocAttr, o8, kl, t8, resA, ht, e9, zl, zd, List.append_nil]
    try simp [kl]
theorem ref16_Taps {P : Prg} {f fS fO t0 : Nat} (bd : Body P f 18 [.cell 2 t0, .tmp 3] (ac_cadenzaref16_Taps fS fO t0)) (hS : S_Sum6 P fS) (hO : S_Of16 P fO) (ht : aggO P t0 = some (some 16)) : S_Taps P f := by
  intro p
  refine VC.of_acall rfl (isD_taps p) (ACall.of_body bd (by simp) ?_)
  unfold ac_cadenzaref16_Taps
  have z : ([.int .i32 0, .int .i32 0, .int .i32 0, .int .i32 0, .int .i32 0, .int .i32 0, .int .i32 0, .int .i32 0, .int .i32 0, .int .i32 0, .int .i32 0, .int .i32 0, .int .i32 0, .int .i32 0, .int .i32 0, .int .i32 0] : List AV) = ks .i32 zer16 := rfl
  rw [z]
  have ol := ks_one .i32 zer16
  have kl0 : (ks .i32 zer16).length = 16 := rfl
  have t0' : (ks .i32 zer16).take 16 = ks .i32 zer16 := rfl
  by_cases hp : 64 < p.length
  · have e9 : tapsA p = .tup [.agg (ks .i32 zer16), .int .i64 2] := by rw [tapsA, if_pos hp]
    simp (maxSteps := 4000000) (disch := omega) only [abv, step, stepv, ev, wl, wn, wp, wz, aop, cV, cV1, AV.one, partCells, okW, onlyFr, app, sliceCells, cellsAt, srcA, subA, eqFs, Int.cast_ofNat_Int, simprocAttr, ol, kl0, resA, ht, t0', e9]
    rfl
  · have e9 : tapsA p = .tup [.agg (ks .i32 (ofK (sixL 0 p) 8)), .int .i64 0] := by rw [tapsA, if_neg hp]
    have hS' := hS p
    rw [if_neg (by omega)] at hS'
    have hO' := hO (sixL 0 p) (sixL_lt (by decide))
    have o8 := ks_one .i32 (ofK (sixL 0 p) 8)
    have kl : (ks .i32 (ofK (sixL 0 p) 8)).length = 16 := by rw [ks_length, ofK_len]
    have t8 : (ks .i32 (ofK (sixL 0 p) 8)).take 16 = ks .i32 (ofK (sixL 0 p) 8) := List.take_of_length_le (by omega)
    have tp := isTLu8 p
    rw [bs] at hS'
    simp (maxSteps := 4000000) (disch := omega) only [abv, step, stepv, ev, wl, wn, wp, wz, aop, cV, cV1, AV.one, partCells, okW, onlyFr, app, sliceCells, cellsAt, srcA, subA, eqFs, Int.cast_ofNat_Int, simprocAttr, ol, kl0]
    refine callQ.flat 1 hS' rfl (by simp [frzN, frzK, frzL, frzV, frzL_T _ tp]) ?_
    simp (maxSteps := 4000000) (disch := omega) only [abv, step, stepv, ev, wl, wn, wp, wz, aop, cV, cV1, AV.one, partCells, okW, onlyFr, app, sliceCells, cellsAt, srcA, subA, eqFs, Int.cast_ofNat_Int, simprocAttr]
    refine callQ.vc hO' ?_
    have zl : zer16.length = 16 := rfl
    have zd : (ks .i32 zer16).drop 16 = [] := rfl
    simp (maxSteps := 4000000) (disch := omega) only [abv, step, stepv, ev, wl, wn, wp, wz, aop, cV, cV1, AV.one, partCells, okW, onlyFr, app, sliceCells, cellsAt, srcA, subA, eqFs, Int.cast_ofNat_Int, simprocAttr, o8, kl, t8, resA, ht, e9, zl, zd, List.append_nil]
    try simp [kl]
end Go.Am

namespace Go.Am
open Go.RowKit

/-! ### clip.Frames -/

theorem lens_ge {L n j : Nat} (hn : 1 ≤ n) (hL : 1 ≤ L) (hj : j < (lensL L n).length) : 1 ≤ (lensL L n).getD j 0 := by
  rw [List.getD_eq_getElem?_getD, List.getElem?_eq_getElem hj, Option.getD_some]
  have hm := List.getElem_mem hj
  unfold lensL at hm
  simp only [List.mem_append, List.mem_replicate, List.mem_singleton] at hm
  unfold lensL
  rcases hm with hm | hm
  · rw [hm.2]; omega
  · rw [hm]
    have g0 : (n - 1) / L * L ≤ n - 1 := Nat.div_mul_le_self _ _
    clear hm
    generalize (n - 1) / L * L = w at *
    omega
theorem ask_sub {c x : Int} {l p : List Int} (h : askN c x l = 0) (hs : ∀ v ∈ p, v ∈ l) (hp : 1 ≤ p.length) (hl : p.length ≤ l.length) (hc : (p.length : Int) % c = 0) : askN c x p = 0 := by
  unfold askN at h ⊢
  split at h
  · cases h
  rename_i h1
  split at h
  · rename_i h2; exact absurd h h2
  rename_i h2
  have h2' : checkN x l = 0 := by simpa using h2
  have h3 : checkN x p = 0 := by
    unfold checkN at h2' ⊢
    split at h2'
    · cases h2'
    rename_i a1
    split at h2'
    · cases h2'
    rename_i a2
    split at h2'
    · rename_i a3
      rw [if_neg a1, if_neg (by omega), if_pos (List.all_eq_true.2 fun v hv => List.all_eq_true.1 a3 v (hs v hv))]
    · cases h2'
  rw [if_neg h1, if_neg (by rw [h3]; simp), if_neg (by omega)]
theorem parts_len {c x r : Int} {l : List Int} (h : clipN c x r l = 0) : ∀ p ∈ partsOf c r l, askN c x p = 0 ∧ p.length ≤ 4000 ∧ 1 ≤ p.length := by
  have ha : askN c x l = 0 := by
    have h2 := clip_ask (c := c) (x := x) (r := r) (l := l)
    rw [h] at h2
    by_cases h3 : askN c x l = 0 ∧ headN c x r (l.length / c) = 0
    · exact h3.1
    · rw [if_neg h3] at h2; cases h2
  obtain ⟨k, n, rfl, k1, k2, hlen, ⟨o1, o2, o3, o4, o5⟩, h4⟩ := clip_ok h
  intro p hp
  unfold partsOf at hp
  rw [Int.toNat_natCast, hlen, Nat.mul_div_cancel _ (by omega)] at hp
  obtain ⟨j, hj, rfl⟩ := List.mem_map.1 hp
  rw [List.mem_range] at hj
  have hL1 : 1 ≤ (longN r).toNat := by have := longN_pos r; omega
  obtain ⟨m, p1, p2, p3, p4, p5, p6, p7⟩ := part_facts (j := j) hlen (by omega) hL1 hj
  have hm1 := lens_ge (n := n) (by omega) hL1 hj
  rw [p1] at hm1
  have hlen2 : (partL ((longN r).toNat * k) l j).length = m * k := by
    rw [p6, List.length_take, List.length_drop, hlen]
    omega
  have hmk : 1 ≤ m * k := Nat.mul_pos (by omega) k1
  have hmn : m * k ≤ n * k := Nat.mul_le_mul_right _ p2
  refine ⟨ask_sub ha (fun v hv => ?_) (by rw [hlen2]; exact hmk) (by rw [hlen2, hlen]; exact hmn) ?_, by rw [hlen2]; omega, by rw [hlen2]; exact hmk⟩
  · rw [p6] at hv
    exact List.mem_of_mem_drop (List.mem_of_mem_take hv)
  · rw [hlen2, Int.natCast_mul, Int.mul_emod_left]

def framesOf (c x r : Int) (l : List Int) (t : List Int) : List (List UInt8) := (partsOf c r l).map (encB c.toNat x t)
def framesA (c x r : Int) (l : List Int) (p : List UInt8) : AV :=
  if clipN c x r l ≠ 0 then .tup [bss [], .int .i64 8] else if 64 < p.length then .tup [bss [], .int .i64 2] else .tup [bss (framesOf c x r l (ofK (sixL 0 p) 8)), .int .i64 0]
theorem isD_framesA (c x r : Int) (l : List Int) (p : List UInt8) : isD (framesA c x r l p) = true := by unfold framesA; split <;> (try split) <;> simp [isD, isDL, isD_bss]
theorem I32_ofK (d k : Nat) : I32 (ofK d k) := fun x hx => by
  unfold ofK at hx
  obtain ⟨i, _, rfl⟩ := List.mem_map.1 hx
  split
  · have := sb8_b (d / 2 ^ (8 * i)); omega
  · omega
def S_Frames (P : Prg) (f : Nat) : Prop := ∀ (c x r : Int) (l : List Int) (p : List UInt8), I32 l → l.length ≤ 1000000 → VC P f [clA c x r l, .str p] (framesA c x r l p)

set_option maxHeartbeats 1000000 in
theorem clip_Frames {P : Prg} {f fC fT fP fS fE fA g t0 t1 t2 t3 t4 ti : Nat} (b : BodyC P f 45 [.cell 4 t1, .cell 5 t2] (ac_clip_Frames fC fT fP fS fE t0 t1 t2 t3 t4)) (hC : S_ClipCheck P fC) (hT : S_Taps P fT) (hP : S_Parts24 g P fP) (hI : S_PartsIt ti P g) (bG : Body P g 43 [] (ac_clip_parts_1 fA)) (hS : S_Shape24 P fS) (hE : S_Enc P fE)
    (ht1 : aggO P t1 = some none) (ht2 : aggO P t2 = some none) (h0 : t0 ≠ ti) (h1 : t1 ≠ ti) (h2 : t2 ≠ ti) (h3 : t3 ≠ ti) (h4 : t4 ≠ ti) : S_Frames P f := by
  intro c x r l p hI32 hl
  refine VC.of_walk 2 (by simp [isDL, isD, isD_il, clA]) (isD_framesA _ _ _ _ _) (ACall.of_rangeC b (by simp) ?_)
  have hC' := hC c x r l hI32 hl
  rw [il] at hC'
  have tl := isTL_ks .i32 l
  have z : ([.int .i32 0, .int .i32 0, .int .i32 0, .int .i32 0, .int .i32 0, .int .i32 0, .int .i32 0, .int .i32 0, .int .i32 0, .int .i32 0, .int .i32 0, .int .i32 0, .int .i32 0, .int .i32 0, .int .i32 0, .int .i32 0] : List AV) = ks .i32 zer16 := rfl
  unfold ac_clip_Frames
  rw [z]
  have ol := ks_one .i32 zer16
  have kl0 : (ks .i32 zer16).length = 16 := rfl
  rcases clipN_cases c x r l with h | h
  · rw [h] at hC'
    have hT' := hT p
    simp (maxSteps := 4000000) (disch := omega) only [abv, step, stepv, ev, wl, wn, wp, wz, aop, cV, cV1, AV.one, partCells, okW, onlyFr, app, sliceCells, cellsAt, srcA, subA, eqFs, Int.cast_ofNat_Int, simprocAttr, clA, il, wpR_cons, wpR_nil, kS_normal, kS_ret, kR_normal, kR_ret]
    refine callQ.vc hC' ?_
    simp (maxSteps := 4000000) (disch := omega) only [abv, step, stepv, ev, wl, wn, wp, wz, aop, cV, cV1, AV.one, partCells, okW, onlyFr, app, sliceCells, cellsAt, srcA, subA, eqFs, Int.cast_ofNat_Int, simprocAttr, kS_normal, kS_ret, wpR_cons, wpR_nil]
    refine callQ.vc hT' ?_
    by_cases hp : 64 < p.length
    · have e9 : framesA c x r l p = .tup [bss [], .int .i64 2] := by rw [framesA, if_neg (by omega), if_pos hp]
      have e8 : tapsA p = .tup [.agg (ks .i32 zer16), .int .i64 2] := by rw [tapsA, if_pos hp]
      have t0' : (ks .i32 zer16).take 16 = ks .i32 zer16 := rfl
      have zl : zer16.length = 16 := rfl
      have zd : (ks .i32 zer16).drop 16 = [] := rfl
      rw [e8]
      simp (maxSteps := 4000000) (disch := omega) only [abv, step, stepv, ev, wl, wn, wp, wz, aop, cV, cV1, AV.one, partCells, okW, onlyFr, app, sliceCells, cellsAt, srcA, subA, eqFs, Int.cast_ofNat_Int, simprocAttr, kS_normal, kS_ret, wpR_cons, wpR_nil, ol, kl0, t0', zl, zd, List.append_nil, e9, resA, ht1, ht2]
      simp [frzN, frzK, frzL, frzV, isDL, isD, bss]
    · have e9 : framesA c x r l p = .tup [bss (framesOf c x r l (ofK (sixL 0 p) 8)), .int .i64 0] := by rw [framesA, if_neg (by omega), if_neg hp]
      have e8 : tapsA p = .tup [.agg (ks .i32 (ofK (sixL 0 p) 8)), .int .i64 0] := by rw [tapsA, if_neg hp]
      obtain ⟨T, hTe⟩ : ∃ T, ofK (sixL 0 p) 8 = T := ⟨_, rfl⟩
      have hTl : T.length = 16 := by rw [← hTe, ofK_len]
      have hTI : I32 T := by rw [← hTe]; exact I32_ofK _ _
      have oT := ks_one .i32 T
      have kT : (ks .i32 T).length = 16 := by rw [ks_length, hTl]
      have tT : (ks .i32 T).take 16 = ks .i32 T := List.take_of_length_le (by omega)
      have zl : zer16.length = 16 := rfl
      have zd : (ks .i32 zer16).drop 16 = [] := rfl
      rw [hTe] at e8 e9
      have hparts := parts_len h
      obtain ⟨k, n, rfl, k1, k2, hlen, hok, h4'⟩ := clip_ok h
      have hP' := hP k x r l
      have hI' := hI k n x r l k1 k2 hlen hok
      rw [clA] at hP'
      rw [il] at hP' hI'
      have hS' := hS k x r l
      rw [shA, il] at hS'
      rw [e8]
      simp (maxSteps := 4000000) (disch := omega) only [abv, step, stepv, ev, wl, wn, wp, wz, aop, cV, cV1, AV.one, partCells, okW, onlyFr, app, sliceCells, cellsAt, srcA, subA, eqFs, Int.cast_ofNat_Int, simprocAttr, kS_normal, kS_ret, wpR_cons, wpR_nil, ol, kl0, oT, kT, zl, zd, List.append_nil]
      refine callQ.vc hP' ?_
      simp (maxSteps := 4000000) (disch := omega) only [abv, step, stepv, ev, wl, wn, wp, wz, aop, cV, cV1, AV.one, partCells, okW, onlyFr, app, sliceCells, cellsAt, srcA, subA, eqFs, Int.cast_ofNat_Int, simprocAttr, kR_normal]
      obtain ⟨Lc, hLc⟩ : ∃ Lc, (longN r).toNat * k = Lc := ⟨_, rfl⟩
      rw [hLc] at hI'
      have hcnt : (lensL (longN r).toNat n).length ≤ 1000 := by have := hok.2.2.2.2; rwa [Int.toNat_natCast] at this
      obtain ⟨cnt, hcn⟩ : ∃ cnt, (lensL (longN r).toNat n).length = cnt := ⟨_, rfl⟩
      have hpo : partsOf k r l = (List.finRange cnt).map (fun j => partL Lc l j.1) := by
        unfold partsOf
        rw [Int.toNat_natCast, hlen, Nat.mul_div_cancel _ (by omega), hcn, hLc]
        apply List.ext_getElem <;> simp
      rw [hcn] at hI' hcnt
      refine ⟨cnt, g, _, [ti], _, [(27, .fn (.func g) [] [.cell [.int .i64 k, .int .i64 x, .int .i64 r, .list l.length (ks .i32 l)]]), (2, .ref 0 1 0), (4, .ref 1 1 0), (5, .ref 2 1 0), (7, .ref 3 1 0), (9, .ref 4 1 0)],
        fun pre => [⟨t0, 4, 1, [.int .i64 k, .int .i64 x, .int .i64 r, .list l.length (ks .i32 l)], 0⟩, ⟨t1, 1, 1, [.list 0 []], 0⟩, ⟨t2, 1, 1, [.int .i64 0], 0⟩, ⟨t3, 16, 1, ks .i32 T, 0⟩, ⟨t1, 1, 1, [.own 5 pre.length], 0⟩, ⟨t4, 1, pre.length, pre.map (fun j => bs (encB k x T (partL Lc l j.1))), 0⟩], ?_, rfl, bG.ent, by simp [isDL, isD, isDL_ks], hI', by omega, by omega, rfl, ?_, ?_, ?_⟩
      · refine Le.trans (Le.virtF (p := 4) (ty := t4) (sz := 1) (by omega) rfl rfl) (Le.drop 6 2 (by omega) rfl (by simp [Am.look, frzK, frzL, frzV, frzL_T _ tl]) ?_)
        intro i z hz
        match i, hz with
        | 0, hz => cases hz; exact ⟨_, rfl, by simp [frzK, frzL, frzV, frzL_T _ tl]⟩
        | 1, hz => cases hz; exact ⟨_, rfl, by simp [frzK, frzL, frzV]⟩
        | 2, hz => cases hz; exact ⟨_, rfl, by simp [frzK, frzL, frzV]⟩
        | 3, hz => cases hz; exact ⟨_, rfl, by simp [frzK, frzL_T _ (isTL_ks .i32 T)]⟩
        | 4, hz => cases hz; exact ⟨_, rfl, by simp [frzK, frzL, frzV]⟩
        | 5, hz => cases hz; exact ⟨_, rfl, by simp [frzK, frzL, frzV]⟩
        | i + 6, hz => simp at hz
      · intro pre x hx
        simp only [List.mem_cons, List.not_mem_nil, or_false] at hx ⊢
        rcases hx with rfl | rfl | rfl | rfl | rfl | rfl
        · exact h0
        · exact h1
        · exact h2
        · exact h3
        · exact h1
        · exact h4
      · intro pre y hpl
        have hmem : partL Lc l y.1 ∈ partsOf k r l := by rw [hpo]; exact List.mem_map.2 ⟨y, List.mem_finRange _, rfl⟩
        obtain ⟨q1, q2, q3⟩ := hparts _ hmem
        have hqI : I32 (partL Lc l y.1) := fun v hv => hI32 v (by
          unfold partL at hv
          exact List.mem_of_mem_drop (List.mem_of_mem_take hv))
        have hE' := hE k x T (partL Lc l y.1) hTl hTI hqI
        rw [enfA, if_neg (by omega), Int.toNat_natCast] at hE'
        obtain ⟨w1, w2⟩ := enc_le (t := T) hqI q1
        rw [Int.toNat_natCast] at w1 w2
        have hpm : (pre.map (fun j => bs (encB k x T (partL Lc l j.1)))).length = pre.length := by simp
        obtain ⟨Y, hYe⟩ : ∃ Y, encB k x T (partL Lc l y.1) = Y := ⟨_, rfl⟩
        rw [hYe] at hE' w1 w2
        obtain ⟨Z, hZ⟩ : ∃ Z, partL Lc l y.1 = Z := ⟨_, rfl⟩
        rw [hZ] at hE' hqI q1 q2 q3 hYe ⊢
        rw [shA, il, bs] at hE'
        have tZ := isTL_ks .i32 Z
        have tT2 := isTL_ks .i32 T
        rw [il]
        simp (maxSteps := 4000000) (disch := omega) only [abv, step, stepv, ev, wl, wn, wp, wz, aop, cV, cV1, AV.one, partCells, okW, onlyFr, app, sliceCells, cellsAt, srcA, subA, eqFs, Int.cast_ofNat_Int, simprocAttr, tT, kT]
        refine callD.vc hS' ?_
        simp (maxSteps := 4000000) (disch := omega) only [abv, step, stepv, ev, wl, wn, wp, wz, aop, cV, cV1, AV.one, partCells, okW, onlyFr, app, sliceCells, cellsAt, srcA, subA, eqFs, Int.cast_ofNat_Int, simprocAttr, tT, kT]
        refine callD.vc hE' ?_
        simp (maxSteps := 4000000) (disch := omega) only [abv, step, stepv, ev, wl, wn, wp, wz, aop, cV, cV1, AV.one, partCells, okW, onlyFr, app, sliceCells, cellsAt, srcA, subA, eqFs, Int.cast_ofNat_Int, simprocAttr, hpm]
        refine Le.drop 6 2 (by omega) rfl (by simp) ?_
        intro i z hz
        match i, hz with
        | 0, hz => cases hz; exact ⟨_, rfl, by simp [frzK, frzL, frzV, frzL_T _ tl]⟩
        | 1, hz => cases hz; exact ⟨_, rfl, by simp [frzK, frzL, frzV]⟩
        | 2, hz => cases hz; exact ⟨_, rfl, by simp [frzK, frzL, frzV]⟩
        | 3, hz => cases hz; exact ⟨_, rfl, by simp [frzK, frzL_T _ tT2]⟩
        | 4, hz => cases hz; exact ⟨_, rfl, by simp [frzK, frzL, frzV]⟩
        | 5, hz =>
          cases hz
          have e : (pre ++ [y]).map (fun j => bs (encB k x T (partL Lc l j.1))) = pre.map (fun j => bs (encB k x T (partL Lc l j.1))) ++ [.list Y.length (u8 Y)] := by
            simp only [List.map_append, List.map_cons, List.map_nil, hZ, hYe]
            rfl
          rw [e]
          refine ⟨_, rfl, frzL_T _ ?_⟩
          rw [← e]
          have := isTL_bss ((pre ++ [y]).map (fun j => encB k x T (partL Lc l j.1)))
          rwa [List.map_map] at this
        | i + 6, hz => simp at hz
      · have hfl : (List.finRange cnt).length = cnt := by simp
        have hpi : (List.finRange cnt).map (fun j => bs (encB k x T (partL Lc l j.1))) = (framesOf k x r l T).map bs := by
          unfold framesOf
          rw [hpo, List.map_map, List.map_map, Int.toNat_natCast]
          rfl
        dsimp only
        rw [hpi, hfl, e9]
        have hpl : (framesOf k x r l T).length = cnt := by unfold framesOf; rw [hpo]; simp
        have tp := isTL_bss (framesOf k x r l T)
        generalize hPP : (framesOf k x r l T).map bs = PP at *
        simp (maxSteps := 4000000) (disch := omega) only [abv, step, stepv, ev, wl, wn, wp, wz, aop, cV, cV1, AV.one, partCells, okW, onlyFr, app, sliceCells, cellsAt, srcA, subA, eqFs, Int.cast_ofNat_Int, simprocAttr, resA, ht1, ht2]
        simp [frzN, frzK, frzL, frzV, isDL, isD, bss, hpl, hPP, frzL_T _ tp]
  · rw [h] at hC'
    have e9 : framesA c x r l p = .tup [bss [], .int .i64 8] := by rw [framesA, if_pos (by omega)]
    simp (maxSteps := 4000000) (disch := omega) only [abv, step, stepv, ev, wl, wn, wp, wz, aop, cV, cV1, AV.one, partCells, okW, onlyFr, app, sliceCells, cellsAt, srcA, subA, eqFs, Int.cast_ofNat_Int, simprocAttr, clA, il, wpR_cons, wpR_nil, kS_normal, kS_ret, kR_normal, kR_ret]
    refine callQ.vc hC' ?_
    simp (maxSteps := 4000000) (disch := omega) only [abv, step, stepv, ev, wl, wn, wp, wz, aop, cV, cV1, AV.one, partCells, okW, onlyFr, app, sliceCells, cellsAt, srcA, subA, eqFs, Int.cast_ofNat_Int, simprocAttr, kS_normal, kS_ret, wpR_cons, wpR_nil, e9, resA, ht1, ht2]
    simp [frzN, frzK, frzL, frzV, isDL, isD, bss]
end Go.Am

namespace Go.Am
open Go.RowKit

/-! ### The reference's Frames; the law ClipFrames -/

theorem bss_at {L : List (List UInt8)} {k : Nat} (h : k < L.length) : (L.map bs).drop k = bs (L.getD k []) :: (L.map bs).drop (k + 1) := by
  rw [List.drop_eq_getElem_cons (by simpa using h)]
  simp [List.getD_eq_getElem?_getD, List.getElem?_eq_getElem h]

set_option maxHeartbeats 1000000 in
theorem ref24_Frames {P : Prg} {f fS fT fH fE t0 t1 t2 : Nat} (bd : Body P f 51 [.tmp 4, .tmp 5] (ac_cadenzaref24_Frames fS fT fH fE t0 t1 t2)) (hS : S_Split P fS) (hT : S_Taps P fT) (hH : S_Shape24 P fH) (hE : S_Enc P fE) : S_Frames P f := by
  intro c x r l p hI32 hl
  refine VC.of_walk 2 (by simp [isDL, isD, isD_il, clA]) (isD_framesA _ _ _ _ _) (ACall.of_body bd (by simp) ?_)
  have hS' := hS c x r l hI32 hl
  rw [clA, il] at hS'
  have tl := isTL_ks .i32 l
  have z : ([.int .i32 0, .int .i32 0, .int .i32 0, .int .i32 0, .int .i32 0, .int .i32 0, .int .i32 0, .int .i32 0, .int .i32 0, .int .i32 0, .int .i32 0, .int .i32 0, .int .i32 0, .int .i32 0, .int .i32 0, .int .i32 0] : List AV) = ks .i32 zer16 := rfl
  unfold ac_cadenzaref24_Frames
  rw [z]
  have ol := ks_one .i32 zer16
  have kl0 : (ks .i32 zer16).length = 16 := rfl
  have zl : zer16.length = 16 := rfl
  have zd : (ks .i32 zer16).drop 16 = [] := rfl
  have t0' : (ks .i32 zer16).take 16 = ks .i32 zer16 := rfl
  rcases clipN_cases c x r l with h | h
  · have e7 : splitA c x r l = .tup [iss (partsOf c r l), .int .i64 0] := by rw [splitA, if_pos h]
    have hT' := hT p
    rw [e7] at hS'
    simp (maxSteps := 4000000) (disch := omega) only [abv, step, stepv, ev, wl, wn, wp, wz, aop, cV, cV1, AV.one, partCells, okW, onlyFr, app, sliceCells, cellsAt, srcA, subA, eqFs, Int.cast_ofNat_Int, simprocAttr, clA, il]
    refine callQ.vc hS' ?_
    simp (maxSteps := 4000000) (disch := omega) only [abv, step, stepv, ev, wl, wn, wp, wz, aop, cV, cV1, AV.one, partCells, okW, onlyFr, app, sliceCells, cellsAt, srcA, subA, eqFs, Int.cast_ofNat_Int, simprocAttr]
    refine callQ.vc hT' ?_
    by_cases hp : 64 < p.length
    · have e9 : framesA c x r l p = .tup [bss [], .int .i64 2] := by rw [framesA, if_neg (by omega), if_pos hp]
      have e8 : tapsA p = .tup [.agg (ks .i32 zer16), .int .i64 2] := by rw [tapsA, if_pos hp]
      rw [e8]
      simp (maxSteps := 4000000) (disch := omega) only [abv, step, stepv, ev, wl, wn, wp, wz, aop, cV, cV1, AV.one, partCells, okW, onlyFr, app, sliceCells, cellsAt, srcA, subA, eqFs, Int.cast_ofNat_Int, simprocAttr, ol, kl0, t0', zl, zd, List.append_nil, e9]
      simp [frzN, frzK, frzL, frzV, isDL, isD, bss]
    · have e9 : framesA c x r l p = .tup [bss (framesOf c x r l (ofK (sixL 0 p) 8)), .int .i64 0] := by rw [framesA, if_neg (by omega), if_neg hp]
      have e8 : tapsA p = .tup [.agg (ks .i32 (ofK (sixL 0 p) 8)), .int .i64 0] := by rw [tapsA, if_neg hp]
      obtain ⟨T, hTe⟩ : ∃ T, ofK (sixL 0 p) 8 = T := ⟨_, rfl⟩
      have hTl : T.length = 16 := by rw [← hTe, ofK_len]
      have hTI : I32 T := by rw [← hTe]; exact I32_ofK _ _
      have oT := ks_one .i32 T
      have kT : (ks .i32 T).length = 16 := by rw [ks_length, hTl]
      have tT : (ks .i32 T).take 16 = ks .i32 T := List.take_of_length_le (by omega)
      have tT2 := isTL_ks .i32 T
      rw [hTe] at e8 e9
      have hparts := parts_len h
      have hpl := partsOf_le h
      have hfl : (framesOf c x r l T).length = (partsOf c r l).length := by unfold framesOf; simp
      have hpI : ∀ q ∈ partsOf c r l, I32 q := fun q hq v hv => hI32 v (by
        have := parts_flat h
        rw [← this]
        exact List.mem_flatten.2 ⟨q, hq, hv⟩)
      have hmp : ((partsOf c r l).map il).length = (partsOf c r l).length := by simp
      obtain ⟨S, hSe⟩ : ∃ S, partsOf c r l = S := ⟨_, rfl⟩
      have hfo : framesOf c x r l T = S.map (encB c.toNat x T) := by unfold framesOf; rw [hSe]
      rw [hSe] at hparts hpl hfl hpI hmp
      rw [hfo] at e9
      rw [e8]
      simp (maxSteps := 4000000) (disch := omega) only [abv, step, stepv, ev, wl, wn, wp, wz, aop, cV, cV1, AV.one, partCells, okW, onlyFr, app, sliceCells, cellsAt, srcA, subA, eqFs, Int.cast_ofNat_Int, simprocAttr, ol, kl0, oT, kT, zl, zd, List.append_nil, iss, hSe]
      refine ALoop.by (ι := Nat) (fun j => ⟨[(10, .int .i64 j), (9, .own 2 j), (6, .list S.length (S.map il)), (2, .ref 0 1 0), (8, .ref 1 1 0)], [⟨t0, 4, 1, [.int .i64 c, .int .i64 x, .int .i64 r, .list l.length (ks .i32 l)], 0⟩, ⟨t1, 16, 1, ks .i32 T, 0⟩, ⟨t2, 1, j, ((S.take j).map (encB c.toNat x T)).map bs, 0⟩]⟩)
        (fun j => j ≤ S.length) (fun j => S.length - j) 0 (Le.trans (Le.virt 9 t2 1 (by omega) rfl) (Le.slots (by simp [Am.look]))) (by omega) ?_
      intro j hj
      have hpt : (((S.take j).map (encB c.toNat x T)).map bs).length = j := by simp; omega
      by_cases hlt : j < S.length
      · have e1 := ils_at (L := S) (k := j) hlt
        have hmem : S.getD j [] ∈ S := by rw [List.getD_eq_getElem?_getD, List.getElem?_eq_getElem hlt]; exact List.getElem_mem _
        obtain ⟨q1, q2, q3⟩ := hparts _ hmem
        have hqI := hpI _ hmem
        have hH' := hH c x r l
        rw [shA, il] at hH'
        have hE' := hE c x T (S.getD j []) hTl hTI hqI
        rw [enfA, if_neg (by omega)] at hE'
        obtain ⟨w1, w2⟩ := enc_le (t := T) hqI q1
        have hsn : S.take (j + 1) = S.take j ++ [S.getD j []] := by
          rw [List.take_succ_eq_append_getElem hlt, List.getD_eq_getElem?_getD, List.getElem?_eq_getElem hlt]; rfl
        obtain ⟨Z, hZ⟩ : ∃ Z, S.getD j [] = Z := ⟨_, rfl⟩
        rw [hZ] at e1 hE' hqI q1 q2 q3 hsn w1 w2
        obtain ⟨Y, hYe⟩ : ∃ Y, encB c.toNat x T Z = Y := ⟨_, rfl⟩
        rw [hYe] at hE' w1 w2
        rw [shA, bs] at hE'
        have tp := isTL_bss ((S.take j).map (encB c.toNat x T))
        have tY := isTLu8 Y
        simp (maxSteps := 4000000) (disch := omega) only [abv, step, stepv, ev, wl, wn, wp, wz, aop, cV, cV1, AV.one, partCells, okW, onlyFr, app, sliceCells, cellsAt, srcA, subA, eqFs, Int.cast_ofNat_Int, simprocAttr, e1, hmp, tT, kT]
        refine callD.vc hH' ?_
        simp (maxSteps := 4000000) (disch := omega) only [abv, step, stepv, ev, wl, wn, wp, wz, aop, cV, cV1, AV.one, partCells, okW, onlyFr, app, sliceCells, cellsAt, srcA, subA, eqFs, Int.cast_ofNat_Int, simprocAttr, tT, kT, e1, hmp]
        refine callD.vc hE' ?_
        simp (maxSteps := 4000000) (disch := omega) only [abv, step, stepv, ev, wl, wn, wp, wz, aop, cV, cV1, AV.one, partCells, okW, onlyFr, app, sliceCells, cellsAt, srcA, subA, eqFs, Int.cast_ofNat_Int, simprocAttr, hpt]
        refine ⟨j + 1, by omega, by omega, ?_⟩
        refine Le.drop 3 2 (by omega) rfl (by simp [Am.look, frzK, frzL, frzV, frzL_T _ (isTL_map_il S)]) ?_
        intro i z hz
        match i, hz with
        | 0, hz => cases hz; exact ⟨_, rfl, by simp [frzK, frzL, frzV, frzL_T _ tl]⟩
        | 1, hz => cases hz; exact ⟨_, rfl, by simp [frzK, frzL_T _ tT2]⟩
        | 2, hz =>
          cases hz
          have e : ((S.take (j + 1)).map (encB c.toNat x T)).map bs = ((S.take j).map (encB c.toNat x T)).map bs ++ [.list Y.length (u8 Y)] := by
            rw [hsn, List.map_append, List.map_append, List.map_cons, List.map_nil, hYe]
            rfl
          rw [e]
          refine ⟨_, rfl, frzL_T _ ?_⟩
          rw [← e]
          exact isTL_bss _
        | i + 3, hz => simp at hz
      · obtain rfl : j = S.length := by omega
        rw [List.take_length] at hpt ⊢
        have hFl : (S.map (encB c.toNat x T)).length = S.length := by simp
        generalize S.map (encB c.toNat x T) = FF at *
        have tp := isTL_bss FF
        simp (maxSteps := 4000000) (disch := omega) only [abv, step, stepv, ev, wl, wn, wp, wz, aop, cV, cV1, AV.one, partCells, okW, onlyFr, app, sliceCells, cellsAt, srcA, subA, eqFs, Int.cast_ofNat_Int, simprocAttr, e9]
        simp [frzN, frzK, frzL, frzV, isDL, isD, bss, frzL_T _ tp, hFl]
  · have e7 : splitA c x r l = .tup [iss [], .int .i64 8] := by rw [splitA, if_neg (by omega)]
    have e9 : framesA c x r l p = .tup [bss [], .int .i64 8] := by rw [framesA, if_pos (by omega)]
    rw [e7] at hS'
    simp (maxSteps := 4000000) (disch := omega) only [abv, step, stepv, ev, wl, wn, wp, wz, aop, cV, cV1, AV.one, partCells, okW, onlyFr, app, sliceCells, cellsAt, srcA, subA, eqFs, Int.cast_ofNat_Int, simprocAttr, clA, il]
    refine callQ.vc hS' ?_
    simp (maxSteps := 4000000) (disch := omega) only [abv, step, stepv, ev, wl, wn, wp, wz, aop, cV, cV1, AV.one, partCells, okW, onlyFr, app, sliceCells, cellsAt, srcA, subA, eqFs, Int.cast_ofNat_Int, simprocAttr, e9]
    simp [frzN, frzK, frzL, frzV, isDL, isD, bss]

def S_FEq (P : Prg) (f : Nat) : Prop := ∀ a b : List (List UInt8), a.length ≤ 1000000 → b.length ≤ 1000000 → VC P f [bss a, bss b] (.bool (decide (a = b)))
theorem frames_ext {a b : List (List UInt8)} (h : a.length = b.length) (h2 : ∀ j, j < b.length → a.getD j [] = b.getD j []) : a = b := by
  apply List.ext_getElem h
  intro i h1 h3
  have := h2 i h3
  simpa [List.getD_eq_getElem?_getD, List.getElem?_eq_getElem h1, List.getElem?_eq_getElem h3] using this
theorem ref24_SameFrames {P : Prg} {f : Nat} (bd : Body P f 28 [.tmp 4] ac_cadenzaref24_SameFrames) : S_FEq P f := by
  intro a b ha hb
  refine VC.of_acall (by simp [isDL, isD, isD_bss]) rfl (ACall.of_body bd (by simp) ?_)
  have la' : (a.map bs).length = a.length := by simp
  have lb' : (b.map bs).length = b.length := by simp
  by_cases hn : a.length = b.length
  · simp (maxSteps := 4000000) (disch := omega) only [abv, step, stepv, ev, wl, wn, wp, wz, aop, cV, cV1, AV.one, partCells, okW, onlyFr, app, sliceCells, cellsAt, srcA, subA, eqFs, Int.cast_ofNat_Int, simprocAttr, ac_cadenzaref24_SameFrames, bss, hn]
    refine ALoop.by (ι := Nat) (fun k => ⟨[(5, .int .i64 k), (1, .list b.length (b.map bs)), (0, .list b.length (a.map bs))], []⟩) (fun k => k ≤ b.length ∧ ∀ j, j < k → a.getD j [] = b.getD j []) (fun k => b.length - k) 0 (Le.slots (by simp [Am.look])) ⟨by omega, by simp⟩ ?_
    intro k ⟨hk, hg⟩
    by_cases hlt : k < b.length
    · have e1 := bss_at (L := a) (k := k) (by omega)
      have e2 := bss_at (L := b) (k := k) hlt
      have d1 := decU8_u8 (a.getD k [])
      have d2 := decU8_u8 (b.getD k [])
      simp only [bs] at e1 e2
      by_cases he : a.getD k [] = b.getD k []
      · rw [he] at e1 d1
        have s1 : strA .neq (b.getD k []) (b.getD k []) = some (.bool false) := by simp [strA]
        simp (maxSteps := 4000000) (disch := omega) only [abv, step, stepv, ev, wl, wn, wp, wz, aop, cV, cV1, AV.one, partCells, okW, onlyFr, app, sliceCells, cellsAt, srcA, subA, eqFs, Int.cast_ofNat_Int, simprocAttr, e1, e2, la', lb', hn, d1, d2, s1]
        exact ⟨k + 1, ⟨by omega, fun j hj => by
          by_cases e : j = k
          · rw [e]; exact he
          · exact hg j (by omega)⟩, by omega, Le.slots (by simp [Am.look])⟩
      · have s1 : strA .neq (a.getD k []) (b.getD k []) = some (.bool true) := by
          show some (AV.bool (!(a.getD k [] == b.getD k []))) = _
          rw [beq_false_of_ne he]; rfl
        have e9 : decide (a = b) = false := decide_eq_false (fun h => he (by rw [h]))
        simp (maxSteps := 4000000) (disch := omega) only [abv, step, stepv, ev, wl, wn, wp, wz, aop, cV, cV1, AV.one, partCells, okW, onlyFr, app, sliceCells, cellsAt, srcA, subA, eqFs, Int.cast_ofNat_Int, simprocAttr, e1, e2, la', lb', hn, d1, d2, s1, e9]
    · obtain rfl : k = b.length := by omega
      have e9 : decide (a = b) = true := decide_eq_true (frames_ext hn hg)
      simp (maxSteps := 4000000) (disch := omega) only [abv, step, stepv, ev, wl, wn, wp, wz, aop, cV, cV1, AV.one, partCells, okW, onlyFr, app, sliceCells, cellsAt, srcA, subA, eqFs, Int.cast_ofNat_Int, simprocAttr, e9]
  · have e9 : decide (a = b) = false := decide_eq_false (fun h => hn (by rw [h]))
    simp (maxSteps := 4000000) (disch := omega) only [abv, step, stepv, ev, wl, wn, wp, wz, aop, cV, cV1, AV.one, partCells, okW, onlyFr, app, sliceCells, cellsAt, srcA, subA, eqFs, Int.cast_ofNat_Int, simprocAttr, ac_cadenzaref24_SameFrames, bss, e9]

theorem frames_form (c x r : Int) (l : List Int) (p : List UInt8) : ∃ (S : List (List UInt8)) (e : Int), framesA c x r l p = .tup [bss S, .int .i64 e] ∧ S.length ≤ 1000 := by
  unfold framesA
  split
  · exact ⟨[], 8, rfl, by simp⟩
  rename_i h
  split
  · exact ⟨[], 2, rfl, by simp⟩
  · refine ⟨_, 0, rfl, ?_⟩
    have := partsOf_le (c := c) (x := x) (r := r) (l := l) (by omega)
    unfold framesOf
    rw [List.length_map]
    exact this

def S_LawFrames (P : Prg) (f : Nat) : Prop := ∀ (c x r : Int) (l : List Int) (p : List UInt8), I32 l → VC P f [clA c x r l, .str p] (.bool true)
theorem law24_ClipFrames {P : Prg} {f fG fF fR fS t0 : Nat} (bd : Body P f 37 [.tmp 4] (ac_cadenzalaw24_ClipFrames fG fF fR fS t0)) (hG : S_Great13 P fG) (hF : S_Frames P fF) (hR : S_Frames P fR) (hS : S_FEq P fS) : S_LawFrames P f := by
  intro c x r l p hl
  refine VC.of_acall (by simp [isDL, isD, isD_il, clA]) rfl (ACall.of_body bd (by simp) ?_)
  by_cases hg : greatL l
  · have hG' := (hG l).1 hg
    rw [il] at hG'
    simp (maxSteps := 4000000) (disch := omega) only [abv, step, stepv, ev, wl, wn, wp, wz, aop, cV, cV1, AV.one, partCells, okW, onlyFr, app, sliceCells, cellsAt, srcA, subA, eqFs, Int.cast_ofNat_Int, simprocAttr, ac_cadenzalaw24_ClipFrames, clA, il]
    refine callQ.vc hG' ?_
    simp (maxSteps := 4000000) (disch := omega) only [abv, step, stepv, ev, wl, wn, wp, wz, aop, cV, cV1, AV.one, partCells, okW, onlyFr, app, sliceCells, cellsAt, srcA, subA, eqFs, Int.cast_ofNat_Int, simprocAttr]
  have hG' := (hG l).2 hg
  rw [il] at hG'
  have hg' : l.length ≤ 4100 := by unfold greatL at hg; omega
  by_cases hp : 100 < p.length
  · simp (maxSteps := 4000000) (disch := omega) only [abv, step, stepv, ev, wl, wn, wp, wz, aop, cV, cV1, AV.one, partCells, okW, onlyFr, app, sliceCells, cellsAt, srcA, subA, eqFs, Int.cast_ofNat_Int, simprocAttr, ac_cadenzalaw24_ClipFrames, clA, il]
    refine callQ.vc hG' ?_
    simp (maxSteps := 4000000) (disch := omega) only [abv, step, stepv, ev, wl, wn, wp, wz, aop, cV, cV1, AV.one, partCells, okW, onlyFr, app, sliceCells, cellsAt, srcA, subA, eqFs, Int.cast_ofNat_Int, simprocAttr]
  obtain ⟨S, e, e1, hS1⟩ := frames_form c x r l p
  have hF' := hF c x r l p hl (by omega)
  have hR' := hR c x r l p hl (by omega)
  have hS' := hS S S (by omega) (by omega)
  rw [e1, clA, il] at hF' hR'
  simp only [eq_self, decide_true] at hS'
  simp (maxSteps := 4000000) (disch := omega) only [abv, step, stepv, ev, wl, wn, wp, wz, aop, cV, cV1, AV.one, partCells, okW, onlyFr, app, sliceCells, cellsAt, srcA, subA, eqFs, Int.cast_ofNat_Int, simprocAttr, ac_cadenzalaw24_ClipFrames, clA, il]
  refine callQ.vc hG' ?_
  simp (maxSteps := 4000000) (disch := omega) only [abv, step, stepv, ev, wl, wn, wp, wz, aop, cV, cV1, AV.one, partCells, okW, onlyFr, app, sliceCells, cellsAt, srcA, subA, eqFs, Int.cast_ofNat_Int, simprocAttr]
  refine callQ.vc hF' ?_
  simp (maxSteps := 4000000) (disch := omega) only [abv, step, stepv, ev, wl, wn, wp, wz, aop, cV, cV1, AV.one, partCells, okW, onlyFr, app, sliceCells, cellsAt, srcA, subA, eqFs, Int.cast_ofNat_Int, simprocAttr]
  refine callQ.vc hR' ?_
  simp (maxSteps := 4000000) (disch := omega) only [abv, step, stepv, ev, wl, wn, wp, wz, aop, cV, cV1, AV.one, partCells, okW, onlyFr, app, sliceCells, cellsAt, srcA, subA, eqFs, Int.cast_ofNat_Int, simprocAttr]
  refine callQ.vc hS' ?_
  simp (maxSteps := 4000000) (disch := omega) only [abv, step, stepv, ev, wl, wn, wp, wz, aop, cV, cV1, AV.one, partCells, okW, onlyFr, app, sliceCells, cellsAt, srcA, subA, eqFs, Int.cast_ofNat_Int, simprocAttr]
end Go.Am

namespace Go.Am
open Go.RowKit

/-! ### A clip cs0 an argument -/

def clSh : Sh := .tuple [.int .i64, .int .i64, .int .i64, .slice (.int .i32)]
theorem fits_clip {cs0 : List AV} (h : Fits clSh cs0) : ∃ (c x r : Int) (l : List Int), cs0 = [.int .i64 c, .int .i64 x, .int .i64 r, il l] ∧ I32 l := by
  simp only [clSh, Fits, FitsL] at h
  obtain ⟨_, _, rfl, ⟨c, rfl, _⟩, _, _, rfl, ⟨x, rfl, _⟩, _, _, rfl, ⟨r, rfl, _⟩, _, _, rfl, ⟨L, rfl, _, h2⟩, rfl⟩ := h
  obtain ⟨l, _, e2, hi⟩ := fits_i32s (L := L) (fun c hc => by simp only [Fits]; exact h2 c hc)
  exact ⟨c, x, r, l, by simp [e2], hi⟩
end Go.Am
