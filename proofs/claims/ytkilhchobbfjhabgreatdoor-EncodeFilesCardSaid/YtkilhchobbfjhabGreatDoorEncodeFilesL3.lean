/- What the functions that the law reaches return, for every program that has their code; the conditions stand in each statement. -/
import Derived.Test.YtkilhchobbfjhabGreatDoorEncodeFilesL2
set_option linter.unusedSectionVars false
set_option linter.unusedSimpArgs false
set_option linter.unusedVariables false
namespace Go.Am
open Go.RowKit

/-! ### clip.parts: the iterator -/

def Qah (Lc : Nat) (l : List Int) (j : Nat) : List Int := (l.drop (j * Lc)).take Lc

def Qg6 (t : Nat) (P : Prg) (f : Nat) : Prop := ∀ (k n : Nat) (x r : Int) (l : List Int), 1 ≤ k → k ≤ 1000 → l.length = n * k → okA r n →
  Qua P f [.int .i64 k, .int .i64 x, .int .i64 r, il l] [t] (cnt := (QY (QC r).toNat n).length) (fun j => il (Qah ((QC r).toNat * k) l j.1))

theorem QcC {X : Cx} {a : Act} : ∀ i, Rep X (look [] i) (a.tmps.getD i undef) := fun i => by simp only [look, Rep]
theorem QW {X : Cx} {a : Act} {fr : List (Nat × AV)} {j : Nat} {v : AV} (h : Rep X v (a.tmps.getD j undef)) (g : ∀ i, Rep X (look fr i) (a.tmps.getD i undef)) : ∀ i, Rep X (look ((j, v) :: fr) i) (a.tmps.getD i undef) := fun i => by
  simp only [look]
  split
  · rename_i e; subst e; exact h
  · exact g i

theorem QxO {N : Nat} {fr : List (Nat × AV)} {a : Act} {W : World} (hd : a.defers = []) (hz : a.tmps.size = N) (h : ∀ i, Rep ⟨W, [], [], fun _ _ => False⟩ (look fr i) (a.tmps.getD i undef)) : Sim ⟨W.heap.size, ⟨W, [], [], fun _ _ => False⟩, N, []⟩ ⟨fr, []⟩ a W :=
  ⟨hd, hz, Below.refl _ _, [], ⟨rfl, by simp, by simp, by simp, fun _ _ h => h.elim, Nat.le_refl _⟩, Moves.refl _, h⟩

theorem QaF {W W' : World} (h : Below W.heap.size W W') : W.grownBy W' none := ⟨h.os, h.tape, h.output, h.size, fun k hk _ => h.block k hk⟩

theorem QeS {k n L j : Nat} {l : List Int} (hl : l.length = n * k) (hn : 1 ≤ n) (hL : 1 ≤ L) (hj : j < (QY L n).length) :
    ∃ m : Nat, (QY L n).getD j 0 = m ∧ m ≤ n ∧ min (j * (L * k)) (n * k) = j * (L * k) ∧ j * (L * k) ≤ n * k ∧ min ((j + 1) * (L * k)) (n * k) = j * (L * k) + m * k ∧ Qah (L * k) l j = (l.drop (j * (L * k))).take (m * k) ∧ j * (L * k) + m * k ≤ n * k := by
  rw [Xe] at hj
  have g0 : (n - 1) / L * L ≤ n - 1 := Nat.div_mul_le_self _ _
  have g2 : n - 1 < (n - 1) / L * L + L := Nat.lt_div_mul_add (by omega)
  have g1 : j * L ≤ (n - 1) / L * L := Nat.mul_le_mul_right _ (by omega)
  have e0 : j * (L * k) = j * L * k := by rw [Nat.mul_assoc]
  have e1 : (j + 1) * (L * k) = (j * L + L) * k := by rw [← Nat.mul_assoc, Nat.add_mul, Nat.one_mul]
  have h3 : j * L * k ≤ n * k := Nat.mul_le_mul_right _ (by omega)
  by_cases hq : j < (n - 1) / L
  · have g3 : (j + 1) * L ≤ (n - 1) / L * L := Nat.mul_le_mul_right _ (by omega)
    rw [Nat.add_mul, Nat.one_mul] at g3
    have h7 : j * L + L ≤ n := Nat.le_trans g3 (Nat.le_trans g0 (Nat.sub_le _ _))
    have h4 : (j * L + L) * k ≤ n * k := Nat.mul_le_mul_right _ h7
    refine ⟨L, ?_, by omega, by rw [e0]; exact Nat.min_eq_left h3, by rw [e0]; exact h3, by rw [e1, e0, Nat.min_eq_left h4, Nat.add_mul], rfl, by rw [e0, ← Nat.add_mul]; exact h4⟩
    unfold QY
    rw [List.getD_eq_getElem?_getD, List.getElem?_append_left (by simpa using hq), List.getElem?_replicate, if_pos hq]
    rfl
  · have hjq : j = (n - 1) / L := by omega
    have h7 : n ≤ j * L + L := by rw [hjq]; generalize (n - 1) / L * L = w at *; omega
    have h8 : n - j * L ≤ L := by omega
    have h4 : n * k ≤ (j * L + L) * k := Nat.mul_le_mul_right _ h7
    have h5 : j * L * k + (n - j * L) * k = n * k := by rw [← Nat.add_mul]; congr 1; omega
    refine ⟨n - j * L, ?_, Nat.sub_le _ _, by rw [e0]; exact Nat.min_eq_left h3, by rw [e0]; exact h3, by rw [e1, e0, Nat.min_eq_right h4, h5], ?_, by rw [e0, h5]; exact Nat.le_refl _⟩
    · unfold QY
      rw [List.getD_eq_getElem?_getD, List.getElem?_append_right (by simp; omega)]
      simp only [List.length_replicate, ← hjq, Nat.sub_self, List.getElem?_cons_zero, Option.getD_some]
      omega
    · unfold Qah
      have h6 : (l.drop (j * (L * k))).length = (n - j * L) * k := by rw [List.length_drop, hl, e0]; omega
      rw [List.take_of_length_le (by rw [h6]; exact Nat.mul_le_mul_right _ h8), List.take_of_length_le (by rw [h6]; exact Nat.le_refl _)]
theorem Qs7 {m j : Nat} (h : j < m) : (List.finRange m).take (j + 1) = (List.finRange m).take j ++ [⟨j, h⟩] := by
  rw [List.take_succ_eq_append_getElem (by simpa using h)]
  simp

theorem QuY (L n : Nat) : 1 ≤ (QY L n).length := by rw [Xe]; exact Nat.le_add_left 1 _

set_option maxHeartbeats 1000000 in
theorem Qoj {P : Prg} {f fA t0 : Nat} (bd : Qj P f 43 [] (Jz fA)) (hA : Qt8 t0 P fA) : Qg6 t0 P f := by
  intro k n x r l hk1 hk2 hl hok
  obtain ⟨L, hL⟩ : ∃ L, (QC r).toNat = L := ⟨_, rfl⟩
  have hL1 : 1 ≤ L := by have := Xd r; omega
  obtain ⟨a1, a2, a3, a4, a5⟩ := hok
  have hn1 : 1 ≤ n := by omega
  have hn2 : n ≤ 4000 := by omega
  have hA' := hA r n ⟨a1, a2, a3, a4, a5⟩
  rw [hL, Int.toNat_natCast] at hA' a5
  rw [hL]
  refine ⟨fun j => QO _, fun w C v1 hv1 hex hG => ?_⟩
  have hv1' := hv1
  simp only [Rep] at hv1
  obtain ⟨b, o, vs, hv1e, hat, hvs⟩ := hv1
  simp only [RepL] at hvs
  obtain ⟨u0, q0, rfl, hu0, u1, q1, rfl, hu1, u2, q2, rfl, hu2, u3, q3, rfl, hu3, rfl⟩ := hvs
  have hu0' := hu0
  have hu3' := hu3
  simp only [Rep] at hu0 hu1 hu2
  rw [il] at hu3
  simp only [Rep] at hu3
  obtain ⟨sa, cap, ws, e3, hcap, hws, hwr⟩ := hu3
  rw [hl] at hcap
  obtain ⟨atN, hatN⟩ : ∃ atN : Nat → Nat, ∀ j, atN j = min (j * (L * k)) (n * k) := ⟨_, fun _ => rfl⟩
  obtain ⟨cnt, hcnt⟩ : ∃ cnt, (QY L n).length = cnt := ⟨_, rfl⟩
  have hnk : n * k ≤ 4000000 := Nat.mul_le_mul hn2 hk2
  rw [hcnt] at hA' a5 ⊢
  have hcnt1 : 1 ≤ cnt := by rw [← hcnt]; exact QuY _ _
  have pf : ∀ j, j < cnt → ∃ m : Nat, (QY L n).getD j 0 = m ∧ m ≤ n ∧ atN j = j * (L * k) ∧ atN (j + 1) = atN j + m * k ∧ Qah (L * k) l j = (l.drop (atN j)).take (m * k) ∧ atN j + m * k ≤ n * k := fun j hj => by
    obtain ⟨m, h1, h2, h3, h4, h5, h6, h7⟩ := QeS (j := j) hl hn1 hL1 (by rw [hcnt]; exact hj)
    refine ⟨m, h1, h2, by rw [hatN]; exact h3, by rw [hatN, hatN, h3]; exact h5, by rw [hatN, h3]; exact h6, by rw [hatN, h3]; exact h7⟩
  have hun : ∀ {W' : World}, (∀ (b k : Nat) (v : Value), ¬ C b k → w.cell? ⟨b, k, none⟩ = some v → W'.cell? ⟨b, k, none⟩ = some v) → ∀ (c : AV) (v : Value), isD c = true → Rep ⟨w, [], [], C⟩ c v → Rep ⟨W', [], [], fun _ _ => False⟩ c v := fun h c v hd hr =>
    Rep.data (X := ⟨w, [], [], C⟩) (Y := ⟨_, [], [], fun _ _ => False⟩) (fun b k v hc ha => ⟨h b k v (fun h => ha (.inl h)) hc, fun h => by
      rcases h with h | ⟨o, x, c, h1, _⟩
      · exact h.elim
      · simp at h1⟩) c v hd hr
  have hlit : ∀ {W' : World}, (∀ (b k : Nat) (v : Value), ¬ C b k → w.cell? ⟨b, k, none⟩ = some v → W'.cell? ⟨b, k, none⟩ = some v) → Rep ⟨W', [], [], fun _ _ => False⟩ (.cell [.int .i64 k, .int .i64 x, .int .i64 r, .lit u3]) v1 := fun {W'} h => by
    have h1 : Rep ⟨w, [], [], C⟩ (.cell [.int .i64 k, .int .i64 x, .int .i64 r, .lit u3]) v1 := by
      simp only [Rep]
      exact ⟨b, o, _, hv1e, hat, by simp only [RepL, Rep]; exact ⟨u0, _, rfl, hu0, u1, _, rfl, hu1, u2, _, rfl, hu2, u3, _, rfl, rfl, rfl⟩⟩
    exact hun h _ _ rfl h1
  refine ⟨fun j => .slice (if cap = atN j.1 then sa else sa.map (·.add (atN j.1 * 1))) (atN (j.1 + 1) - atN j.1) (cap - atN j.1), fun j => ?rep, ?seq⟩
  case rep =>
    obtain ⟨m, h1, h2, h3, h4, h5, h6⟩ := pf j.1 j.2
    have g : Held 0 ⟨w, [], [], fun _ _ => False⟩ := ⟨rfl, by simp, by simp, by simp, fun _ _ h => h.elim, Nat.zero_le _⟩
    have e4 : ((atN (j.1 + 1) : Nat) - (atN j.1 : Nat) : Int).toNat = m * k := by omega
    have e5 : (Qah (L * k) l j.1).length = m * k := by rw [h5, List.length_take, List.length_drop, hl]; omega
    have hs : Qe [] 1 (il l) (atN j.1 : Nat) (atN (j.1 + 1) : Nat) = some (il (Qah (L * k) l j.1)) := by
      simp only [Qe, il]
      rw [if_pos (by omega), if_pos (by rw [hl]; simp [ks]; omega), e4, e5, h5]
      simp [ks, List.map_take, List.map_drop]
    have hr := Qnq (X := ⟨w, [], [], fun b k => C b k ∧ b < w.heap.size⟩) (B := w.heap.size) ⟨rfl, by simp, by simp, by simp, fun _ _ h => h.2, Nat.le_refl _⟩ (η := fun _ => .any) (ρ := fun _ => undef) (fun _ => by simp only [Rep]) (sz := 1) (n := l.length) (cs := ks .i32 l) (a := sa) (cap := cap) (m := cap) (by
      rw [← e3]
      exact Rep.data (X := ⟨w, [], [], C⟩) (Y := ⟨w, [], [], fun b k => C b k ∧ b < w.heap.size⟩) (fun b k v hc ha => ⟨hc, fun h => ha (by
        rcases h with h | ⟨o, x, c, h1, _⟩
        · exact .inl h.1
        · simp at h1)⟩) _ _ (QO l) hu3') rfl hs (by omega) (.inl (Nat.le_refl _))
    have hr2 := hr.2.2.2
    simp only [Int.toNat_natCast] at hr2
    exact Rep.data (X := ⟨w, [], [], fun b k => C b k ∧ b < w.heap.size⟩) (Y := ⟨w, [], [], C⟩) (fun b k v hc ha => ⟨hc, fun h => ha (by
      rcases h with h | ⟨o, x, c, h1, _⟩
      · exact .inl ⟨h, World.block_lt_of_cell? w _ hc⟩
      · simp at h1)⟩) _ _ (QO _) hr2
  case seq =>
    intro ll J Jx W hW hJ hJx hY hJ0
    have hkw : ∀ (b k : Nat) (v : Value), ¬ C b k → w.cell? ⟨b, k, none⟩ = some v → W.cell? ⟨b, k, none⟩ = some v := fun b k v _ hc => (hW.cell (p := ⟨b, k, none⟩) (World.block_lt_of_cell? w _ hc)).trans hc
    obtain ⟨fn, hf, hnm, hN, hrl, hc'⟩ := bd
    obtain ⟨c, hb, hc⟩ := Option.bind_eq_some_iff.1 hc'
    refine callsIn_of_wp hf hb trivial ?_ rfl
    rw [hN]
    unfold Jz at hc
    obtain ⟨c1, r1, rfl, hc1, hr1⟩ := XV hc
    obtain ⟨c2, r2, rfl, hc2, hr2⟩ := XV hr1
    obtain ⟨c3, c4, rfl, hc3, hc4⟩ := XV hr2
    obtain ⟨c5, rfl, hc5⟩ := QgH hc4
    obtain ⟨c6, rfl, hc6⟩ := Qra hc5
    obtain ⟨d1, s1, rfl, hd1, hs1⟩ := XV hc6
    obtain ⟨d2, s2, rfl, hd2, hs2⟩ := XV hs1
    obtain ⟨y1, y2, rfl, hy1, hy2⟩ := Qim hd2
    obtain rfl := Qil hy1
    obtain rfl := Qrb hy2
    obtain ⟨d3, d9, rfl, hd3, hd9⟩ := XV hs2
    obtain ⟨d4, rfl, hd4⟩ := QgH hd3
    obtain ⟨d5, s5, rfl, hd5, hs5⟩ := XV hd4
    obtain ⟨d6, s6, rfl, hd6, hs6⟩ := XV hs5
    obtain ⟨s7, d8, rfl, hs7, hd8⟩ := XV hs6
    obtain ⟨d7, dc, rfl, hd7, hdc⟩ := XV hs7
    obtain ⟨y3, y4, rfl, hy3, hy4⟩ := Qim hdc
    obtain rfl := QtF hy3
    obtain rfl := Qil hy4
    obtain ⟨id7, ops, rfl, hm7⟩ := Qmq hd7
    obtain ⟨l5, l3, hops, hm5, hm3⟩ := Qpr (q1 := [_, _, _, _, _]) hm7
    obtain ⟨oS, l2, rfl, hoS, hm2⟩ := Qpq hm3
    obtain ⟨oY, l1, rfl, hoY, hm1⟩ := Qpq hm2
    generalize hyv : (Value.func (.yield ll) #[] #[]) = yv at *
    let a0 : Act := { tmps := #[yv] ++ #[v1] ++ Array.replicate (43 - (#[yv] ++ #[v1]).size) undef, defers := [] }
    show Code.wpIn _ _ _ _ _ a0 _
    have z0 : a0.tmps.size = 43 := by simp [a0]
    have t00 : a0.tmps.getD 0 undef = yv := by simp [a0]
    have t01 : a0.tmps.getD 1 undef = v1 := by simp [a0]
    let C0 : Nat → Nat → Prop := fun b k => C b k ∧ b < W.heap.size
    have g0 : Held W.heap.size ⟨W, [ph2], [none], C0⟩ := by
      have g := (Held.empty (B := W.heap.size) (X := ⟨W, [], [], C0⟩) ⟨rfl, by simp, by simp, by simp, fun _ _ h => h.2, Nat.le_refl _⟩ 1 0).1
      exact g
    have hC0 : ∀ c v, isD c = true → Rep ⟨w, [], [], C⟩ c v → Rep ⟨W, [ph2], [none], C0⟩ c v := fun c v hd hr =>
      Rep.data (X := ⟨w, [], [], C⟩) (Y := ⟨W, [ph2], [none], C0⟩) (fun b k v hc ha => ⟨hkw b k v (fun h => ha (.inl h)) hc, fun h => by
        rcases h with h | ⟨o, x, c, h1, h2, _⟩
        · exact ha (.inl h.1)
        · rcases o with _ | o <;> simp at h2⟩) c v hd hr
    let Γ0 : Ctx := ⟨W.heap.size, ⟨W, [ph2], [none], C0⟩, 43, []⟩
    have hs0 : Sim Γ0 ⟨[(0, .lit yv), (1, .cell [.int .i64 k, .int .i64 x, .int .i64 r, il l])], [ph2]⟩ a0 W :=
      ⟨rfl, z0, Below.refl _ _, [none], g0, Moves.refl _, QW (by rw [t00]; simp only [Rep]) (QW (by rw [t01]; exact hC0 _ _ (by simp [isD, isDL, QO]) hv1') QcC)⟩
    have hF0 : Fit P 43 Γ0 := ⟨rfl, fun q cs hq => hC0 _ _ (by simp only [isD]; exact P.gd q cs hq) (hG q cs hq)⟩
    refine wpIn_seq ?_
    have hk0 : ((n * k : Nat) : Int) / (k : Int) = n := by
      rw [Int.natCast_mul, Int.mul_ediv_cancel _ (by omega)]
    have hk3 : ((n * k : Nat) : Int).tdiv (k : Int) = n := by rw [Int.tdiv_eq_ediv_of_nonneg (by omega), hk0]
    refine Qth (Q := fun _ st' => st'.ob = [⟨t0, 1, cnt, ks .i64 (QY L n), 0⟩] ∧ look st'.fr 0 = .lit yv ∧ look st'.fr 3 = .own 0 cnt) hF0 hc1 1 (by rfl) t01 ?_ hs0 ?_
    · simp only [il]
      simp (maxSteps := 4000000) (disch := omega) only [rr, aop, cV, cV1, AV.one, Qb, okW, Qd, app, Qa, Qc, Qf, Qe, Qg, simprocAttr, hl, hk3, hk0]
      refine ⟨shr 0 (.tup [.own 0 cnt, .int .i64 0]), some (0, ⟨t0, 1, cnt, ks .i64 (QY L n), 0⟩), ?_, ?_⟩
      · unfold QbX
        rw [if_pos rfl]
        exact ⟨ACall.of_vo_at hA' rfl ⟨rfl, rfl⟩, fun o x' e => by cases e; exact ⟨ph2, rfl, by simp [ph2, ph]⟩⟩
      · simp (maxSteps := 4000000) (disch := omega) only [rr, aop, cV, cV1, AV.one, Qb, okW, Qd, app, Qa, Qc, Qf, Qe, Qg, simprocAttr, shr]
    · intro st1 a1 W1 ⟨hob1, h10, h13⟩ hs1 t11
      show (Code.seq c2 _).wpIn Fence.wide 4 _ _ a1 W1
      let row : Ob := ⟨t0, 1, cnt, ks .i64 (QY L n), 0⟩
      have hs1' : Sim Γ0 ⟨[(0, .lit yv), (3, .own 0 cnt)], [row]⟩ a1 W1 := by
        have h : st1 = ⟨st1.fr, [row]⟩ := by rw [← hob1]
        rw [h] at hs1
        exact Le.slots (M := 1) (by simp [h10, h13]) Γ0 a1 W1 rfl hs1
      refine wpIn_seq ?_
      refine QbA (Q := fun _ st' => st' = ⟨[(5, .int .i64 0), (0, .lit yv), (3, .own 0 cnt)], [row]⟩) hF0 hc2 [(1, v1)] (by simp only [List.mem_singleton]; rintro _ rfl; exact ⟨rfl, t11⟩) (by simp (maxSteps := 4000000) (disch := omega) only [rr, aop, cV, cV1, AV.one, Qb, okW, Qd, app, Qa, Qc, Qf, Qe, Qg, simprocAttr]) hs1' ?_
      rintro _ a2 W2 rfl hs2 t2
      show (Code.seq c3 _).wpIn Fence.wide 4 _ _ a2 W2
      refine wpIn_seq ?_
      refine QbA (Q := fun _ st' => st' = ⟨[(23, .int .i64 0), (22, .int .i64 cnt), (21, .own 0 cnt), (5, .int .i64 0), (0, .lit yv), (3, .own 0 cnt)], [row]⟩) hF0 hc3 [(1, v1)] (by simp only [List.mem_singleton]; rintro _ rfl; exact ⟨rfl, t2 _ (by simp)⟩) (by simp (maxSteps := 4000000) (disch := omega) only [rr, aop, cV, cV1, AV.one, Qb, okW, Qd, app, Qa, Qc, Qf, Qe, Qg, simprocAttr, row]) hs2 ?_
      rintro _ a3 W3 rfl hs3 t3
      show (Code.block 0 (.loop _)).wpIn Fence.wide 4 _ _ a3 W3
      obtain ⟨f1, f2, f3, be, f4, f5, f6⟩ := hs3
      have f1' : a3.defers = [] := f1
      have f2' : a3.tmps.size = 43 := f2
      obtain ⟨e, he, hoke⟩ := f4.get (o := 0) (x := row) rfl
      have f21 := f6 21
      simp only [look, Nat.reduceEqDiff, if_false, if_true, Rep] at f21
      obtain ⟨⟨rw', hrw, _, _, hown⟩, _⟩ := f21
      have hrw' : row = rw' := by simpa using hrw
      subst hrw'
      have hown' := hown rfl
      have he' : be[0]? = some e := he
      simp only [he'] at hown'
      cases e with
      | none => exact absurd hoke.1 (by simp only [row]; omega)
      | some p =>
      obtain ⟨br, capr⟩ := p
      obtain ⟨cur, ⟨frz, hblk, _⟩, hcs, hnc, _, hcl, hcr, hone⟩ := hoke
      simp only [OwnV] at hown'
      have hblk' : W3.heap[br]? = some (.cells cur t0 frz) := hblk
      obtain ⟨sv, hsv⟩ : ∃ sv, sv = Value.slice (some ⟨br, 0, none⟩) cnt capr := ⟨_, rfl⟩
      have hcr' : ∀ {Y : Cx}, RepL Y (ks .i64 (QY L n)) (cur.toList.take cnt) := fun {Y} => by
        have h := RepL.flat (Y := Y) (by simp [row, ks, flat]) hcr
        have e : row.cs.length = cnt := by simp [row, ks, hcnt]
        rw [e] at h
        exact h
      have hrowR : ∀ {W' : World}, W'.heap[br]? = some (.cells cur t0 frz) → Rep ⟨W', [], [], fun _ _ => False⟩ (.list cnt (ks .i64 (QY L n))) sv := fun {W'} h => by
        simp only [Rep]
        refine ⟨_, _, cur.toList.take cnt, hsv, hnc, .inr ⟨br, 0, rfl, fun i v hv => ?_⟩, hcr'⟩
        rw [List.getElem?_take] at hv
        split at hv
        · have hv2 : cur[i]? = some v := by simpa using hv
          refine ⟨⟨by simp [World.cell?, h, hv2], fun h => ?_⟩, hone v (by
            obtain ⟨h1, h2⟩ := Array.getElem?_eq_some_iff.1 hv2
            rw [← h2]; simp)⟩
          rcases h with h | ⟨o, x, c, h1, _⟩
          · exact h.elim
          · simp at h1
        · cases hv
      have hJ3 : J [] W3 := hJ _ W W3 none hJ0 (QaF f3) (fun r h => by cases h)
      refine wpIn_block ?_
      refine wpIn_loop (fun a W' => ∃ j, j ≤ cnt ∧ a.defers = [] ∧ a.tmps.size = 43 ∧ a.tmps.getD 0 undef = yv ∧ a.tmps.getD 1 undef = v1 ∧ a.tmps.getD 5 undef = .int .i64 (atN j : Nat) ∧ a.tmps.getD 21 undef = sv ∧ a.tmps.getD 22 undef = .int .i64 cnt ∧ a.tmps.getD 23 undef = .int .i64 j ∧
          W'.heap[br]? = some (.cells cur t0 frz) ∧ (∀ (b k : Nat) (v : Value), ¬ C b k → w.cell? ⟨b, k, none⟩ = some v → W'.cell? ⟨b, k, none⟩ = some v) ∧ J ((List.finRange cnt).take j) W')
        (fun a _ => match a.tmps.getD 23 undef with | .int _ z => cnt - z.toNat | _ => 0) ?_ ?_
      · refine ⟨0, Nat.zero_le _, f1', f2', ?_, t3 (1, v1) (by simp), ?_, by rw [hsv]; exact hown', ?_, ?_, hblk', ?_, hJ3⟩
        · have h := f6 0
          simpa [look, Rep] using h
        · have h := f6 5
          have e0 : atN 0 = 0 := by rw [hatN]; simp
          simpa [look, Rep, e0] using h
        · have h := f6 22
          simpa [look, Rep] using h
        · have h := f6 23
          simpa [look, Rep] using h
        · intro b k v hc hv
          have h := hkw b k v hc hv
          exact (f3.cell (p := ⟨b, k, none⟩) (World.block_lt_of_cell? W _ h)).trans h
      intro a Wj ⟨j, hj, i1, i2, i3, i4, i5, i6, i7, i8, i9, i10, i11⟩
      let ΓW : World → Ctx := fun W' => ⟨W'.heap.size, ⟨W', [], [], fun _ _ => False⟩, 43, []⟩
      have hF : ∀ {W' : World}, (∀ (b k : Nat) (v : Value), ¬ C b k → w.cell? ⟨b, k, none⟩ = some v → W'.cell? ⟨b, k, none⟩ = some v) → Fit P 43 (ΓW W') := fun {W'} h => ⟨rfl, fun q cs hq => hun h _ _ (by simp only [isD]; exact P.gd q cs hq) (hG q cs hq)⟩
      have hsA : Sim (ΓW Wj) ⟨[(0, .lit yv), (1, .cell [.int .i64 k, .int .i64 x, .int .i64 r, .lit u3]), (5, .int .i64 (atN j : Nat)), (21, .list cnt (ks .i64 (QY L n))), (22, .int .i64 cnt), (23, .int .i64 j)], []⟩ a Wj :=
        QxO i1 i2 (QW (by rw [i3]; simp only [Rep]) (QW (by rw [i4]; exact hlit i10) (QW (by rw [i5]; simp only [Rep]) (QW (by rw [i6]; exact hrowR i9) (QW (by rw [i7]; simp only [Rep]) (QW (by rw [i8]; simp only [Rep]) QcC))))))
      have hI : ∀ {qs : List AO} {a : Act}, Qgk 1 qs = true → Qgk 21 qs = true → a.tmps.getD 1 undef = v1 → a.tmps.getD 21 undef = sv → ∀ p ∈ [(1, v1), (21, sv)], Qgk p.1 qs = true ∧ a.tmps.getD p.1 undef = p.2 := fun h1 h2 h3 h4 p hp => by
        simp only [List.mem_cons, List.not_mem_nil, or_false] at hp
        rcases hp with rfl | rfl
        · exact ⟨h1, h3⟩
        · exact ⟨h2, h4⟩
      refine wpIn_seq ?_
      refine QbA (Q := fun _ st' => st' = ⟨[(24, .bool (decide ((j : Int) < cnt))), (0, .lit yv), (1, .cell [.int .i64 k, .int .i64 x, .int .i64 r, .lit u3]), (5, .int .i64 (atN j : Nat)), (21, .list cnt (ks .i64 (QY L n))), (22, .int .i64 cnt), (23, .int .i64 j)], []⟩) (hF i10) hd1 [(1, v1), (21, sv)] (hI rfl rfl i4 i6) (by simp (maxSteps := 4000000) (disch := omega) only [rr, aop, cV, cV1, AV.one, Qb, okW, Qd, app, Qa, Qc, Qf, Qe, Qg, simprocAttr]) hsA ?_
      rintro _ aB WB rfl hsB tB
      have bW : Below Wj.heap.size Wj WB := hsB.2.2.1
      show (Code.seq (.cond _ .skip (.exit 0)) _).wpIn Fence.wide 4 _ _ aB WB
      have h24 : aB.eval (.tmp 24) = .bool (decide ((j : Int) < cnt)) := by
        obtain ⟨_, _, _, _, _, _, h⟩ := hsB
        have h : Rep _ (.bool _) (aB.tmps.getD 24 undef) := h 24
        simp only [Rep] at h
        exact h
      refine wpIn_seq ?_
      by_cases hjc : j < cnt
      · have e24 : decide ((j : Int) < cnt) = true := by simp; omega
        rw [e24] at h24 hsB
        obtain ⟨m, p1, p2, p3, p4, p5, p6⟩ := pf j hjc
        have la : (ks .i64 (QY L n)).drop j = .int .i64 m :: (ks .i64 (QY L n)).drop (j + 1) := by
          have h := Qbn (K := .i64) (l := QY L n) (i := j) (by omega)
          rw [p1, ← J6] at h
          exact h
        refine wpIn_cond_true h24 (wpIn_skip ?_)
        show (Code.seq (.block 1 (.seq d5 _)) _).wpIn Fence.wide 4 _ _ aB WB
        obtain ⟨mk, hmk⟩ : ∃ mk, m * k = mk := ⟨_, rfl⟩
        rw [hmk] at p4 p5 p6
        have emk : (m : Int) * (k : Int) = mk := by rw [← hmk]; simp
        have e8 : ((atN j : Nat) : Int) + (mk : Int) = ((atN (j + 1) : Nat) : Int) := by omega
        obtain ⟨nk, hnk'⟩ : ∃ nk, n * k = nk := ⟨_, rfl⟩
        rw [hnk'] at p6 hnk hcap hl
        have hm4 : (m : Int) ≤ 4000 := by omega
        refine wpIn_seq (wpIn_block (wpIn_seq ?_))
        refine QbA (Q := fun _ st' => Le 0 st' ⟨[(7, .int .i64 m), (0, .lit yv), (1, .cell [.int .i64 k, .int .i64 x, .int .i64 r, .lit u3]), (5, .int .i64 (atN j : Nat)), (21, .list cnt (ks .i64 (QY L n))), (22, .int .i64 cnt), (23, .int .i64 j)], []⟩) (hF i10) hd5 [(1, v1), (21, sv)] (hI rfl rfl (tB (1, v1) (by simp)) (tB (21, sv) (by simp)))
          (by simp (maxSteps := 4000000) (disch := omega) only [rr, aop, cV, cV1, AV.one, Qb, okW, Qd, app, Qa, Qc, Qf, Qe, Qg, simprocAttr, la, Qk]; exact Le.slots (by simp [Am.look])) hsB ?_
        intro st5 a5 W5 hle5 hs5' t5
        have hs5 := hle5 _ _ _ rfl hs5'
        show (Code.seq d6 _).wpIn Fence.wide 4 _ _ a5 W5
        refine wpIn_seq ?_
        refine QbA (Q := fun _ st' => Le 0 st' ⟨[(8, .int .i64 (atN (j + 1) : Nat)), (0, .lit yv), (1, .cell [.int .i64 k, .int .i64 x, .int .i64 r, .lit u3]), (5, .int .i64 (atN j : Nat)), (21, .list cnt (ks .i64 (QY L n))), (22, .int .i64 cnt), (23, .int .i64 j)], []⟩) (hF i10) hd6 [(1, v1), (21, sv)] (hI rfl rfl (t5 (1, v1) (by simp)) (t5 (21, sv) (by simp)))
          (by simp (maxSteps := 4000000) (disch := omega) only [rr, aop, cV, cV1, AV.one, Qb, okW, Qd, app, Qa, Qc, Qf, Qe, Qg, simprocAttr, emk, e8]; exact Le.slots (by simp [Am.look])) hs5 ?_
        intro st6 a6 W6 hle6 hs6' t6
        have hs6 := hle6 _ _ _ rfl hs6'
        show (Code.seq (.seq (.region id7 ops false) _) d8).wpIn Fence.wide 4 _ _ a6 W6
        refine wpIn_seq (wpIn_seq (wpIn_region_list ?_))
        rw [hops]
        refine Qb8 l5 _ a6 W6 (Qz ?_ _ _ _ (Qel (Q := fun _ st' => Le 0 st' ⟨[(33, .lit yv), (0, .lit yv), (35, .lit u3), (36, .int .i64 (atN j : Nat)), (37, .int .i64 (atN (j + 1) : Nat)), (8, .int .i64 (atN (j + 1) : Nat)), (22, .int .i64 cnt), (23, .int .i64 j)], []⟩) (hF i10) hm5 [(1, v1), (21, sv)] (hI rfl rfl (t6 (1, v1) (by simp)) (t6 (21, sv) (by simp)))
          (by simp (maxSteps := 4000000) (disch := omega) only [rr, aop, cV, cV1, AV.one, Qb, okW, Qd, app, Qa, Qc, Qf, Qe, Qg, simprocAttr]; exact Le.slots (by simp [Am.look])) hs6))
        rintro _ a7 W7 ⟨rfl, st7, hle7, hs7', t7⟩
        have hs7 := hle7 _ _ _ rfl hs7'
        show wpListIn Fence.wide 4 _ _ _ (oS :: oY :: l1) a7 W7
        have W7b : Below Wj.heap.size Wj W7 := hs7.2.2.1
        have hd7 : a7.defers = [] := hs7.1
        have hz7 : a7.tmps.size = 43 := hs7.2.1
        have f7 : ∀ {i : Nat} {v : Value}, Rep ⟨W7, [], [], fun _ _ => False⟩ (.lit v) (a7.tmps.getD i undef) → a7.tmps.getD i undef = v := fun h => by simpa only [Rep] using h
        have f33 : a7.tmps.getD 33 undef = yv := by obtain ⟨_, _, _, _, _, _, h⟩ := hs7; have h : Rep _ (.lit yv) (a7.tmps.getD 33 undef) := h 33; simpa only [Rep] using h
        have f35 : a7.tmps.getD 35 undef = u3 := by obtain ⟨_, _, _, _, _, _, h⟩ := hs7; have h : Rep _ (.lit u3) (a7.tmps.getD 35 undef) := h 35; simpa only [Rep] using h
        have f8 : a7.tmps.getD 8 undef = .int .i64 (atN (j + 1) : Nat) := by obtain ⟨_, _, _, _, _, _, h⟩ := hs7; have h : Rep _ (.int .i64 _) (a7.tmps.getD 8 undef) := h 8; simpa only [Rep] using h
        have f22 : a7.tmps.getD 22 undef = .int .i64 cnt := by obtain ⟨_, _, _, _, _, _, h⟩ := hs7; have h : Rep _ (.int .i64 _) (a7.tmps.getD 22 undef) := h 22; simpa only [Rep] using h
        have f23 : a7.tmps.getD 23 undef = .int .i64 j := by obtain ⟨_, _, _, _, _, _, h⟩ := hs7; have h : Rep _ (.int .i64 _) (a7.tmps.getD 23 undef) := h 23; simpa only [Rep] using h
        obtain ⟨be7, g7, _, hη, _⟩ := hs7.eta (hF i10).2
        -- the slice
        obtain ⟨cS, dS, _, gS⟩ := Xy hoS
        obtain ⟨tS, eS, opS, uS, zS⟩ := QtA (Qin cS (by intro h; cases h))
        have gS' : oS.guard = none := by
          rcases gS with ⟨h, _⟩ | ⟨_, _, _, _, _, h⟩
          · exact h
          · cases h
        have ex : a7.eval (.tmp 35) = .slice sa nk cap := by rw [← hl]; exact f35.trans e3
        have hrun := Qni (X := ⟨W7, [], be7, fun _ _ => False⟩) g7 hη opS uS zS ex (l := (atN j : Nat)) (h := (atN (j + 1) : Nat)) (by simp [loA, opd, look]) (by simp [hiA, opd, look]) (by omega) (by omega) (by omega)
        simp only [Int.toNat_natCast] at hrun
        unfold wpListIn
        rw [if_pos (by simp [Region.wanted, gS'])]
        unfold Oper.wpIn
        refine ⟨fun _ _ => trivial, ?_⟩
        rw [Qxy, hrun]
        show wpListIn Fence.wide 4 _ _ _ (oY :: l1) (a7.put oS.dst _) W7
        rw [← dS]
        -- the call of yield
        obtain ⟨cY, dY, _, gY⟩ := Xy hoY
        obtain ⟨cl, opY, calY, argY⟩ := Qcg cY
        have gY' : oY.guard = none := by
          rcases gY with ⟨h, _⟩ | ⟨_, _, _, _, _, h⟩
          · exact h
          · cases h
        have argY' : cl.args = #[.tmp 38] := Array.ext' argY.symm
        unfold wpListIn
        rw [if_pos (by simp [Region.wanted, gY'])]
        have hJ7 : J ((List.finRange cnt).take j) W7 := hJ _ Wj W7 none i11 (QaF W7b) (fun r h => by cases h)
        have hlen : ((List.finRange cnt).take j).length < cnt := by simp; omega
        obtain ⟨vj, hvj⟩ : ∃ vj : Value, vj = .slice (if cap = atN j then sa else sa.map (·.add (atN j * 1))) (atN (j + 1) - atN j) (cap - atN j) := ⟨_, rfl⟩
        have hY' := hY ((List.finRange cnt).take j) ⟨j, hjc⟩ W7 hJ7 hlen
        simp only at hY'
        rw [← hvj] at hY' ⊢
        have p38 : (a7.put (some 38) vj).tmps.getD 38 undef = vj := by simp [Act.put, hz7]
        have p33 : (a7.put (some 38) vj).tmps.getD 33 undef = .func (.yield ll) #[] #[] := by rw [Jp (by simp), f33]; exact hyv.symm
        refine QpU opY calY argY' p33 p38 hY' ?_
        rw [← dY]
        have z8 : ∀ bb : Bool, ((a7.put (some 38) vj).put (some 39) (.bool bb)).tmps.size = 43 := fun bb => by rw [QfS, QfS]; exact hz7
        have p39 : ∀ bb : Bool, ((a7.put (some 38) vj).put (some 39) (.bool bb)).tmps.getD 39 undef = .bool bb := fun bb => by simp [Act.put, hz7]
        have pO : ∀ (bb : Bool) (i : Nat), i ≠ 38 → i ≠ 39 → ((a7.put (some 38) vj).put (some 39) (.bool bb)).tmps.getD i undef = a7.tmps.getD i undef := fun bb i h1 h2 => by
          rw [Jp (by simpa using fun h => h2 h.symm), Jp (by simpa using fun h => h1 h.symm)]
        have d8' : ∀ bb : Bool, ((a7.put (some 38) vj).put (some 39) (.bool bb)).defers = [] := fun bb => by rw [QeQ, QeQ]; exact hd7
        have hI3 : ∀ {qs : List AO} {a : Act}, Qgk 0 qs = true → Qgk 1 qs = true → Qgk 21 qs = true → a.tmps.getD 0 undef = yv → a.tmps.getD 1 undef = v1 → a.tmps.getD 21 undef = sv → ∀ p ∈ [(0, yv), (1, v1), (21, sv)], Qgk p.1 qs = true ∧ a.tmps.getD p.1 undef = p.2 := fun h1 h2 h3 h4 h5 h6 p hp => by
          simp only [List.mem_cons, List.not_mem_nil, or_false] at hp
          rcases hp with rfl | rfl | rfl
          · exact ⟨h1, h4⟩
          · exact ⟨h2, h5⟩
          · exact ⟨h3, h6⟩
        have f0 : a7.tmps.getD 0 undef = yv := by obtain ⟨_, _, _, _, _, _, h⟩ := hs7; have h : Rep _ (.lit yv) (a7.tmps.getD 0 undef) := h 0; simpa only [Rep] using h
        have q0 : ∀ bb : Bool, _ := fun bb => (pO bb 0 (by omega) (by omega)).trans f0
        have q1 : ∀ bb : Bool, _ := fun bb => (pO bb 1 (by omega) (by omega)).trans (t7 (1, v1) (by simp))
        have q21 : ∀ bb : Bool, _ := fun bb => (pO bb 21 (by omega) (by omega)).trans (t7 (21, sv) (by simp))
        rintro e W8 (⟨rfl, hJ8, hK8⟩ | ⟨rfl, hX8⟩)
        · refine ⟨true, rfl, ?_⟩
          have hbr7 : W7.heap[br]? = some (.cells cur t0 frz) := (W7b.block br (Array.getElem?_eq_some_iff.1 i9).1).trans i9
          have hbr8 : W8.heap[br]? = some (.cells cur t0 frz) := (hK8.1 br cur t0 frz hbr7 (by simp)).trans hbr7
          have hk8 : ∀ (b k : Nat) (v : Value), ¬ C b k → w.cell? ⟨b, k, none⟩ = some v → W8.cell? ⟨b, k, none⟩ = some v := fun b k v hc hv => by
            have h1 := i10 b k v hc hv
            exact hK8.2 b k v hc ((W7b.cell (p := ⟨b, k, none⟩) (World.block_lt_of_cell? Wj _ h1)).trans h1)
          have hs8 : Sim (ΓW W8) ⟨[(39, .bool true), (8, .int .i64 (atN (j + 1) : Nat)), (22, .int .i64 cnt), (23, .int .i64 j)], []⟩ ((a7.put (some 38) vj).put (some 39) (.bool true)) W8 :=
            QxO (d8' true) (z8 true) (QW (by rw [p39]; simp only [Rep]) (QW (by rw [pO true 8 (by omega) (by omega), f8]; simp only [Rep]) (QW (by rw [pO true 22 (by omega) (by omega), f22]; simp only [Rep]) (QW (by rw [pO true 23 (by omega) (by omega), f23]; simp only [Rep]) QcC))))
          refine Qz ?_ _ _ _ (Qel (Q := fun _ st' => Le 0 st' ⟨[(40, .bool false), (8, .int .i64 (atN (j + 1) : Nat)), (22, .int .i64 cnt), (23, .int .i64 j)], []⟩) (hF hk8) hm1 [(0, yv), (1, v1), (21, sv)] (hI3 rfl rfl rfl (q0 true) (q1 true) (q21 true))
            (by simp (maxSteps := 4000000) (disch := omega) only [rr, aop, cV, cV1, AV.one, Qb, okW, Qd, app, Qa, Qc, Qf, Qe, Qg, simprocAttr, Bool.not_true]; exact Le.slots (by simp [Am.look])) hs8)
          rintro _ a9 W9 ⟨rfl, st9, hle9, hs9', t9⟩
          have hs9 := hle9 _ _ _ rfl hs9'
          show (Code.cond _ .ret .skip).wpIn Fence.wide 4 _ _ a9 W9
          have h40 : a9.eval (.tmp 40) = .bool false := by obtain ⟨_, _, _, _, _, _, h⟩ := hs9; have h : Rep _ (.bool _) (a9.tmps.getD 40 undef) := h 40; simp only [Rep] at h; exact h
          refine wpIn_cond_false h40 (wpIn_skip ?_)
          show d8.wpIn Fence.wide 4 _ _ a9 W9
          refine QbA (Q := fun _ st' => Le 0 st' ⟨[(5, .int .i64 (atN (j + 1) : Nat)), (22, .int .i64 cnt), (23, .int .i64 j)], []⟩) (hF hk8) hd8 [(0, yv), (1, v1), (21, sv)] (hI3 rfl rfl rfl (t9 (0, yv) (by simp)) (t9 (1, v1) (by simp)) (t9 (21, sv) (by simp)))
            (by simp (maxSteps := 4000000) (disch := omega) only [rr, aop, cV, cV1, AV.one, Qb, okW, Qd, app, Qa, Qc, Qf, Qe, Qg, simprocAttr]; exact Le.slots (by simp [Am.look])) hs9 ?_
          intro stA aA WA hleA hsA' tA
          have hsA2 := hleA _ _ _ rfl hsA'
          show d9.wpIn Fence.wide 4 _ _ aA WA
          refine QbA (Q := fun _ st' => Le 0 st' ⟨[(5, .int .i64 (atN (j + 1) : Nat)), (22, .int .i64 cnt), (23, .int .i64 ((j + 1 : Nat) : Int))], []⟩) (hF hk8) hd9 [(0, yv), (1, v1), (21, sv)] (hI3 rfl rfl rfl (tA (0, yv) (by simp)) (tA (1, v1) (by simp)) (tA (21, sv) (by simp)))
            (by simp (maxSteps := 4000000) (disch := omega) only [rr, aop, cV, cV1, AV.one, Qb, okW, Qd, app, Qa, Qc, Qf, Qe, Qg, simprocAttr]; exact Le.slots (by simp [Am.look])) hsA2 ?_
          intro stC aC WC hleC hsC' tC
          have hsC := hleC _ _ _ rfl hsC'
          have WCb : Below W8.heap.size W8 WC := hsC.2.2.1
          obtain ⟨h1, h2, _, _, _, _, hC⟩ := hsC
          have c5 : aC.tmps.getD 5 undef = .int .i64 (atN (j + 1) : Nat) := by have h : Rep _ (.int .i64 _) (aC.tmps.getD 5 undef) := hC 5; simpa only [Rep] using h
          have c22 : aC.tmps.getD 22 undef = .int .i64 cnt := by have h : Rep _ (.int .i64 _) (aC.tmps.getD 22 undef) := hC 22; simpa only [Rep] using h
          have c23 : aC.tmps.getD 23 undef = .int .i64 ((j + 1 : Nat) : Int) := by have h : Rep _ (.int .i64 _) (aC.tmps.getD 23 undef) := hC 23; simpa only [Rep] using h
          refine ⟨⟨j + 1, by omega, h1, h2, tC (0, yv) (by simp), tC (1, v1) (by simp), c5, tC (21, sv) (by simp), c22, c23, (WCb.block br (Array.getElem?_eq_some_iff.1 hbr8).1).trans hbr8, fun b k v hc hv => ?_, ?_⟩, ?_⟩
          · have h := hk8 b k v hc hv
            exact (WCb.cell (p := ⟨b, k, none⟩) (World.block_lt_of_cell? W8 _ h)).trans h
          · rw [Qs7 hjc]
            exact hJ _ W8 WC none hJ8 (QaF WCb) (fun r h => by cases h)
          · simp only [c23, i8, Int.toNat_natCast]
            omega
        · refine ⟨false, rfl, ?_⟩
          have hs8 : Sim (ΓW W8) ⟨[(39, .bool false)], []⟩ ((a7.put (some 38) vj).put (some 39) (.bool false)) W8 :=
            QxO (d8' false) (z8 false) (QW (by rw [p39]; simp only [Rep]) QcC)
          let P0 : Prg := ⟨P.prog, [], fun _ _ h => by cases h⟩
          refine Qz ?_ _ _ _ (Qel (P := P0) (N := 43) (Γ := ΓW W8) (Q := fun _ st' => Le 0 st' ⟨[(40, .bool true)], []⟩) ⟨rfl, fun _ _ h => by cases h⟩ hm1 [] (fun p hp => by cases hp)
            (by simp (maxSteps := 4000000) (disch := omega) only [rr, aop, cV, cV1, AV.one, Qb, okW, Qd, app, Qa, Qc, Qf, Qe, Qg, simprocAttr, Bool.not_false]; exact Le.slots (by simp [Am.look])) hs8)
          rintro _ a9 W9 ⟨rfl, st9, hle9, hs9', t9⟩
          have hs9 := hle9 _ _ _ rfl hs9'
          show (Code.cond _ .ret .skip).wpIn Fence.wide 4 _ _ a9 W9
          have h40 : a9.eval (.tmp 40) = .bool true := by obtain ⟨_, _, _, _, _, _, h⟩ := hs9; have h : Rep _ (.bool _) (a9.tmps.getD 40 undef) := h 40; simp only [Rep] at h; exact h
          refine wpIn_cond_true h40 (wpIn_ret ?_)
          have hX9 := hJx _ W8 W9 none hX8 (QaF hs9.2.2.1) (fun r h => by cases h)
          exact ⟨hs9.1, .tuple #[], results_none (Array.ext' hrl) _ _ _, ⟨_, rfl⟩, .inr ⟨_, trivial, hX9⟩⟩
      · have e24 : decide ((j : Int) < cnt) = false := by simp; omega
        rw [e24] at h24
        refine wpIn_cond_false h24 (wpIn_exit ?_)
        have hjc' : j = cnt := by omega
        rw [hjc', List.take_of_length_le (by simp)] at i11
        have hJB : J (List.finRange cnt) WB := hJ _ Wj WB none i11 (QaF bW) (fun r h => by cases h)
        have hdB : aB.defers = [] := hsB.1
        exact ⟨hdB, .tuple #[], results_none (Array.ext' hrl) _ _ _, ⟨_, rfl⟩, .inl ⟨_, rfl, hJB⟩⟩
end Go.Am

namespace Go.Am
open Go.RowKit

def Qg7 (g : Nat) (P : Prg) (f : Nat) : Prop := ∀ (c x r : Int) (l : List Int), VC P f [clA c x r l] (.fn (.func g) [] [.cell [.int .i64 c, .int .i64 x, .int .i64 r, il l]])
theorem Qq4 {P : Prg} {f g t0 : Nat} (b : Qj P f 4 [.tmp 2] (QbR g t0)) : Qg7 g P f := by
  intro c x r l
  refine VC.of_walk 1 (by simp [isDL, isD, QO, clA]) (by simp [isD, isDL, QO]) (ACall.of_body b (by simp) ?_)
  simp (maxSteps := 4000000) (disch := omega) only [rr, aop, cV, cV1, AV.one, Qb, okW, Qd, app, Qa, Qc, Qf, Qe, Qg, simprocAttr, QbR, clA, il]
  simp [Zu, QS, frzL, QN, isDL, isD, frzL_T _ (Qt .i32 _)]

def QL (c r : Int) (l : List Int) : List (List Int) := (List.range (QY (QC r).toNat (l.length / c.toNat)).length).map (Qah ((QC r).toNat * c.toNat) l)

theorem JP {c x r : Int} {l : List Int} (h : ZG c x r l = 0) : ∃ k n : Nat, c = k ∧ 1 ≤ k ∧ k ≤ 1000 ∧ l.length = n * k ∧ okA r n ∧ l.length ≤ 4000 := by
  unfold ZG at h
  split at h
  · cases h
  rename_i h1
  split at h
  · cases h
  rename_i h2
  split at h
  · cases h
  rename_i h3
  have h3' : XT c x r (l.length / c) = 0 := by simpa using h3
  have h2' : (l.length : Int) % c = 0 := by simpa using h2
  obtain ⟨k, rfl⟩ : ∃ k : Nat, c = k := ⟨c.toNat, by omega⟩
  have e1 : (l.length : Int) / (k : Int) = ((l.length / k : Nat) : Int) := by simp
  have e2 : l.length % k = 0 := by exact_mod_cast h2'
  rw [e1] at h3'
  have e3 := Nat.div_add_mod l.length k
  rw [e2, Nat.add_zero, Nat.mul_comm] at e3
  unfold XT at h3'
  split at h3'
  · cases h3'
  rename_i a1
  split at h3'
  · cases h3'
  rename_i a2
  split at h3'
  · cases h3'
  rename_i a3
  split at h3'
  · cases h3'
  rename_i a4
  obtain ⟨n, hn⟩ : ∃ n, l.length / k = n := ⟨_, rfl⟩
  rw [hn] at e3 a2 a3 a4
  have a5 : ZD k x = 0 := by simpa using a1
  have a6 : QjJ r n = 0 := by simpa using a4
  rcases Zr (k : Int) x with h4 | ⟨_, h5, h6, h7⟩
  · omega
  have hle : n * k ≤ 4000 := by
    have h8 : (n : Int) ≤ 4000 / (k : Int) := by omega
    have h9 := Int.mul_le_of_le_ediv (a := (n : Int)) (b := 4000) (c := (k : Int)) (by omega) h8
    have h10 : ((n * k : Nat) : Int) ≤ 4000 := by rw [Int.natCast_mul]; exact h9
    omega
  have hn4 : n ≤ 4000 := Nat.le_trans (Nat.le_mul_of_pos_right n (by omega)) hle
  refine ⟨k, n, rfl, by omega, by omega, e3.symm, ?_, by omega⟩
  unfold QjJ at a6
  split at a6
  · cases a6
  split at a6
  · cases a6
  split at a6
  · cases a6
  rename_i b1 b2 b3
  refine ⟨by omega, by omega, by omega, by omega, ?_⟩
  have hlong : 1 ≤ QC r := Xd r
  obtain ⟨L, hLe⟩ : ∃ L : Nat, QC r = L := ⟨(QC r).toNat, by omega⟩
  rw [hLe, Int.toNat_natCast, Int.toNat_natCast, Xe]
  rw [hLe] at b3
  have h1 : (n : Int) + (L : Int) - 1 = ((n - 1 + L : Nat) : Int) := by omega
  rw [h1, ← Int.natCast_ediv, Nat.add_div_right _ (by omega)] at b3
  omega

theorem Qdu (c r : Int) (l : List Int) : (QL c r l).length = (QY (QC r).toNat (l.length / c.toNat)).length := by simp [QL]
theorem QaD (c x r : Int) (l : List Int) : ZG c x r l = 0 ∨ ZG c x r l = 8 := by
  unfold ZG; repeat' split
  all_goals simp
end Go.Am

namespace Go.Am
open Go.RowKit

/-! ### clip.Join -/

/-! The parts of a whole. -/

theorem Qh7 (Lc : Nat) (l : List Int) : ∀ m : Nat, ((List.range m).map (Qah Lc l)).flatten = l.take (m * Lc)
  | 0 => by simp
  | m + 1 => by
    rw [List.range_succ, List.map_append, List.flatten_append, Qh7 Lc l m, Nat.add_mul, Nat.one_mul, List.take_add]
    simp [Qah]
theorem QeR {c x r : Int} {l : List Int} (h : ZG c x r l = 0) : (QL c r l).flatten = l := by
  obtain ⟨k, n, rfl, h1, h2, h3, ⟨o1, o2, o3, o4, o5⟩, h4⟩ := JP h
  unfold QL
  rw [Qh7, Int.toNat_natCast, h3, Nat.mul_div_cancel _ (by omega), Xe, List.take_of_length_le]
  have hL : 1 ≤ (QC r).toNat := by have := Xd r; omega
  have g2 : n - 1 < (n - 1) / (QC r).toNat * (QC r).toNat + (QC r).toNat := Nat.lt_div_mul_add (by omega)
  rw [h3, ← Nat.mul_assoc, Nat.add_mul, Nat.one_mul]
  refine Nat.mul_le_mul_right _ ?_
  generalize (n - 1) / (QC r).toNat * (QC r).toNat = w at *
  omega
theorem Qbm {c x r : Int} {l : List Int} (h : ZG c x r l = 0) : (QL c r l).length ≤ 1000 := by
  obtain ⟨k, n, rfl, h1, h2, h3, ⟨o1, o2, o3, o4, o5⟩, h4⟩ := JP h
  rw [Qdu, Int.toNat_natCast, h3, Nat.mul_div_cancel _ (by omega)]
  rwa [Int.toNat_natCast] at o5
end Go.Am

namespace Go.Am
open Go.RowKit

/-! ### The reference's Parts, Split, Join -/

theorem Qwp {L : List (List Int)} {z : Nat} (h : ∀ p ∈ L, p.length ≤ z) (j : Nat) : (L.getD j []).length ≤ z := by
  rw [List.getD_eq_getElem?_getD]
  cases e : L[j]? with
  | none => simp
  | some p => exact h p (List.mem_of_getElem? e)
end Go.Am

namespace Go.Am
open Go.RowKit

/-! ### CRC-64 (plain) -/

def QmN (c : Nat) : Nat := (2 * c) % 18446744073709551616 ^^^ (if 9223372036854775808 ≤ c then 4823603603198064275 else 0)
def Qec : Nat → Nat → Nat
  | 0, c => c
  | k + 1, c => Qec k (QmN c)
theorem Qnk (c : Nat) : QmN c < 18446744073709551616 := by
  unfold QmN
  have : (if 9223372036854775808 ≤ c then 4823603603198064275 else 0) < 2 ^ 64 := by split <;> decide
  exact Nat.xor_lt_two_pow (n := 64) (Nat.mod_lt _ (by decide)) this
theorem Qi7 : ∀ (k : Nat) {c : Nat}, c < 18446744073709551616 → Qec k c < 18446744073709551616
  | 0, _, h => h
  | k + 1, c, _ => Qi7 k (Qnk c)
theorem Qlv : ∀ (k c : Nat), Qec (k + 1) c = QmN (Qec k c)
  | 0, _ => rfl
  | k + 1, c => by rw [Qec, Qlv k, Qec]

theorem QpC (c : Nat) (h : c < 18446744073709551616) : (9223372036854775808 ≤ c) ↔ c.testBit 63 = true := by
  constructor
  · intro h2
    rw [Nat.testBit_eq_decide_div_mod_eq]
    have : c / 2 ^ 63 = 1 := by omega
    rw [this]; rfl
  · intro h2
    exact Nat.ge_two_pow_of_testBit h2

theorem Qo4 {x l : Nat} (hx : x < 18446744073709551616) (hl : l < 9223372036854775808) : QmN (x ^^^ l) = QmN x ^^^ 2 * l := by
  have hxl : x ^^^ l < 18446744073709551616 := Nat.xor_lt_two_pow (n := 64) hx (by omega)
  have e1 : (9223372036854775808 ≤ x ^^^ l) ↔ (9223372036854775808 ≤ x) := by
    rw [QpC _ hxl, QpC _ hx, Nat.testBit_xor, Nat.testBit_lt_two_pow (show l < 2 ^ 63 from hl), Bool.xor_false]
  have e2 : (2 * (x ^^^ l)) % 18446744073709551616 = (2 * x) % 18446744073709551616 ^^^ 2 * l := by
    apply Nat.eq_of_testBit_eq
    intro i
    rw [show (18446744073709551616 : Nat) = 2 ^ 64 from rfl, Nat.testBit_mod_two_pow, Nat.testBit_xor, Nat.testBit_mod_two_pow]
    rw [show 2 * (x ^^^ l) = 2 ^ 1 * (x ^^^ l) from rfl, show 2 * x = 2 ^ 1 * x from rfl, show 2 * l = 2 ^ 1 * l from rfl, Nat.testBit_two_pow_mul, Nat.testBit_two_pow_mul, Nat.testBit_two_pow_mul, Nat.testBit_xor]
    by_cases h : i < 64
    · by_cases h1 : 1 ≤ i <;> simp [h, h1]
    · have h2 : l.testBit (i - 1) = false := Nat.testBit_lt_two_pow (Nat.lt_of_lt_of_le (show l < 2 ^ 63 from hl) (Nat.pow_le_pow_right (by decide) (by omega)))
      simp [h, h2]
  unfold QmN
  rw [e2]
  by_cases h : 9223372036854775808 ≤ x
  · rw [if_pos h, if_pos (e1.2 h), Nat.xor_assoc, Nat.xor_assoc, Nat.xor_comm (2 * l)]
  · rw [if_neg h, if_neg (fun h2 => h (e1.1 h2)), Nat.xor_assoc, Nat.xor_assoc, Nat.xor_comm (2 * l)]

theorem Qo5 : ∀ (k : Nat) {x l : Nat}, k ≤ 64 → x < 18446744073709551616 → l < 2 ^ (64 - k) → Qec k (x ^^^ l) = Qec k x ^^^ 2 ^ k * l
  | 0, x, l, _, _, _ => by simp [Qec]
  | k + 1, x, l, hk, hx, hl => by
    have h1 : l < 9223372036854775808 := Nat.lt_of_lt_of_le hl (Nat.pow_le_pow_right (by omega) (by omega : 64 - (k + 1) ≤ 63))
    have h2 : 2 * l < 2 ^ (64 - k) := by
      rw [show 64 - k = (64 - (k + 1)) + 1 by omega, Nat.pow_succ]; omega
    rw [Qec, Qo4 hx h1, Qo5 k (by omega) (Qnk x) h2, Qec, Nat.pow_succ, Nat.mul_assoc]

def QuE (s b : Nat) : Nat := Qec 8 (s ^^^ b * 72057594037927936)
theorem QvF {s b : Nat} (hs : s < 18446744073709551616) : s ^^^ b * 72057594037927936 = (s / 72057594037927936 ^^^ b) * 72057594037927936 ^^^ s % 72057594037927936 := by
  have h := Qf2 s 56
  rw [show (2 : Nat) ^ 56 = 72057594037927936 from rfl] at h
  have e : (s / 72057594037927936 ^^^ b) * 72057594037927936 = s / 72057594037927936 * 72057594037927936 ^^^ b * 72057594037927936 := by
    apply Nat.eq_of_testBit_eq
    intro i
    rw [Nat.testBit_xor, show (72057594037927936 : Nat) = 2 ^ 56 from rfl, Nat.mul_comm _ (2 ^ 56), Nat.mul_comm _ (2 ^ 56), Nat.mul_comm b, Nat.testBit_two_pow_mul, Nat.testBit_two_pow_mul, Nat.testBit_two_pow_mul, Nat.testBit_xor]
    by_cases h : 56 ≤ i <;> simp [h]
  rw [e, Nat.xor_comm (s / 72057594037927936 * 72057594037927936), Nat.xor_assoc, Nat.mul_comm (s / 72057594037927936), Nat.xor_comm (72057594037927936 * _), ← h, Nat.xor_comm]
theorem Qqb {s b : Nat} (hs : s < 18446744073709551616) (hb : b < 256) : QuE s b = s * 256 % 18446744073709551616 ^^^ Qec 8 ((s / 72057594037927936 ^^^ b) * 72057594037927936) := by
  have h0 : (s / 72057594037927936 ^^^ b) < 2 ^ 8 := Nat.xor_lt_two_pow (by omega) hb
  rw [QuE, QvF hs, Qo5 8 (by omega) (by omega) (by show s % 72057594037927936 < 2 ^ 56; exact Nat.mod_lt _ (by decide)), Nat.xor_comm]
  congr 1
  omega
theorem QvS {s b : Nat} (hs : s < 18446744073709551616) (hb : b < 256) : QuE s b < 18446744073709551616 := Qi7 8 (Nat.xor_lt_two_pow (n := 64) hs (by omega))
def ZT (s : Nat) (l : List UInt8) : Nat := l.foldl (fun s b => QuE s b.toNat) s
theorem Qlw {s : Nat} {l : List UInt8} {k : Nat} (h : k < l.length) : ZT s (l.take (k + 1)) = QuE (ZT s (l.take k)) (l[k]).toNat := by
  rw [List.take_succ_eq_append_getElem h, ZT, List.foldl_append]; rfl
theorem Qdr : ∀ {l : List UInt8} {s : Nat}, s < 18446744073709551616 → ZT s l < 18446744073709551616
  | [], _, h => h
  | b :: l, s, h => Qdr (l := l) (QvS h (UInt8.toNat_lt b))

def Qr3 (s b : Nat) : Nat → Nat
  | 0 => s
  | k + 1 => QmN (Qr3 s b k ^^^ (b / 2 ^ (7 - k) % 2) * 9223372036854775808)
theorem Qr2 {s b : Nat} (hs : s < 18446744073709551616) : ∀ k, Qr3 s b k < 18446744073709551616
  | 0 => hs
  | k + 1 => Qnk _
theorem Qo7 {s b : Nat} (hs : s < 18446744073709551616) (hb : b < 256) : ∀ k, k ≤ 8 → Qec (8 - k) (Qr3 s b k ^^^ b % 2 ^ (8 - k) * 2 ^ (56 + k)) = QuE s b
  | 0, _ => by
    rw [Qr3, QuE]
    show Qec 8 (s ^^^ b % 256 * 72057594037927936) = _
    rw [Nat.mod_eq_of_lt hb]
  | k + 1, h => by
    have ih := Qo7 hs hb k (by omega)
    have e1 : 8 - k = (8 - (k + 1)) + 1 := by omega
    have e2 : 8 - (k + 1) = 7 - k := by omega
    have hm := Nat.mod_lt b (show 0 < 2 ^ (7 - k) by exact Nat.pow_pos (by decide))
    have e3 : b % 2 ^ (8 - k) * 2 ^ (56 + k) = (b / 2 ^ (7 - k) % 2) * 9223372036854775808 ^^^ b % 2 ^ (7 - k) * 2 ^ (56 + k) := by
      apply Nat.eq_of_testBit_eq
      intro i
      rw [Nat.testBit_xor, show (9223372036854775808 : Nat) = 2 ^ 63 from rfl, Nat.mul_comm _ (2 ^ (56 + k)), Nat.mul_comm _ (2 ^ 63), Nat.mul_comm (b % 2 ^ (7 - k)), Nat.testBit_two_pow_mul, Nat.testBit_two_pow_mul, Nat.testBit_two_pow_mul, Nat.testBit_mod_two_pow, Nat.testBit_mod_two_pow,
        show b / 2 ^ (7 - k) % 2 = b / 2 ^ (7 - k) % 2 ^ 1 from rfl, Nat.testBit_mod_two_pow, Nat.testBit_div_two_pow]
      by_cases h1 : 56 + k ≤ i
      · by_cases h2 : i = 63
        · subst h2
          have h3 : ¬ (63 - (56 + k) < 7 - k) := by omega
          have h4 : 63 - (56 + k) < 8 - k := by omega
          simp [h1, show 63 - (56 + k) = 7 - k by omega, show 7 - k < 8 - k by omega]
        · by_cases h3 : 63 ≤ i
          · have h4 : ¬ (i - (56 + k) < 8 - k) := by omega
            have h5 : ¬ (i - 63 < 1) := by omega
            have h6 : ¬ (i - (56 + k) < 7 - k) := by omega
            simp [h1, h3, h4, h5, h6]
          · have h4 : i - (56 + k) < 8 - k := by omega
            have h6 : i - (56 + k) < 7 - k := by omega
            simp [h1, h3, h4, h6]
      · have h3 : ¬ 63 ≤ i := by omega
        simp [h1, h3]
    have hlt : b % 2 ^ (7 - k) * 2 ^ (56 + k) < 9223372036854775808 := by
      have h1 : b % 2 ^ (7 - k) * 2 ^ (56 + k) < 2 ^ (7 - k) * 2 ^ (56 + k) := Nat.mul_lt_mul_of_pos_right hm (Nat.pow_pos (by decide))
      rw [← Nat.pow_add, show 7 - k + (56 + k) = 63 by omega] at h1
      exact h1
    have hbit : (b / 2 ^ (7 - k) % 2) * 9223372036854775808 < 18446744073709551616 := by
      have := Nat.mod_lt (b / 2 ^ (7 - k)) (show 0 < 2 by decide)
      omega
    rw [e3, e1, Qec, ← Nat.xor_assoc, Qo4 (Nat.xor_lt_two_pow (n := 64) (Qr2 hs k) hbit) hlt] at ih
    rw [← ih]
    show Qec (8 - (k + 1)) (QmN _ ^^^ _) = _
    rw [e2, show 2 ^ (56 + (k + 1)) = 2 ^ (56 + k) * 2 by rw [← Nat.add_assoc, Nat.pow_succ]]
    congr 2
    rw [← Nat.mul_assoc, Nat.mul_comm]
theorem QwW {s b : Nat} (hs : s < 18446744073709551616) (hb : b < 256) : Qr3 s b 8 = QuE s b := by
  have h := Qo7 hs hb 8 (by omega)
  rw [Nat.sub_self, Nat.pow_zero, Nat.mod_one, Nat.zero_mul, Nat.xor_zero, Qec] at h
  exact h
end Go.Am

namespace Go.Am
open Go.RowKit

/-! ### CRC-64 -/

def QkH (i : Nat) : List Int := (List.range 256).map fun j => if j < i then ((Qec 8 (j * 72057594037927936) : Nat) : Int) else 0
theorem X8 (i : Nat) : (QkH i).length = 256 := by simp [QkH]
theorem QfQ {i j : Nat} (h : j < 256) : (QkH i)[j]'(by rw [X8]; exact h) = if j < i then ((Qec 8 (j * 72057594037927936) : Nat) : Int) else 0 := by simp [QkH]
theorem Qus {i : Nat} (h : i < 256) : (QkH i).set i ((Qec 8 (i * 72057594037927936) : Nat) : Int) = QkH (i + 1) := by
  refine List.ext_getElem (by simp [X8]) fun j h1 h2 => ?_
  have hj : j < 256 := by simpa [X8] using h2
  rw [List.getElem_set, QfQ hj]
  split
  · rename_i e; subst e; rw [QfQ hj, if_pos (by omega)]
  · rename_i e; rw [QfQ hj]
    by_cases h3 : j < i
    · rw [if_pos h3, if_pos (by omega)]
    · rw [if_neg h3, if_neg (by omega)]

theorem QvW (c : Nat) : Qs true .u64 (c : Int) 1 = some (.int .u64 (((2 * c) % 18446744073709551616 : Nat) : Int)) := by
  have h3 : ¬ ((1 : Int) < 0) := by omega
  simp only [Qs, if_neg h3, if_true]
  have h5 : (min (1 : Int).toNat IntKind.u64.bits) = 1 := rfl
  rw [h5, ZH]
  congr 2
  omega
theorem Qr4 (c : Nat) : Qs true .u64 (c : Int) 8 = some (.int .u64 ((c * 256 % 18446744073709551616 : Nat) : Int)) := by
  have h3 : ¬ ((8 : Int) < 0) := by omega
  simp only [Qs, if_neg h3, if_true]
  have h5 : (min (8 : Int).toNat IntKind.u64.bits) = 8 := rfl
  rw [h5, ZH]
  congr 2

def Qkd (P : Prg) (f : Nat) : Prop := VC P f [] (.cell (ks .u64 (QkH 256)))
set_option maxRecDepth 40000 in
theorem Qog {P : Prg} {f t0 : Nat} (bd : Qj P f 25 [.tmp 0] (Qbd t0)) : Qkd P f := by
  refine VC.of_walk 1 rfl (by simp [isD, Qie (Qt _ _)]) (ACall.of_body bd (by simp) ?_)
  unfold Qbd
  simp (maxSteps := 4000000) (disch := omega) only [rr, aop, cV, cV1, AV.one, Qb, okW, Qd, app, Qa, Qc, Qf, Qe, Qg, simprocAttr]
  refine QJ.by (ι := Nat) (fun i => ⟨[(5, .int .i64 i), (1, .ref 0 1 0)], [⟨t0, 256, 1, ks .u64 (QkH i), 0⟩]⟩) (fun i => i ≤ 256) (fun i => 256 - i) 0 (Le.slots (by simp [Am.look])) (by omega) ?_
  intro i hi
  by_cases hlt : i < 256
  · have s0 : Qs true .u64 (i : Int) 56 = some (.int .u64 ((i * 72057594037927936 : Nat) : Int)) := by
      have := Qr5 (K := .u64) rfl (c := i) (s := 56) (by decide) (by show i * 2 ^ 56 < 2 ^ 64; omega)
      exact this
    have w0 : IntKind.u64.wrap (i : Int) = i := Qiv (by omega) (by omega)
    simp (maxSteps := 4000000) (disch := omega) only [rr, aop, cV, cV1, AV.one, Qb, okW, Qd, app, Qa, Qc, Qf, Qe, Qg, simprocAttr, s0, w0]
    refine QJ.by (ι := Nat) (fun j => ⟨[(11, .int .i64 j), (3, .int .u64 (Qec j (i * 72057594037927936))), (5, .int .i64 i), (2, .int .i64 i), (1, .ref 0 1 0)], [⟨t0, 256, 1, ks .u64 (QkH i), 0⟩]⟩) (fun j => j ≤ 8) (fun j => 8 - j) 0 (Le.slots (by simp [Am.look, Qec])) (by omega) ?_
    intro j hj
    by_cases hjl : j < 8
    · have hc := Qi7 j (c := i * 72057594037927936) (by omega)
      have hn := Qlv j (i * 72057594037927936)
      generalize Qec j (i * 72057594037927936) = c at *
      have a1 := QvW c
      have a2 : Qs false .u64 (c : Int) 63 = some (.int .u64 ((c / 9223372036854775808 : Nat) : Int)) := Qi8 (K := .u64) (n := c) (k := 63) (by decide)
      have hm := Nat.mod_lt (2 * c) (show 0 < 18446744073709551616 by decide)
      by_cases h2 : 9223372036854775808 ≤ c
      · have a3 : IntKind.u64.wrap (BitVec.ofInt IntKind.u64.bits ((2 * c % 18446744073709551616 : Nat) : Int) ^^^ BitVec.ofInt IntKind.u64.bits 4823603603198064275).toNat = ((Qec (j + 1) (i * 72057594037927936) : Nat) : Int) := by
          rw [hn, QmN, if_pos h2]
          exact Qrr (K := .u64) rfl (a := 2 * c % 18446744073709551616) (b := 4823603603198064275) hm (by decide)
        have a4 : c / 9223372036854775808 = 1 := by omega
        rw [a4] at a2
        generalize 2 * c % 18446744073709551616 = d at *
        simp (maxSteps := 4000000) (disch := omega) only [rr, aop, cV, cV1, AV.one, Qb, okW, Qd, app, Qa, Qc, Qf, Qe, Qg, simprocAttr, a1, a2, a3]
        exact ⟨j + 1, by omega, by omega, Le.slots (by simp [Am.look])⟩
      · have a3 : IntKind.u64.wrap (BitVec.ofInt IntKind.u64.bits ((2 * c % 18446744073709551616 : Nat) : Int) ^^^ BitVec.ofInt IntKind.u64.bits 0).toNat = ((Qec (j + 1) (i * 72057594037927936) : Nat) : Int) := by
          rw [hn, QmN, if_neg h2]
          exact Qrr (K := .u64) rfl (a := 2 * c % 18446744073709551616) (b := 0) hm (by decide)
        have a4 : c / 9223372036854775808 = 0 := by omega
        rw [a4] at a2
        generalize 2 * c % 18446744073709551616 = d at *
        simp (maxSteps := 4000000) (disch := omega) only [rr, aop, cV, cV1, AV.one, Qb, okW, Qd, app, Qa, Qc, Qf, Qe, Qg, simprocAttr, a1, a2, a3]
        exact ⟨j + 1, by omega, by omega, Le.slots (by simp [Am.look])⟩
    · obtain rfl : j = 8 := by omega
      have e1 := X8 i
      have e2 := Qk .u64 (QkH i)
      have e3 : (ks .u64 (QkH i)).take i ++ [.int .u64 (Qec 8 (i * 72057594037927936))] ++ (ks .u64 (QkH i)).drop (i + 1) = ks .u64 (QkH (i + 1)) := by
        rw [← Qus hlt, List.set_eq_take_append_cons_drop, if_pos (by rw [X8]; exact hlt)]; simp [ks, List.map_take, List.map_drop]
      simp (maxSteps := 4000000) (disch := omega) only [rr, aop, cV, cV1, AV.one, Qb, okW, Qd, app, Qa, Qc, Qf, Qe, Qg, simprocAttr, e1, e2, e3]
      exact ⟨i + 1, by omega, by omega, Le.slots (by simp [Am.look])⟩
  · obtain rfl : i = 256 := by omega
    simp (maxSteps := 4000000) (disch := omega) only [rr, aop, cV, cV1, AV.one, Qb, okW, Qd, app, Qa, Qc, Qf, Qe, Qg, simprocAttr]
    simp [Zu, QS, frzL, QN, frzL_T _ (Qt _ _)]

def Qhi (P : Prg) (f : Nat) : Prop := ∀ (s : Nat) (l : List UInt8), s < 18446744073709551616 → l.length ≤ 1000000 → VC P f [.cell (ks .u64 (QkH 256)), .int .u64 s, bs l] (.int .u64 (ZT s l : Nat))
set_option maxRecDepth 40000 in
theorem Qmj {P : Prg} {f : Nat} (bd : Qj P f 29 [.tmp 6] QaH) : Qhi P f := by
  intro s l hs hl
  refine VC.of_acall (by simp [isDL, isD, Zq, QM]) rfl (ACall.of_body bd (by simp) ?_)
  have t0 := Qk .u64 (QkH 256)
  rw [X8] at t0
  simp (maxSteps := 4000000) (disch := omega) only [rr, aop, cV, cV1, AV.one, Qb, okW, Qd, app, Qa, Qc, Qf, Qe, Qg, simprocAttr, QaH, bs]
  refine QJ.by (ι := Nat) (fun k => ⟨[(11, .int .i64 k), (10, .int .i64 l.length), (9, .list l.length (u8 l)), (0, .cell (ks .u64 (QkH 256))), (1, .int .u64 (ZT s (l.take k)))], []⟩) (fun k => k ≤ l.length) (fun k => l.length - k) 0 (Le.slots (by simp [Am.look, ZT])) (by omega) ?_
  intro k hk
  have hc := Qdr (l := l.take k) hs
  by_cases hlt : k < l.length
  · have e1 := QaR hlt
    have hn := Qlw (s := s) hlt
    generalize ZT s (l.take k) = c at *
    have hb := (l[k]).toNat_lt
    rw [Qqb hc hb] at hn
    have h0 : (c / 72057594037927936 ^^^ (l[k]).toNat) < 256 := Nat.xor_lt_two_pow (n := 8) (by omega) hb
    have h1 := Qi7 8 (c := (c / 72057594037927936 ^^^ (l[k]).toNat) * 72057594037927936) (by omega)
    have a1 : Qs false .u64 (c : Int) 56 = some (.int .u64 ((c / 72057594037927936 : Nat) : Int)) := Qi8 (K := .u64) (n := c) (k := 56) (by decide)
    have a0 := Qr4 c
    have a2 : IntKind.u8.wrap ((c / 72057594037927936 : Nat) : Int) = ((c / 72057594037927936 : Nat) : Int) := by rw [X5]; omega
    have a3 : IntKind.u8.wrap (BitVec.ofInt IntKind.u8.bits ((c / 72057594037927936 : Nat) : Int) ^^^ BitVec.ofInt IntKind.u8.bits ((l[k]).toNat : Int)).toNat = ((c / 72057594037927936 ^^^ (l[k]).toNat : Nat) : Int) :=
      Qrr (K := .u8) rfl (a := c / 72057594037927936) (b := (l[k]).toNat) (by show c / 72057594037927936 < 256; omega) hb
    have hm := Nat.mod_lt (c * 256) (show 0 < 18446744073709551616 by decide)
    have a4 : IntKind.u64.wrap (BitVec.ofInt IntKind.u64.bits ((c * 256 % 18446744073709551616 : Nat) : Int) ^^^ BitVec.ofInt IntKind.u64.bits ((Qec 8 ((c / 72057594037927936 ^^^ (l[k]).toNat) * 72057594037927936) : Nat) : Int)).toNat = ((ZT s (l.take (k + 1)) : Nat) : Int) := by
      rw [hn]; exact Qrr (K := .u64) rfl hm h1
    generalize c * 256 % 18446744073709551616 = d at *
    generalize c / 72057594037927936 ^^^ (l[k]).toNat = x at *
    have e2 : (ks .u64 (QkH 256)).drop x = .int .u64 ((Qec 8 (x * 72057594037927936) : Nat) : Int) :: ks .u64 ((QkH 256).drop (x + 1)) := by
      rw [J6, List.drop_eq_getElem_cons (by rw [X8]; exact h0), Qgo, QfQ h0, if_pos h0]
    generalize c / 72057594037927936 = q at *
    simp (maxSteps := 4000000) (disch := omega) only [rr, aop, cV, cV1, AV.one, Qb, okW, Qd, app, Qa, Qc, Qf, Qe, Qg, simprocAttr, e1, a0, a1, a2, a3, a4, e2, t0]
    exact ⟨k + 1, by omega, by omega, Le.slots (by simp [Am.look])⟩
  · have ek : k = l.length := by omega
    subst ek
    rw [List.take_length]
    simp (maxSteps := 4000000) (disch := omega) only [rr, aop, cV, cV1, AV.one, Qb, okW, Qd, app, Qa, Qc, Qf, Qe, Qg, simprocAttr]

def Qfi (P : Prg) (f : Nat) : Prop := ∀ (s : Nat) (l : List UInt8), s < 18446744073709551616 → VC P f [.int .u64 s, bs l] (if 100000 < l.length then .tup [.int .u64 0, .int .i64 4] else .tup [.int .u64 (ZT s l), .int .i64 0])
theorem Qq0 {P : Prg} {f fT fB : Nat} (bd : Qj P f 13 [.tmp 4, .tmp 5] (Qan fT fB)) (hT : Qkd P fT) (hB : Qhi P fB) : Qfi P f := by
  intro s l hs
  refine VC.of_acall (by simp [isDL, isD, Zq]) (by split <;> rfl) (ACall.of_body bd (by simp) ?_)
  by_cases hl : 100000 < l.length
  · rw [if_pos hl]
    simp (maxSteps := 4000000) (disch := omega) only [rr, aop, cV, cV1, AV.one, Qb, okW, Qd, app, Qa, Qc, Qf, Qe, Qg, simprocAttr, Qan, bs]
  · rw [if_neg hl]
    have hB' := hB s l hs (by omega)
    rw [bs] at hB'
    have hT' : VC P fT [] _ := hT
    simp (maxSteps := 4000000) (disch := omega) only [rr, aop, cV, cV1, AV.one, Qb, okW, Qd, app, Qa, Qc, Qf, Qe, Qg, simprocAttr, Qan, bs]
    refine Qh.vc hT' ?_
    simp (maxSteps := 4000000) (disch := omega) only [rr, aop, cV, cV1, AV.one, Qb, okW, Qd, app, Qa, Qc, Qf, Qe, Qg, simprocAttr]
    refine Qh.vc hB' ?_
    simp (maxSteps := 4000000) (disch := omega) only [rr, aop, cV, cV1, AV.one, Qb, okW, Qd, app, Qa, Qc, Qf, Qe, Qg, simprocAttr]

def QgV (P : Prg) (f : Nat) : Prop := ∀ (l : List UInt8), VC P f [bs l] (if 100000 < l.length then .tup [.int .u64 0, .int .i64 4] else .tup [.int .u64 (ZT 0 l), .int .i64 0])
theorem Qtk {P : Prg} {f fN : Nat} (bd : Qj P f 8 [.tmp 2, .tmp 3] (QaX fN)) (hN : Qfi P fN) : QgV P f := by
  intro l
  refine VC.of_acall (by simp [isDL, isD, Zq]) (by split <;> rfl) (ACall.of_body bd (by simp) ?_)
  have hN' := hN 0 l (by decide)
  rw [bs] at hN'
  by_cases hl : 100000 < l.length
  · rw [if_pos hl] at hN' ⊢
    simp (maxSteps := 4000000) (disch := omega) only [rr, aop, cV, cV1, AV.one, Qb, okW, Qd, app, Qa, Qc, Qf, Qe, Qg, simprocAttr, QaX, bs]
    refine Qh.vc hN' ?_
    simp (maxSteps := 4000000) (disch := omega) only [rr, aop, cV, cV1, AV.one, Qb, okW, Qd, app, Qa, Qc, Qf, Qe, Qg, simprocAttr]
  · rw [if_neg hl] at hN' ⊢
    simp (maxSteps := 4000000) (disch := omega) only [rr, aop, cV, cV1, AV.one, Qb, okW, Qd, app, Qa, Qc, Qf, Qe, Qg, simprocAttr, QaX, bs]
    refine Qh.vc hN' ?_
    simp (maxSteps := 4000000) (disch := omega) only [rr, aop, cV, cV1, AV.one, Qb, okW, Qd, app, Qa, Qc, Qf, Qe, Qg, simprocAttr]
end Go.Am

namespace Go.Am
open Go.RowKit

/-! ### The reference of CRC-64 -/

theorem QuC {s b : Nat} (hs : s < 18446744073709551616) (hb : b < 2) : QmN (s ^^^ b * 9223372036854775808) = (2 * s) % 18446744073709551616 ^^^ (if (9223372036854775808 ≤ s ↔ b = 0) then 4823603603198064275 else 0) := by
  rcases (by omega : b = 0 ∨ b = 1) with rfl | rfl
  · simp [QmN]
  · have hx : s ^^^ 9223372036854775808 < 18446744073709551616 := Nat.xor_lt_two_pow (n := 64) hs (by decide)
    have e1 : (9223372036854775808 ≤ s ^^^ 9223372036854775808) ↔ ¬ (9223372036854775808 ≤ s) := by
      rw [QpC _ hx, QpC _ hs, Nat.testBit_xor, show (9223372036854775808 : Nat) = 2 ^ 63 from rfl, Nat.testBit_two_pow_self]
      simp
    have e2 : 2 * (s ^^^ 9223372036854775808) % 18446744073709551616 = 2 * s % 18446744073709551616 := by
      apply Nat.eq_of_testBit_eq
      intro i
      rw [show (18446744073709551616 : Nat) = 2 ^ 64 from rfl, Nat.testBit_mod_two_pow, Nat.testBit_mod_two_pow, show 2 * (s ^^^ 9223372036854775808) = 2 ^ 1 * (s ^^^ 9223372036854775808) from rfl, show 2 * s = 2 ^ 1 * s from rfl, Nat.testBit_two_pow_mul, Nat.testBit_two_pow_mul, Nat.testBit_xor,
        show (9223372036854775808 : Nat) = 2 ^ 63 from rfl, Nat.testBit_two_pow]
      by_cases h : i < 64
      · have h1 : ¬ (63 = i - 1) := by omega
        simp [h, h1]
      · simp [h]
    rw [Nat.one_mul, QmN, e2]
    by_cases h : 9223372036854775808 ≤ s
    · rw [if_neg (fun h2 => (e1.1 h2) h), if_neg (by simp [h])]
    · rw [if_pos (e1.2 h), if_pos (by simp [h])]

def QoJ (P : Prg) (f : Nat) : Prop := ∀ s b : Nat, s < 18446744073709551616 → b < 2 → VC P f [.int .u64 s, .int .i64 b] (.int .u64 (QmN (s ^^^ b * 9223372036854775808) : Nat))
theorem QqB {P : Prg} {f : Nat} (bd : Qj P f 18 [.tmp 4] QU) : QoJ P f := by
  intro s b hs hb
  refine VC.of_acall rfl rfl (ACall.of_body bd (by simp) ?_)
  rw [QuC hs hb]
  have hm := Nat.mod_lt (2 * s) (show 0 < 18446744073709551616 by decide)
  have e1 : IntKind.u64.wrap (BitVec.ofInt IntKind.u64.bits ((2 * s % 18446744073709551616 : Nat) : Int) ^^^ BitVec.ofInt IntKind.u64.bits 4823603603198064275).toNat = ((2 * s % 18446744073709551616 ^^^ 4823603603198064275 : Nat) : Int) :=
    Qrr (K := .u64) rfl hm (by decide)
  have e2 : IntKind.u64.wrap ((s : Int) * 2) = ((2 * s % 18446744073709551616 : Nat) : Int) := by rw [ZH]; omega
  generalize 2 * s % 18446744073709551616 = d at *
  by_cases h : 9223372036854775808 ≤ s <;> rcases (by omega : b = 0 ∨ b = 1) with rfl | rfl
  · rw [if_pos (by simp [h])]
    simp (maxSteps := 4000000) (disch := omega) only [rr, aop, cV, cV1, AV.one, Qb, okW, Qd, app, Qa, Qc, Qf, Qe, Qg, simprocAttr, QU, e1, e2]
  · rw [if_neg (by simp [h]), Nat.xor_zero]
    simp (maxSteps := 4000000) (disch := omega) only [rr, aop, cV, cV1, AV.one, Qb, okW, Qd, app, Qa, Qc, Qf, Qe, Qg, simprocAttr, QU, e1, e2, Bool.not_true]
  · rw [if_neg (by simp [h]), Nat.xor_zero]
    simp (maxSteps := 4000000) (disch := omega) only [rr, aop, cV, cV1, AV.one, Qb, okW, Qd, app, Qa, Qc, Qf, Qe, Qg, simprocAttr, QU, e1, e2]
  · rw [if_pos (by simp [h])]
    simp (maxSteps := 4000000) (disch := omega) only [rr, aop, cV, cV1, AV.one, Qb, okW, Qd, app, Qa, Qc, Qf, Qe, Qg, simprocAttr, QU, e1, e2, Bool.not_false]

def QoS (P : Prg) (f : Nat) : Prop := ∀ s b : Nat, s < 18446744073709551616 → b < 256 → VC P f [.int .u64 s, .int .u8 b] (.int .u64 (QuE s b : Nat))
theorem QqD {P : Prg} {f fS : Nat} (bd : Qj P f 18 [.tmp 4] (XO fS)) (hS : QoJ P fS) : QoS P f := by
  intro s b hs hb
  refine VC.of_acall rfl rfl (ACall.of_body bd (by simp) ?_)
  simp (maxSteps := 4000000) (disch := omega) only [rr, aop, cV, cV1, AV.one, Qb, okW, Qd, app, Qa, Qc, Qf, Qe, Qg, simprocAttr, XO]
  refine QJ.by (ι := Nat) (fun k => ⟨[(5, .int .i64 (128 / 2 ^ k : Nat)), (0, .int .u64 (Qr3 s b k)), (1, .int .u8 b)], []⟩) (fun k => k ≤ 8) (fun k => 8 - k) 0 (Le.slots (by simp [Am.look, Qr3])) (by omega) ?_
  intro k hk
  have hc := Qr2 (b := b) hs k
  by_cases hlt : k < 8
  · have hn : Qr3 s b (k + 1) = QmN (Qr3 s b k ^^^ (b / 2 ^ (7 - k) % 2) * 9223372036854775808) := rfl
    have hp : 128 / 2 ^ k = 2 ^ (7 - k) := by
      rw [show (128 : Nat) = 2 ^ 7 from rfl, Nat.pow_div (by omega) (by decide)]
    have hd : 128 / 2 ^ (k + 1) = 128 / 2 ^ k / 2 := by rw [Nat.pow_succ, Nat.div_div_eq_div_mul]
    have hpos : 1 ≤ 128 / 2 ^ k := by rw [hp]; exact Nat.pow_pos (by decide)
    have hle : 128 / 2 ^ k ≤ 128 := Nat.div_le_self _ _
    have h2 := hS (Qr3 s b k) (b / 2 ^ (7 - k) % 2) hc (Nat.mod_lt _ (by decide))
    rw [← hn, ← hp] at h2
    generalize Qr3 s b k = c at *
    generalize 128 / 2 ^ k = p at *
    have e1 : ((b : Int)).tdiv (p : Int) = ((b / p : Nat) : Int) := by rw [Int.tdiv_eq_ediv_of_nonneg (by omega)]; simp
    have e0 : (b : Int) / (p : Int) = ((b / p : Nat) : Int) := by simp
    have hbp : b / p ≤ b := Nat.div_le_self _ _
    generalize b / p = x at *
    have e3 : ((x : Int)).tmod 2 = ((x % 2 : Nat) : Int) := rfl
    have e4 : (x : Int) % 2 = ((x % 2 : Nat) : Int) := by omega
    have e5 : ((p : Int)).tdiv 2 = ((p / 2 : Nat) : Int) := rfl
    have e6 : (p : Int) / 2 = ((p / 2 : Nat) : Int) := by omega
    simp (maxSteps := 4000000) (disch := omega) only [rr, aop, cV, cV1, AV.one, Qb, okW, Qd, app, Qa, Qc, Qf, Qe, Qg, simprocAttr, e0, e1, e3, e4]
    refine Qh.vc h2 ?_
    simp (maxSteps := 4000000) (disch := omega) only [rr, aop, cV, cV1, AV.one, Qb, okW, Qd, app, Qa, Qc, Qf, Qe, Qg, simprocAttr, e5, e6]
    exact ⟨k + 1, by omega, by omega, Le.slots (by simp [Am.look, hd])⟩
  · obtain rfl : k = 8 := by omega
    rw [QwW hs hb]
    have e : (128 / 2 ^ 8 : Nat) = 0 := rfl
    rw [e]
    simp (maxSteps := 4000000) (disch := omega) only [rr, aop, cV, cV1, AV.one, Qb, okW, Qd, app, Qa, Qc, Qf, Qe, Qg, simprocAttr]

def QcQ (P : Prg) (f : Nat) : Prop := ∀ (s : Nat) (l : List UInt8), s < 18446744073709551616 → l.length ≤ 1000000 → VC P f [.int .u64 s, bs l] (.int .u64 (ZT s l : Nat))
theorem QlN {P : Prg} {f fB : Nat} (bd : Qj P f 19 [.tmp 4] (Z5 fB)) (hB : QoS P fB) : QcQ P f := by
  intro s l hs hl
  refine VC.of_acall (by simp [isDL, isD, Zq]) rfl (ACall.of_body bd (by simp) ?_)
  simp (maxSteps := 4000000) (disch := omega) only [rr, aop, cV, cV1, AV.one, Qb, okW, Qd, app, Qa, Qc, Qf, Qe, Qg, simprocAttr, Z5, bs]
  refine QJ.by (ι := Nat) (fun k => ⟨[(5, .int .i64 k), (1, .list l.length (u8 l)), (0, .int .u64 (ZT s (l.take k)))], []⟩) (fun k => k ≤ l.length) (fun k => l.length - k) 0 (Le.slots (by simp [Am.look, ZT])) (by omega) ?_
  intro k hk
  have hc := Qdr (l := l.take k) hs
  by_cases hlt : k < l.length
  · have e1 := QaR hlt
    have hn := Qlw (s := s) hlt
    have h2 := hB (ZT s (l.take k)) (l[k]).toNat hc (l[k]).toNat_lt
    rw [← hn] at h2
    simp (maxSteps := 4000000) (disch := omega) only [rr, aop, cV, cV1, AV.one, Qb, okW, Qd, app, Qa, Qc, Qf, Qe, Qg, simprocAttr, e1]
    refine Qh.vc h2 ?_
    simp (maxSteps := 4000000) (disch := omega) only [rr, aop, cV, cV1, AV.one, Qb, okW, Qd, app, Qa, Qc, Qf, Qe, Qg, simprocAttr]
    exact ⟨k + 1, by omega, by omega, Le.slots (by simp [Am.look])⟩
  · have ek : k = l.length := by omega
    subst ek
    rw [List.take_length]
    simp (maxSteps := 4000000) (disch := omega) only [rr, aop, cV, cV1, AV.one, Qb, okW, Qd, app, Qa, Qc, Qf, Qe, Qg, simprocAttr]
theorem QqC {P : Prg} {f fB : Nat} (bd : Qj P f 12 [.tmp 4, .tmp 5] (ZC fB)) (hB : QcQ P fB) : Qfi P f := by
  intro s l hs
  refine VC.of_acall (by simp [isDL, isD, Zq]) (by split <;> rfl) (ACall.of_body bd (by simp) ?_)
  by_cases hl : 100000 < l.length
  · rw [if_pos hl]
    simp (maxSteps := 4000000) (disch := omega) only [rr, aop, cV, cV1, AV.one, Qb, okW, Qd, app, Qa, Qc, Qf, Qe, Qg, simprocAttr, ZC, bs]
  · rw [if_neg hl]
    have hB' := hB s l hs (by omega)
    rw [bs] at hB'
    simp (maxSteps := 4000000) (disch := omega) only [rr, aop, cV, cV1, AV.one, Qb, okW, Qd, app, Qa, Qc, Qf, Qe, Qg, simprocAttr, ZC, bs]
    refine Qh.vc hB' ?_
    simp (maxSteps := 4000000) (disch := omega) only [rr, aop, cV, cV1, AV.one, Qb, okW, Qd, app, Qa, Qc, Qf, Qe, Qg, simprocAttr]
theorem Qsp {P : Prg} {f fN : Nat} (bd : Qj P f 8 [.tmp 2, .tmp 3] (ZR fN)) (hN : Qfi P fN) : QgV P f := by
  intro l
  refine VC.of_acall (by simp [isDL, isD, Zq]) (by split <;> rfl) (ACall.of_body bd (by simp) ?_)
  have hN' := hN 0 l (by decide)
  rw [bs] at hN'
  by_cases hl : 100000 < l.length
  · rw [if_pos hl] at hN' ⊢
    simp (maxSteps := 4000000) (disch := omega) only [rr, aop, cV, cV1, AV.one, Qb, okW, Qd, app, Qa, Qc, Qf, Qe, Qg, simprocAttr, ZR, bs]
    refine Qh.vc hN' ?_
    simp (maxSteps := 4000000) (disch := omega) only [rr, aop, cV, cV1, AV.one, Qb, okW, Qd, app, Qa, Qc, Qf, Qe, Qg, simprocAttr]
  · rw [if_neg hl] at hN' ⊢
    simp (maxSteps := 4000000) (disch := omega) only [rr, aop, cV, cV1, AV.one, Qb, okW, Qd, app, Qa, Qc, Qf, Qe, Qg, simprocAttr, ZR, bs]
    refine Qh.vc hN' ?_
    simp (maxSteps := 4000000) (disch := omega) only [rr, aop, cV, cV1, AV.one, Qb, okW, Qd, app, Qa, Qc, Qf, Qe, Qg, simprocAttr]
end Go.Am

namespace Go.Am
open Go.RowKit

/-! ### Taps of passwords -/

def sb8 (x : Nat) : Int := if 127 < x % 256 then ((x % 256 : Nat) : Int) - 256 else ((x % 256 : Nat) : Int)
theorem QwZ (x : Nat) : -128 ≤ sb8 x ∧ sb8 x ≤ 127 := by unfold sb8; split <;> omega
def ofK (d k : Nat) : List Int := (List.range 16).map fun i => if i < k then sb8 (d / 2 ^ (8 * i)) else 0
theorem QbB (d k : Nat) : (ofK d k).length = 16 := by simp [ofK]
theorem QsE {d k : Nat} (h : k < 16) : (ofK d k).set k (sb8 (d / 2 ^ (8 * k))) = ofK d (k + 1) := by
  refine List.ext_getElem (by simp [QbB]) fun j h1 h2 => ?_
  have hj : j < 16 := by simpa [QbB] using h2
  rw [List.getElem_set]
  simp only [ofK, List.getElem_map, List.getElem_range]
  split
  · rename_i e; subst e; rw [if_pos (by omega)]
  · by_cases h3 : j < k
    · rw [if_pos h3, if_pos (by omega)]
    · rw [if_neg h3, if_neg (by omega)]
theorem QvI (x : Nat) : IntKind.i8.wrap (x : Int) = sb8 x := by
  unfold sb8
  simp only [IntKind.wrap, IntKind.bits, IntKind.signed]
  simp
  split <;> split <;> omega
def Qip (P : Prg) (f : Nat) : Prop := ∀ d : Nat, d < 18446744073709551616 → VC P f [.int .u64 d] (.agg (ks .i32 (ofK d 8)))
theorem Qv2 {P : Prg} {f t0 : Nat} (bd : Qj P f 18 [.cell 2 t0] (Qfe t0)) (ht : Q4 P t0 = some (some 16)) : Qip P f := by
  intro d hd
  refine VC.of_acall rfl (by simp [isD, QM]) (ACall.of_body bd (by simp) ?_)
  unfold Qfe
  have z : ([.int .i32 0, .int .i32 0, .int .i32 0, .int .i32 0, .int .i32 0, .int .i32 0, .int .i32 0, .int .i32 0, .int .i32 0, .int .i32 0, .int .i32 0, .int .i32 0, .int .i32 0, .int .i32 0, .int .i32 0, .int .i32 0] : List AV) = ks .i32 (ofK 0 0) := rfl
  have z0 : ks .i32 (ofK 0 0) = ks .i32 (ofK d 0) := rfl
  rw [z]
  have ol := XA .i32 (ofK 0 0)
  have kl0 : (ks .i32 (ofK 0 0)).length = 16 := rfl
  simp (maxSteps := 4000000) (disch := omega) only [rr, aop, cV, cV1, AV.one, Qb, okW, Qd, app, Qa, Qc, Qf, Qe, Qg, simprocAttr, ol, kl0]
  refine QJ.by (ι := Nat) (fun i => ⟨[(5, .int .i64 i), (0, .int .u64 d), (3, .ref 1 1 0), (2, .ref 0 1 0)], [⟨t0, 16, 1, ks .i32 (ofK 0 0), 0⟩, ⟨t0, 16, 1, ks .i32 (ofK d i), 0⟩]⟩) (fun i => i ≤ 8) (fun i => 8 - i) 0 (Le.slots (by simp [Am.look])) (by omega) ?_
  intro i hi
  have kl : (ks .i32 (ofK d i)).length = 16 := by rw [Qk, QbB]
  by_cases hlt : i < 8
  · have a1 : Qs false .u64 (d : Int) (8 * (i : Int)) = some (.int .u64 ((d / 2 ^ (8 * i) : Nat) : Int)) := by
      have := Qi8 (K := .u64) (n := d) (k := 8 * i) (by show 8 * i ≤ 64; omega)
      simpa using this
    have a2 := QvI (d / 2 ^ (8 * i))
    have a3 := QwZ (d / 2 ^ (8 * i))
    have e3 : (ks .i32 (ofK d i)).take i ++ [.int .i32 (sb8 (d / 2 ^ (8 * i)))] ++ (ks .i32 (ofK d i)).drop (i + 1) = ks .i32 (ofK d (i + 1)) := by
      rw [← QsE (by omega), List.set_eq_take_append_cons_drop, if_pos (by rw [QbB]; omega)]; simp [ks, List.map_take, List.map_drop]
    generalize d / 2 ^ (8 * i) = q at *
    generalize sb8 q = y at *
    simp (maxSteps := 4000000) (disch := omega) only [rr, aop, cV, cV1, AV.one, Qb, okW, Qd, app, Qa, Qc, Qf, Qe, Qg, simprocAttr, a1, a2, kl, e3]
    exact ⟨i + 1, by omega, by omega, Le.slots (by simp [Am.look])⟩
  · obtain rfl : i = 8 := by omega
    have o8 := XA .i32 (ofK d 8)
    have t8 : (ks .i32 (ofK d 8)).take 16 = ks .i32 (ofK d 8) := List.take_of_length_le (by omega)
    simp (maxSteps := 4000000) (disch := omega) only [rr, aop, cV, cV1, AV.one, Qb, okW, Qd, app, Qa, Qc, Qf, Qe, Qg, simprocAttr, kl, kl0, t8, o8, ZK, ht]
    try simp [kl]

theorem QuP {P : Prg} {f t0 : Nat} (bd : Qj P f 23 [.cell 2 t0] (JB t0)) (ht : Q4 P t0 = some (some 16)) : Qip P f := by
  intro d hd
  refine VC.of_acall rfl (by simp [isD, QM]) (ACall.of_body bd (by simp) ?_)
  unfold JB
  have z : ([.int .i32 0, .int .i32 0, .int .i32 0, .int .i32 0, .int .i32 0, .int .i32 0, .int .i32 0, .int .i32 0, .int .i32 0, .int .i32 0, .int .i32 0, .int .i32 0, .int .i32 0, .int .i32 0, .int .i32 0, .int .i32 0] : List AV) = ks .i32 (ofK 0 0) := rfl
  rw [z]
  have ol := XA .i32 (ofK 0 0)
  have kl0 : (ks .i32 (ofK 0 0)).length = 16 := rfl
  simp (maxSteps := 4000000) (disch := omega) only [rr, aop, cV, cV1, AV.one, Qb, okW, Qd, app, Qa, Qc, Qf, Qe, Qg, simprocAttr, ol, kl0]
  refine QJ.by (ι := Nat) (fun i => ⟨[(4, .int .i64 i), (0, .int .u64 (d / 2 ^ (8 * i) : Nat)), (3, .ref 1 1 0), (2, .ref 0 1 0)], [⟨t0, 16, 1, ks .i32 (ofK 0 0), 0⟩, ⟨t0, 16, 1, ks .i32 (ofK d i), 0⟩]⟩) (fun i => i ≤ 8) (fun i => 8 - i) 0 (Le.slots (by simp [Am.look])) (by omega) ?_
  intro i hi
  have kl : (ks .i32 (ofK d i)).length = 16 := by rw [Qk, QbB]
  by_cases hlt : i < 8
  · have hd2 : d / 2 ^ (8 * (i + 1)) = d / 2 ^ (8 * i) / 256 := by
      rw [show 8 * (i + 1) = 8 * i + 8 by omega, Nat.pow_add, ← Nat.div_div_eq_div_mul]
    have hq : d / 2 ^ (8 * i) ≤ d := Nat.div_le_self _ _
    have e3 : (ks .i32 (ofK d i)).take i ++ [.int .i32 (sb8 (d / 2 ^ (8 * i)))] ++ (ks .i32 (ofK d i)).drop (i + 1) = ks .i32 (ofK d (i + 1)) := by
      rw [← QsE (by omega), List.set_eq_take_append_cons_drop, if_pos (by rw [QbB]; omega)]; simp [ks, List.map_take, List.map_drop]
    generalize d / 2 ^ (8 * i) = q at *
    have a1 : ((q : Int)).tmod 256 = ((q % 256 : Nat) : Int) := rfl
    have a2 : (q : Int) % 256 = ((q % 256 : Nat) : Int) := by omega
    have a3 : ((q : Int)).tdiv 256 = ((q / 256 : Nat) : Int) := rfl
    have a4 : (q : Int) / 256 = ((q / 256 : Nat) : Int) := by omega
    have hb : q % 256 < 256 := Nat.mod_lt _ (by decide)
    by_cases h : 127 < q % 256
    · have s1 : sb8 q = ((q % 256 : Nat) : Int) - 256 := by rw [sb8, if_pos h]
      rw [s1] at e3
      generalize q % 256 = y at *
      simp (maxSteps := 4000000) (disch := omega) only [rr, aop, cV, cV1, AV.one, Qb, okW, Qd, app, Qa, Qc, Qf, Qe, Qg, simprocAttr, a1, a2, a3, a4, kl, e3]
      exact ⟨i + 1, by omega, by omega, Le.slots (by simp [Am.look, hd2])⟩
    · have s1 : sb8 q = ((q % 256 : Nat) : Int) := by rw [sb8, if_neg h]
      rw [s1] at e3
      generalize q % 256 = y at *
      simp (maxSteps := 4000000) (disch := omega) only [rr, aop, cV, cV1, AV.one, Qb, okW, Qd, app, Qa, Qc, Qf, Qe, Qg, simprocAttr, a1, a2, a3, a4, kl, e3]
      exact ⟨i + 1, by omega, by omega, Le.slots (by simp [Am.look, hd2])⟩
  · obtain rfl : i = 8 := by omega
    have o8 := XA .i32 (ofK d 8)
    have t8 : (ks .i32 (ofK d 8)).take 16 = ks .i32 (ofK d 8) := List.take_of_length_le (by omega)
    simp (maxSteps := 4000000) (disch := omega) only [rr, aop, cV, cV1, AV.one, Qb, okW, Qd, app, Qa, Qc, Qf, Qe, Qg, simprocAttr, kl, kl0, t8, o8, ZK, ht]
    try simp [kl]

theorem QsR : ∀ p : List UInt8, isTL (u8 p) = true
  | [] => rfl
  | b :: p => by have := QsR p; simp only [u8, List.map_cons, isTL, isT, Bool.true_and] at this ⊢; exact this
def JF : List Int := List.replicate 16 0
def QcV (p : List UInt8) : AV := if 64 < p.length then .tup [.agg (ks .i32 JF), .int .i64 2] else .tup [.agg (ks .i32 (ofK (ZT 0 p) 8)), .int .i64 0]
theorem Qpu (p : List UInt8) : isD (QcV p) = true := by unfold QcV; split <;> simp [isD, isDL, QM]
def Qio (P : Prg) (f : Nat) : Prop := ∀ p : List UInt8, VC P f [.str p] (QcV p)
theorem Qsa {P : Prg} {f fS fO t0 : Nat} (bd : Qj P f 22 [.cell 2 t0, .tmp 3] (Qct fS fO t0)) (hS : QgV P fS) (hO : Qip P fO) (ht : Q4 P t0 = some (some 16)) : Qio P f := by
  intro p
  refine VC.of_acall rfl (Qpu p) (ACall.of_body bd (by simp) ?_)
  unfold Qct
  have z : ([.int .i32 0, .int .i32 0, .int .i32 0, .int .i32 0, .int .i32 0, .int .i32 0, .int .i32 0, .int .i32 0, .int .i32 0, .int .i32 0, .int .i32 0, .int .i32 0, .int .i32 0, .int .i32 0, .int .i32 0, .int .i32 0] : List AV) = ks .i32 JF := rfl
  rw [z]
  have ol := XA .i32 JF
  have kl0 : (ks .i32 JF).length = 16 := rfl
  have t0' : (ks .i32 JF).take 16 = ks .i32 JF := rfl
  by_cases hp : 64 < p.length
  · have e9 : QcV p = .tup [.agg (ks .i32 JF), .int .i64 2] := by rw [QcV, if_pos hp]
    simp (maxSteps := 4000000) (disch := omega) only [rr, aop, cV, cV1, AV.one, Qb, okW, Qd, app, Qa, Qc, Qf, Qe, Qg, simprocAttr, ol, kl0, ZK, ht, t0', e9]
    rfl
  · have e9 : QcV p = .tup [.agg (ks .i32 (ofK (ZT 0 p) 8)), .int .i64 0] := by rw [QcV, if_neg hp]
    have hS' := hS p
    rw [if_neg (by omega)] at hS'
    have hO' := hO (ZT 0 p) (Qdr (by decide))
    have o8 := XA .i32 (ofK (ZT 0 p) 8)
    have kl : (ks .i32 (ofK (ZT 0 p) 8)).length = 16 := by rw [Qk, QbB]
    have t8 : (ks .i32 (ofK (ZT 0 p) 8)).take 16 = ks .i32 (ofK (ZT 0 p) 8) := List.take_of_length_le (by omega)
    have tp := QsR p
    rw [bs] at hS'
    simp (maxSteps := 4000000) (disch := omega) only [rr, aop, cV, cV1, AV.one, Qb, okW, Qd, app, Qa, Qc, Qf, Qe, Qg, simprocAttr, ol, kl0]
    refine Qh.flat 1 hS' rfl (by simp [Zu, QS, frzL, QN, frzL_T _ tp]) ?_
    simp (maxSteps := 4000000) (disch := omega) only [rr, aop, cV, cV1, AV.one, Qb, okW, Qd, app, Qa, Qc, Qf, Qe, Qg, simprocAttr]
    refine Qh.vc hO' ?_
    have zl : JF.length = 16 := rfl
    have zd : (ks .i32 JF).drop 16 = [] := rfl
    simp (maxSteps := 4000000) (disch := omega) only [rr, aop, cV, cV1, AV.one, Qb, okW, Qd, app, Qa, Qc, Qf, Qe, Qg, simprocAttr, o8, kl, t8, ZK, ht, e9, zl, zd, List.append_nil]
    try simp [kl]
theorem Qqr {P : Prg} {f fS fO t0 : Nat} (bd : Qj P f 18 [.cell 2 t0, .tmp 3] (XI fS fO t0)) (hS : QgV P fS) (hO : Qip P fO) (ht : Q4 P t0 = some (some 16)) : Qio P f := by
  intro p
  refine VC.of_acall rfl (Qpu p) (ACall.of_body bd (by simp) ?_)
  unfold XI
  have z : ([.int .i32 0, .int .i32 0, .int .i32 0, .int .i32 0, .int .i32 0, .int .i32 0, .int .i32 0, .int .i32 0, .int .i32 0, .int .i32 0, .int .i32 0, .int .i32 0, .int .i32 0, .int .i32 0, .int .i32 0, .int .i32 0] : List AV) = ks .i32 JF := rfl
  rw [z]
  have ol := XA .i32 JF
  have kl0 : (ks .i32 JF).length = 16 := rfl
  have t0' : (ks .i32 JF).take 16 = ks .i32 JF := rfl
  by_cases hp : 64 < p.length
  · have e9 : QcV p = .tup [.agg (ks .i32 JF), .int .i64 2] := by rw [QcV, if_pos hp]
    simp (maxSteps := 4000000) (disch := omega) only [rr, aop, cV, cV1, AV.one, Qb, okW, Qd, app, Qa, Qc, Qf, Qe, Qg, simprocAttr, ol, kl0, ZK, ht, t0', e9]
    rfl
  · have e9 : QcV p = .tup [.agg (ks .i32 (ofK (ZT 0 p) 8)), .int .i64 0] := by rw [QcV, if_neg hp]
    have hS' := hS p
    rw [if_neg (by omega)] at hS'
    have hO' := hO (ZT 0 p) (Qdr (by decide))
    have o8 := XA .i32 (ofK (ZT 0 p) 8)
    have kl : (ks .i32 (ofK (ZT 0 p) 8)).length = 16 := by rw [Qk, QbB]
    have t8 : (ks .i32 (ofK (ZT 0 p) 8)).take 16 = ks .i32 (ofK (ZT 0 p) 8) := List.take_of_length_le (by omega)
    have tp := QsR p
    rw [bs] at hS'
    simp (maxSteps := 4000000) (disch := omega) only [rr, aop, cV, cV1, AV.one, Qb, okW, Qd, app, Qa, Qc, Qf, Qe, Qg, simprocAttr, ol, kl0]
    refine Qh.flat 1 hS' rfl (by simp [Zu, QS, frzL, QN, frzL_T _ tp]) ?_
    simp (maxSteps := 4000000) (disch := omega) only [rr, aop, cV, cV1, AV.one, Qb, okW, Qd, app, Qa, Qc, Qf, Qe, Qg, simprocAttr]
    refine Qh.vc hO' ?_
    have zl : JF.length = 16 := rfl
    have zd : (ks .i32 JF).drop 16 = [] := rfl
    simp (maxSteps := 4000000) (disch := omega) only [rr, aop, cV, cV1, AV.one, Qb, okW, Qd, app, Qa, Qc, Qf, Qe, Qg, simprocAttr, o8, kl, t8, ZK, ht, e9, zl, zd, List.append_nil]
    try simp [kl]
end Go.Am

namespace Go.Am
open Go.RowKit

/-! ### clip.Frames -/

theorem Qwd {L n j : Nat} (hn : 1 ≤ n) (hL : 1 ≤ L) (hj : j < (QY L n).length) : 1 ≤ (QY L n).getD j 0 := by
  rw [List.getD_eq_getElem?_getD, List.getElem?_eq_getElem hj, Option.getD_some]
  have hm := List.getElem_mem hj
  unfold QY at hm
  simp only [List.mem_append, List.mem_replicate, List.mem_singleton] at hm
  unfold QY
  rcases hm with hm | hm
  · rw [hm.2]; omega
  · rw [hm]
    have g0 : (n - 1) / L * L ≤ n - 1 := Nat.div_mul_le_self _ _
    clear hm
    generalize (n - 1) / L * L = w at *
    omega
theorem QwA {c x : Int} {l p : List Int} (h : QcO c x l = 0) (hs : ∀ v ∈ p, v ∈ l) (hp : 1 ≤ p.length) (hl : p.length ≤ l.length) (hc : (p.length : Int) % c = 0) : QcO c x p = 0 := by
  unfold QcO at h ⊢
  split at h
  · cases h
  rename_i h1
  split at h
  · rename_i h2; exact absurd h h2
  rename_i h2
  have h2' : Q3 x l = 0 := by simpa using h2
  have h3 : Q3 x p = 0 := by
    unfold Q3 at h2' ⊢
    split at h2'
    · cases h2'
    rename_i a1
    split at h2'
    · cases h2'
    rename_i a2
    split at h2'
    · rename_i a3
      rw [if_neg a1, if_neg (by omega), if_pos (List.all_eq_true.2 fun v hv => List.all_eq_true.1 a3 v (hs v hv))]
    · cases h2'
  rw [if_neg h1, if_neg (by rw [h3]; simp), if_neg (by omega)]
theorem Qbl {c x r : Int} {l : List Int} (h : ZG c x r l = 0) : ∀ p ∈ QL c r l, QcO c x p = 0 ∧ p.length ≤ 4000 ∧ 1 ≤ p.length := by
  have ha : QcO c x l = 0 := by
    have h2 := Qes (c := c) (x := x) (r := r) (l := l)
    rw [h] at h2
    by_cases h3 : QcO c x l = 0 ∧ XT c x r (l.length / c) = 0
    · exact h3.1
    · rw [if_neg h3] at h2; cases h2
  obtain ⟨k, n, rfl, k1, k2, hlen, ⟨o1, o2, o3, o4, o5⟩, h4⟩ := JP h
  intro p hp
  unfold QL at hp
  rw [Int.toNat_natCast, hlen, Nat.mul_div_cancel _ (by omega)] at hp
  obtain ⟨j, hj, rfl⟩ := List.mem_map.1 hp
  rw [List.mem_range] at hj
  have hL1 : 1 ≤ (QC r).toNat := by have := Xd r; omega
  obtain ⟨m, p1, p2, p3, p4, p5, p6, p7⟩ := QeS (j := j) hlen (by omega) hL1 hj
  have hm1 := Qwd (n := n) (by omega) hL1 hj
  rw [p1] at hm1
  have hlen2 : (Qah ((QC r).toNat * k) l j).length = m * k := by
    rw [p6, List.length_take, List.length_drop, hlen]
    omega
  have hmk : 1 ≤ m * k := Nat.mul_pos (by omega) k1
  have hmn : m * k ≤ n * k := Nat.mul_le_mul_right _ p2
  refine ⟨QwA ha (fun v hv => ?_) (by rw [hlen2]; exact hmk) (by rw [hlen2, hlen]; exact hmn) ?_, by rw [hlen2]; omega, by rw [hlen2]; exact hmk⟩
  · rw [p6] at hv
    exact List.mem_of_mem_drop (List.mem_of_mem_take hv)
  · rw [hlen2, Int.natCast_mul, Int.mul_emod_left]

def Qp (c x r : Int) (l : List Int) (t : List Int) : List (List UInt8) := (QL c r l).map (Qho c.toNat x t)
def QaA (c x r : Int) (l : List Int) (p : List UInt8) : AV :=
  if ZG c x r l ≠ 0 then .tup [bss [], .int .i64 8] else if 64 < p.length then .tup [bss [], .int .i64 2] else .tup [bss (Qp c x r l (ofK (ZT 0 p) 8)), .int .i64 0]
theorem QnT (c x r : Int) (l : List Int) (p : List UInt8) : isD (QaA c x r l p) = true := by unfold QaA; split <;> (try split) <;> simp [isD, isDL, Qjp]
theorem Qub (d k : Nat) : I32 (ofK d k) := fun x hx => by
  unfold ofK at hx
  obtain ⟨i, _, rfl⟩ := List.mem_map.1 hx
  split
  · have := QwZ (d / 2 ^ (8 * i)); omega
  · omega
def Qkx (P : Prg) (f : Nat) : Prop := ∀ (c x r : Int) (l : List Int) (p : List UInt8), I32 l → l.length ≤ 1000000 → VC P f [clA c x r l, .str p] (QaA c x r l p)

set_option maxHeartbeats 1000000 in
theorem Qok {P : Prg} {f fC fT fP fS fE fA g t0 t1 t2 t3 t4 ti : Nat} (b : Qud P f 45 [.cell 4 t1, .cell 5 t2] (Qbf fC fT fP fS fE t0 t1 t2 t3 t4)) (hC : Je P fC) (hT : Qio P fT) (hP : Qg7 g P fP) (hI : Qg6 ti P g) (bG : Qj P g 43 [] (Jz fA)) (hS : J1 P fS) (hE : Qrl P fE)
    (ht1 : Q4 P t1 = some none) (ht2 : Q4 P t2 = some none) (h0 : t0 ≠ ti) (h1 : t1 ≠ ti) (h2 : t2 ≠ ti) (h3 : t3 ≠ ti) (h4 : t4 ≠ ti) : Qkx P f := by
  intro c x r l p hI32 hl
  refine VC.of_walk 2 (by simp [isDL, isD, QO, clA]) (QnT _ _ _ _ _) (ACall.of_rangeC b (by simp) ?_)
  have hC' := hC c x r l hI32 hl
  rw [il] at hC'
  have tl := Qt .i32 l
  have z : ([.int .i32 0, .int .i32 0, .int .i32 0, .int .i32 0, .int .i32 0, .int .i32 0, .int .i32 0, .int .i32 0, .int .i32 0, .int .i32 0, .int .i32 0, .int .i32 0, .int .i32 0, .int .i32 0, .int .i32 0, .int .i32 0] : List AV) = ks .i32 JF := rfl
  unfold Qbf
  rw [z]
  have ol := XA .i32 JF
  have kl0 : (ks .i32 JF).length = 16 := rfl
  rcases QaD c x r l with h | h
  · rw [h] at hC'
    have hT' := hT p
    simp (maxSteps := 4000000) (disch := omega) only [rr, aop, cV, cV1, AV.one, Qb, okW, Qd, app, Qa, Qc, Qf, Qe, Qg, simprocAttr, clA, il, Qcz, QeK, Qbo, Qid, Qgp, Qvu]
    refine Qh.vc hC' ?_
    simp (maxSteps := 4000000) (disch := omega) only [rr, aop, cV, cV1, AV.one, Qb, okW, Qd, app, Qa, Qc, Qf, Qe, Qg, simprocAttr, Qbo, Qid, Qcz, QeK]
    refine Qh.vc hT' ?_
    by_cases hp : 64 < p.length
    · have e9 : QaA c x r l p = .tup [bss [], .int .i64 2] := by rw [QaA, if_neg (by omega), if_pos hp]
      have e8 : QcV p = .tup [.agg (ks .i32 JF), .int .i64 2] := by rw [QcV, if_pos hp]
      have t0' : (ks .i32 JF).take 16 = ks .i32 JF := rfl
      have zl : JF.length = 16 := rfl
      have zd : (ks .i32 JF).drop 16 = [] := rfl
      rw [e8]
      simp (maxSteps := 4000000) (disch := omega) only [rr, aop, cV, cV1, AV.one, Qb, okW, Qd, app, Qa, Qc, Qf, Qe, Qg, simprocAttr, Qbo, Qid, Qcz, QeK, ol, kl0, t0', zl, zd, List.append_nil, e9, ZK, ht1, ht2]
      simp [Zu, QS, frzL, QN, isDL, isD, bss]
    · have e9 : QaA c x r l p = .tup [bss (Qp c x r l (ofK (ZT 0 p) 8)), .int .i64 0] := by rw [QaA, if_neg (by omega), if_neg hp]
      have e8 : QcV p = .tup [.agg (ks .i32 (ofK (ZT 0 p) 8)), .int .i64 0] := by rw [QcV, if_neg hp]
      obtain ⟨T, hTe⟩ : ∃ T, ofK (ZT 0 p) 8 = T := ⟨_, rfl⟩
      have hTl : T.length = 16 := by rw [← hTe, QbB]
      have hTI : I32 T := by rw [← hTe]; exact Qub _ _
      have oT := XA .i32 T
      have kT : (ks .i32 T).length = 16 := by rw [Qk, hTl]
      have tT : (ks .i32 T).take 16 = ks .i32 T := List.take_of_length_le (by omega)
      have zl : JF.length = 16 := rfl
      have zd : (ks .i32 JF).drop 16 = [] := rfl
      rw [hTe] at e8 e9
      have hparts := Qbl h
      obtain ⟨k, n, rfl, k1, k2, hlen, hok, h4'⟩ := JP h
      have hP' := hP k x r l
      have hI' := hI k n x r l k1 k2 hlen hok
      rw [clA] at hP'
      rw [il] at hP' hI'
      have hS' := hS k x r l
      rw [shA, il] at hS'
      rw [e8]
      simp (maxSteps := 4000000) (disch := omega) only [rr, aop, cV, cV1, AV.one, Qb, okW, Qd, app, Qa, Qc, Qf, Qe, Qg, simprocAttr, Qbo, Qid, Qcz, QeK, ol, kl0, oT, kT, zl, zd, List.append_nil]
      refine Qh.vc hP' ?_
      simp (maxSteps := 4000000) (disch := omega) only [rr, aop, cV, cV1, AV.one, Qb, okW, Qd, app, Qa, Qc, Qf, Qe, Qg, simprocAttr, Qgp]
      obtain ⟨Lc, hLc⟩ : ∃ Lc, (QC r).toNat * k = Lc := ⟨_, rfl⟩
      rw [hLc] at hI'
      have hcnt : (QY (QC r).toNat n).length ≤ 1000 := by have := hok.2.2.2.2; rwa [Int.toNat_natCast] at this
      obtain ⟨cnt, hcn⟩ : ∃ cnt, (QY (QC r).toNat n).length = cnt := ⟨_, rfl⟩
      have hpo : QL k r l = (List.finRange cnt).map (fun j => Qah Lc l j.1) := by
        unfold QL
        rw [Int.toNat_natCast, hlen, Nat.mul_div_cancel _ (by omega), hcn, hLc]
        apply List.ext_getElem <;> simp
      rw [hcn] at hI' hcnt
      refine ⟨cnt, g, _, [ti], _, [(27, .fn (.func g) [] [.cell [.int .i64 k, .int .i64 x, .int .i64 r, .list l.length (ks .i32 l)]]), (2, .ref 0 1 0), (4, .ref 1 1 0), (5, .ref 2 1 0), (7, .ref 3 1 0), (9, .ref 4 1 0)],
        fun pre => [⟨t0, 4, 1, [.int .i64 k, .int .i64 x, .int .i64 r, .list l.length (ks .i32 l)], 0⟩, ⟨t1, 1, 1, [.list 0 []], 0⟩, ⟨t2, 1, 1, [.int .i64 0], 0⟩, ⟨t3, 16, 1, ks .i32 T, 0⟩, ⟨t1, 1, 1, [.own 5 pre.length], 0⟩, ⟨t4, 1, pre.length, pre.map (fun j => bs (Qho k x T (Qah Lc l j.1))), 0⟩], ?_, rfl, bG.ent, by simp [isDL, isD, QM], hI', by omega, by omega, rfl, ?_, ?_, ?_⟩
      · refine Le.trans (Le.virtF (p := 4) (ty := t4) (sz := 1) (by omega) rfl rfl) (Le.drop 6 2 (by omega) rfl (by simp [Am.look, QS, frzL, QN, frzL_T _ tl]) ?_)
        intro i z hz
        match i, hz with
        | 0, hz => cases hz; exact ⟨_, rfl, by simp [QS, frzL, QN, frzL_T _ tl]⟩
        | 1, hz => cases hz; exact ⟨_, rfl, by simp [QS, frzL, QN]⟩
        | 2, hz => cases hz; exact ⟨_, rfl, by simp [QS, frzL, QN]⟩
        | 3, hz => cases hz; exact ⟨_, rfl, by simp [QS, frzL_T _ (Qt .i32 T)]⟩
        | 4, hz => cases hz; exact ⟨_, rfl, by simp [QS, frzL, QN]⟩
        | 5, hz => cases hz; exact ⟨_, rfl, by simp [QS, frzL, QN]⟩
        | i + 6, hz => simp at hz
      · intro pre x hx
        simp only [List.mem_cons, List.not_mem_nil, or_false] at hx ⊢
        rcases hx with rfl | rfl | rfl | rfl | rfl | rfl
        · exact h0
        · exact h1
        · exact h2
        · exact h3
        · exact h1
        · exact h4
      · intro pre y hpl
        have hmem : Qah Lc l y.1 ∈ QL k r l := by rw [hpo]; exact List.mem_map.2 ⟨y, List.mem_finRange _, rfl⟩
        obtain ⟨q1, q2, q3⟩ := hparts _ hmem
        have hqI : I32 (Qah Lc l y.1) := fun v hv => hI32 v (by
          unfold Qah at hv
          exact List.mem_of_mem_drop (List.mem_of_mem_take hv))
        have hE' := hE k x T (Qah Lc l y.1) hTl hTI hqI
        rw [Qvx, if_neg (by omega), Int.toNat_natCast] at hE'
        obtain ⟨w1, w2⟩ := Qta (t := T) hqI q1
        rw [Int.toNat_natCast] at w1 w2
        have hpm : (pre.map (fun j => bs (Qho k x T (Qah Lc l j.1)))).length = pre.length := by simp
        obtain ⟨Y, hYe⟩ : ∃ Y, Qho k x T (Qah Lc l y.1) = Y := ⟨_, rfl⟩
        rw [hYe] at hE' w1 w2
        obtain ⟨Z, hZ⟩ : ∃ Z, Qah Lc l y.1 = Z := ⟨_, rfl⟩
        rw [hZ] at hE' hqI q1 q2 q3 hYe ⊢
        rw [shA, il, bs] at hE'
        have tZ := Qt .i32 Z
        have tT2 := Qt .i32 T
        rw [il]
        simp (maxSteps := 4000000) (disch := omega) only [rr, aop, cV, cV1, AV.one, Qb, okW, Qd, app, Qa, Qc, Qf, Qe, Qg, simprocAttr, tT, kT]
        refine Q2.vc hS' ?_
        simp (maxSteps := 4000000) (disch := omega) only [rr, aop, cV, cV1, AV.one, Qb, okW, Qd, app, Qa, Qc, Qf, Qe, Qg, simprocAttr, tT, kT]
        refine Q2.vc hE' ?_
        simp (maxSteps := 4000000) (disch := omega) only [rr, aop, cV, cV1, AV.one, Qb, okW, Qd, app, Qa, Qc, Qf, Qe, Qg, simprocAttr, hpm]
        refine Le.drop 6 2 (by omega) rfl (by simp) ?_
        intro i z hz
        match i, hz with
        | 0, hz => cases hz; exact ⟨_, rfl, by simp [QS, frzL, QN, frzL_T _ tl]⟩
        | 1, hz => cases hz; exact ⟨_, rfl, by simp [QS, frzL, QN]⟩
        | 2, hz => cases hz; exact ⟨_, rfl, by simp [QS, frzL, QN]⟩
        | 3, hz => cases hz; exact ⟨_, rfl, by simp [QS, frzL_T _ tT2]⟩
        | 4, hz => cases hz; exact ⟨_, rfl, by simp [QS, frzL, QN]⟩
        | 5, hz =>
          cases hz
          have e : (pre ++ [y]).map (fun j => bs (Qho k x T (Qah Lc l j.1))) = pre.map (fun j => bs (Qho k x T (Qah Lc l j.1))) ++ [.list Y.length (u8 Y)] := by
            simp only [List.map_append, List.map_cons, List.map_nil, hZ, hYe]
            rfl
          rw [e]
          refine ⟨_, rfl, frzL_T _ ?_⟩
          rw [← e]
          have := QaU ((pre ++ [y]).map (fun j => Qho k x T (Qah Lc l j.1)))
          rwa [List.map_map] at this
        | i + 6, hz => simp at hz
      · have hfl : (List.finRange cnt).length = cnt := by simp
        have hpi : (List.finRange cnt).map (fun j => bs (Qho k x T (Qah Lc l j.1))) = (Qp k x r l T).map bs := by
          unfold Qp
          rw [hpo, List.map_map, List.map_map, Int.toNat_natCast]
          rfl
        dsimp only
        rw [hpi, hfl, e9]
        have hpl : (Qp k x r l T).length = cnt := by unfold Qp; rw [hpo]; simp
        have tp := QaU (Qp k x r l T)
        generalize hPP : (Qp k x r l T).map bs = PP at *
        simp (maxSteps := 4000000) (disch := omega) only [rr, aop, cV, cV1, AV.one, Qb, okW, Qd, app, Qa, Qc, Qf, Qe, Qg, simprocAttr, ZK, ht1, ht2]
        simp [Zu, QS, frzL, QN, isDL, isD, bss, hpl, hPP, frzL_T _ tp]
  · rw [h] at hC'
    have e9 : QaA c x r l p = .tup [bss [], .int .i64 8] := by rw [QaA, if_pos (by omega)]
    simp (maxSteps := 4000000) (disch := omega) only [rr, aop, cV, cV1, AV.one, Qb, okW, Qd, app, Qa, Qc, Qf, Qe, Qg, simprocAttr, clA, il, Qcz, QeK, Qbo, Qid, Qgp, Qvu]
    refine Qh.vc hC' ?_
    simp (maxSteps := 4000000) (disch := omega) only [rr, aop, cV, cV1, AV.one, Qb, okW, Qd, app, Qa, Qc, Qf, Qe, Qg, simprocAttr, Qbo, Qid, Qcz, QeK, e9, ZK, ht1, ht2]
    simp [Zu, QS, frzL, QN, isDL, isD, bss]
end Go.Am

namespace Go.Am
open Go.RowKit

/-! ### The reference's Frames; the law ClipFrames -/

theorem QtH {L : List (List UInt8)} {k : Nat} (h : k < L.length) : (L.map bs).drop k = bs (L.getD k []) :: (L.map bs).drop (k + 1) := by
  rw [List.drop_eq_getElem_cons (by simpa using h)]
  simp [List.getD_eq_getElem?_getD, List.getElem?_eq_getElem h]

end Go.Am

namespace Go.Am
open Go.RowKit

/-! ### clip.Of -/

theorem Qwm {c x r n : Int} (h : XT c x r n = 0) : okA r n ∧ ZD c x = 0 ∧ 1 ≤ n ∧ n ≤ 4000 / c := by
  unfold XT at h
  split at h
  · cases h
  rename_i a1
  split at h
  · cases h
  rename_i a2
  split at h
  · cases h
  rename_i a3
  split at h
  · cases h
  rename_i a4
  have a5 : ZD c x = 0 := by simpa using a1
  have a6 : QjJ r n = 0 := by simpa using a4
  refine ⟨?_, a5, by omega, by omega⟩
  unfold QjJ at a6
  split at a6
  · cases a6
  split at a6
  · cases a6
  split at a6
  · cases a6
  rename_i b1 b2 b3
  refine ⟨by omega, by omega, by omega, by omega, ?_⟩
  have hlong : 1 ≤ QC r := Xd r
  obtain ⟨L, hLe⟩ : ∃ L : Nat, QC r = L := ⟨(QC r).toNat, by omega⟩
  obtain ⟨m, rfl⟩ : ∃ m : Nat, n = m := ⟨n.toNat, by omega⟩
  rw [hLe, Int.toNat_natCast, Int.toNat_natCast, Xe]
  rw [hLe] at b3
  have h1 : (m : Int) + (L : Int) - 1 = ((m - 1 + L : Nat) : Int) := by omega
  rw [h1, ← Int.natCast_ediv, Nat.add_div_right _ (by omega)] at b3
  omega

theorem RepL.split {X : Cx} : ∀ {cs bs : List AV} {vs : List Value}, RepL X (cs ++ bs) vs → ∃ us ws, vs = us ++ ws ∧ RepL X cs us ∧ RepL X bs ws
  | [], bs, vs, h => ⟨[], vs, rfl, by simp [RepL], h⟩
  | a :: cs, bs, vs, h => by
    simp only [List.cons_append, RepL] at h
    obtain ⟨v, rest, rfl, h1, h2⟩ := h
    obtain ⟨us, ws, rfl, h3, h4⟩ := RepL.split h2
    exact ⟨v :: us, ws, rfl, by simp only [RepL]; exact ⟨v, us, rfl, h1, h3⟩, h4⟩
end Go.Am

namespace Go.Am
open Go.RowKit

/-! ### A call with a row of one's own among its arguments, in a region of open order -/

def ph3 : Ob := ⟨1, 1, 0, [], 0⟩
theorem Held.fill {B : Nat} {w : World} {ob : List Ob} {be : List (Option (Nat × Nat))} {C : Nat → Nat → Prop} {o : Nat} (g : Held B ⟨w, ob, be, C⟩) (ho : ob[o]? = some ph2) :
    Held B ⟨w, ob.set o ph3, be.set o none, C⟩ ∧ Moves ⟨w, ob, be, C⟩ ⟨w, ob.set o ph3, be.set o none, C⟩ := by
  have hol : o < ob.length := (List.getElem?_eq_some_iff.1 ho).1
  have hlen : be.length = ob.length := g.len
  have hav : ∀ b k, (Cx.mk w (ob.set o ph3) (be.set o none) C).av b k → (Cx.mk w ob be C).av b k := by
    rintro b k (h | ⟨o', x, c, h1, h2, h3⟩)
    · exact .inl h
    · simp only [List.getElem?_set] at h1 h2
      by_cases e : o = o'
      · subst e; simp [hlen, hol] at h2
      · simp [e] at h1 h2
        exact .inr ⟨o', x, c, h1, h2, h3⟩
  have m : Moves ⟨w, ob, be, C⟩ ⟨w, ob.set o ph3, be.set o none, C⟩ := by
    refine ⟨fun b k v hc ha => ⟨hc, fun h => ha (hav b k h)⟩, fun o' x hx => ?_, fun b hb hf => ⟨rfl, fun o' c h => ?_⟩⟩
    · by_cases e : o = o'
      · subst e
        have hx' : ob[o]? = some x := hx
        rw [ho] at hx'; cases hx'
        exact ⟨ph3, by simp [hol], Nat.le_refl _, fun h => absurd rfl h⟩
      · exact ⟨x, by simp only [List.getElem?_set, e, if_false]; exact hx, Nat.le_refl _, fun h => ⟨h, fun _ => by simp only [List.getElem?_set, e, if_false]⟩⟩
    · simp only [List.getElem?_set] at h
      by_cases e : o = o'
      · subst e; simp [hlen, hol] at h
      · simp [e] at h; exact hf o' c h
  refine ⟨⟨by simp [hlen], fun o' x e' hx he => ?_, fun o1 o2 b c c' q1 q2 => ?_, fun o1 b c q => ?_, g.bnd, g.size⟩, m⟩
  · simp only [List.getElem?_set] at hx he
    by_cases e : o = o'
    · subst e
      simp [hlen, hol] at hx he
      subst hx; subst he
      exact ⟨rfl, rfl⟩
    · simp [e] at hx he
      exact (g.ok o' x e' hx he).move m fun _ _ _ => rfl
  · simp only [List.getElem?_set] at q1 q2
    by_cases e : o = o1
    · subst e; simp [hlen, hol] at q1
    · by_cases e2 : o = o2
      · subst e2; simp [hlen, hol] at q2
      · simp [e] at q1; simp [e2] at q2
        exact g.inj o1 o2 b c c' q1 q2
  · simp only [List.getElem?_set] at q
    by_cases e : o = o1
    · subst e; simp [hlen, hol] at q
    · simp [e] at q; exact g.base o1 b c q
theorem ACall.fill {P : Prg} {f : FuncId} {avs : List AV} {r : AV} {ob : List Ob} {o : Nat} (ho : ob[o]? = some ph2) (h : ACall P f avs ob (fun r' ob' => r' = r ∧ ob' = ob)) : ACall P f avs ob (fun r' ob' => r' = r ∧ ob' = ob.set o ph3) := by
  obtain ⟨hE, h⟩ := h
  refine ⟨hE, fun B w be C vs g hG hr => (h B w be C vs g hG hr).mono ?_⟩
  rintro e w' ⟨v, r', ob', be', rfl, hb, hh, hm, hv, rfl, rfl⟩
  obtain ⟨g1, m1⟩ := hh.fill ho
  exact ⟨v, r', _, _, rfl, hb, g1, hm.trans m1, Rep.move m1 _ _ hv, rfl, rfl⟩
theorem Q2.own {P : Prg} {B : Nat} {Q : Exit → St → Prop} {f : FuncId} {avs : List AV} {r : AV} {ob : List Ob} (o : Nat) (he : QbY P f) (h : ∀ ob', ob'[o]? = some ph2 → ACall P f avs ob' (fun r' ob'' => r' = r ∧ ob'' = ob')) (ho : ob[o]? = some ph2)
    {xs : List It} {fr : List (Nat × AV)} {dst : Option Nat} (hK : QdY P B xs Q ⟨Xx fr dst r, ob.set o ph3⟩) : Q2 P B false f avs xs Q fr ob dst := by
  refine Q2.at (r := r) o ph3 he (fun ob' h' => ACall.fill h' (h ob' h')) ho (by decide) ?_
  simp only [app, if_pos (List.getElem?_eq_some_iff.1 ho).1]
  exact hK
def Qye (L : List (List UInt8)) : Prop := L.length ≤ 1000000 ∧ ∀ j, (L.getD j []).length ≤ 1000000
end Go.Am

namespace Go.Am
open Go.RowKit

/-! ### Each part is a clip of its own -/

theorem QsZ {c x r : Int} {l : List Int} {p : List UInt8} (h : ZG c x r l = 0) (hp : ¬ 64 < p.length) : QaA c x r l p = .tup [bss (Qp c x r l (ofK (ZT 0 p) 8)), .int .i64 0] := by rw [QaA, if_neg (by omega), if_neg hp]
theorem JY (c x r : Int) (l T : List Int) : (Qp c x r l T).length = (QL c r l).length := by unfold Qp; simp
end Go.Am

namespace Go.Am
open Go.RowKit

/-! ### The laws ClipAnew, ClipPasswords -/

theorem callE.vo {P : Prg} {B : Nat} {Q : Exit → St → Prop} {f : FuncId} {ds : List AV} {r : AV} {x : Ob} (h : VO P f ds r x) {ob : List Ob} (o : Nat) (ho : ob[o]? = some ph2) {xs : List It} {fr : List (Nat × AV)} {dst : Option Nat} (hK : QdY P B xs Q ⟨Xx fr dst (shr o r), ob.set o x⟩) : Q2 P B true f ds xs Q fr ob dst := by
  have hl : o < ob.length := (List.getElem?_eq_some_iff.1 ho).1
  have ha : app ob (some (o, x)) = ob.set o x := by simp [app, hl]
  refine ⟨shr o r, some (o, x), ?_, by rw [ha]; exact hK⟩
  unfold QbX
  rw [if_pos rfl]
  refine ⟨ACall.of_vo_at h ho ⟨rfl, by rw [ha]⟩, fun o' y e => ?_⟩
  cases e
  exact ⟨ph2, ho, by simp [ph2, ph]⟩

end Go.Am

namespace Go.Am
open Go.RowKit

/-! ### What was framed is read back; what is read was framed so -/

theorem Qq5 {c x r : Int} {l : List Int} (h : ZG c x r l = 0) : QcO c x l = 0 ∧ XT c x r (l.length / c) = 0 := by
  have h' := Qes (c := c) (x := x) (r := r) (l := l)
  rw [h] at h'
  by_cases h9 : QcO c x l = 0 ∧ XT c x r (l.length / c) = 0
  · exact h9
  · rw [if_neg h9] at h'; cases h'
theorem Qph {c x r : Int} {l : List Int} (h : ZG c x r l = 0) (hI : I32 l) (j : Nat) : I32 ((QL c r l).getD j []) := fun v hv => by
  rcases Nat.lt_or_ge j (QL c r l).length with hj | hj
  · refine hI v ?_
    rw [← QeR h]
    refine List.mem_flatten.2 ⟨_, ?_, hv⟩
    rw [List.getD_eq_getElem?_getD, List.getElem?_eq_getElem hj]
    exact List.getElem_mem _
  · rw [List.getD_eq_getElem?_getD, List.getElem?_eq_none hj] at hv
    simp at hv
theorem Ql5 {c x r : Int} {l T : List Int} {j : Nat} (hj : j < (QL c r l).length) : (Qp c x r l T).getD j [] = Qho c.toNat x T ((QL c r l).getD j []) := by
  unfold Qp
  rw [List.getD_eq_getElem?_getD, List.getD_eq_getElem?_getD, List.getElem?_map, List.getElem?_eq_getElem hj]
  rfl
end Go.Am

namespace Go.Am
open Go.RowKit

/-! ### The law ClipBack -/

theorem Ql4 {c x r : Int} {l T : List Int} (h : ZG c x r l = 0) (hI : I32 l) : Qye (Qp c x r l T) := by
  have h1 := JY c x r l T
  have h2 := Qbm h
  refine ⟨by omega, fun j => ?_⟩
  rcases Nat.lt_or_ge j (QL c r l).length with hj | hj
  · rw [Ql5 hj]
    have hmem : (QL c r l).getD j [] ∈ QL c r l := by rw [List.getD_eq_getElem?_getD, List.getElem?_eq_getElem hj]; exact List.getElem_mem _
    have := (Qta (t := T) (Qph h hI j) (Qbl h _ hmem).1).1
    omega
  · rw [List.getD_eq_getElem?_getD, List.getElem?_eq_none (by omega)]; exact Nat.zero_le _
theorem QlP {c x r : Int} {l : List Int} (h : ZG c x r l = 0) (hI : I32 l) : ∀ q ∈ QL c r l, I32 q := fun q hq v hv => hI v (by rw [← QeR h]; exact List.mem_flatten.2 ⟨q, hq, hv⟩)

end Go.Am

namespace Go.Am
open Go.RowKit

/-! ### digest, ref27 -/

def QoP (P : Prg) (f : Nat) : Prop := ∀ p : List UInt8, VC P f [.str p] (if 64 < p.length then .tup [.int .u64 0, .int .i64 2] else .tup [.int .u64 (ZT 0 p), .int .i64 0])
theorem Qti {P : Prg} {f fS : Nat} (bd : Qj P f 16 [.tmp 2, .tmp 3] (QaW fS)) (hS : QgV P fS) : QoP P f := by
  intro p
  refine VC.of_acall rfl (by split <;> rfl) (ACall.of_body bd (by simp) ?_)
  by_cases h : 64 < p.length
  · rw [if_pos h]
    simp (maxSteps := 4000000) (disch := omega) only [rr, aop, cV, cV1, AV.one, Qb, okW, Qd, app, Qa, Qc, Qf, Qe, Qg, simprocAttr, QaW]
  · have hS' := hS p
    rw [if_neg (by omega)] at hS'
    rw [if_neg h]
    rw [bs] at hS'
    simp (maxSteps := 4000000) (disch := omega) only [rr, aop, cV, cV1, AV.one, Qb, okW, Qd, app, Qa, Qc, Qf, Qe, Qg, simprocAttr, QaW]
    refine Qh.vc hS' ?_
    simp (maxSteps := 4000000) (disch := omega) only [rr, aop, cV, cV1, AV.one, Qb, okW, Qd, app, Qa, Qc, Qf, Qe, Qg, simprocAttr]
def QwM (p : List UInt8) : AV := if 64 < p.length then .tup [.list 0 [], .int .i64 2] else .tup [bs (leB (ZT 0 p) 8), .int .i64 0]
theorem Qwj (p : List UInt8) : isD (QwM p) = true := by unfold QwM; split <;> simp [isD, isDL, Zq]
def Qfl (P : Prg) (f : Nat) : Prop := ∀ p : List UInt8, VC P f [.str p] (QwM p)
theorem Qmg {P : Prg} {f fO fB : Nat} (bd : Qj P f 18 [.tmp 2, .tmp 3] (Jy fO fB)) (hO : QoP P fO) (hB : Qbt P fB) : Qfl P f := by
  intro p
  refine VC.of_walk 1 rfl (Qwj p) (ACall.of_body bd (by simp) ?_)
  have hO' := hO p
  by_cases h : 64 < p.length
  · rw [if_pos h] at hO'
    rw [QwM, if_pos h]
    simp (maxSteps := 4000000) (disch := omega) only [rr, aop, cV, cV1, AV.one, Qb, okW, Qd, app, Qa, Qc, Qf, Qe, Qg, simprocAttr, Jy]
    refine Qh.vc hO' ?_
    simp (maxSteps := 4000000) (disch := omega) only [rr, aop, cV, cV1, AV.one, Qb, okW, Qd, app, Qa, Qc, Qf, Qe, Qg, simprocAttr]
    simp [Zu, QS, frzL, QN]
  · rw [if_neg h] at hO'
    have hB' := hB (ZT 0 p) 8 (by omega) (by omega) (Qdr (by decide))
    have tb := QT (leB (ZT 0 p) 8)
    rw [QwM, if_neg h]
    simp only [bs] at hB' ⊢
    simp (maxSteps := 4000000) (disch := omega) only [rr, aop, cV, cV1, AV.one, Qb, okW, Qd, app, Qa, Qc, Qf, Qe, Qg, simprocAttr, Jy]
    refine Qh.vc hO' ?_
    simp (maxSteps := 4000000) (disch := omega) only [rr, aop, cV, cV1, AV.one, Qb, okW, Qd, app, Qa, Qc, Qf, Qe, Qg, simprocAttr]
    refine Qh.vc hB' ?_
    simp (maxSteps := 4000000) (disch := omega) only [rr, aop, cV, cV1, AV.one, Qb, okW, Qd, app, Qa, Qc, Qf, Qe, Qg, simprocAttr]
    simp [Zu, QS, frzL, QN, frzL_T _ tb]
def QtW (P : Prg) (f : Nat) : Prop := ∀ p : List UInt8, p.length ≤ 1000000 → VC P f [.str p] (.int .u64 (ZT 0 p))
theorem Qql {P : Prg} {f fB : Nat} (bd : Qj P f 6 [.tmp 2] (XE fB)) (hB : QcQ P fB) : QtW P f := by
  intro p hp
  refine VC.of_acall rfl rfl (ACall.of_body bd (by simp) ?_)
  have hB' := hB 0 p (by decide) hp
  rw [bs] at hB'
  simp (maxSteps := 4000000) (disch := omega) only [rr, aop, cV, cV1, AV.one, Qb, okW, Qd, app, Qa, Qc, Qf, Qe, Qg, simprocAttr, XE]
  refine Qh.vc hB' ?_
  simp (maxSteps := 4000000) (disch := omega) only [rr, aop, cV, cV1, AV.one, Qb, okW, Qd, app, Qa, Qc, Qf, Qe, Qg, simprocAttr]
def QoH (P : Prg) (f : Nat) : Prop := ∀ p : List UInt8, p.length ≤ 1000000 → VC P f [.str p] (bs (leB (ZT 0 p) 8))
theorem Qjd {P : Prg} {f fT fW : Nat} (bd : Qj P f 6 [.tmp 2] (ZN fT fW)) (hT : QtW P fT) (hW : Qcw P fW) : QoH P f := by
  intro p hp
  refine VC.of_acall rfl (Zq _) (ACall.of_body bd (by simp) ?_)
  have hT' := hT p hp
  have hW' := hW (ZT 0 p) 8 (by omega) (Qdr (by decide))
  simp (maxSteps := 4000000) (disch := omega) only [rr, aop, cV, cV1, AV.one, Qb, okW, Qd, app, Qa, Qc, Qf, Qe, Qg, simprocAttr, ZN]
  refine Qh.vc hT' ?_
  simp (maxSteps := 4000000) (disch := omega) only [rr, aop, cV, cV1, AV.one, Qb, okW, Qd, app, Qa, Qc, Qf, Qe, Qg, simprocAttr]
  refine Qh.vc hW' ?_
  simp (maxSteps := 4000000) (disch := omega) only [rr, aop, cV, cV1, AV.one, Qb, okW, Qd, app, Qa, Qc, Qf, Qe, Qg, simprocAttr]
end Go.Am

namespace Go.Am
open Go.RowKit

/-! ### seeks: tables of lengths -/

def Qo3 : Int → List Int → Prop
  | _, [] => True
  | m, n :: l => 5 ≤ n ∧ n ≤ m ∧ Qo3 (m - n) l
instance decSk : ∀ (m : Int) (l : List Int), Decidable (Qo3 m l)
  | _, [] => isTrue trivial
  | m, n :: l => by
    unfold Qo3
    have := decSk (m - n) l
    exact inferInstance
def skN (l : List Int) : Int := if l.length = 0 ∨ 1000 < l.length then 8 else if Qo3 100000 l then 0 else 8
def skL (m : Int) (l : List Int) : Nat → Int
  | 0 => m
  | k + 1 => skL m l k - l.getD k 0
theorem Qo2 (l : List Int) : ∀ (m : Int) , Qo3 m l ↔ ∀ k, k < l.length → 5 ≤ l.getD k 0 ∧ l.getD k 0 ≤ skL m l k := by
  induction l with
  | nil => intro m; simp [Qo3]
  | cons n l ih =>
    intro m
    have e : ∀ k, skL m (n :: l) (k + 1) = skL (m - n) l k := fun k => by
      induction k with
      | zero => simp [skL]
      | succ k ih2 =>
        show skL m (n :: l) (k + 1) - (n :: l).getD (k + 1) 0 = skL (m - n) l k - l.getD k 0
        rw [ih2]; rfl
    rw [Qo3, ih]
    constructor
    · rintro ⟨h1, h2, h3⟩ k hk
      match k with
      | 0 => exact ⟨h1, h2⟩
      | k + 1 =>
        rw [e]
        exact h3 k (by simpa using hk)
    · intro h
      refine ⟨(h 0 (by simp)).1, (h 0 (by simp)).2, fun k hk => ?_⟩
      have := h (k + 1) (by simpa using hk)
      rw [e] at this
      exact this
def QgY (P : Prg) (f : Nat) : Prop := ∀ l : List Int, l.length ≤ 1000000 → (∀ v ∈ l, -9223372036854775808 ≤ v ∧ v ≤ 9223372036854775807) → VC P f [Qhn l] (.int .i64 (skN l))
theorem Qnn {P : Prg} {f : Nat} (bd : Qj P f 31 [.tmp 2] XY) : QgY P f := by
  intro l hl hv
  refine VC.of_acall (by simp [isDL, QcH]) rfl (ACall.of_body bd (by simp) ?_)
  by_cases h1 : l.length = 0 ∨ 1000 < l.length
  · have e8 : skN l = 8 := by rw [skN, if_pos h1]
    rw [e8]
    rcases h1 with h1 | h1
    · simp (maxSteps := 4000000) (disch := omega) only [rr, aop, cV, cV1, AV.one, Qb, okW, Qd, app, Qa, Qc, Qf, Qe, Qg, simprocAttr, XY, Qhn]
    · by_cases h0 : l.length = 0
      · omega
      · simp (maxSteps := 4000000) (disch := omega) only [rr, aop, cV, cV1, AV.one, Qb, okW, Qd, app, Qa, Qc, Qf, Qe, Qg, simprocAttr, XY, Qhn]
  have e8 : skN l = if Qo3 100000 l then 0 else 8 := by rw [skN, if_neg h1]
  rw [e8]
  clear e8
  have hiff := Qo2 l 100000
  have kl : (ks .i64 l).length = l.length := Qk _ _
  have h0 : ¬ l.length = 0 := by omega
  simp (maxSteps := 4000000) (disch := omega) only [rr, aop, cV, cV1, AV.one, Qb, okW, Qd, app, Qa, Qc, Qf, Qe, Qg, simprocAttr, XY, Qhn]
  refine QJ.by (ι := Nat) (fun k => ⟨[(16, .int .i64 k), (15, .int .i64 l.length), (14, .list l.length (ks .i64 l)), (3, .int .i64 (skL 100000 l k))], []⟩) (fun k => k ≤ l.length ∧ (∀ j, j < k → 5 ≤ l.getD j 0 ∧ l.getD j 0 ≤ skL 100000 l j) ∧ 0 ≤ skL 100000 l k ∧ skL 100000 l k ≤ 100000) (fun k => l.length - k) 0 (Le.slots (by simp [Am.look, skL])) ⟨by omega, by omega, by simp [skL], by simp [skL]⟩ ?_
  rintro k ⟨hk, ha, hb, hc⟩
  by_cases hlt : k < l.length
  · have e1 : (ks .i64 l).drop k = .int .i64 (l.getD k 0) :: (ks .i64 l).drop (k + 1) := by
      have h := Qbn (K := .i64) (l := l) (i := k) hlt
      rw [← J6] at h
      exact h
    have hr := hv (l.getD k 0) (by rw [List.getD_eq_getElem?_getD, List.getElem?_eq_getElem hlt]; exact List.getElem_mem _)
    have hs : skL 100000 l (k + 1) = skL 100000 l k - l.getD k 0 := rfl
    by_cases g1 : l.getD k 0 < 5
    · have hn : ¬ Qo3 100000 l := fun h => by have := (hiff.1 h k hlt).1; omega
      rw [if_neg hn]
      generalize l.getD k 0 = v at *
      simp (maxSteps := 4000000) (disch := omega) only [rr, aop, cV, cV1, AV.one, Qb, okW, Qd, app, Qa, Qc, Qf, Qe, Qg, simprocAttr, e1, kl]
    · by_cases g2 : skL 100000 l k < l.getD k 0
      · have hn : ¬ Qo3 100000 l := fun h => by have := (hiff.1 h k hlt).2; omega
        rw [if_neg hn]
        generalize l.getD k 0 = v at *
        simp (maxSteps := 4000000) (disch := omega) only [rr, aop, cV, cV1, AV.one, Qb, okW, Qd, app, Qa, Qc, Qf, Qe, Qg, simprocAttr, e1, kl]
      · have ha' : ∀ j, j < k + 1 → 5 ≤ l.getD j 0 ∧ l.getD j 0 ≤ skL 100000 l j := fun j hj => by
          by_cases e : j = k
          · subst e; omega
          · exact ha j (by omega)
        generalize l.getD k 0 = v at *
        generalize skL 100000 l k = m at *
        simp (maxSteps := 4000000) (disch := omega) only [rr, aop, cV, cV1, AV.one, Qb, okW, Qd, app, Qa, Qc, Qf, Qe, Qg, simprocAttr, e1, kl]
        refine ⟨k + 1, ⟨by omega, ha', by omega, by omega⟩, by omega, ?_⟩
        simp only [hs]
        exact Le.slots (by simp [Am.look])
  · have ek : k = l.length := by omega
    subst ek
    rw [if_pos (hiff.2 ha)]
    simp (maxSteps := 4000000) (disch := omega) only [rr, aop, cV, cV1, AV.one, Qb, okW, Qd, app, Qa, Qc, Qf, Qe, Qg, simprocAttr]
end Go.Am

namespace Go.Am
open Go.RowKit

/-! ### seeks.Write, ref26.Bytes -/

def XQ (l : List Int) : List UInt8 := (l.map fun n => leB n.toNat 4).flatten
theorem Qlr (l : List Int) (k : Nat) (h : k < l.length) : XQ (l.take (k + 1)) = XQ (l.take k) ++ leB (l.getD k 0).toNat 4 := by
  unfold XQ
  rw [List.take_succ_eq_append_getElem h, List.map_append, List.flatten_append]
  simp [List.getD_eq_getElem?_getD, List.getElem?_eq_getElem h]
theorem QfP (l : List Int) : (XQ l).length = 4 * l.length := by
  unfold XQ
  induction l with
  | nil => rfl
  | cons a l ih => simp only [List.map_cons, List.flatten_cons, List.length_append, Qi, ih, List.length_cons]; omega
def skA (l : List Int) : AV := if skN l = 0 then .tup [bs (ZJ (XQ l)), .int .i64 0] else .tup [.list 0 [], .int .i64 (skN l)]
theorem Qwg (l : List Int) : isD (skA l) = true := by unfold skA; split <;> simp [isD, isDL, Zq]
theorem Qlt (l : List Int) : skN l = 8 ∨ skN l = 0 ∧ 1 ≤ l.length ∧ l.length ≤ 1000 ∧ ∀ k, k < l.length → 5 ≤ l.getD k 0 ∧ l.getD k 0 ≤ 100000 := by
  by_cases h : l.length = 0 ∨ 1000 < l.length
  · exact .inl (by rw [skN, if_pos h])
  · by_cases h2 : Qo3 100000 l
    · refine .inr ⟨by rw [skN, if_neg h, if_pos h2], by omega, by omega, fun k hk => ?_⟩
      have h3 := (Qo2 l 100000).1 h2
      have hm : ∀ k, k ≤ l.length → skL 100000 l k ≤ 100000 := fun k => by
        induction k with
        | zero => simp [skL]
        | succ k ih =>
          intro hk
          have := ih (by omega)
          have := (h3 k (by omega)).1
          simp only [skL]
          omega
      have := h3 k hk
      have := hm k (by omega)
      omega
    · exact .inl (by rw [skN, if_neg h, if_neg h2])
def QgX (P : Prg) (f : Nat) : Prop := ∀ l : List Int, l.length ≤ 1000000 → (∀ v ∈ l, -9223372036854775808 ≤ v ∧ v ≤ 9223372036854775807) → VC P f [Qhn l] (skA l)
theorem Qnm {P : Prg} {f fC fP fS fB t0 tb : Nat} (bd : Qj P f 38 [.tmp 2, .tmp 3] (JR fC fP fS t0)) (hC : QgY P fC) (bP : Qj P fP 13 [] (X4 fB tb)) (hB : Qbt P fB) (hS : QmK P fS) : QgX P f := by
  intro l hl hv
  refine VC.of_walk 1 (by simp [isDL, QcH]) (Qwg l) (ACall.of_cut 3 bd (by simp) ?_)
  have hC' := hC l hl hv
  rw [Qhn] at hC' ⊢
  rcases Qlt l with h | ⟨h, n1, n2, hr⟩
  · rw [h] at hC'
    rw [skA, if_neg (by omega), h]
    simp (maxSteps := 4000000) (disch := omega) only [rr, aop, cV, cV1, AV.one, Qb, okW, Qd, app, Qa, Qc, Qf, Qe, Qg, simprocAttr, JR, Qcf]
    refine Qh.vc hC' ?_
    simp (maxSteps := 4000000) (disch := omega) only [rr, aop, cV, cV1, AV.one, Qb, okW, Qd, app, Qa, Qc, Qf, Qe, Qg, simprocAttr, Qcf]
    simp [Zu, QS, frzL, QN]
  rw [h] at hC'
  rw [skA, if_pos h]
  have kl : (ks .i64 l).length = l.length := Qk _ _
  have tl := Qt .i64 l
  have tB := fun m => QT (XQ (l.take m))
  have hpl : ∀ m, (XQ (l.take m)).length ≤ 4000 := fun m => by rw [QfP, List.length_take]; omega
  simp (maxSteps := 4000000) (disch := omega) only [rr, aop, cV, cV1, AV.one, Qb, okW, Qd, app, Qa, Qc, Qf, Qe, Qg, simprocAttr, JR, Qcf]
  refine Qh.vc hC' ?_
  simp (maxSteps := 4000000) (disch := omega) only [rr, aop, cV, cV1, AV.one, Qb, okW, Qd, app, Qa, Qc, Qf, Qe, Qg, simprocAttr, Qcf]
  refine ⟨_, Le.virtF 0 tb 1 (by decide) rfl rfl, ?_⟩
  simp (maxSteps := 4000000) (disch := omega) only [rr, aop, cV, cV1, AV.one, Qb, okW, Qd, app, Qa, Qc, Qf, Qe, Qg, simprocAttr, Qcf]
  refine QJ.by (ι := Nat) (fun k => ⟨[(19, .int .i64 k), (18, .int .i64 l.length), (17, .list l.length (ks .i64 l)), (6, .fn (.func fP) [] [.ref 0 1 0]), (5, .ref 0 1 0)], [⟨t0, 1, 1, [.own 1 (XQ (l.take k)).length], 0⟩, ⟨tb, 1, (XQ (l.take k)).length, u8 (XQ (l.take k)), 0⟩]⟩) (fun k => k ≤ l.length) (fun k => l.length - k) 0 (Le.slots (by simp [Am.look, XQ, u8])) (by omega) ?_
  intro k hk
  have hpk := hpl k
  by_cases hlt : k < l.length
  · have e1 : (ks .i64 l).drop k = .int .i64 (l.getD k 0) :: (ks .i64 l).drop (k + 1) := by
      have h := Qbn (K := .i64) (l := l) (i := k) hlt
      rw [← J6] at h
      exact h
    have hs := Qlr l k hlt
    have hrk := hr k hlt
    generalize hz : l.getD k 0 = z at *
    obtain ⟨z, rfl⟩ : ∃ m : Nat, z = m := ⟨z.toNat, by omega⟩
    rw [Int.toNat_natCast] at hs
    have hB' := hB z 4 (by omega) (by omega) (by simp; omega)
    rw [bs, Qi] at hB'
    have hul : (u8 (leB z 4)).length = 4 := by rw [QA, Qi]
    have hcat : u8 (XQ (l.take k)) ++ u8 (leB z 4) = u8 (XQ (l.take (k + 1))) := by rw [hs]; simp [u8]
    have hlen : (XQ (l.take k)).length + 4 = (XQ (l.take (k + 1))).length := by rw [hs, List.length_append, Qi]
    generalize hB1 : XQ (l.take (k + 1)) = B1 at *
    generalize XQ (l.take k) = B0 at *
    simp (maxSteps := 4000000) (disch := omega) only [rr, aop, cV, cV1, AV.one, Qb, okW, Qd, app, Qa, Qc, Qf, Qe, Qg, simprocAttr, Qcf, kl, e1]
    refine ACall.of_body bP (by simp) ?_
    simp (maxSteps := 4000000) (disch := omega) only [rr, aop, cV, cV1, AV.one, Qb, okW, Qd, app, Qa, Qc, Qf, Qe, Qg, simprocAttr, X4]
    refine Qh.vc hB' ?_
    simp (maxSteps := 4000000) (disch := omega) only [rr, aop, cV, cV1, AV.one, Qb, okW, Qd, app, Qa, Qc, Qf, Qe, Qg, simprocAttr, hul, hcat, hlen]
    refine ⟨k + 1, by omega, by omega, ?_⟩
    simp only [hB1]
    exact Le.slots (by simp [Am.look])
  · have ek : k = l.length := by omega
    subst ek
    rw [List.take_length] at hpk ⊢
    have tB := QT (XQ l)
    have hS' := hS (XQ l)
    rw [if_neg (by omega)] at hS'
    have hsm : Qbj (XQ l) < 4294967296 := by unfold Qbj; omega
    rw [← Qbj, bs] at hS'
    have hB' := hB (Qbj (XQ l)) 4 (by omega) (by omega) (by simpa using hsm)
    rw [bs, Qi] at hB'
    have hul : (u8 (leB (Qbj (XQ l)) 4)).length = 4 := by rw [QA, Qi]
    have hcat : u8 (XQ l) ++ u8 (leB (Qbj (XQ l)) 4) = u8 (ZJ (XQ l)) := by simp [u8, ZJ]
    have hlen : (XQ l).length + 4 = (ZJ (XQ l)).length := by rw [ZJ, List.length_append, Qi]
    have tS := QT (ZJ (XQ l))
    rw [bs]
    generalize ZJ (XQ l) = B1 at *
    generalize Qbj (XQ l) = sm at *
    generalize XQ l = B0 at *
    simp (maxSteps := 4000000) (disch := omega) only [rr, aop, cV, cV1, AV.one, Qb, okW, Qd, app, Qa, Qc, Qf, Qe, Qg, simprocAttr, Qcf, kl]
    refine Qh.still 1 [1] hS' (by simp [Zu, QS, frzL, QN, frzL_T _ tB]) ?_
    simp (maxSteps := 4000000) (disch := omega) only [rr, aop, cV, cV1, AV.one, Qb, okW, Qd, app, Qa, Qc, Qf, Qe, Qg, simprocAttr, Qcf, Qv]
    refine ACall.of_body bP (by simp) ?_
    simp (maxSteps := 4000000) (disch := omega) only [rr, aop, cV, cV1, AV.one, Qb, okW, Qd, app, Qa, Qc, Qf, Qe, Qg, simprocAttr, X4]
    refine Qh.vc hB' ?_
    simp (maxSteps := 4000000) (disch := omega) only [rr, aop, cV, cV1, AV.one, Qb, okW, Qd, app, Qa, Qc, Qf, Qe, Qg, simprocAttr, hul, hcat, hlen, Qcf]
    simp [Zu, QS, frzL, QN, frzL_T _ tS]
end Go.Am

namespace Go.Am
open Go.RowKit

/-! ### header: shaped, fits, Check, Make -/

def hdA (f c b r n : Int) : AV := .agg [.int .i64 f, .int .i64 c, .int .i64 b, .int .i64 r, .int .i64 n]
def shP (f c b r n : Int) : Prop := (b = 8 ∨ b = 16 ∨ b = 24) ∧ (f = 1 ∨ f = 2) ∧ 1 ≤ c ∧ c ≤ 6 ∧ 1 ≤ r ∧ r ≤ 1048576 ∧ 1 ≤ n
instance decShP (f c b r n : Int) : Decidable (shP f c b r n) := by unfold shP; exact inferInstance
def Qkl (P : Prg) (g : Nat) : Prop := ∀ f c b r n : Int, VC P g [hdA f c b r n] (.bool (decide (shP f c b r n)))
theorem Qjr {P : Prg} {g t0 : Nat} (bd : Qj P g 44 [.tmp 2] (QF t0)) : Qkl P g := by
  intro f c b r n
  refine VC.of_acall rfl rfl (ACall.of_body bd (by simp) ?_)
  by_cases hb : b = 8 ∨ b = 16 ∨ b = 24
  case neg =>
    have hn : decide (shP f c b r n) = false := decide_eq_false fun h => hb h.1
    rw [hn]
    simp (maxSteps := 4000000) (disch := omega) only [rr, aop, cV, cV1, AV.one, Qb, okW, Qd, app, Qa, Qc, Qf, Qe, Qg, simprocAttr, QF, hdA]
  by_cases hf : f = 1 ∨ f = 2
  case neg =>
    have hn : decide (shP f c b r n) = false := decide_eq_false fun h => hf h.2.1
    rw [hn]
    rcases hb with rfl | rfl | rfl <;> simp (maxSteps := 4000000) (disch := omega) only [rr, aop, cV, cV1, AV.one, Qb, okW, Qd, app, Qa, Qc, Qf, Qe, Qg, simprocAttr, QF, hdA]
  by_cases hc1 : 1 ≤ c
  case neg =>
    have hn : decide (shP f c b r n) = false := decide_eq_false fun h => hc1 h.2.2.1
    rw [hn]
    rcases hb with rfl | rfl | rfl <;> rcases hf with rfl | rfl <;> simp (maxSteps := 4000000) (disch := omega) only [rr, aop, cV, cV1, AV.one, Qb, okW, Qd, app, Qa, Qc, Qf, Qe, Qg, simprocAttr, QF, hdA]
  by_cases hc2 : c ≤ 6
  case neg =>
    have hn : decide (shP f c b r n) = false := decide_eq_false fun h => hc2 h.2.2.2.1
    rw [hn]
    rcases hb with rfl | rfl | rfl <;> rcases hf with rfl | rfl <;> simp (maxSteps := 4000000) (disch := omega) only [rr, aop, cV, cV1, AV.one, Qb, okW, Qd, app, Qa, Qc, Qf, Qe, Qg, simprocAttr, QF, hdA]
  by_cases hr1 : 1 ≤ r
  case neg =>
    have hn : decide (shP f c b r n) = false := decide_eq_false fun h => hr1 h.2.2.2.2.1
    rw [hn]
    rcases hb with rfl | rfl | rfl <;> rcases hf with rfl | rfl <;> simp (maxSteps := 4000000) (disch := omega) only [rr, aop, cV, cV1, AV.one, Qb, okW, Qd, app, Qa, Qc, Qf, Qe, Qg, simprocAttr, QF, hdA]
  by_cases hr2 : r ≤ 1048576
  case neg =>
    have hn : decide (shP f c b r n) = false := decide_eq_false fun h => hr2 h.2.2.2.2.2.1
    rw [hn]
    rcases hb with rfl | rfl | rfl <;> rcases hf with rfl | rfl <;> simp (maxSteps := 4000000) (disch := omega) only [rr, aop, cV, cV1, AV.one, Qb, okW, Qd, app, Qa, Qc, Qf, Qe, Qg, simprocAttr, QF, hdA]
  by_cases hn1 : 1 ≤ n
  case neg =>
    have hn : decide (shP f c b r n) = false := decide_eq_false fun h => hn1 h.2.2.2.2.2.2
    rw [hn]
    rcases hb with rfl | rfl | rfl <;> rcases hf with rfl | rfl <;> simp (maxSteps := 4000000) (disch := omega) only [rr, aop, cV, cV1, AV.one, Qb, okW, Qd, app, Qa, Qc, Qf, Qe, Qg, simprocAttr, QF, hdA]
  have hn : decide (shP f c b r n) = true := decide_eq_true ⟨hb, hf, hc1, hc2, hr1, hr2, hn1⟩
  rw [hn]
  rcases hb with rfl | rfl | rfl <;> rcases hf with rfl | rfl <;> simp (maxSteps := 4000000) (disch := omega) only [rr, aop, cV, cV1, AV.one, Qb, okW, Qd, app, Qa, Qc, Qf, Qe, Qg, simprocAttr, QF, hdA]
end Go.Am

namespace Go.Am
open Go.RowKit

/-! ### header: fits, Check, Make -/

def Qvw (c r n : Int) : Prop := n ≤ 4000 / c ∧ QjJ r n = 0
instance decFitP (c r n : Int) : Decidable (Qvw c r n) := by unfold Qvw; exact inferInstance
theorem Qtp {r n : Int} (h : QjJ r n = 0) : ∃ k : Int, QgE r n = .tup [.int .i64 k, .int .i64 0] ∧ 0 ≤ k ∧ k ≤ 1000 := by
  unfold QjJ at h
  unfold QgE
  split at h
  · cases h
  rename_i a1
  split at h
  · cases h
  rename_i a2
  split at h
  · cases h
  rename_i a3
  rw [if_neg a1, if_neg a2, if_neg a3]
  have := Xd r
  exact ⟨_, rfl, Int.ediv_nonneg (by omega) (by omega), by omega⟩
def Qt3 (P : Prg) (g : Nat) : Prop := ∀ f c b r n : Int, 1 ≤ c → c ≤ 6 → VC P g [hdA f c b r n] (.bool (decide (Qvw c r n)))
theorem QnW {P : Prg} {g fC t0 : Nat} (bd : Qj P g 25 [.tmp 2] (XZ fC t0)) (hC : J2 P fC) : Qt3 P g := by
  intro f c b r n c1 c2
  refine VC.of_acall rfl rfl (ACall.of_body bd (by simp) ?_)
  have hC' := hC r n
  have q0 : ¬ c = 0 := by omega
  have q1 : (4000 : Int).tdiv c = 4000 / c := Int.tdiv_eq_ediv_of_nonneg (by omega)
  have q2 : 0 ≤ 4000 / c := Int.ediv_nonneg (by omega) (by omega)
  have q3 : 4000 / c ≤ 4000 := Int.ediv_le_self _ (by omega)
  by_cases h1 : n ≤ 4000 / c
  case neg =>
    have hn : decide (Qvw c r n) = false := decide_eq_false fun h => h1 h.1
    rw [hn]
    generalize hQ : 4000 / c = Q at *
    have hw : IntKind.i64.wrap Q = Q := QaP (by omega) (by omega)
    simp (maxSteps := 4000000) (disch := omega) only [rr, aop, cV, cV1, AV.one, Qb, okW, Qd, app, Qa, Qc, Qf, Qe, Qg, simprocAttr, XZ, hdA, q1, hQ, hw]
  by_cases h2 : QjJ r n = 0
  · have hn : decide (Qvw c r n) = true := decide_eq_true ⟨h1, h2⟩
    rw [hn]
    obtain ⟨k, e, k1, k2⟩ := Qtp h2
    rw [e] at hC'
    generalize hQ : 4000 / c = Q at *
    have hw : IntKind.i64.wrap Q = Q := QaP (by omega) (by omega)
    simp (maxSteps := 4000000) (disch := omega) only [rr, aop, cV, cV1, AV.one, Qb, okW, Qd, app, Qa, Qc, Qf, Qe, Qg, simprocAttr, XZ, hdA, q1, hQ, hw]
    refine Qh.vc hC' ?_
    simp (maxSteps := 4000000) (disch := omega) only [rr, aop, cV, cV1, AV.one, Qb, okW, Qd, app, Qa, Qc, Qf, Qe, Qg, simprocAttr]
  · have hn : decide (Qvw c r n) = false := decide_eq_false fun h => h2 h.2
    rw [hn]
    obtain ⟨k, e⟩ := QjI r n
    rw [e] at hC'
    generalize hQ : 4000 / c = Q at *
    have hw : IntKind.i64.wrap Q = Q := QaP (by omega) (by omega)
    generalize QjJ r n = E at *
    simp (maxSteps := 4000000) (disch := omega) only [rr, aop, cV, cV1, AV.one, Qb, okW, Qd, app, Qa, Qc, Qf, Qe, Qg, simprocAttr, XZ, hdA, q1, hQ, hw]
    refine Qh.vc hC' ?_
    simp (maxSteps := 4000000) (disch := omega) only [rr, aop, cV, cV1, AV.one, Qb, okW, Qd, app, Qa, Qc, Qf, Qe, Qg, simprocAttr]
def hdN (f c b r n : Int) : Int := if shP f c b r n ∧ Qvw c r n then 0 else 8
def Qhc (P : Prg) (g : Nat) : Prop := ∀ f c b r n : Int, VC P g [hdA f c b r n] (.int .i64 (hdN f c b r n))
theorem Ql2 {P : Prg} {g fS fF t0 : Nat} (bd : Qj P g 11 [.tmp 2] (Xh fS fF t0)) (hS : Qkl P fS) (hF : Qt3 P fF) : Qhc P g := by
  intro f c b r n
  refine VC.of_acall rfl rfl (ACall.of_body bd (by simp) ?_)
  have hS' := hS f c b r n
  by_cases h1 : shP f c b r n
  case neg =>
    have e : hdN f c b r n = 8 := by rw [hdN, if_neg fun h => h1 h.1]
    rw [decide_eq_false h1] at hS'
    rw [e]
    rw [hdA] at hS' ⊢
    simp (maxSteps := 4000000) (disch := omega) only [rr, aop, cV, cV1, AV.one, Qb, okW, Qd, app, Qa, Qc, Qf, Qe, Qg, simprocAttr, Xh]
    refine Qh.vc hS' ?_
    simp (maxSteps := 4000000) (disch := omega) only [rr, aop, cV, cV1, AV.one, Qb, okW, Qd, app, Qa, Qc, Qf, Qe, Qg, simprocAttr]
  have hF' := hF f c b r n h1.2.2.1 h1.2.2.2.1
  rw [decide_eq_true h1] at hS'
  by_cases h2 : Qvw c r n
  · have e : hdN f c b r n = 0 := by rw [hdN, if_pos ⟨h1, h2⟩]
    rw [decide_eq_true h2] at hF'
    rw [e]
    rw [hdA] at hS' hF' ⊢
    simp (maxSteps := 4000000) (disch := omega) only [rr, aop, cV, cV1, AV.one, Qb, okW, Qd, app, Qa, Qc, Qf, Qe, Qg, simprocAttr, Xh]
    refine Qh.vc hS' ?_
    simp (maxSteps := 4000000) (disch := omega) only [rr, aop, cV, cV1, AV.one, Qb, okW, Qd, app, Qa, Qc, Qf, Qe, Qg, simprocAttr]
    refine Qh.vc hF' ?_
    simp (maxSteps := 4000000) (disch := omega) only [rr, aop, cV, cV1, AV.one, Qb, okW, Qd, app, Qa, Qc, Qf, Qe, Qg, simprocAttr]
  · have e : hdN f c b r n = 8 := by rw [hdN, if_neg fun h => h2 h.2]
    rw [decide_eq_false h2] at hF'
    rw [e]
    rw [hdA] at hS' hF' ⊢
    simp (maxSteps := 4000000) (disch := omega) only [rr, aop, cV, cV1, AV.one, Qb, okW, Qd, app, Qa, Qc, Qf, Qe, Qg, simprocAttr, Xh]
    refine Qh.vc hS' ?_
    simp (maxSteps := 4000000) (disch := omega) only [rr, aop, cV, cV1, AV.one, Qb, okW, Qd, app, Qa, Qc, Qf, Qe, Qg, simprocAttr]
    refine Qh.vc hF' ?_
    simp (maxSteps := 4000000) (disch := omega) only [rr, aop, cV, cV1, AV.one, Qb, okW, Qd, app, Qa, Qc, Qf, Qe, Qg, simprocAttr]
def mkA (c x r : Int) (l : List Int) (p : List UInt8) : AV := if ZG c x r l ≠ 0 then .tup [hdA 0 0 0 0 0, .int .i64 8] else if 64 < p.length then .tup [hdA 0 0 0 0 0, .int .i64 2] else .tup [hdA (if p = [] then 1 else 2) c x r (l.length / c), .int .i64 0]
theorem Qwh (c x r : Int) (l : List Int) (p : List UInt8) : isD (mkA c x r l p) = true := by
  unfold mkA
  repeat' split
  all_goals rfl
def Qkw (P : Prg) (g : Nat) : Prop := ∀ (c x r : Int) (l : List Int) (p : List UInt8), I32 l → l.length ≤ 1000000 → VC P g [clA c x r l, .str p] (mkA c x r l p)
theorem QnX {P : Prg} {g fC t0 t1 : Nat} (bd : Qj P g 35 [.cell 4 t1, .tmp 5] (ZY fC t0 t1)) (hC : Je P fC) (ht : Q4 P t1 = some (some 5)) : Qkw P g := by
  intro c x r l p hI hl
  refine VC.of_acall (by simp [isDL, isD, QO, clA]) (Qwh _ _ _ _ _) (ACall.of_body bd (by simp) ?_)
  have hC' := hC c x r l hI hl
  rw [il] at hC'
  rcases QaD c x r l with h | h
  case inr =>
    rw [h] at hC'
    rw [mkA, if_pos (by omega)]
    simp (maxSteps := 4000000) (disch := omega) only [rr, aop, cV, cV1, AV.one, Qb, okW, Qd, app, Qa, Qc, Qf, Qe, Qg, simprocAttr, ZY, clA, il]
    refine Qh.vc hC' ?_
    simp (maxSteps := 4000000) (disch := omega) only [rr, aop, cV, cV1, AV.one, Qb, okW, Qd, app, Qa, Qc, Qf, Qe, Qg, simprocAttr, ZK, ht, Zk, hdA]
  rw [h] at hC'
  rw [mkA, if_neg (by omega)]
  by_cases hp : 64 < p.length
  · rw [if_pos hp]
    simp (maxSteps := 4000000) (disch := omega) only [rr, aop, cV, cV1, AV.one, Qb, okW, Qd, app, Qa, Qc, Qf, Qe, Qg, simprocAttr, ZY, clA, il]
    refine Qh.vc hC' ?_
    simp (maxSteps := 4000000) (disch := omega) only [rr, aop, cV, cV1, AV.one, Qb, okW, Qd, app, Qa, Qc, Qf, Qe, Qg, simprocAttr, ZK, ht, Zk, hdA]
  rw [if_neg hp]
  obtain ⟨k, n, rfl, k1, k2, hlen, hok, h4⟩ := JP h
  have hk0 : (l.length : Int) / (k : Int) = n := by rw [hlen, Int.natCast_mul, Int.mul_ediv_cancel _ (by omega)]
  have hk3 : ((l.length : Int)).tdiv (k : Int) = n := by rw [Int.tdiv_eq_ediv_of_nonneg (by omega), hk0]
  have hq0 : (k : Int) ≠ 0 := by omega
  have hn4 : n ≤ 4000 := by have := hok.2.2.2.1; omega
  rw [hk0]
  by_cases hn : p = []
  · subst hn
    simp (maxSteps := 4000000) (disch := omega) only [rr, aop, cV, cV1, AV.one, Qb, okW, Qd, app, Qa, Qc, Qf, Qe, Qg, simprocAttr, ZY, clA, il]
    refine Qh.vc hC' ?_
    simp (maxSteps := 4000000) (disch := omega) only [rr, aop, cV, cV1, AV.one, Qb, okW, Qd, app, Qa, Qc, Qf, Qe, Qg, simprocAttr, ZK, ht, Zk, hdA, QmM, hk0, hk3]
  · have hs : QmM .neq p [] = some (.bool true) := by simp [QmM, hn]
    have h2 : (if p = [] then (1 : Int) else 2) = 2 := if_neg hn
    rw [h2]
    simp (maxSteps := 4000000) (disch := omega) only [rr, aop, cV, cV1, AV.one, Qb, okW, Qd, app, Qa, Qc, Qf, Qe, Qg, simprocAttr, ZY, clA, il]
    refine Qh.vc hC' ?_
    simp (maxSteps := 4000000) (disch := omega) only [rr, aop, cV, cV1, AV.one, Qb, okW, Qd, app, Qa, Qc, Qf, Qe, Qg, simprocAttr, ZK, ht, Zk, hdA, hs, hk0, hk3]
end Go.Am

namespace Go.Am
open Go.RowKit

/-! ### header.Write, ref25.Bytes -/

def QxJ : List AV := [.int .i64 2, .int .i64 2, .int .i64 2, .int .i64 4, .int .i64 4]
def hdP (f c b r n : Nat) : Nat → List UInt8
  | 0 => [84, 84, 65, 49]
  | 1 => [84, 84, 65, 49] ++ leB f 2
  | 2 => [84, 84, 65, 49] ++ leB f 2 ++ leB c 2
  | 3 => [84, 84, 65, 49] ++ leB f 2 ++ leB c 2 ++ leB b 2
  | 4 => [84, 84, 65, 49] ++ leB f 2 ++ leB c 2 ++ leB b 2 ++ leB r 4
  | _ => [84, 84, 65, 49] ++ leB f 2 ++ leB c 2 ++ leB b 2 ++ leB r 4 ++ leB n 4
def hdB (f c b r n : Nat) : List UInt8 := ZJ (hdP f c b r n 5)
theorem QsW {f c b r n : Int} (h : hdN f c b r n = 0) : ∃ f' c' b' r' n' : Nat, f = f' ∧ c = c' ∧ b = b' ∧ r = r' ∧ n = n' ∧ f' ≤ 2 ∧ c' ≤ 6 ∧ b' ≤ 24 ∧ r' ≤ 1048576 ∧ n' ≤ 4000 := by
  unfold hdN at h
  split at h
  case isFalse => cases h
  rename_i h1
  obtain ⟨⟨a1, a2, a3, a4, a5, a6, a7⟩, b1, b2⟩ := h1
  have q3 : 4000 / c ≤ 4000 := Int.ediv_le_self _ (by omega)
  exact ⟨f.toNat, c.toNat, b.toNat, r.toNat, n.toNat, by omega, by omega, by omega, by omega, by omega, by omega, by omega, by omega, by omega, by omega⟩
def hwA (f c b r n : Int) : AV := if hdN f c b r n = 0 then .tup [bs (hdB f.toNat c.toNat b.toNat r.toNat n.toNat), .int .i64 0] else .tup [.list 0 [], .int .i64 8]
theorem Qwi (f c b r n : Int) : isD (hwA f c b r n) = true := by unfold hwA; split <;> simp [isD, isDL, Zq]
theorem QsX (f c b r n : Int) : hdN f c b r n = 0 ∨ hdN f c b r n = 8 := by unfold hdN; split <;> simp
def Qhb (P : Prg) (g : Nat) : Prop := ∀ f c b r n : Int, VC P g [hdA f c b r n] (hwA f c b r n)
set_option maxHeartbeats 2000000 in
theorem Ql1 {P : Prg} {g fC fB fS t0 t1 g0 : Nat} (bd : Qj P g 63 [.tmp 2, .tmp 3] (Jv fC fB fS t0 t1 g0)) (hC : Qhc P fC) (hB : Qbt P fB) (hS : QmK P fS) (h0 : P.G.lookup g0 = some QxJ) : Qhb P g := by
  intro f c b r n
  refine VC.of_walk 1 rfl (Qwi _ _ _ _ _) (ACall.of_body bd (by simp) ?_)
  have hC' := hC f c b r n
  have g0' : QwL P.G g0 = .cell QxJ := by simp [QwL, h0]
  rcases QsX f c b r n with h | h
  case inr =>
    rw [h] at hC'
    rw [hwA, if_neg (by omega)]
    rw [hdA] at hC' ⊢
    simp (maxSteps := 4000000) (disch := omega) only [rr, aop, cV, cV1, AV.one, Qb, okW, Qd, app, Qa, Qc, Qf, Qe, Qg, simprocAttr, Jv]
    refine Qh.vc hC' ?_
    simp (maxSteps := 4000000) (disch := omega) only [rr, aop, cV, cV1, AV.one, Qb, okW, Qd, app, Qa, Qc, Qf, Qe, Qg, simprocAttr]
    simp [Zu, QS, frzL, QN]
  rw [h] at hC'
  rw [hwA, if_pos h]
  obtain ⟨f, c, b, r, n, rfl, rfl, rfl, rfl, rfl, a1, a2, a3, a4, a5⟩ := QsW h
  simp only [Int.toNat_natCast]
  rw [hdA] at hC' ⊢
  have B1 := hB f 2 (by omega) (by omega) (by simp; omega)
  have B2 := hB c 2 (by omega) (by omega) (by simp; omega)
  have B3 := hB b 2 (by omega) (by omega) (by simp; omega)
  have B4 := hB r 4 (by omega) (by omega) (by simp; omega)
  have B5 := hB n 4 (by omega) (by omega) (by simp; omega)
  rw [bs, Qi] at B1 B2 B3 B4 B5
  have u2 : ∀ m, (u8 (leB m 2)).length = 2 := fun m => by rw [QA, Qi]
  have u4 : ∀ m, (u8 (leB m 4)).length = 4 := fun m => by rw [QA, Qi]
  have c0 : u8 (hdP f c b r n 0) ++ u8 (leB f 2) = u8 (hdP f c b r n 1) := by simp [hdP, u8]
  have c1 : u8 (hdP f c b r n 1) ++ u8 (leB c 2) = u8 (hdP f c b r n 2) := by simp [hdP, u8]
  have c2 : u8 (hdP f c b r n 2) ++ u8 (leB b 2) = u8 (hdP f c b r n 3) := by simp [hdP, u8]
  have c3 : u8 (hdP f c b r n 3) ++ u8 (leB r 4) = u8 (hdP f c b r n 4) := by simp [hdP, u8]
  have c4 : u8 (hdP f c b r n 4) ++ u8 (leB n 4) = u8 (hdP f c b r n 5) := by simp [hdP, u8]
  have l0 : (hdP f c b r n 0).length = 4 := rfl
  have l1 : (hdP f c b r n 1).length = 6 := by simp [hdP, Qi]
  have l2 : (hdP f c b r n 2).length = 8 := by simp [hdP, Qi]
  have l3 : (hdP f c b r n 3).length = 10 := by simp [hdP, Qi]
  have l4 : (hdP f c b r n 4).length = 14 := by simp [hdP, Qi]
  have l5 : (hdP f c b r n 5).length = 18 := by simp [hdP, Qi]
  have e0 : u8 (hdP f c b r n 0) = [.int .u8 84, .int .u8 84, .int .u8 65, .int .u8 49] := rfl
  have hcat : u8 (hdP f c b r n 5) ++ u8 (leB (Qbj (hdP f c b r n 5)) 4) = u8 (hdB f c b r n) := by simp [u8, hdB, ZJ]
  have hlen : (hdB f c b r n).length = 22 := by rw [hdB, ZJ, List.length_append, Qi, l5]
  have hS' := hS (hdP f c b r n 5)
  rw [if_neg (by omega), ← Qbj, bs, l5] at hS'
  have hsm : Qbj (hdP f c b r n 5) < 4294967296 := by unfold Qbj; omega
  have B6 := hB (Qbj (hdP f c b r n 5)) 4 (by omega) (by omega) (by simpa using hsm)
  rw [bs, Qi] at B6
  have t5 := QT (hdP f c b r n 5)
  have tb := QT (hdB f c b r n)
  rw [bs, hlen]
  obtain ⟨H, hH⟩ : ∃ H, H = hdP f c b r n := ⟨_, rfl⟩
  rw [← hH] at c0 c1 c2 c3 c4 l0 l1 l2 l3 l4 l5 e0 hcat hS' hsm B6 t5
  generalize Qbj (H 5) = sm at *
  generalize hdB f c b r n = D at *
  have g0'' : QwL P.G g0 = .cell [.int .i64 2, .int .i64 2, .int .i64 2, .int .i64 4, .int .i64 4] := g0'
  simp (maxSteps := 4000000) (disch := omega) only [rr, aop, cV, cV1, AV.one, Qb, okW, Qd, app, Qa, Qc, Qf, Qe, Qg, simprocAttr, Jv]
  refine Qh.vc hC' ?_
  simp (maxSteps := 4000000) (disch := omega) only [rr, aop, cV, cV1, AV.one, Qb, okW, Qd, app, Qa, Qc, Qf, Qe, Qg, simprocAttr]
  refine QJ.by (ι := Nat) (fun j => ⟨[(32, .int .i64 j), (31, .agg [.int .i64 f, .int .i64 c, .int .i64 b, .int .i64 r, .int .i64 n]), (5, .own 1 (H j).length)], [⟨t0, 5, 1, [.int .i64 f, .int .i64 c, .int .i64 b, .int .i64 r, .int .i64 n], 0⟩, ⟨t1, 1, (H j).length, u8 (H j), 1⟩]⟩) (fun j => j ≤ 5) (fun j => 5 - j) 0 ?_ (by omega) ?_
  · simp only [e0, l0]
    exact Le.slots (by simp [Am.look])
  intro j hj
  have hj5 : j = 0 ∨ j = 1 ∨ j = 2 ∨ j = 3 ∨ j = 4 ∨ j = 5 := by omega
  rcases hj5 with rfl | rfl | rfl | rfl | rfl | rfl
  · simp (maxSteps := 4000000) (disch := omega) only [rr, aop, cV, cV1, AV.one, Qb, okW, Qd, app, Qa, Qc, Qf, Qe, Qg, simprocAttr, g0'', l0]
    refine Qh.vc B1 ?_
    simp (maxSteps := 4000000) (disch := omega) only [rr, aop, cV, cV1, AV.one, Qb, okW, Qd, app, Qa, Qc, Qf, Qe, Qg, simprocAttr, u2, c0]
    exact ⟨1, by omega, by omega, by rw [l1]; exact Le.slots (by simp [Am.look])⟩
  · simp (maxSteps := 4000000) (disch := omega) only [rr, aop, cV, cV1, AV.one, Qb, okW, Qd, app, Qa, Qc, Qf, Qe, Qg, simprocAttr, g0'', l1]
    refine Qh.vc B2 ?_
    simp (maxSteps := 4000000) (disch := omega) only [rr, aop, cV, cV1, AV.one, Qb, okW, Qd, app, Qa, Qc, Qf, Qe, Qg, simprocAttr, u2, c1]
    exact ⟨2, by omega, by omega, by rw [l2]; exact Le.slots (by simp [Am.look])⟩
  · simp (maxSteps := 4000000) (disch := omega) only [rr, aop, cV, cV1, AV.one, Qb, okW, Qd, app, Qa, Qc, Qf, Qe, Qg, simprocAttr, g0'', l2]
    refine Qh.vc B3 ?_
    simp (maxSteps := 4000000) (disch := omega) only [rr, aop, cV, cV1, AV.one, Qb, okW, Qd, app, Qa, Qc, Qf, Qe, Qg, simprocAttr, u2, c2]
    exact ⟨3, by omega, by omega, by rw [l3]; exact Le.slots (by simp [Am.look])⟩
  · simp (maxSteps := 4000000) (disch := omega) only [rr, aop, cV, cV1, AV.one, Qb, okW, Qd, app, Qa, Qc, Qf, Qe, Qg, simprocAttr, g0'', l3]
    refine Qh.vc B4 ?_
    simp (maxSteps := 4000000) (disch := omega) only [rr, aop, cV, cV1, AV.one, Qb, okW, Qd, app, Qa, Qc, Qf, Qe, Qg, simprocAttr, u4, c3]
    exact ⟨4, by omega, by omega, by rw [l4]; exact Le.slots (by simp [Am.look])⟩
  · simp (maxSteps := 4000000) (disch := omega) only [rr, aop, cV, cV1, AV.one, Qb, okW, Qd, app, Qa, Qc, Qf, Qe, Qg, simprocAttr, g0'', l4]
    refine Qh.vc B5 ?_
    simp (maxSteps := 4000000) (disch := omega) only [rr, aop, cV, cV1, AV.one, Qb, okW, Qd, app, Qa, Qc, Qf, Qe, Qg, simprocAttr, u4, c4]
    exact ⟨5, by omega, by omega, by rw [l5]; exact Le.slots (by simp [Am.look])⟩
  · simp (maxSteps := 4000000) (disch := omega) only [rr, aop, cV, cV1, AV.one, Qb, okW, Qd, app, Qa, Qc, Qf, Qe, Qg, simprocAttr, l5]
    refine Qh.flat 1 hS' rfl (by simp [Zu, QS, frzL, QN, frzL_T _ t5]) ?_
    simp (maxSteps := 4000000) (disch := omega) only [rr, aop, cV, cV1, AV.one, Qb, okW, Qd, app, Qa, Qc, Qf, Qe, Qg, simprocAttr]
    refine Qh.vc B6 ?_
    simp (maxSteps := 4000000) (disch := omega) only [rr, aop, cV, cV1, AV.one, Qb, okW, Qd, app, Qa, Qc, Qf, Qe, Qg, simprocAttr, u4, hcat]
    simp [Zu, QS, frzL, QN, frzL_T _ tb]
end Go.Am

namespace Go.Am
open Go.RowKit

/-! ### encode: each, join -/

def Qae (L : List (List UInt8)) : List Int := L.map fun b => (b.length : Int)
theorem Qem (L : List (List UInt8)) : (Qae L).length = L.length := by simp [Qae]
theorem QsM {L : List (List UInt8)} {k : Nat} (h : k < L.length) : (Qae L).getD k 0 = (L.getD k []).length := by
  simp [Qae, List.getD_eq_getElem?_getD, List.getElem?_eq_getElem h]
def Qt0 (P : Prg) (f : Nat) : Prop := ∀ b : List UInt8, VC P f [bs b] (.int .i64 b.length)
theorem Qjw {P : Prg} {f : Nat} (bd : Qj P f 5 [.tmp 2] Qac) : Qt0 P f := by
  intro b
  refine VC.of_acall (by simp [isDL, Zq]) rfl (ACall.of_body bd (by simp) ?_)
  simp (maxSteps := 4000000) (disch := omega) only [rr, aop, cV, cV1, AV.one, Qb, okW, Qd, app, Qa, Qc, Qf, Qe, Qg, simprocAttr, Qac, bs]
def Qt4 (g : Nat) (P : Prg) (f : Nat) : Prop := ∀ L : List (List UInt8), L.length ≤ 1000000 → (∀ j, (L.getD j []).length ≤ 1000000) → VC P f [bss L, .fn (.func g) [] []] (Qhn (Qae L))
theorem Qn5 {P : Prg} {f g t0 : Nat} (bd : Qj P f 26 [.tmp 4] (ZM t0)) (hg : Qt0 P g) : Qt4 g P f := by
  intro L hL hL2
  refine VC.of_walk 1 (by simp [isDL, isD, Qjp]) (QcH _) (ACall.of_body bd (by simp) ?_)
  have hmb : (L.map bs).length = L.length := by simp
  have hz : Qu [.int .i64 0] L.length = ks .i64 ((Qae L).take 0 ++ List.replicate (L.length - 0) 0) := by rw [Qpc]; simp
  have tl := Qt .i64 (Qae L)
  have hll := Qem L
  rw [Qhn, hll, bss]
  simp (maxSteps := 4000000) (disch := omega) only [rr, aop, cV, cV1, AV.one, Qb, okW, Qd, app, Qa, Qc, Qf, Qe, Qg, simprocAttr, ZM, hz]
  refine QJ.by (ι := Nat) (fun k => ⟨[(13, .int .i64 k), (12, .int .i64 L.length), (11, .list L.length (L.map bs)), (5, .own 0 L.length), (1, .fn (.func g) [] [])], [⟨t0, 1, L.length, ks .i64 ((Qae L).take k ++ List.replicate (L.length - k) 0), 0⟩]⟩) (fun k => k ≤ L.length) (fun k => L.length - k) 0 (Le.slots (by simp [Am.look])) (by omega) ?_
  intro k hk
  have hkl : (ks .i64 ((Qae L).take k ++ List.replicate (L.length - k) 0)).length = L.length := by rw [Qk, List.length_append, List.length_take, hll, List.length_replicate]; omega
  by_cases hlt : k < L.length
  · have e1 := QtH (L := L) (k := k) hlt
    have hg' := hg (L.getD k [])
    have hst : (ks .i64 ((Qae L).take k ++ List.replicate (L.length - k) 0)).take k ++ .int .i64 ((L.getD k []).length : Int) :: (ks .i64 ((Qae L).take k ++ List.replicate (L.length - k) 0)).drop (k + 1) = ks .i64 ((Qae L).take (k + 1) ++ List.replicate (L.length - (k + 1)) 0) := by
      have hq : (Qae L)[k]? = some ((L.getD k []).length : Int) := by simp [Qae, List.getD_eq_getElem?_getD, List.getElem?_eq_getElem hlt]
      have htk : (Qae L).take (k + 1) = (Qae L).take k ++ [((L.getD k []).length : Int)] := by rw [List.take_add_one, hq]; rfl
      have hl1 : ((Qae L).take k).length = k := by rw [List.length_take, hll]; omega
      rw [QnS, J6, htk, List.take_append_of_le_length (by omega), List.take_of_length_le (by omega), List.drop_append, List.drop_eq_nil_of_le (by omega), hl1, List.drop_replicate, List.nil_append]
      simp only [ks, List.map_append, List.map_cons, List.map_nil, List.append_assoc, List.cons_append, List.nil_append]
      rw [show L.length - k - (k + 1 - k) = L.length - (k + 1) by omega]
    have hst2 : (ks .i64 ((Qae L).take k ++ List.replicate (L.length - k) 0)).take k ++ [.int .i64 ((L.getD k []).length : Int)] ++ (ks .i64 ((Qae L).take k ++ List.replicate (L.length - k) 0)).drop (k + 1) = ks .i64 ((Qae L).take (k + 1) ++ List.replicate (L.length - (k + 1)) 0) := by rw [← hst]; simp
    rw [bs] at e1 hg'
    have hl2 := hL2 k
    generalize L.getD k [] = b at *
    simp (maxSteps := 4000000) (disch := omega) only [rr, aop, cV, cV1, AV.one, Qb, okW, Qd, app, Qa, Qc, Qf, Qe, Qg, simprocAttr, e1, hmb, hkl]
    refine Qh.vc hg' ?_
    simp (maxSteps := 4000000) (disch := omega) only [rr, aop, cV, cV1, AV.one, Qb, okW, Qd, app, Qa, Qc, Qf, Qe, Qg, simprocAttr, hkl, hst, hst2]
    exact ⟨k + 1, by omega, by omega, Le.slots (by simp [Am.look])⟩
  · have ek : k = L.length := by omega
    subst ek
    have e0 : (Qae L).take L.length ++ List.replicate (L.length - L.length) (0 : Int) = Qae L := by rw [← hll, List.take_length]; simp
    rw [e0]
    simp (maxSteps := 4000000) (disch := omega) only [rr, aop, cV, cV1, AV.one, Qb, okW, Qd, app, Qa, Qc, Qf, Qe, Qg, simprocAttr]
    simp [Zu, QS, frzL, QN, frzL_T _ tl]
def QoM (P : Prg) (f : Nat) : Prop := ∀ L : List (List UInt8), L.length ≤ 1000000 → L.flatten.length ≤ 1000000 → VC P f [bss L] (bs L.flatten)
theorem Qn4 {P : Prg} {f t0 : Nat} (bd : Qj P f 17 [.tmp 2] (Qbb t0)) : QoM P f := by
  intro L hL hF
  refine VC.of_walk 1 (by simp [isDL, Qjp]) (Zq _) (ACall.of_cut 2 bd (by simp) ?_)
  have hmb : (L.map bs).length = L.length := by simp
  rw [bs, bss]
  simp (maxSteps := 4000000) (disch := omega) only [rr, aop, cV, cV1, AV.one, Qb, okW, Qd, app, Qa, Qc, Qf, Qe, Qg, simprocAttr, Qbb, Qcf]
  refine ⟨_, Le.virt 3 t0 1 (by decide) rfl, ?_⟩
  simp (maxSteps := 4000000) (disch := omega) only [rr, aop, cV, cV1, AV.one, Qb, okW, Qd, app, Qa, Qc, Qf, Qe, Qg, simprocAttr, Qcf]
  refine QJ.by (ι := Nat) (fun k => ⟨[(8, .int .i64 k), (7, .int .i64 L.length), (6, .list L.length (L.map bs)), (3, .own 0 (L.take k).flatten.length)], [⟨t0, 1, (L.take k).flatten.length, u8 (L.take k).flatten, 0⟩]⟩) (fun k => k ≤ L.length) (fun k => L.length - k) 0 (Le.slots (by simp [Am.look, u8])) (by omega) ?_
  intro k hk
  have hle : (L.take k).flatten.length ≤ L.flatten.length := by
    conv => rhs; rw [← List.take_append_drop k L, List.flatten_append, List.length_append]
    omega
  by_cases hlt : k < L.length
  · have e1 := QtH (L := L) (k := k) hlt
    have hs : (L.take (k + 1)).flatten = (L.take k).flatten ++ L.getD k [] := by
      rw [List.take_succ_eq_append_getElem hlt, List.flatten_append]
      simp [List.getD_eq_getElem?_getD, List.getElem?_eq_getElem hlt]
    have hle2 : (L.take (k + 1)).flatten.length ≤ L.flatten.length := by
      conv => rhs; rw [← List.take_append_drop (k + 1) L, List.flatten_append, List.length_append]
      omega
    rw [hs, List.length_append] at hle2
    have hcat : u8 (L.take k).flatten ++ u8 (L.getD k []) = u8 (L.take (k + 1)).flatten := by rw [hs]; simp [u8]
    have hlen : (L.take k).flatten.length + (L.getD k []).length = (L.take (k + 1)).flatten.length := by rw [hs, List.length_append]
    have hbl : (u8 (L.getD k [])).length = (L.getD k []).length := QA _
    rw [bs] at e1
    generalize hY : (L.take (k + 1)).flatten = Y at *
    generalize L.getD k [] = b at *
    generalize (L.take k).flatten = X at *
    simp (maxSteps := 4000000) (disch := omega) only [rr, aop, cV, cV1, AV.one, Qb, okW, Qd, app, Qa, Qc, Qf, Qe, Qg, simprocAttr, Qcf, e1, hmb, hbl, hcat, hlen]
    refine ⟨k + 1, by omega, by omega, ?_⟩
    simp only [hY]
    exact Le.slots (by simp [Am.look])
  · have ek : k = L.length := by omega
    subst ek
    have tF := QT L.flatten
    rw [List.take_length]
    simp (maxSteps := 4000000) (disch := omega) only [rr, aop, cV, cV1, AV.one, Qb, okW, Qd, app, Qa, Qc, Qf, Qe, Qg, simprocAttr, Qcf]
    simp [Zu, QS, frzL, QN, frzL_T _ tF]
end Go.Am

namespace Go.Am
open Go.RowKit

/-! ### encode.File -/

theorem Qo1 : ∀ {l : List Int} {m : Int}, Qo3 m l → l.sum ≤ m ∨ l = []
  | [], _, _ => .inr rfl
  | n :: l, m, h => by
    obtain ⟨h1, h2, h3⟩ := h
    rcases Qo1 h3 with h4 | h4
    · left; rw [List.sum_cons]; omega
    · left; subst h4; simp; omega
theorem Qi5 : ∀ L : List (List UInt8), (Qae L).sum = (L.flatten.length : Int)
  | [] => rfl
  | b :: L => by
    have h := Qi5 L
    simp only [Qae, List.map_cons, List.sum_cons, List.flatten_cons, List.length_append] at h ⊢
    omega
def QkJ (p : List UInt8) : Int := if p = [] then 1 else 2
theorem QpA {c x r : Int} {l : List Int} (p : List UInt8) (h : ZG c x r l = 0) : hdN (QkJ p) c x r (l.length / c) = 0 := by
  obtain ⟨h1, h2⟩ := Qq5 h
  obtain ⟨⟨o1, o2, o3, o4, o5⟩, he, hn1, hn2⟩ := Qwm h2
  have hce : QjJ r (l.length / c) = 0 := by
    rw [Qgr] at h2
    by_cases h9 : QbJ c x (l.length / c) = 0 ∧ QjJ r (l.length / c) = 0
    · exact h9.2
    · rw [if_neg h9] at h2; cases h2
  have hc : Qaf x ≠ 0 ∧ 1 ≤ c ∧ c ≤ 6 := by
    rcases Zr c x with q | ⟨q, a, b, d⟩
    · omega
    · exact ⟨by omega, by omega, by omega⟩
  have hx := (Qwn x).1 hc.1
  rw [hdN, if_pos ⟨⟨hx, by unfold QkJ; split <;> simp, hc.2.1, hc.2.2, o1, o2, hn1⟩, hn2, hce⟩]
def QrO (p : List UInt8) : List UInt8 := if p = [] then [] else leB (ZT 0 p) 8
def Qn2 (c x r : Int) (l : List Int) (p : List UInt8) : List UInt8 :=
  hdB (QkJ p).toNat c.toNat x.toNat r.toNat (l.length / c.toNat) ++ (QrO p ++ (ZJ (XQ (Qae (Qp c x r l (ofK (ZT 0 p) 8)))) ++ (Qp c x r l (ofK (ZT 0 p) 8)).flatten))
def QhK (c x r : Int) (l : List Int) (p : List UInt8) : AV :=
  if ZG c x r l ≠ 0 then .tup [.list 0 [], .int .i64 8] else if 64 < p.length then .tup [.list 0 [], .int .i64 2] else if skN (Qae (Qp c x r l (ofK (ZT 0 p) 8))) ≠ 0 then .tup [.list 0 [], .int .i64 8] else .tup [bs (Qn2 c x r l p), .int .i64 0]
theorem Qu6 (c x r : Int) (l : List Int) (p : List UInt8) : isD (QhK c x r l p) = true := by
  unfold QhK
  repeat' split
  all_goals simp [isD, isDL, Zq]
def QkB (P : Prg) (f : Nat) : Prop := ∀ (c x r : Int) (l : List Int) (p : List UInt8), I32 l → l.length ≤ 1000000 → VC P f [clA c x r l, .str p] (QhK c x r l p)
set_option maxHeartbeats 2000000 in
theorem Qn7 {P : Prg} {f fM fF fW fD fE fg fS fJ t0 t1 t2 : Nat} (bd : Qj P f 62 [.tmp 4, .tmp 5] (Q9 fM fF fW fD fE fg fS fJ t0 t1 t2)) (hM : Qkw P fM) (hF : Qkx P fF) (hW : Qhb P fW) (hD : Qfl P fD) (hE : Qt4 fg P fE) (hS : QgX P fS) (hJ : QoM P fJ) : QkB P f := by
  intro c x r l p hI hl
  refine VC.of_walk 1 (by simp [isDL, isD, QO, clA]) (Qu6 _ _ _ _ _) (ACall.of_body bd (by simp) ?_)
  have hM' := hM c x r l p hI hl
  have tl := Qt .i32 l
  rcases QaD c x r l with h | h
  case inr =>
    rw [mkA, if_pos (by omega), hdA] at hM'
    rw [QhK, if_pos (by omega)]
    rw [clA, il] at hM' ⊢
    simp (maxSteps := 4000000) (disch := omega) only [rr, aop, cV, cV1, AV.one, Qb, okW, Qd, app, Qa, Qc, Qf, Qe, Qg, simprocAttr, Q9]
    refine Qh.vc hM' ?_
    simp (maxSteps := 4000000) (disch := omega) only [rr, aop, cV, cV1, AV.one, Qb, okW, Qd, app, Qa, Qc, Qf, Qe, Qg, simprocAttr]
    simp [Zu, QS, frzL, QN]
  rw [mkA, if_neg (by omega)] at hM'
  rw [QhK, if_neg (by omega)]
  by_cases hp : 64 < p.length
  · rw [if_pos hp, hdA] at hM'
    rw [if_pos hp]
    rw [clA, il] at hM' ⊢
    simp (maxSteps := 4000000) (disch := omega) only [rr, aop, cV, cV1, AV.one, Qb, okW, Qd, app, Qa, Qc, Qf, Qe, Qg, simprocAttr, Q9]
    refine Qh.vc hM' ?_
    simp (maxSteps := 4000000) (disch := omega) only [rr, aop, cV, cV1, AV.one, Qb, okW, Qd, app, Qa, Qc, Qf, Qe, Qg, simprocAttr]
    simp [Zu, QS, frzL, QN]
  rw [if_neg hp, ← QkJ] at hM'
  rw [if_neg hp]
  have hF' := hF c x r l p hI hl
  rw [QsZ h hp] at hF'
  have hW' := hW (QkJ p) c x r (l.length / c)
  rw [hwA, if_pos (QpA p h)] at hW'
  have hD' := hD p
  rw [QwM, if_neg hp] at hD'
  have hfr := Ql4 (T := ofK (ZT 0 p) 8) h hI
  have hfl := JY c x r l (ofK (ZT 0 p) 8)
  have hple := Qbm h
  obtain ⟨k, n, rfl, k1, k2, hlen, hok, h4⟩ := JP h
  have hk0 : (l.length : Int) / (k : Int) = n := by rw [hlen, Int.natCast_mul, Int.mul_ediv_cancel _ (by omega)]
  have hk1 : l.length / k = n := by rw [hlen, Nat.mul_div_cancel _ (by omega)]
  simp only [Qn2, Int.toNat_natCast, hk0, hk1] at hM' hW' ⊢
  have hE' := hE (Qp k x r l (ofK (ZT 0 p) 8)) hfr.1 hfr.2
  have hv : ∀ v ∈ Qae (Qp k x r l (ofK (ZT 0 p) 8)), -9223372036854775808 ≤ v ∧ v ≤ 9223372036854775807 := fun v hv => by
    obtain ⟨b, hb, rfl⟩ := List.mem_map.1 hv
    obtain ⟨i, hi, rfl⟩ := List.mem_iff_getElem.1 hb
    have := hfr.2 i
    rw [List.getD_eq_getElem?_getD, List.getElem?_eq_getElem hi] at this
    simp only [Option.getD_some] at this
    omega
  have hS' := hS (Qae (Qp k x r l (ofK (ZT 0 p) 8))) (by rw [Qem]; omega) hv
  have hff := Qi5 (Qp k x r l (ofK (ZT 0 p) 8))
  have hll := Qem (Qp k x r l (ofK (ZT 0 p) 8))
  have htl := QfP (Qae (Qp k x r l (ofK (ZT 0 p) 8)))
  have hJ0 := fun A B C hx hy => hJ (A :: B :: C :: Qp k x r l (ofK (ZT 0 p) 8)) hx hy
  generalize Qp k x r l (ofK (ZT 0 p) 8) = FF at *
  generalize hHd : hdB (QkJ p).toNat k x.toNat r.toNat n = HD at *
  have hHl : HD.length = 22 := by
    rw [← hHd, hdB, ZJ, List.length_append, Qi]
    simp [hdP, Qi]
  rw [Qhn, hll] at hE' hS'
  have hmf : (FF.map bs).length = FF.length := by simp
  have tF := QaU FF
  have kn : (ks .i64 (Qae FF)).length = FF.length := by rw [Qk, hll]
  rw [bss] at hF' hE'
  simp only [clA, il, hdA] at hM' hF' hW' ⊢
  rcases Qlt (Qae FF) with hs | ⟨hs, s1, s2, s3⟩
  · rw [skA, if_neg (by omega), hs] at hS'
    rw [if_pos (by omega)]
    by_cases hn : p = []
    · have hf : QkJ p = 1 := by rw [QkJ, if_pos hn]
      rw [hf] at hM' hW'
      simp (maxSteps := 4000000) (disch := omega) only [rr, aop, cV, cV1, AV.one, Qb, okW, Qd, app, Qa, Qc, Qf, Qe, Qg, simprocAttr, Q9]
      refine Qh.vc hM' ?_
      simp (maxSteps := 4000000) (disch := omega) only [rr, aop, cV, cV1, AV.one, Qb, okW, Qd, app, Qa, Qc, Qf, Qe, Qg, simprocAttr]
      refine Qh.vc hF' ?_
      simp (maxSteps := 4000000) (disch := omega) only [rr, aop, cV, cV1, AV.one, Qb, okW, Qd, app, Qa, Qc, Qf, Qe, Qg, simprocAttr]
      refine Qh.vc hW' ?_
      simp (maxSteps := 4000000) (disch := omega) only [rr, aop, cV, cV1, AV.one, Qb, okW, Qd, app, Qa, Qc, Qf, Qe, Qg, simprocAttr]
      refine Qh.vc hE' ?_
      simp (maxSteps := 4000000) (disch := omega) only [rr, aop, cV, cV1, AV.one, Qb, okW, Qd, app, Qa, Qc, Qf, Qe, Qg, simprocAttr]
      refine Qh.vc hS' ?_
      simp (maxSteps := 4000000) (disch := omega) only [rr, aop, cV, cV1, AV.one, Qb, okW, Qd, app, Qa, Qc, Qf, Qe, Qg, simprocAttr]
      simp [Zu, QS, frzL, QN]
    · have hf : QkJ p = 2 := by rw [QkJ, if_neg hn]
      rw [hf] at hM' hW'
      simp (maxSteps := 4000000) (disch := omega) only [rr, aop, cV, cV1, AV.one, Qb, okW, Qd, app, Qa, Qc, Qf, Qe, Qg, simprocAttr, Q9]
      refine Qh.vc hM' ?_
      simp (maxSteps := 4000000) (disch := omega) only [rr, aop, cV, cV1, AV.one, Qb, okW, Qd, app, Qa, Qc, Qf, Qe, Qg, simprocAttr]
      refine Qh.vc hF' ?_
      simp (maxSteps := 4000000) (disch := omega) only [rr, aop, cV, cV1, AV.one, Qb, okW, Qd, app, Qa, Qc, Qf, Qe, Qg, simprocAttr]
      refine Qh.vc hW' ?_
      simp (maxSteps := 4000000) (disch := omega) only [rr, aop, cV, cV1, AV.one, Qb, okW, Qd, app, Qa, Qc, Qf, Qe, Qg, simprocAttr]
      refine Qh.vc hD' ?_
      simp (maxSteps := 4000000) (disch := omega) only [rr, aop, cV, cV1, AV.one, Qb, okW, Qd, app, Qa, Qc, Qf, Qe, Qg, simprocAttr]
      refine Qh.vc hE' ?_
      simp (maxSteps := 4000000) (disch := omega) only [rr, aop, cV, cV1, AV.one, Qb, okW, Qd, app, Qa, Qc, Qf, Qe, Qg, simprocAttr]
      refine Qh.vc hS' ?_
      simp (maxSteps := 4000000) (disch := omega) only [rr, aop, cV, cV1, AV.one, Qb, okW, Qd, app, Qa, Qc, Qf, Qe, Qg, simprocAttr]
      simp [Zu, QS, frzL, QN]
  · rw [skA, if_pos hs] at hS'
    rw [if_neg (by omega)]
    have hsum : FF.flatten.length ≤ 100000 := by
      have hok2 : Qo3 100000 (Qae FF) := by
        unfold skN at hs
        split at hs
        · cases hs
        split at hs
        · assumption
        · cases hs
      rcases Qo1 hok2 with q | q
      · rw [hff] at q; omega
      · rw [q] at s1; simp at s1
    have hTb : (ZJ (XQ (Qae FF))).length ≤ 5000 := by rw [ZJ, List.length_append, Qi, htl]; omega
    have tH := QT HD
    have tT := QT (ZJ (XQ (Qae FF)))
    generalize ZJ (XQ (Qae FF)) = TB at *
    by_cases hn : p = []
    · have hf : QkJ p = 1 := by rw [QkJ, if_pos hn]
      have hsb : QrO p = [] := by rw [QrO, if_pos hn]
      rw [hf] at hM' hW'
      rw [hsb, List.nil_append]
      have hJ' := hJ0 HD [] TB (by simp only [List.length_cons]; omega) (by simp only [List.flatten_cons, List.length_append, List.length_nil]; omega)
      simp only [List.flatten_cons, List.nil_append] at hJ'
      have tX := QT (HD ++ (TB ++ FF.flatten))
      generalize HD ++ (TB ++ FF.flatten) = XX at *
      simp only [bss, bs, List.map_cons, List.length_cons, QrF, List.length_nil] at hJ' hW' hS' ⊢
      simp (maxSteps := 4000000) (disch := omega) only [rr, aop, cV, cV1, AV.one, Qb, okW, Qd, app, Qa, Qc, Qf, Qe, Qg, simprocAttr, Q9]
      refine Qh.vc hM' ?_
      simp (maxSteps := 4000000) (disch := omega) only [rr, aop, cV, cV1, AV.one, Qb, okW, Qd, app, Qa, Qc, Qf, Qe, Qg, simprocAttr]
      refine Qh.vc hF' ?_
      simp (maxSteps := 4000000) (disch := omega) only [rr, aop, cV, cV1, AV.one, Qb, okW, Qd, app, Qa, Qc, Qf, Qe, Qg, simprocAttr]
      refine Qh.vc hW' ?_
      simp (maxSteps := 4000000) (disch := omega) only [rr, aop, cV, cV1, AV.one, Qb, okW, Qd, app, Qa, Qc, Qf, Qe, Qg, simprocAttr]
      refine Qh.vc hE' ?_
      simp (maxSteps := 4000000) (disch := omega) only [rr, aop, cV, cV1, AV.one, Qb, okW, Qd, app, Qa, Qc, Qf, Qe, Qg, simprocAttr]
      refine Qh.vc hS' ?_
      simp (maxSteps := 4000000) (disch := omega) only [rr, aop, cV, cV1, AV.one, Qb, okW, Qd, app, Qa, Qc, Qf, Qe, Qg, simprocAttr, hmf]
      refine Qh.still 1 [2] hJ' (by simp [Zu, QS, frzL, QN, frzL_T _ tH, frzL_T _ tT, frzL_T _ tF]; omega) ?_
      simp (maxSteps := 4000000) (disch := omega) only [rr, aop, cV, cV1, AV.one, Qb, okW, Qd, app, Qa, Qc, Qf, Qe, Qg, simprocAttr]
      simp [Zu, QS, frzL, QN, frzL_T _ tX]
    · have hf : QkJ p = 2 := by rw [QkJ, if_neg hn]
      have hsb : QrO p = leB (ZT 0 p) 8 := by rw [QrO, if_neg hn]
      rw [hf] at hM' hW'
      rw [hsb]
      have hJ' := hJ0 HD (leB (ZT 0 p) 8) TB (by simp only [List.length_cons]; omega) (by simp only [List.flatten_cons, List.length_append, Qi]; omega)
      simp only [List.flatten_cons] at hJ'
      have tX := QT (HD ++ (leB (ZT 0 p) 8 ++ (TB ++ FF.flatten)))
      have tS := QT (leB (ZT 0 p) 8)
      have l8 : (leB (ZT 0 p) 8).length = 8 := Qi _ _
      generalize HD ++ (leB (ZT 0 p) 8 ++ (TB ++ FF.flatten)) = XX at *
      generalize leB (ZT 0 p) 8 = SB at *
      simp only [bss, bs, List.map_cons, List.length_cons] at hJ' hW' hS' hD' ⊢
      simp (maxSteps := 4000000) (disch := omega) only [rr, aop, cV, cV1, AV.one, Qb, okW, Qd, app, Qa, Qc, Qf, Qe, Qg, simprocAttr, Q9]
      refine Qh.vc hM' ?_
      simp (maxSteps := 4000000) (disch := omega) only [rr, aop, cV, cV1, AV.one, Qb, okW, Qd, app, Qa, Qc, Qf, Qe, Qg, simprocAttr]
      refine Qh.vc hF' ?_
      simp (maxSteps := 4000000) (disch := omega) only [rr, aop, cV, cV1, AV.one, Qb, okW, Qd, app, Qa, Qc, Qf, Qe, Qg, simprocAttr]
      refine Qh.vc hW' ?_
      simp (maxSteps := 4000000) (disch := omega) only [rr, aop, cV, cV1, AV.one, Qb, okW, Qd, app, Qa, Qc, Qf, Qe, Qg, simprocAttr]
      refine Qh.vc hD' ?_
      simp (maxSteps := 4000000) (disch := omega) only [rr, aop, cV, cV1, AV.one, Qb, okW, Qd, app, Qa, Qc, Qf, Qe, Qg, simprocAttr]
      refine Qh.vc hE' ?_
      simp (maxSteps := 4000000) (disch := omega) only [rr, aop, cV, cV1, AV.one, Qb, okW, Qd, app, Qa, Qc, Qf, Qe, Qg, simprocAttr]
      refine Qh.vc hS' ?_
      simp (maxSteps := 4000000) (disch := omega) only [rr, aop, cV, cV1, AV.one, Qb, okW, Qd, app, Qa, Qc, Qf, Qe, Qg, simprocAttr, hmf]
      refine Qh.still 1 [2] hJ' (by simp [Zu, QS, frzL, QN, frzL_T _ tH, frzL_T _ tT, frzL_T _ tF, frzL_T _ tS]; omega) ?_
      simp (maxSteps := 4000000) (disch := omega) only [rr, aop, cV, cV1, AV.one, Qb, okW, Qd, app, Qa, Qc, Qf, Qe, Qg, simprocAttr]
      simp [Zu, QS, frzL, QN, frzL_T _ tX]
end Go.Am

namespace Go.Am
open Go.RowKit

/-! ### ref25: Long, Split, Of, Bytes; ref26.Bytes -/

def Qkt (P : Prg) (f : Nat) : Prop := ∀ r : Int, 1 ≤ r → r ≤ 1048576 → VC P f [.int .i64 r] (.int .i64 (QC r))
theorem Qqm {P : Prg} {f : Nat} (bd : Qj P f 7 [.tmp 2] Zz) : Qkt P f := by
  intro r h1 h2
  refine VC.of_acall rfl rfl (ACall.of_body bd (by simp) ?_)
  have h3 : (256 * r).tdiv 245 = 256 * r / 245 := Int.tdiv_eq_ediv_of_nonneg (by omega)
  have hX : 1 ≤ 256 * r / 245 := by omega
  have hl : QC r = 256 * r / 245 := by unfold QC; rw [if_neg (by omega)]
  rw [hl]
  by_cases hx : 1 < 256 * r / 245
  · simp (maxSteps := 4000000) (disch := omega) only [rr, aop, cV, cV1, AV.one, Qb, okW, Qd, app, Qa, Qc, Qf, Qe, Qg, simprocAttr, Zz, h3]
  · have hy : 256 * r / 245 = 1 := by omega
    rw [hy] at h3 hl ⊢
    simp (maxSteps := 4000000) (disch := omega) only [rr, aop, cV, cV1, AV.one, Qb, okW, Qd, app, Qa, Qc, Qf, Qe, Qg, simprocAttr, Zz, h3, hy]

def QgW (P : Prg) (f : Nat) : Prop := ∀ (r : Int) (m : Nat), okA r m → VC P f [.int .i64 r, .int .i64 m] (Qhn (QY (QC r).toNat m))
theorem Qnv {P : Prg} {f fL t0 : Nat} (bd : Qj P f 22 [.tmp 4] (Xk fL t0)) (hL : Qkt P fL) : QgW P f := by
  intro r m ⟨o1, o2, o3, o4, o5⟩
  refine VC.of_walk 1 rfl (QcH _) (ACall.of_body bd (by simp) ?_)
  have hL' := hL r o1 o2
  have p1 := Xd r
  have p2 := Qjl (r := r) o2
  generalize QC r = Li at *
  obtain ⟨L, rfl⟩ : ∃ L : Nat, Li = L := ⟨Li.toNat, by omega⟩
  rw [Int.toNat_natCast]
  have g1 : (m - 1) / L * L ≤ m - 1 := Nat.div_mul_le_self _ _
  have g2 : m - 1 < ((m - 1) / L + 1) * L := by
    have := Nat.lt_div_mul_add (a := m - 1) (b := L) (by omega)
    rw [Nat.add_mul, Nat.one_mul]; omega
  rw [Nat.add_mul, Nat.one_mul] at g2
  have g3 : (m - 1) / L ≤ m - 1 := Nat.div_le_self _ _
  have ll := Xe L m
  have lf : QY L m = List.replicate ((m - 1) / L) (L : Int) ++ [(m : Int) - ((m - 1) / L * L : Nat)] := rfl
  have tl := Qt .i64 (QY L m)
  rw [Qhn, ll]
  generalize hq : (m - 1) / L = q at *
  simp (maxSteps := 4000000) (disch := omega) only [rr, aop, cV, cV1, AV.one, Qb, okW, Qd, app, Qa, Qc, Qf, Qe, Qg, simprocAttr, Xk]
  refine QJ.by (ι := Option Nat) (fun i => match i with
      | some k => ⟨[(6, .int .i64 ((m : Int) - (k * L : Nat))), (5, .own 0 k), (0, .int .i64 r)], [⟨t0, 1, k, ks .i64 (List.replicate k (L : Int)), 0⟩]⟩
      | none => ⟨[(6, .int .i64 ((m : Int) - (q * L + L : Nat))), (5, .own 0 (q + 1)), (0, .int .i64 r)], [⟨t0, 1, q + 1, ks .i64 (QY L m), 0⟩]⟩)
    (fun i => match i with | some k => k ≤ q | none => True) (fun i => match i with | some k => q - k + 1 | none => 0) (some 0)
    (by simp only [Nat.zero_mul]; exact Le.trans (Le.virt 5 t0 1 (by omega) rfl) (Le.slots (by simp [Am.look]))) (by simp) ?_
  intro i hi
  cases i with
  | some k =>
    simp only at hi
    dsimp only
    have g4 : k * L ≤ q * L := Nat.mul_le_mul_right L hi
    have lr : (List.replicate k (L : Int)).length = k := by simp
    have lk : (ks .i64 (List.replicate k (L : Int))).length = k := by rw [Qk, lr]
    by_cases hk : k < q
    · have g5 : (k + 1) * L ≤ q * L := Nat.mul_le_mul_right L (by omega)
      rw [Nat.add_mul, Nat.one_mul] at g5
      have hmn : (k + 1) * L = k * L + L := by rw [Nat.add_mul, Nat.one_mul]
      generalize k * L = kL at *
      generalize q * L = qL at *
      simp (maxSteps := 4000000) (disch := omega) only [rr, aop, cV, cV1, AV.one, Qb, okW, Qd, app, Qa, Qc, Qf, Qe, Qg, simprocAttr]
      refine Qh.vc hL' ?_
      simp (maxSteps := 4000000) (disch := omega) only [rr, aop, cV, cV1, AV.one, Qb, okW, Qd, app, Qa, Qc, Qf, Qe, Qg, simprocAttr, Qe0, Qpb, lr]
      refine Qh.vc hL' ?_
      simp (maxSteps := 4000000) (disch := omega) only [rr, aop, cV, cV1, AV.one, Qb, okW, Qd, app, Qa, Qc, Qf, Qe, Qg, simprocAttr]
      have ef : (m : Int) - (kL : Int) - (L : Int) = (m : Int) - ((kL + L : Nat) : Int) := by omega
      rw [ef, ← hmn]
      exact ⟨some (k + 1), by simp only; omega, by simp only; omega, Le.dropT [_] (by simp [Qt]) (by simp [Am.look, QS, frzL, QN])⟩
    · obtain rfl : k = q := by omega
      have hcat : ks .i64 (List.replicate k (L : Int)) ++ [.int .i64 ((m : Int) - (k * L : Nat))] = ks .i64 (QY L m) := by rw [lf]; simp [ks]
      generalize k * L = kL at *
      simp (maxSteps := 4000000) (disch := omega) only [rr, aop, cV, cV1, AV.one, Qb, okW, Qd, app, Qa, Qc, Qf, Qe, Qg, simprocAttr]
      refine Qh.vc hL' ?_
      simp (maxSteps := 4000000) (disch := omega) only [rr, aop, cV, cV1, AV.one, Qb, okW, Qd, app, Qa, Qc, Qf, Qe, Qg, simprocAttr, lk, hcat]
      refine Qh.vc hL' ?_
      simp (maxSteps := 4000000) (disch := omega) only [rr, aop, cV, cV1, AV.one, Qb, okW, Qd, app, Qa, Qc, Qf, Qe, Qg, simprocAttr]
      have ef : (m : Int) - (kL : Int) - (L : Int) = (m : Int) - ((kL : Int) + (L : Int)) := by omega
      rw [ef]
      exact ⟨none, trivial, by simp only; omega, Le.dropT [_] (by simp [Qt]) (by simp [Am.look, QS, frzL, QN])⟩
  | none =>
    dsimp only
    simp (maxSteps := 4000000) (disch := omega) only [rr, aop, cV, cV1, AV.one, Qb, okW, Qd, app, Qa, Qc, Qf, Qe, Qg, simprocAttr]
    simp [Zu, QS, frzL, QN, frzL_T _ tl]

def Qt1 (P : Prg) (g : Nat) : Prop := ∀ (c x r : Int) (l : List Int) (p : List UInt8), ZG c x r l = 0 → VC P g [clA c x r l, .str p] (hdA (QkJ p) c x r (l.length / c))
theorem QuO {P : Prg} {g t0 t1 : Nat} (bd : Qj P g 23 [.cell 4 t1] (Xb t0 t1)) (ht : Q4 P t1 = some (some 5)) : Qt1 P g := by
  intro c x r l p h
  refine VC.of_acall (by simp [isDL, isD, QO, clA]) rfl (ACall.of_body bd (by simp) ?_)
  obtain ⟨k, n, rfl, k1, k2, hlen, hok, h4⟩ := JP h
  have hk0 : (l.length : Int) / (k : Int) = n := by rw [hlen, Int.natCast_mul, Int.mul_ediv_cancel _ (by omega)]
  have hk3 : ((l.length : Int)).tdiv (k : Int) = n := by rw [Int.tdiv_eq_ediv_of_nonneg (by omega), hk0]
  have hq0 : (k : Int) ≠ 0 := by omega
  have hn4 : n ≤ 4000 := by have := hok.2.2.2.1; omega
  rw [hk0]
  by_cases hn : p = []
  · subst hn
    have hf : QkJ [] = 1 := rfl
    rw [hf]
    simp (maxSteps := 4000000) (disch := omega) only [rr, aop, cV, cV1, AV.one, Qb, okW, Qd, app, Qa, Qc, Qf, Qe, Qg, simprocAttr, Xb, clA, il, ZK, ht, Zk, hdA, QmM, hk0, hk3]
  · have hs : QmM .neq p [] = some (.bool true) := by simp [QmM, hn]
    have hf : QkJ p = 2 := by rw [QkJ, if_neg hn]
    rw [hf]
    simp (maxSteps := 4000000) (disch := omega) only [rr, aop, cV, cV1, AV.one, Qb, okW, Qd, app, Qa, Qc, Qf, Qe, Qg, simprocAttr, Xb, clA, il, ZK, ht, Zk, hdA, hs, hk0, hk3]
def Qhh (P : Prg) (f : Nat) : Prop := ∀ l : List Int, l.length ≤ 1000 → (∀ k, k < l.length → 0 ≤ l.getD k 0 ∧ l.getD k 0 ≤ 4000000000) → VC P f [Qhn l] (bs (ZJ (XQ l)))
theorem Qnu {P : Prg} {f fW fO t0 : Nat} (bd : Qj P f 25 [.tmp 2] (Xj fW fO t0)) (hW : Qcw P fW) (hO : Qt5 P fO) : Qhh P f := by
  intro l hl hr
  refine VC.of_walk 1 (by simp [isDL, QcH]) (Zq _) (ACall.of_cut 2 bd (by simp) ?_)
  have kl : (ks .i64 l).length = l.length := Qk _ _
  have hpl : ∀ m, (XQ (l.take m)).length ≤ 4000 := fun m => by rw [QfP, List.length_take]; omega
  rw [Qhn]
  simp (maxSteps := 4000000) (disch := omega) only [rr, aop, cV, cV1, AV.one, Qb, okW, Qd, app, Qa, Qc, Qf, Qe, Qg, simprocAttr, Xj, Qcf]
  refine ⟨_, Le.virt 3 t0 1 (by decide) rfl, ?_⟩
  simp (maxSteps := 4000000) (disch := omega) only [rr, aop, cV, cV1, AV.one, Qb, okW, Qd, app, Qa, Qc, Qf, Qe, Qg, simprocAttr, Qcf]
  refine QJ.by (ι := Nat) (fun k => ⟨[(4, .int .i64 k), (0, .list l.length (ks .i64 l)), (3, .own 0 (XQ (l.take k)).length)], [⟨t0, 1, (XQ (l.take k)).length, u8 (XQ (l.take k)), 0⟩]⟩) (fun k => k ≤ l.length) (fun k => l.length - k) 0 (Le.slots (by simp [Am.look, XQ, u8])) (by omega) ?_
  intro k hk
  have hpk := hpl k
  by_cases hlt : k < l.length
  · have e1 : (ks .i64 l).drop k = .int .i64 (l.getD k 0) :: (ks .i64 l).drop (k + 1) := by
      have h := Qbn (K := .i64) (l := l) (i := k) hlt
      rw [← J6] at h
      exact h
    have hs := Qlr l k hlt
    have hrk := hr k hlt
    generalize hz : l.getD k 0 = z at *
    obtain ⟨z, rfl⟩ : ∃ m : Nat, z = m := ⟨z.toNat, by omega⟩
    rw [Int.toNat_natCast] at hs
    have hW' := hW z 4 (by omega) (by omega)
    rw [bs, Qi] at hW'
    have hul : (u8 (leB z 4)).length = 4 := by rw [QA, Qi]
    have hcat : u8 (XQ (l.take k)) ++ u8 (leB z 4) = u8 (XQ (l.take (k + 1))) := by rw [hs]; simp [u8]
    have hlen : (XQ (l.take k)).length + 4 = (XQ (l.take (k + 1))).length := by rw [hs, List.length_append, Qi]
    generalize hB1 : XQ (l.take (k + 1)) = B1 at *
    generalize XQ (l.take k) = B0 at *
    simp (maxSteps := 4000000) (disch := omega) only [rr, aop, cV, cV1, AV.one, Qb, okW, Qd, app, Qa, Qc, Qf, Qe, Qg, simprocAttr, Qcf, kl, e1]
    refine Qh.vc hW' ?_
    simp (maxSteps := 4000000) (disch := omega) only [rr, aop, cV, cV1, AV.one, Qb, okW, Qd, app, Qa, Qc, Qf, Qe, Qg, simprocAttr, Qcf, hul, hcat, hlen]
    refine ⟨k + 1, by omega, by omega, ?_⟩
    simp only [hB1]
    exact Le.slots (by simp [Am.look])
  · have ek : k = l.length := by omega
    subst ek
    rw [List.take_length] at hpk ⊢
    have tB := QT (XQ l)
    have hO' := hO (XQ l) (by omega)
    have hsm : Qbj (XQ l) < 4294967296 := by unfold Qbj; omega
    rw [← Qbj, bs] at hO'
    have hW' := hW (Qbj (XQ l)) 4 (by omega) (by omega)
    rw [bs, Qi] at hW'
    have hul : (u8 (leB (Qbj (XQ l)) 4)).length = 4 := by rw [QA, Qi]
    have hcat : u8 (XQ l) ++ u8 (leB (Qbj (XQ l)) 4) = u8 (ZJ (XQ l)) := by simp [u8, ZJ]
    have hlen : (XQ l).length + 4 = (ZJ (XQ l)).length := by rw [ZJ, List.length_append, Qi]
    have tS := QT (ZJ (XQ l))
    rw [bs]
    generalize ZJ (XQ l) = B1 at *
    generalize Qbj (XQ l) = sm at *
    generalize XQ l = B0 at *
    simp (maxSteps := 4000000) (disch := omega) only [rr, aop, cV, cV1, AV.one, Qb, okW, Qd, app, Qa, Qc, Qf, Qe, Qg, simprocAttr, Qcf, kl]
    refine Qh.flat 1 hO' rfl (by simp [Zu, QS, frzL, QN, frzL_T _ tB]) ?_
    simp (maxSteps := 4000000) (disch := omega) only [rr, aop, cV, cV1, AV.one, Qb, okW, Qd, app, Qa, Qc, Qf, Qe, Qg, simprocAttr, Qcf]
    refine Qh.vc hW' ?_
    simp (maxSteps := 4000000) (disch := omega) only [rr, aop, cV, cV1, AV.one, Qb, okW, Qd, app, Qa, Qc, Qf, Qe, Qg, simprocAttr, hul, hcat, hlen, Qcf]
    simp [Zu, QS, frzL, QN, frzL_T _ tS]
end Go.Am

namespace Go.Am
open Go.RowKit

/-! ### ref25.Bytes; encode.Size -/

def Qfk (t : Nat) (P : Prg) (g : Nat) : Prop := ∀ f c b r n : Nat, f ≤ 2 → c ≤ 6 → b ≤ 24 → r ≤ 1048576 → n ≤ 4000 → VO P g [hdA f c b r n] (.own 0 22) ⟨t, 1, 22, u8 (hdB f c b r n), 1⟩
set_option maxHeartbeats 2000000 in
theorem Qnx {P : Prg} {g fW fO t0 t1 : Nat} (bd : Qj P g 42 [.tmp 2] (Xl fW fO t0 t1)) (hW : Qcw P fW) (hO : Qt5 P fO) : Qfk t1 P g := by
  intro f c b r n a1 a2 a3 a4 a5
  refine VO.of_walk rfl (by simp [Qgq]) (by simp [okr]) (ACall.of_body bd (by simp) ?_)
  have B1 := hW f 2 (by omega) (by omega)
  have B2 := hW c 2 (by omega) (by omega)
  have B3 := hW b 2 (by omega) (by omega)
  have B4 := hW r 4 (by omega) (by omega)
  have B5 := hW n 4 (by omega) (by omega)
  rw [bs, Qi] at B1 B2 B3 B4 B5
  have u2 : ∀ m, (u8 (leB m 2)).length = 2 := fun m => by rw [QA, Qi]
  have u4 : ∀ m, (u8 (leB m 4)).length = 4 := fun m => by rw [QA, Qi]
  have e0 : ([.int .u8 84, .int .u8 84, .int .u8 65, .int .u8 49] : List AV) = u8 (hdP f c b r n 0) := rfl
  have c0 : (.int .u8 84 :: .int .u8 84 :: .int .u8 65 :: .int .u8 49 :: u8 (leB f 2) : List AV) = u8 (hdP f c b r n 1) := by simp [hdP, u8]
  have c1 : u8 (hdP f c b r n 1) ++ u8 (leB c 2) = u8 (hdP f c b r n 2) := by simp [hdP, u8]
  have c2 : u8 (hdP f c b r n 2) ++ u8 (leB b 2) = u8 (hdP f c b r n 3) := by simp [hdP, u8]
  have c3 : u8 (hdP f c b r n 3) ++ u8 (leB r 4) = u8 (hdP f c b r n 4) := by simp [hdP, u8]
  have c4 : u8 (hdP f c b r n 4) ++ u8 (leB n 4) = u8 (hdP f c b r n 5) := by simp [hdP, u8]
  have l1 : (hdP f c b r n 1).length = 6 := by simp [hdP, Qi]
  have l2 : (hdP f c b r n 2).length = 8 := by simp [hdP, Qi]
  have l3 : (hdP f c b r n 3).length = 10 := by simp [hdP, Qi]
  have l4 : (hdP f c b r n 4).length = 14 := by simp [hdP, Qi]
  have l5 : (hdP f c b r n 5).length = 18 := by simp [hdP, Qi]
  have hcat : u8 (hdP f c b r n 5) ++ u8 (leB (Qbj (hdP f c b r n 5)) 4) = u8 (hdB f c b r n) := by simp [u8, hdB, ZJ]
  have hO' := hO (hdP f c b r n 5) (by omega)
  rw [← Qbj, bs, l5] at hO'
  have hsm : Qbj (hdP f c b r n 5) < 4294967296 := by unfold Qbj; omega
  have B6 := hW (Qbj (hdP f c b r n 5)) 4 (by omega) (by omega)
  rw [bs, Qi] at B6
  have t5 := QT (hdP f c b r n 5)
  have v1 : (u8 (hdP f c b r n 1)).length = 6 := by rw [QA, l1]
  have v2 : (u8 (hdP f c b r n 2)).length = 8 := by rw [QA, l2]
  have v3 : (u8 (hdP f c b r n 3)).length = 10 := by rw [QA, l3]
  have v4 : (u8 (hdP f c b r n 4)).length = 14 := by rw [QA, l4]
  have v5 : (u8 (hdP f c b r n 5)).length = 18 := by rw [QA, l5]
  obtain ⟨H, hH⟩ : ∃ H, H = hdP f c b r n := ⟨_, rfl⟩
  rw [← hH] at c0 c1 c2 c3 c4 hcat hO' hsm B6 t5 v1 v2 v3 v4 v5
  generalize Qbj (H 5) = sm at *
  generalize hdB f c b r n = D at *
  rw [hdA]
  simp (maxSteps := 4000000) (disch := omega) only [rr, aop, cV, cV1, AV.one, Qb, okW, Qd, app, Qa, Qc, Qf, Qe, Qg, simprocAttr, Xl]
  refine Qh.vc B1 ?_
  simp (maxSteps := 4000000) (disch := omega) only [rr, aop, cV, cV1, AV.one, Qb, okW, Qd, app, Qa, Qc, Qf, Qe, Qg, simprocAttr, u2, c0]
  refine Qh.vc B2 ?_
  simp (maxSteps := 4000000) (disch := omega) only [rr, aop, cV, cV1, AV.one, Qb, okW, Qd, app, Qa, Qc, Qf, Qe, Qg, simprocAttr, u2, c1, v1]
  refine Qh.vc B3 ?_
  simp (maxSteps := 4000000) (disch := omega) only [rr, aop, cV, cV1, AV.one, Qb, okW, Qd, app, Qa, Qc, Qf, Qe, Qg, simprocAttr, u2, c2, v2]
  refine Qh.vc B4 ?_
  simp (maxSteps := 4000000) (disch := omega) only [rr, aop, cV, cV1, AV.one, Qb, okW, Qd, app, Qa, Qc, Qf, Qe, Qg, simprocAttr, u4, c3, v3]
  refine Qh.vc B5 ?_
  simp (maxSteps := 4000000) (disch := omega) only [rr, aop, cV, cV1, AV.one, Qb, okW, Qd, app, Qa, Qc, Qf, Qe, Qg, simprocAttr, u4, c4, v4]
  refine Qh.flat 1 hO' rfl (by simp [Zu, QS, frzL, QN, frzL_T _ t5]) ?_
  simp (maxSteps := 4000000) (disch := omega) only [rr, aop, cV, cV1, AV.one, Qb, okW, Qd, app, Qa, Qc, Qf, Qe, Qg, simprocAttr]
  refine Qh.vc B6 ?_
  simp (maxSteps := 4000000) (disch := omega) only [rr, aop, cV, cV1, AV.one, Qb, okW, Qd, app, Qa, Qc, Qf, Qe, Qg, simprocAttr, u4, hcat, v5]
  exact ⟨1, rfl, rfl⟩
def QuB (c x r : Int) (l : List Int) (p : List UInt8) : AV := match QhK c x r l p with
  | .tup [.list n _, e] => .tup [.int .i64 n, e]
  | v => v
theorem Qlu (c x r : Int) (l : List Int) (p : List UInt8) : ∃ (b : List UInt8) (e : Int), QhK c x r l p = .tup [bs b, .int .i64 e] ∧ QuB c x r l p = .tup [.int .i64 b.length, .int .i64 e] := by
  unfold QuB QhK
  split
  · exact ⟨[], 8, rfl, rfl⟩
  split
  · exact ⟨[], 2, rfl, rfl⟩
  split
  · exact ⟨[], 8, rfl, rfl⟩
  · exact ⟨_, 0, rfl, rfl⟩
def QoO (P : Prg) (f : Nat) : Prop := ∀ (c x r : Int) (l : List Int) (p : List UInt8), I32 l → l.length ≤ 1000000 → VC P f [clA c x r l, .str p] (QuB c x r l p)
theorem Qn6 {P : Prg} {f fF t0 : Nat} (bd : Qj P f 17 [.tmp 4, .tmp 5] (Qbc fF t0)) (hF : QkB P fF) : QoO P f := by
  intro c x r l p hI hl
  obtain ⟨b, e, h1, h2⟩ := Qlu c x r l p
  rw [h2]
  refine VC.of_acall (by simp [isDL, isD, QO, clA]) rfl (ACall.of_body bd (by simp) ?_)
  have hF' := hF c x r l p hI hl
  rw [h1] at hF'
  rw [clA, il] at hF' ⊢
  rw [bs] at hF'
  simp (maxSteps := 4000000) (disch := omega) only [rr, aop, cV, cV1, AV.one, Qb, okW, Qd, app, Qa, Qc, Qf, Qe, Qg, simprocAttr, Qbc]
  refine Qh.vc hF' ?_
  simp (maxSteps := 4000000) (disch := omega) only [rr, aop, cV, cV1, AV.one, Qb, okW, Qd, app, Qa, Qc, Qf, Qe, Qg, simprocAttr]
end Go.Am

namespace Go.Am
open Go.RowKit

/-! ### ref34.Frames -/

def Qt2 (P : Prg) (f : Nat) : Prop := ∀ (c x r : Int) (l : List Int) (p : List UInt8), I32 l → ZG c x r l = 0 → p.length ≤ 64 → VC P f [clA c x r l, .str p] (bss (Qp c x r l (ofK (ZT 0 p) 8)))
set_option maxHeartbeats 2000000 in
theorem QlE {P : Prg} {f fT fS fE t0 t1 t2 : Nat} (bd : Qj P f 66 [.tmp 4] (Z1 fT fS fE t0 t1 t2)) (hT : Qio P fT) (hS : QgW P fS) (hE : Qrl P fE) : Qt2 P f := by
  intro c x r l p hI h hp
  refine VC.of_walk 1 (by simp [isDL, isD, QO, clA]) (Qjp _) (ACall.of_body bd (by simp) ?_)
  have tl := Qt .i32 l
  have hT' := hT p
  rw [QcV, if_neg (by omega)] at hT'
  generalize hTT : ofK (ZT 0 p) 8 = T at *
  have hTl : T.length = 16 := by rw [← hTT]; simp [ofK]
  have hTI : I32 T := by rw [← hTT]; exact Qub _ _
  have hk : (ks .i32 T).length = 16 := by simp [Qk, hTl]
  have tt : (ks .i32 T).take 16 = ks .i32 T := Qn (by omega)
  have ot := XA .i32 T
  have hpl := Qdu c r l
  have hple := Qbm h
  have hfl := JY c x r l T
  have hfat := fun j (hj : j < (QL c r l).length) => Ql5 (c := c) (x := x) (r := r) (l := l) (T := T) hj
  have hask := fun j (hj : j < (QL c r l).length) => (Qbl h ((QL c r l).getD j []) (by rw [List.getD_eq_getElem?_getD, List.getElem?_eq_getElem hj]; exact List.getElem_mem _)).1
  have hpI := Qph h hI
  have hpk : ∀ j, ((QL c r l).getD j []).length ≤ 4000 := fun j => Qwp (fun q hq => (Qbl h q hq).2.1) j
  obtain ⟨k, n, rfl, k1, k2, hlen, hok, h4⟩ := JP h
  have hS' := hS r n hok
  have hk0 : (l.length : Int) / (k : Int) = n := by rw [hlen, Int.natCast_mul, Int.mul_ediv_cancel _ (by omega)]
  have hk3 : ((l.length : Int)).tdiv (k : Int) = n := by rw [Int.tdiv_eq_ediv_of_nonneg (by omega), hk0]
  have hq0 : (k : Int) ≠ 0 := by omega
  have hn4 : n ≤ 4000 := by have := hok.2.2.2.1; omega
  have hw : IntKind.i64.wrap ((l.length : Int) / (k : Int)) = n := by rw [hk0]; exact QaP (by omega) (by omega)
  have hn1 : 1 ≤ n := by have := hok.2.2.1; omega
  have hL1 : 1 ≤ (QC r).toNat := by have := Xd r; omega
  have hg : ∀ j, j < (QL k r l).length → (QL k r l).getD j [] = Qah ((QC r).toNat * k) l j := fun j hj => by
    unfold QL at hj ⊢
    rw [List.getD_eq_getElem?_getD, List.getElem?_map, List.getElem?_range (by simpa using hj)]
    simp only [Int.toNat_natCast, Option.map_some, Option.getD_some]
  rw [Int.toNat_natCast, hlen, Nat.mul_div_cancel _ (by omega)] at hpl
  have hpf := fun j (hj : j < (QY (QC r).toNat n).length) => QeS (j := j) hlen hn1 hL1 hj
  generalize hLk : (QC r).toNat * k = Lk at *
  generalize QY (QC r).toNat n = LL at *
  generalize Qp k x r l T = FF at *
  generalize QL k r l = S at *
  have kn : (ks .i64 LL).length = S.length := by rw [Qk, hpl]
  rw [Qhn, ← hpl] at hS'
  rw [bss, hfl]
  simp only [clA, il] at hT' ⊢
  have tF := fun j => QaU (FF.take j)
  simp (maxSteps := 4000000) (disch := omega) only [rr, aop, cV, cV1, AV.one, Qb, okW, Qd, app, Qa, Qc, Qf, Qe, Qg, simprocAttr, Z1]
  refine Qh.vc hT' ?_
  simp (maxSteps := 4000000) (disch := omega) only [rr, aop, cV, cV1, AV.one, Qb, okW, Qd, app, Qa, Qc, Qf, Qe, Qg, simprocAttr, hk, ot, tt]
  rw [hk0]
  refine Q2.vc hS' ?_
  simp (maxSteps := 4000000) (disch := omega) only [rr, aop, cV, cV1, AV.one, Qb, okW, Qd, app, Qa, Qc, Qf, Qe, Qg, simprocAttr]
  refine QJ.by (ι := Nat) (fun j => ⟨[(10, .int .i64 j), (9, .int .i64 (min (j * Lk) (n * k) : Nat)), (8, .own 2 j), (7, .list S.length (ks .i64 LL)), (5, .ref 1 1 0), (2, .ref 0 1 0)],
    [⟨t0, 4, 1, [.int .i64 k, .int .i64 x, .int .i64 r, .list l.length (ks .i32 l)], 0⟩, ⟨t1, 16, 1, ks .i32 T, 0⟩, ⟨t2, 1, j, (FF.take j).map bs, 0⟩]⟩) (fun j => j ≤ S.length) (fun j => S.length - j) 0
    (Le.trans (Le.virt 8 t2 1 (by omega) rfl) (Le.slots (by simp [Am.look]))) (by omega) ?_
  intro j hj
  have hmj : ((FF.take j).map bs).length = j := by rw [List.length_map, List.length_take]; omega
  by_cases hlt : j < S.length
  · obtain ⟨m, q1, q2, q3, q4, q5, q6, q7⟩ := hpf j (by omega)
    have e3 : (ks .i64 LL).drop j = .int .i64 (LL.getD j 0) :: (ks .i64 LL).drop (j + 1) := by
      have h := Qbn (K := .i64) (l := LL) (i := j) (by omega)
      rw [← J6] at h
      exact h
    have hsj : S.getD j [] = (l.drop (j * Lk)).take (m * k) := by rw [hg j hlt, q6]
    have hE' := hE k x T (S.getD j []) hTl hTI (hpI j)
    rw [Qwq (hask j hlt), ← (by have := hfat j hlt; rw [Int.toNat_natCast] at this; exact this : FF.getD j [] = Qho k x T (S.getD j []))] at hE'
    have hln : ((l.drop (j * Lk)).take (m * k)).length = m * k := by rw [List.length_take, List.length_drop, hlen]; omega
    have hcs : ((ks .i32 l).drop (j * Lk)).take (m * k) = ks .i32 (S.getD j []) := by rw [J6, QnS, hsj]
    have hsl : (S.getD j []).length = m * k := by rw [hsj, hln]
    have hw3 : (m : Int) * (k : Int) = ((m * k : Nat) : Int) := by simp
    rw [q1] at e3
    rw [q3]
    have hs1 : (FF.take j).map bs ++ [bs (FF.getD j [])] = (FF.take (j + 1)).map bs := by
      rw [List.take_succ_eq_append_getElem (by omega), List.map_append]
      simp [List.getD_eq_getElem?_getD, List.getElem?_eq_getElem (show j < FF.length by omega)]
    simp only [shA, il, bs, hsl] at hE' hs1
    generalize S.getD j [] = Sj at *
    generalize FF.getD j [] = Fj at *
    have hnk : n * k ≤ 4000 := by omega
    generalize hA0 : j * Lk = A0 at *
    generalize hmk : m * k = MK at *
    generalize n * k = NK at *
    have hA : A0 + MK - A0 = MK := by omega
    simp (maxSteps := 4000000) (disch := omega) only [rr, aop, cV, cV1, AV.one, Qb, okW, Qd, app, Qa, Qc, Qf, Qe, Qg, simprocAttr, e3, kn, hw3, hmk, tt, hA, hcs]
    refine Q2.vc hE' ?_
    simp (maxSteps := 4000000) (disch := omega) only [rr, aop, cV, cV1, AV.one, Qb, okW, Qd, app, Qa, Qc, Qf, Qe, Qg, simprocAttr, hmj, hs1]
    refine ⟨j + 1, by omega, by omega, ?_⟩
    simp only [q5, Int.natCast_add]
    have tFT : isTL (List.take (j + 1) (List.map bs FF)) = true := by rw [← List.map_take]; exact QaU _
    exact Le.dropT [_, _, _] (by simp [Qt, isTL, isT, tl, tFT]) (by simp [Am.look, QS, frzL, QN, frzL_T _ (Qt .i64 LL)])
  · have ej : j = S.length := by omega
    subst ej
    have tF := QaU FF
    rw [show FF.take S.length = FF by rw [← hfl, List.take_length]]
    simp (maxSteps := 4000000) (disch := omega) only [rr, aop, cV, cV1, AV.one, Qb, okW, Qd, app, Qa, Qc, Qf, Qe, Qg, simprocAttr, kn]
    simp [Zu, QS, frzL, QN, frzL_T _ tF]
end Go.Am

namespace Go.Am
open Go.RowKit

/-! ### ref34.Bytes, File, Size -/

theorem QpE {B : Nat} : ∀ L : List (List UInt8), (∀ b ∈ L, b.length ≤ B) → L.flatten.length ≤ L.length * B
  | [], _ => by simp
  | b :: L, h => by
    have h1 := QpE L fun q hq => h q (List.mem_cons_of_mem _ hq)
    have h2 := h b List.mem_cons_self
    rw [List.flatten_cons, List.length_append, List.length_cons, Nat.add_mul, Nat.one_mul]
    omega
def QwI (P : Prg) (f : Nat) : Prop := ∀ (c x r : Int) (l : List Int) (p : List UInt8), I32 l → ZG c x r l = 0 → p.length ≤ 64 → VC P f [clA c x r l, .str p] (bs (Qn2 c x r l p))
set_option maxHeartbeats 2000000 in
theorem Qnt {P : Prg} {f fF fO fB fW fT t0 t1 t2 : Nat} (bd : Qj P f 50 [.tmp 4] (Xi fF fO fB fW fT t0 t1 t2)) (hF : Qt2 P fF) (hO : Qt1 P fO) (hB : Qfk t1 P fB) (hW : QoH P fW) (hT : Qhh P fT) : QwI P f := by
  intro c x r l p hI h hp
  refine VC.of_walk 1 (by simp [isDL, isD, QO, clA]) (Zq _) (ACall.of_body bd (by simp) ?_)
  have tl := Qt .i32 l
  have hF' := hF c x r l p hI h hp
  have hO' := hO c x r l p h
  have hfr := Ql4 (T := ofK (ZT 0 p) 8) h hI
  have hfl := JY c x r l (ofK (ZT 0 p) 8)
  have hple := Qbm h
  have hhd := QpA p h
  obtain ⟨k, n, rfl, k1, k2, hlen, hok, h4⟩ := JP h
  have hk0 : (l.length : Int) / (k : Int) = n := by rw [hlen, Int.natCast_mul, Int.mul_ediv_cancel _ (by omega)]
  have hk1 : l.length / k = n := by rw [hlen, Nat.mul_div_cancel _ (by omega)]
  rw [hk0] at hO' hhd
  obtain ⟨f', c', x', r', n', e1, e2, e3, e4, e5, a1, a2, a3, a4, a5⟩ := QsW hhd
  have hB' := hB f' c' x' r' n' a1 a2 a3 a4 a5
  have hfile : Qn2 k x r l p = hdB f' c' x' r' n' ++ (QrO p ++ (ZJ (XQ (Qae (Qp k x r l (ofK (ZT 0 p) 8)))) ++ (Qp k x r l (ofK (ZT 0 p) 8)).flatten)) := by
    rw [Qn2, Int.toNat_natCast, hk1, e1, e3, e4]
    simp only [Int.toNat_natCast]
    rw [show k = c' by omega, show n = n' by omega]
  rw [hfile]
  have hW' := hW p (by omega)
  have hmem : ∀ b ∈ Qp k x r l (ofK (ZT 0 p) 8), b.length ≤ 1000000 := fun b hb => by
    obtain ⟨i, hi, rfl⟩ := List.mem_iff_getElem.1 hb
    have := hfr.2 i
    rw [List.getD_eq_getElem?_getD, List.getElem?_eq_getElem hi] at this
    exact this
  have hfla := QpE _ hmem
  have hll := Qem (Qp k x r l (ofK (ZT 0 p) 8))
  have hT' := hT (Qae (Qp k x r l (ofK (ZT 0 p) 8))) (by omega) (fun j hj => by rw [QsM (by omega)]; have := hfr.2 j; omega)
  have hlat := fun j hj => QsM (L := Qp k x r l (ofK (ZT 0 p) 8)) (k := j) hj
  have htb : (ZJ (XQ (Qae (Qp k x r l (ofK (ZT 0 p) 8))))).length ≤ 5000 := by rw [ZJ, List.length_append, Qi, QfP]; omega
  have hfr2 := hfr.2
  generalize Qp k x r l (ofK (ZT 0 p) 8) = FF at *
  generalize hTB : ZJ (XQ (Qae FF)) = TB at *
  have hHl : (hdB f' c' x' r' n').length = 22 := by
    rw [hdB, ZJ, List.length_append, Qi]
    simp [hdP, Qi]
  generalize hdB f' c' x' r' n' = HD at *
  have hfn : FF.length ≤ 1000 := by omega
  have hfla2 : FF.flatten.length ≤ 1000000000 := by
    have : FF.length * 1000000 ≤ 1000 * 1000000 := Nat.mul_le_mul_right _ hfn
    omega
  rw [Qhn, hll] at hT'
  have tL := Qt .i64 (Qae FF)
  have tX := QT (HD ++ (QrO p ++ (TB ++ FF.flatten)))
  have hmf : (FF.map bs).length = FF.length := by simp
  rw [hdA, ← e1, ← e2, ← e3, ← e4, ← e5] at hB'
  rw [hdA] at hO'
  rw [bss] at hF'
  simp only [clA, il] at hF' hO' ⊢
  simp (maxSteps := 4000000) (disch := omega) only [rr, aop, cV, cV1, AV.one, Qb, okW, Qd, app, Qa, Qc, Qf, Qe, Qg, simprocAttr, Xi]
  refine Qh.vc hF' ?_
  simp (maxSteps := 4000000) (disch := omega) only [rr, aop, cV, cV1, AV.one, Qb, okW, Qd, app, Qa, Qc, Qf, Qe, Qg, simprocAttr]
  refine Qh.vc hO' ?_
  simp (maxSteps := 4000000) (disch := omega) only [rr, aop, cV, cV1, AV.one, Qb, okW, Qd, app, Qa, Qc, Qf, Qe, Qg, simprocAttr]
  rw [← hHl] at hB'
  have hgo : ∀ HS : List UInt8, HS.length ≤ 30 → True := fun _ _ => trivial
  refine Qh.vo hB' ?_
  by_cases hn : p = []
  have hsb : QrO p = [] := by rw [QrO, if_pos hn]
  have hs : QmM .neq p [] = some (.bool false) := by simp [QmM, hn]
  rw [hsb, List.nil_append] at tX ⊢
  have hHS : 22 ≤ HD.length ∧ HD.length ≤ 30 := by omega
  clear hgo hB' hHl hfile
  generalize HD = HS at *
  simp (maxSteps := 4000000) (disch := omega) only [rr, aop, cV, cV1, AV.one, Qb, okW, Qd, app, Qa, Qc, Qf, Qe, Qg, simprocAttr, shr, hs]
  rotate_left
  have hsb : QrO p = leB (ZT 0 p) 8 := by rw [QrO, if_neg hn]
  have hs : QmM .neq p [] = some (.bool true) := by simp [QmM, hn]
  rw [hsb] at tX ⊢
  have l8 : (leB (ZT 0 p) 8).length = 8 := Qi _ _
  have v8 : (u8 (leB (ZT 0 p) 8)).length = 8 := by rw [QA, l8]
  rw [bs, l8] at hW'
  generalize leB (ZT 0 p) 8 = SB at *
  have hcat : u8 HD ++ u8 SB = u8 (HD ++ SB) := by simp [u8]
  have hlen : HD.length + SB.length = (HD ++ SB).length := by rw [List.length_append]
  have hHS : 22 ≤ (HD ++ SB).length ∧ (HD ++ SB).length ≤ 30 := by omega
  rw [← List.append_assoc] at tX ⊢
  clear hgo hB'
  simp (maxSteps := 4000000) (disch := omega) only [rr, aop, cV, cV1, AV.one, Qb, okW, Qd, app, Qa, Qc, Qf, Qe, Qg, simprocAttr, shr, hs]
  refine Qh.vc hW' ?_
  simp (maxSteps := 4000000) (disch := omega) only [rr, aop, cV, cV1, AV.one, Qb, okW, Qd, app, Qa, Qc, Qf, Qe, Qg, simprocAttr, v8, hcat, hlen]

  have hlen8 : HD.length + 8 = (HD ++ SB).length := by rw [List.length_append, l8]
  rw [hlen8]
  generalize HD ++ SB = HS at *
  rotate_left
  all_goals
    refine QJ.by (ι := Nat) (fun j => ⟨[(9, .int .i64 j), (8, .own 3 (FF.take j).flatten.length), (7, .own 2 j), (6, .own 1 HS.length), (5, .list FF.length (FF.map bs))], [⟨t0, 4, 1, [.int .i64 k, .int .i64 x, .int .i64 r, .list l.length (ks .i32 l)], 0⟩, ⟨t1, 1, HS.length, u8 HS, 1⟩, ⟨t2, 1, j, ks .i64 ((Qae FF).take j), 0⟩, ⟨t1, 1, (FF.take j).flatten.length, u8 (FF.take j).flatten, 0⟩]⟩) (fun j => j ≤ FF.length) (fun j => FF.length - j) 0
      (Le.trans (Le.virt 7 t2 1 (by omega) rfl) (Le.trans (Le.virt 8 t1 1 (by omega) rfl) (Le.slots (by simp [Am.look, u8])))) (by omega) ?_
    intro j hj
    have hle : (FF.take j).flatten.length ≤ FF.flatten.length := by
      conv => rhs; rw [← List.take_append_drop j FF, List.flatten_append, List.length_append]
      omega
    have hjl : (ks .i64 ((Qae FF).take j)).length = j := by rw [Qk, List.length_take, hll]; omega
    by_cases hlt : j < FF.length
    · have e1 := QtH (L := FF) (k := j) hlt
      have hs2 : (FF.take (j + 1)).flatten = (FF.take j).flatten ++ FF.getD j [] := by
        rw [List.take_succ_eq_append_getElem hlt, List.flatten_append]
        simp [List.getD_eq_getElem?_getD, List.getElem?_eq_getElem hlt]
      have hb2 := hfr2 j
      have hq : (Qae FF)[j]? = some ((FF.getD j []).length : Int) := by simp [Qae, List.getD_eq_getElem?_getD, List.getElem?_eq_getElem hlt]
      have hks : ks .i64 ((Qae FF).take j) ++ [.int .i64 ((FF.getD j []).length : Int)] = ks .i64 ((Qae FF).take (j + 1)) := by
        rw [List.take_add_one, hq]
        simp [ks]
      have hc2 : u8 (FF.take j).flatten ++ u8 (FF.getD j []) = u8 (FF.take (j + 1)).flatten := by rw [hs2]; simp [u8]
      have hl2 : (FF.take j).flatten.length + (FF.getD j []).length = (FF.take (j + 1)).flatten.length := by rw [hs2, List.length_append]
      have hbl : (u8 (FF.getD j [])).length = (FF.getD j []).length := QA _
      rw [bs] at e1
      generalize hY : (FF.take (j + 1)).flatten = Y at *
      generalize FF.getD j [] = b at *
      generalize (FF.take j).flatten = X at *
      simp (maxSteps := 4000000) (disch := omega) only [rr, aop, cV, cV1, AV.one, Qb, okW, Qd, app, Qa, Qc, Qf, Qe, Qg, simprocAttr, e1, hmf, hbl, hjl, hks, hc2, hl2]
      refine ⟨j + 1, by omega, by omega, ?_⟩
      simp only [hY]
      exact Le.dropT [_, _, _, _] (by simp [Qt, isTL, isT, tl, QT]) (by simp [Am.look, QS, frzL, QN, frzL_T _ (QaU FF)])
    · have ej : j = FF.length := by omega
      subst ej
      have tH := QT HS
      rw [List.take_length, show (Qae FF).take FF.length = Qae FF by rw [← hll, List.take_length]]
      have ht1 : (u8 TB).length = TB.length := QA _
      have ht2 : (u8 FF.flatten).length = FF.flatten.length := QA _
      rw [bs] at hT' ⊢
      have hk1 : u8 HS ++ u8 TB = u8 (HS ++ TB) := by simp [u8]
      have hk2 : u8 (HS ++ TB) ++ u8 FF.flatten = u8 (HS ++ (TB ++ FF.flatten)) := by simp [u8]
      have hk3 : HS.length + TB.length + FF.flatten.length = (HS ++ (TB ++ FF.flatten)).length := by simp only [List.length_append]; omega
      have hHT : 22 ≤ (HS ++ TB).length := by rw [List.length_append]; omega
      generalize HS ++ (TB ++ FF.flatten) = XX at *
      generalize FF.flatten = ZZ at *
      generalize HS ++ TB = HT at *
      simp (maxSteps := 4000000) (disch := omega) only [rr, aop, cV, cV1, AV.one, Qb, okW, Qd, app, Qa, Qc, Qf, Qe, Qg, simprocAttr]
      refine Qh.still 1 [2] hT' (by simp [Zu, QS, frzL, QN, frzL_T _ tL]) ?_
      simp (maxSteps := 4000000) (disch := omega) only [rr, aop, cV, cV1, AV.one, Qb, okW, Qd, app, Qa, Qc, Qf, Qe, Qg, simprocAttr, Qv, ht1, ht2, hk1, hk2, hk3]
      simp [Zu, QS, frzL, QN, frzL_T _ tX]
end Go.Am

namespace Go.Am
open Go.RowKit

/-! ### ref34.File, Size -/

def QhJ (c x r : Int) (l : List Int) (p : List UInt8) : AV :=
  if ZG c x r l ≠ 0 then .tup [.list 0 [], .int .i64 8] else if 64 < p.length then .tup [.list 0 [], .int .i64 2] else .tup [bs (Qn2 c x r l p), .int .i64 0]
theorem QsU (c x r : Int) (l : List Int) (p : List UInt8) : isD (QhJ c x r l p) = true := by
  unfold QhJ
  repeat' split
  all_goals simp [isD, isDL, Zq]
def Qkq (P : Prg) (f : Nat) : Prop := ∀ (c x r : Int) (l : List Int) (p : List UInt8), I32 l → l.length ≤ 1000000 → VC P f [clA c x r l, .str p] (QhJ c x r l p)
theorem Qqi {P : Prg} {f fC fB t0 : Nat} (bd : Qj P f 18 [.tmp 4, .tmp 5] (Q5 fC fB t0)) (hC : Je P fC) (hB : QwI P fB) : Qkq P f := by
  intro c x r l p hI hl
  refine VC.of_walk 1 (by simp [isDL, isD, QO, clA]) (QsU _ _ _ _ _) (ACall.of_body bd (by simp) ?_)
  have hC' := hC c x r l hI hl
  have hB' := hB c x r l p hI
  rw [il] at hC'
  rw [clA, il] at hB' ⊢
  rcases QaD c x r l with h | h
  case inr =>
    rw [h] at hC'
    rw [QhJ, if_pos (by omega)]
    simp (maxSteps := 4000000) (disch := omega) only [rr, aop, cV, cV1, AV.one, Qb, okW, Qd, app, Qa, Qc, Qf, Qe, Qg, simprocAttr, Q5]
    refine Qh.vc hC' ?_
    simp (maxSteps := 4000000) (disch := omega) only [rr, aop, cV, cV1, AV.one, Qb, okW, Qd, app, Qa, Qc, Qf, Qe, Qg, simprocAttr]
    simp [Zu, QS, frzL, QN]
  rw [h] at hC'
  rw [QhJ, if_neg (by omega)]
  by_cases hp : 64 < p.length
  · rw [if_pos hp]
    simp (maxSteps := 4000000) (disch := omega) only [rr, aop, cV, cV1, AV.one, Qb, okW, Qd, app, Qa, Qc, Qf, Qe, Qg, simprocAttr, Q5]
    refine Qh.vc hC' ?_
    simp (maxSteps := 4000000) (disch := omega) only [rr, aop, cV, cV1, AV.one, Qb, okW, Qd, app, Qa, Qc, Qf, Qe, Qg, simprocAttr]
    simp [Zu, QS, frzL, QN]
  · rw [if_neg hp]
    have hB2 := hB' h (by omega)
    have tb := QT (Qn2 c x r l p)
    rw [bs] at hB2 ⊢
    simp (maxSteps := 4000000) (disch := omega) only [rr, aop, cV, cV1, AV.one, Qb, okW, Qd, app, Qa, Qc, Qf, Qe, Qg, simprocAttr, Q5]
    refine Qh.vc hC' ?_
    simp (maxSteps := 4000000) (disch := omega) only [rr, aop, cV, cV1, AV.one, Qb, okW, Qd, app, Qa, Qc, Qf, Qe, Qg, simprocAttr]
    refine Qh.vc hB2 ?_
    simp (maxSteps := 4000000) (disch := omega) only [rr, aop, cV, cV1, AV.one, Qb, okW, Qd, app, Qa, Qc, Qf, Qe, Qg, simprocAttr]
    simp [Zu, QS, frzL, QN, frzL_T _ tb]
def QuA (c x r : Int) (l : List Int) (p : List UInt8) : AV := match QhJ c x r l p with
  | .tup [.list n _, e] => .tup [.int .i64 n, e]
  | v => v
theorem QeO (c x r : Int) (l : List Int) (p : List UInt8) : ∃ (b : List UInt8) (e : Int), QhJ c x r l p = .tup [bs b, .int .i64 e] ∧ QuA c x r l p = .tup [.int .i64 b.length, .int .i64 e] := by
  unfold QuA QhJ
  split
  · exact ⟨[], 8, rfl, rfl⟩
  split
  · exact ⟨[], 2, rfl, rfl⟩
  · exact ⟨_, 0, rfl, rfl⟩
def QoL (P : Prg) (f : Nat) : Prop := ∀ (c x r : Int) (l : List Int) (p : List UInt8), I32 l → l.length ≤ 1000000 → VC P f [clA c x r l, .str p] (QuA c x r l p)
theorem Qqh {P : Prg} {f fF t0 : Nat} (bd : Qj P f 17 [.tmp 4, .tmp 5] (XC fF t0)) (hF : Qkq P fF) : QoL P f := by
  intro c x r l p hI hl
  obtain ⟨b, e, h1, h2⟩ := QeO c x r l p
  rw [h2]
  refine VC.of_acall (by simp [isDL, isD, QO, clA]) rfl (ACall.of_body bd (by simp) ?_)
  have hF' := hF c x r l p hI hl
  rw [h1] at hF'
  rw [clA, il] at hF' ⊢
  rw [bs] at hF'
  simp (maxSteps := 4000000) (disch := omega) only [rr, aop, cV, cV1, AV.one, Qb, okW, Qd, app, Qa, Qc, Qf, Qe, Qg, simprocAttr, XC]
  refine Qh.vc hF' ?_
  simp (maxSteps := 4000000) (disch := omega) only [rr, aop, cV, cV1, AV.one, Qb, okW, Qd, app, Qa, Qc, Qf, Qe, Qg, simprocAttr]
end Go.Am

namespace Go.Am
open Go.RowKit

/-! ### A valid clip's table is valid; the law EncodeFiles -/

theorem Qwr {c x : Int} {t l : List Int} (hL : I32 l) (h : QcO c x l = 0) : (Qho c.toNat x t l).length ≤ 11 * l.length + 5 := by
  obtain ⟨k, m, rfl, hkM, hx, e1, e2, e3, e4, e5, e6⟩ := Qka hL h
  have hvl := Qd0 k x t l
  obtain ⟨_, q2, _⟩ := Qbp (c := k) (Qiw k x t l) (QpX k x t l).length
  rw [Int.toNat_natCast, Qho, Qlz, QfW]
  unfold nB
  omega
theorem Qr0 : ∀ (l : List Int) (m : Int), (∀ v ∈ l, 5 ≤ v) → l.sum ≤ m → Qo3 m l
  | [], _, _, _ => trivial
  | n :: l, m, h, hs => by
    have h1 := h n List.mem_cons_self
    rw [List.sum_cons] at hs
    have hn : 0 ≤ l.sum := by
      have : ∀ l : List Int, (∀ v ∈ l, 5 ≤ v) → 0 ≤ l.sum := fun l => by
        induction l with
        | nil => intro _; simp
        | cons a l ih =>
          intro h
          have := h a List.mem_cons_self
          have := ih fun v hv => h v (List.mem_cons_of_mem _ hv)
          rw [List.sum_cons]; omega
      exact this l fun v hv => h v (List.mem_cons_of_mem _ hv)
    exact ⟨h1, by omega, Qr0 l (m - n) (fun v hv => h v (List.mem_cons_of_mem _ hv)) (by omega)⟩
theorem Qs4 {c x : Int} {T : List Int} : ∀ S : List (List Int), (∀ q ∈ S, I32 q ∧ QcO c x q = 0) → ((S.map (Qho c.toNat x T)).flatten.length ≤ 11 * S.flatten.length + 5 * S.length)
  | [], _ => by simp
  | q :: S, h => by
    have h1 := Qs4 (T := T) S fun p hp => h p (List.mem_cons_of_mem _ hp)
    obtain ⟨h2, h3⟩ := h q List.mem_cons_self
    have h4 := Qwr (t := T) h2 h3
    rw [List.map_cons, List.flatten_cons, List.flatten_cons, List.length_append, List.length_append, List.length_cons]
    omega
theorem QvQ {c x r : Int} {l T : List Int} (h : ZG c x r l = 0) (hI : I32 l) : skN (Qae (Qp c x r l T)) = 0 ∧ (Qp c x r l T).flatten.length ≤ 49000 := by
  have hple := Qbm h
  have hfl := JY c x r l T
  have hpl := Qdu c r l
  have hf := Qs4 (T := T) (QL c r l) fun q hq => ⟨QlP h hI q hq, (Qbl h q hq).1⟩
  rw [QeR h] at hf
  have h4 : l.length ≤ 4000 := by obtain ⟨_, _, _, _, _, _, _, h4⟩ := JP h; exact h4
  have hfr : (Qp c x r l T).flatten.length ≤ 49000 := by
    show ((QL c r l).map (Qho c.toNat x T)).flatten.length ≤ 49000
    omega
  have hll := Qem (Qp c x r l T)
  have h1 : 1 ≤ (Qp c x r l T).length := by rw [hfl, hpl, Xe]; exact Nat.le_add_left 1 _
  refine ⟨?_, hfr⟩
  rw [skN, if_neg (by omega), if_pos]
  refine Qr0 _ _ (fun v hv => ?_) (by rw [Qi5]; omega)
  obtain ⟨b, hb, rfl⟩ := List.mem_map.1 hv
  obtain ⟨q, hq, rfl⟩ := List.mem_map.1 (show b ∈ (QL c r l).map (Qho c.toNat x T) from hb)
  have := (Qta (t := T) (QlP h hI q hq) (Qbl h q hq).1).2
  omega
theorem Qs8 {c x r : Int} {l : List Int} {p : List UInt8} (hI : I32 l) : QhK c x r l p = QhJ c x r l p := by
  unfold QhK QhJ
  rcases QaD c x r l with h | h
  · have a : ¬ ZG c x r l ≠ 0 := by omega
    have b : ¬ skN (Qae (Qp c x r l (ofK (ZT 0 p) 8))) ≠ 0 := by rw [(QvQ h hI).1]; simp
    simp only [if_neg a, if_neg b]
  · have a : ZG c x r l ≠ 0 := by omega
    simp only [if_pos a]
theorem QvR {c x r : Int} {l : List Int} {p : List UInt8} (hI : I32 l) : QuB c x r l p = QuA c x r l p := by
  obtain ⟨b, e, h1, h2⟩ := Qlu c x r l p
  obtain ⟨b', e', h3, h4⟩ := QeO c x r l p
  have h5 := Qs8 (c := c) (x := x) (r := r) (p := p) hI
  rw [h1, h3] at h5
  simp only [bs, AV.tup.injEq, List.cons.injEq, AV.list.injEq, AV.int.injEq, true_and, and_true] at h5
  rw [h2, h4, h5.1.1, h5.2]

def Qiq (P : Prg) (f : Nat) : Prop := ∀ (c x r : Int) (l : List Int) (p : List UInt8), I32 l → VC P f [clA c x r l, .str p] (.bool true)
set_option maxHeartbeats 2000000 in
theorem QeZ {P : Prg} {f fG fT fF fR fS fZ fE t0 : Nat} (bd : Qj P f 72 [.tmp 4] (QE fG fT fF fR fS fZ fE t0)) (hG : Qg9 P fG) (hT : Qkh P fT) (hF : QkB P fF) (hR : Qkq P fR) (hS : QoO P fS) (hZ : QoL P fZ) (hE : Qkn P fE) : Qiq P f := by
  intro c x r l p hI
  refine VC.of_acall (by simp [isDL, isD, QO, clA]) rfl (ACall.of_body bd (by simp) ?_)
  have hG' := hG c x r l
  by_cases hg : (decide (300 < l.length) && decide (l.length ≤ 4000) || decide (4010 < l.length)) = true
  · rw [hg] at hG'
    rw [clA, il] at hG' ⊢
    simp (maxSteps := 4000000) (disch := omega) only [rr, aop, cV, cV1, AV.one, Qb, okW, Qd, app, Qa, Qc, Qf, Qe, Qg, simprocAttr, QE]
    refine Qh.vc hG' ?_
    simp (maxSteps := 4000000) (disch := omega) only [rr, aop, cV, cV1, AV.one, Qb, okW, Qd, app, Qa, Qc, Qf, Qe, Qg, simprocAttr]
  have hg' : (decide (300 < l.length) && decide (l.length ≤ 4000) || decide (4010 < l.length)) = false := by simpa using hg
  rw [hg'] at hG'
  have h4 : l.length ≤ 4010 := by
    simp only [Bool.or_eq_false_iff, decide_eq_false_iff_not] at hg'
    omega
  by_cases hp : 200 < p.length
  · rw [clA, il] at hG' ⊢
    simp (maxSteps := 4000000) (disch := omega) only [rr, aop, cV, cV1, AV.one, Qb, okW, Qd, app, Qa, Qc, Qf, Qe, Qg, simprocAttr, QE]
    refine Qh.vc hG' ?_
    simp (maxSteps := 4000000) (disch := omega) only [rr, aop, cV, cV1, AV.one, Qb, okW, Qd, app, Qa, Qc, Qf, Qe, Qg, simprocAttr]
  have hT' := hT c x r l (by omega)
  have hF' := hF c x r l p hI (by omega)
  have hR' := hR c x r l p hI (by omega)
  have hS' := hS c x r l p hI (by omega)
  have hZ' := hZ c x r l p hI (by omega)
  rw [Qs8 hI] at hF'
  rw [QvR hI] at hS'
  obtain ⟨b, e, e1, e2⟩ := QeO c x r l p
  rw [e1] at hF' hR'
  rw [e2] at hS' hZ'
  have hE' := hE c x r c x r l l (by omega) (by omega)
  have hd := QjD b
  have hs1 : QmM .eql b b = some (.bool true) := by simp [QmM]
  simp only [and_self, decide_true] at hE'
  rw [bs] at hF' hR'
  simp only [clA, il] at hG' hT' hF' hR' hS' hZ' hE' ⊢
  simp (maxSteps := 4000000) (disch := omega) only [rr, aop, cV, cV1, AV.one, Qb, okW, Qd, app, Qa, Qc, Qf, Qe, Qg, simprocAttr, QE]
  refine Qh.vc hG' ?_
  simp (maxSteps := 4000000) (disch := omega) only [rr, aop, cV, cV1, AV.one, Qb, okW, Qd, app, Qa, Qc, Qf, Qe, Qg, simprocAttr]
  refine Qh.vc hT' ?_
  simp (maxSteps := 4000000) (disch := omega) only [rr, aop, cV, cV1, AV.one, Qb, okW, Qd, app, Qa, Qc, Qf, Qe, Qg, simprocAttr]
  refine Qh.vc hF' ?_
  simp (maxSteps := 4000000) (disch := omega) only [rr, aop, cV, cV1, AV.one, Qb, okW, Qd, app, Qa, Qc, Qf, Qe, Qg, simprocAttr]
  refine Qh.vc hR' ?_
  simp (maxSteps := 4000000) (disch := omega) only [rr, aop, cV, cV1, AV.one, Qb, okW, Qd, app, Qa, Qc, Qf, Qe, Qg, simprocAttr]
  refine Qh.vc hS' ?_
  simp (maxSteps := 4000000) (disch := omega) only [rr, aop, cV, cV1, AV.one, Qb, okW, Qd, app, Qa, Qc, Qf, Qe, Qg, simprocAttr]
  refine Qh.vc hZ' ?_
  simp (maxSteps := 4000000) (disch := omega) only [rr, aop, cV, cV1, AV.one, Qb, okW, Qd, app, Qa, Qc, Qf, Qe, Qg, simprocAttr, hd, hs1]
  refine Qh.vc hE' ?_
  simp (maxSteps := 4000000) (disch := omega) only [rr, aop, cV, cV1, AV.one, Qb, okW, Qd, app, Qa, Qc, Qf, Qe, Qg, simprocAttr]
end Go.Am

namespace Go.Am
open Go.RowKit

/-! ### A clip cs0 an argument -/

def Qx2 : Sh := .tuple [.int .i64, .int .i64, .int .i64, .slice (.int .i32)]
theorem Qs6 {cs0 : List AV} (h : QbW Qx2 cs0) : ∃ (c x r : Int) (l : List Int), cs0 = [.int .i64 c, .int .i64 x, .int .i64 r, il l] ∧ I32 l := by
  simp only [Qx2, QbW, FitsL] at h
  obtain ⟨_, _, rfl, ⟨c, rfl, _⟩, _, _, rfl, ⟨x, rfl, _⟩, _, _, rfl, ⟨r, rfl, _⟩, _, _, rfl, ⟨L, rfl, _, h2⟩, rfl⟩ := h
  obtain ⟨l, _, e2, hi⟩ := Ql7 (L := L) (fun c hc => by simp only [QbW]; exact h2 c hc)
  exact ⟨c, x, r, l, by simp [e2], hi⟩
end Go.Am
