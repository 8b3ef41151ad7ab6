/- What the functions that the law reaches return, for every program that has their code; the conditions stand in each statement. -/
import Derived.Test.YtapimafdnjankaaGreatDoorClipBackL2
set_option linter.unusedSectionVars false
set_option linter.unusedSimpArgs false
set_option linter.unusedVariables false
namespace Go.Am
open Go.RowKit

/-! ### clip.parts: the iterator -/

def Zn (Lc : Nat) (l : List Int) (j : Nat) : List Int := (l.drop (j * Lc)).take Lc

def Qdj (t : Nat) (P : Prg) (f : Nat) : Prop := ∀ (k n : Nat) (x r : Int) (l : List Int), 1 ≤ k → k ≤ 1000 → l.length = n * k → okA r n →
  Qrv P f [.int .i64 k, .int .i64 x, .int .i64 r, il l] [t] (cnt := (QN (Qy r).toNat n).length) (fun j => il (Zn ((Qy r).toNat * k) l j.1))

theorem QbP {X : Cx} {a : Act} : ∀ i, Rep X (look [] i) (a.tmps.getD i undef) := fun i => by simp only [look, Rep]
theorem QP {X : Cx} {a : Act} {fr : List (Nat × AV)} {j : Nat} {v : AV} (h : Rep X v (a.tmps.getD j undef)) (g : ∀ i, Rep X (look fr i) (a.tmps.getD i undef)) : ∀ i, Rep X (look ((j, v) :: fr) i) (a.tmps.getD i undef) := fun i => by
  simp only [look]
  split
  · rename_i e; subst e; exact h
  · exact g i

theorem Qv1 {N : Nat} {fr : List (Nat × AV)} {a : Act} {W : World} (hd : a.defers = []) (hz : a.tmps.size = N) (h : ∀ i, Rep ⟨W, [], [], fun _ _ => False⟩ (look fr i) (a.tmps.getD i undef)) : Sim ⟨W.heap.size, ⟨W, [], [], fun _ _ => False⟩, N, []⟩ ⟨fr, []⟩ a W :=
  ⟨hd, hz, Below.refl _ _, [], ⟨rfl, by simp, by simp, by simp, fun _ _ h => h.elim, Nat.le_refl _⟩, Moves.refl _, h⟩

theorem JM {W W' : World} (h : Below W.heap.size W W') : W.grownBy W' none := ⟨h.os, h.tape, h.output, h.size, fun k hk _ => h.block k hk⟩

theorem Qdw {k n L j : Nat} {l : List Int} (hl : l.length = n * k) (hn : 1 ≤ n) (hL : 1 ≤ L) (hj : j < (QN L n).length) :
    ∃ m : Nat, (QN L n).getD j 0 = m ∧ m ≤ n ∧ min (j * (L * k)) (n * k) = j * (L * k) ∧ j * (L * k) ≤ n * k ∧ min ((j + 1) * (L * k)) (n * k) = j * (L * k) + m * k ∧ Zn (L * k) l j = (l.drop (j * (L * k))).take (m * k) ∧ j * (L * k) + m * k ≤ n * k := by
  rw [Z9] at hj
  have g0 : (n - 1) / L * L ≤ n - 1 := Nat.div_mul_le_self _ _
  have g2 : n - 1 < (n - 1) / L * L + L := Nat.lt_div_mul_add (by omega)
  have g1 : j * L ≤ (n - 1) / L * L := Nat.mul_le_mul_right _ (by omega)
  have e0 : j * (L * k) = j * L * k := by rw [Nat.mul_assoc]
  have e1 : (j + 1) * (L * k) = (j * L + L) * k := by rw [← Nat.mul_assoc, Nat.add_mul, Nat.one_mul]
  have h3 : j * L * k ≤ n * k := Nat.mul_le_mul_right _ (by omega)
  by_cases hq : j < (n - 1) / L
  · have g3 : (j + 1) * L ≤ (n - 1) / L * L := Nat.mul_le_mul_right _ (by omega)
    rw [Nat.add_mul, Nat.one_mul] at g3
    have h7 : j * L + L ≤ n := Nat.le_trans g3 (Nat.le_trans g0 (Nat.sub_le _ _))
    have h4 : (j * L + L) * k ≤ n * k := Nat.mul_le_mul_right _ h7
    refine ⟨L, ?_, by omega, by rw [e0]; exact Nat.min_eq_left h3, by rw [e0]; exact h3, by rw [e1, e0, Nat.min_eq_left h4, Nat.add_mul], rfl, by rw [e0, ← Nat.add_mul]; exact h4⟩
    unfold QN
    rw [List.getD_eq_getElem?_getD, List.getElem?_append_left (by simpa using hq), List.getElem?_replicate, if_pos hq]
    rfl
  · have hjq : j = (n - 1) / L := by omega
    have h7 : n ≤ j * L + L := by rw [hjq]; generalize (n - 1) / L * L = w at *; omega
    have h8 : n - j * L ≤ L := by omega
    have h4 : n * k ≤ (j * L + L) * k := Nat.mul_le_mul_right _ h7
    have h5 : j * L * k + (n - j * L) * k = n * k := by rw [← Nat.add_mul]; congr 1; omega
    refine ⟨n - j * L, ?_, Nat.sub_le _ _, by rw [e0]; exact Nat.min_eq_left h3, by rw [e0]; exact h3, by rw [e1, e0, Nat.min_eq_right h4, h5], ?_, by rw [e0, h5]; exact Nat.le_refl _⟩
    · unfold QN
      rw [List.getD_eq_getElem?_getD, List.getElem?_append_right (by simp; omega)]
      simp only [List.length_replicate, ← hjq, Nat.sub_self, List.getElem?_cons_zero, Option.getD_some]
      omega
    · unfold Zn
      have h6 : (l.drop (j * (L * k))).length = (n - j * L) * k := by rw [List.length_drop, hl, e0]; omega
      rw [List.take_of_length_le (by rw [h6]; exact Nat.mul_le_mul_right _ h8), List.take_of_length_le (by rw [h6]; exact Nat.le_refl _)]
theorem Qqy {m j : Nat} (h : j < m) : (List.finRange m).take (j + 1) = (List.finRange m).take j ++ [⟨j, h⟩] := by
  rw [List.take_succ_eq_append_getElem (by simpa using h)]
  simp

theorem Qsm (L n : Nat) : 1 ≤ (QN L n).length := by rw [Z9]; exact Nat.le_add_left 1 _

set_option maxHeartbeats 1000000 in
theorem Qld {P : Prg} {f fA t0 : Nat} (bd : Qj P f 43 [] (ZN fA)) (hA : Qm2 t0 P fA) : Qdj t0 P f := by
  intro k n x r l hk1 hk2 hl hok
  obtain ⟨L, hL⟩ : ∃ L, (Qy r).toNat = L := ⟨_, rfl⟩
  have hL1 : 1 ≤ L := by have := Z8 r; omega
  obtain ⟨a1, a2, a3, a4, a5⟩ := hok
  have hn1 : 1 ≤ n := by omega
  have hn2 : n ≤ 4000 := by omega
  have hA' := hA r n ⟨a1, a2, a3, a4, a5⟩
  rw [hL, Int.toNat_natCast] at hA' a5
  rw [hL]
  refine ⟨fun j => QI _, fun w C v1 hv1 hex hG => ?_⟩
  have hv1' := hv1
  simp only [Rep] at hv1
  obtain ⟨b, o, vs, hv1e, hat, hvs⟩ := hv1
  simp only [RepL] at hvs
  obtain ⟨u0, q0, rfl, hu0, u1, q1, rfl, hu1, u2, q2, rfl, hu2, u3, q3, rfl, hu3, rfl⟩ := hvs
  have hu0' := hu0
  have hu3' := hu3
  simp only [Rep] at hu0 hu1 hu2
  rw [il] at hu3
  simp only [Rep] at hu3
  obtain ⟨sa, cap, ws, e3, hcap, hws, hwr⟩ := hu3
  rw [hl] at hcap
  obtain ⟨atN, hatN⟩ : ∃ atN : Nat → Nat, ∀ j, atN j = min (j * (L * k)) (n * k) := ⟨_, fun _ => rfl⟩
  obtain ⟨cnt, hcnt⟩ : ∃ cnt, (QN L n).length = cnt := ⟨_, rfl⟩
  have hnk : n * k ≤ 4000000 := Nat.mul_le_mul hn2 hk2
  rw [hcnt] at hA' a5 ⊢
  have hcnt1 : 1 ≤ cnt := by rw [← hcnt]; exact Qsm _ _
  have pf : ∀ j, j < cnt → ∃ m : Nat, (QN L n).getD j 0 = m ∧ m ≤ n ∧ atN j = j * (L * k) ∧ atN (j + 1) = atN j + m * k ∧ Zn (L * k) l j = (l.drop (atN j)).take (m * k) ∧ atN j + m * k ≤ n * k := fun j hj => by
    obtain ⟨m, h1, h2, h3, h4, h5, h6, h7⟩ := Qdw (j := j) hl hn1 hL1 (by rw [hcnt]; exact hj)
    refine ⟨m, h1, h2, by rw [hatN]; exact h3, by rw [hatN, hatN, h3]; exact h5, by rw [hatN, h3]; exact h6, by rw [hatN, h3]; exact h7⟩
  have hun : ∀ {W' : World}, (∀ (b k : Nat) (v : Value), ¬ C b k → w.cell? ⟨b, k, none⟩ = some v → W'.cell? ⟨b, k, none⟩ = some v) → ∀ (c : AV) (v : Value), isD c = true → Rep ⟨w, [], [], C⟩ c v → Rep ⟨W', [], [], fun _ _ => False⟩ c v := fun h c v hd hr =>
    Rep.data (X := ⟨w, [], [], C⟩) (Y := ⟨_, [], [], fun _ _ => False⟩) (fun b k v hc ha => ⟨h b k v (fun h => ha (.inl h)) hc, fun h => by
      rcases h with h | ⟨o, x, c, h1, _⟩
      · exact h.elim
      · simp at h1⟩) c v hd hr
  have hlit : ∀ {W' : World}, (∀ (b k : Nat) (v : Value), ¬ C b k → w.cell? ⟨b, k, none⟩ = some v → W'.cell? ⟨b, k, none⟩ = some v) → Rep ⟨W', [], [], fun _ _ => False⟩ (.cell [.int .i64 k, .int .i64 x, .int .i64 r, .lit u3]) v1 := fun {W'} h => by
    have h1 : Rep ⟨w, [], [], C⟩ (.cell [.int .i64 k, .int .i64 x, .int .i64 r, .lit u3]) v1 := by
      simp only [Rep]
      exact ⟨b, o, _, hv1e, hat, by simp only [RepL, Rep]; exact ⟨u0, _, rfl, hu0, u1, _, rfl, hu1, u2, _, rfl, hu2, u3, _, rfl, rfl, rfl⟩⟩
    exact hun h _ _ rfl h1
  refine ⟨fun j => .slice (if cap = atN j.1 then sa else sa.map (·.add (atN j.1 * 1))) (atN (j.1 + 1) - atN j.1) (cap - atN j.1), fun j => ?rep, ?seq⟩
  case rep =>
    obtain ⟨m, h1, h2, h3, h4, h5, h6⟩ := pf j.1 j.2
    have g : Held 0 ⟨w, [], [], fun _ _ => False⟩ := ⟨rfl, by simp, by simp, by simp, fun _ _ h => h.elim, Nat.zero_le _⟩
    have e4 : ((atN (j.1 + 1) : Nat) - (atN j.1 : Nat) : Int).toNat = m * k := by omega
    have e5 : (Zn (L * k) l j.1).length = m * k := by rw [h5, List.length_take, List.length_drop, hl]; omega
    have hs : Qf [] 1 (il l) (atN j.1 : Nat) (atN (j.1 + 1) : Nat) = some (il (Zn (L * k) l j.1)) := by
      simp only [Qf, il]
      rw [if_pos (by omega), if_pos (by rw [hl]; simp [ks]; omega), e4, e5, h5]
      simp [ks, List.map_take, List.map_drop]
    have hr := Qkw (X := ⟨w, [], [], fun b k => C b k ∧ b < w.heap.size⟩) (B := w.heap.size) ⟨rfl, by simp, by simp, by simp, fun _ _ h => h.2, Nat.le_refl _⟩ (η := fun _ => .any) (ρ := fun _ => undef) (fun _ => by simp only [Rep]) (sz := 1) (n := l.length) (cs := ks .i32 l) (a := sa) (cap := cap) (m := cap) (by
      rw [← e3]
      exact Rep.data (X := ⟨w, [], [], C⟩) (Y := ⟨w, [], [], fun b k => C b k ∧ b < w.heap.size⟩) (fun b k v hc ha => ⟨hc, fun h => ha (by
        rcases h with h | ⟨o, x, c, h1, _⟩
        · exact .inl h.1
        · simp at h1)⟩) _ _ (QI l) hu3') rfl hs (by omega) (.inl (Nat.le_refl _))
    have hr2 := hr.2.2.2
    simp only [Int.toNat_natCast] at hr2
    exact Rep.data (X := ⟨w, [], [], fun b k => C b k ∧ b < w.heap.size⟩) (Y := ⟨w, [], [], C⟩) (fun b k v hc ha => ⟨hc, fun h => ha (by
      rcases h with h | ⟨o, x, c, h1, _⟩
      · exact .inl ⟨h, World.block_lt_of_cell? w _ hc⟩
      · simp at h1)⟩) _ _ (QI _) hr2
  case seq =>
    intro ll J Jx W hW hJ hJx hY hJ0
    have hkw : ∀ (b k : Nat) (v : Value), ¬ C b k → w.cell? ⟨b, k, none⟩ = some v → W.cell? ⟨b, k, none⟩ = some v := fun b k v _ hc => (hW.cell (p := ⟨b, k, none⟩) (World.block_lt_of_cell? w _ hc)).trans hc
    obtain ⟨fn, hf, hnm, hN, hrl, hc'⟩ := bd
    obtain ⟨c, hb, hc⟩ := Option.bind_eq_some_iff.1 hc'
    refine callsIn_of_wp hf hb trivial ?_ rfl
    rw [hN]
    unfold ZN at hc
    obtain ⟨c1, r1, rfl, hc1, hr1⟩ := Xb hc
    obtain ⟨c2, r2, rfl, hc2, hr2⟩ := Xb hr1
    obtain ⟨c3, c4, rfl, hc3, hc4⟩ := Xb hr2
    obtain ⟨c5, rfl, hc5⟩ := Qfv hc4
    obtain ⟨c6, rfl, hc6⟩ := Qoc hc5
    obtain ⟨d1, s1, rfl, hd1, hs1⟩ := Xb hc6
    obtain ⟨d2, s2, rfl, hd2, hs2⟩ := Xb hs1
    obtain ⟨y1, y2, rfl, hy1, hy2⟩ := QgL hd2
    obtain rfl := QgK hy1
    obtain rfl := Qod hy2
    obtain ⟨d3, d9, rfl, hd3, hd9⟩ := Xb hs2
    obtain ⟨d4, rfl, hd4⟩ := Qfv hd3
    obtain ⟨d5, s5, rfl, hd5, hs5⟩ := Xb hd4
    obtain ⟨d6, s6, rfl, hd6, hs6⟩ := Xb hs5
    obtain ⟨s7, d8, rfl, hs7, hd8⟩ := Xb hs6
    obtain ⟨d7, dc, rfl, hd7, hdc⟩ := Xb hs7
    obtain ⟨y3, y4, rfl, hy3, hy4⟩ := QgL hdc
    obtain rfl := Qq6 hy3
    obtain rfl := QgK hy4
    obtain ⟨id7, ops, rfl, hm7⟩ := Qjw hd7
    obtain ⟨l5, l3, hops, hm5, hm3⟩ := Qmt (q1 := [_, _, _, _, _]) hm7
    obtain ⟨oS, l2, rfl, hoS, hm2⟩ := Qms hm3
    obtain ⟨oY, l1, rfl, hoY, hm1⟩ := Qms hm2
    generalize hyv : (Value.func (.yield ll) #[] #[]) = yv at *
    let a0 : Act := { tmps := #[yv] ++ #[v1] ++ Array.replicate (43 - (#[yv] ++ #[v1]).size) undef, defers := [] }
    show Code.wpIn _ _ _ _ _ a0 _
    have z0 : a0.tmps.size = 43 := by simp [a0]
    have t00 : a0.tmps.getD 0 undef = yv := by simp [a0]
    have t01 : a0.tmps.getD 1 undef = v1 := by simp [a0]
    let C0 : Nat → Nat → Prop := fun b k => C b k ∧ b < W.heap.size
    have g0 : Held W.heap.size ⟨W, [ph2], [none], C0⟩ := by
      have g := (Held.empty (B := W.heap.size) (X := ⟨W, [], [], C0⟩) ⟨rfl, by simp, by simp, by simp, fun _ _ h => h.2, Nat.le_refl _⟩ 1 0).1
      exact g
    have hC0 : ∀ c v, isD c = true → Rep ⟨w, [], [], C⟩ c v → Rep ⟨W, [ph2], [none], C0⟩ c v := fun c v hd hr =>
      Rep.data (X := ⟨w, [], [], C⟩) (Y := ⟨W, [ph2], [none], C0⟩) (fun b k v hc ha => ⟨hkw b k v (fun h => ha (.inl h)) hc, fun h => by
        rcases h with h | ⟨o, x, c, h1, h2, _⟩
        · exact ha (.inl h.1)
        · rcases o with _ | o <;> simp at h2⟩) c v hd hr
    let Γ0 : Ctx := ⟨W.heap.size, ⟨W, [ph2], [none], C0⟩, 43, []⟩
    have hs0 : Sim Γ0 ⟨[(0, .lit yv), (1, .cell [.int .i64 k, .int .i64 x, .int .i64 r, il l])], [ph2]⟩ a0 W :=
      ⟨rfl, z0, Below.refl _ _, [none], g0, Moves.refl _, QP (by rw [t00]; simp only [Rep]) (QP (by rw [t01]; exact hC0 _ _ (by simp [isD, Qu, QI]) hv1') QbP)⟩
    have hF0 : Fit P 43 Γ0 := ⟨rfl, fun q cs hq => hC0 _ _ (by simp only [isD]; exact P.gd q cs hq) (hG q cs hq)⟩
    refine wpIn_seq ?_
    have hk0 : ((n * k : Nat) : Int) / (k : Int) = n := by
      rw [Int.natCast_mul, Int.mul_ediv_cancel _ (by omega)]
    have hk3 : ((n * k : Nat) : Int).tdiv (k : Int) = n := by rw [Int.tdiv_eq_ediv_of_nonneg (by omega), hk0]
    refine QqJ (Q := fun _ st' => st'.ob = [⟨t0, 1, cnt, ks .i64 (QN L n), 0⟩] ∧ look st'.fr 0 = .lit yv ∧ look st'.fr 3 = .own 0 cnt) hF0 hc1 1 (by rfl) t01 ?_ hs0 ?_
    · simp only [il]
      simp (maxSteps := 4000000) (disch := omega) only [rr, aop, cV, cV1, AV.one, Qb, okW, Qd, app, Qa, Qc, Qe, Qf, Qg, simprocAttr, hl, hk3, hk0]
      refine ⟨shr 0 (.tup [.own 0 cnt, .int .i64 0]), some (0, ⟨t0, 1, cnt, ks .i64 (QN L n), 0⟩), ?_, ?_⟩
      · unfold Qbd
        rw [if_pos rfl]
        exact ⟨ACall.of_vo_at hA' rfl ⟨rfl, rfl⟩, fun o x' e => by cases e; exact ⟨ph2, rfl, by simp [ph2, ph]⟩⟩
      · simp (maxSteps := 4000000) (disch := omega) only [rr, aop, cV, cV1, AV.one, Qb, okW, Qd, app, Qa, Qc, Qe, Qf, Qg, simprocAttr, shr]
    · intro st1 a1 W1 ⟨hob1, h10, h13⟩ hs1 t11
      show (Code.seq c2 _).wpIn Fence.wide 4 _ _ a1 W1
      let row : Ob := ⟨t0, 1, cnt, ks .i64 (QN L n), 0⟩
      have hs1' : Sim Γ0 ⟨[(0, .lit yv), (3, .own 0 cnt)], [row]⟩ a1 W1 := by
        have h : st1 = ⟨st1.fr, [row]⟩ := by rw [← hob1]
        rw [h] at hs1
        exact Le.slots (M := 1) (by simp [h10, h13]) Γ0 a1 W1 rfl hs1
      refine wpIn_seq ?_
      refine QaM (Q := fun _ st' => st' = ⟨[(5, .int .i64 0), (0, .lit yv), (3, .own 0 cnt)], [row]⟩) hF0 hc2 [(1, v1)] (by simp only [List.mem_singleton]; rintro _ rfl; exact ⟨rfl, t11⟩) (by simp (maxSteps := 4000000) (disch := omega) only [rr, aop, cV, cV1, AV.one, Qb, okW, Qd, app, Qa, Qc, Qe, Qf, Qg, simprocAttr]) hs1' ?_
      rintro _ a2 W2 rfl hs2 t2
      show (Code.seq c3 _).wpIn Fence.wide 4 _ _ a2 W2
      refine wpIn_seq ?_
      refine QaM (Q := fun _ st' => st' = ⟨[(23, .int .i64 0), (22, .int .i64 cnt), (21, .own 0 cnt), (5, .int .i64 0), (0, .lit yv), (3, .own 0 cnt)], [row]⟩) hF0 hc3 [(1, v1)] (by simp only [List.mem_singleton]; rintro _ rfl; exact ⟨rfl, t2 _ (by simp)⟩) (by simp (maxSteps := 4000000) (disch := omega) only [rr, aop, cV, cV1, AV.one, Qb, okW, Qd, app, Qa, Qc, Qe, Qf, Qg, simprocAttr, row]) hs2 ?_
      rintro _ a3 W3 rfl hs3 t3
      show (Code.block 0 (.loop _)).wpIn Fence.wide 4 _ _ a3 W3
      obtain ⟨f1, f2, f3, be, f4, f5, f6⟩ := hs3
      have f1' : a3.defers = [] := f1
      have f2' : a3.tmps.size = 43 := f2
      obtain ⟨e, he, hoke⟩ := f4.get (o := 0) (x := row) rfl
      have f21 := f6 21
      simp only [look, Nat.reduceEqDiff, if_false, if_true, Rep] at f21
      obtain ⟨⟨rw', hrw, _, _, hown⟩, _⟩ := f21
      have hrw' : row = rw' := by simpa using hrw
      subst hrw'
      have hown' := hown rfl
      have he' : be[0]? = some e := he
      simp only [he'] at hown'
      cases e with
      | none => exact absurd hoke.1 (by simp only [row]; omega)
      | some p =>
      obtain ⟨br, capr⟩ := p
      obtain ⟨cur, ⟨frz, hblk, _⟩, hcs, hnc, _, hcl, hcr, hone⟩ := hoke
      simp only [OwnV] at hown'
      have hblk' : W3.heap[br]? = some (.cells cur t0 frz) := hblk
      obtain ⟨sv, hsv⟩ : ∃ sv, sv = Value.slice (some ⟨br, 0, none⟩) cnt capr := ⟨_, rfl⟩
      have hcr' : ∀ {Y : Cx}, RepL Y (ks .i64 (QN L n)) (cur.toList.take cnt) := fun {Y} => by
        have h := RepL.flat (Y := Y) (by simp [row, ks, flat]) hcr
        have e : row.cs.length = cnt := by simp [row, ks, hcnt]
        rw [e] at h
        exact h
      have hrowR : ∀ {W' : World}, W'.heap[br]? = some (.cells cur t0 frz) → Rep ⟨W', [], [], fun _ _ => False⟩ (.list cnt (ks .i64 (QN L n))) sv := fun {W'} h => by
        simp only [Rep]
        refine ⟨_, _, cur.toList.take cnt, hsv, hnc, .inr ⟨br, 0, rfl, fun i v hv => ?_⟩, hcr'⟩
        rw [List.getElem?_take] at hv
        split at hv
        · have hv2 : cur[i]? = some v := by simpa using hv
          refine ⟨⟨by simp [World.cell?, h, hv2], fun h => ?_⟩, hone v (by
            obtain ⟨h1, h2⟩ := Array.getElem?_eq_some_iff.1 hv2
            rw [← h2]; simp)⟩
          rcases h with h | ⟨o, x, c, h1, _⟩
          · exact h.elim
          · simp at h1
        · cases hv
      have hJ3 : J [] W3 := hJ _ W W3 none hJ0 (JM f3) (fun r h => by cases h)
      refine wpIn_block ?_
      refine wpIn_loop (fun a W' => ∃ j, j ≤ cnt ∧ a.defers = [] ∧ a.tmps.size = 43 ∧ a.tmps.getD 0 undef = yv ∧ a.tmps.getD 1 undef = v1 ∧ a.tmps.getD 5 undef = .int .i64 (atN j : Nat) ∧ a.tmps.getD 21 undef = sv ∧ a.tmps.getD 22 undef = .int .i64 cnt ∧ a.tmps.getD 23 undef = .int .i64 j ∧
          W'.heap[br]? = some (.cells cur t0 frz) ∧ (∀ (b k : Nat) (v : Value), ¬ C b k → w.cell? ⟨b, k, none⟩ = some v → W'.cell? ⟨b, k, none⟩ = some v) ∧ J ((List.finRange cnt).take j) W')
        (fun a _ => match a.tmps.getD 23 undef with | .int _ z => cnt - z.toNat | _ => 0) ?_ ?_
      · refine ⟨0, Nat.zero_le _, f1', f2', ?_, t3 (1, v1) (by simp), ?_, by rw [hsv]; exact hown', ?_, ?_, hblk', ?_, hJ3⟩
        · have h := f6 0
          simpa [look, Rep] using h
        · have h := f6 5
          have e0 : atN 0 = 0 := by rw [hatN]; simp
          simpa [look, Rep, e0] using h
        · have h := f6 22
          simpa [look, Rep] using h
        · have h := f6 23
          simpa [look, Rep] using h
        · intro b k v hc hv
          have h := hkw b k v hc hv
          exact (f3.cell (p := ⟨b, k, none⟩) (World.block_lt_of_cell? W _ h)).trans h
      intro a Wj ⟨j, hj, i1, i2, i3, i4, i5, i6, i7, i8, i9, i10, i11⟩
      let ΓW : World → Ctx := fun W' => ⟨W'.heap.size, ⟨W', [], [], fun _ _ => False⟩, 43, []⟩
      have hF : ∀ {W' : World}, (∀ (b k : Nat) (v : Value), ¬ C b k → w.cell? ⟨b, k, none⟩ = some v → W'.cell? ⟨b, k, none⟩ = some v) → Fit P 43 (ΓW W') := fun {W'} h => ⟨rfl, fun q cs hq => hun h _ _ (by simp only [isD]; exact P.gd q cs hq) (hG q cs hq)⟩
      have hsA : Sim (ΓW Wj) ⟨[(0, .lit yv), (1, .cell [.int .i64 k, .int .i64 x, .int .i64 r, .lit u3]), (5, .int .i64 (atN j : Nat)), (21, .list cnt (ks .i64 (QN L n))), (22, .int .i64 cnt), (23, .int .i64 j)], []⟩ a Wj :=
        Qv1 i1 i2 (QP (by rw [i3]; simp only [Rep]) (QP (by rw [i4]; exact hlit i10) (QP (by rw [i5]; simp only [Rep]) (QP (by rw [i6]; exact hrowR i9) (QP (by rw [i7]; simp only [Rep]) (QP (by rw [i8]; simp only [Rep]) QbP))))))
      have hI : ∀ {qs : List AO} {a : Act}, Qfa 1 qs = true → Qfa 21 qs = true → a.tmps.getD 1 undef = v1 → a.tmps.getD 21 undef = sv → ∀ p ∈ [(1, v1), (21, sv)], Qfa p.1 qs = true ∧ a.tmps.getD p.1 undef = p.2 := fun h1 h2 h3 h4 p hp => by
        simp only [List.mem_cons, List.not_mem_nil, or_false] at hp
        rcases hp with rfl | rfl
        · exact ⟨h1, h3⟩
        · exact ⟨h2, h4⟩
      refine wpIn_seq ?_
      refine QaM (Q := fun _ st' => st' = ⟨[(24, .bool (decide ((j : Int) < cnt))), (0, .lit yv), (1, .cell [.int .i64 k, .int .i64 x, .int .i64 r, .lit u3]), (5, .int .i64 (atN j : Nat)), (21, .list cnt (ks .i64 (QN L n))), (22, .int .i64 cnt), (23, .int .i64 j)], []⟩) (hF i10) hd1 [(1, v1), (21, sv)] (hI rfl rfl i4 i6) (by simp (maxSteps := 4000000) (disch := omega) only [rr, aop, cV, cV1, AV.one, Qb, okW, Qd, app, Qa, Qc, Qe, Qf, Qg, simprocAttr]) hsA ?_
      rintro _ aB WB rfl hsB tB
      have bW : Below Wj.heap.size Wj WB := hsB.2.2.1
      show (Code.seq (.cond _ .skip (.exit 0)) _).wpIn Fence.wide 4 _ _ aB WB
      have h24 : aB.eval (.tmp 24) = .bool (decide ((j : Int) < cnt)) := by
        obtain ⟨_, _, _, _, _, _, h⟩ := hsB
        have h : Rep _ (.bool _) (aB.tmps.getD 24 undef) := h 24
        simp only [Rep] at h
        exact h
      refine wpIn_seq ?_
      by_cases hjc : j < cnt
      · have e24 : decide ((j : Int) < cnt) = true := by simp; omega
        rw [e24] at h24 hsB
        obtain ⟨m, p1, p2, p3, p4, p5, p6⟩ := pf j hjc
        have la : (ks .i64 (QN L n)).drop j = .int .i64 m :: (ks .i64 (QN L n)).drop (j + 1) := by
          have h := Qb0 (K := .i64) (l := QN L n) (i := j) (by omega)
          rw [p1, ← QaP] at h
          exact h
        refine wpIn_cond_true h24 (wpIn_skip ?_)
        show (Code.seq (.block 1 (.seq d5 _)) _).wpIn Fence.wide 4 _ _ aB WB
        obtain ⟨mk, hmk⟩ : ∃ mk, m * k = mk := ⟨_, rfl⟩
        rw [hmk] at p4 p5 p6
        have emk : (m : Int) * (k : Int) = mk := by rw [← hmk]; simp
        have e8 : ((atN j : Nat) : Int) + (mk : Int) = ((atN (j + 1) : Nat) : Int) := by omega
        obtain ⟨nk, hnk'⟩ : ∃ nk, n * k = nk := ⟨_, rfl⟩
        rw [hnk'] at p6 hnk hcap hl
        have hm4 : (m : Int) ≤ 4000 := by omega
        refine wpIn_seq (wpIn_block (wpIn_seq ?_))
        refine QaM (Q := fun _ st' => Le 0 st' ⟨[(7, .int .i64 m), (0, .lit yv), (1, .cell [.int .i64 k, .int .i64 x, .int .i64 r, .lit u3]), (5, .int .i64 (atN j : Nat)), (21, .list cnt (ks .i64 (QN L n))), (22, .int .i64 cnt), (23, .int .i64 j)], []⟩) (hF i10) hd5 [(1, v1), (21, sv)] (hI rfl rfl (tB (1, v1) (by simp)) (tB (21, sv) (by simp)))
          (by simp (maxSteps := 4000000) (disch := omega) only [rr, aop, cV, cV1, AV.one, Qb, okW, Qd, app, Qa, Qc, Qe, Qf, Qg, simprocAttr, la, Qk]; exact Le.slots (by simp [Am.look])) hsB ?_
        intro st5 a5 W5 hle5 hs5' t5
        have hs5 := hle5 _ _ _ rfl hs5'
        show (Code.seq d6 _).wpIn Fence.wide 4 _ _ a5 W5
        refine wpIn_seq ?_
        refine QaM (Q := fun _ st' => Le 0 st' ⟨[(8, .int .i64 (atN (j + 1) : Nat)), (0, .lit yv), (1, .cell [.int .i64 k, .int .i64 x, .int .i64 r, .lit u3]), (5, .int .i64 (atN j : Nat)), (21, .list cnt (ks .i64 (QN L n))), (22, .int .i64 cnt), (23, .int .i64 j)], []⟩) (hF i10) hd6 [(1, v1), (21, sv)] (hI rfl rfl (t5 (1, v1) (by simp)) (t5 (21, sv) (by simp)))
          (by simp (maxSteps := 4000000) (disch := omega) only [rr, aop, cV, cV1, AV.one, Qb, okW, Qd, app, Qa, Qc, Qe, Qf, Qg, simprocAttr, emk, e8]; exact Le.slots (by simp [Am.look])) hs5 ?_
        intro st6 a6 W6 hle6 hs6' t6
        have hs6 := hle6 _ _ _ rfl hs6'
        show (Code.seq (.seq (.region id7 ops false) _) d8).wpIn Fence.wide 4 _ _ a6 W6
        refine wpIn_seq (wpIn_seq (wpIn_region_list ?_))
        rw [hops]
        refine Qbp l5 _ a6 W6 (QC ?_ _ _ _ (Qc2 (Q := fun _ st' => Le 0 st' ⟨[(33, .lit yv), (0, .lit yv), (35, .lit u3), (36, .int .i64 (atN j : Nat)), (37, .int .i64 (atN (j + 1) : Nat)), (8, .int .i64 (atN (j + 1) : Nat)), (22, .int .i64 cnt), (23, .int .i64 j)], []⟩) (hF i10) hm5 [(1, v1), (21, sv)] (hI rfl rfl (t6 (1, v1) (by simp)) (t6 (21, sv) (by simp)))
          (by simp (maxSteps := 4000000) (disch := omega) only [rr, aop, cV, cV1, AV.one, Qb, okW, Qd, app, Qa, Qc, Qe, Qf, Qg, simprocAttr]; exact Le.slots (by simp [Am.look])) hs6))
        rintro _ a7 W7 ⟨rfl, st7, hle7, hs7', t7⟩
        have hs7 := hle7 _ _ _ rfl hs7'
        show wpListIn Fence.wide 4 _ _ _ (oS :: oY :: l1) a7 W7
        have W7b : Below Wj.heap.size Wj W7 := hs7.2.2.1
        have hd7 : a7.defers = [] := hs7.1
        have hz7 : a7.tmps.size = 43 := hs7.2.1
        have f7 : ∀ {i : Nat} {v : Value}, Rep ⟨W7, [], [], fun _ _ => False⟩ (.lit v) (a7.tmps.getD i undef) → a7.tmps.getD i undef = v := fun h => by simpa only [Rep] using h
        have f33 : a7.tmps.getD 33 undef = yv := by obtain ⟨_, _, _, _, _, _, h⟩ := hs7; have h : Rep _ (.lit yv) (a7.tmps.getD 33 undef) := h 33; simpa only [Rep] using h
        have f35 : a7.tmps.getD 35 undef = u3 := by obtain ⟨_, _, _, _, _, _, h⟩ := hs7; have h : Rep _ (.lit u3) (a7.tmps.getD 35 undef) := h 35; simpa only [Rep] using h
        have f8 : a7.tmps.getD 8 undef = .int .i64 (atN (j + 1) : Nat) := by obtain ⟨_, _, _, _, _, _, h⟩ := hs7; have h : Rep _ (.int .i64 _) (a7.tmps.getD 8 undef) := h 8; simpa only [Rep] using h
        have f22 : a7.tmps.getD 22 undef = .int .i64 cnt := by obtain ⟨_, _, _, _, _, _, h⟩ := hs7; have h : Rep _ (.int .i64 _) (a7.tmps.getD 22 undef) := h 22; simpa only [Rep] using h
        have f23 : a7.tmps.getD 23 undef = .int .i64 j := by obtain ⟨_, _, _, _, _, _, h⟩ := hs7; have h : Rep _ (.int .i64 _) (a7.tmps.getD 23 undef) := h 23; simpa only [Rep] using h
        obtain ⟨be7, g7, _, hη, _⟩ := hs7.eta (hF i10).2
        -- the slice
        obtain ⟨cS, dS, _, gS⟩ := ZX hoS
        obtain ⟨tS, eS, opS, uS, zS⟩ := Qq1 (QgM cS (by intro h; cases h))
        have gS' : oS.guard = none := by
          rcases gS with ⟨h, _⟩ | ⟨_, _, _, _, _, h⟩
          · exact h
          · cases h
        have ex : a7.eval (.tmp 35) = .slice sa nk cap := by rw [← hl]; exact f35.trans e3
        have hrun := Qkr (X := ⟨W7, [], be7, fun _ _ => False⟩) g7 hη opS uS zS ex (l := (atN j : Nat)) (h := (atN (j + 1) : Nat)) (by simp [loA, opd, look]) (by simp [hiA, opd, look]) (by omega) (by omega) (by omega)
        simp only [Int.toNat_natCast] at hrun
        unfold wpListIn
        rw [if_pos (by simp [Region.wanted, gS'])]
        unfold Oper.wpIn
        refine ⟨fun _ _ => trivial, ?_⟩
        rw [QvO, hrun]
        show wpListIn Fence.wide 4 _ _ _ (oY :: l1) (a7.put oS.dst _) W7
        rw [← dS]
        -- the call of yield
        obtain ⟨cY, dY, _, gY⟩ := ZX hoY
        obtain ⟨cl, opY, calY, argY⟩ := QbB cY
        have gY' : oY.guard = none := by
          rcases gY with ⟨h, _⟩ | ⟨_, _, _, _, _, h⟩
          · exact h
          · cases h
        have argY' : cl.args = #[.tmp 38] := Array.ext' argY.symm
        unfold wpListIn
        rw [if_pos (by simp [Region.wanted, gY'])]
        have hJ7 : J ((List.finRange cnt).take j) W7 := hJ _ Wj W7 none i11 (JM W7b) (fun r h => by cases h)
        have hlen : ((List.finRange cnt).take j).length < cnt := by simp; omega
        obtain ⟨vj, hvj⟩ : ∃ vj : Value, vj = .slice (if cap = atN j then sa else sa.map (·.add (atN j * 1))) (atN (j + 1) - atN j) (cap - atN j) := ⟨_, rfl⟩
        have hY' := hY ((List.finRange cnt).take j) ⟨j, hjc⟩ W7 hJ7 hlen
        simp only at hY'
        rw [← hvj] at hY' ⊢
        have p38 : (a7.put (some 38) vj).tmps.getD 38 undef = vj := by simp [Act.put, hz7]
        have p33 : (a7.put (some 38) vj).tmps.getD 33 undef = .func (.yield ll) #[] #[] := by rw [Xt (by simp), f33]; exact hyv.symm
        refine Qm7 opY calY argY' p33 p38 hY' ?_
        rw [← dY]
        have z8 : ∀ bb : Bool, ((a7.put (some 38) vj).put (some 39) (.bool bb)).tmps.size = 43 := fun bb => by rw [Qey, Qey]; exact hz7
        have p39 : ∀ bb : Bool, ((a7.put (some 38) vj).put (some 39) (.bool bb)).tmps.getD 39 undef = .bool bb := fun bb => by simp [Act.put, hz7]
        have pO : ∀ (bb : Bool) (i : Nat), i ≠ 38 → i ≠ 39 → ((a7.put (some 38) vj).put (some 39) (.bool bb)).tmps.getD i undef = a7.tmps.getD i undef := fun bb i h1 h2 => by
          rw [Xt (by simpa using fun h => h2 h.symm), Xt (by simpa using fun h => h1 h.symm)]
        have d8' : ∀ bb : Bool, ((a7.put (some 38) vj).put (some 39) (.bool bb)).defers = [] := fun bb => by rw [Qdu, Qdu]; exact hd7
        have hI3 : ∀ {qs : List AO} {a : Act}, Qfa 0 qs = true → Qfa 1 qs = true → Qfa 21 qs = true → a.tmps.getD 0 undef = yv → a.tmps.getD 1 undef = v1 → a.tmps.getD 21 undef = sv → ∀ p ∈ [(0, yv), (1, v1), (21, sv)], Qfa p.1 qs = true ∧ a.tmps.getD p.1 undef = p.2 := fun h1 h2 h3 h4 h5 h6 p hp => by
          simp only [List.mem_cons, List.not_mem_nil, or_false] at hp
          rcases hp with rfl | rfl | rfl
          · exact ⟨h1, h4⟩
          · exact ⟨h2, h5⟩
          · exact ⟨h3, h6⟩
        have f0 : a7.tmps.getD 0 undef = yv := by obtain ⟨_, _, _, _, _, _, h⟩ := hs7; have h : Rep _ (.lit yv) (a7.tmps.getD 0 undef) := h 0; simpa only [Rep] using h
        have q0 : ∀ bb : Bool, _ := fun bb => (pO bb 0 (by omega) (by omega)).trans f0
        have q1 : ∀ bb : Bool, _ := fun bb => (pO bb 1 (by omega) (by omega)).trans (t7 (1, v1) (by simp))
        have q21 : ∀ bb : Bool, _ := fun bb => (pO bb 21 (by omega) (by omega)).trans (t7 (21, sv) (by simp))
        rintro e W8 (⟨rfl, hJ8, hK8⟩ | ⟨rfl, hX8⟩)
        · refine ⟨true, rfl, ?_⟩
          have hbr7 : W7.heap[br]? = some (.cells cur t0 frz) := (W7b.block br (Array.getElem?_eq_some_iff.1 i9).1).trans i9
          have hbr8 : W8.heap[br]? = some (.cells cur t0 frz) := (hK8.1 br cur t0 frz hbr7 (by simp)).trans hbr7
          have hk8 : ∀ (b k : Nat) (v : Value), ¬ C b k → w.cell? ⟨b, k, none⟩ = some v → W8.cell? ⟨b, k, none⟩ = some v := fun b k v hc hv => by
            have h1 := i10 b k v hc hv
            exact hK8.2 b k v hc ((W7b.cell (p := ⟨b, k, none⟩) (World.block_lt_of_cell? Wj _ h1)).trans h1)
          have hs8 : Sim (ΓW W8) ⟨[(39, .bool true), (8, .int .i64 (atN (j + 1) : Nat)), (22, .int .i64 cnt), (23, .int .i64 j)], []⟩ ((a7.put (some 38) vj).put (some 39) (.bool true)) W8 :=
            Qv1 (d8' true) (z8 true) (QP (by rw [p39]; simp only [Rep]) (QP (by rw [pO true 8 (by omega) (by omega), f8]; simp only [Rep]) (QP (by rw [pO true 22 (by omega) (by omega), f22]; simp only [Rep]) (QP (by rw [pO true 23 (by omega) (by omega), f23]; simp only [Rep]) QbP))))
          refine QC ?_ _ _ _ (Qc2 (Q := fun _ st' => Le 0 st' ⟨[(40, .bool false), (8, .int .i64 (atN (j + 1) : Nat)), (22, .int .i64 cnt), (23, .int .i64 j)], []⟩) (hF hk8) hm1 [(0, yv), (1, v1), (21, sv)] (hI3 rfl rfl rfl (q0 true) (q1 true) (q21 true))
            (by simp (maxSteps := 4000000) (disch := omega) only [rr, aop, cV, cV1, AV.one, Qb, okW, Qd, app, Qa, Qc, Qe, Qf, Qg, simprocAttr, Bool.not_true]; exact Le.slots (by simp [Am.look])) hs8)
          rintro _ a9 W9 ⟨rfl, st9, hle9, hs9', t9⟩
          have hs9 := hle9 _ _ _ rfl hs9'
          show (Code.cond _ .ret .skip).wpIn Fence.wide 4 _ _ a9 W9
          have h40 : a9.eval (.tmp 40) = .bool false := by obtain ⟨_, _, _, _, _, _, h⟩ := hs9; have h : Rep _ (.bool _) (a9.tmps.getD 40 undef) := h 40; simp only [Rep] at h; exact h
          refine wpIn_cond_false h40 (wpIn_skip ?_)
          show d8.wpIn Fence.wide 4 _ _ a9 W9
          refine QaM (Q := fun _ st' => Le 0 st' ⟨[(5, .int .i64 (atN (j + 1) : Nat)), (22, .int .i64 cnt), (23, .int .i64 j)], []⟩) (hF hk8) hd8 [(0, yv), (1, v1), (21, sv)] (hI3 rfl rfl rfl (t9 (0, yv) (by simp)) (t9 (1, v1) (by simp)) (t9 (21, sv) (by simp)))
            (by simp (maxSteps := 4000000) (disch := omega) only [rr, aop, cV, cV1, AV.one, Qb, okW, Qd, app, Qa, Qc, Qe, Qf, Qg, simprocAttr]; exact Le.slots (by simp [Am.look])) hs9 ?_
          intro stA aA WA hleA hsA' tA
          have hsA2 := hleA _ _ _ rfl hsA'
          show d9.wpIn Fence.wide 4 _ _ aA WA
          refine QaM (Q := fun _ st' => Le 0 st' ⟨[(5, .int .i64 (atN (j + 1) : Nat)), (22, .int .i64 cnt), (23, .int .i64 ((j + 1 : Nat) : Int))], []⟩) (hF hk8) hd9 [(0, yv), (1, v1), (21, sv)] (hI3 rfl rfl rfl (tA (0, yv) (by simp)) (tA (1, v1) (by simp)) (tA (21, sv) (by simp)))
            (by simp (maxSteps := 4000000) (disch := omega) only [rr, aop, cV, cV1, AV.one, Qb, okW, Qd, app, Qa, Qc, Qe, Qf, Qg, simprocAttr]; exact Le.slots (by simp [Am.look])) hsA2 ?_
          intro stC aC WC hleC hsC' tC
          have hsC := hleC _ _ _ rfl hsC'
          have WCb : Below W8.heap.size W8 WC := hsC.2.2.1
          obtain ⟨h1, h2, _, _, _, _, hC⟩ := hsC
          have c5 : aC.tmps.getD 5 undef = .int .i64 (atN (j + 1) : Nat) := by have h : Rep _ (.int .i64 _) (aC.tmps.getD 5 undef) := hC 5; simpa only [Rep] using h
          have c22 : aC.tmps.getD 22 undef = .int .i64 cnt := by have h : Rep _ (.int .i64 _) (aC.tmps.getD 22 undef) := hC 22; simpa only [Rep] using h
          have c23 : aC.tmps.getD 23 undef = .int .i64 ((j + 1 : Nat) : Int) := by have h : Rep _ (.int .i64 _) (aC.tmps.getD 23 undef) := hC 23; simpa only [Rep] using h
          refine ⟨⟨j + 1, by omega, h1, h2, tC (0, yv) (by simp), tC (1, v1) (by simp), c5, tC (21, sv) (by simp), c22, c23, (WCb.block br (Array.getElem?_eq_some_iff.1 hbr8).1).trans hbr8, fun b k v hc hv => ?_, ?_⟩, ?_⟩
          · have h := hk8 b k v hc hv
            exact (WCb.cell (p := ⟨b, k, none⟩) (World.block_lt_of_cell? W8 _ h)).trans h
          · rw [Qqy hjc]
            exact hJ _ W8 WC none hJ8 (JM WCb) (fun r h => by cases h)
          · simp only [c23, i8, Int.toNat_natCast]
            omega
        · refine ⟨false, rfl, ?_⟩
          have hs8 : Sim (ΓW W8) ⟨[(39, .bool false)], []⟩ ((a7.put (some 38) vj).put (some 39) (.bool false)) W8 :=
            Qv1 (d8' false) (z8 false) (QP (by rw [p39]; simp only [Rep]) QbP)
          let P0 : Prg := ⟨P.prog, [], fun _ _ h => by cases h⟩
          refine QC ?_ _ _ _ (Qc2 (P := P0) (N := 43) (Γ := ΓW W8) (Q := fun _ st' => Le 0 st' ⟨[(40, .bool true)], []⟩) ⟨rfl, fun _ _ h => by cases h⟩ hm1 [] (fun p hp => by cases hp)
            (by simp (maxSteps := 4000000) (disch := omega) only [rr, aop, cV, cV1, AV.one, Qb, okW, Qd, app, Qa, Qc, Qe, Qf, Qg, simprocAttr, Bool.not_false]; exact Le.slots (by simp [Am.look])) hs8)
          rintro _ a9 W9 ⟨rfl, st9, hle9, hs9', t9⟩
          have hs9 := hle9 _ _ _ rfl hs9'
          show (Code.cond _ .ret .skip).wpIn Fence.wide 4 _ _ a9 W9
          have h40 : a9.eval (.tmp 40) = .bool true := by obtain ⟨_, _, _, _, _, _, h⟩ := hs9; have h : Rep _ (.bool _) (a9.tmps.getD 40 undef) := h 40; simp only [Rep] at h; exact h
          refine wpIn_cond_true h40 (wpIn_ret ?_)
          have hX9 := hJx _ W8 W9 none hX8 (JM hs9.2.2.1) (fun r h => by cases h)
          exact ⟨hs9.1, .tuple #[], results_none (Array.ext' hrl) _ _ _, ⟨_, rfl⟩, .inr ⟨_, trivial, hX9⟩⟩
      · have e24 : decide ((j : Int) < cnt) = false := by simp; omega
        rw [e24] at h24
        refine wpIn_cond_false h24 (wpIn_exit ?_)
        have hjc' : j = cnt := by omega
        rw [hjc', List.take_of_length_le (by simp)] at i11
        have hJB : J (List.finRange cnt) WB := hJ _ Wj WB none i11 (JM bW) (fun r h => by cases h)
        have hdB : aB.defers = [] := hsB.1
        exact ⟨hdB, .tuple #[], results_none (Array.ext' hrl) _ _ _, ⟨_, rfl⟩, .inl ⟨_, rfl, hJB⟩⟩
end Go.Am

namespace Go.Am
open Go.RowKit

def Qdk (g : Nat) (P : Prg) (f : Nat) : Prop := ∀ (c x r : Int) (l : List Int), VC P f [clA c x r l] (.fn (.func g) [] [.cell [.int .i64 c, .int .i64 x, .int .i64 r, il l]])
theorem Qn4 {P : Prg} {f g t0 : Nat} (b : Qj P f 4 [.tmp 2] (Qa7 g t0)) : Qdk g P f := by
  intro c x r l
  refine VC.of_walk 1 (by simp [Qu, isD, QI, clA]) (by simp [isD, Qu, QI]) (ACall.of_body b (by simp) ?_)
  simp (maxSteps := 4000000) (disch := omega) only [rr, aop, cV, cV1, AV.one, Qb, okW, Qd, app, Qa, Qc, Qe, Qf, Qg, simprocAttr, Qa7, clA, il]
  simp [Zk, QL, QO, QK, Qu, isD, Qr _ (Qv .i32 _)]

def Ql (c r : Int) (l : List Int) : List (List Int) := (List.range (QN (Qy r).toNat (l.length / c.toNat)).length).map (Zn ((Qy r).toNat * c.toNat) l)

theorem Jp {c x r : Int} {l : List Int} (h : Zo c x r l = 0) : ∃ k n : Nat, c = k ∧ 1 ≤ k ∧ k ≤ 1000 ∧ l.length = n * k ∧ okA r n ∧ l.length ≤ 4000 := by
  unfold Zo at h
  split at h
  · cases h
  rename_i h1
  split at h
  · cases h
  rename_i h2
  split at h
  · cases h
  rename_i h3
  have h3' : ZK c x r (l.length / c) = 0 := by simpa using h3
  have h2' : (l.length : Int) % c = 0 := by simpa using h2
  obtain ⟨k, rfl⟩ : ∃ k : Nat, c = k := ⟨c.toNat, by omega⟩
  have e1 : (l.length : Int) / (k : Int) = ((l.length / k : Nat) : Int) := by simp
  have e2 : l.length % k = 0 := by exact_mod_cast h2'
  rw [e1] at h3'
  have e3 := Nat.div_add_mod l.length k
  rw [e2, Nat.add_zero, Nat.mul_comm] at e3
  unfold ZK at h3'
  split at h3'
  · cases h3'
  rename_i a1
  split at h3'
  · cases h3'
  rename_i a2
  split at h3'
  · cases h3'
  rename_i a3
  split at h3'
  · cases h3'
  rename_i a4
  obtain ⟨n, hn⟩ : ∃ n, l.length / k = n := ⟨_, rfl⟩
  rw [hn] at e3 a2 a3 a4
  have a5 : Zh k x = 0 := by simpa using a1
  have a6 : Qlb r n = 0 := by simpa using a4
  rcases Q4 (k : Int) x with h4 | ⟨_, h5, h6, h7⟩
  · omega
  have hle : n * k ≤ 4000 := by
    have h8 : (n : Int) ≤ 4000 / (k : Int) := by omega
    have h9 := Int.mul_le_of_le_ediv (a := (n : Int)) (b := 4000) (c := (k : Int)) (by omega) h8
    have h10 : ((n * k : Nat) : Int) ≤ 4000 := by rw [Int.natCast_mul]; exact h9
    omega
  have hn4 : n ≤ 4000 := Nat.le_trans (Nat.le_mul_of_pos_right n (by omega)) hle
  refine ⟨k, n, rfl, by omega, by omega, e3.symm, ?_, by omega⟩
  unfold Qlb at a6
  split at a6
  · cases a6
  split at a6
  · cases a6
  split at a6
  · cases a6
  rename_i b1 b2 b3
  refine ⟨by omega, by omega, by omega, by omega, ?_⟩
  have hlong : 1 ≤ Qy r := Z8 r
  obtain ⟨L, hLe⟩ : ∃ L : Nat, Qy r = L := ⟨(Qy r).toNat, by omega⟩
  rw [hLe, Int.toNat_natCast, Int.toNat_natCast, Z9]
  rw [hLe] at b3
  have h1 : (n : Int) + (L : Int) - 1 = ((n - 1 + L : Nat) : Int) := by omega
  rw [h1, ← Int.natCast_ediv, Nat.add_div_right _ (by omega)] at b3
  omega

theorem Qco (c r : Int) (l : List Int) : (Ql c r l).length = (QN (Qy r).toNat (l.length / c.toNat)).length := by simp [Ql]
theorem Qcs : ∀ L : List (List Int), X7 (L.map il) = true
  | [] => rfl
  | l :: L => by simp [X7, isT, il, Qv, Qcs L]

def Qia (P : Prg) (f : Nat) : Prop := ∀ l : List Int, l.length ≤ 1000000 → VC P f [il l] (il l)
theorem Qur {P : Prg} {f t0 : Nat} (b : Qj P f 8 [.tmp 2] (Qx t0)) : Qia P f := by
  intro l h1
  refine VC.of_walk 1 (by simp [Qu, QI]) (QI _) (ACall.of_body b (by simp) ?_)
  have tl := Qv .i32 l
  by_cases h0 : l = []
  · subst h0
    simp (maxSteps := 4000000) (disch := omega) only [rr, aop, cV, cV1, AV.one, Qb, okW, Qd, app, Qa, Qc, Qe, Qf, Qg, simprocAttr, Qx, il, QjW, Qmx]
    simp [Zk, QL, QO, QK, Qu, isD]
  · have n0 : l.length ≠ 0 := by simpa using h0
    simp (maxSteps := 4000000) (disch := omega) only [rr, aop, cV, cV1, AV.one, Qb, okW, Qd, app, Qa, Qc, Qe, Qf, Qg, simprocAttr, Qx, il, QjW, n0, Qmx]
    simp [Zk, QL, QO, QK, Qu, isD, Qr _ tl]

def JX (c x r : Int) (l : List Int) : AV := if Zo c x r l = 0 then .tup [iss (Ql c r l), .int .i64 0] else .tup [iss [], .int .i64 8]
theorem QnK (c x r : Int) (l : List Int) : isD (JX c x r l) = true := by unfold JX; split <;> simp [isD, Qu, Qfh]
theorem QaU (c x r : Int) (l : List Int) : Zo c x r l = 0 ∨ Zo c x r l = 8 := by
  unfold Zo; repeat' split
  all_goals simp
def QfF (P : Prg) (f : Nat) : Prop := ∀ (c x r : Int) (l : List Int), I32 l → l.length ≤ 1000000 → VC P f [clA c x r l] (JX c x r l)
theorem Qn6 {P : Prg} {f fC fP fK fA g t0 t1 t2 ti : Nat} (b : QlZ P f 21 [.tmp 2, .tmp 3] (Jw fC fP fK t0 t1 t2)) (hC : Xj P fC) (hP : Qdk g P fP) (hI : Qdj ti P g) (bG : Qj P g 43 [] (ZN fA)) (hK : Qia P fK)
    (h0 : t0 ≠ ti) (h1 : t1 ≠ ti) (h2 : t2 ≠ ti) : QfF P f := by
  intro c x r l hI32 hl
  refine VC.of_walk 2 (by simp [Qu, isD, QI, clA]) (QnK _ _ _ _) (ACall.of_rangeC b (by simp) ?_)
  have hC' := hC c x r l hI32 hl
  rw [il] at hC'
  rcases QaU c x r l with h | h
  · rw [h] at hC'
    have e9 : JX c x r l = .tup [iss (Ql c r l), .int .i64 0] := by rw [JX, if_pos h]
    obtain ⟨k, n, rfl, k1, k2, hlen, hok, h4⟩ := Jp h
    have hP' := hP k x r l
    have hI' := hI k n x r l k1 k2 hlen hok
    rw [clA] at hP'
    rw [il] at hP' hI'
    simp (maxSteps := 4000000) (disch := omega) only [rr, aop, cV, cV1, AV.one, Qb, okW, Qd, app, Qa, Qc, Qe, Qf, Qg, simprocAttr, Jw, clA, il, XS, J9, Xa, Qc4, Qat, Qmy]
    refine Qh.vc hC' ?_
    simp (maxSteps := 4000000) (disch := omega) only [rr, aop, cV, cV1, AV.one, Qb, okW, Qd, app, Qa, Qc, Qe, Qf, Qg, simprocAttr, Xa, XS, J9]
    refine Qh.vc hP' ?_
    simp (maxSteps := 4000000) (disch := omega) only [rr, aop, cV, cV1, AV.one, Qb, okW, Qd, app, Qa, Qc, Qe, Qf, Qg, simprocAttr, Qat]
    obtain ⟨Lc, hLc⟩ : ∃ Lc, (Qy r).toNat * k = Lc := ⟨_, rfl⟩
    rw [hLc] at hI'
    have hcnt : (QN (Qy r).toNat n).length ≤ 1000 := by have := hok.2.2.2.2; rwa [Int.toNat_natCast] at this
    obtain ⟨cnt, hcn⟩ : ∃ cnt, (QN (Qy r).toNat n).length = cnt := ⟨_, rfl⟩
    have hpo : Ql k r l = (List.finRange cnt).map (fun j => Zn Lc l j.1) := by
      unfold Ql
      rw [Int.toNat_natCast, hlen, Nat.mul_div_cancel _ (by omega), hcn, hLc]
      apply List.ext_getElem <;> simp
    rw [hcn] at hI' hcnt
    refine ⟨cnt, g, _, [ti], _, [(13, .fn (.func g) [] [.cell [.int .i64 k, .int .i64 x, .int .i64 r, .list l.length (ks .i32 l)]]), (1, .ref 0 1 0), (5, .ref 1 1 0)],
      fun pre => [⟨t0, 4, 1, [.int .i64 k, .int .i64 x, .int .i64 r, .list l.length (ks .i32 l)], 0⟩, ⟨t1, 1, 1, [.own 2 pre.length], 0⟩, ⟨t2, 1, pre.length, pre.map (fun j => il (Zn Lc l j.1)), 0⟩], ?_, rfl, bG.ent, by simp [Qu, isD, Q0], hI', by omega, by omega, rfl, ?_, ?_, ?_⟩
    · refine Le.trans (Le.virtF (p := 1) (ty := t2) (sz := 1) (by omega) rfl rfl) (Le.slots (by simp [Am.look]))
    · intro pre x hx
      simp only [List.mem_cons, List.not_mem_nil, or_false] at hx ⊢
      rcases hx with rfl | rfl | rfl
      · exact h0
      · exact h1
      · exact h2
    · intro pre x hpl
      have hK' := hK (Zn Lc l x.1) (by unfold Zn; simp; omega)
      have hyl : (Zn Lc l x.1).length ≤ 4000 := by unfold Zn; simp; omega
      have hpm : (pre.map (fun j => il (Zn Lc l j.1))).length = pre.length := by simp
      obtain ⟨y, hy⟩ : ∃ y, Zn Lc l x.1 = y := ⟨_, rfl⟩
      have ty := Qv .i32 y
      rw [hy] at hK' hyl ⊢
      rw [il] at hK' ⊢
      simp (maxSteps := 4000000) (disch := omega) only [rr, aop, cV, cV1, AV.one, Qb, okW, Qd, app, Qa, Qc, Qe, Qf, Qg, simprocAttr]
      refine Zf.vc hK' ?_
      simp (maxSteps := 4000000) (disch := omega) only [rr, aop, cV, cV1, AV.one, Qb, okW, Qd, app, Qa, Qc, Qe, Qf, Qg, simprocAttr, hpm]
      refine Le.drop 3 2 (by omega) rfl (by simp) ?_
      intro i z hz
      match i, hz with
      | 0, hz => cases hz; exact ⟨_, rfl, by simp [QL, QO, QK, Qr _ (Qv .i32 _)]⟩
      | 1, hz => cases hz; exact ⟨_, rfl, by simp [QL, QO, QK]⟩
      | 2, hz =>
        cases hz
        have e : (pre ++ [x]).map (fun j => il (Zn Lc l j.1)) = pre.map (fun j => il (Zn Lc l j.1)) ++ [.list y.length (ks .i32 y)] := by simp [hy, il]
        rw [e]
        refine ⟨_, rfl, Qr _ ?_⟩
        rw [← e]
        have := Qcs ((pre ++ [x]).map (fun j => Zn Lc l j.1))
        rwa [List.map_map] at this
      | i + 3, hz => simp at hz
    · have hfl : (List.finRange cnt).length = cnt := by simp
      have hpi : (List.finRange cnt).map (fun j => il (Zn Lc l j.1)) = (Ql k r l).map il := by rw [hpo, List.map_map]; rfl
      dsimp only
      rw [hpi, hfl, e9]
      have hpl : (Ql k r l).length = cnt := by rw [hpo]; simp
      have tp := Qcs (Ql k r l)
      generalize hPP : (Ql k r l).map il = PP at *
      simp (maxSteps := 4000000) (disch := omega) only [rr, aop, cV, cV1, AV.one, Qb, okW, Qd, app, Qa, Qc, Qe, Qf, Qg, simprocAttr]
      simp [Zk, QL, QO, QK, Qu, isD, iss, hpl, hPP, Qr _ tp]
  · rw [h] at hC'
    have e9 : JX c x r l = .tup [iss [], .int .i64 8] := by rw [JX, if_neg (by omega)]
    simp (maxSteps := 4000000) (disch := omega) only [rr, aop, cV, cV1, AV.one, Qb, okW, Qd, app, Qa, Qc, Qe, Qf, Qg, simprocAttr, Jw, clA, il, XS, J9, Xa, Qc4, Qat, Qmy]
    refine Qh.vc hC' ?_
    simp (maxSteps := 4000000) (disch := omega) only [rr, aop, cV, cV1, AV.one, Qb, okW, Qd, app, Qa, Qc, Qe, Qf, Qg, simprocAttr, Xa, Qc4, XS, J9, e9]
    simp [Zk, QL, QO, QK, Qu, isD, iss]
end Go.Am

namespace Go.Am
open Go.RowKit

/-! ### clip.Join -/

def QfK (P : Prg) (f : Nat) : Prop := ∀ L : List (List Int), L.length ≤ 1000000 → L.flatten.length ≤ 1000000 → VC P f [iss L] (il L.flatten)
theorem QfW {P : Prg} {f fG t0 : Nat} (bd : Qj P f 36 [.tmp 2] (Q2 fG t0)) (hG : S_GrowNilJ t0 P fG) : QfK P f := by
  intro L hL h1
  refine VC.of_walk 1 (by simp [Qu, Qfh]) (QI _) (ACall.of_body bd (by simp) ?_)
  have hat : ∀ k, k < L.length → (L.map il).drop k = il (L.getD k []) :: (L.map il).drop (k + 1) := fun k hk => Qi6 hk
  have hml : (L.map il).length = L.length := by simp
  simp only [il] at hat
  simp (maxSteps := 4000000) (disch := omega) only [rr, aop, cV, cV1, AV.one, Qb, okW, Qd, app, Qa, Qc, Qe, Qf, Qg, simprocAttr, Q2, iss]
  refine QW.by (ι := Nat) (fun k => ⟨[(11, .int .i64 k), (10, .int .i64 L.length), (9, .list L.length (L.map il)), (3, .int .i64 (L.take k).flatten.length), (0, .list L.length (L.map il))], []⟩) (fun k => k ≤ L.length) (fun k => L.length - k) 0 (Le.slots (by simp [Am.look])) (by omega) ?_
  intro k hk
  by_cases hlt : k < L.length
  · have ha := hat k hlt
    have hf := QbV hlt
    have hle := QeD L (k + 1)
    rw [hf, List.length_append] at hle
    have hl : ((L.take (k + 1)).flatten.length : Int) = (L.take k).flatten.length + (L.getD k []).length := by rw [hf]; simp
    generalize (L.take k).flatten.length = s at *
    generalize L.getD k [] = x at *
    simp (maxSteps := 4000000) (disch := omega) only [rr, aop, cV, cV1, AV.one, Qb, okW, Qd, app, Qa, Qc, Qe, Qf, Qg, simprocAttr, ha, hml]
    exact ⟨k + 1, by omega, by omega, by simp only [hl]; exact Le.slots (by simp [Am.look])⟩
  obtain rfl : k = L.length := by omega
  rw [List.take_length]
  simp (maxSteps := 4000000) (disch := omega) only [rr, aop, cV, cV1, AV.one, Qb, okW, Qd, app, Qa, Qc, Qe, Qf, Qg, simprocAttr]
  refine hG [] L.flatten.length true _ h1 ?_
  simp (maxSteps := 4000000) (disch := omega) only [rr, aop, cV, cV1, AV.one, Qb, okW, Qd, app, Qa, Qc, Qe, Qf, Qg, simprocAttr]
  refine QW.by (ι := Nat) (fun k => ⟨[(27, .int .i64 k), (26, .int .i64 L.length), (25, .list L.length (L.map il)), (6, .own 0 (L.take k).flatten.length)], [⟨t0, 1, (L.take k).flatten.length, ks .i32 (L.take k).flatten, 0⟩]⟩) (fun k => k ≤ L.length) (fun k => L.length - k) 0 (Le.slots (by simp [Am.look])) (by omega) ?_
  intro k hk
  by_cases hlt : k < L.length
  · have ha := hat k hlt
    have hf := QbV hlt
    have hle := QeD L (k + 1)
    rw [hf, List.length_append] at hle
    have hl : (L.take (k + 1)).flatten.length = (L.take k).flatten.length + (L.getD k []).length := by rw [hf]; simp
    have hu : ks .i32 (L.take (k + 1)).flatten = ks .i32 (L.take k).flatten ++ ks .i32 (L.getD k []) := by rw [hf]; simp [ks]
    have hc : (ks .i32 (L.take k).flatten).length = (L.take k).flatten.length := Qk _ _
    have hx : (ks .i32 (L.getD k [])).length = (L.getD k []).length := Qk _ _
    generalize ks .i32 (L.take k).flatten = cs at *
    generalize (L.take k).flatten.length = s at *
    generalize ks .i32 (L.getD k []) = us at *
    generalize (L.getD k []).length = xl at *
    simp (maxSteps := 4000000) (disch := omega) only [rr, aop, cV, cV1, AV.one, Qb, okW, Qd, app, Qa, Qc, Qe, Qf, Qg, simprocAttr, ha, hml, hc, hx]
    exact ⟨k + 1, by omega, by omega, by rw [hl, hu]; exact Le.slots (by simp [Am.look])⟩
  obtain rfl : k = L.length := by omega
  rw [List.take_length]
  have tl := Qv .i32 L.flatten
  simp (maxSteps := 4000000) (disch := omega) only [rr, aop, cV, cV1, AV.one, Qb, okW, Qd, app, Qa, Qc, Qe, Qf, Qg, simprocAttr]
  simp [Zk, QL, QO, QK, Qu, isD, il, Qr _ tl]

def QlN (P : Prg) (g : Nat) : Prop := ∀ a b : List Int, VC P g [il a, il b] (.bool (decide (a.length = b.length)))
theorem Qn7 {P : Prg} {f : Nat} (bd : Qj P f 10 [.tmp 4] XX) : QlN P f := by
  intro a b
  refine VC.of_acall (by simp [Qu, QI]) rfl (ACall.of_body bd (by simp) ?_)
  by_cases h : a.length = b.length
  · simp (maxSteps := 4000000) (disch := omega) only [rr, aop, cV, cV1, AV.one, Qb, okW, Qd, app, Qa, Qc, Qe, Qf, Qg, simprocAttr, XX, il, h]
    try simp
  · have e : ((a.length : Int) == (b.length : Int)) = false := by simp; omega
    simp (maxSteps := 4000000) (disch := omega) only [rr, aop, cV, cV1, AV.one, Qb, okW, Qd, app, Qa, Qc, Qe, Qf, Qg, simprocAttr, XX, il, e]
    try simp [h]
def Qrr (g : Nat) (P : Prg) (f : Nat) : Prop := ∀ a b : List (List Int), a.length ≤ 1000000 → b.length ≤ 1000000 → VC P f [iss a, iss b, .fn (.func g) [] []] (.bool (decide (a.map (·.length) = b.map (·.length))))
theorem Qeh {P : Prg} {f g : Nat} (bd : Qj P f 32 [.tmp 6] Qq) (hg : QlN P g) : Qrr g P f := by
  intro a b ha hb
  refine VC.of_acall (by simp [Qu, isD, Qfh]) rfl (ACall.of_body bd (by simp) ?_)
  have la' : (a.map il).length = a.length := by simp
  have lb' : (b.map il).length = b.length := by simp
  by_cases hn : a.length = b.length
  · have fin : ∀ e : (∀ j, j < b.length → (a.getD j []).length = (b.getD j []).length), a.map (·.length) = b.map (·.length) := fun e => by
      apply List.ext_getElem (by simpa using hn)
      intro i h1 h2
      have h3 : i < a.length := by simpa using h1
      have h4 : i < b.length := by simpa using h2
      have := e i h4
      simpa [List.getD_eq_getElem?_getD, List.getElem?_eq_getElem h3, List.getElem?_eq_getElem h4] using this
    simp (maxSteps := 4000000) (disch := omega) only [rr, aop, cV, cV1, AV.one, Qb, okW, Qd, app, Qa, Qc, Qe, Qf, Qg, simprocAttr, Qq, iss, hn]
    refine QW.by (ι := Nat) (fun k => ⟨[(17, .int .i64 k), (16, .int .i64 b.length), (15, .list b.length (a.map il)), (1, .list b.length (b.map il)), (2, .fn (.func g) [] [])], []⟩) (fun k => k ≤ b.length ∧ ∀ j, j < k → (a.getD j []).length = (b.getD j []).length) (fun k => b.length - k) 0 (Le.slots (by simp [Am.look])) ⟨by omega, by simp⟩ ?_
    intro k ⟨hk, hgd⟩
    by_cases hlt : k < b.length
    · have e1 := Qi6 (L := a) (k := k) (by omega)
      have e2 := Qi6 (L := b) (k := k) hlt
      have hS' := hg (a.getD k []) (b.getD k [])
      simp (maxSteps := 4000000) (disch := omega) only [rr, aop, cV, cV1, AV.one, Qb, okW, Qd, app, Qa, Qc, Qe, Qf, Qg, simprocAttr, e1, e2, la', lb', hn]
      refine Qh.vc hS' ?_
      by_cases he : (a.getD k []).length = (b.getD k []).length
      · have e8 : decide ((a.getD k []).length = (b.getD k []).length) = true := decide_eq_true he
        simp (maxSteps := 4000000) (disch := omega) only [rr, aop, cV, cV1, AV.one, Qb, okW, Qd, app, Qa, Qc, Qe, Qf, Qg, simprocAttr, e8, Bool.not_true]
        exact ⟨k + 1, ⟨by omega, fun j hj => by
          by_cases e : j = k
          · rw [e]; exact he
          · exact hgd j (by omega)⟩, by omega, Le.slots (by simp [Am.look])⟩
      · have e8 : decide ((a.getD k []).length = (b.getD k []).length) = false := decide_eq_false he
        have e9 : decide (a.map (·.length) = b.map (·.length)) = false := decide_eq_false (fun h => he (by
          have := congrArg (fun l => l[k]?) h
          simp only [List.getElem?_map] at this
          rw [List.getElem?_eq_getElem (by omega : k < a.length), List.getElem?_eq_getElem hlt] at this
          simpa [List.getD_eq_getElem?_getD, List.getElem?_eq_getElem (by omega : k < a.length), List.getElem?_eq_getElem hlt] using this))
        simp (maxSteps := 4000000) (disch := omega) only [rr, aop, cV, cV1, AV.one, Qb, okW, Qd, app, Qa, Qc, Qe, Qf, Qg, simprocAttr, e8, e9, Bool.not_false]
    · obtain rfl : k = b.length := by omega
      have e9 : decide (a.map (·.length) = b.map (·.length)) = true := decide_eq_true (fin hgd)
      simp (maxSteps := 4000000) (disch := omega) only [rr, aop, cV, cV1, AV.one, Qb, okW, Qd, app, Qa, Qc, Qe, Qf, Qg, simprocAttr, e9]
  · have e9 : decide (a.map (·.length) = b.map (·.length)) = false := decide_eq_false (fun h => hn (by simpa using congrArg List.length h))
    simp (maxSteps := 4000000) (disch := omega) only [rr, aop, cV, cV1, AV.one, Qb, okW, Qd, app, Qa, Qc, Qe, Qf, Qg, simprocAttr, Qq, iss, e9]

/-! The parts of a whole. -/

theorem Qgv (Lc : Nat) (l : List Int) : ∀ m : Nat, ((List.range m).map (Zn Lc l)).flatten = l.take (m * Lc)
  | 0 => by simp
  | m + 1 => by
    rw [List.range_succ, List.map_append, List.flatten_append, Qgv Lc l m, Nat.add_mul, Nat.one_mul, List.take_add]
    simp [Zn]
theorem JB {c x r : Int} {l : List Int} (h : Zo c x r l = 0) : (Ql c r l).flatten = l := by
  obtain ⟨k, n, rfl, h1, h2, h3, ⟨o1, o2, o3, o4, o5⟩, h4⟩ := Jp h
  unfold Ql
  rw [Qgv, Int.toNat_natCast, h3, Nat.mul_div_cancel _ (by omega), Z9, List.take_of_length_le]
  have hL : 1 ≤ (Qy r).toNat := by have := Z8 r; omega
  have g2 : n - 1 < (n - 1) / (Qy r).toNat * (Qy r).toNat + (Qy r).toNat := Nat.lt_div_mul_add (by omega)
  rw [h3, ← Nat.mul_assoc, Nat.add_mul, Nat.one_mul]
  refine Nat.mul_le_mul_right _ ?_
  generalize (n - 1) / (Qy r).toNat * (Qy r).toNat = w at *
  omega
theorem QmH : ∀ {A B : List (List Int)}, A.map (·.length) = B.map (·.length) → A.flatten = B.flatten → A = B
  | [], [], _, _ => rfl
  | [], b :: B, h, _ => by simp at h
  | a :: A, [], h, _ => by simp at h
  | a :: A, b :: B, h, e => by
    simp only [List.map_cons, List.cons.injEq] at h
    simp only [List.flatten_cons] at e
    obtain ⟨e1, e2⟩ := List.append_inj e h.1
    rw [e1, QmH h.2 e2]
theorem Qdv {c x r : Int} {l : List Int} (h : Zo c x r l = 0) : (Ql c r l).length ≤ 1000 := by
  obtain ⟨k, n, rfl, h1, h2, h3, ⟨o1, o2, o3, o4, o5⟩, h4⟩ := Jp h
  rw [Qco, Int.toNat_natCast, h3, Nat.mul_div_cancel _ (by omega)]
  rwa [Int.toNat_natCast] at o5
def Qff (c x r : Int) (L : List (List Int)) : AV :=
  if Zo c x r L.flatten = 0 then (if L = Ql c r L.flatten then .tup [clA c x r L.flatten, .int .i64 0] else .tup [clA 0 0 0 [], .int .i64 12]) else .tup [clA 0 0 0 [], .int .i64 8]
theorem Qqc (c x r : Int) (L : List (List Int)) : isD (Qff c x r L) = true := by
  unfold Qff; split <;> (try split) <;> simp [isD, Qu, QI, clA]
def Qh5 (P : Prg) (f : Nat) : Prop := ∀ (c x r : Int) (l : List Int) (L : List (List Int)), (∀ p ∈ L, I32 p) → L.length ≤ 1000000 → L.flatten.length ≤ 1000000 → VC P f [clA c x r l, iss L] (Qff c x r L)
theorem Qs0 {L : List (List Int)} (h : ∀ p ∈ L, I32 p) : I32 L.flatten := fun x hx => by
  obtain ⟨p, hp, hx⟩ := List.mem_flatten.1 hx
  exact h p hp x hx
theorem Qgz {c x r : Int} {L : List (List Int)} (h : Zo c x r L.flatten = 0) : (Ql c r L.flatten).map (·.length) = L.map (·.length) ↔ L = Ql c r L.flatten :=
  ⟨fun e => (QmH e (JB h)).symm, fun e => by rw [← e]⟩

theorem QqS {P : Prg} {f fK fS fE g t0 : Nat} (bd : Qj P f 26 [.cell 4 t0, .tmp 5] (QbH fK fS fE g t0)) (hK : QfK P fK) (hS : QfF P fS) (hE : Qrr g P fE) (ht : ZB P t0 = some (some 4)) : Qh5 P f := by
  intro c x r l L hI hL hF
  refine VC.of_walk 2 (by simp [Qu, isD, QI, clA, Qfh]) (Qqc _ _ _ _) (ACall.of_body bd (by simp) ?_)
  have hK' := hK L hL hF
  have hS' := hS c x r L.flatten (Qs0 hI) hF
  have tl := Qv .i32 L.flatten
  rw [clA] at hS'
  rw [il] at hS' hK'
  simp (maxSteps := 4000000) (disch := omega) only [rr, aop, cV, cV1, AV.one, Qb, okW, Qd, app, Qa, Qc, Qe, Qf, Qg, simprocAttr, QbH, clA, il]
  refine Qh.vc hK' ?_
  simp (maxSteps := 4000000) (disch := omega) only [rr, aop, cV, cV1, AV.one, Qb, okW, Qd, app, Qa, Qc, Qe, Qf, Qg, simprocAttr]
  refine Qh.vc hS' ?_
  rcases QaU c x r L.flatten with h | h
  · have e1 : JX c x r L.flatten = .tup [iss (Ql c r L.flatten), .int .i64 0] := by rw [JX, if_pos h]
    have hE' := hE (Ql c r L.flatten) L (by have := Qdv h; omega) hL
    simp (maxSteps := 4000000) (disch := omega) only [rr, aop, cV, cV1, AV.one, Qb, okW, Qd, app, Qa, Qc, Qe, Qf, Qg, simprocAttr, e1]
    refine Qh.vc hE' ?_
    by_cases h2 : L = Ql c r L.flatten
    · have e2 : decide ((Ql c r L.flatten).map (·.length) = L.map (·.length)) = true := decide_eq_true ((Qgz h).2 h2)
      have e9 : Qff c x r L = .tup [clA c x r L.flatten, .int .i64 0] := by rw [Qff, if_pos h, if_pos h2]
      simp (maxSteps := 4000000) (disch := omega) only [rr, aop, cV, cV1, AV.one, Qb, okW, Qd, app, Qa, Qc, Qe, Qf, Qg, simprocAttr, e2, Bool.not_true, ZE, ht, e9]
      simp [Zk, QL, QO, QK, Qu, isD, clA, il, Qr _ tl]
    · have e2 : decide ((Ql c r L.flatten).map (·.length) = L.map (·.length)) = false := decide_eq_false (fun h3 => h2 ((Qgz h).1 h3))
      have e9 : Qff c x r L = .tup [clA 0 0 0 [], .int .i64 12] := by rw [Qff, if_pos h, if_neg h2]
      simp (maxSteps := 4000000) (disch := omega) only [rr, aop, cV, cV1, AV.one, Qb, okW, Qd, app, Qa, Qc, Qe, Qf, Qg, simprocAttr, e2, Bool.not_false, ZE, ht, e9]
      simp [Zk, QL, QO, QK, Qu, isD, clA, il, ks]
  · have e1 : JX c x r L.flatten = .tup [iss [], .int .i64 8] := by rw [JX, if_neg (by omega)]
    have e9 : Qff c x r L = .tup [clA 0 0 0 [], .int .i64 8] := by rw [Qff, if_neg (by omega)]
    simp (maxSteps := 4000000) (disch := omega) only [rr, aop, cV, cV1, AV.one, Qb, okW, Qd, app, Qa, Qc, Qe, Qf, Qg, simprocAttr, e1, ZE, ht, e9]
    simp [Zk, QL, QO, QK, Qu, isD, clA, il, ks]
end Go.Am

namespace Go.Am
open Go.RowKit

/-! ### The reference's Parts, Split, Join -/

theorem QkL {L : List (List Int)} {p : List Int} (h : p ∈ L) : p.length ≤ L.flatten.length := by
  induction L with
  | nil => cases h
  | cons q L ih =>
    simp only [List.flatten_cons, List.length_append]
    rcases List.mem_cons.1 h with rfl | h
    · omega
    · have := ih h; omega
theorem Qub {L : List (List Int)} {z : Nat} (h : ∀ p ∈ L, p.length ≤ z) (j : Nat) : (L.getD j []).length ≤ z := by
  rw [List.getD_eq_getElem?_getD]
  cases e : L[j]? with
  | none => simp
  | some p => exact h p (List.mem_of_getElem? e)
theorem Qmn {L : List (List Int)} (h1 : L.length ≤ 1000000) (h2 : L.flatten.length ≤ 1000000) : QtV L := ⟨h1, Qub fun p hp => Nat.le_trans (QkL hp) h2⟩
end Go.Am

namespace Go.Am
open Go.RowKit

/-! ### CRC-64 (plain) -/

def QrY (c : Nat) : Nat := (2 * c) % 18446744073709551616 ^^^ (if 9223372036854775808 ≤ c then 4823603603198064275 else 0)
def Qeu : Nat → Nat → Nat
  | 0, c => c
  | k + 1, c => Qeu k (QrY c)
theorem Qpf (c : Nat) : QrY c < 18446744073709551616 := by
  unfold QrY
  have : (if 9223372036854775808 ≤ c then 4823603603198064275 else 0) < 2 ^ 64 := by split <;> decide
  exact Nat.xor_lt_two_pow (n := 64) (Nat.mod_lt _ (by decide)) this
theorem Qha : ∀ (k : Nat) {c : Nat}, c < 18446744073709551616 → Qeu k c < 18446744073709551616
  | 0, _, h => h
  | k + 1, c, _ => Qha k (Qpf c)
theorem QiL : ∀ (k c : Nat), Qeu (k + 1) c = QrY (Qeu k c)
  | 0, _ => rfl
  | k + 1, c => by rw [Qeu, QiL k, Qeu]

theorem Qth (c : Nat) (h : c < 18446744073709551616) : (9223372036854775808 ≤ c) ↔ c.testBit 63 = true := by
  constructor
  · intro h2
    rw [Nat.testBit_eq_decide_div_mod_eq]
    have : c / 2 ^ 63 = 1 := by omega
    rw [this]; rfl
  · intro h2
    exact Nat.ge_two_pow_of_testBit h2

theorem QrX {x l : Nat} (hx : x < 18446744073709551616) (hl : l < 9223372036854775808) : QrY (x ^^^ l) = QrY x ^^^ 2 * l := by
  have hxl : x ^^^ l < 18446744073709551616 := Nat.xor_lt_two_pow (n := 64) hx (by omega)
  have e1 : (9223372036854775808 ≤ x ^^^ l) ↔ (9223372036854775808 ≤ x) := by
    rw [Qth _ hxl, Qth _ hx, Nat.testBit_xor, Nat.testBit_lt_two_pow (show l < 2 ^ 63 from hl), Bool.xor_false]
  have e2 : (2 * (x ^^^ l)) % 18446744073709551616 = (2 * x) % 18446744073709551616 ^^^ 2 * l := by
    apply Nat.eq_of_testBit_eq
    intro i
    rw [show (18446744073709551616 : Nat) = 2 ^ 64 from rfl, Nat.testBit_mod_two_pow, Nat.testBit_xor, Nat.testBit_mod_two_pow]
    rw [show 2 * (x ^^^ l) = 2 ^ 1 * (x ^^^ l) from rfl, show 2 * x = 2 ^ 1 * x from rfl, show 2 * l = 2 ^ 1 * l from rfl, Nat.testBit_two_pow_mul, Nat.testBit_two_pow_mul, Nat.testBit_two_pow_mul, Nat.testBit_xor]
    by_cases h : i < 64
    · by_cases h1 : 1 ≤ i <;> simp [h, h1]
    · have h2 : l.testBit (i - 1) = false := Nat.testBit_lt_two_pow (Nat.lt_of_lt_of_le (show l < 2 ^ 63 from hl) (Nat.pow_le_pow_right (by decide) (by omega)))
      simp [h, h2]
  unfold QrY
  rw [e2]
  by_cases h : 9223372036854775808 ≤ x
  · rw [if_pos h, if_pos (e1.2 h), Nat.xor_assoc, Nat.xor_assoc, Nat.xor_comm (2 * l)]
  · rw [if_neg h, if_neg (fun h2 => h (e1.1 h2)), Nat.xor_assoc, Nat.xor_assoc, Nat.xor_comm (2 * l)]

theorem Ql8 : ∀ (k : Nat) {x l : Nat}, k ≤ 64 → x < 18446744073709551616 → l < 2 ^ (64 - k) → Qeu k (x ^^^ l) = Qeu k x ^^^ 2 ^ k * l
  | 0, x, l, _, _, _ => by simp [Qeu]
  | k + 1, x, l, hk, hx, hl => by
    have h1 : l < 9223372036854775808 := Nat.lt_of_lt_of_le hl (Nat.pow_le_pow_right (by omega) (by omega : 64 - (k + 1) ≤ 63))
    have h2 : 2 * l < 2 ^ (64 - k) := by
      rw [show 64 - k = (64 - (k + 1)) + 1 by omega, Nat.pow_succ]; omega
    rw [Qeu, QrX hx h1, Ql8 k (by omega) (Qpf x) h2, Qeu, Nat.pow_succ, Nat.mul_assoc]

def QuY (s b : Nat) : Nat := Qeu 8 (s ^^^ b * 72057594037927936)
theorem Qtp {s b : Nat} (hs : s < 18446744073709551616) : s ^^^ b * 72057594037927936 = (s / 72057594037927936 ^^^ b) * 72057594037927936 ^^^ s % 72057594037927936 := by
  have h := Qii s 56
  rw [show (2 : Nat) ^ 56 = 72057594037927936 from rfl] at h
  have e : (s / 72057594037927936 ^^^ b) * 72057594037927936 = s / 72057594037927936 * 72057594037927936 ^^^ b * 72057594037927936 := by
    apply Nat.eq_of_testBit_eq
    intro i
    rw [Nat.testBit_xor, show (72057594037927936 : Nat) = 2 ^ 56 from rfl, Nat.mul_comm _ (2 ^ 56), Nat.mul_comm _ (2 ^ 56), Nat.mul_comm b, Nat.testBit_two_pow_mul, Nat.testBit_two_pow_mul, Nat.testBit_two_pow_mul, Nat.testBit_xor]
    by_cases h : 56 ≤ i <;> simp [h]
  rw [e, Nat.xor_comm (s / 72057594037927936 * 72057594037927936), Nat.xor_assoc, Nat.mul_comm (s / 72057594037927936), Nat.xor_comm (72057594037927936 * _), ← h, Nat.xor_comm]
theorem Qnq {s b : Nat} (hs : s < 18446744073709551616) (hb : b < 256) : QuY s b = s * 256 % 18446744073709551616 ^^^ Qeu 8 ((s / 72057594037927936 ^^^ b) * 72057594037927936) := by
  have h0 : (s / 72057594037927936 ^^^ b) < 2 ^ 8 := Nat.xor_lt_two_pow (by omega) hb
  rw [QuY, Qtp hs, Ql8 8 (by omega) (by omega) (by show s % 72057594037927936 < 2 ^ 56; exact Nat.mod_lt _ (by decide)), Nat.xor_comm]
  congr 1
  omega
theorem QtE {s b : Nat} (hs : s < 18446744073709551616) (hb : b < 256) : QuY s b < 18446744073709551616 := Qha 8 (Nat.xor_lt_two_pow (n := 64) hs (by omega))
def Qbg (s : Nat) (l : List UInt8) : Nat := l.foldl (fun s b => QuY s b.toNat) s
theorem Qpg {s : Nat} {l : List UInt8} {k : Nat} (h : k < l.length) : Qbg s (l.take (k + 1)) = QuY (Qbg s (l.take k)) (l[k]).toNat := by
  rw [List.take_succ_eq_append_getElem h, Qbg, List.foldl_append]; rfl
theorem Qks : ∀ {l : List UInt8} {s : Nat}, s < 18446744073709551616 → Qbg s l < 18446744073709551616
  | [], _, h => h
  | b :: l, s, h => Qks (l := l) (QtE h (UInt8.toNat_lt b))

end Go.Am

namespace Go.Am
open Go.RowKit

/-! ### CRC-64 -/

def Qid (i : Nat) : List Int := (List.range 256).map fun j => if j < i then ((Qeu 8 (j * 72057594037927936) : Nat) : Int) else 0
theorem Xh (i : Nat) : (Qid i).length = 256 := by simp [Qid]
theorem Qet {i j : Nat} (h : j < 256) : (Qid i)[j]'(by rw [Xh]; exact h) = if j < i then ((Qeu 8 (j * 72057594037927936) : Nat) : Int) else 0 := by simp [Qid]
theorem QrO {i : Nat} (h : i < 256) : (Qid i).set i ((Qeu 8 (i * 72057594037927936) : Nat) : Int) = Qid (i + 1) := by
  refine List.ext_getElem (by simp [Xh]) fun j h1 h2 => ?_
  have hj : j < 256 := by simpa [Xh] using h2
  rw [List.getElem_set, Qet hj]
  split
  · rename_i e; subst e; rw [Qet hj, if_pos (by omega)]
  · rename_i e; rw [Qet hj]
    by_cases h3 : j < i
    · rw [if_pos h3, if_pos (by omega)]
    · rw [if_neg h3, if_neg (by omega)]

theorem QtI (c : Nat) : Qn true .u64 (c : Int) 1 = some (.int .u64 (((2 * c) % 18446744073709551616 : Nat) : Int)) := by
  have h3 : ¬ ((1 : Int) < 0) := by omega
  simp only [Qn, if_neg h3, if_true]
  have h5 : (min (1 : Int).toNat IntKind.u64.bits) = 1 := rfl
  rw [h5, Zp]
  congr 2
  omega
theorem Qpi (c : Nat) : Qn true .u64 (c : Int) 8 = some (.int .u64 ((c * 256 % 18446744073709551616 : Nat) : Int)) := by
  have h3 : ¬ ((8 : Int) < 0) := by omega
  simp only [Qn, if_neg h3, if_true]
  have h5 : (min (8 : Int).toNat IntKind.u64.bits) = 8 := rfl
  rw [h5, Zp]
  congr 2

def QhX (P : Prg) (f : Nat) : Prop := VC P f [] (.cell (ks .u64 (Qid 256)))
set_option maxRecDepth 40000 in
theorem Qk8 {P : Prg} {f t0 : Nat} (bd : Qj P f 25 [.tmp 0] (Qak t0)) : QhX P f := by
  refine VC.of_walk 1 rfl (by simp [isD, Qp9 (Qv _ _)]) (ACall.of_body bd (by simp) ?_)
  unfold Qak
  simp (maxSteps := 4000000) (disch := omega) only [rr, aop, cV, cV1, AV.one, Qb, okW, Qd, app, Qa, Qc, Qe, Qf, Qg, simprocAttr]
  refine QW.by (ι := Nat) (fun i => ⟨[(5, .int .i64 i), (1, .ref 0 1 0)], [⟨t0, 256, 1, ks .u64 (Qid i), 0⟩]⟩) (fun i => i ≤ 256) (fun i => 256 - i) 0 (Le.slots (by simp [Am.look])) (by omega) ?_
  intro i hi
  by_cases hlt : i < 256
  · have s0 : Qn true .u64 (i : Int) 56 = some (.int .u64 ((i * 72057594037927936 : Nat) : Int)) := by
      have := Qou (K := .u64) rfl (c := i) (s := 56) (by decide) (by show i * 2 ^ 56 < 2 ^ 64; omega)
      exact this
    have w0 : IntKind.u64.wrap (i : Int) = i := QbK (by omega) (by omega)
    simp (maxSteps := 4000000) (disch := omega) only [rr, aop, cV, cV1, AV.one, Qb, okW, Qd, app, Qa, Qc, Qe, Qf, Qg, simprocAttr, s0, w0]
    refine QW.by (ι := Nat) (fun j => ⟨[(11, .int .i64 j), (3, .int .u64 (Qeu j (i * 72057594037927936))), (5, .int .i64 i), (2, .int .i64 i), (1, .ref 0 1 0)], [⟨t0, 256, 1, ks .u64 (Qid i), 0⟩]⟩) (fun j => j ≤ 8) (fun j => 8 - j) 0 (Le.slots (by simp [Am.look, Qeu])) (by omega) ?_
    intro j hj
    by_cases hjl : j < 8
    · have hc := Qha j (c := i * 72057594037927936) (by omega)
      have hn := QiL j (i * 72057594037927936)
      generalize Qeu j (i * 72057594037927936) = c at *
      have a1 := QtI c
      have a2 : Qn false .u64 (c : Int) 63 = some (.int .u64 ((c / 9223372036854775808 : Nat) : Int)) := Qie (K := .u64) (n := c) (k := 63) (by decide)
      have hm := Nat.mod_lt (2 * c) (show 0 < 18446744073709551616 by decide)
      by_cases h2 : 9223372036854775808 ≤ c
      · have a3 : IntKind.u64.wrap (BitVec.ofInt IntKind.u64.bits ((2 * c % 18446744073709551616 : Nat) : Int) ^^^ BitVec.ofInt IntKind.u64.bits 4823603603198064275).toNat = ((Qeu (j + 1) (i * 72057594037927936) : Nat) : Int) := by
          rw [hn, QrY, if_pos h2]
          exact Qry (K := .u64) rfl (a := 2 * c % 18446744073709551616) (b := 4823603603198064275) hm (by decide)
        have a4 : c / 9223372036854775808 = 1 := by omega
        rw [a4] at a2
        generalize 2 * c % 18446744073709551616 = d at *
        simp (maxSteps := 4000000) (disch := omega) only [rr, aop, cV, cV1, AV.one, Qb, okW, Qd, app, Qa, Qc, Qe, Qf, Qg, simprocAttr, a1, a2, a3]
        exact ⟨j + 1, by omega, by omega, Le.slots (by simp [Am.look])⟩
      · have a3 : IntKind.u64.wrap (BitVec.ofInt IntKind.u64.bits ((2 * c % 18446744073709551616 : Nat) : Int) ^^^ BitVec.ofInt IntKind.u64.bits 0).toNat = ((Qeu (j + 1) (i * 72057594037927936) : Nat) : Int) := by
          rw [hn, QrY, if_neg h2]
          exact Qry (K := .u64) rfl (a := 2 * c % 18446744073709551616) (b := 0) hm (by decide)
        have a4 : c / 9223372036854775808 = 0 := by omega
        rw [a4] at a2
        generalize 2 * c % 18446744073709551616 = d at *
        simp (maxSteps := 4000000) (disch := omega) only [rr, aop, cV, cV1, AV.one, Qb, okW, Qd, app, Qa, Qc, Qe, Qf, Qg, simprocAttr, a1, a2, a3]
        exact ⟨j + 1, by omega, by omega, Le.slots (by simp [Am.look])⟩
    · obtain rfl : j = 8 := by omega
      have e1 := Xh i
      have e2 := Qk .u64 (Qid i)
      have e3 : (ks .u64 (Qid i)).take i ++ [.int .u64 (Qeu 8 (i * 72057594037927936))] ++ (ks .u64 (Qid i)).drop (i + 1) = ks .u64 (Qid (i + 1)) := by
        rw [← QrO hlt, List.set_eq_take_append_cons_drop, if_pos (by rw [Xh]; exact hlt)]; simp [ks, List.map_take, List.map_drop]
      simp (maxSteps := 4000000) (disch := omega) only [rr, aop, cV, cV1, AV.one, Qb, okW, Qd, app, Qa, Qc, Qe, Qf, Qg, simprocAttr, e1, e2, e3]
      exact ⟨i + 1, by omega, by omega, Le.slots (by simp [Am.look])⟩
  · obtain rfl : i = 256 := by omega
    simp (maxSteps := 4000000) (disch := omega) only [rr, aop, cV, cV1, AV.one, Qb, okW, Qd, app, Qa, Qc, Qe, Qf, Qg, simprocAttr]
    simp [Zk, QL, QO, QK, Qr _ (Qv _ _)]

def QfM (P : Prg) (f : Nat) : Prop := ∀ (s : Nat) (l : List UInt8), s < 18446744073709551616 → l.length ≤ 1000000 → VC P f [.cell (ks .u64 (Qid 256)), .int .u64 s, bs l] (.int .u64 (Qbg s l : Nat))
set_option maxRecDepth 40000 in
theorem Qjo {P : Prg} {f : Nat} (bd : Qj P f 29 [.tmp 6] JS) : QfM P f := by
  intro s l hs hl
  refine VC.of_acall (by simp [Qu, isD, X8, Q0]) rfl (ACall.of_body bd (by simp) ?_)
  have t0 := Qk .u64 (Qid 256)
  rw [Xh] at t0
  simp (maxSteps := 4000000) (disch := omega) only [rr, aop, cV, cV1, AV.one, Qb, okW, Qd, app, Qa, Qc, Qe, Qf, Qg, simprocAttr, JS, bs]
  refine QW.by (ι := Nat) (fun k => ⟨[(11, .int .i64 k), (10, .int .i64 l.length), (9, .list l.length (u8 l)), (0, .cell (ks .u64 (Qid 256))), (1, .int .u64 (Qbg s (l.take k)))], []⟩) (fun k => k ≤ l.length) (fun k => l.length - k) 0 (Le.slots (by simp [Am.look, Qbg])) (by omega) ?_
  intro k hk
  have hc := Qks (l := l.take k) hs
  by_cases hlt : k < l.length
  · have e1 := Qd0 hlt
    have hn := Qpg (s := s) hlt
    generalize Qbg s (l.take k) = c at *
    have hb := (l[k]).toNat_lt
    rw [Qnq hc hb] at hn
    have h0 : (c / 72057594037927936 ^^^ (l[k]).toNat) < 256 := Nat.xor_lt_two_pow (n := 8) (by omega) hb
    have h1 := Qha 8 (c := (c / 72057594037927936 ^^^ (l[k]).toNat) * 72057594037927936) (by omega)
    have a1 : Qn false .u64 (c : Int) 56 = some (.int .u64 ((c / 72057594037927936 : Nat) : Int)) := Qie (K := .u64) (n := c) (k := 56) (by decide)
    have a0 := Qpi c
    have a2 : IntKind.u8.wrap ((c / 72057594037927936 : Nat) : Int) = ((c / 72057594037927936 : Nat) : Int) := by rw [Qcl]; omega
    have a3 : IntKind.u8.wrap (BitVec.ofInt IntKind.u8.bits ((c / 72057594037927936 : Nat) : Int) ^^^ BitVec.ofInt IntKind.u8.bits ((l[k]).toNat : Int)).toNat = ((c / 72057594037927936 ^^^ (l[k]).toNat : Nat) : Int) :=
      Qry (K := .u8) rfl (a := c / 72057594037927936) (b := (l[k]).toNat) (by show c / 72057594037927936 < 256; omega) hb
    have hm := Nat.mod_lt (c * 256) (show 0 < 18446744073709551616 by decide)
    have a4 : IntKind.u64.wrap (BitVec.ofInt IntKind.u64.bits ((c * 256 % 18446744073709551616 : Nat) : Int) ^^^ BitVec.ofInt IntKind.u64.bits ((Qeu 8 ((c / 72057594037927936 ^^^ (l[k]).toNat) * 72057594037927936) : Nat) : Int)).toNat = ((Qbg s (l.take (k + 1)) : Nat) : Int) := by
      rw [hn]; exact Qry (K := .u64) rfl hm h1
    generalize c * 256 % 18446744073709551616 = d at *
    generalize c / 72057594037927936 ^^^ (l[k]).toNat = x at *
    have e2 : (ks .u64 (Qid 256)).drop x = .int .u64 ((Qeu 8 (x * 72057594037927936) : Nat) : Int) :: ks .u64 ((Qid 256).drop (x + 1)) := by
      rw [QaP, List.drop_eq_getElem_cons (by rw [Xh]; exact h0), Qcr, Qet h0, if_pos h0]
    generalize c / 72057594037927936 = q at *
    simp (maxSteps := 4000000) (disch := omega) only [rr, aop, cV, cV1, AV.one, Qb, okW, Qd, app, Qa, Qc, Qe, Qf, Qg, simprocAttr, e1, a0, a1, a2, a3, a4, e2, t0]
    exact ⟨k + 1, by omega, by omega, Le.slots (by simp [Am.look])⟩
  · have ek : k = l.length := by omega
    subst ek
    rw [List.take_length]
    simp (maxSteps := 4000000) (disch := omega) only [rr, aop, cV, cV1, AV.one, Qb, okW, Qd, app, Qa, Qc, Qe, Qf, Qg, simprocAttr]

def QlM (P : Prg) (f : Nat) : Prop := ∀ (s : Nat) (l : List UInt8), s < 18446744073709551616 → VC P f [.int .u64 s, bs l] (if 100000 < l.length then .tup [.int .u64 0, .int .i64 4] else .tup [.int .u64 (Qbg s l), .int .i64 0])
theorem Qn0 {P : Prg} {f fT fB : Nat} (bd : Qj P f 13 [.tmp 4, .tmp 5] (Ju fT fB)) (hT : QhX P fT) (hB : QfM P fB) : QlM P f := by
  intro s l hs
  refine VC.of_acall (by simp [Qu, isD, X8]) (by split <;> rfl) (ACall.of_body bd (by simp) ?_)
  by_cases hl : 100000 < l.length
  · rw [if_pos hl]
    simp (maxSteps := 4000000) (disch := omega) only [rr, aop, cV, cV1, AV.one, Qb, okW, Qd, app, Qa, Qc, Qe, Qf, Qg, simprocAttr, Ju, bs]
  · rw [if_neg hl]
    have hB' := hB s l hs (by omega)
    rw [bs] at hB'
    have hT' : VC P fT [] _ := hT
    simp (maxSteps := 4000000) (disch := omega) only [rr, aop, cV, cV1, AV.one, Qb, okW, Qd, app, Qa, Qc, Qe, Qf, Qg, simprocAttr, Ju, bs]
    refine Qh.vc hT' ?_
    simp (maxSteps := 4000000) (disch := omega) only [rr, aop, cV, cV1, AV.one, Qb, okW, Qd, app, Qa, Qc, Qe, Qf, Qg, simprocAttr]
    refine Qh.vc hB' ?_
    simp (maxSteps := 4000000) (disch := omega) only [rr, aop, cV, cV1, AV.one, Qb, okW, Qd, app, Qa, Qc, Qe, Qf, Qg, simprocAttr]

def Qrn (P : Prg) (f : Nat) : Prop := ∀ (l : List UInt8), VC P f [bs l] (if 100000 < l.length then .tup [.int .u64 0, .int .i64 4] else .tup [.int .u64 (Qbg 0 l), .int .i64 0])
theorem QqN {P : Prg} {f fN : Nat} (bd : Qj P f 8 [.tmp 2, .tmp 3] (J5 fN)) (hN : QlM P fN) : Qrn P f := by
  intro l
  refine VC.of_acall (by simp [Qu, isD, X8]) (by split <;> rfl) (ACall.of_body bd (by simp) ?_)
  have hN' := hN 0 l (by decide)
  rw [bs] at hN'
  by_cases hl : 100000 < l.length
  · rw [if_pos hl] at hN' ⊢
    simp (maxSteps := 4000000) (disch := omega) only [rr, aop, cV, cV1, AV.one, Qb, okW, Qd, app, Qa, Qc, Qe, Qf, Qg, simprocAttr, J5, bs]
    refine Qh.vc hN' ?_
    simp (maxSteps := 4000000) (disch := omega) only [rr, aop, cV, cV1, AV.one, Qb, okW, Qd, app, Qa, Qc, Qe, Qf, Qg, simprocAttr]
  · rw [if_neg hl] at hN' ⊢
    simp (maxSteps := 4000000) (disch := omega) only [rr, aop, cV, cV1, AV.one, Qb, okW, Qd, app, Qa, Qc, Qe, Qf, Qg, simprocAttr, J5, bs]
    refine Qh.vc hN' ?_
    simp (maxSteps := 4000000) (disch := omega) only [rr, aop, cV, cV1, AV.one, Qb, okW, Qd, app, Qa, Qc, Qe, Qf, Qg, simprocAttr]
end Go.Am

namespace Go.Am
open Go.RowKit

/-! ### Taps of passwords -/

def sb8 (x : Nat) : Int := if 127 < x % 256 then ((x % 256 : Nat) : Int) - 256 else ((x % 256 : Nat) : Int)
theorem Qu3 (x : Nat) : -128 ≤ sb8 x ∧ sb8 x ≤ 127 := by unfold sb8; split <;> omega
def ofK (d k : Nat) : List Int := (List.range 16).map fun i => if i < k then sb8 (d / 2 ^ (8 * i)) else 0
theorem Qcp (d k : Nat) : (ofK d k).length = 16 := by simp [ofK]
theorem QtX {d k : Nat} (h : k < 16) : (ofK d k).set k (sb8 (d / 2 ^ (8 * k))) = ofK d (k + 1) := by
  refine List.ext_getElem (by simp [Qcp]) fun j h1 h2 => ?_
  have hj : j < 16 := by simpa [Qcp] using h2
  rw [List.getElem_set]
  simp only [ofK, List.getElem_map, List.getElem_range]
  split
  · rename_i e; subst e; rw [if_pos (by omega)]
  · by_cases h3 : j < k
    · rw [if_pos h3, if_pos (by omega)]
    · rw [if_neg h3, if_neg (by omega)]
theorem Qts (x : Nat) : IntKind.i8.wrap (x : Int) = sb8 x := by
  unfold sb8
  simp only [IntKind.wrap, IntKind.bits, IntKind.signed]
  simp
  split <;> split <;> omega
def Qro (P : Prg) (f : Nat) : Prop := ∀ d : Nat, d < 18446744073709551616 → VC P f [.int .u64 d] (.agg (ks .i32 (ofK d 8)))
theorem QtQ {P : Prg} {f t0 : Nat} (bd : Qj P f 18 [.cell 2 t0] (QdH t0)) (ht : ZB P t0 = some (some 16)) : Qro P f := by
  intro d hd
  refine VC.of_acall rfl (by simp [isD, Q0]) (ACall.of_body bd (by simp) ?_)
  unfold QdH
  have z : ([.int .i32 0, .int .i32 0, .int .i32 0, .int .i32 0, .int .i32 0, .int .i32 0, .int .i32 0, .int .i32 0, .int .i32 0, .int .i32 0, .int .i32 0, .int .i32 0, .int .i32 0, .int .i32 0, .int .i32 0, .int .i32 0] : List AV) = ks .i32 (ofK 0 0) := rfl
  have z0 : ks .i32 (ofK 0 0) = ks .i32 (ofK d 0) := rfl
  rw [z]
  have ol := X6 .i32 (ofK 0 0)
  have kl0 : (ks .i32 (ofK 0 0)).length = 16 := rfl
  simp (maxSteps := 4000000) (disch := omega) only [rr, aop, cV, cV1, AV.one, Qb, okW, Qd, app, Qa, Qc, Qe, Qf, Qg, simprocAttr, ol, kl0]
  refine QW.by (ι := Nat) (fun i => ⟨[(5, .int .i64 i), (0, .int .u64 d), (3, .ref 1 1 0), (2, .ref 0 1 0)], [⟨t0, 16, 1, ks .i32 (ofK 0 0), 0⟩, ⟨t0, 16, 1, ks .i32 (ofK d i), 0⟩]⟩) (fun i => i ≤ 8) (fun i => 8 - i) 0 (Le.slots (by simp [Am.look])) (by omega) ?_
  intro i hi
  have kl : (ks .i32 (ofK d i)).length = 16 := by rw [Qk, Qcp]
  by_cases hlt : i < 8
  · have a1 : Qn false .u64 (d : Int) (8 * (i : Int)) = some (.int .u64 ((d / 2 ^ (8 * i) : Nat) : Int)) := by
      have := Qie (K := .u64) (n := d) (k := 8 * i) (by show 8 * i ≤ 64; omega)
      simpa using this
    have a2 := Qts (d / 2 ^ (8 * i))
    have a3 := Qu3 (d / 2 ^ (8 * i))
    have e3 : (ks .i32 (ofK d i)).take i ++ [.int .i32 (sb8 (d / 2 ^ (8 * i)))] ++ (ks .i32 (ofK d i)).drop (i + 1) = ks .i32 (ofK d (i + 1)) := by
      rw [← QtX (by omega), List.set_eq_take_append_cons_drop, if_pos (by rw [Qcp]; omega)]; simp [ks, List.map_take, List.map_drop]
    generalize d / 2 ^ (8 * i) = q at *
    generalize sb8 q = y at *
    simp (maxSteps := 4000000) (disch := omega) only [rr, aop, cV, cV1, AV.one, Qb, okW, Qd, app, Qa, Qc, Qe, Qf, Qg, simprocAttr, a1, a2, kl, e3]
    exact ⟨i + 1, by omega, by omega, Le.slots (by simp [Am.look])⟩
  · obtain rfl : i = 8 := by omega
    have o8 := X6 .i32 (ofK d 8)
    have t8 : (ks .i32 (ofK d 8)).take 16 = ks .i32 (ofK d 8) := List.take_of_length_le (by omega)
    simp (maxSteps := 4000000) (disch := omega) only [rr, aop, cV, cV1, AV.one, Qb, okW, Qd, app, Qa, Qc, Qe, Qf, Qg, simprocAttr, kl, kl0, t8, o8, ZE, ht]
    try simp [kl]

theorem Qtf : ∀ p : List UInt8, X7 (u8 p) = true
  | [] => rfl
  | b :: p => by have := Qtf p; simp only [u8, List.map_cons, X7, isT, Bool.true_and] at this ⊢; exact this
def ZH : List Int := List.replicate 16 0
def Qcm (p : List UInt8) : AV := if 64 < p.length then .tup [.agg (ks .i32 ZH), .int .i64 2] else .tup [.agg (ks .i32 (ofK (Qbg 0 p) 8)), .int .i64 0]
theorem Qsw (p : List UInt8) : isD (Qcm p) = true := by unfold Qcm; split <;> simp [isD, Qu, Q0]
def QmX (P : Prg) (f : Nat) : Prop := ∀ p : List UInt8, VC P f [.str p] (Qcm p)
theorem Qpo {P : Prg} {f fS fO t0 : Nat} (bd : Qj P f 22 [.cell 2 t0, .tmp 3] (QbF fS fO t0)) (hS : Qrn P fS) (hO : Qro P fO) (ht : ZB P t0 = some (some 16)) : QmX P f := by
  intro p
  refine VC.of_acall rfl (Qsw p) (ACall.of_body bd (by simp) ?_)
  unfold QbF
  have z : ([.int .i32 0, .int .i32 0, .int .i32 0, .int .i32 0, .int .i32 0, .int .i32 0, .int .i32 0, .int .i32 0, .int .i32 0, .int .i32 0, .int .i32 0, .int .i32 0, .int .i32 0, .int .i32 0, .int .i32 0, .int .i32 0] : List AV) = ks .i32 ZH := rfl
  rw [z]
  have ol := X6 .i32 ZH
  have kl0 : (ks .i32 ZH).length = 16 := rfl
  have t0' : (ks .i32 ZH).take 16 = ks .i32 ZH := rfl
  by_cases hp : 64 < p.length
  · have e9 : Qcm p = .tup [.agg (ks .i32 ZH), .int .i64 2] := by rw [Qcm, if_pos hp]
    simp (maxSteps := 4000000) (disch := omega) only [rr, aop, cV, cV1, AV.one, Qb, okW, Qd, app, Qa, Qc, Qe, Qf, Qg, simprocAttr, ol, kl0, ZE, ht, t0', e9]
    rfl
  · have e9 : Qcm p = .tup [.agg (ks .i32 (ofK (Qbg 0 p) 8)), .int .i64 0] := by rw [Qcm, if_neg hp]
    have hS' := hS p
    rw [if_neg (by omega)] at hS'
    have hO' := hO (Qbg 0 p) (Qks (by decide))
    have o8 := X6 .i32 (ofK (Qbg 0 p) 8)
    have kl : (ks .i32 (ofK (Qbg 0 p) 8)).length = 16 := by rw [Qk, Qcp]
    have t8 : (ks .i32 (ofK (Qbg 0 p) 8)).take 16 = ks .i32 (ofK (Qbg 0 p) 8) := List.take_of_length_le (by omega)
    have tp := Qtf p
    rw [bs] at hS'
    simp (maxSteps := 4000000) (disch := omega) only [rr, aop, cV, cV1, AV.one, Qb, okW, Qd, app, Qa, Qc, Qe, Qf, Qg, simprocAttr, ol, kl0]
    refine Qh.flat 1 hS' rfl (by simp [Zk, QL, QO, QK, Qr _ tp]) ?_
    simp (maxSteps := 4000000) (disch := omega) only [rr, aop, cV, cV1, AV.one, Qb, okW, Qd, app, Qa, Qc, Qe, Qf, Qg, simprocAttr]
    refine Qh.vc hO' ?_
    have zl : ZH.length = 16 := rfl
    have zd : (ks .i32 ZH).drop 16 = [] := rfl
    simp (maxSteps := 4000000) (disch := omega) only [rr, aop, cV, cV1, AV.one, Qb, okW, Qd, app, Qa, Qc, Qe, Qf, Qg, simprocAttr, o8, kl, t8, ZE, ht, e9, zl, zd, List.append_nil]
    try simp [kl]
end Go.Am

namespace Go.Am
open Go.RowKit

/-! ### clip.Frames -/

theorem Qp0 {L n j : Nat} (hn : 1 ≤ n) (hL : 1 ≤ L) (hj : j < (QN L n).length) : 1 ≤ (QN L n).getD j 0 := by
  rw [List.getD_eq_getElem?_getD, List.getElem?_eq_getElem hj, Option.getD_some]
  have hm := List.getElem_mem hj
  unfold QN at hm
  simp only [List.mem_append, List.mem_replicate, List.mem_singleton] at hm
  unfold QN
  rcases hm with hm | hm
  · rw [hm.2]; omega
  · rw [hm]
    have g0 : (n - 1) / L * L ≤ n - 1 := Nat.div_mul_le_self _ _
    clear hm
    generalize (n - 1) / L * L = w at *
    omega
theorem Qux {c x : Int} {l p : List Int} (h : Qca c x l = 0) (hs : ∀ v ∈ p, v ∈ l) (hp : 1 ≤ p.length) (hl : p.length ≤ l.length) (hc : (p.length : Int) % c = 0) : Qca c x p = 0 := by
  unfold Qca at h ⊢
  split at h
  · cases h
  rename_i h1
  split at h
  · rename_i h2; exact absurd h h2
  rename_i h2
  have h2' : QG x l = 0 := by simpa using h2
  have h3 : QG x p = 0 := by
    unfold QG at h2' ⊢
    split at h2'
    · cases h2'
    rename_i a1
    split at h2'
    · cases h2'
    rename_i a2
    split at h2'
    · rename_i a3
      rw [if_neg a1, if_neg (by omega), if_pos (List.all_eq_true.2 fun v hv => List.all_eq_true.1 a3 v (hs v hv))]
    · cases h2'
  rw [if_neg h1, if_neg (by rw [h3]; simp), if_neg (by omega)]
theorem QcX {c x r : Int} {l : List Int} (h : Zo c x r l = 0) : ∀ p ∈ Ql c r l, Qca c x p = 0 ∧ p.length ≤ 4000 ∧ 1 ≤ p.length := by
  have ha : Qca c x l = 0 := by
    have h2 := QaT (c := c) (x := x) (r := r) (l := l)
    rw [h] at h2
    by_cases h3 : Qca c x l = 0 ∧ ZK c x r (l.length / c) = 0
    · exact h3.1
    · rw [if_neg h3] at h2; cases h2
  obtain ⟨k, n, rfl, k1, k2, hlen, ⟨o1, o2, o3, o4, o5⟩, h4⟩ := Jp h
  intro p hp
  unfold Ql at hp
  rw [Int.toNat_natCast, hlen, Nat.mul_div_cancel _ (by omega)] at hp
  obtain ⟨j, hj, rfl⟩ := List.mem_map.1 hp
  rw [List.mem_range] at hj
  have hL1 : 1 ≤ (Qy r).toNat := by have := Z8 r; omega
  obtain ⟨m, p1, p2, p3, p4, p5, p6, p7⟩ := Qdw (j := j) hlen (by omega) hL1 hj
  have hm1 := Qp0 (n := n) (by omega) hL1 hj
  rw [p1] at hm1
  have hlen2 : (Zn ((Qy r).toNat * k) l j).length = m * k := by
    rw [p6, List.length_take, List.length_drop, hlen]
    omega
  have hmk : 1 ≤ m * k := Nat.mul_pos (by omega) k1
  have hmn : m * k ≤ n * k := Nat.mul_le_mul_right _ p2
  refine ⟨Qux ha (fun v hv => ?_) (by rw [hlen2]; exact hmk) (by rw [hlen2, hlen]; exact hmn) ?_, by rw [hlen2]; omega, by rw [hlen2]; exact hmk⟩
  · rw [p6] at hv
    exact List.mem_of_mem_drop (List.mem_of_mem_take hv)
  · rw [hlen2, Int.natCast_mul, Int.mul_emod_left]

def QF (c x r : Int) (l : List Int) (t : List Int) : List (List UInt8) := (Ql c r l).map (Qfo c.toNat x t)
def XM (c x r : Int) (l : List Int) (p : List UInt8) : AV :=
  if Zo c x r l ≠ 0 then .tup [bss [], .int .i64 8] else if 64 < p.length then .tup [bss [], .int .i64 2] else .tup [bss (QF c x r l (ofK (Qbg 0 p) 8)), .int .i64 0]
theorem QkR (c x r : Int) (l : List Int) (p : List UInt8) : isD (XM c x r l p) = true := by unfold XM; split <;> (try split) <;> simp [isD, Qu, Qqf]
theorem Qrw (d k : Nat) : I32 (ofK d k) := fun x hx => by
  unfold ofK at hx
  obtain ⟨i, _, rfl⟩ := List.mem_map.1 hx
  split
  · have := Qu3 (d / 2 ^ (8 * i)); omega
  · omega
def QeJ (P : Prg) (f : Nat) : Prop := ∀ (c x r : Int) (l : List Int) (p : List UInt8), I32 l → l.length ≤ 1000000 → VC P f [clA c x r l, .str p] (XM c x r l p)

set_option maxHeartbeats 1000000 in
theorem Qle {P : Prg} {f fC fT fP fS fE fA g t0 t1 t2 t3 t4 ti : Nat} (b : QlZ P f 45 [.cell 4 t1, .cell 5 t2] (Qam fC fT fP fS fE t0 t1 t2 t3 t4)) (hC : Xj P fC) (hT : QmX P fT) (hP : Qdk g P fP) (hI : Qdj ti P g) (bG : Qj P g 43 [] (ZN fA)) (hS : Ja P fS) (hE : QsZ P fE)
    (ht1 : ZB P t1 = some none) (ht2 : ZB P t2 = some none) (h0 : t0 ≠ ti) (h1 : t1 ≠ ti) (h2 : t2 ≠ ti) (h3 : t3 ≠ ti) (h4 : t4 ≠ ti) : QeJ P f := by
  intro c x r l p hI32 hl
  refine VC.of_walk 2 (by simp [Qu, isD, QI, clA]) (QkR _ _ _ _ _) (ACall.of_rangeC b (by simp) ?_)
  have hC' := hC c x r l hI32 hl
  rw [il] at hC'
  have tl := Qv .i32 l
  have z : ([.int .i32 0, .int .i32 0, .int .i32 0, .int .i32 0, .int .i32 0, .int .i32 0, .int .i32 0, .int .i32 0, .int .i32 0, .int .i32 0, .int .i32 0, .int .i32 0, .int .i32 0, .int .i32 0, .int .i32 0, .int .i32 0] : List AV) = ks .i32 ZH := rfl
  unfold Qam
  rw [z]
  have ol := X6 .i32 ZH
  have kl0 : (ks .i32 ZH).length = 16 := rfl
  rcases QaU c x r l with h | h
  · rw [h] at hC'
    have hT' := hT p
    simp (maxSteps := 4000000) (disch := omega) only [rr, aop, cV, cV1, AV.one, Qb, okW, Qd, app, Qa, Qc, Qe, Qf, Qg, simprocAttr, clA, il, XS, J9, Xa, Qc4, Qat, Qmy]
    refine Qh.vc hC' ?_
    simp (maxSteps := 4000000) (disch := omega) only [rr, aop, cV, cV1, AV.one, Qb, okW, Qd, app, Qa, Qc, Qe, Qf, Qg, simprocAttr, Xa, Qc4, XS, J9]
    refine Qh.vc hT' ?_
    by_cases hp : 64 < p.length
    · have e9 : XM c x r l p = .tup [bss [], .int .i64 2] := by rw [XM, if_neg (by omega), if_pos hp]
      have e8 : Qcm p = .tup [.agg (ks .i32 ZH), .int .i64 2] := by rw [Qcm, if_pos hp]
      have t0' : (ks .i32 ZH).take 16 = ks .i32 ZH := rfl
      have zl : ZH.length = 16 := rfl
      have zd : (ks .i32 ZH).drop 16 = [] := rfl
      rw [e8]
      simp (maxSteps := 4000000) (disch := omega) only [rr, aop, cV, cV1, AV.one, Qb, okW, Qd, app, Qa, Qc, Qe, Qf, Qg, simprocAttr, Xa, Qc4, XS, J9, ol, kl0, t0', zl, zd, List.append_nil, e9, ZE, ht1, ht2]
      simp [Zk, QL, QO, QK, Qu, isD, bss]
    · have e9 : XM c x r l p = .tup [bss (QF c x r l (ofK (Qbg 0 p) 8)), .int .i64 0] := by rw [XM, if_neg (by omega), if_neg hp]
      have e8 : Qcm p = .tup [.agg (ks .i32 (ofK (Qbg 0 p) 8)), .int .i64 0] := by rw [Qcm, if_neg hp]
      obtain ⟨T, hTe⟩ : ∃ T, ofK (Qbg 0 p) 8 = T := ⟨_, rfl⟩
      have hTl : T.length = 16 := by rw [← hTe, Qcp]
      have hTI : I32 T := by rw [← hTe]; exact Qrw _ _
      have oT := X6 .i32 T
      have kT : (ks .i32 T).length = 16 := by rw [Qk, hTl]
      have tT : (ks .i32 T).take 16 = ks .i32 T := List.take_of_length_le (by omega)
      have zl : ZH.length = 16 := rfl
      have zd : (ks .i32 ZH).drop 16 = [] := rfl
      rw [hTe] at e8 e9
      have hparts := QcX h
      obtain ⟨k, n, rfl, k1, k2, hlen, hok, h4'⟩ := Jp h
      have hP' := hP k x r l
      have hI' := hI k n x r l k1 k2 hlen hok
      rw [clA] at hP'
      rw [il] at hP' hI'
      have hS' := hS k x r l
      rw [shA, il] at hS'
      rw [e8]
      simp (maxSteps := 4000000) (disch := omega) only [rr, aop, cV, cV1, AV.one, Qb, okW, Qd, app, Qa, Qc, Qe, Qf, Qg, simprocAttr, Xa, Qc4, XS, J9, ol, kl0, oT, kT, zl, zd, List.append_nil]
      refine Qh.vc hP' ?_
      simp (maxSteps := 4000000) (disch := omega) only [rr, aop, cV, cV1, AV.one, Qb, okW, Qd, app, Qa, Qc, Qe, Qf, Qg, simprocAttr, Qat]
      obtain ⟨Lc, hLc⟩ : ∃ Lc, (Qy r).toNat * k = Lc := ⟨_, rfl⟩
      rw [hLc] at hI'
      have hcnt : (QN (Qy r).toNat n).length ≤ 1000 := by have := hok.2.2.2.2; rwa [Int.toNat_natCast] at this
      obtain ⟨cnt, hcn⟩ : ∃ cnt, (QN (Qy r).toNat n).length = cnt := ⟨_, rfl⟩
      have hpo : Ql k r l = (List.finRange cnt).map (fun j => Zn Lc l j.1) := by
        unfold Ql
        rw [Int.toNat_natCast, hlen, Nat.mul_div_cancel _ (by omega), hcn, hLc]
        apply List.ext_getElem <;> simp
      rw [hcn] at hI' hcnt
      refine ⟨cnt, g, _, [ti], _, [(27, .fn (.func g) [] [.cell [.int .i64 k, .int .i64 x, .int .i64 r, .list l.length (ks .i32 l)]]), (2, .ref 0 1 0), (4, .ref 1 1 0), (5, .ref 2 1 0), (7, .ref 3 1 0), (9, .ref 4 1 0)],
        fun pre => [⟨t0, 4, 1, [.int .i64 k, .int .i64 x, .int .i64 r, .list l.length (ks .i32 l)], 0⟩, ⟨t1, 1, 1, [.list 0 []], 0⟩, ⟨t2, 1, 1, [.int .i64 0], 0⟩, ⟨t3, 16, 1, ks .i32 T, 0⟩, ⟨t1, 1, 1, [.own 5 pre.length], 0⟩, ⟨t4, 1, pre.length, pre.map (fun j => bs (Qfo k x T (Zn Lc l j.1))), 0⟩], ?_, rfl, bG.ent, by simp [Qu, isD, Q0], hI', by omega, by omega, rfl, ?_, ?_, ?_⟩
      · refine Le.trans (Le.virtF (p := 4) (ty := t4) (sz := 1) (by omega) rfl rfl) (Le.drop 6 2 (by omega) rfl (by simp [Am.look, QL, QO, QK, Qr _ tl]) ?_)
        intro i z hz
        match i, hz with
        | 0, hz => cases hz; exact ⟨_, rfl, by simp [QL, QO, QK, Qr _ tl]⟩
        | 1, hz => cases hz; exact ⟨_, rfl, by simp [QL, QO, QK]⟩
        | 2, hz => cases hz; exact ⟨_, rfl, by simp [QL, QO, QK]⟩
        | 3, hz => cases hz; exact ⟨_, rfl, by simp [QL, Qr _ (Qv .i32 T)]⟩
        | 4, hz => cases hz; exact ⟨_, rfl, by simp [QL, QO, QK]⟩
        | 5, hz => cases hz; exact ⟨_, rfl, by simp [QL, QO, QK]⟩
        | i + 6, hz => simp at hz
      · intro pre x hx
        simp only [List.mem_cons, List.not_mem_nil, or_false] at hx ⊢
        rcases hx with rfl | rfl | rfl | rfl | rfl | rfl
        · exact h0
        · exact h1
        · exact h2
        · exact h3
        · exact h1
        · exact h4
      · intro pre y hpl
        have hmem : Zn Lc l y.1 ∈ Ql k r l := by rw [hpo]; exact List.mem_map.2 ⟨y, List.mem_finRange _, rfl⟩
        obtain ⟨q1, q2, q3⟩ := hparts _ hmem
        have hqI : I32 (Zn Lc l y.1) := fun v hv => hI32 v (by
          unfold Zn at hv
          exact List.mem_of_mem_drop (List.mem_of_mem_take hv))
        have hE' := hE k x T (Zn Lc l y.1) hTl hTI hqI
        rw [Qud, if_neg (by omega), Int.toNat_natCast] at hE'
        obtain ⟨w1, w2⟩ := QqB (t := T) hqI q1
        rw [Int.toNat_natCast] at w1 w2
        have hpm : (pre.map (fun j => bs (Qfo k x T (Zn Lc l j.1)))).length = pre.length := by simp
        obtain ⟨Y, hYe⟩ : ∃ Y, Qfo k x T (Zn Lc l y.1) = Y := ⟨_, rfl⟩
        rw [hYe] at hE' w1 w2
        obtain ⟨Z, hZ⟩ : ∃ Z, Zn Lc l y.1 = Z := ⟨_, rfl⟩
        rw [hZ] at hE' hqI q1 q2 q3 hYe ⊢
        rw [shA, il, bs] at hE'
        have tZ := Qv .i32 Z
        have tT2 := Qv .i32 T
        rw [il]
        simp (maxSteps := 4000000) (disch := omega) only [rr, aop, cV, cV1, AV.one, Qb, okW, Qd, app, Qa, Qc, Qe, Qf, Qg, simprocAttr, tT, kT]
        refine Zf.vc hS' ?_
        simp (maxSteps := 4000000) (disch := omega) only [rr, aop, cV, cV1, AV.one, Qb, okW, Qd, app, Qa, Qc, Qe, Qf, Qg, simprocAttr, tT, kT]
        refine Zf.vc hE' ?_
        simp (maxSteps := 4000000) (disch := omega) only [rr, aop, cV, cV1, AV.one, Qb, okW, Qd, app, Qa, Qc, Qe, Qf, Qg, simprocAttr, hpm]
        refine Le.drop 6 2 (by omega) rfl (by simp) ?_
        intro i z hz
        match i, hz with
        | 0, hz => cases hz; exact ⟨_, rfl, by simp [QL, QO, QK, Qr _ tl]⟩
        | 1, hz => cases hz; exact ⟨_, rfl, by simp [QL, QO, QK]⟩
        | 2, hz => cases hz; exact ⟨_, rfl, by simp [QL, QO, QK]⟩
        | 3, hz => cases hz; exact ⟨_, rfl, by simp [QL, Qr _ tT2]⟩
        | 4, hz => cases hz; exact ⟨_, rfl, by simp [QL, QO, QK]⟩
        | 5, hz =>
          cases hz
          have e : (pre ++ [y]).map (fun j => bs (Qfo k x T (Zn Lc l j.1))) = pre.map (fun j => bs (Qfo k x T (Zn Lc l j.1))) ++ [.list Y.length (u8 Y)] := by
            simp only [List.map_append, List.map_cons, List.map_nil, hZ, hYe]
            rfl
          rw [e]
          refine ⟨_, rfl, Qr _ ?_⟩
          rw [← e]
          have := Qc5 ((pre ++ [y]).map (fun j => Qfo k x T (Zn Lc l j.1)))
          rwa [List.map_map] at this
        | i + 6, hz => simp at hz
      · have hfl : (List.finRange cnt).length = cnt := by simp
        have hpi : (List.finRange cnt).map (fun j => bs (Qfo k x T (Zn Lc l j.1))) = (QF k x r l T).map bs := by
          unfold QF
          rw [hpo, List.map_map, List.map_map, Int.toNat_natCast]
          rfl
        dsimp only
        rw [hpi, hfl, e9]
        have hpl : (QF k x r l T).length = cnt := by unfold QF; rw [hpo]; simp
        have tp := Qc5 (QF k x r l T)
        generalize hPP : (QF k x r l T).map bs = PP at *
        simp (maxSteps := 4000000) (disch := omega) only [rr, aop, cV, cV1, AV.one, Qb, okW, Qd, app, Qa, Qc, Qe, Qf, Qg, simprocAttr, ZE, ht1, ht2]
        simp [Zk, QL, QO, QK, Qu, isD, bss, hpl, hPP, Qr _ tp]
  · rw [h] at hC'
    have e9 : XM c x r l p = .tup [bss [], .int .i64 8] := by rw [XM, if_pos (by omega)]
    simp (maxSteps := 4000000) (disch := omega) only [rr, aop, cV, cV1, AV.one, Qb, okW, Qd, app, Qa, Qc, Qe, Qf, Qg, simprocAttr, clA, il, XS, J9, Xa, Qc4, Qat, Qmy]
    refine Qh.vc hC' ?_
    simp (maxSteps := 4000000) (disch := omega) only [rr, aop, cV, cV1, AV.one, Qb, okW, Qd, app, Qa, Qc, Qe, Qf, Qg, simprocAttr, Xa, Qc4, XS, J9, e9, ZE, ht1, ht2]
    simp [Zk, QL, QO, QK, Qu, isD, bss]
end Go.Am

namespace Go.Am
open Go.RowKit

/-! ### The reference's Frames; the law ClipFrames -/

theorem Qvx {L : List (List UInt8)} {k : Nat} (h : k < L.length) : (L.map bs).drop k = bs (L.getD k []) :: (L.map bs).drop (k + 1) := by
  rw [List.drop_eq_getElem_cons (by simpa using h)]
  simp [List.getD_eq_getElem?_getD, List.getElem?_eq_getElem h]

end Go.Am

namespace Go.Am
open Go.RowKit

/-! ### clip.Of -/

def QmU : List AV → List Int
  | .int _ n :: r => n :: QmU r
  | _ => []
def avP : AV → List Int
  | .tup (.list _ cs :: _) => QmU cs
  | _ => []
def avE : AV → Int
  | .tup [_, .int _ e] => e
  | _ => 0
theorem QjQ (l : List Int) : QmU (ks .i32 l) = l := by
  induction l with
  | nil => rfl
  | cons x l ih => simp only [Qcr, QmU, ih]
def QsL (c x : Int) (t : List Int) (n : Int) (b : List UInt8) : List Int := avP (QqL c x t n b)
def Qun (c x : Int) (t : List Int) (n : Int) (b : List UInt8) : Int := avE (QqL c x t n b)
def okQ (x : Int) (l : List Int) : Prop := l.length ≤ 4000 ∧ ∀ v ∈ l, inR x v = true
theorem Qr6 (x : Int) (l : List Int) : ∃ (p : List Int) (e : Int), Qov x l = .tup [il p, .int .i64 e] ∧ okQ x p := by
  unfold Qov
  by_cases h : QG x l = 0
  · rw [if_neg (by omega)]
    refine ⟨l, 0, rfl, ?_⟩
    unfold QG at h
    split at h
    · cases h
    split at h
    · cases h
    split at h
    · rename_i h1 h2 h3
      exact ⟨by omega, List.all_eq_true.1 h3⟩
    · cases h
  · rw [if_pos h]
    exact ⟨[], _, rfl, by simp [okQ]⟩
theorem Qhn (x e : Int) : ∃ (p : List Int) (e' : Int), erA e = .tup [il p, .int .i64 e'] ∧ okQ x p := ⟨[], e, rfl, by simp [okQ]⟩
theorem Qvo (c x : Int) (t : List Int) (n : Int) (b : List UInt8) : ∃ (p : List Int) (e : Int), QqL c x t n b = .tup [il p, .int .i64 e] ∧ okQ x p := by
  unfold QqL
  split
  · exact Qhn _ _
  split
  · exact Qhn _ _
  unfold Quk
  split
  · exact Qhn _ _
  split
  · exact Qhn _ _
  · exact Qr6 _ _
theorem Qul (c x : Int) (t : List Int) (n : Int) (b : List UInt8) : QqL c x t n b = .tup [il (QsL c x t n b), .int .i64 (Qun c x t n b)] ∧ okQ x (QsL c x t n b) := by
  obtain ⟨p, e, h1, h2⟩ := Qvo c x t n b
  have hp : QsL c x t n b = p := by rw [QsL, h1]; simp only [avP, il, QjQ]
  have he : Qun c x t n b = e := by rw [Qun, h1]; rfl
  rw [hp, he]
  exact ⟨h1, h2⟩
def Z1 (E : Nat → Int) : Nat → Int
  | 0 => 0
  | n + 1 => if Z1 E n ≠ 0 then Z1 E n else E n
theorem Qfn {E : Nat → Int} {k : Nat} (h : Z1 E k ≠ 0) : ∀ m, Z1 E (k + m) = Z1 E k
  | 0 => rfl
  | m + 1 => by
    show (if Z1 E (k + m) ≠ 0 then Z1 E (k + m) else E (k + m)) = _
    rw [Qfn h m, if_pos h]
theorem Qqx {E : Nat → Int} {k m : Nat} (h : Z1 E k = 0) (h2 : E k ≠ 0) (hm : k < m) : Z1 E m = E k := by
  have h3 : Z1 E (k + 1) = E k := by simp [Z1, h]
  have h4 := Qfn (E := E) (k := k + 1) (by rw [h3]; exact h2) (m - (k + 1))
  rw [show k + 1 + (m - (k + 1)) = m by omega, h3] at h4
  exact h4

def X5 (r n : Int) : List Int := QN (Qy r).toNat n.toNat
def QnP (c x r n : Int) (t : List Int) (L : List (List UInt8)) (j : Nat) : Int := Qun c x t ((X5 r n).getD j 0) (L.getD j [])
def QnE (c x r n : Int) (t : List Int) (L : List (List UInt8)) (j : Nat) : List Int := QsL c x t ((X5 r n).getD j 0) (L.getD j [])
def QjV (c x r n : Int) (t : List Int) (L : List (List UInt8)) (k : Nat) : List Int := ((List.range k).map (QnE c x r n t L)).flatten
def Qft (c x r n : Int) (p : List UInt8) (L : List (List UInt8)) : AV :=
  if ZK c x r n ≠ 0 then .tup [clA 0 0 0 [], .int .i64 8] else if 64 < p.length then .tup [clA 0 0 0 [], .int .i64 2] else if (X5 r n).length ≠ L.length then .tup [clA 0 0 0 [], .int .i64 12] else
  if Z1 (QnP c x r n (ofK (Qbg 0 p) 8) L) L.length ≠ 0 then .tup [clA 0 0 0 [], .int .i64 (Z1 (QnP c x r n (ofK (Qbg 0 p) 8) L) L.length)] else .tup [clA c x r (QjV c x r n (ofK (Qbg 0 p) 8) L L.length), .int .i64 0]
theorem Qqe (c x r n : Int) (p : List UInt8) (L : List (List UInt8)) : isD (Qft c x r n p L) = true := by
  unfold Qft
  repeat' split
  all_goals simp [isD, Qu, QI, clA]
theorem QiI (c x r n : Int) (t : List Int) (L : List (List UInt8)) (k : Nat) : QjV c x r n t L (k + 1) = QjV c x r n t L k ++ QnE c x r n t L k := by
  simp [QjV, List.range_succ]
theorem Qo2 (c x r n : Int) (t : List Int) (L : List (List UInt8)) : ∀ k, (QjV c x r n t L k).length ≤ k * 4000
  | 0 => by simp [QjV]
  | k + 1 => by
    have h1 := Qo2 c x r n t L k
    have h2 : (QnE c x r n t L k).length ≤ 4000 := (Qul _ _ _ _ _).2.1
    rw [QiI, List.length_append]
    omega
theorem Qqh {c x r n : Int} (h : ZK c x r n = 0) : okA r n ∧ Zh c x = 0 ∧ 1 ≤ n ∧ n ≤ 4000 / c := by
  unfold ZK at h
  split at h
  · cases h
  rename_i a1
  split at h
  · cases h
  rename_i a2
  split at h
  · cases h
  rename_i a3
  split at h
  · cases h
  rename_i a4
  have a5 : Zh c x = 0 := by simpa using a1
  have a6 : Qlb r n = 0 := by simpa using a4
  refine ⟨?_, a5, by omega, by omega⟩
  unfold Qlb at a6
  split at a6
  · cases a6
  split at a6
  · cases a6
  split at a6
  · cases a6
  rename_i b1 b2 b3
  refine ⟨by omega, by omega, by omega, by omega, ?_⟩
  have hlong : 1 ≤ Qy r := Z8 r
  obtain ⟨L, hLe⟩ : ∃ L : Nat, Qy r = L := ⟨(Qy r).toNat, by omega⟩
  obtain ⟨m, rfl⟩ : ∃ m : Nat, n = m := ⟨n.toNat, by omega⟩
  rw [hLe, Int.toNat_natCast, Int.toNat_natCast, Z9]
  rw [hLe] at b3
  have h1 : (m : Int) + (L : Int) - 1 = ((m - 1 + L : Nat) : Int) := by omega
  rw [h1, ← Int.natCast_ediv, Nat.add_div_right _ (by omega)] at b3
  omega

theorem RepL.split {X : Cx} : ∀ {cs bs : List AV} {vs : List Value}, RepL X (cs ++ bs) vs → ∃ us ws, vs = us ++ ws ∧ RepL X cs us ∧ RepL X bs ws
  | [], bs, vs, h => ⟨[], vs, rfl, by simp [RepL], h⟩
  | a :: cs, bs, vs, h => by
    simp only [List.cons_append, RepL] at h
    obtain ⟨v, rest, rfl, h1, h2⟩ := h
    obtain ⟨us, ws, rfl, h3, h4⟩ := RepL.split h2
    exact ⟨v :: us, ws, rfl, by simp only [RepL]; exact ⟨v, us, rfl, h1, h3⟩, h4⟩
theorem Le.virtI {M : Nat} {fr : List (Nat × AV)} {ob : List Ob} (p ty sz : Nat) {x : Ob} {z : Bool} {pre rest : List AV} (h0 : sz ≠ 0) (hp : ob[p]? = some x) (hx : x.cs = pre ++ .emp z :: rest) :
    Le M ⟨fr, ob⟩ ⟨fr, ob.set p { x with cs := pre ++ .own ob.length 0 :: rest } ++ [⟨ty, sz, 0, [], 0⟩]⟩ := by
  intro Γ a w hX ⟨q1, q2, q3, be, g, hm, hfr0⟩
  obtain ⟨g1, m1⟩ := g.empty ty sz
  have hpl : p < ob.length := (List.getElem?_eq_some_iff.1 hp).1
  have hp1 : (ob ++ [(⟨ty, sz, 0, [], 0⟩ : Ob)])[p]? = some x := by rw [List.getElem?_append_left hpl]; exact hp
  have hl : be.length = ob.length := g.len
  obtain ⟨g2, m2, _⟩ := g1.retell hp1 (pre ++ .own ob.length 0 :: rest) (by rw [hx]; simp) (fun vs hv => by
    rw [hx] at hv
    obtain ⟨us, ws, rfl, h1, h2⟩ := RepL.split hv
    refine h1.append ?_
    simp only [RepL] at h2 ⊢
    obtain ⟨v, r, rfl, hv, h2⟩ := h2
    refine ⟨v, r, rfl, ?_, h2⟩
    simp only [Rep] at hv ⊢
    obtain ⟨a', e, _⟩ := hv
    refine ⟨⟨⟨ty, sz, 0, [], 0⟩, by simp, h0, Nat.le_refl _, fun _ => ?_⟩, by rw [e]; rfl⟩
    simp only [OwnV]
    rw [show ob.length = be.length from hl.symm]
    simp [e])
  have e1 : (ob ++ [(⟨ty, sz, 0, [], 0⟩ : Ob)]).set p { x with cs := pre ++ .own ob.length 0 :: rest } = ob.set p { x with cs := pre ++ .own ob.length 0 :: rest } ++ [⟨ty, sz, 0, [], 0⟩] := List.set_append_left _ _ hpl
  rw [← e1]
  exact ⟨q1, q2, q3, _, g2, hm.trans (m1.trans m2), fun i => Rep.move m2 _ _ (Rep.move m1 _ _ (hfr0 i))⟩
end Go.Am

namespace Go.Am
open Go.RowKit

/-! ### A call with a row of one's own among its arguments, in a region of open order -/

def ph3 : Ob := ⟨1, 1, 0, [], 0⟩
theorem Held.fill {B : Nat} {w : World} {ob : List Ob} {be : List (Option (Nat × Nat))} {C : Nat → Nat → Prop} {o : Nat} (g : Held B ⟨w, ob, be, C⟩) (ho : ob[o]? = some ph2) :
    Held B ⟨w, ob.set o ph3, be.set o none, C⟩ ∧ Moves ⟨w, ob, be, C⟩ ⟨w, ob.set o ph3, be.set o none, C⟩ := by
  have hol : o < ob.length := (List.getElem?_eq_some_iff.1 ho).1
  have hlen : be.length = ob.length := g.len
  have hav : ∀ b k, (Cx.mk w (ob.set o ph3) (be.set o none) C).av b k → (Cx.mk w ob be C).av b k := by
    rintro b k (h | ⟨o', x, c, h1, h2, h3⟩)
    · exact .inl h
    · simp only [List.getElem?_set] at h1 h2
      by_cases e : o = o'
      · subst e; simp [hlen, hol] at h2
      · simp [e] at h1 h2
        exact .inr ⟨o', x, c, h1, h2, h3⟩
  have m : Moves ⟨w, ob, be, C⟩ ⟨w, ob.set o ph3, be.set o none, C⟩ := by
    refine ⟨fun b k v hc ha => ⟨hc, fun h => ha (hav b k h)⟩, fun o' x hx => ?_, fun b hb hf => ⟨rfl, fun o' c h => ?_⟩⟩
    · by_cases e : o = o'
      · subst e
        have hx' : ob[o]? = some x := hx
        rw [ho] at hx'; cases hx'
        exact ⟨ph3, by simp [hol], Nat.le_refl _, fun h => absurd rfl h⟩
      · exact ⟨x, by simp only [List.getElem?_set, e, if_false]; exact hx, Nat.le_refl _, fun h => ⟨h, fun _ => by simp only [List.getElem?_set, e, if_false]⟩⟩
    · simp only [List.getElem?_set] at h
      by_cases e : o = o'
      · subst e; simp [hlen, hol] at h
      · simp [e] at h; exact hf o' c h
  refine ⟨⟨by simp [hlen], fun o' x e' hx he => ?_, fun o1 o2 b c c' q1 q2 => ?_, fun o1 b c q => ?_, g.bnd, g.size⟩, m⟩
  · simp only [List.getElem?_set] at hx he
    by_cases e : o = o'
    · subst e
      simp [hlen, hol] at hx he
      subst hx; subst he
      exact ⟨rfl, rfl⟩
    · simp [e] at hx he
      exact (g.ok o' x e' hx he).move m fun _ _ _ => rfl
  · simp only [List.getElem?_set] at q1 q2
    by_cases e : o = o1
    · subst e; simp [hlen, hol] at q1
    · by_cases e2 : o = o2
      · subst e2; simp [hlen, hol] at q2
      · simp [e] at q1; simp [e2] at q2
        exact g.inj o1 o2 b c c' q1 q2
  · simp only [List.getElem?_set] at q
    by_cases e : o = o1
    · subst e; simp [hlen, hol] at q
    · simp [e] at q; exact g.base o1 b c q
theorem ACall.fill {P : Prg} {f : FuncId} {avs : List AV} {r : AV} {ob : List Ob} {o : Nat} (ho : ob[o]? = some ph2) (h : ACall P f avs ob (fun r' ob' => r' = r ∧ ob' = ob)) : ACall P f avs ob (fun r' ob' => r' = r ∧ ob' = ob.set o ph3) := by
  obtain ⟨hE, h⟩ := h
  refine ⟨hE, fun B w be C vs g hG hr => (h B w be C vs g hG hr).mono ?_⟩
  rintro e w' ⟨v, r', ob', be', rfl, hb, hh, hm, hv, rfl, rfl⟩
  obtain ⟨g1, m1⟩ := hh.fill ho
  exact ⟨v, r', _, _, rfl, hb, g1, hm.trans m1, Rep.move m1 _ _ hv, rfl, rfl⟩
theorem Zf.own {P : Prg} {B : Nat} {Q : Exit → St → Prop} {f : FuncId} {avs : List AV} {r : AV} {ob : List Ob} (o : Nat) (he : Qbf P f) (h : ∀ ob', ob'[o]? = some ph2 → ACall P f avs ob' (fun r' ob'' => r' = r ∧ ob'' = ob')) (ho : ob[o]? = some ph2)
    {xs : List It} {fr : List (Nat × AV)} {dst : Option Nat} (hK : QaE P B xs Q ⟨Zy fr dst r, ob.set o ph3⟩) : Zf P B false f avs xs Q fr ob dst := by
  refine Zf.at (r := r) o ph3 he (fun ob' h' => ACall.fill h' (h ob' h')) ho (by decide) ?_
  simp only [app, if_pos (List.getElem?_eq_some_iff.1 ho).1]
  exact hK
theorem Le.padE {M : Nat} {fr : List (Nat × AV)} {ob : List Ob} : Le M ⟨fr, ob⟩ ⟨fr, ob ++ [ph2]⟩ := by
  intro Γ a w hX ⟨q1, q2, q3, be, g, hm, hfr0⟩
  obtain ⟨g1, m1⟩ := g.empty 1 0
  exact ⟨q1, q2, q3, _, g1, hm.trans m1, fun i => Rep.move m1 _ _ (hfr0 i)⟩

theorem Qpj {P : Prg} {f t0 t1 : Nat} (bd : Qj P f 8 [.cell 2 t1] (Z0 t0 t1)) (ht : ZB P t1 = some (some 2)) (c x r : Int) (i k : Nat) (ob : List Ob) : ACall P f [.agg [.int .i64 c, .int .i64 x, .int .i64 r, .own i k]] ob (fun r' ob' => r' = shA c x ∧ ob' = ob) := by
  refine ACall.withLow bd.ent fun hl => ACall.low (ACall.of_body bd (by simp) ?_)
  simp (maxSteps := 4000000) (disch := omega) only [rr, aop, cV, cV1, AV.one, Qb, okW, Qd, app, Qa, Qc, Qe, Qf, Qg, simprocAttr, Z0, List.append_assoc, List.cons_append, List.nil_append, QvS, Qqk, QvN, QtO, ZE, ht, shA, Zj]
  exact ⟨ob, [_, _], rfl, Nat.le_refl _, hl, by simp [XT, Qcf], rfl⟩

def Qwp (L : List (List UInt8)) : Prop := L.length ≤ 1000000 ∧ ∀ j, (L.getD j []).length ≤ 1000000
def Qib (P : Prg) (f : Nat) : Prop := ∀ (c x r : Int) (l : List Int) (p : List UInt8) (n : Int) (L : List (List UInt8)), Qwp L → VC P f [clA c x r l, .str p, .int .i64 n, bss L] (Qft c x r n p L)

set_option maxHeartbeats 2000000 in
theorem Qut {P : Prg} {f fH fT fA fS fD t0 t1 t2 t3 t4 ti : Nat} (bd : Qj P f 79 [.cell 8 t0, .tmp 9] (QdK fH fT fA fS fD t0 t1 t2)) (hH : Qic P fH) (hT : QmX P fT) (hA : Qm2 ti P fA) (bS : Qj P fS 8 [.cell 2 t3] (Z0 t4 t3)) (ht3 : ZB P t3 = some (some 2)) (hD : Qh8 P fD) (ht : ZB P t0 = some (some 4)) : Qib P f := by
  intro c x r l p n L ⟨hL1, hL2⟩
  refine VC.of_walk 2 (by simp [Qu, isD, QI, clA, Qqf]) (Qqe _ _ _ _ _ _) (ACall.of_body bd (by simp) ?_)
  have hH' := hH c x r n l
  rw [il] at hH'
  have tl := Qv .i32 l
  have z : ([.int .i32 0, .int .i32 0, .int .i32 0, .int .i32 0, .int .i32 0, .int .i32 0, .int .i32 0, .int .i32 0, .int .i32 0, .int .i32 0, .int .i32 0, .int .i32 0, .int .i32 0, .int .i32 0, .int .i32 0, .int .i32 0] : List AV) = ks .i32 ZH := rfl
  unfold QdK
  rw [z]
  have ol := X6 .i32 ZH
  have kl0 : (ks .i32 ZH).length = 16 := rfl
  have t0' : (ks .i32 ZH).take 16 = ks .i32 ZH := rfl
  have zl : ZH.length = 16 := rfl
  have zd : (ks .i32 ZH).drop 16 = [] := rfl
  rcases QgD c x r n with h | h
  · have e9 : Qft c x r n p L = .tup [clA 0 0 0 [], .int .i64 8] := by rw [Qft, if_pos (by omega)]
    rw [h] at hH'
    simp (maxSteps := 4000000) (disch := omega) only [rr, aop, cV, cV1, AV.one, Qb, okW, Qd, app, Qa, Qc, Qe, Qf, Qg, simprocAttr, clA, il, bss]
    refine Qh.vc hH' ?_
    simp (maxSteps := 4000000) (disch := omega) only [rr, aop, cV, cV1, AV.one, Qb, okW, Qd, app, Qa, Qc, Qe, Qf, Qg, simprocAttr, ZE, ht, e9]
    simp [Zk, QL, QO, QK, Qu, isD, clA, il, ks]
  rw [h] at hH'
  have hT' := hT p
  obtain ⟨hok, hec, hn1, hn4⟩ := Qqh h
  simp (maxSteps := 4000000) (disch := omega) only [rr, aop, cV, cV1, AV.one, Qb, okW, Qd, app, Qa, Qc, Qe, Qf, Qg, simprocAttr, clA, il, bss]
  refine Qh.vc hH' ?_
  simp (maxSteps := 4000000) (disch := omega) only [rr, aop, cV, cV1, AV.one, Qb, okW, Qd, app, Qa, Qc, Qe, Qf, Qg, simprocAttr]
  refine Qh.vc hT' ?_
  by_cases hp : 64 < p.length
  · have e9 : Qft c x r n p L = .tup [clA 0 0 0 [], .int .i64 2] := by rw [Qft, if_neg (by omega), if_pos hp]
    have e8 : Qcm p = .tup [.agg (ks .i32 ZH), .int .i64 2] := by rw [Qcm, if_pos hp]
    rw [e8]
    simp (maxSteps := 4000000) (disch := omega) only [rr, aop, cV, cV1, AV.one, Qb, okW, Qd, app, Qa, Qc, Qe, Qf, Qg, simprocAttr, ol, kl0, t0', zl, zd, List.append_nil, ZE, ht, e9]
    simp [Zk, QL, QO, QK, Qu, isD, clA, il, ks]
  have e8 : Qcm p = .tup [.agg (ks .i32 (ofK (Qbg 0 p) 8)), .int .i64 0] := by rw [Qcm, if_neg hp]
  have e9 : Qft c x r n p L = if (X5 r n).length ≠ L.length then .tup [clA 0 0 0 [], .int .i64 12] else
      if Z1 (QnP c x r n (ofK (Qbg 0 p) 8) L) L.length ≠ 0 then .tup [clA 0 0 0 [], .int .i64 (Z1 (QnP c x r n (ofK (Qbg 0 p) 8) L) L.length)] else .tup [clA c x r (QjV c x r n (ofK (Qbg 0 p) 8) L L.length), .int .i64 0] := by
    rw [Qft, if_neg (by omega), if_neg hp]
  obtain ⟨T, hTe⟩ : ∃ T, ofK (Qbg 0 p) 8 = T := ⟨_, rfl⟩
  have hTl : T.length = 16 := by rw [← hTe, Qcp]
  have hTI : I32 T := by rw [← hTe]; exact Qrw _ _
  have oT := X6 .i32 T
  have kT : (ks .i32 T).length = 16 := by rw [Qk, hTl]
  have tT : (ks .i32 T).take 16 = ks .i32 T := List.take_of_length_le (by omega)
  have tT2 := Qv .i32 T
  rw [hTe] at e8 e9
  have hA' := hA r n hok
  have hln : QN (Qy r).toNat n.toNat = X5 r n := rfl
  have hl1000 : (X5 r n).length ≤ 1000 := hok.2.2.2.2
  rw [hln] at hA'
  rw [e8]
  simp (maxSteps := 4000000) (disch := omega) only [rr, aop, cV, cV1, AV.one, Qb, okW, Qd, app, Qa, Qc, Qe, Qf, Qg, simprocAttr, ol, kl0, oT, kT, zl, zd, List.append_nil]
  refine Qh.vo hA' ?_
  simp (maxSteps := 4000000) (disch := omega) only [rr, aop, cV, cV1, AV.one, Qb, okW, Qd, app, Qa, Qc, Qe, Qf, Qg, simprocAttr, shr]
  by_cases hlen : (X5 r n).length = L.length
  case neg =>
    rw [if_pos hlen] at e9
    simp (maxSteps := 4000000) (disch := omega) only [rr, aop, cV, cV1, AV.one, Qb, okW, Qd, app, Qa, Qc, Qe, Qf, Qg, simprocAttr, hlen, ZE, ht, e9]
    simp [Zk, QL, QO, QK, Qu, isD, clA, il, ks]
  rw [if_neg (by simpa using hlen)] at e9
  have kn : (ks .i64 (X5 r n)).length = L.length := by rw [Qk, hlen]
  have hml : (L.map bs).length = L.length := by simp
  rw [hlen] at hl1000 ⊢
  simp (maxSteps := 4000000) (disch := omega) only [rr, aop, cV, cV1, AV.one, Qb, okW, Qd, app, Qa, Qc, Qe, Qf, Qg, simprocAttr]
  refine QW.by (ι := Nat) (fun k => ⟨[(51, .int .i64 k), (50, .int .i64 L.length), (49, .list L.length (L.map bs)), (13, .own 3 L.length), (11, .ref 2 1 0), (8, .ref 1 1 0), (4, .ref 0 1 0)],
      [⟨t0, 4, 1, [.int .i64 c, .int .i64 x, .int .i64 r, .own 4 (QjV c x r n T L k).length], 0⟩, ⟨t0, 4, 1, [.int .i64 0, .int .i64 0, .int .i64 0, .list 0 []], 0⟩, ⟨t1, 16, 1, ks .i32 T, 0⟩, ⟨ti, 1, L.length, ks .i64 (X5 r n), 0⟩, ⟨t2, 1, (QjV c x r n T L k).length, ks .i32 (QjV c x r n T L k), 0⟩, ph2]⟩)
    (fun k => k ≤ L.length ∧ Z1 (QnP c x r n T L) k = 0) (fun k => L.length - k) 0 ?_ ⟨by omega, rfl⟩ ?_
  · refine Le.trans (Le.virtI (p := 0) (ty := t2) (sz := 1) (pre := [.int .i64 c, .int .i64 x, .int .i64 r]) (by omega) rfl rfl) (Le.trans (Le.drop 5 2 (ob' := [⟨t0, 4, 1, [.int .i64 c, .int .i64 x, .int .i64 r, .own 4 0], 0⟩, ⟨t0, 4, 1, [.int .i64 0, .int .i64 0, .int .i64 0, .list 0 []], 0⟩, ⟨t1, 16, 1, ks .i32 T, 0⟩, ⟨ti, 1, L.length, ks .i64 (X5 r n), 0⟩, ⟨t2, 1, 0, [], 0⟩])
      (fr' := [(51, .int .i64 0), (50, .int .i64 L.length), (49, .list L.length (L.map bs)), (13, .own 3 L.length), (11, .ref 2 1 0), (8, .ref 1 1 0), (4, .ref 0 1 0)]) (by omega) rfl (by simp [Am.look, QL, QO, QK, Qr _ (Qc5 L)]) ?_) Le.padE)
    intro i z hz
    match i, hz with
    | 0, hz => cases hz; exact ⟨_, rfl, by simp [QL, QO, QK]⟩
    | 1, hz => cases hz; exact ⟨_, rfl, by simp [QL, QO, QK]⟩
    | 2, hz => cases hz; exact ⟨_, rfl, by simp [QL, Qr _ tT2]⟩
    | 3, hz => cases hz; exact ⟨_, rfl, by simp [QL, Qr _ (Qv .i64 _)]⟩
    | 4, hz => cases hz; exact ⟨_, rfl, by simp [QL, QO]⟩
    | i + 5, hz => simp at hz
  intro k ⟨hk, hfe⟩
  have hsl := Qo2 c x r n T L k
  have ksl := Qk .i32 (QjV c x r n T L k)
  by_cases hlt : k < L.length
  · have e1 := Qvx (L := L) (k := k) hlt
    have hk2 : (k : Int) < L.length := by omega
    have la : (ks .i64 (X5 r n)).drop k = .int .i64 ((X5 r n).getD k 0) :: (ks .i64 (X5 r n)).drop (k + 1) := by
      have h := Qb0 (K := .i64) (l := X5 r n) (i := k) (by omega)
      rw [← QaP] at h
      exact h
    have hD' := hD c x ((X5 r n).getD k 0) T (L.getD k []) hTl hTI (hL2 k)
    obtain ⟨d1, d2⟩ := Qul c x T ((X5 r n).getD k 0) (L.getD k [])
    rw [d1, shA] at hD'
    have hsu := QiI c x r n T L k
    have hpo : QnE c x r n T L k = QsL c x T ((X5 r n).getD k 0) (L.getD k []) := rfl
    have heo : QnP c x r n T L k = Qun c x T ((X5 r n).getD k 0) (L.getD k []) := rfl
    rw [hpo] at hsu
    rw [← heo] at hD'
    obtain ⟨d3, d4⟩ := d2
    generalize QsL c x T ((X5 r n).getD k 0) (L.getD k []) = pt at *
    generalize QjV c x r n T L k = su at *
    have kp := Qk .i32 pt
    simp (maxSteps := 4000000) (disch := omega) only [rr, aop, cV, cV1, AV.one, Qb, okW, Qd, app, Qa, Qc, Qe, Qf, Qg, simprocAttr, e1, hml, tT, kT]
    refine Zf.own 5 bS.ent (fun ob' h' => Qpj bS ht3 c x r 4 _ ob') rfl ?_
    simp (maxSteps := 4000000) (disch := omega) only [rr, aop, cV, cV1, AV.one, Qb, okW, Qd, app, Qa, Qc, Qe, Qf, Qg, simprocAttr, tT, kT, la, kn, shA, e1]
    refine Zf.vc hD' ?_
    by_cases he : QnP c x r n T L k = 0
    · rw [he]
      have hfe1 : Z1 (QnP c x r n T L) (k + 1) = 0 := by
        show (if Z1 (QnP c x r n T L) k ≠ 0 then _ else _) = _
        rw [hfe, if_neg (by simp), he]
      have kss : ks .i32 su ++ ks .i32 pt = ks .i32 (su ++ pt) := Qfe _ _ _
      simp (maxSteps := 4000000) (disch := omega) only [rr, aop, cV, cV1, AV.one, Qb, okW, Qd, app, Qa, Qc, Qe, Qf, Qg, simprocAttr, il, ksl, kp, kss]
      refine ⟨k + 1, ⟨by omega, hfe1⟩, by omega, ?_⟩
      rw [hsu]
      refine Le.trans (Le.drop 5 2 (ob' := [⟨t0, 4, 1, [.int .i64 c, .int .i64 x, .int .i64 r, .own 4 (su ++ pt).length], 0⟩, ⟨t0, 4, 1, [.int .i64 0, .int .i64 0, .int .i64 0, .list 0 []], 0⟩, ⟨t1, 16, 1, ks .i32 T, 0⟩, ⟨ti, 1, L.length, ks .i64 (X5 r n), 0⟩, ⟨t2, 1, (su ++ pt).length, ks .i32 (su ++ pt), 0⟩])
        (fr' := [(51, .int .i64 (k + 1 : Nat)), (50, .int .i64 L.length), (49, .list L.length (L.map bs)), (13, .own 3 L.length), (11, .ref 2 1 0), (8, .ref 1 1 0), (4, .ref 0 1 0)]) (by omega) rfl (by simp [Am.look, QL, QO, QK, Qr _ (Qc5 L)]) ?_) Le.padE
      intro i z hz
      match i, hz with
      | 0, hz => cases hz; exact ⟨_, rfl, by simp [QL, QO, QK]⟩
      | 1, hz => cases hz; exact ⟨_, rfl, by simp [QL, QO, QK]⟩
      | 2, hz => cases hz; exact ⟨_, rfl, by simp [QL, Qr _ tT2]⟩
      | 3, hz => cases hz; exact ⟨_, rfl, by simp [QL, Qr _ (Qv .i64 _)]⟩
      | 4, hz => cases hz; exact ⟨ks .i32 (su ++ pt), by simp, by simp [QL, Qr _ (Qv .i32 _)]⟩
      | i + 5, hz => simp at hz
    · have hfE : Z1 (QnP c x r n T L) L.length = QnP c x r n T L k := Qqx hfe he hlt
      rw [hfE, if_pos he] at e9
      simp (maxSteps := 4000000) (disch := omega) only [rr, aop, cV, cV1, AV.one, Qb, okW, Qd, app, Qa, Qc, Qe, Qf, Qg, simprocAttr, ZE, ht, e9]
      simp [Zk, QL, QO, QK, Qu, isD, clA, il, ks]
  · obtain rfl : k = L.length := by omega
    rw [if_neg (by simpa using hfe)] at e9
    have ts := Qv .i32 (QjV c x r n T L L.length)
    generalize QjV c x r n T L L.length = su at *
    simp (maxSteps := 4000000) (disch := omega) only [rr, aop, cV, cV1, AV.one, Qb, okW, Qd, app, Qa, Qc, Qe, Qf, Qg, simprocAttr, ZE, ht, e9]
    simp [Zk, QL, QO, QK, Qu, isD, clA, il, Qr _ ts]
end Go.Am

namespace Go.Am
open Go.RowKit

/-! ### law24: example, alive -/

def Qrq (P : Prg) (f : Nat) : Prop := VC P f [] (clA 1 8 2 [1, 2, 3])
theorem Qhi {P : Prg} {f t0 t1 : Nat} (bd : Qj P f 3 [.cell 0 t0] (Zv t0 t1)) (ht : ZB P t0 = some (some 4)) : Qrq P f := by
  refine VC.of_walk 1 rfl (by simp [clA, isD, Qu, QI]) (ACall.of_body bd (by simp) ?_)
  simp (maxSteps := 4000000) (disch := omega) only [rr, aop, cV, cV1, AV.one, Qb, okW, Qd, app, Qa, Qc, Qe, Qf, Qg, simprocAttr, Zv, ZE, ht, Zj]
  simp [Zk, QL, QO, QK, Qu, isD, clA, il, ks]

def QlW (P : Prg) (f : Nat) : Prop := VC P f [] (.bool true)
theorem QqR : Zo 1 8 2 [1, 2, 3] = 0 := by decide +kernel
theorem Qmh : Ql 1 2 [1, 2, 3] = [[1, 2], [3]] := by decide +kernel
theorem QrL : ofK (Qbg 0 []) 8 = ZH := by decide +kernel
def frE : List UInt8 := Qfo 1 8 ZH [1, 2]
def Qwr : List UInt8 := Qfo 1 8 ZH [3]
theorem QrT : JX 1 8 2 [1, 2, 3] = .tup [iss [[1, 2], [3]], .int .i64 0] := by rw [JX, if_pos QqR, Qmh]
theorem Qqp : XM 1 8 2 [1, 2, 3] [] = .tup [bss [frE, Qwr], .int .i64 0] := by
  rw [XM, if_neg (by rw [QqR]; simp), if_neg (by simp), QF, Qmh, QrL]
  rfl
theorem QuJ : I32 ZH := fun v hv => by simp [ZH] at hv; omega
theorem Qvk : Qud 1 8 ZH [1, 2] = .tup [bs frE, .int .i64 0] := by
  have h1 : Qca 1 8 [1, 2] = 0 := by decide +kernel
  rw [Qud, if_neg (by omega)]
  rfl
theorem Quc : 5 ≤ frE.length ∧ frE.length ≤ 40504 := by
  have h := QqB (c := 1) (x := 8) (t := ZH) (l := [1, 2]) (by intro v hv; simp at hv; omega) (by decide +kernel)
  exact ⟨h.2, h.1⟩

set_option maxHeartbeats 1000000 in
theorem QkQ {P : Prg} {f fX fS fF fE fP t0 t1 : Nat} (bd : Qj P f 60 [.tmp 0] (ZT fX fS fF fE fP t0 t1)) (hX : Qrq P fX) (hS : QfF P fS) (hF : QeJ P fF) (hE : QsZ P fE) (hP : QuF P fP) : QlW P f := by
  refine VC.of_acall rfl rfl (ACall.of_body bd (by simp) ?_)
  have i3 : I32 [1, 2, 3] := by intro v hv; simp at hv; omega
  have i2 : I32 [1, 2] := by intro v hv; simp at hv; omega
  have hX' : VC P fX [] (.agg [.int .i64 1, .int .i64 8, .int .i64 2, .list 3 [.int .i32 1, .int .i32 2, .int .i32 3]]) := hX
  have hS' := hS 1 8 2 [1, 2, 3] i3 (by simp)
  have hF' := hF 1 8 2 [1, 2, 3] [] i3 (by simp)
  have hE' := hE 1 8 ZH [1, 2] rfl QuJ i2
  have hP' := hP [[1, 2], [3]] [[1, 2], [3]] (Qmn (by simp) (by simp)) (Qmn (by simp) (by simp))
  rw [QrT] at hS'
  rw [Qqp] at hF'
  rw [Qvk] at hE'
  simp only [eq_self, decide_true] at hP'
  obtain ⟨l1, l2⟩ := Quc
  have hd := J1 frE
  have hs1 : QuL .eql frE frE = some (.bool true) := by simp [QuL]
  generalize frE = F at *
  generalize Qwr = G at *
  have hS2 : VC P fS [.agg [.int .i64 1, .int .i64 8, .int .i64 2, .list 3 [.int .i32 1, .int .i32 2, .int .i32 3]]] (.tup [.list 2 [.list 2 [.int .i32 1, .int .i32 2], .list 1 [.int .i32 3]], .int .i64 0]) := hS'
  have hF2 : VC P fF [.agg [.int .i64 1, .int .i64 8, .int .i64 2, .list 3 [.int .i32 1, .int .i32 2, .int .i32 3]], .str []] (.tup [.list 2 [.list F.length (u8 F), .list G.length (u8 G)], .int .i64 0]) := hF'
  have hE2 : VC P fE [.agg [.int .i64 1, .int .i64 8], .agg [.int .i32 0, .int .i32 0, .int .i32 0, .int .i32 0, .int .i32 0, .int .i32 0, .int .i32 0, .int .i32 0, .int .i32 0, .int .i32 0, .int .i32 0, .int .i32 0, .int .i32 0, .int .i32 0, .int .i32 0, .int .i32 0], .list 2 [.int .i32 1, .int .i32 2]] (.tup [.list F.length (u8 F), .int .i64 0]) := hE'
  have hP2 : VC P fP [.list 2 [.list 2 [.int .i32 1, .int .i32 2], .list 1 [.int .i32 3]], .list 2 [.list 2 [.int .i32 1, .int .i32 2], .list 1 [.int .i32 3]]] (.bool true) := hP'
  clear hX hS hF hE hP hS' hF' hE' hP'
  simp (maxSteps := 4000000) (disch := omega) only [rr, aop, cV, cV1, AV.one, Qb, okW, Qd, app, Qa, Qc, Qe, Qf, Qg, simprocAttr, ZT]
  refine Qh.vc hX' ?_
  simp (maxSteps := 4000000) (disch := omega) only [rr, aop, cV, cV1, AV.one, Qb, okW, Qd, app, Qa, Qc, Qe, Qf, Qg, simprocAttr]
  refine Qh.vc hS2 ?_
  simp (maxSteps := 4000000) (disch := omega) only [rr, aop, cV, cV1, AV.one, Qb, okW, Qd, app, Qa, Qc, Qe, Qf, Qg, simprocAttr]
  refine Qh.vc hX' ?_
  simp (maxSteps := 4000000) (disch := omega) only [rr, aop, cV, cV1, AV.one, Qb, okW, Qd, app, Qa, Qc, Qe, Qf, Qg, simprocAttr]
  refine Qh.vc hF2 ?_
  simp (maxSteps := 4000000) (disch := omega) only [rr, aop, cV, cV1, AV.one, Qb, okW, Qd, app, Qa, Qc, Qe, Qf, Qg, simprocAttr]
  refine Qh.still 1 [0] hE2 (by simp [Zk, QL, QO, QK]) ?_
  simp (maxSteps := 4000000) (disch := omega) only [rr, aop, cV, cV1, AV.one, Qb, okW, Qd, app, Qa, Qc, Qe, Qf, Qg, simprocAttr, Qnr, Qu, isD, Qz]
  refine Zf.vc hP2 ?_
  simp (maxSteps := 4000000) (disch := omega) only [rr, aop, cV, cV1, AV.one, Qb, okW, Qd, app, Qa, Qc, Qe, Qf, Qg, simprocAttr, hd, hs1]
end Go.Am

namespace Go.Am
open Go.RowKit

/-! ### Each part is a clip of its own -/

theorem Quq {r : Int} {n : Nat} (h1 : 1 ≤ r) (h2 : r ≤ 1048576) (h3 : 1 ≤ n) (h4 : n ≤ 4000) (h5 : (QN (Qy r).toNat n).length ≤ 1000) : Qlb r n = 0 := by
  unfold Qlb
  rw [if_neg (by omega), if_neg (by omega), if_neg]
  have hlong : 1 ≤ Qy r := Z8 r
  obtain ⟨L, hLe⟩ : ∃ L : Nat, Qy r = L := ⟨(Qy r).toNat, by omega⟩
  rw [hLe, Int.toNat_natCast, Z9] at h5
  have h6 : (n : Int) + (L : Int) - 1 = ((n - 1 + L : Nat) : Int) := by omega
  rw [hLe, h6, ← Int.natCast_ediv, Nat.add_div_right _ (by omega)]
  omega
theorem QpL {c x r : Int} {l : List Int} (h : Zo c x r l = 0) : ∀ j, j < (Ql c r l).length → Zo c x r ((Ql c r l).getD j []) = 0 ∧ Ql c r ((Ql c r l).getD j []) = [(Ql c r l).getD j []] ∧
    (((Ql c r l).getD j []).length : Int) = (QN (Qy r).toNat (l.length / c.toNat)).getD j 0 * c := by
  intro j hj
  have hall := QcX h
  have hmem : (Ql c r l).getD j [] ∈ Ql c r l := by rw [List.getD_eq_getElem?_getD, List.getElem?_eq_getElem hj]; exact List.getElem_mem _
  obtain ⟨q1, q2, q3⟩ := hall _ hmem
  obtain ⟨k, n, rfl, k1, k2, hlen, ⟨o1, o2, o3, o4, o5⟩, h4⟩ := Jp h
  have hpl := Qco k r l
  rw [Int.toNat_natCast] at hpl ⊢
  rw [hlen, Nat.mul_div_cancel _ (by omega)] at hpl ⊢
  rw [hpl] at hj
  have hL1 : 1 ≤ (Qy r).toNat := by have := Z8 r; omega
  obtain ⟨m, p1, p2, p3, p4, p5, p6, p7⟩ := Qdw (j := j) hlen (by omega) hL1 hj
  have hm1 := Qp0 (n := n) (by omega) hL1 hj
  rw [p1] at hm1
  have hg : (Ql k r l).getD j [] = Zn ((Qy r).toNat * k) l j := by
    unfold Ql
    rw [Int.toNat_natCast, hlen, Nat.mul_div_cancel _ (by omega), List.getD_eq_getElem?_getD, List.getElem?_map, List.getElem?_range hj]
    rfl
  rw [hg] at q1 q2 q3 ⊢
  have hpl2 : (Zn ((Qy r).toNat * k) l j).length = m * k := by rw [p6, List.length_take, List.length_drop, hlen]; omega
  have hmL : m * k ≤ (Qy r).toNat * k := by
    have : (Zn ((Qy r).toNat * k) l j).length ≤ (Qy r).toNat * k := by unfold Zn; rw [List.length_take]; omega
    omega
  have hmL2 : m ≤ (Qy r).toNat := Nat.le_of_mul_le_mul_right hmL (by omega)
  have hone : QN (Qy r).toNat m = [(m : Int)] := by
    have e : (m - 1) / (Qy r).toNat = 0 := Nat.div_eq_of_lt (by omega)
    unfold QN
    rw [e]
    simp
  refine ⟨?_, ?_, ?_⟩
  · rw [QaT, q1, hpl2]
    have e1 : ((m * k : Nat) : Int) / (k : Int) = (m : Int) := by rw [Int.natCast_mul, Int.mul_ediv_cancel _ (by omega)]
    rw [e1, Qfj]
    have a1 : Xi k x m = 0 := by
      have h' := QaT (c := (k : Int)) (x := x) (r := r) (l := l)
      rw [h] at h'
      have hh : ZK k x r (l.length / (k : Int)) = 0 := by
        by_cases h9 : Qca k x l = 0 ∧ ZK k x r (l.length / (k : Int)) = 0
        · exact h9.2
        · rw [if_neg h9] at h'; cases h'
      rw [hlen, Int.natCast_mul, Int.mul_ediv_cancel _ (by omega)] at hh
      obtain ⟨_, a2, a3, a4⟩ := Qqh hh
      unfold Xi
      rw [if_neg (by omega), if_neg (by omega), if_neg (by omega)]
    have a2 : Qlb r m = 0 := Quq o1 o2 (by omega) (by omega) (by rw [hone]; simp)
    rw [a1, a2]
    simp
  · unfold Ql
    rw [Int.toNat_natCast, hpl2, Nat.mul_div_cancel _ (by omega), hone]
    simp only [List.length_cons, List.length_nil, Nat.zero_add, List.range_one, List.map_cons, List.map_nil, List.cons.injEq, and_true]
    show ((Zn ((Qy r).toNat * k) l j).drop (0 * _)).take _ = _
    rw [Nat.zero_mul, List.drop_zero, List.take_of_length_le (by rw [hpl2]; exact hmL)]
  · rw [hpl2, p1, Int.natCast_mul]
theorem Qqn {c x r : Int} {l : List Int} {p : List UInt8} (h : Zo c x r l = 0) (hp : ¬ 64 < p.length) : XM c x r l p = .tup [bss (QF c x r l (ofK (Qbg 0 p) 8)), .int .i64 0] := by rw [XM, if_neg (by omega), if_neg hp]
theorem QbA (c x r : Int) (l T : List Int) : (QF c x r l T).length = (Ql c r l).length := by unfold QF; simp
end Go.Am

namespace Go.Am
open Go.RowKit

/-! ### The laws ClipAnew, ClipPasswords -/

theorem callE.vo {P : Prg} {B : Nat} {Q : Exit → St → Prop} {f : FuncId} {ds : List AV} {r : AV} {x : Ob} (h : VO P f ds r x) {ob : List Ob} (o : Nat) (ho : ob[o]? = some ph2) {xs : List It} {fr : List (Nat × AV)} {dst : Option Nat} (hK : QaE P B xs Q ⟨Zy fr dst (shr o r), ob.set o x⟩) : Zf P B true f ds xs Q fr ob dst := by
  have hl : o < ob.length := (List.getElem?_eq_some_iff.1 ho).1
  have ha : app ob (some (o, x)) = ob.set o x := by simp [app, hl]
  refine ⟨shr o r, some (o, x), ?_, by rw [ha]; exact hK⟩
  unfold Qbd
  rw [if_pos rfl]
  refine ⟨ACall.of_vo_at h ho ⟨rfl, by rw [ha]⟩, fun o' y e => ?_⟩
  cases e
  exact ⟨ph2, ho, by simp [ph2, ph]⟩

end Go.Am

namespace Go.Am
open Go.RowKit

/-! ### What was framed is read back; what is read was framed so -/

theorem QqK (c x : Int) (t : List Int) (n : Int) (b : List UInt8) : QsL c x t n b = Qum c x t n b ∧ Qun c x t n b = Qti c x t n b := by
  have h := (Qtl c x n t b).1
  have h2 := (Qul c x t n b).1
  rw [h2] at h
  unfold QsL Qun
  rw [(Qtl c x n t b).1]
  refine ⟨?_, rfl⟩
  simp only [avP, il, QjQ]
theorem Qfm {E : Nat → Int} : ∀ k, (∀ j, j < k → E j = 0) → Z1 E k = 0
  | 0, _ => rfl
  | k + 1, h => by
    show (if Z1 E k ≠ 0 then Z1 E k else E k) = 0
    rw [if_neg (by rw [Qfm k fun j hj => h j (by omega)]; simp), h k (by omega)]
theorem Qn5 {c x r : Int} {l : List Int} (h : Zo c x r l = 0) : Qca c x l = 0 ∧ ZK c x r (l.length / c) = 0 := by
  have h' := QaT (c := c) (x := x) (r := r) (l := l)
  rw [h] at h'
  by_cases h9 : Qca c x l = 0 ∧ ZK c x r (l.length / c) = 0
  · exact h9
  · rw [if_neg h9] at h'; cases h'
theorem Qmv {c x r : Int} {l : List Int} (h : Zo c x r l = 0) : X5 r (l.length / c) = QN (Qy r).toNat (l.length / c.toNat) := by
  obtain ⟨k, n, rfl, k1, k2, hlen, hok, h4⟩ := Jp h
  unfold X5
  rw [Int.toNat_natCast, hlen, ← Int.natCast_ediv, Int.toNat_natCast]
theorem Qu5 {α : Type} (d : α) : ∀ l : List α, (List.range l.length).map (fun j => l.getD j d) = l := fun l => by
  apply List.ext_getElem
  · simp
  · intro i h1 h2
    simp [List.getD_eq_getElem?_getD, List.getElem?_eq_getElem h2]
theorem Qmj {c x r : Int} {l : List Int} (h : Zo c x r l = 0) (hI : I32 l) (j : Nat) : I32 ((Ql c r l).getD j []) := fun v hv => by
  rcases Nat.lt_or_ge j (Ql c r l).length with hj | hj
  · refine hI v ?_
    rw [← JB h]
    refine List.mem_flatten.2 ⟨_, ?_, hv⟩
    rw [List.getD_eq_getElem?_getD, List.getElem?_eq_getElem hj]
    exact List.getElem_mem _
  · rw [List.getD_eq_getElem?_getD, List.getElem?_eq_none hj] at hv
    simp at hv
theorem Qja {c x r : Int} {l T : List Int} {j : Nat} (hj : j < (Ql c r l).length) : (QF c x r l T).getD j [] = Qfo c.toNat x T ((Ql c r l).getD j []) := by
  unfold QF
  rw [List.getD_eq_getElem?_getD, List.getD_eq_getElem?_getD, List.getElem?_map, List.getElem?_eq_getElem hj]
  rfl
theorem Qjb {c x r : Int} {l T : List Int} (h : Zo c x r l = 0) (hI : I32 l) {j : Nat} (hj : j < (Ql c r l).length) :
    Qti c x T ((X5 r (l.length / c)).getD j 0) ((QF c x r l T).getD j []) = 0 ∧ Qum c x T ((X5 r (l.length / c)).getD j 0) ((QF c x r l T).getD j []) = (Ql c r l).getD j [] := by
  obtain ⟨p1, p2, p3⟩ := QpL h j hj
  have hmem : (Ql c r l).getD j [] ∈ Ql c r l := by rw [List.getD_eq_getElem?_getD, List.getElem?_eq_getElem hj]; exact List.getElem_mem _
  obtain ⟨q1, q2, q3⟩ := QcX h _ hmem
  obtain ⟨k, n, hk, k1, k2, _⟩ := Jp h
  have e : (((Ql c r l).getD j []).length : Int) / c = (X5 r (l.length / c)).getD j 0 := by
    rw [p3, Qmv h, Int.mul_ediv_cancel _ (by omega)]
  have hd := Quj (t := T) (Qmj h hI j) q1
  rw [Qja hj, ← e]
  exact hd
theorem QtW {c x r : Int} {l : List Int} {p : List UInt8} (h : Zo c x r l = 0) (hI : I32 l) (hp : ¬ 64 < p.length) :
    Qft c x r (l.length / c) p (QF c x r l (ofK (Qbg 0 p) 8)) = .tup [clA c x r l, .int .i64 0] := by
  generalize hT : ofK (Qbg 0 p) 8 = T
  have hl1 := QbA c x r l T
  have hl2 : (X5 r (l.length / c)).length = (QF c x r l T).length := by rw [hl1, Qmv h, Qco]
  have he : ∀ j, j < (QF c x r l T).length → QnP c x r (l.length / c) T (QF c x r l T) j = 0 := fun j hj => by
    unfold QnP
    rw [(QqK _ _ _ _ _).2]
    exact (Qjb h hI (by omega)).1
  have hs : QjV c x r (l.length / c) T (QF c x r l T) (QF c x r l T).length = l := by
    unfold QjV
    have e1 : (List.range (QF c x r l T).length).map (QnE c x r (l.length / c) T (QF c x r l T)) = Ql c r l := by
      rw [hl1]
      refine Eq.trans (List.map_congr_left (fun j hj => ?_)) (Qu5 [] (Ql c r l))
      unfold QnE
      rw [(QqK _ _ _ _ _).1]
      exact (Qjb h hI (List.mem_range.1 hj)).2
    rw [e1]
    exact JB h
  unfold Qft
  rw [hT, if_neg (by rw [(Qn5 h).2]; simp), if_neg hp, if_neg (by omega), if_neg (by rw [Qfm _ he]; simp), hs]
theorem Qp7 {c x r : Int} {l : List Int} (h : Zo c x r l = 0) : Qff c x r (Ql c r l) = .tup [clA c x r l, .int .i64 0] := by
  unfold Qff
  rw [JB h, if_pos h, if_pos rfl]

end Go.Am

namespace Go.Am
open Go.RowKit

/-! ### The law ClipBack -/

theorem Qqo {c x r : Int} {l T : List Int} (h : Zo c x r l = 0) (hI : I32 l) : Qwp (QF c x r l T) := by
  have h1 := QbA c x r l T
  have h2 := Qdv h
  refine ⟨by omega, fun j => ?_⟩
  rcases Nat.lt_or_ge j (Ql c r l).length with hj | hj
  · rw [Qja hj]
    have hmem : (Ql c r l).getD j [] ∈ Ql c r l := by rw [List.getD_eq_getElem?_getD, List.getElem?_eq_getElem hj]; exact List.getElem_mem _
    have := (QqB (t := T) (Qmj h hI j) (QcX h _ hmem).1).1
    omega
  · rw [List.getD_eq_getElem?_getD, List.getElem?_eq_none (by omega)]; exact Nat.zero_le _
theorem QpK {c x r : Int} {l : List Int} (h : Zo c x r l = 0) (hI : I32 l) : ∀ q ∈ Ql c r l, I32 q := fun q hq v hv => hI v (by rw [← JB h]; exact List.mem_flatten.2 ⟨q, hq, hv⟩)

def QjT (P : Prg) (f : Nat) : Prop := ∀ (c x r : Int) (l : List Int) (p : List UInt8), I32 l → VC P f [clA c x r l, .str p] (.bool true)
set_option maxHeartbeats 2000000 in
theorem Qf1 {P : Prg} {f fA fC fF fS fW fO fJ fE t0 : Nat} (bd : Qj P f 99 [.tmp 4] (QD fA fC fF fS fW fO fJ fE t0)) (hA : QlW P fA) (hC : Xj P fC) (hF : QeJ P fF) (hS : QfF P fS) (hW : Qh1 P fW) (hO : Qib P fO) (hJ : Qh5 P fJ) (hE : QlR P fE) : QjT P f := by
  intro c x r l p hI
  refine VC.of_acall (by simp [Qu, isD, QI, clA]) rfl (ACall.of_body bd (by simp) ?_)
  have hA' : VC P fA [] (.bool true) := hA
  have tl := Qv .i32 l
  by_cases h6 : 600 < l.length
  · simp (maxSteps := 4000000) (disch := omega) only [rr, aop, cV, cV1, AV.one, Qb, okW, Qd, app, Qa, Qc, Qe, Qf, Qg, simprocAttr, QD, clA, il]
    refine Qh.vc hA' ?_
    simp (maxSteps := 4000000) (disch := omega) only [rr, aop, cV, cV1, AV.one, Qb, okW, Qd, app, Qa, Qc, Qe, Qf, Qg, simprocAttr]
  by_cases hp : 64 < p.length
  · simp (maxSteps := 4000000) (disch := omega) only [rr, aop, cV, cV1, AV.one, Qb, okW, Qd, app, Qa, Qc, Qe, Qf, Qg, simprocAttr, QD, clA, il]
    refine Qh.vc hA' ?_
    simp (maxSteps := 4000000) (disch := omega) only [rr, aop, cV, cV1, AV.one, Qb, okW, Qd, app, Qa, Qc, Qe, Qf, Qg, simprocAttr]
  have hC' := hC c x r l hI (by omega)
  have hF' := hF c x r l p hI (by omega)
  have hS' := hS c x r l hI (by omega)
  rw [il] at hC'
  rw [clA, il] at hF' hS'
  rcases QaU c x r l with h | h
  case inr =>
    rw [h] at hC'
    simp (maxSteps := 4000000) (disch := omega) only [rr, aop, cV, cV1, AV.one, Qb, okW, Qd, app, Qa, Qc, Qe, Qf, Qg, simprocAttr, QD, clA, il]
    refine Qh.vc hA' ?_
    simp (maxSteps := 4000000) (disch := omega) only [rr, aop, cV, cV1, AV.one, Qb, okW, Qd, app, Qa, Qc, Qe, Qf, Qg, simprocAttr]
    refine Qh.vc hC' ?_
    simp (maxSteps := 4000000) (disch := omega) only [rr, aop, cV, cV1, AV.one, Qb, okW, Qd, app, Qa, Qc, Qe, Qf, Qg, simprocAttr]
  rw [h] at hC'
  rw [Qqn h hp] at hF'
  rw [JX, if_pos h] at hS'
  have hple := Qdv h
  have hfl := QbA c x r l (ofK (Qbg 0 p) 8)
  have hO' := hO c x r [] p (l.length / c) (QF c x r l (ofK (Qbg 0 p) 8)) (Qqo h hI)
  rw [QtW h hI hp] at hO'
  have hJ' := hJ c x r [] (Ql c r l) (QpK h hI) (by omega) (by rw [JB h]; omega)
  rw [Qp7 h] at hJ'
  have hW' : VC P fW [clA c x r l, .emp true] (clA c x r []) := VC.emp _ (hW c x r l []) (by simp [Qu, isD, QI, clA])
  have hE' := hE c x r l (by omega)
  obtain ⟨k, n, rfl, k1, k2, hlen, hok, h4⟩ := Jp h
  have hk0 : ((n * k : Nat) : Int) / (k : Int) = n := by rw [Int.natCast_mul, Int.mul_ediv_cancel _ (by omega)]
  have hq0 : (k : Int) ≠ 0 := by omega
  have hw : IntKind.i64.wrap ((l.length : Int) / (k : Int)) = n := by
    rw [hlen, hk0]
    have : n ≤ 4000 := by have := hok.2.2.2.1; omega
    exact QaD (by omega) (by omega)
  rw [show (l.length : Int) / (k : Int) = n by rw [hlen, hk0]] at hO'
  generalize QF k x r l (ofK (Qbg 0 p) 8) = FF at *
  generalize Ql k r l = S at *
  have hmf : (FF.map bs).length = FF.length := by simp
  have hms : (S.map il).length = S.length := by simp
  rw [bss, hfl] at hF' hO'
  rw [iss] at hS' hJ'
  simp only [clA, il, List.length_nil, Qmx] at hO' hJ' hW' hE'
  simp (maxSteps := 4000000) (disch := omega) only [rr, aop, cV, cV1, AV.one, Qb, okW, Qd, app, Qa, Qc, Qe, Qf, Qg, simprocAttr, QD, clA, il]
  refine Qh.vc hA' ?_
  simp (maxSteps := 4000000) (disch := omega) only [rr, aop, cV, cV1, AV.one, Qb, okW, Qd, app, Qa, Qc, Qe, Qf, Qg, simprocAttr]
  refine Qh.vc hC' ?_
  simp (maxSteps := 4000000) (disch := omega) only [rr, aop, cV, cV1, AV.one, Qb, okW, Qd, app, Qa, Qc, Qe, Qf, Qg, simprocAttr]
  refine Qh.vc hF' ?_
  simp (maxSteps := 4000000) (disch := omega) only [rr, aop, cV, cV1, AV.one, Qb, okW, Qd, app, Qa, Qc, Qe, Qf, Qg, simprocAttr]
  refine Qh.vc hS' ?_
  simp (maxSteps := 4000000) (disch := omega) only [rr, aop, cV, cV1, AV.one, Qb, okW, Qd, app, Qa, Qc, Qe, Qf, Qg, simprocAttr, hmf, hms, hfl]
  refine Qh.vc hW' ?_
  simp (maxSteps := 4000000) (disch := omega) only [rr, aop, cV, cV1, AV.one, Qb, okW, Qd, app, Qa, Qc, Qe, Qf, Qg, simprocAttr, hmf, hms, hfl]
  rw [hw]
  refine Zf.vc hO' ?_
  simp (maxSteps := 4000000) (disch := omega) only [rr, aop, cV, cV1, AV.one, Qb, okW, Qd, app, Qa, Qc, Qe, Qf, Qg, simprocAttr]
  refine Qh.vc hJ' ?_
  simp (maxSteps := 4000000) (disch := omega) only [rr, aop, cV, cV1, AV.one, Qb, okW, Qd, app, Qa, Qc, Qe, Qf, Qg, simprocAttr]
  refine Qh.vc hE' ?_
  simp (maxSteps := 4000000) (disch := omega) only [rr, aop, cV, cV1, AV.one, Qb, okW, Qd, app, Qa, Qc, Qe, Qf, Qg, simprocAttr]
  refine Qh.vc hE' ?_
  simp (maxSteps := 4000000) (disch := omega) only [rr, aop, cV, cV1, AV.one, Qb, okW, Qd, app, Qa, Qc, Qe, Qf, Qg, simprocAttr]
end Go.Am

namespace Go.Am
open Go.RowKit

/-! ### A clip cs0 an argument -/

def Qwe : Sh := .tuple [.int .i64, .int .i64, .int .i64, .slice (.int .i32)]
theorem Qqw {cs0 : List AV} (h : Qbc Qwe cs0) : ∃ (c x r : Int) (l : List Int), cs0 = [.int .i64 c, .int .i64 x, .int .i64 r, il l] ∧ I32 l := by
  simp only [Qwe, Qbc, Qdm] at h
  obtain ⟨_, _, rfl, ⟨c, rfl, _⟩, _, _, rfl, ⟨x, rfl, _⟩, _, _, rfl, ⟨r, rfl, _⟩, _, _, rfl, ⟨L, rfl, _, h2⟩, rfl⟩ := h
  obtain ⟨l, _, e2, hi⟩ := Qjd (L := L) (fun c hc => by simp only [Qbc]; exact h2 c hc)
  exact ⟨c, x, r, l, by simp [e2], hi⟩
end Go.Am
